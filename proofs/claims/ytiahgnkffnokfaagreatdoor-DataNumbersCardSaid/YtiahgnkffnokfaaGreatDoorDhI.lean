/- Numerals: how many digits a number has. -/
import Derived.Test.YtiahgnkffnokfaaGreatDoorDhH
set_option linter.all false
set_option linter.unusedVariables false
set_option linter.unusedSimpArgs false
set_option maxRecDepth 100000
namespace Go.Proofs.YtiahgnkffnokfaaGreatDoor.Ab
open Go Go.AI
def tenL (L : Nat) : Nat := L * 78913 / 262144
theorem ten_all : (List.range 65).all (fun L => decide (tenL L < 20) && (decide (L = 0) || (decide (2 ^ L ≤ 10 ^ (tenL L + 1)) && (decide (tenL L = 0) || decide (10 ^ (tenL L - 1) ≤ 2 ^ (L - 1)))))) = true := by decide +kernel
theorem log192 (L : Nat) (hL : L ≤ 64) : Om 110 [kI (L : Int)] [] = some (kI (tenL L : Int), []) := by
 refine (orc_none rfl).trans ?_
 show lim tab.get S 110 0 0 [kI (L : Int)] h0 = _
 have w : IntKind.i64.wrap ((L : Int) * 78913) = ((L * 78913 : Nat) : Int) := by rw [wrap_i64 _ (by omega) (by omega)]; omega
 have sh : ∀ {β : Type} {h : Heap} {k : TVal → Heap → Option β}, vbin .shr 0 (kI ((L * 78913 : Nat) : Int)) (kN .u64 18) h k = k (kI (tenL L : Int)) h := fun {β h k} => vbin_of _ _ _ _ _ (by
  show some (Cell.p (.int .i64 ((((L * 78913 : Nat) : Int)).fdiv (2 ^ (min ((18 : Int).toNat) 64))))) = _
  rw [show (2 : Int) ^ (min ((18 : Int).toNat) 64) = 262144 by decide, Int.fdiv_eq_ediv_of_nonneg _ (by decide)]
  unfold tenL
  rw [Int.natCast_ediv]; rfl)
 rw [w110_0, b110_0]
 simp (config := { maxSteps := 10000000 }) +contextual only [exa, ne_eq, not_false_eq_true, Nat.reduceAdd, Nat.reduceMul, Nat.reduceLT, Nat.reduceLeDiff, Nat.reduceEqDiff, Int.reduceLT, Int.reduceLE, Int.reduceEq, Int.reduceToNat, w, sh, oneOf]
theorem b2_194 (b : Bool) : Om 112 [kB b] [] = some (kI (if b = true then 1 else 0), []) := by
 refine (orc_none rfl).trans ?_
 show lim tab.get S 112 0 0 [kB b] h0 = _
 rw [w112_0, b112_0]
 cases b
 ·simp (config := { maxSteps := 10000000 }) +contextual only [exa, ne_eq, not_false_eq_true, Nat.reduceAdd, Nat.reduceMul, Nat.reduceLT, Nat.reduceLeDiff, Nat.reduceEqDiff, Int.reduceLT, Int.reduceLE, Int.reduceEq, Int.reduceToNat, oneOf]
  rfl
 ·simp (config := { maxSteps := 10000000 }) +contextual only [exa, ne_eq, not_false_eq_true, Nat.reduceAdd, Nat.reduceMul, Nat.reduceLT, Nat.reduceLeDiff, Nat.reduceEqDiff, Int.reduceLT, Int.reduceLE, Int.reduceEq, Int.reduceToNat, oneOf]
  rfl
abbrev powR : List PVal := [.int .u64 1, .int .u64 10, .int .u64 100, .int .u64 1000, .int .u64 10000, .int .u64 100000, .int .u64 1000000, .int .u64 10000000, .int .u64 100000000, .int .u64 1000000000, .int .u64 10000000000, .int .u64 100000000000, .int .u64 1000000000000, .int .u64 10000000000000, .int .u64 100000000000000, .int .u64 1000000000000000, .int .u64 10000000000000000, .int .u64 100000000000000000, .int .u64 1000000000000000000, .int .u64 10000000000000000000]
theorem pow_at (t : Nat) (ht : t < 20) : powR[t]? = some (.int .u64 (10 ^ t)) := by
 match t, ht with
 | 0, _ => rfl
 | 1, _ => rfl
 | 2, _ => rfl
 | 3, _ => rfl
 | 4, _ => rfl
 | 5, _ => rfl
 | 6, _ => rfl
 | 7, _ => rfl
 | 8, _ => rfl
 | 9, _ => rfl
 | 10, _ => rfl
 | 11, _ => rfl
 | 12, _ => rfl
 | 13, _ => rfl
 | 14, _ => rfl
 | 15, _ => rfl
 | 16, _ => rfl
 | 17, _ => rfl
 | 18, _ => rfl
 | 19, _ => rfl
 | n + 20, h => exact absurd h (by omega)
theorem iaddrA_p {β : Type} {O : Oracle} {h : Heap} {d : Nat} {k : TVal → Heap → Option β} (n : Nat) (row : List PVal) (t : Nat) (ht : t < n) : vop O (.iaddrA n 1 (.k (.v (.c (.p (.pptr row 0))))) (.k (kI (t : Int)))) h d k = k (.v (.c (.p (.pptr row t)))) h := vplan _ _ (by
 show (if t < n then some (Plan.pure (.pv (.pptr row (0 + t * 1)))) else none) = _
 rw [if_pos ht, Nat.mul_one, Nat.zero_add])
theorem digits185 (u : Int) (h0 : 0 ≤ u) (h1 : u < 18446744073709551616) : ∃ N : Nat, N ≤ 20 ∧ u < 10 ^ N ∧ (u = 0 ∨ (1 ≤ N ∧ (10 : Int) ^ (N - 1) ≤ u)) ∧ Om 89 [kN .u64 u] [] = some (kI (N : Int), []) := by
 obtain ⟨L, hL, hl, e⟩ := len64 u h0 h1
 have c1 : ∀ {β : Type} {k : TVal → Heap → Option β} {h : Heap} {d : Nat}, vcall Om (.v (.c (.func 111 []))) [kN .u64 u] h d k = k (kI (L : Int)) h := vcall_pure 111 _ _ rfl e rfl
 have c2 : ∀ {β : Type} {k : TVal → Heap → Option β} {h : Heap} {d : Nat}, vcall Om (.v (.c (.func 110 []))) [kI (L : Int)] h d k = k (kI (tenL L : Int)) h := vcall_pure 110 _ _ rfl (log192 L hL) rfl
 have c3 : ∀ {β : Type} {k : TVal → Heap → Option β} {h : Heap} {d : Nat} (b : Bool), vcall Om (.v (.c (.func 112 []))) [kB b] h d k = k (kI (if b = true then 1 else 0)) h := fun b => vcall_pure 112 _ _ rfl (b2_194 b) rfl
 have hT := List.all_eq_true.1 ten_all L (List.mem_range.2 (by omega))
 simp only [Bool.and_eq_true, Bool.or_eq_true, decide_eq_true_eq] at hT
 obtain ⟨t20, hT⟩ := hT
 have hp := pow_at (tenL L) t20
 have hs : Om 89 [kN .u64 u] [] = lim tab.get S 89 0 0 [kN .u64 u] Go.AI.h0 := orc_none rfl
 by_cases hq : u < 10 ^ tenL L
 ·refine ⟨tenL L, by omega, hq, ?_, ?_⟩
  ·rcases hl with ⟨hl, _⟩ | ⟨l1, l2, l3⟩
   ·exact .inl hl
   ·refine .inr ?_
    rcases hT with hT | ⟨_, hT | hT⟩
    ·omega
    ·exfalso
     rw [hT] at hq
     have : (0 : Int) < 2 ^ (L - 1) := Int.pow_pos (by decide)
     have : (10 : Int) ^ 0 = 1 := rfl
     omega
    ·refine ⟨?_, ?_⟩
     ·rcases Nat.eq_zero_or_pos (tenL L) with hz | hz
      ·exfalso
       rw [hz] at hq
       have : (0 : Int) < 2 ^ (L - 1) := Int.pow_pos (by decide)
       have : (10 : Int) ^ 0 = 1 := rfl
       omega
      ·exact hz
     ·have : ((10 ^ (tenL L - 1) : Nat) : Int) ≤ ((2 ^ (L - 1) : Nat) : Int) := by exact_mod_cast hT
      rw [Int.natCast_pow, Int.natCast_pow] at this
      exact Int.le_trans this l2
  ·have w : IntKind.i64.wrap ((tenL L : Int) + 0) = (tenL L : Int) := by rw [wrap_i64 _ (by omega) (by omega)]; omega
   rw [hs, w89_0, b89_0]
   simp (config := { maxSteps := 10000000 }) +contextual only [exa, ne_eq, not_false_eq_true, Nat.reduceAdd, Nat.reduceMul, Nat.reduceLT, Nat.reduceLeDiff, Nat.reduceEqDiff, Int.reduceLT, Int.reduceLE, Int.reduceEq, Int.reduceToNat, c1, c2, iaddrA_p 20 _ _ t20, hp, hq, c3, Bool.false_eq_true, if_false, w, oneOf]
 ·refine ⟨tenL L + 1, by omega, ?_, ?_, ?_⟩
  ·rcases hl with ⟨hl, hz⟩ | ⟨l1, l2, l3⟩
   ·rw [hl]; exact Int.pow_pos (by decide)
   ·rcases hT with hT | ⟨hT, _⟩
    ·omega
    ·have : ((2 ^ L : Nat) : Int) ≤ ((10 ^ (tenL L + 1) : Nat) : Int) := by exact_mod_cast hT
     rw [Int.natCast_pow, Int.natCast_pow] at this
     exact Int.lt_of_lt_of_le l3 this
  ·exact .inr ⟨by omega, by rw [Nat.add_sub_cancel]; omega⟩
  ·have w : IntKind.i64.wrap ((tenL L : Int) + 1) = ((tenL L + 1 : Nat) : Int) := by rw [wrap_i64 _ (by omega) (by omega)]; omega
   rw [hs, w89_0, b89_0]
   simp (config := { maxSteps := 10000000 }) +contextual only [exa, ne_eq, not_false_eq_true, Nat.reduceAdd, Nat.reduceMul, Nat.reduceLT, Nat.reduceLeDiff, Nat.reduceEqDiff, Int.reduceLT, Int.reduceLE, Int.reduceEq, Int.reduceToNat, c1, c2, iaddrA_p 20 _ _ t20, hp, hq, c3, if_true, w, oneOf]
end Go.Proofs.YtiahgnkffnokfaaGreatDoor.Ab
