/- Numerals: formatBase10; digits as they stand. -/
import Derived.Test.YtiahgnkffnokfaaGreatDoorDhM
set_option linter.all false
set_option linter.unusedVariables false
set_option linter.unusedSimpArgs false
set_option maxRecDepth 100000
namespace Go.Proofs.YtiahgnkffnokfaaGreatDoor.Ab
open Go Go.AI
theorem fb186 (N : Nat) (u : Int) (cs : List Cell) (hp : plainC cs) (hl : cs.length = 24) (hN : N ≤ 23) (h0 : 0 ≤ u) (hu : u < 18446744073709551616) (h1 : u < 10 ^ N) :
  Om 90 [bufP N, kN .u64 u] [.cells cs 0] = some (.tup [], [.cells (wr cs N u N) 0]) := by
 refine (orc_none rfl).trans ?_
 show lim tab.get S 90 1 0 [bufP N, kN .u64 u] { ims := [.cells cs 0], owns := .nil } = _
 rw [w90_0, b90_0]
 simp (config := { maxSteps := 10000000 }) +contextual only [exa, ne_eq, not_false_eq_true, Nat.reduceAdd, Nat.reduceMul, Nat.reduceLT, Nat.reduceLeDiff, Nat.reduceEqDiff, Int.reduceLT, Int.reduceLE, Int.reduceEq, Int.reduceToNat, exU]
 exact fb1 N hN (N + 1) N (Nat.lt_succ_self _) u cs _ hp hl rfl (Nat.le_refl _) h0 hu h1
/-- What stands where digits were written. -/
theorem wr_get : ∀ (k : Nat) (cs : List Cell) (i : Nat) (u : Int) (j : Nat), k ≤ i → i < cs.length → (wr cs i u k)[j]? = if i < j + k ∧ j ≤ i then some (dig (u / 10 ^ (i - j))) else cs[j]?
 | 0, cs, i, u, j, _, _ => by
  rw [wr, if_neg (by omega)]
 | k + 1, cs, i, u, j, hk, hi => by
  rw [wr, wr_get k _ _ _ _ (by omega) (by rw [List.length_set]; omega), List.getElem?_set]
  by_cases h1 : j = i
  ·subst h1
   rw [if_neg (by omega), if_pos rfl, if_pos hi, if_pos ⟨by omega, Nat.le_refl _⟩, Nat.sub_self]
   simp
  ·by_cases h2 : i - 1 < j + k ∧ j ≤ i - 1
   ·rw [if_pos h2, if_pos ⟨by omega, by omega⟩, Int.ediv_ediv_of_nonneg (by decide)]
    rw [show i - j = (i - 1 - j) + 1 by omega, Int.pow_succ, Int.mul_comm]
   ·rw [if_neg h2, if_neg (fun e => h1 e.symm), if_neg (by omega)]
theorem digits_row : ∀ (N u : Nat), u < 10 ^ (N + 1) → (10 ^ N ≤ u ∨ N = 0) → Lib.decDigits u = (List.range (N + 1)).map fun j => UInt8.ofNat (48 + u / 10 ^ (N - j) % 10)
 | 0, u, h, _ => by
  have hu : u < 10 := by simpa using h
  rw [Lib.decDigits, dif_pos hu]
  simp [Nat.mod_eq_of_lt hu]
 | N + 1, u, h, h2 => by
  have h3 : 10 ^ (N + 1) ≤ u := by rcases h2 with h2 | h2; exact h2; omega
  have h4 : 10 ≤ u := by
   have : 10 ^ 1 ≤ 10 ^ (N + 1) := Nat.pow_le_pow_right (by decide) (by omega)
   omega
  rw [Lib.decDigits, dif_neg (by omega), digits_row N (u / 10) (by rw [Nat.pow_succ] at h; omega) (.inl (by rw [Nat.pow_succ] at h3; omega)), List.range_succ (n := N + 1), List.map_append]
  congr 1
  ·refine List.map_congr_left fun j hj => ?_
   have hj' := List.mem_range.1 hj
   rw [Nat.div_div_eq_div_mul, Nat.mul_comm, ← Nat.pow_succ, show (N - j).succ = N + 1 - j by omega]
  ·simp
end Go.Proofs.YtiahgnkffnokfaaGreatDoor.Ab
