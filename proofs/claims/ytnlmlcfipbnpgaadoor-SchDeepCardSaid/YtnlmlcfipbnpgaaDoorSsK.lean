/- Types as deep as may be: which texts there are. Plain. -/
import Derived.Test.YtnlmlcfipbnpgaaDoorSpE
set_option linter.all false
set_option linter.unusedVariables false
set_option linter.unusedSimpArgs false
set_option maxRecDepth 100000
namespace Go.Proofs.YtnlmlcfipbnpgaaDoor.Ab
open Go Go.AI
def preD : List (List UInt8) := [[76, 105, 115, 116, 60], [123, 97, 58, 32], [85, 110, 105, 111, 110, 32, 123, 97, 58, 32], [77, 97, 112, 60], [79, 112, 116, 60]]
def sufD : List (List UInt8) := [[62], [125], [125], [62], [62]]
def rD (way : Int) (k : Nat) : Int := withinM (IntKind.i64.wrap (way + (k : Int))) 5
def stepD (r : Nat) (s : List UInt8) : List UInt8 := preD.getD r [] ++ s ++ sufD.getD r []
def textD (way : Int) : Nat → List UInt8
 | 0 => [73, 110, 116]
 | k + 1 => stepD (rD way (k + 1)).toNat (textD way k)
/-- The rows of kinds that there are: five that go on, fourteen that go past the greatest number. -/
def seqD (j k : Nat) : Nat := if j < 5 then (j + k) % 5 else if k < j - 4 then (k + 3 + 4 * (j - 4)) % 5 else (k + 2 + 4 * (j - 4)) % 5
def textJ (j : Nat) : Nat → List UInt8
 | 0 => [73, 110, 116]
 | k + 1 => stepD (seqD j (k + 1)) (textJ j k)
theorem withinM5 (a : Int) : withinM a 5 = a % 5 := by
 unfold withinM
 rcases Int.le_total 0 a with h | h
 ·rw [Int.tmod_eq_emod_of_nonneg h, if_neg (by omega)]
 ·have e : a.tmod 5 = -((-a) % 5) := by
   have := Int.neg_tmod (-a) 5
   rw [Int.neg_neg] at this
   rw [this, Int.tmod_eq_emod_of_nonneg (by omega)]
  rw [e]
  split <;> omega
theorem wrap_over (x : Int) (h1 : 9223372036854775808 ≤ x) (h2 : x < 18446744073709551616) : IntKind.i64.wrap x = x - 18446744073709551616 := by
 rw [← wrap_i64 (x - 18446744073709551616) (by omega) (by omega)]
 unfold IntKind.wrap
 have e : (x - 18446744073709551616) % (2 ^ IntKind.i64.bits : Int) = x % (2 ^ IntKind.i64.bits : Int) := by
  show (x - 18446744073709551616) % (18446744073709551616 : Int) = x % 18446744073709551616
  omega
 rw [e]
theorem seq_of (way : Int) (h1 : -9223372036854775808 ≤ way) (h2 : way ≤ 9223372036854775807) : ∃ j, j < 19 ∧ ∀ k : Nat, 1 ≤ k → k ≤ 14 → (rD way k).toNat = seqD j k := by
 by_cases h : way + 14 < 9223372036854775808
 ·refine ⟨(way % 5).toNat, by omega, fun k k1 k2 => ?_⟩
  unfold rD seqD
  rw [wrap_i64 _ (by omega) (by omega), withinM5, if_pos (by omega)]
  omega
 ·refine ⟨(9223372036854775808 - way).toNat + 4, by omega, fun k k1 k2 => ?_⟩
  unfold rD seqD
  rw [if_neg (by omega), withinM5]
  by_cases hk : way + (k : Int) < 9223372036854775808
  ·rw [wrap_i64 _ (by omega) (by omega), if_pos (by omega)]
   omega
  ·rw [wrap_over _ (by omega) (by omega), if_neg (by omega)]
   omega
theorem text_of (way : Int) (h1 : -9223372036854775808 ≤ way) (h2 : way ≤ 9223372036854775807) : ∃ j, j < 19 ∧ ∀ k : Nat, k ≤ 14 → textD way k = textJ j k := by
 obtain ⟨j, hj, hs⟩ := seq_of way h1 h2
 refine ⟨j, hj, fun k => ?_⟩
 induction k with
 | zero => intro _; rfl
 | succ k ih =>
  intro hk
  rw [textD, textJ, ih (by omega), hs (k + 1) (by omega) (by omega)]
end Go.Proofs.YtnlmlcfipbnpgaaDoor.Ab
