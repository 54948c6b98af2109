/- Numerals: how many digits. -/
import Derived.Test.YtiahgnkffnokfaaGreatDoorDgR
import Derived.Lib.ItoaNum
set_option linter.all false
set_option linter.unusedVariables false
set_option linter.unusedSimpArgs false
set_option maxRecDepth 100000
namespace Go.Proofs.YtiahgnkffnokfaaGreatDoor.Ab
open Go Go.AI
theorem vsh32 {β : Type} {h : Heap} {k : TVal → Heap → Option β} (a : Int) : vbin .shr 0 (kN .u64 a) (kN .u64 32) h k = k (kN .u64 (a / 4294967296)) h := vbin_of _ _ _ _ _ (by
 show some (Cell.p (.int .u64 (a.fdiv (2 ^ (min ((32 : Int).toNat) 64))))) = _
 rw [show (2 : Int) ^ (min ((32 : Int).toNat) 64) = 4294967296 by decide, Int.fdiv_eq_ediv_of_nonneg _ (by decide)])
theorem vsh16 {β : Type} {h : Heap} {k : TVal → Heap → Option β} (a : Int) : vbin .shr 0 (kN .u64 a) (kN .u64 16) h k = k (kN .u64 (a / 65536)) h := vbin_of _ _ _ _ _ (by
 show some (Cell.p (.int .u64 (a.fdiv (2 ^ (min ((16 : Int).toNat) 64))))) = _
 rw [show (2 : Int) ^ (min ((16 : Int).toNat) 64) = 65536 by decide, Int.fdiv_eq_ediv_of_nonneg _ (by decide)])
theorem vsh8 {β : Type} {h : Heap} {k : TVal → Heap → Option β} (a : Int) : vbin .shr 0 (kN .u64 a) (kN .u64 8) h k = k (kN .u64 (a / 256)) h := vbin_of _ _ _ _ _ (by
 show some (Cell.p (.int .u64 (a.fdiv (2 ^ (min ((8 : Int).toNat) 64))))) = _
 rw [show (2 : Int) ^ (min ((8 : Int).toNat) 64) = 256 by decide, Int.fdiv_eq_ediv_of_nonneg _ (by decide)])
def len8L : List UInt8 := z0a4518d3
theorem len8_all : (List.range 256).all (fun x => match len8L[x]? with | some b => (x == 0 && b == 0) || (decide (1 ≤ b.toNat) && decide (2 ^ (b.toNat - 1) ≤ x) && decide (x < 2 ^ b.toNat) && decide (b.toNat ≤ 8)) | none => false) = true := by decide +kernel
/-- How many bits. -/
def IsLen (u : Int) (L : Nat) : Prop := (u = 0 ∧ L = 0) ∨ (1 ≤ L ∧ (2 : Int) ^ (L - 1) ≤ u ∧ u < 2 ^ L)
theorem len8_at (x : Int) (h0 : 0 ≤ x) (h1 : x < 256) : ∃ b : UInt8, len8L[x.toNat]? = some b ∧ IsLen x b.toNat ∧ b.toNat ≤ 8 := by
 have h := List.all_eq_true.1 len8_all x.toNat (List.mem_range.2 (by omega))
 revert h
 cases hb : len8L[x.toNat]? with
 | none => intro h; cases h
 | some b =>
  intro h
  refine ⟨b, rfl, ?_⟩
  simp only [Bool.or_eq_true, Bool.and_eq_true, beq_iff_eq, decide_eq_true_eq] at h
  rcases h with ⟨h2, h3⟩ | ⟨⟨⟨h2, h3⟩, h4⟩, h5⟩
  ·subst h3
   exact ⟨.inl ⟨by omega, rfl⟩, by decide⟩
  ·refine ⟨.inr ⟨h2, ?_, ?_⟩, h5⟩
   ·have : ((2 ^ (b.toNat - 1) : Nat) : Int) ≤ ((x.toNat : Nat) : Int) := by exact_mod_cast h3
    rw [Int.toNat_of_nonneg h0] at this
    simpa using this
   ·have : ((x.toNat : Nat) : Int) < ((2 ^ b.toNat : Nat) : Int) := by exact_mod_cast h4
    rw [Int.toNat_of_nonneg h0] at this
    simpa using this
theorem len_3 (x : Int) (n : Nat) (h0 : 0 ≤ x) (h1 : x < 256) (hn : n ≤ 200) (h : Heap) : ∃ L : Nat, L ≤ 8 ∧ IsLen x L ∧ lim tab.get S 111 0 3 [kN .u64 x, kI (n : Int)] h = some (kI ((n + L : Nat) : Int), []) := by
 obtain ⟨b, hb, hl, h8⟩ := len8_at x h0 h1
 refine ⟨b.toNat, h8, hl, ?_⟩
 have w1 : IntKind.u8.wrap x = x := wrap_in .u8 _ (by show (0 : Int) ≤ _; omega) (by show _ ≤ (255 : Int); omega)
 have w2 : IntKind.i64.wrap ((b.toNat : Nat) : Int) = ((b.toNat : Nat) : Int) := wrap_i64 _ (by omega) (by omega)
 have w3 : IntKind.i64.wrap ((n : Int) + ((b.toNat : Nat) : Int)) = ((n + b.toNat : Nat) : Int) := by rw [wrap_i64 _ (by omega) (by omega)]; omega
 have hx : ∀ {β : Type} {h : Heap} {k : TVal → Heap → Option β}, vindex (kS z0a4518d3) (kN .u8 x) h k = k (kU b) h := fun {β h k} => by
  obtain ⟨m, hm⟩ : ∃ m : Nat, x = m := ⟨x.toNat, by omega⟩
  subst hm
  show bnd (nthF len8L m) _ = _
  rw [nthF_eq]
  rw [Int.toNat_natCast] at hb
  rw [hb]; rfl
 rw [w111_3, b111_3]
 simp (config := { maxSteps := 10000000 }) +contextual only [exa, ne_eq, not_false_eq_true, Nat.reduceAdd, Nat.reduceMul, Nat.reduceLT, Nat.reduceLeDiff, Nat.reduceEqDiff, Int.reduceLT, Int.reduceLE, Int.reduceEq, Int.reduceToNat, w1, hx, w2, w3, oneOf]
theorem len_sh8 {x : Int} {L : Nat} (hx : 256 ≤ x) (h : IsLen (x / 256) L) : IsLen x (L + 8) := by
 rcases h with ⟨h1, _⟩ | ⟨h1, h2, h3⟩
 ·omega
 ·refine .inr ⟨by omega, ?_, ?_⟩
  ·rw [show L + 8 - 1 = (L - 1) + 8 by omega, Int.pow_add, show (2 : Int) ^ 8 = 256 by decide]
   generalize (2 : Int) ^ (L - 1) = y at h2
   omega
  ·rw [Int.pow_add, show (2 : Int) ^ 8 = 256 by decide]
   generalize (2 : Int) ^ L = y at h3
   omega
theorem len_sh16 {x : Int} {L : Nat} (hx : 65536 ≤ x) (h : IsLen (x / 65536) L) : IsLen x (L + 16) := by
 rcases h with ⟨h1, _⟩ | ⟨h1, h2, h3⟩
 ·omega
 ·refine .inr ⟨by omega, ?_, ?_⟩
  ·rw [show L + 16 - 1 = (L - 1) + 16 by omega, Int.pow_add, show (2 : Int) ^ 16 = 65536 by decide]
   generalize (2 : Int) ^ (L - 1) = y at h2
   omega
  ·rw [Int.pow_add, show (2 : Int) ^ 16 = 65536 by decide]
   generalize (2 : Int) ^ L = y at h3
   omega
theorem len_sh32 {x : Int} {L : Nat} (hx : 4294967296 ≤ x) (h : IsLen (x / 4294967296) L) : IsLen x (L + 32) := by
 rcases h with ⟨h1, _⟩ | ⟨h1, h2, h3⟩
 ·omega
 ·refine .inr ⟨by omega, ?_, ?_⟩
  ·rw [show L + 32 - 1 = (L - 1) + 32 by omega, Int.pow_add, show (2 : Int) ^ 32 = 4294967296 by decide]
   generalize (2 : Int) ^ (L - 1) = y at h2
   omega
  ·rw [Int.pow_add, show (2 : Int) ^ 32 = 4294967296 by decide]
   generalize (2 : Int) ^ L = y at h3
   omega
theorem len_2 (x : Int) (n : Nat) (h0 : 0 ≤ x) (h1 : x < 65536) (hn : n ≤ 150) (h : Heap) : ∃ L : Nat, L ≤ 16 ∧ IsLen x L ∧ lim tab.get S 111 0 2 [kN .u64 x, kI (n : Int)] h = some (kI ((n + L : Nat) : Int), []) := by
 rw [w111_2, b111_2]
 by_cases hx : 256 ≤ x
 ·have hx' : ¬ x < 256 := by omega
  have w : IntKind.i64.wrap ((n : Int) + 8) = ((n + 8 : Nat) : Int) := by rw [wrap_i64 _ (by omega) (by omega)]; omega
  obtain ⟨L, h8, hl, e⟩ := len_3 (x / 256) (n + 8) (by omega) (by omega) (by omega) h
  refine ⟨L + 8, by omega, len_sh8 hx hl, ?_⟩
  simp (config := { maxSteps := 10000000 }) +contextual only [exa, ne_eq, not_false_eq_true, Nat.reduceAdd, Nat.reduceMul, Nat.reduceLT, Nat.reduceLeDiff, Nat.reduceEqDiff, Int.reduceLT, Int.reduceLE, Int.reduceEq, Int.reduceToNat, hx', vsh8, w]
  refine e.trans ?_
  rw [show n + 8 + L = n + (L + 8) by omega]
 ·have hx' : x < 256 := by omega
  obtain ⟨L, h8, hl, e⟩ := len_3 x n h0 hx' (by omega) h
  refine ⟨L, by omega, hl, ?_⟩
  simp (config := { maxSteps := 10000000 }) +contextual only [exa, ne_eq, not_false_eq_true, Nat.reduceAdd, Nat.reduceMul, Nat.reduceLT, Nat.reduceLeDiff, Nat.reduceEqDiff, Int.reduceLT, Int.reduceLE, Int.reduceEq, Int.reduceToNat, hx']
  exact e
theorem len_1 (x : Int) (n : Nat) (h0 : 0 ≤ x) (h1 : x < 4294967296) (hn : n ≤ 100) (h : Heap) : ∃ L : Nat, L ≤ 32 ∧ IsLen x L ∧ lim tab.get S 111 0 1 [kN .u64 x, kI (n : Int)] h = some (kI ((n + L : Nat) : Int), []) := by
 rw [w111_1, b111_1]
 by_cases hx : 65536 ≤ x
 ·have hx' : ¬ x < 65536 := by omega
  have w : IntKind.i64.wrap ((n : Int) + 16) = ((n + 16 : Nat) : Int) := by rw [wrap_i64 _ (by omega) (by omega)]; omega
  obtain ⟨L, h8, hl, e⟩ := len_2 (x / 65536) (n + 16) (by omega) (by omega) (by omega) h
  refine ⟨L + 16, by omega, len_sh16 hx hl, ?_⟩
  simp (config := { maxSteps := 10000000 }) +contextual only [exa, ne_eq, not_false_eq_true, Nat.reduceAdd, Nat.reduceMul, Nat.reduceLT, Nat.reduceLeDiff, Nat.reduceEqDiff, Int.reduceLT, Int.reduceLE, Int.reduceEq, Int.reduceToNat, hx', vsh16, w]
  refine e.trans ?_
  rw [show n + 16 + L = n + (L + 16) by omega]
 ·have hx' : x < 65536 := by omega
  obtain ⟨L, h8, hl, e⟩ := len_2 x n h0 hx' (by omega) h
  refine ⟨L, by omega, hl, ?_⟩
  simp (config := { maxSteps := 10000000 }) +contextual only [exa, ne_eq, not_false_eq_true, Nat.reduceAdd, Nat.reduceMul, Nat.reduceLT, Nat.reduceLeDiff, Nat.reduceEqDiff, Int.reduceLT, Int.reduceLE, Int.reduceEq, Int.reduceToNat, hx']
  exact e
theorem len64 (x : Int) (h0 : 0 ≤ x) (h1 : x < 18446744073709551616) : ∃ L : Nat, L ≤ 64 ∧ IsLen x L ∧ Om 111 [kN .u64 x] [] = some (kI (L : Int), []) := by
 have hs : Om 111 [kN .u64 x] [] = lim tab.get S 111 0 0 [kN .u64 x] Go.AI.h0 := orc_none rfl
 rw [hs, w111_0, b111_0]
 by_cases hx : 4294967296 ≤ x
 ·have hx' : ¬ x < 4294967296 := by omega
  obtain ⟨L, h8, hl, e⟩ := len_1 (x / 4294967296) 32 (by omega) (by omega) (by decide) Go.AI.h0
  refine ⟨L + 32, by omega, len_sh32 hx hl, ?_⟩
  simp (config := { maxSteps := 10000000 }) +contextual only [exa, ne_eq, not_false_eq_true, Nat.reduceAdd, Nat.reduceMul, Nat.reduceLT, Nat.reduceLeDiff, Nat.reduceEqDiff, Int.reduceLT, Int.reduceLE, Int.reduceEq, Int.reduceToNat, hx', vsh32]
  refine e.trans ?_
  rw [Nat.add_comm]
 ·have hx' : x < 4294967296 := by omega
  obtain ⟨L, h8, hl, e⟩ := len_1 x 0 h0 hx' (by decide) Go.AI.h0
  refine ⟨L, by omega, hl, ?_⟩
  simp (config := { maxSteps := 10000000 }) +contextual only [exa, ne_eq, not_false_eq_true, Nat.reduceAdd, Nat.reduceMul, Nat.reduceLT, Nat.reduceLeDiff, Nat.reduceEqDiff, Int.reduceLT, Int.reduceLE, Int.reduceEq, Int.reduceToNat, hx']
  refine e.trans ?_
  rw [Nat.zero_add]
end Go.Proofs.YtiahgnkffnokfaaGreatDoor.Ab
