/- Numerals: digits are written from the back. -/
import Derived.Test.YtiahgnkffnokfaaGreatDoorDhI
set_option linter.all false
set_option linter.unusedVariables false
set_option linter.unusedSimpArgs false
set_option maxRecDepth 100000
namespace Go.Proofs.YtiahgnkffnokfaaGreatDoor.Ab
open Go Go.AI
def dig (x : Int) : Cell := .p (.int .u8 (48 + x % 10))
def wr : List Cell → Nat → Int → Nat → List Cell
 | cs, _, _, 0 => cs
 | cs, i, u, k + 1 => wr (cs.set i (dig u)) (i - 1) (u / 10) k
theorem wr_len : ∀ (k : Nat) (cs : List Cell) (i : Nat) (u : Int), (wr cs i u k).length = cs.length
 | 0, _, _, _ => rfl
 | k + 1, cs, i, u => by rw [wr, wr_len k, List.length_set]
theorem put1_set (cs : List Cell) (i : Nat) (c : Cell) (hi : i < cs.length) : put1 cs i [c] = cs.set i c := by
 unfold put1 splice
 rw [List.set_eq_take_append_cons_drop, if_pos hi]
 simp
abbrev bufP (N : Nat) : TVal := .v (.c (.sref (.im 0) 1 N (some 23) 1))
def plainC (cs : List Cell) : Prop := ∃ xs, cs = pcells xs
theorem fin_none (cs : List Cell) (h : Heap) (hp : plainC cs) (hg : h.get (.im 0) = some (.cells cs 0)) : vfin true 1 [] h = some (.tup [], [.cells cs 0]) := by
 obtain ⟨xs, rfl⟩ := hp
 exact vfin_1 true [] _ rfl hg (plainO_cells xs 0)
theorem fb4 (N i : Nat) (u : Int) (cs : List Cell) (h : Heap) (hp : plainC cs) (hl : cs.length = 24) (hg : h.get (.im 0) = some (.cells cs 0)) (hi : i ≤ 1) (hiN : i ≤ N) (hN : N ≤ 23) (h0 : 0 ≤ u) (h1 : u < 10 ^ i) :
  lim tab.get S 90 1 4 [bufP N, kI (i : Int), kN .u32 u] h = some (.tup [], [.cells (wr cs i u i) 0]) := by
 rw [w90_4, b90_4]
 rcases Nat.le_one_iff_eq_zero_or_eq_one.1 hi with rfl | rfl
 ·have a : ¬ (0 : Int) < ((0 : Nat) : Int) := by omega
  simp (config := { maxSteps := 10000000 }) +contextual only [exa, ne_eq, not_false_eq_true, Nat.reduceAdd, Nat.reduceMul, Nat.reduceLT, Nat.reduceLeDiff, Nat.reduceEqDiff, Int.reduceLT, Int.reduceLE, Int.reduceEq, Int.reduceToNat, a]
  exact fin_none cs h hp hg
 ·have a : (0 : Int) < ((1 : Nat) : Int) := by omega
  have hu : u < 10 := by simpa using h1
  have w1 : IntKind.u32.wrap (48 + u) = 48 + u := wrap_in .u32 _ (by show (0 : Int) ≤ _; omega) (by show _ ≤ (4294967295 : Int); omega)
  have w2 : IntKind.u8.wrap (48 + u) = 48 + u := wrap_in .u8 _ (by show (0 : Int) ≤ _; omega) (by show _ ≤ (255 : Int); omega)
  have hN0 : 0 < N := by omega
  have P : put1 cs 1 [.p (.int .u8 (48 + u))] = wr cs 1 u 1 := by
   rw [put1_set _ _ _ (by omega)]
   show _ = cs.set 1 (dig u)
   unfold dig
   rw [Int.emod_eq_of_lt h0 hu]
  have hp2 : plainC (wr cs 1 u 1) := by
   obtain ⟨xs, rfl⟩ := hp
   refine ⟨xs.set 1 (.int .u8 (48 + u % 10)), ?_⟩
   show (pcells xs).set 1 (dig u) = _
   unfold pcells dig
   rw [List.map_set]
  simp (config := { maxSteps := 10000000 }) +contextual only [exa, ne_eq, not_false_eq_true, Nat.reduceAdd, Nat.reduceMul, Nat.reduceLT, Nat.reduceLeDiff, Nat.reduceEqDiff, Int.reduceLT, Int.reduceLE, Int.reduceEq, Int.reduceToNat, a, w1, w2, hN0, hg, hl, P]
  exact fin_none _ _ hp2 (get_put_im h 0 _ _ (by rw [hg]; rfl))
end Go.Proofs.YtiahgnkffnokfaaGreatDoor.Ab
