/- Numerals: two digits at once. -/
import Derived.Test.YtiahgnkffnokfaaGreatDoorDhJ
set_option linter.all false
set_option linter.unusedVariables false
set_option linter.unusedSimpArgs false
set_option maxRecDepth 100000
namespace Go.Proofs.YtiahgnkffnokfaaGreatDoor.Ab
open Go Go.AI
def pairL : List UInt8 := z53fdd7c2
theorem pair_all : (List.range 100).all (fun q => (pairL[q * 2]? == some (UInt8.ofNat (48 + q / 10))) && (pairL[q * 2 + 1]? == some (UInt8.ofNat (48 + q % 10)))) = true := by decide +kernel
theorem pair_lo {β : Type} {h : Heap} {k : TVal → Heap → Option β} (K : IntKind) (x : Int) (h0 : 0 ≤ x) (h1 : x < 100) : vindex (kS z53fdd7c2) (kN K (x * 2 + 1)) h k = k (.v (.c (dig x))) h := by
 obtain ⟨q, rfl⟩ : ∃ q : Nat, x = q := ⟨x.toNat, by omega⟩
 have h := List.all_eq_true.1 pair_all q (List.mem_range.2 (by omega))
 simp only [Bool.and_eq_true, beq_iff_eq] at h
 show bnd (nthF pairL (q * 2 + 1)) _ = _
 rw [nthF_eq, h.2]
 show k (kU (UInt8.ofNat (48 + q % 10))) _ = _
 unfold dig
 show k (.v (.c (.p (.int .u8 ((UInt8.ofNat (48 + q % 10)).toNat : Int))))) _ = _
 rw [UInt8.toNat_ofNat', Nat.mod_eq_of_lt (by omega)]
 congr 5
theorem pair_hi {β : Type} {h : Heap} {k : TVal → Heap → Option β} (K : IntKind) (x : Int) (h0 : 0 ≤ x) (h1 : x < 100) : vindex (kS z53fdd7c2) (kN K (x * 2)) h k = k (.v (.c (dig (x / 10)))) h := by
 obtain ⟨q, rfl⟩ : ∃ q : Nat, x = q := ⟨x.toNat, by omega⟩
 have h := List.all_eq_true.1 pair_all q (List.mem_range.2 (by omega))
 simp only [Bool.and_eq_true, beq_iff_eq] at h
 show bnd (nthF pairL (q * 2)) _ = _
 rw [nthF_eq, h.1]
 show k (.v (.c (.p (.int .u8 ((UInt8.ofNat (48 + q / 10)).toNat : Int))))) _ = _
 rw [UInt8.toNat_ofNat', Nat.mod_eq_of_lt (by omega)]
 unfold dig
 have e : ((48 + q / 10 : Nat) : Int) = 48 + (q : Int) / 10 % 10 := by omega
 rw [e]
theorem plain_set {cs : List Cell} (hp : plainC cs) (i : Nat) (x : Int) : plainC (cs.set i (dig x)) := by
 obtain ⟨xs, rfl⟩ := hp
 exact ⟨xs.set i (.int .u8 (48 + x % 10)), by unfold pcells dig; rw [List.map_set]⟩
theorem plain_wr : ∀ (k : Nat) (cs : List Cell) (i : Nat) (u : Int), plainC cs → plainC (wr cs i u k)
 | 0, _, _, _, h => h
 | k + 1, cs, i, u, h => plain_wr k _ _ _ (plain_set h i u)
theorem dig_mod (u : Int) (m : Int) (hm : (10 : Int) ∣ m) : dig (u % m) = dig u := by
 unfold dig
 rw [Int.emod_emod_of_dvd _ hm]
theorem fb3 (N i : Nat) (u : Int) (cs : List Cell) (h : Heap) (hp : plainC cs) (hl : cs.length = 24) (hg : h.get (.im 0) = some (.cells cs 0)) (hi : i ≤ 3) (hiN : i ≤ N) (hN : N ≤ 23) (h0 : 0 ≤ u) (h1 : u < 10 ^ i) :
  lim tab.get S 90 1 3 [bufP N, kI (i : Int), kN .u32 u] h = some (.tup [], [.cells (wr cs i u i) 0]) := by
 rw [w90_3, b90_3]
 have hu : u < 1000 := by
  have hi' : i = 0 ∨ i = 1 ∨ i = 2 ∨ i = 3 := by omega
  rcases hi' with rfl | rfl | rfl | rfl <;> simp at h1 <;> omega
 by_cases h2 : 2 ≤ i
 ·have a : ¬ (i : Int) < 2 := by omega
  have e1 : u.tmod 100 = u % 100 := Int.tmod_eq_emod_of_nonneg h0
  have e2 : u.tdiv 100 = u / 100 := Int.tdiv_eq_ediv_of_nonneg h0
  have w1 : IntKind.u32.wrap (u % 100 * 2) = u % 100 * 2 := wrap_in .u32 _ (by show (0 : Int) ≤ _; omega) (by show _ ≤ (4294967295 : Int); omega)
  have w2 : IntKind.u32.wrap (u % 100 * 2 + 1) = u % 100 * 2 + 1 := wrap_in .u32 _ (by show (0 : Int) ≤ _; omega) (by show _ ≤ (4294967295 : Int); omega)
  have w3 : IntKind.u32.wrap (u / 100) = u / 100 := wrap_in .u32 _ (by show (0 : Int) ≤ _; omega) (by show _ ≤ (4294967295 : Int); omega)
  have v1 : IntKind.i64.wrap ((i : Int) - 1) = ((i - 1 : Nat) : Int) := by rw [wrap_i64 _ (by omega) (by omega)]; omega
  have v2 : IntKind.i64.wrap ((i : Int) - 2) = ((i - 2 : Nat) : Int) := by rw [wrap_i64 _ (by omega) (by omega)]; omega
  have l1 : i - 1 < N := by omega
  have l2 : i - 2 < N := by omega
  have n1 : ((i - 1 : Nat) : Int).toNat = i - 1 := Int.toNat_natCast _
  have n2 : ((i - 2 : Nat) : Int).toNat = i - 2 := Int.toNat_natCast _
  have g1 : (0 : Int) ≤ ((i - 1 : Nat) : Int) := by omega
  have g2 : (0 : Int) ≤ ((i - 2 : Nat) : Int) := by omega
  have P1 : put1 cs (1 + (i - 1)) [dig (u % 100)] = cs.set i (dig u) := by
   rw [put1_set _ _ _ (by omega), dig_mod u 100 (by decide), show 1 + (i - 1) = i by omega]
  have P2 : put1 (cs.set i (dig u)) (1 + (i - 2)) [dig (u % 100 / 10)] = (cs.set i (dig u)).set (i - 1) (dig (u / 10)) := by
   rw [put1_set _ _ _ (by rw [List.length_set]; omega), show 1 + (i - 2) = i - 1 by omega]
   congr 1
   unfold dig
   have : u % 100 / 10 % 10 = u / 10 % 10 := by omega
   rw [this]
  have b1 : 1 + (i - 1) + 1 ≤ 24 := by omega
  have b2 : 1 + (i - 2) + 1 ≤ 24 := by omega
  have hgs : ∀ (h : Heap) (c : List Cell), (h.get (.im 0)).isSome = true → (h.put (.im 0) (.cells c 0)).get (.im 0) = some (.cells c 0) := fun h c x => get_put_im h 0 c 0 x
  have s1 : (h.get (.im 0)).isSome = true := by rw [hg]; rfl
  have q1 : (h.put (.im 0) (.cells (cs.set i (dig u)) 0)).get (.im 0) = some (.cells (cs.set i (dig u)) 0) := hgs _ _ s1
  have q2 : ((h.put (.im 0) (.cells (cs.set i (dig u)) 0)).put (.im 0) (.cells ((cs.set i (dig u)).set (i - 1) (dig (u / 10))) 0)).get (.im 0) = some (.cells ((cs.set i (dig u)).set (i - 1) (dig (u / 10))) 0) := hgs _ _ (by rw [q1]; rfl)
  simp (config := { maxSteps := 10000000 }) +contextual only [exa, ne_eq, not_false_eq_true, Nat.reduceAdd, Nat.reduceMul, Nat.reduceLT, Nat.reduceLeDiff, Nat.reduceEqDiff, Int.reduceLT, Int.reduceLE, Int.reduceEq, Int.reduceToNat, a, vbin_rem 0 .u32 u 100 (by decide), vbin_quo 0 .u32 u 100 (by decide), e1, e2, w1, w2, w3, v1, v2, pair_lo .u32 (u % 100) (by omega) (by omega), pair_hi .u32 (u % 100) (by omega) (by omega), l1, l2, n1, n2, g1, g2, hg, hl, List.length_set, Nat.mul_one, Nat.zero_le, P1, P2, b1, b2, q1]
  have r : wr cs i u i = wr ((cs.set i (dig u)).set (i - 1) (dig (u / 10))) (i - 2) (u / 100) (i - 2) := by
   obtain ⟨m, rfl⟩ : ∃ m, i = m + 2 := ⟨i - 2, by omega⟩
   rw [wr, wr, Int.ediv_ediv_of_nonneg (by decide)]
   rfl
  rw [r]
  refine fb4 N (i - 2) (u / 100) _ _ (plain_set (plain_set hp _ _) _ _) (by rw [List.length_set, List.length_set]; exact hl) q2 (by omega) (by omega) hN (by omega) ?_
  have hi' : i = 2 ∨ i = 3 := by omega
  rcases hi' with rfl | rfl
  ·simp at h1 ⊢; omega
  ·simp at h1 ⊢; omega
 ·have a : (i : Int) < 2 := by omega
  simp (config := { maxSteps := 10000000 }) +contextual only [exa, ne_eq, not_false_eq_true, Nat.reduceAdd, Nat.reduceMul, Nat.reduceLT, Nat.reduceLeDiff, Nat.reduceEqDiff, Int.reduceLT, Int.reduceLE, Int.reduceEq, Int.reduceToNat, a]
  exact fb4 N i u cs h hp hl hg (by omega) hiN hN h0 h1
end Go.Proofs.YtiahgnkffnokfaaGreatDoor.Ab
