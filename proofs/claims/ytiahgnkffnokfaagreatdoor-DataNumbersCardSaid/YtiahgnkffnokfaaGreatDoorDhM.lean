/- Numerals: eight digits at once. -/
import Derived.Test.YtiahgnkffnokfaaGreatDoorDhL
set_option linter.all false
set_option linter.unusedVariables false
set_option linter.unusedSimpArgs false
set_option maxRecDepth 100000
namespace Go.Proofs.YtiahgnkffnokfaaGreatDoor.Ab
open Go Go.AI
set_option maxHeartbeats 4000000 in
theorem fb1 (N : Nat) (hN : N ≤ 23) : ∀ (m i : Nat), i < m → ∀ (u : Int) (cs : List Cell) (h : Heap), plainC cs → cs.length = 24 → h.get (.im 0) = some (.cells cs 0) → i ≤ N → 0 ≤ u → u < 18446744073709551616 → u < 10 ^ i →
  lim tab.get S 90 1 1 [bufP N, kN .u64 u, kI (i : Int)] h = some (.tup [], [.cells (wr cs i u i) 0]) := by
 intro m
 induction m with
 | zero => intro i h; omega
 | succ m ih =>
 intro i him u cs h hp hl hg hiN h0 hu h1
 rw [w90_1, b90_1]
 by_cases h2 : 8 ≤ i
 ·have a : ¬ (i : Int) < 8 := by omega
  have e1 : u.tmod 100000000 = u % 100000000 := Int.tmod_eq_emod_of_nonneg h0
  have e2 : u.tdiv 100000000 = u / 100000000 := Int.tdiv_eq_ediv_of_nonneg h0
  have e3 : (u % 100000000).tdiv 10000 = u % 100000000 / 10000 := Int.tdiv_eq_ediv_of_nonneg (by omega)
  have e4 : (u % 100000000).tmod 10000 = u % 100000000 % 10000 := Int.tmod_eq_emod_of_nonneg (by omega)
  have e5 : (u % 100000000 % 10000).tdiv 100 = u % 100000000 % 10000 / 100 := Int.tdiv_eq_ediv_of_nonneg (by omega)
  have e6 : (u % 100000000 % 10000).tmod 100 = u % 100000000 % 10000 % 100 := Int.tmod_eq_emod_of_nonneg (by omega)
  have e7 : (u % 100000000 / 10000).tdiv 100 = u % 100000000 / 10000 / 100 := Int.tdiv_eq_ediv_of_nonneg (by omega)
  have e8 : (u % 100000000 / 10000).tmod 100 = u % 100000000 / 10000 % 100 := Int.tmod_eq_emod_of_nonneg (by omega)
  have w0 : IntKind.u64.wrap (u / 100000000) = u / 100000000 := wrap_u64 _ (by omega) (by omega)
  have w1 : IntKind.u32.wrap (u % 100000000) = u % 100000000 := wrap_in .u32 _ (by show (0 : Int) ≤ _; omega) (by show _ ≤ (4294967295 : Int); omega)
  have w2 : IntKind.u32.wrap (u % 100000000 / 10000) = u % 100000000 / 10000 := wrap_in .u32 _ (by show (0 : Int) ≤ _; omega) (by show _ ≤ (4294967295 : Int); omega)
  have w3 : IntKind.u32.wrap (u % 100000000 % 10000 / 100) = u % 100000000 % 10000 / 100 := wrap_in .u32 _ (by show (0 : Int) ≤ _; omega) (by show _ ≤ (4294967295 : Int); omega)
  have w4 : IntKind.u32.wrap (u % 100000000 / 10000 / 100) = u % 100000000 / 10000 / 100 := wrap_in .u32 _ (by show (0 : Int) ≤ _; omega) (by show _ ≤ (4294967295 : Int); omega)
  have w5 : IntKind.u32.wrap (u % 100000000 % 10000 % 100 * 2) = u % 100000000 % 10000 % 100 * 2 := wrap_in .u32 _ (by show (0 : Int) ≤ _; omega) (by show _ ≤ (4294967295 : Int); omega)
  have w6 : IntKind.u32.wrap (u % 100000000 % 10000 % 100 * 2 + 1) = u % 100000000 % 10000 % 100 * 2 + 1 := wrap_in .u32 _ (by show (0 : Int) ≤ _; omega) (by show _ ≤ (4294967295 : Int); omega)
  have w7 : IntKind.u32.wrap (u % 100000000 % 10000 / 100 * 2) = u % 100000000 % 10000 / 100 * 2 := wrap_in .u32 _ (by show (0 : Int) ≤ _; omega) (by show _ ≤ (4294967295 : Int); omega)
  have w8 : IntKind.u32.wrap (u % 100000000 % 10000 / 100 * 2 + 1) = u % 100000000 % 10000 / 100 * 2 + 1 := wrap_in .u32 _ (by show (0 : Int) ≤ _; omega) (by show _ ≤ (4294967295 : Int); omega)
  have w9 : IntKind.u32.wrap (u % 100000000 / 10000 % 100 * 2) = u % 100000000 / 10000 % 100 * 2 := wrap_in .u32 _ (by show (0 : Int) ≤ _; omega) (by show _ ≤ (4294967295 : Int); omega)
  have w10 : IntKind.u32.wrap (u % 100000000 / 10000 % 100 * 2 + 1) = u % 100000000 / 10000 % 100 * 2 + 1 := wrap_in .u32 _ (by show (0 : Int) ≤ _; omega) (by show _ ≤ (4294967295 : Int); omega)
  have w11 : IntKind.u32.wrap (u % 100000000 / 10000 / 100 * 2) = u % 100000000 / 10000 / 100 * 2 := wrap_in .u32 _ (by show (0 : Int) ≤ _; omega) (by show _ ≤ (4294967295 : Int); omega)
  have w12 : IntKind.u32.wrap (u % 100000000 / 10000 / 100 * 2 + 1) = u % 100000000 / 10000 / 100 * 2 + 1 := wrap_in .u32 _ (by show (0 : Int) ≤ _; omega) (by show _ ≤ (4294967295 : Int); omega)
  have v1 : IntKind.i64.wrap ((i : Int) - 1) = ((i - 1 : Nat) : Int) := by rw [wrap_i64 _ (by omega) (by omega)]; omega
  have l1 : i - 1 < N := by omega
  have n1 : ((i - 1 : Nat) : Int).toNat = i - 1 := Int.toNat_natCast _
  have g1 : (0 : Int) ≤ ((i - 1 : Nat) : Int) := by omega
  have b1 : 1 + (i - 1) + 1 ≤ 24 := by omega
  have v2 : IntKind.i64.wrap ((i : Int) - 2) = ((i - 2 : Nat) : Int) := by rw [wrap_i64 _ (by omega) (by omega)]; omega
  have l2 : i - 2 < N := by omega
  have n2 : ((i - 2 : Nat) : Int).toNat = i - 2 := Int.toNat_natCast _
  have g2 : (0 : Int) ≤ ((i - 2 : Nat) : Int) := by omega
  have b2 : 1 + (i - 2) + 1 ≤ 24 := by omega
  have v3 : IntKind.i64.wrap ((i : Int) - 3) = ((i - 3 : Nat) : Int) := by rw [wrap_i64 _ (by omega) (by omega)]; omega
  have l3 : i - 3 < N := by omega
  have n3 : ((i - 3 : Nat) : Int).toNat = i - 3 := Int.toNat_natCast _
  have g3 : (0 : Int) ≤ ((i - 3 : Nat) : Int) := by omega
  have b3 : 1 + (i - 3) + 1 ≤ 24 := by omega
  have v4 : IntKind.i64.wrap ((i : Int) - 4) = ((i - 4 : Nat) : Int) := by rw [wrap_i64 _ (by omega) (by omega)]; omega
  have l4 : i - 4 < N := by omega
  have n4 : ((i - 4 : Nat) : Int).toNat = i - 4 := Int.toNat_natCast _
  have g4 : (0 : Int) ≤ ((i - 4 : Nat) : Int) := by omega
  have b4 : 1 + (i - 4) + 1 ≤ 24 := by omega
  have v5 : IntKind.i64.wrap ((i : Int) - 5) = ((i - 5 : Nat) : Int) := by rw [wrap_i64 _ (by omega) (by omega)]; omega
  have l5 : i - 5 < N := by omega
  have n5 : ((i - 5 : Nat) : Int).toNat = i - 5 := Int.toNat_natCast _
  have g5 : (0 : Int) ≤ ((i - 5 : Nat) : Int) := by omega
  have b5 : 1 + (i - 5) + 1 ≤ 24 := by omega
  have v6 : IntKind.i64.wrap ((i : Int) - 6) = ((i - 6 : Nat) : Int) := by rw [wrap_i64 _ (by omega) (by omega)]; omega
  have l6 : i - 6 < N := by omega
  have n6 : ((i - 6 : Nat) : Int).toNat = i - 6 := Int.toNat_natCast _
  have g6 : (0 : Int) ≤ ((i - 6 : Nat) : Int) := by omega
  have b6 : 1 + (i - 6) + 1 ≤ 24 := by omega
  have v7 : IntKind.i64.wrap ((i : Int) - 7) = ((i - 7 : Nat) : Int) := by rw [wrap_i64 _ (by omega) (by omega)]; omega
  have l7 : i - 7 < N := by omega
  have n7 : ((i - 7 : Nat) : Int).toNat = i - 7 := Int.toNat_natCast _
  have g7 : (0 : Int) ≤ ((i - 7 : Nat) : Int) := by omega
  have b7 : 1 + (i - 7) + 1 ≤ 24 := by omega
  have v8 : IntKind.i64.wrap ((i : Int) - 8) = ((i - 8 : Nat) : Int) := by rw [wrap_i64 _ (by omega) (by omega)]; omega
  have l8 : i - 8 < N := by omega
  have n8 : ((i - 8 : Nat) : Int).toNat = i - 8 := Int.toNat_natCast _
  have g8 : (0 : Int) ≤ ((i - 8 : Nat) : Int) := by omega
  have b8 : 1 + (i - 8) + 1 ≤ 24 := by omega
  have P1 : put1 cs (1 + (i - 1)) [dig (u % 100000000 % 10000 % 100)] = (cs.set i (dig (u))) := by
   rw [put1_set _ _ _ (by omega), show 1 + (i - 1) = i by omega, dig_e (show (u % 100000000 % 10000 % 100) % 10 = (u) % 10 by omega)]
  have P2 : put1 (cs.set i (dig (u))) (1 + (i - 2)) [dig (u % 100000000 % 10000 % 100 / 10)] = ((cs.set i (dig (u))).set (i - 1) (dig (u / 10))) := by
   rw [put1_set _ _ _ (by simp only [List.length_set]; omega), show 1 + (i - 2) = (i - 1) by omega, dig_e (show (u % 100000000 % 10000 % 100 / 10) % 10 = (u / 10) % 10 by omega)]
  have P3 : put1 ((cs.set i (dig (u))).set (i - 1) (dig (u / 10))) (1 + (i - 3)) [dig (u % 100000000 % 10000 / 100)] = (((cs.set i (dig (u))).set (i - 1) (dig (u / 10))).set (i - 2) (dig (u / 10 / 10))) := by
   rw [put1_set _ _ _ (by simp only [List.length_set]; omega), show 1 + (i - 3) = (i - 2) by omega, dig_e (show (u % 100000000 % 10000 / 100) % 10 = (u / 10 / 10) % 10 by omega)]
  have P4 : put1 (((cs.set i (dig (u))).set (i - 1) (dig (u / 10))).set (i - 2) (dig (u / 10 / 10))) (1 + (i - 4)) [dig (u % 100000000 % 10000 / 100 / 10)] = ((((cs.set i (dig (u))).set (i - 1) (dig (u / 10))).set (i - 2) (dig (u / 10 / 10))).set (i - 3) (dig (u / 10 / 10 / 10))) := by
   rw [put1_set _ _ _ (by simp only [List.length_set]; omega), show 1 + (i - 4) = (i - 3) by omega, dig_e (show (u % 100000000 % 10000 / 100 / 10) % 10 = (u / 10 / 10 / 10) % 10 by omega)]
  have P5 : put1 ((((cs.set i (dig (u))).set (i - 1) (dig (u / 10))).set (i - 2) (dig (u / 10 / 10))).set (i - 3) (dig (u / 10 / 10 / 10))) (1 + (i - 5)) [dig (u % 100000000 / 10000 % 100)] = (((((cs.set i (dig (u))).set (i - 1) (dig (u / 10))).set (i - 2) (dig (u / 10 / 10))).set (i - 3) (dig (u / 10 / 10 / 10))).set (i - 4) (dig (u / 10 / 10 / 10 / 10))) := by
   rw [put1_set _ _ _ (by simp only [List.length_set]; omega), show 1 + (i - 5) = (i - 4) by omega, dig_e (show (u % 100000000 / 10000 % 100) % 10 = (u / 10 / 10 / 10 / 10) % 10 by omega)]
  have P6 : put1 (((((cs.set i (dig (u))).set (i - 1) (dig (u / 10))).set (i - 2) (dig (u / 10 / 10))).set (i - 3) (dig (u / 10 / 10 / 10))).set (i - 4) (dig (u / 10 / 10 / 10 / 10))) (1 + (i - 6)) [dig (u % 100000000 / 10000 % 100 / 10)] = ((((((cs.set i (dig (u))).set (i - 1) (dig (u / 10))).set (i - 2) (dig (u / 10 / 10))).set (i - 3) (dig (u / 10 / 10 / 10))).set (i - 4) (dig (u / 10 / 10 / 10 / 10))).set (i - 5) (dig (u / 10 / 10 / 10 / 10 / 10))) := by
   rw [put1_set _ _ _ (by simp only [List.length_set]; omega), show 1 + (i - 6) = (i - 5) by omega, dig_e (show (u % 100000000 / 10000 % 100 / 10) % 10 = (u / 10 / 10 / 10 / 10 / 10) % 10 by omega)]
  have P7 : put1 ((((((cs.set i (dig (u))).set (i - 1) (dig (u / 10))).set (i - 2) (dig (u / 10 / 10))).set (i - 3) (dig (u / 10 / 10 / 10))).set (i - 4) (dig (u / 10 / 10 / 10 / 10))).set (i - 5) (dig (u / 10 / 10 / 10 / 10 / 10))) (1 + (i - 7)) [dig (u % 100000000 / 10000 / 100)] = (((((((cs.set i (dig (u))).set (i - 1) (dig (u / 10))).set (i - 2) (dig (u / 10 / 10))).set (i - 3) (dig (u / 10 / 10 / 10))).set (i - 4) (dig (u / 10 / 10 / 10 / 10))).set (i - 5) (dig (u / 10 / 10 / 10 / 10 / 10))).set (i - 6) (dig (u / 10 / 10 / 10 / 10 / 10 / 10))) := by
   rw [put1_set _ _ _ (by simp only [List.length_set]; omega), show 1 + (i - 7) = (i - 6) by omega, dig_e (show (u % 100000000 / 10000 / 100) % 10 = (u / 10 / 10 / 10 / 10 / 10 / 10) % 10 by omega)]
  have P8 : put1 (((((((cs.set i (dig (u))).set (i - 1) (dig (u / 10))).set (i - 2) (dig (u / 10 / 10))).set (i - 3) (dig (u / 10 / 10 / 10))).set (i - 4) (dig (u / 10 / 10 / 10 / 10))).set (i - 5) (dig (u / 10 / 10 / 10 / 10 / 10))).set (i - 6) (dig (u / 10 / 10 / 10 / 10 / 10 / 10))) (1 + (i - 8)) [dig (u % 100000000 / 10000 / 100 / 10)] = ((((((((cs.set i (dig (u))).set (i - 1) (dig (u / 10))).set (i - 2) (dig (u / 10 / 10))).set (i - 3) (dig (u / 10 / 10 / 10))).set (i - 4) (dig (u / 10 / 10 / 10 / 10))).set (i - 5) (dig (u / 10 / 10 / 10 / 10 / 10))).set (i - 6) (dig (u / 10 / 10 / 10 / 10 / 10 / 10))).set (i - 7) (dig (u / 10 / 10 / 10 / 10 / 10 / 10 / 10))) := by
   rw [put1_set _ _ _ (by simp only [List.length_set]; omega), show 1 + (i - 8) = (i - 7) by omega, dig_e (show (u % 100000000 / 10000 / 100 / 10) % 10 = (u / 10 / 10 / 10 / 10 / 10 / 10 / 10) % 10 by omega)]
  have q1 : (h.put (.im 0) (.cells (cs.set i (dig (u))) 0)).get (.im 0) = some (.cells (cs.set i (dig (u))) 0) := get_put_im h 0 _ _ (by rw [hg]; rfl)
  have q2 : ((h.put (.im 0) (.cells (cs.set i (dig (u))) 0)).put (.im 0) (.cells ((cs.set i (dig (u))).set (i - 1) (dig (u / 10))) 0)).get (.im 0) = some (.cells ((cs.set i (dig (u))).set (i - 1) (dig (u / 10))) 0) := get_put_im (h.put (.im 0) (.cells (cs.set i (dig (u))) 0)) 0 _ _ (by rw [q1]; rfl)
  have q3 : (((h.put (.im 0) (.cells (cs.set i (dig (u))) 0)).put (.im 0) (.cells ((cs.set i (dig (u))).set (i - 1) (dig (u / 10))) 0)).put (.im 0) (.cells (((cs.set i (dig (u))).set (i - 1) (dig (u / 10))).set (i - 2) (dig (u / 10 / 10))) 0)).get (.im 0) = some (.cells (((cs.set i (dig (u))).set (i - 1) (dig (u / 10))).set (i - 2) (dig (u / 10 / 10))) 0) := get_put_im ((h.put (.im 0) (.cells (cs.set i (dig (u))) 0)).put (.im 0) (.cells ((cs.set i (dig (u))).set (i - 1) (dig (u / 10))) 0)) 0 _ _ (by rw [q2]; rfl)
  have q4 : ((((h.put (.im 0) (.cells (cs.set i (dig (u))) 0)).put (.im 0) (.cells ((cs.set i (dig (u))).set (i - 1) (dig (u / 10))) 0)).put (.im 0) (.cells (((cs.set i (dig (u))).set (i - 1) (dig (u / 10))).set (i - 2) (dig (u / 10 / 10))) 0)).put (.im 0) (.cells ((((cs.set i (dig (u))).set (i - 1) (dig (u / 10))).set (i - 2) (dig (u / 10 / 10))).set (i - 3) (dig (u / 10 / 10 / 10))) 0)).get (.im 0) = some (.cells ((((cs.set i (dig (u))).set (i - 1) (dig (u / 10))).set (i - 2) (dig (u / 10 / 10))).set (i - 3) (dig (u / 10 / 10 / 10))) 0) := get_put_im (((h.put (.im 0) (.cells (cs.set i (dig (u))) 0)).put (.im 0) (.cells ((cs.set i (dig (u))).set (i - 1) (dig (u / 10))) 0)).put (.im 0) (.cells (((cs.set i (dig (u))).set (i - 1) (dig (u / 10))).set (i - 2) (dig (u / 10 / 10))) 0)) 0 _ _ (by rw [q3]; rfl)
  have q5 : (((((h.put (.im 0) (.cells (cs.set i (dig (u))) 0)).put (.im 0) (.cells ((cs.set i (dig (u))).set (i - 1) (dig (u / 10))) 0)).put (.im 0) (.cells (((cs.set i (dig (u))).set (i - 1) (dig (u / 10))).set (i - 2) (dig (u / 10 / 10))) 0)).put (.im 0) (.cells ((((cs.set i (dig (u))).set (i - 1) (dig (u / 10))).set (i - 2) (dig (u / 10 / 10))).set (i - 3) (dig (u / 10 / 10 / 10))) 0)).put (.im 0) (.cells (((((cs.set i (dig (u))).set (i - 1) (dig (u / 10))).set (i - 2) (dig (u / 10 / 10))).set (i - 3) (dig (u / 10 / 10 / 10))).set (i - 4) (dig (u / 10 / 10 / 10 / 10))) 0)).get (.im 0) = some (.cells (((((cs.set i (dig (u))).set (i - 1) (dig (u / 10))).set (i - 2) (dig (u / 10 / 10))).set (i - 3) (dig (u / 10 / 10 / 10))).set (i - 4) (dig (u / 10 / 10 / 10 / 10))) 0) := get_put_im ((((h.put (.im 0) (.cells (cs.set i (dig (u))) 0)).put (.im 0) (.cells ((cs.set i (dig (u))).set (i - 1) (dig (u / 10))) 0)).put (.im 0) (.cells (((cs.set i (dig (u))).set (i - 1) (dig (u / 10))).set (i - 2) (dig (u / 10 / 10))) 0)).put (.im 0) (.cells ((((cs.set i (dig (u))).set (i - 1) (dig (u / 10))).set (i - 2) (dig (u / 10 / 10))).set (i - 3) (dig (u / 10 / 10 / 10))) 0)) 0 _ _ (by rw [q4]; rfl)
  have q6 : ((((((h.put (.im 0) (.cells (cs.set i (dig (u))) 0)).put (.im 0) (.cells ((cs.set i (dig (u))).set (i - 1) (dig (u / 10))) 0)).put (.im 0) (.cells (((cs.set i (dig (u))).set (i - 1) (dig (u / 10))).set (i - 2) (dig (u / 10 / 10))) 0)).put (.im 0) (.cells ((((cs.set i (dig (u))).set (i - 1) (dig (u / 10))).set (i - 2) (dig (u / 10 / 10))).set (i - 3) (dig (u / 10 / 10 / 10))) 0)).put (.im 0) (.cells (((((cs.set i (dig (u))).set (i - 1) (dig (u / 10))).set (i - 2) (dig (u / 10 / 10))).set (i - 3) (dig (u / 10 / 10 / 10))).set (i - 4) (dig (u / 10 / 10 / 10 / 10))) 0)).put (.im 0) (.cells ((((((cs.set i (dig (u))).set (i - 1) (dig (u / 10))).set (i - 2) (dig (u / 10 / 10))).set (i - 3) (dig (u / 10 / 10 / 10))).set (i - 4) (dig (u / 10 / 10 / 10 / 10))).set (i - 5) (dig (u / 10 / 10 / 10 / 10 / 10))) 0)).get (.im 0) = some (.cells ((((((cs.set i (dig (u))).set (i - 1) (dig (u / 10))).set (i - 2) (dig (u / 10 / 10))).set (i - 3) (dig (u / 10 / 10 / 10))).set (i - 4) (dig (u / 10 / 10 / 10 / 10))).set (i - 5) (dig (u / 10 / 10 / 10 / 10 / 10))) 0) := get_put_im (((((h.put (.im 0) (.cells (cs.set i (dig (u))) 0)).put (.im 0) (.cells ((cs.set i (dig (u))).set (i - 1) (dig (u / 10))) 0)).put (.im 0) (.cells (((cs.set i (dig (u))).set (i - 1) (dig (u / 10))).set (i - 2) (dig (u / 10 / 10))) 0)).put (.im 0) (.cells ((((cs.set i (dig (u))).set (i - 1) (dig (u / 10))).set (i - 2) (dig (u / 10 / 10))).set (i - 3) (dig (u / 10 / 10 / 10))) 0)).put (.im 0) (.cells (((((cs.set i (dig (u))).set (i - 1) (dig (u / 10))).set (i - 2) (dig (u / 10 / 10))).set (i - 3) (dig (u / 10 / 10 / 10))).set (i - 4) (dig (u / 10 / 10 / 10 / 10))) 0)) 0 _ _ (by rw [q5]; rfl)
  have q7 : (((((((h.put (.im 0) (.cells (cs.set i (dig (u))) 0)).put (.im 0) (.cells ((cs.set i (dig (u))).set (i - 1) (dig (u / 10))) 0)).put (.im 0) (.cells (((cs.set i (dig (u))).set (i - 1) (dig (u / 10))).set (i - 2) (dig (u / 10 / 10))) 0)).put (.im 0) (.cells ((((cs.set i (dig (u))).set (i - 1) (dig (u / 10))).set (i - 2) (dig (u / 10 / 10))).set (i - 3) (dig (u / 10 / 10 / 10))) 0)).put (.im 0) (.cells (((((cs.set i (dig (u))).set (i - 1) (dig (u / 10))).set (i - 2) (dig (u / 10 / 10))).set (i - 3) (dig (u / 10 / 10 / 10))).set (i - 4) (dig (u / 10 / 10 / 10 / 10))) 0)).put (.im 0) (.cells ((((((cs.set i (dig (u))).set (i - 1) (dig (u / 10))).set (i - 2) (dig (u / 10 / 10))).set (i - 3) (dig (u / 10 / 10 / 10))).set (i - 4) (dig (u / 10 / 10 / 10 / 10))).set (i - 5) (dig (u / 10 / 10 / 10 / 10 / 10))) 0)).put (.im 0) (.cells (((((((cs.set i (dig (u))).set (i - 1) (dig (u / 10))).set (i - 2) (dig (u / 10 / 10))).set (i - 3) (dig (u / 10 / 10 / 10))).set (i - 4) (dig (u / 10 / 10 / 10 / 10))).set (i - 5) (dig (u / 10 / 10 / 10 / 10 / 10))).set (i - 6) (dig (u / 10 / 10 / 10 / 10 / 10 / 10))) 0)).get (.im 0) = some (.cells (((((((cs.set i (dig (u))).set (i - 1) (dig (u / 10))).set (i - 2) (dig (u / 10 / 10))).set (i - 3) (dig (u / 10 / 10 / 10))).set (i - 4) (dig (u / 10 / 10 / 10 / 10))).set (i - 5) (dig (u / 10 / 10 / 10 / 10 / 10))).set (i - 6) (dig (u / 10 / 10 / 10 / 10 / 10 / 10))) 0) := get_put_im ((((((h.put (.im 0) (.cells (cs.set i (dig (u))) 0)).put (.im 0) (.cells ((cs.set i (dig (u))).set (i - 1) (dig (u / 10))) 0)).put (.im 0) (.cells (((cs.set i (dig (u))).set (i - 1) (dig (u / 10))).set (i - 2) (dig (u / 10 / 10))) 0)).put (.im 0) (.cells ((((cs.set i (dig (u))).set (i - 1) (dig (u / 10))).set (i - 2) (dig (u / 10 / 10))).set (i - 3) (dig (u / 10 / 10 / 10))) 0)).put (.im 0) (.cells (((((cs.set i (dig (u))).set (i - 1) (dig (u / 10))).set (i - 2) (dig (u / 10 / 10))).set (i - 3) (dig (u / 10 / 10 / 10))).set (i - 4) (dig (u / 10 / 10 / 10 / 10))) 0)).put (.im 0) (.cells ((((((cs.set i (dig (u))).set (i - 1) (dig (u / 10))).set (i - 2) (dig (u / 10 / 10))).set (i - 3) (dig (u / 10 / 10 / 10))).set (i - 4) (dig (u / 10 / 10 / 10 / 10))).set (i - 5) (dig (u / 10 / 10 / 10 / 10 / 10))) 0)) 0 _ _ (by rw [q6]; rfl)
  have q8 : ((((((((h.put (.im 0) (.cells (cs.set i (dig (u))) 0)).put (.im 0) (.cells ((cs.set i (dig (u))).set (i - 1) (dig (u / 10))) 0)).put (.im 0) (.cells (((cs.set i (dig (u))).set (i - 1) (dig (u / 10))).set (i - 2) (dig (u / 10 / 10))) 0)).put (.im 0) (.cells ((((cs.set i (dig (u))).set (i - 1) (dig (u / 10))).set (i - 2) (dig (u / 10 / 10))).set (i - 3) (dig (u / 10 / 10 / 10))) 0)).put (.im 0) (.cells (((((cs.set i (dig (u))).set (i - 1) (dig (u / 10))).set (i - 2) (dig (u / 10 / 10))).set (i - 3) (dig (u / 10 / 10 / 10))).set (i - 4) (dig (u / 10 / 10 / 10 / 10))) 0)).put (.im 0) (.cells ((((((cs.set i (dig (u))).set (i - 1) (dig (u / 10))).set (i - 2) (dig (u / 10 / 10))).set (i - 3) (dig (u / 10 / 10 / 10))).set (i - 4) (dig (u / 10 / 10 / 10 / 10))).set (i - 5) (dig (u / 10 / 10 / 10 / 10 / 10))) 0)).put (.im 0) (.cells (((((((cs.set i (dig (u))).set (i - 1) (dig (u / 10))).set (i - 2) (dig (u / 10 / 10))).set (i - 3) (dig (u / 10 / 10 / 10))).set (i - 4) (dig (u / 10 / 10 / 10 / 10))).set (i - 5) (dig (u / 10 / 10 / 10 / 10 / 10))).set (i - 6) (dig (u / 10 / 10 / 10 / 10 / 10 / 10))) 0)).put (.im 0) (.cells ((((((((cs.set i (dig (u))).set (i - 1) (dig (u / 10))).set (i - 2) (dig (u / 10 / 10))).set (i - 3) (dig (u / 10 / 10 / 10))).set (i - 4) (dig (u / 10 / 10 / 10 / 10))).set (i - 5) (dig (u / 10 / 10 / 10 / 10 / 10))).set (i - 6) (dig (u / 10 / 10 / 10 / 10 / 10 / 10))).set (i - 7) (dig (u / 10 / 10 / 10 / 10 / 10 / 10 / 10))) 0)).get (.im 0) = some (.cells ((((((((cs.set i (dig (u))).set (i - 1) (dig (u / 10))).set (i - 2) (dig (u / 10 / 10))).set (i - 3) (dig (u / 10 / 10 / 10))).set (i - 4) (dig (u / 10 / 10 / 10 / 10))).set (i - 5) (dig (u / 10 / 10 / 10 / 10 / 10))).set (i - 6) (dig (u / 10 / 10 / 10 / 10 / 10 / 10))).set (i - 7) (dig (u / 10 / 10 / 10 / 10 / 10 / 10 / 10))) 0) := get_put_im (((((((h.put (.im 0) (.cells (cs.set i (dig (u))) 0)).put (.im 0) (.cells ((cs.set i (dig (u))).set (i - 1) (dig (u / 10))) 0)).put (.im 0) (.cells (((cs.set i (dig (u))).set (i - 1) (dig (u / 10))).set (i - 2) (dig (u / 10 / 10))) 0)).put (.im 0) (.cells ((((cs.set i (dig (u))).set (i - 1) (dig (u / 10))).set (i - 2) (dig (u / 10 / 10))).set (i - 3) (dig (u / 10 / 10 / 10))) 0)).put (.im 0) (.cells (((((cs.set i (dig (u))).set (i - 1) (dig (u / 10))).set (i - 2) (dig (u / 10 / 10))).set (i - 3) (dig (u / 10 / 10 / 10))).set (i - 4) (dig (u / 10 / 10 / 10 / 10))) 0)).put (.im 0) (.cells ((((((cs.set i (dig (u))).set (i - 1) (dig (u / 10))).set (i - 2) (dig (u / 10 / 10))).set (i - 3) (dig (u / 10 / 10 / 10))).set (i - 4) (dig (u / 10 / 10 / 10 / 10))).set (i - 5) (dig (u / 10 / 10 / 10 / 10 / 10))) 0)).put (.im 0) (.cells (((((((cs.set i (dig (u))).set (i - 1) (dig (u / 10))).set (i - 2) (dig (u / 10 / 10))).set (i - 3) (dig (u / 10 / 10 / 10))).set (i - 4) (dig (u / 10 / 10 / 10 / 10))).set (i - 5) (dig (u / 10 / 10 / 10 / 10 / 10))).set (i - 6) (dig (u / 10 / 10 / 10 / 10 / 10 / 10))) 0)) 0 _ _ (by rw [q7]; rfl)
  simp (config := { maxSteps := 10000000 }) +contextual only [exa, ne_eq, not_false_eq_true, Nat.reduceAdd, Nat.reduceMul, Nat.reduceLT, Nat.reduceLeDiff, Nat.reduceEqDiff, Int.reduceLT, Int.reduceLE, Int.reduceEq, Int.reduceToNat, a, vbin_rem 0 .u64 u 100000000 (by decide), vbin_quo 0 .u64 u 100000000 (by decide), vbin_rem 0 .u32 (u % 100000000) 10000 (by decide), vbin_quo 0 .u32 (u % 100000000) 10000 (by decide), vbin_rem 0 .u32 (u % 100000000 % 10000) 100 (by decide), vbin_quo 0 .u32 (u % 100000000 % 10000) 100 (by decide), vbin_rem 0 .u32 (u % 100000000 / 10000) 100 (by decide), vbin_quo 0 .u32 (u % 100000000 / 10000) 100 (by decide), e1, e2, e3, e4, e5, e6, e7, e8, w0, w1, w2, w3, w4, w5, w6, w7, w8, w9, w10, w11, w12, v1, v2, v3, v4, v5, v6, v7, v8, pair_lo .u32 (u % 100000000 % 10000 % 100) (by omega) (by omega), pair_hi .u32 (u % 100000000 % 10000 % 100) (by omega) (by omega), pair_lo .u32 (u % 100000000 % 10000 / 100) (by omega) (by omega), pair_hi .u32 (u % 100000000 % 10000 / 100) (by omega) (by omega), pair_lo .u32 (u % 100000000 / 10000 % 100) (by omega) (by omega), pair_hi .u32 (u % 100000000 / 10000 % 100) (by omega) (by omega), pair_lo .u32 (u % 100000000 / 10000 / 100) (by omega) (by omega), pair_hi .u32 (u % 100000000 / 10000 / 100) (by omega) (by omega), l1, l2, l3, l4, l5, l6, l7, l8, n1, n2, n3, n4, n5, n6, n7, n8, g1, g2, g3, g4, g5, g6, g7, g8, hg, hl, List.length_set, Nat.mul_one, Nat.zero_le, P1, P2, P3, P4, P5, P6, P7, P8, b1, b2, b3, b4, b5, b6, b7, b8, q1, q2, q3, q4, q5, q6, q7]
  have r : wr cs i u i = wr ((((((((cs.set i (dig (u))).set (i - 1) (dig (u / 10))).set (i - 2) (dig (u / 10 / 10))).set (i - 3) (dig (u / 10 / 10 / 10))).set (i - 4) (dig (u / 10 / 10 / 10 / 10))).set (i - 5) (dig (u / 10 / 10 / 10 / 10 / 10))).set (i - 6) (dig (u / 10 / 10 / 10 / 10 / 10 / 10))).set (i - 7) (dig (u / 10 / 10 / 10 / 10 / 10 / 10 / 10))) (i - 8) (u / 100000000) (i - 8) := by
   obtain ⟨m, rfl⟩ : ∃ m, i = m + 8 := ⟨i - 8, by omega⟩
   rw [wr, wr, wr, wr, wr, wr, wr, wr]
   have : u / 10 / 10 / 10 / 10 / 10 / 10 / 10 / 10 = u / 100000000 := by omega
   rw [this]
   rfl
  rw [r]
  refine ih (i - 8) (by omega) (u / 100000000) _ _ (plain_set (plain_set (plain_set (plain_set (plain_set (plain_set (plain_set (plain_set (hp) _ _) _ _) _ _) _ _) _ _) _ _) _ _) _ _) (by simp only [List.length_set]; exact hl) q8 (by omega) (by omega) (by omega) ?_
  obtain ⟨m, rfl⟩ : ∃ m, i = m + 8 := ⟨i - 8, by omega⟩
  rw [Int.pow_add, show (10 : Int) ^ 8 = 100000000 by decide] at h1
  rw [Nat.add_sub_cancel]
  generalize (10 : Int) ^ m = y at h1
  omega
 ·have a : (i : Int) < 8 := by omega
  simp (config := { maxSteps := 10000000 }) +contextual only [exa, ne_eq, not_false_eq_true, Nat.reduceAdd, Nat.reduceMul, Nat.reduceLT, Nat.reduceLeDiff, Nat.reduceEqDiff, Int.reduceLT, Int.reduceLE, Int.reduceEq, Int.reduceToNat, a]
  exact fb2 N i u cs h hp hl hg (by omega) hiN hN h0 h1
end Go.Proofs.YtiahgnkffnokfaaGreatDoor.Ab
