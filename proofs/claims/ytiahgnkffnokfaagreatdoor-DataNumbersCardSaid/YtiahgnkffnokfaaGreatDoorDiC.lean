/- The program's reader of values: a number. -/
import Derived.Test.YtiahgnkffnokfaaGreatDoorDiB
set_option linter.all false
set_option linter.unusedVariables false
set_option linter.unusedSimpArgs false
set_option maxRecDepth 100000
set_option maxHeartbeats 4000000
namespace Go.Proofs.YtiahgnkffnokfaaGreatDoor.Ab
open Go Go.AI
def numV (n : Int) : VT := .mk 2 false n [] .nil .nil
abbrev Z6 : List Cell := [.p (.int .i64 0), .p (.bool false), .p (.int .i64 0), .p (.str []), .p .nilslice, .p .nilslice]
abbrev R2 : TVal := .v (.c (.ptr (.own 2 1) 0))
theorem u48 {β : Type} {k : TVal → Heap → Option β} {h : Heap} {d : Nat} (r : Ref) (s w : List UInt8) (hg : h.get r = some (rO s 0)) : vcall Om (.v (.c (.func 48 []))) [.v (.c (.ptr r 0)), kS w] h d k = k (kB (decide (s.take w.length = w))) (h.put r (rO (if s.take w.length = w then s.drop w.length else s) 0)) :=
 vcall_p 48 r 0 [] [kS w] _ _ _ rfl rfl hg (plain_rO _ _) (plain_rO _ _) rfl (take48 s w)
theorem u76 {β : Type} {k : TVal → Heap → Option β} {h : Heap} {d : Nat} (ds : List UInt8) (hd : ∀ b ∈ ds, isD b = true) (hz : ds[0]? = some 48 → ds.length = 1) (hn : ds ≠ []) : vcall Om (.v (.c (.func 76 []))) [kS ds] h d k = k (kI (ds.length : Int)) h := vcall_pure 76 _ _ rfl (digits76 ds hd hz hn) rfl
def sgn (b : Bool) (x : Nat) : Int := if b then -(x : Int) else x
def lim53 (b : Bool) : Nat := if b then 9223372036854775808 else 9223372036854775807
theorem neg_wrap (x : Nat) (hx : x ≤ 9223372036854775808) : IntKind.i64.wrap (0 - IntKind.i64.wrap (x : Int)) = -(x : Int) := by
 by_cases h : x ≤ 9223372036854775807
 ·rw [wrap_i64 (x : Int) (by omega) (by omega), wrap_i64 _ (by omega) (by omega)]; omega
 ·obtain rfl : x = 9223372036854775808 := by omega
  rfl
theorem num5 (b : Bool) (ds : List UInt8) (x : Nat) (hx : x ≤ lim53 b) (hl : ds.length ≤ 19) (h : Heap) (hg : h.get (.im 0) = some (rO ds 0)) (h2 : h.get (.own 2 1) = some (.cells Z6 0)) :
  lim tab.get S 53 1 5 [P0, R2, kB b, kI (ds.length : Int), kN .u64 (x : Int)] h = some (kA (numV (sgn b x)).row, [rO [] 0]) := by
 have sl : ∀ {β : Type} {k : TVal → Heap → Option β} {hh : Heap} {d : Nat}, vop Om (.slice 0 true (.k (kS ds)) (some (.k (kI (ds.length : Int)))) none none) hh d k = k (kS []) hh := fun {β k hh d} => (vslice_l ds ds.length (Nat.le_refl _)).trans (by rw [List.drop_length])
 have fin : ∀ (n : Int) (o : AObj), vfin true 1 [.agg (pcells (numV n).row)] ((h.put (.im 0) (rO [] 0)).own 2 1 o) = some (kA (numV n).row, [rO [] 0]) := fun n o => vfin_1 true [.agg (pcells (numV n).row)] _ (by simp only [exP]) ((Heap.own_get_im _ _ _ _ _).trans (get_put_im h 0 _ _ (by rw [hg]; rfl))) (plain_rO [] 0)
 rw [w53_5, b53_5]
 cases b
 ·have hx : x ≤ 9223372036854775807 := hx
  have e1 : IntKind.i64.wrap (x : Int) = (x : Int) := wrap_i64 _ (by omega) (by omega)
  simp (config := { maxSteps := 10000000 }) +contextual only [exa, ne_eq, not_false_eq_true, Nat.reduceAdd, Nat.reduceMul, Nat.reduceLT, Nat.reduceLeDiff, Nat.reduceEqDiff, Int.reduceLT, Int.reduceLE, Int.reduceEq, Int.reduceToNat, exY, hg, h2, sl, rO_g0, rO_g1, rO_p0, rO_p1, rO_len, e1, oneOf]
  exact fin x _
 ·have hx : x ≤ 9223372036854775808 := hx
  simp (config := { maxSteps := 10000000 }) +contextual only [exa, ne_eq, not_false_eq_true, Nat.reduceAdd, Nat.reduceMul, Nat.reduceLT, Nat.reduceLeDiff, Nat.reduceEqDiff, Int.reduceLT, Int.reduceLE, Int.reduceEq, Int.reduceToNat, exY, hg, h2, sl, rO_g0, rO_g1, rO_p0, rO_p1, rO_len, neg_wrap x hx, oneOf]
  exact fin (-(x : Int)) _
theorem num4 (b : Bool) (ds : List UInt8) (x : Nat) (hx : x ≤ lim53 b) (hl : ds.length ≤ 19) (h : Heap) (hg : h.get (.im 0) = some (rO ds 0)) (h2 : h.get (.own 2 1) = some (.cells Z6 0)) :
  lim tab.get S 53 1 4 [P0, R2, kB b, kI (ds.length : Int), kN .u64 (x : Int), kN .u64 (lim53 b : Int)] h = some (kA (numV (sgn b x)).row, [rO [] 0]) := by
 rw [w53_4, b53_4, vbin_gtr, vif_kB, if_neg (by rw [decide_eq_true_eq]; omega)]
 exact num5 b ds x hx hl h hg h2
theorem valD_snoc (l : List UInt8) (b : UInt8) : valD (l ++ [b]) 0 = 10 * valD l 0 + (b.toNat - 48) := by rw [valD_app]; rfl
theorem num3 (b : Bool) (ds : List UInt8) (hd : ∀ b ∈ ds, isD b = true) (hx : valD ds 0 ≤ lim53 b) (hl : ds.length ≤ 19) : ∀ (m pos : Nat) (h : Heap), ds.length - pos = m → pos ≤ ds.length → h.get (.own 36 1) = some (.siter ds pos) → h.get (.im 0) = some (rO ds 0) → h.get (.own 2 1) = some (.cells Z6 0) →
  lim tab.get S 53 1 3 [P0, R2, kB b, kI (ds.length : Int), kN .u64 (valD (ds.take pos) 0 : Int), kN .u64 (lim53 b : Int), .v (.c (.ptr (.own 36 1) 0))] h = some (kA (numV (sgn b (valD ds 0))).row, [rO [] 0])
 | 0, pos, h, hm, hp, hh, hg, h2 => by
  rw [w53_3, b53_3, vnextS_end ds pos _ hh (by omega), vext_tup _ 0 (.c (.p (.bool false))) rfl, vif_f]
  have : ds.take pos = ds := List.take_of_length_le (by omega)
  rw [this]
  exact num4 b ds _ hx hl _ hg ((Heap.own_get_ne h 36 1 _ 2 1 (by decide)).trans h2)
 | m + 1, pos, h, hm, hp, hh, hg, h2 => by
  obtain ⟨c, hc⟩ : ∃ c, ds[pos]? = some c := ⟨ds[pos]'(by omega), by simp⟩
  have hcd := hd c (List.mem_of_getElem? hc)
  obtain ⟨q1, q2⟩ := isD_n hcd
  have htk : ds.take (pos + 1) = ds.take pos ++ [c] := by rw [List.take_add_one, hc]; rfl
  have hx1 := valD_lt (ds.take (pos + 1)) 0 (fun c hc => hd c (List.mem_of_mem_take hc))
  have hx2 : (10 : Nat) ^ (ds.take (pos + 1)).length ≤ 10 ^ 19 := Nat.pow_le_pow_right (by decide) (by simp; omega)
  have pw : (10 : Nat) ^ 19 = 10000000000000000000 := by decide
  rw [htk, valD_snoc] at hx1
  rw [htk] at hx2
  rw [w53_3, b53_3, vnextS_more ds pos _ hh (by omega), vext_tup _ 0 (.c (.p (.bool true))) rfl, vif_t, utf8_ascii ds pos c hc (by omega), vext_tup _ 2 (.c (.p (.int .i32 (c.toNat : Int)))) rfl,
   vbin_mul, wrap_u64 _ (by omega) (by omega), vbin_sub]
  have e1 : IntKind.i32.wrap ((c.toNat : Int) - 48) = (c.toNat : Int) - 48 := wrap_in .i32 _ (by show (-2147483648 : Int) ≤ _; omega) (by show _ ≤ (2147483647 : Int); omega)
  rw [e1, vtoInt_n, wrap_u64 _ (by omega) (by omega), vbin_add, wrap_u64 _ (by omega) (by omega)]
  have e2 : (10 * (valD (ds.take pos) 0 : Int) + ((c.toNat : Int) - 48)) = (valD (ds.take (pos + 1)) 0 : Int) := by rw [htk, valD_snoc]; omega
  rw [e2]
  exact num3 b ds hd hx hl m (pos + 1) _ (by omega) (by omega) (Heap.own_get h 36 1 _ (by decide) (fun e => by cases e)) hg ((Heap.own_get_ne h 36 1 _ 2 1 (by decide)).trans h2)
theorem num1 (b : Bool) (ds : List UInt8) (hd : ∀ b ∈ ds, isD b = true) (hx : valD ds 0 ≤ lim53 b) (hl : ds.length ≤ 19) (h : Heap) (hgen : h.gen 36 = 0) (hg : h.get (.im 0) = some (rO ds 0)) (h2 : h.get (.own 2 1) = some (.cells Z6 0)) :
  lim tab.get S 53 1 1 [P0, R2, kB b, kI (ds.length : Int)] h = some (kA (numV (sgn b (valD ds 0))).row, [rO [] 0]) := by
 have two : lim tab.get S 53 1 2 [P0, R2, kB b, kI (ds.length : Int), kN .u64 ((0 : Nat) : Int), kN .u64 (lim53 b : Int)] h = some (kA (numV (sgn b (valD ds 0))).row, [rO [] 0]) := by
  have mm : ¬ (19 : Int) < (ds.length : Int) := by omega
  have sl : ∀ {β : Type} {k : TVal → Heap → Option β} {hh : Heap} {d : Nat}, vop Om (.slice 0 true (.k (kS ds)) none (some (.k (kI (ds.length : Int)))) none) hh d k = k (kS ds) hh := fun {β k hh d} => (vslice_h ds ds.length (Nat.le_refl _)).trans (by rw [List.take_length])
  rw [w53_2, b53_2]
  simp (config := { maxSteps := 10000000 }) +contextual only [exa, ne_eq, not_false_eq_true, Nat.reduceAdd, Nat.reduceMul, Nat.reduceLT, Nat.reduceLeDiff, Nat.reduceEqDiff, Int.reduceLT, Int.reduceLE, Int.reduceEq, Int.reduceToNat, exY, hg, rO_g0, rO_g1, rO_len, mm, sl, vrangeS, hgen, if_false, oneOf]
  exact num3 b ds hd hx hl ds.length 0 _ (by omega) (by omega) (Heap.own_get _ 36 1 _ (by decide) (fun e => by cases e)) hg ((Heap.own_get_ne _ 36 1 _ 2 1 (by decide)).trans h2)
 rw [w53_1, b53_1]
 cases b
 ·rw [vif_f]; exact two
 ·rw [vif_t, vbin_add]; exact two
end Go.Proofs.YtiahgnkffnokfaaGreatDoor.Ab
