/- The program's reader of values: numbers. -/
import Derived.Test.YtiahgnkffnokfaaGreatDoorDiA
set_option linter.all false
set_option linter.unusedVariables false
set_option linter.unusedSimpArgs false
set_option maxRecDepth 100000
set_option maxHeartbeats 4000000
namespace Go.Proofs.YtiahgnkffnokfaaGreatDoor.Ab
open Go Go.AI
def isD (b : UInt8) : Bool := decide (48 ≤ b.toNat) && decide (b.toNat ≤ 57)
def valD : List UInt8 → Nat → Nat
 | [], a => a
 | b :: l, a => valD l (10 * a + (b.toNat - 48))
theorem valD_app : ∀ (l m : List UInt8) (a : Nat), valD (l ++ m) a = valD m (valD l a)
 | [], _, _ => rfl
 | b :: l, m, a => by rw [List.cons_append, valD, valD_app l m]; rfl
theorem dec_val : ∀ (m u : Nat), u < m → valD (Lib.decDigits u) 0 = u ∧ (∀ b ∈ Lib.decDigits u, isD b = true) ∧ Lib.decDigits u ≠ []
 | 0, _, h => by omega
 | m + 1, u, h => by
  have one : ∀ x, x < 10 → (UInt8.ofNat (48 + x)).toNat = 48 + x := fun x hx => by rw [UInt8.toNat_ofNat', Nat.mod_eq_of_lt (by omega)]
  rw [Lib.decDigits]
  by_cases h1 : u < 10
  ·rw [dif_pos h1]
   refine ⟨?_, fun b hb => ?_, by simp⟩
   ·rw [valD, valD, one u h1]; omega
   ·obtain rfl := List.mem_singleton.1 hb
    unfold isD
    rw [one u h1]
    simp; omega
  ·rw [dif_neg h1]
   obtain ⟨i1, i2, i3⟩ := dec_val m (u / 10) (by omega)
   refine ⟨?_, fun b hb => ?_, by simp⟩
   ·rw [valD_app, i1, valD, valD, one _ (by omega)]; omega
   ·rcases List.mem_append.1 hb with hb | hb
    ·exact i2 b hb
    ·obtain rfl := List.mem_singleton.1 hb
     unfold isD
     rw [one _ (by omega)]
     simp; omega
theorem dec_len : ∀ (N u : Nat), u < 10 ^ (N + 1) → (Lib.decDigits u).length ≤ N + 1
 | 0, u, h => by
  have hu : u < 10 := by simpa using h
  rw [Lib.decDigits, dif_pos hu]; simp
 | N + 1, u, h => by
  rw [Lib.decDigits]
  split
  ·simp
  ·have := dec_len N (u / 10) (by rw [Nat.pow_succ] at h; omega)
   simp; omega
theorem dec_head : ∀ (m u : Nat), u < m → (Lib.decDigits u).head? = some 48 → u = 0
 | 0, _, h, _ => by omega
 | m + 1, u, h, e => by
  rw [Lib.decDigits] at e
  by_cases h1 : u < 10
  ·rw [dif_pos h1] at e
   have e1 : UInt8.ofNat (48 + u) = 48 := by simpa using e
   have : (UInt8.ofNat (48 + u)).toNat = 48 := by rw [e1]; rfl
   rw [UInt8.toNat_ofNat', Nat.mod_eq_of_lt (by omega)] at this
   omega
  ·rw [dif_neg h1] at e
   have hne := (dec_val (u / 10 + 1) (u / 10) (by omega)).2.2
   have e1 : (Lib.decDigits (u / 10)).head? = some 48 := by
    cases hd : Lib.decDigits (u / 10) with
    | nil => exact absurd hd hne
    | cons a l => rw [hd] at e; simpa using e
   have := dec_head m (u / 10) (by omega) e1
   omega
theorem valD_lt : ∀ (l : List UInt8) (a : Nat), (∀ b ∈ l, isD b = true) → valD l a < (a + 1) * 10 ^ l.length
 | [], a, _ => by rw [valD]; simp
 | b :: l, a, h => by
  have hb := h b (by simp)
  unfold isD at hb
  simp only [Bool.and_eq_true, decide_eq_true_eq] at hb
  have := valD_lt l (10 * a + (b.toNat - 48)) (fun x hx => h x (by simp [hx]))
  rw [valD, List.length_cons, Nat.pow_succ]
  refine Nat.lt_of_lt_of_le this ?_
  have h10 : 10 * a + (b.toNat - 48) + 1 ≤ (a + 1) * 10 := by omega
  calc (10 * a + (b.toNat - 48) + 1) * 10 ^ l.length ≤ ((a + 1) * 10) * 10 ^ l.length := Nat.mul_le_mul_right _ h10
   _ = (a + 1) * (10 ^ l.length * 10) := by rw [Nat.mul_assoc, Nat.mul_comm 10]
abbrev r2 : TVal := .v (.c (.ptr (.own 2 1) 0))

abbrev rO (s : List UInt8) (e : Int) : AObj := .cells (pcells [.str s, .int .i64 e]) 0
theorem rO_g0 (a b : PVal) : (pcells [a, b])[0]? = some (.p a) := rfl
theorem rO_g1 (a b : PVal) : (pcells [a, b])[1]? = some (.p b) := rfl
theorem rO_p0 (a b x : PVal) : put1 (pcells [a, b]) 0 [.p x] = pcells [x, b] := rfl
theorem rO_p1 (a b x : PVal) : put1 (pcells [a, b]) 1 [.p x] = pcells [a, x] := rfl
theorem rO_len (a b : PVal) : (pcells [a, b]).length = 2 := rfl
theorem plain_rO (s : List UInt8) (e : Int) : plainO (rO s e) := plainO_cells _ 0
theorem rO_h (s : List UInt8) (e : Int) : (Heap.mk [rO s e] .nil).get (.im 0) = some (rO s e) := rfl
theorem u54 {β : Type} {k : TVal → Heap → Option β} {h : Heap} {d : Nat} (s : List UInt8) (hb : noB s) : vcall Om (.v (.c (.func 54 []))) [kS s, kS [32, 9, 10, 13]] h d k = k (kS s) h := vcall_pure 54 _ _ rfl (trim54 s hb) rfl
theorem blanks27 (s : List UInt8) (e : Int) (hb : noB s) : Om 27 [P0] [rO s e] = some (.tup [], [rO s e]) := by
 refine (orc_none rfl).trans ?_
 show lim tab.get S 27 1 0 [P0] { ims := [rO s e], owns := .nil } = _
 have c := fun {β : Type} {k : TVal → Heap → Option β} {h : Heap} {d : Nat} => u54 (β := β) (k := k) (h := h) (d := d) s hb
 rw [w27_0, b27_0]
 simp (config := { maxSteps := 10000000 }) +contextual only [exa, ne_eq, not_false_eq_true, Nat.reduceAdd, Nat.reduceMul, Nat.reduceLT, Nat.reduceLeDiff, Nat.reduceEqDiff, Int.reduceLT, Int.reduceLE, Int.reduceEq, Int.reduceToNat, exY, rO_h, rO_g0, rO_g1, rO_p0, rO_p1, rO_len, c, oneOf]
theorem take48 (s w : List UInt8) : Om 48 [P0, kS w] [rO s 0] = some (kB (decide (s.take w.length = w)), [rO (if s.take w.length = w then s.drop w.length else s) 0]) := by
 refine (orc_none rfl).trans ?_
 show lim tab.get S 48 1 0 [P0, kS w] { ims := [rO s 0], owns := .nil } = _
 rw [w48_0, b48_0]
 by_cases h : s.take w.length = w
 ·have hl : w.length ≤ s.length := by have := congrArg List.length h; simp at this; omega
  have c := fun {β : Type} {k : TVal → Heap → Option β} {hh : Heap} {d : Nat} => u75 (β := β) (k := k) (h := hh) (d := d) s w
  rw [decide_eq_true h] at c
  have sl : ∀ {β : Type} {k : TVal → Heap → Option β} {hh : Heap} {d : Nat}, vop Om (.slice 0 true (.k (kS s)) (some (.k (kI (w.length : Int)))) none none) hh d k = k (kS (s.drop w.length)) hh := fun {β k hh d} => vslice_l s w.length hl
  simp (config := { maxSteps := 10000000 }) +contextual only [exa, ne_eq, not_false_eq_true, Nat.reduceAdd, Nat.reduceMul, Nat.reduceLT, Nat.reduceLeDiff, Nat.reduceEqDiff, Int.reduceLT, Int.reduceLE, Int.reduceEq, Int.reduceToNat, exY, rO_h, rO_g0, rO_g1, rO_p0, rO_p1, rO_len, c, h, hl, sl, if_true, oneOf]
 ·have c := fun {β : Type} {k : TVal → Heap → Option β} {hh : Heap} {d : Nat} => u75 (β := β) (k := k) (h := hh) (d := d) s w
  rw [decide_eq_false h] at c
  simp (config := { maxSteps := 10000000 }) +contextual only [exa, ne_eq, not_false_eq_true, Nat.reduceAdd, Nat.reduceMul, Nat.reduceLT, Nat.reduceLeDiff, Nat.reduceEqDiff, Int.reduceLT, Int.reduceLE, Int.reduceEq, Int.reduceToNat, exY, rO_h, rO_g0, rO_g1, rO_p0, rO_p1, rO_len, c, h, if_false, oneOf]
theorem isD_n {b : UInt8} (h : isD b = true) : 48 ≤ b.toNat ∧ b.toNat ≤ 57 := by
 simpa [isD] using h
theorem digits76 (ds : List UInt8) (hd : ∀ b ∈ ds, isD b = true) (hz : ds[0]? = some 48 → ds.length = 1) (hn : ds ≠ []) : Om 76 [kS ds] [] = some (kI (ds.length : Int), []) := by
 refine (orc_none rfl).trans ?_
 show lim tab.get S 76 0 0 [kS ds] h0 = _
 rw [w76_0, b76_0, vrangeS]
 obtain ⟨b0, hb0⟩ : ∃ b, ds[0]? = some b := ⟨ds[0]'(by cases ds with | nil => exact absurd rfl hn | cons a l => simp), by simp⟩
 have loop : ∀ (m pos : Nat) (h : Heap), ds.length - pos = m → pos ≤ ds.length → h.get (.own 6 1) = some (.siter ds pos) → lim tab.get S 76 0 1 [kS ds, .v (.c (.ptr (.own 6 1) 0))] h = some (kI (ds.length : Int), []) := by
  intro m
  induction m with
  | zero =>
   intro pos h hm hl hh
   rw [w76_1, b76_1, vnextS_end ds pos _ hh (by omega), vext_tup _ 0 (.c (.p (.bool false))) rfl, vif_f, w76_2, b76_2]
   by_cases h1 : (1 : Int) < (ds.length : Int)
   ·have h2 : ¬ ((b0.toNat : Nat) : Int) = 48 := fun e => by
     have e2 : b0 = 48 := UInt8.toNat_inj.1 (by show b0.toNat = 48; omega)
     have := hz (by rw [hb0, e2])
     omega
    simp (config := { maxSteps := 10000000 }) +contextual only [exa, ne_eq, not_false_eq_true, Nat.reduceAdd, Nat.reduceMul, Nat.reduceLT, Nat.reduceLeDiff, Nat.reduceEqDiff, Int.reduceLT, Int.reduceLE, Int.reduceEq, Int.reduceToNat, h1, hb0, h2, oneOf]
   ·simp (config := { maxSteps := 10000000 }) +contextual only [exa, ne_eq, not_false_eq_true, Nat.reduceAdd, Nat.reduceMul, Nat.reduceLT, Nat.reduceLeDiff, Nat.reduceEqDiff, Int.reduceLT, Int.reduceLE, Int.reduceEq, Int.reduceToNat, h1, oneOf]
  | succ m ih =>
   intro pos h hm hl hh
   obtain ⟨b, hb⟩ : ∃ b, ds[pos]? = some b := ⟨ds[pos]'(by omega), by simp⟩
   obtain ⟨q1, q2⟩ := isD_n (hd b (List.mem_of_getElem? hb))
   have r1 : ¬ ((b.toNat : Nat) : Int) < 48 := by omega
   have r2 : ¬ (57 : Int) < ((b.toNat : Nat) : Int) := by omega
   have ih := ih (pos + 1) (h.own 6 1 (.siter ds (pos + 1))) (by omega) (by omega) (Heap.own_get h 6 1 _ (by decide) (fun e => by cases e))
   rw [w76_1, b76_1, vnextS_more ds pos _ hh (by omega), vext_tup _ 0 (.c (.p (.bool true))) rfl, vif_t, utf8_ascii ds pos b hb (by omega), vext_tup _ 1 (.c (.p (.int .i64 (pos : Int)))) rfl, vext_tup _ 2 (.c (.p (.int .i32 (b.toNat : Int)))) rfl]
   by_cases hp : (pos : Int) = 1
   ·have h2 : ¬ ((b0.toNat : Nat) : Int) = 48 := fun e => by
     have e2 : b0 = 48 := UInt8.toNat_inj.1 (by show b0.toNat = 48; omega)
     have := hz (by rw [hb0, e2])
     omega
    simp (config := { maxSteps := 10000000 }) +contextual only [exa, ne_eq, not_false_eq_true, Nat.reduceAdd, Nat.reduceMul, Nat.reduceLT, Nat.reduceLeDiff, Nat.reduceEqDiff, Int.reduceLT, Int.reduceLE, Int.reduceEq, Int.reduceToNat, r1, r2, hp, hb0, h2, ih, oneOf]
   ·simp (config := { maxSteps := 10000000 }) +contextual only [exa, ne_eq, not_false_eq_true, Nat.reduceAdd, Nat.reduceMul, Nat.reduceLT, Nat.reduceLeDiff, Nat.reduceEqDiff, Int.reduceLT, Int.reduceLE, Int.reduceEq, Int.reduceToNat, r1, r2, hp, ih, oneOf]
 refine (loop ds.length 0 _ (by omega) (by omega) (Heap.own_get _ 6 1 _ (by decide) (fun e => by cases e))).trans ?_
 rfl
end Go.Proofs.YtiahgnkffnokfaaGreatDoor.Ab
