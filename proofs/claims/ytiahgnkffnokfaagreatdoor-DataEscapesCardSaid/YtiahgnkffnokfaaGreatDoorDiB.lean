/- The program's reader of values: numbers. -/
import Derived.Test.YtiahgnkffnokfaaGreatDoorDiA
set_option linter.all false
set_option linter.unusedVariables false
set_option linter.unusedSimpArgs false
set_option maxRecDepth 100000
set_option maxHeartbeats 4000000
namespace Go.Proofs.YtiahgnkffnokfaaGreatDoor.Ab
open Go Go.AI
abbrev r2 : TVal := .v (.c (.ptr (.own 2 1) 0))

abbrev rO (s : List UInt8) (e : Int) : AObj := .cells (pcells [.str s, .int .i64 e]) 0
theorem rO_g0 (a b : PVal) : (pcells [a, b])[0]? = some (.p a) := rfl
theorem rO_g1 (a b : PVal) : (pcells [a, b])[1]? = some (.p b) := rfl
theorem rO_p0 (a b x : PVal) : put1 (pcells [a, b]) 0 [.p x] = pcells [x, b] := rfl
theorem rO_p1 (a b x : PVal) : put1 (pcells [a, b]) 1 [.p x] = pcells [a, x] := rfl
theorem rO_len (a b : PVal) : (pcells [a, b]).length = 2 := rfl
theorem plain_rO (s : List UInt8) (e : Int) : plainO (rO s e) := plainO_cells _ 0
theorem rO_h (s : List UInt8) (e : Int) : (Heap.mk [rO s e] .nil).get (.im 0) = some (rO s e) := rfl
theorem u54 {β : Type} {k : TVal → Heap → Option β} {h : Heap} {d : Nat} (s : List UInt8) (hb : noB s) : vcall Om (.v (.c (.func 54 []))) [kS s, kS [32, 9, 10, 13]] h d k = k (kS s) h := vcall_pure 54 _ _ rfl (trim54 s hb) rfl
theorem blanks27 (s : List UInt8) (e : Int) (hb : noB s) : Om 27 [P0] [rO s e] = some (.tup [], [rO s e]) := by
 refine (orc_none rfl).trans ?_
 show lim tab.get S 27 1 0 [P0] { ims := [rO s e], owns := .nil } = _
 have c := fun {β : Type} {k : TVal → Heap → Option β} {h : Heap} {d : Nat} => u54 (β := β) (k := k) (h := h) (d := d) s hb
 rw [w27_0, b27_0]
 simp (config := { maxSteps := 10000000 }) +contextual only [exa, ne_eq, not_false_eq_true, Nat.reduceAdd, Nat.reduceMul, Nat.reduceLT, Nat.reduceLeDiff, Nat.reduceEqDiff, Int.reduceLT, Int.reduceLE, Int.reduceEq, Int.reduceToNat, exY, rO_h, rO_g0, rO_g1, rO_p0, rO_p1, rO_len, c, oneOf]
theorem take48 (s w : List UInt8) : Om 48 [P0, kS w] [rO s 0] = some (kB (decide (s.take w.length = w)), [rO (if s.take w.length = w then s.drop w.length else s) 0]) := by
 refine (orc_none rfl).trans ?_
 show lim tab.get S 48 1 0 [P0, kS w] { ims := [rO s 0], owns := .nil } = _
 rw [w48_0, b48_0]
 by_cases h : s.take w.length = w
 ·have hl : w.length ≤ s.length := by have := congrArg List.length h; simp at this; omega
  have c := fun {β : Type} {k : TVal → Heap → Option β} {hh : Heap} {d : Nat} => u75 (β := β) (k := k) (h := hh) (d := d) s w
  rw [decide_eq_true h] at c
  have sl : ∀ {β : Type} {k : TVal → Heap → Option β} {hh : Heap} {d : Nat}, vop Om (.slice 0 true (.k (kS s)) (some (.k (kI (w.length : Int)))) none none) hh d k = k (kS (s.drop w.length)) hh := fun {β k hh d} => vslice_l s w.length hl
  simp (config := { maxSteps := 10000000 }) +contextual only [exa, ne_eq, not_false_eq_true, Nat.reduceAdd, Nat.reduceMul, Nat.reduceLT, Nat.reduceLeDiff, Nat.reduceEqDiff, Int.reduceLT, Int.reduceLE, Int.reduceEq, Int.reduceToNat, exY, rO_h, rO_g0, rO_g1, rO_p0, rO_p1, rO_len, c, h, hl, sl, if_true, oneOf]
 ·have c := fun {β : Type} {k : TVal → Heap → Option β} {hh : Heap} {d : Nat} => u75 (β := β) (k := k) (h := hh) (d := d) s w
  rw [decide_eq_false h] at c
  simp (config := { maxSteps := 10000000 }) +contextual only [exa, ne_eq, not_false_eq_true, Nat.reduceAdd, Nat.reduceMul, Nat.reduceLT, Nat.reduceLeDiff, Nat.reduceEqDiff, Int.reduceLT, Int.reduceLE, Int.reduceEq, Int.reduceToNat, exY, rO_h, rO_g0, rO_g1, rO_p0, rO_p1, rO_len, c, h, if_false, oneOf]
end Go.Proofs.YtiahgnkffnokfaaGreatDoor.Ab
