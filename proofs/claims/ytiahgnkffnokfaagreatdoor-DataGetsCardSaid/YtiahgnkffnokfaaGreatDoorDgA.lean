/- Where the contracts stand: the program's machine; rows of names. -/
import Derived.Test.YtiahgnkffnokfaaGreatDoorTabGW
import Derived.Test.YtiahgnkffnokfaaGreatDoorVtA
import Derived.Test.YtiahgnkffnokfaaGreatDoorQuO
set_option linter.all false
set_option linter.unusedVariables false
set_option linter.unusedSimpArgs false
set_option maxRecDepth 100000
namespace Go.Proofs.YtiahgnkffnokfaaGreatDoor.Ab
open Go Go.AI
noncomputable def S : Oracle := orS (SQ 31) (orS (SI 102) (SJ 32))
noncomputable abbrev W : Mach := lim tab.get S
noncomputable abbrev Om : Oracle := orc S W
abbrev kA (r : List PVal) : TVal := .v (.agg (pcells r))
def idxM (x : List UInt8) : List (List UInt8) → Option Nat
 | [] => none
 | a :: l => if x = a then some 0 else (idxM x l).map (· + 1)
def idxI (o : Option Nat) (i : Nat) : Int := match o with
 | none => -1
 | some n => ((i + n : Nat) : Int)
theorem idxI_s (o : Option Nat) (i : Nat) : idxI (o.map (· + 1)) i = idxI o (i + 1) := by cases o <;> simp [idxI]; omega
theorem index_loop (l : Sl (List UInt8)) (x : List UInt8) (hl : l.len < 4611686018427387904) (h : Heap) : ∀ i : Nat, lim tab.get S 37 0 1 [.v (.c (.p (slP 1 sRow l))), kS x, kI (l.len : Int), kI (i : Int)] h = some (kI (idxI (idxM x (l.list.drop i)) i), []) := by
 refine loop_up l.len (fun i hi => ?_) (fun i hi ih => ?_) <;> rw [w37_1, b37_1]
 ·have h1 : ¬ (i : Int) < (l.len : Int) := by omega
  simp (config := { maxSteps := 10000000 }) +contextual only [exa, ne_eq, not_false_eq_true, Nat.reduceAdd, Nat.reduceMul, Nat.reduceLT, Nat.reduceLeDiff, Nat.reduceEqDiff, Int.reduceLT, Int.reduceLE, Int.reduceEq, Int.reduceToNat, h1, at_end hi, oneOf, idxM, idxI]
 ·have h1 : (i : Int) < (l.len : Int) := by omega
  obtain ⟨b, hs, h2, _⟩ := at_step hi
  by_cases h3 : x = b
  ·simp (config := { maxSteps := 10000000 }) +contextual only [exa, ne_eq, not_false_eq_true, Nat.reduceAdd, Nat.reduceMul, Nat.reduceLT, Nat.reduceLeDiff, Nat.reduceEqDiff, Int.reduceLT, Int.reduceLE, Int.reduceEq, Int.reduceToNat, h1, h2, hs, h3, oneOf, idxM, idxI, if_true]
  ·simp (config := { maxSteps := 10000000 }) +contextual only [exa, ne_eq, not_false_eq_true, Nat.reduceAdd, Nat.reduceMul, Nat.reduceLT, Nat.reduceLeDiff, Nat.reduceEqDiff, Int.reduceLT, Int.reduceLE, Int.reduceEq, Int.reduceToNat, h1, h2, hs, h3, oneOf, idxM, wrapS i (by omega), ih, if_false, idxI_s]
theorem index_ok (l : Sl (List UInt8)) (x : List UInt8) (hl : l.len < 4611686018427387904) : Om 37 [.v (.c (.p (slP 1 sRow l))), kS x] [] = some (kI (idxI (idxM x l.list) 0), []) := by
 refine (orc_none rfl).trans ?_
 show lim tab.get S 37 0 0 [.v (.c (.p (slP 1 sRow l))), kS x] h0 = _
 rw [w37_0, b37_0]
 simp (config := { maxSteps := 10000000 }) +contextual only [exa, ne_eq, not_false_eq_true, Nat.reduceAdd, Nat.reduceMul, Nat.reduceLT, Nat.reduceLeDiff, Nat.reduceEqDiff, Int.reduceLT, Int.reduceLE, Int.reduceEq, Int.reduceToNat]
 exact index_loop l x hl h0 0
theorem u131 {β : Type} {k : TVal → Heap → Option β} {h : Heap} {d : Nat} (l : Sl (List UInt8)) (x : List UInt8) (hl : l.len < 4611686018427387904) : vcall Om (.v (.c (.func 37 []))) [.v (.c (.p (slP 1 sRow l))), kS x] h d k = k (kI (idxI (idxM x l.list) 0)) h := vcall_pure 37 _ _ rfl (index_ok l x hl) rfl
def withinM (a n : Int) : Int := if a.tmod n < 0 then a.tmod n + n else a.tmod n
theorem withinM_lt (a n : Int) (hn : 0 < n) : 0 ≤ withinM a n ∧ withinM a n < n := by
 have h1 := Int.tmod_lt_of_pos a hn
 have h2 : -n < a.tmod n := by
  have := Int.tmod_lt_of_pos (-a) hn
  rw [Int.neg_tmod] at this; omega
 unfold withinM
 split <;> omega
end Go.Proofs.YtiahgnkffnokfaaGreatDoor.Ab
