/- DataGets: the law's walk. -/
import Derived.Test.YtiahgnkffnokfaaGreatDoorDgT
set_option linter.all false
set_option linter.unusedVariables false
set_option linter.unusedSimpArgs false
set_option maxRecDepth 100000
set_option maxHeartbeats 4000000
namespace Go.Proofs.YtiahgnkffnokfaaGreatDoor.Ab
open Go Go.AI
theorem u11 {β : Type} {k : TVal → Heap → Option β} {h : Heap} {d : Nat} : vcall Om (.v (.c (.func 11 []))) [] h d k = k (kB true) h := vcall_pure 11 _ _ rfl known11 rfl
theorem gets_law (r : RT) (key : List UInt8) (a : Int) : orc S (lim tab.get S) 7 [kA r.row, kS key, kI a] [] = some (kB true, []) := by
 refine (orc_none rfl).trans ?_
 show lim tab.get S 7 0 0 [kA r.row, kS key, kI a] h0 = _
 rw [w7_0, b7_0]
 have rl := RT.row_len r
 by_cases hf : fewR r 60 = 0
 ·simp (config := { maxSteps := 10000000 }) +contextual only [exa, ne_eq, not_false_eq_true, Nat.reduceAdd, Nat.reduceMul, Nat.reduceLT, Nat.reduceLeDiff, Nat.reduceEqDiff, Int.reduceLT, Int.reduceLE, Int.reduceEq, Int.reduceToNat, exW, exY, u11, u29, hf, rl, oneOf]
 by_cases hl : (50 : Int) < (key.length : Int)
 ·simp (config := { maxSteps := 10000000 }) +contextual only [exa, ne_eq, not_false_eq_true, Nat.reduceAdd, Nat.reduceMul, Nat.reduceLT, Nat.reduceLeDiff, Nat.reduceEqDiff, Int.reduceLT, Int.reduceLE, Int.reduceEq, Int.reduceToNat, exW, exY, u11, u29, hf, hl, rl, oneOf]
 have sm := few_small (by decide) hf
 have sv := sm_good sm 5
 have c16 := fun {β : Type} {k : TVal → Heap → Option β} {h : Heap} {d : Nat} => u31 (β := β) (k := k) (h := h) (d := d) r sm 5
 have hi := good_inv r 5
 generalize goodR r 5 = v at *
 have c18 := fun {β : Type} {k : TVal → Heap → Option β} {h : Heap} {d : Nat} => u93 (β := β) (k := k) (h := h) (d := d) v key sv
 have hkl : v.keys.len ≤ 1000 := ((smV_eq v).1 sv).2.1
 have c19 := fun {β : Type} {k : TVal → Heap → Option β} {h : Heap} {d : Nat} => u39 (β := β) (k := k) (h := h) (d := d) v key hkl
 have rv := VT.row_len v
 obtain ⟨is, X, Y, e18, e19, e20, e0⟩ : ∃ (is : Bool) (X Y : VT),
   (∀ {β : Type} {k : TVal → Heap → Option β} {h : Heap} {d : Nat}, vcall Om (.v (.c (.func 18 []))) [kA v.row, kS key] h d k = k (.tup [.agg (pcells X.row), .c (.p (.bool is))]) h) ∧
   (∀ {β : Type} {k : TVal → Heap → Option β} {h : Heap} {d : Nat}, vcall Om (.v (.c (.func 19 []))) [kA v.row, kS key] h d k = k (.tup [.agg (pcells Y.row), .c (.p (.bool is))]) h) ∧
   (∀ {β : Type} {k : TVal → Heap → Option β} {h : Heap} {d : Nat}, vcall Om (.v (.c (.func 20 []))) [kA X.row, kA Y.row] h d k = k (kB true) h) ∧ (v.keys.list = [] → is = false) := by
  cases hg : getM v key with
  | none =>
   rw [hg] at c18 c19
   refine ⟨false, VT.nul, VT.nul, c18, c19, fun {β k h d} => ?_, fun _ => rfl⟩
   have := u24 (β := β) (k := k) (h := h) (d := d) VT.nul VT.nul nul_sm
   rw [sameR] at this
   exact this
  | some y =>
   rw [hg] at c18 c19
   have sy : smV y := by
    unfold getM at hg
    split at hg
    ·cases hx : idxM key v.keys.list with
     | none => rw [hx] at hg; cases hg
     | some i => rw [hx] at hg; exact ((smV_eq v).1 sv).2.2.2 y (List.mem_of_getElem? hg)
    ·cases hg
   refine ⟨true, ownV y, y, c18, c19, fun {β k h d} => ?_, fun e => ?_⟩
   ·have := u24 (β := β) (k := k) (h := h) (d := d) (ownV y) y (sm_own sy)
    rw [sameO] at this
    exact this
   ·rw [get_none e] at hg; cases hg
 have rX := VT.row_len X
 have rY := VT.row_len Y
 have b1 : (!(is == is)) = false := by cases is <;> rfl
 by_cases hk : v.keys.list = []
 ·have z : (v.keys.len : Int) = 0 := by unfold Sl.len; rw [hk]; rfl
  obtain rfl := e0 hk
  simp (config := { maxSteps := 10000000 }) +contextual only [exa, ne_eq, not_false_eq_true, Nat.reduceAdd, Nat.reduceMul, Nat.reduceLT, Nat.reduceLeDiff, Nat.reduceEqDiff, Int.reduceLT, Int.reduceLE, Int.reduceEq, Int.reduceToNat, exW, exY, u11, u29, hf, hl, rl, c16, e18, e19, e20, b1, z, put1_z6 _ rv, put1_z6 _ rX, put1_z6 _ rY, rv, rX, rY, oneOf]
 ·have hpos : 0 < v.keys.list.length := List.length_pos_iff.2 hk
  have z : ¬ (v.keys.len : Int) = 0 := by unfold Sl.len; omega
  obtain ⟨n, H⟩ := hi.resolve_left hk
  have hw := withinM_lt a (v.keys.len : Int) (by unfold Sl.len; omega)
  obtain ⟨K, hK⟩ : ∃ K : Nat, withinM a (v.keys.len : Int) = (K : Int) := ⟨(withinM a (v.keys.len : Int)).toNat, by omega⟩
  have hKl : K < v.keys.list.length := by unfold Sl.len at hw hK; omega
  obtain ⟨x, hx⟩ : ∃ x, v.keys.list[K]? = some x := ⟨v.keys.list[K], by simp⟩
  obtain ⟨y, hy, hg⟩ := get_at H hx
  have sy : smV y := ((smV_eq v).1 sv).2.2.2 y (List.mem_of_getElem? hy)
  have y18 := fun {β : Type} {kt : TVal → Heap → AI.Touch → Option β} {h : Heap} {d : Nat} => y93 (β := β) (kt := kt) (h := h) (d := d) v x sv
  rw [hg] at y18
  have c20 := fun {β : Type} {k : TVal → Heap → Option β} {h : Heap} {d : Nat} => u24 (β := β) (k := k) (h := h) (d := d) (ownV y) y (sm_own sy)
  rw [sameO] at c20
  have ro := VT.row_len (ownV y)
  have ry := VT.row_len y
  have A1 : AI.Touch.apart ⟨[(Ref.own 7 1).site], [], false⟩ ⟨[], [.own 13], false⟩ = true := rfl
  have c12 := fun {β : Type} {k : TVal → Heap → Option β} {h : Heap} {d : Nat} => u12 (β := β) (k := k) (h := h) (d := d) a (v.keys.len : Int) (by omega) (by omega)
  rw [hK] at c12
  simp (config := { maxSteps := 10000000 }) +contextual only [exa, ne_eq, not_false_eq_true, Nat.reduceAdd, Nat.reduceMul, Nat.reduceLT, Nat.reduceLeDiff, Nat.reduceEqDiff, Int.reduceLT, Int.reduceLE, Int.reduceEq, Int.reduceToNat, exW, exY, t_alloc, t_store, A1, u11, u29, hf, hl, rl, c16, e18, e19, e20, b1, z, c12, y18, c20, hx, hy, ansG, Option.map, put1_z6 _ rv, put1_z6 _ rX, put1_z6 _ rY, put1_z6 _ ro, rv, rX, rY, ro, ry, oneOf]
end Go.Proofs.YtiahgnkffnokfaaGreatDoor.Ab
