/- Values of keys. -/
import Derived.Test.YtiahgnkffnokfaaGreatDoorDgP
set_option linter.all false
set_option linter.unusedVariables false
set_option linter.unusedSimpArgs false
set_option maxRecDepth 100000
namespace Go.Proofs.YtiahgnkffnokfaaGreatDoor.Ab
open Go Go.AI
def getM (v : VT) (key : List UInt8) : Option VT := if v.kind = 5 then (idxM key v.keys.list).bind fun i => v.l.list[i]? else none
def ansG (o : Option VT) : TVal := match o with
 | none => .tup [.agg (pcells VT.nul.row), .c (.p (.bool false))]
 | some x => .tup [.agg (pcells x.row), .c (.p (.bool true))]
theorem put1_z6 (r : List PVal) (hr : r.length = 6) : put1 [.p (.int .i64 0), .p (.bool false), .p (.int .i64 0), .p (.str []), .p .nilslice, .p .nilslice] 0 (pcells r) = pcells r := put1_all _ _ (by rw [pcells_len, hr]; rfl)
theorem get_ok (v : VT) (key : List UInt8) (sm : smV v) : Om 18 [kA v.row, kS key] [] = some (ansG ((getM v key).map ownV), []) := by
 obtain ⟨s1, s2, s3, s4⟩ := (smV_eq v).1 sm
 refine (orc_none rfl).trans ?_
 show lim tab.get S 18 0 0 [kA v.row, kS key] h0 = _
 rw [w18_0, b18_0]
 by_cases hk : v.kind = 5
 ·unfold getM
  rw [if_pos hk]
  cases hi : idxM key v.keys.list with
  | none =>
   have e1 : idxI (none : Option Nat) 0 < 0 := by decide
   simp (config := { maxSteps := 10000000 }) +contextual only [exa, ne_eq, not_false_eq_true, Nat.reduceAdd, Nat.reduceMul, Nat.reduceLT, Nat.reduceLeDiff, Nat.reduceEqDiff, Int.reduceLT, Int.reduceLE, Int.reduceEq, Int.reduceToNat, exY, u131 v.keys key (by omega), hk, hi, e1]
   rfl
  | some i =>
   have e1 : ¬ ((i : Int) < 0) := by omega
   have e2 : idxI (some i) 0 = (i : Int) := by show ((0 + i : Nat) : Int) = _; omega
   by_cases hl : i < v.l.len
   ·have hl' : (i : Int) < (v.l.len : Int) := by omega
    obtain ⟨x, hs, _, hx⟩ := at_step (l := v.l.list) (i := i) hl
    simp (config := { maxSteps := 10000000 }) +contextual only [exa, ne_eq, not_false_eq_true, Nat.reduceAdd, Nat.reduceMul, Nat.reduceLT, Nat.reduceLeDiff, Nat.reduceEqDiff, Int.reduceLT, Int.reduceLE, Int.reduceEq, Int.reduceToNat, exY, u131 v.keys key (by omega), hk, hi, e1, e2, hl', hs, y156' x (s4 x hx), put1_z6 _ (VT.row_len (ownV x))]
    show _ = some (ansG (Option.map ownV (v.l.list[i]?)), [])
    rw [hs]; rfl
   ·have hl' : ¬ (i : Int) < (v.l.len : Int) := by omega
    have hn : v.l.list[i]? = none := List.getElem?_eq_none (by unfold Sl.len at hl; omega)
    simp (config := { maxSteps := 10000000 }) +contextual only [exa, ne_eq, not_false_eq_true, Nat.reduceAdd, Nat.reduceMul, Nat.reduceLT, Nat.reduceLeDiff, Nat.reduceEqDiff, Int.reduceLT, Int.reduceLE, Int.reduceEq, Int.reduceToNat, exY, u131 v.keys key (by omega), hk, hi, e1, e2, hl', hn]
    show _ = some (ansG (Option.map ownV (v.l.list[i]?)), [])
    rw [hn]; rfl
 ·unfold getM
  rw [if_neg hk]
  simp (config := { maxSteps := 10000000 }) +contextual only [exa, ne_eq, not_false_eq_true, Nat.reduceAdd, Nat.reduceMul, Nat.reduceLT, Nat.reduceLeDiff, Nat.reduceEqDiff, Int.reduceLT, Int.reduceLE, Int.reduceEq, Int.reduceToNat, exY, u131 v.keys key (by omega), hk]
  rfl
theorem y93 {β : Type} {kt : TVal → Heap → AI.Touch → Option β} {h : Heap} {d : Nat} (v : VT) (key : List UInt8) (sm : smV v) : vtouch Om (.call (.k (.v (.c (.func 18 [])))) [.k (kA v.row), .k (kS key)]) h d kt = kt (ansG ((getM v key).map ownV)) h noTouch :=
 t_call0 18 [kA v.row, kS key] _ (by simp only [exP]) (get_ok v key sm) (by cases (getM v key).map ownV <;> simp only [ansG, exP])
theorem u93 {β : Type} {k : TVal → Heap → Option β} {h : Heap} {d : Nat} (v : VT) (key : List UInt8) (sm : smV v) : vcall Om (.v (.c (.func 18 []))) [kA v.row, kS key] h d k = k (ansG ((getM v key).map ownV)) h :=
 vcall_pure 18 _ _ (by simp only [exP]) (get_ok v key sm) (by cases (getM v key).map ownV <;> simp only [ansG, exP])
mutual
def sameV : VT → VT → Bool
 | .mk k b n s ks l, w => (decide (k = w.kind) && (b == w.b) && decide (n = w.n) && decide (s = w.s) && decide (ks.list = w.keys.list)) && sameS l w.l.list
def sameS : Sl VT → List VT → Bool
 | .nil, m => m.isEmpty
 | .mk _ l, m => sameL l m
def sameL : List VT → List VT → Bool
 | [], [] => true
 | x :: l, y :: m => sameV x y && sameL l m
 | _, _ => false
end
theorem sameL_nil : ∀ m : List VT, sameL [] m = m.isEmpty
 | [] => by simp [sameL]
 | _ :: _ => by simp [sameL]
theorem sameV_eq (v w : VT) : sameV v w = ((decide (v.kind = w.kind) && (v.b == w.b) && decide (v.n = w.n) && decide (v.s = w.s) && decide (v.keys.list = w.keys.list)) && sameL v.l.list w.l.list) := by
 cases v with
 | mk k b n s ks l =>
  cases l with
  | nil => rw [sameV, sameS]; show _ = (_ && sameL [] _); rw [sameL_nil]; rfl
  | mk t l => rw [sameV, sameS]; rfl
def diffV (v w : VT) : Bool := !decide (v.kind = w.kind) || !v.b == w.b || !decide (v.n = w.n) || !decide (v.s = w.s) || !decide ((v.keys.len : Int) = (w.keys.len : Int)) || !decide ((v.l.len : Int) = (w.l.len : Int))
def SameOK (x : VT) : Prop := ∀ y, Om 20 [kA x.row, kA y.row] [] = some (kB (sameV x y), [])
abbrev s2 : TVal := .v (.c (.ptr (.own 2 1) 0))
abbrev s3 : TVal := .v (.c (.ptr (.own 3 1) 0))
theorem same_keys (v w : VT) (h : Heap) (a2 : h.get (.own 2 1) = some (.cells (pcells v.row) 0)) (a3 : h.get (.own 3 1) = some (.cells (pcells w.row) 0)) (hl : v.keys.len = w.keys.len) (hb : v.keys.len ≤ 1000) :
  ∀ i : Nat, lim tab.get S 20 0 1 [s2, s3, kI (i : Int)] h = if v.keys.list.drop i = w.keys.list.drop i then lim tab.get S 20 0 2 [s2, s3] h else some (kB false, []) := by
 refine loop_up v.keys.len (fun i hi => ?_) (fun i hi ih => ?_) <;> rw [w20_1, b20_1]
 ·have h1 : ¬ (i : Int) < (v.keys.len : Int) := by omega
  rw [at_end (l := w.keys.list) (i := i) (by unfold Sl.len at hl hi; omega)]
  simp (config := { maxSteps := 10000000 }) +contextual only [exa, ne_eq, not_false_eq_true, Nat.reduceAdd, Nat.reduceMul, Nat.reduceLT, Nat.reduceLeDiff, Nat.reduceEqDiff, Int.reduceLT, Int.reduceLE, Int.reduceEq, Int.reduceToNat, a2, a3, h1, at_end hi, if_true]
 ·have h1 : (i : Int) < (v.keys.len : Int) := by omega
  obtain ⟨x, hx, e1, _⟩ := at_step hi
  obtain ⟨y, hy, e2, _⟩ := at_step (l := w.keys.list) (i := i) (by unfold Sl.len at hl hi; omega)
  rw [e1, e2]
  by_cases hxy : x = y
  ·subst hxy
   simp (config := { maxSteps := 10000000 }) +contextual only [exa, ne_eq, not_false_eq_true, Nat.reduceAdd, Nat.reduceMul, Nat.reduceLT, Nat.reduceLeDiff, Nat.reduceEqDiff, Int.reduceLT, Int.reduceLE, Int.reduceEq, Int.reduceToNat, a2, a3, h1, hx, hy, wrapS i (by omega), ih, List.cons.injEq, true_and]
  ·simp (config := { maxSteps := 10000000 }) +contextual only [exa, ne_eq, not_false_eq_true, Nat.reduceAdd, Nat.reduceMul, Nat.reduceLT, Nat.reduceLeDiff, Nat.reduceEqDiff, Int.reduceLT, Int.reduceLE, Int.reduceEq, Int.reduceToNat, a2, a3, h1, hx, hy, hxy, List.cons.injEq, false_and, if_false, oneOf]
theorem same_vals (v w : VT) (h : Heap) (a2 : h.get (.own 2 1) = some (.cells (pcells v.row) 0)) (a3 : h.get (.own 3 1) = some (.cells (pcells w.row) 0)) (hl : v.l.len = w.l.len) (hb : v.l.len ≤ 1000) (ok : ∀ x ∈ v.l.list, SameOK x) :
  ∀ i : Nat, lim tab.get S 20 0 3 [s2, s3, kI (i : Int)] h = some (kB (sameL (v.l.list.drop i) (w.l.list.drop i)), []) := by
 refine loop_up v.l.len (fun i hi => ?_) (fun i hi ih => ?_) <;> rw [w20_3, b20_3]
 ·have h1 : ¬ (i : Int) < (v.l.len : Int) := by omega
  rw [at_end (l := w.l.list) (i := i) (by unfold Sl.len at hl hi; omega)]
  simp (config := { maxSteps := 10000000 }) +contextual only [exa, ne_eq, not_false_eq_true, Nat.reduceAdd, Nat.reduceMul, Nat.reduceLT, Nat.reduceLeDiff, Nat.reduceEqDiff, Int.reduceLT, Int.reduceLE, Int.reduceEq, Int.reduceToNat, a2, a3, h1, at_end hi, sameL, oneOf]
 ·have h1 : (i : Int) < (v.l.len : Int) := by omega
  obtain ⟨x, hx, e1, mx⟩ := at_step hi
  obtain ⟨y, hy, e2, _⟩ := at_step (l := w.l.list) (i := i) (by unfold Sl.len at hl hi; omega)
  have cc : ∀ {β : Type} {k : TVal → Heap → Option β} {h : Heap} {d : Nat}, vcall Om (.v (.c (.func 20 []))) [kA x.row, kA y.row] h d k = k (kB (sameV x y)) h := vcall_pure 20 _ _ (by simp only [exP]) (ok x mx y) rfl
  rw [e1, e2]
  cases hs : sameV x y
  ·simp (config := { maxSteps := 10000000 }) +contextual only [exa, ne_eq, not_false_eq_true, Nat.reduceAdd, Nat.reduceMul, Nat.reduceLT, Nat.reduceLeDiff, Nat.reduceEqDiff, Int.reduceLT, Int.reduceLE, Int.reduceEq, Int.reduceToNat, a2, a3, h1, hx, hy, cc, hs, sameL, oneOf]
  ·simp (config := { maxSteps := 10000000 }) +contextual only [exa, ne_eq, not_false_eq_true, Nat.reduceAdd, Nat.reduceMul, Nat.reduceLT, Nat.reduceLeDiff, Nat.reduceEqDiff, Int.reduceLT, Int.reduceLE, Int.reduceEq, Int.reduceToNat, a2, a3, h1, hx, hy, cc, hs, sameL, wrapS i (by omega), ih]
theorem same_ok : ∀ (m : Nat) (v : VT), SizeOf.sizeOf v < m → smV v → SameOK v := by
 intro m
 induction m with
 | zero => intro v h; omega
 | succ m ihm =>
  intro v hs sm w
  obtain ⟨t1, t2, t3, t4⟩ := (smV_eq v).1 sm
  refine (orc_none rfl).trans ?_
  show lim tab.get S 20 0 0 [kA v.row, kA w.row] h0 = _
  rw [w20_0, b20_0, sameV_eq]
  cases hd : diffV v w
  ·have hd' := hd
   simp only [diffV, Bool.or_eq_false_iff, Bool.not_eq_false', decide_eq_true_eq] at hd'
   obtain ⟨⟨⟨⟨⟨d1, d2⟩, d3⟩, d4⟩, d5⟩, d6⟩ := hd'
   have d2' : v.b = w.b := by revert d2; cases v.b <;> cases w.b <;> simp
   unfold diffV at hd
   simp (config := { maxSteps := 10000000 }) +contextual only [exa, ne_eq, not_false_eq_true, Nat.reduceAdd, Nat.reduceMul, Nat.reduceLT, Nat.reduceLeDiff, Nat.reduceEqDiff, Int.reduceLT, Int.reduceLE, Int.reduceEq, Int.reduceToNat, exY, hd]
   refine (same_keys v w _ rfl rfl (by omega) t2 0).trans ?_
   rw [List.drop_zero, List.drop_zero, w20_2, b20_2, d1, d2', d3, d4]
   by_cases hk : v.keys.list = w.keys.list
   ·rw [if_pos hk]
    refine (same_vals v w _ rfl rfl (by omega) t3 (fun x hx => ihm x (by have := VT.mem_size hx; omega) (t4 x hx)) 0).trans ?_
    rw [List.drop_zero, List.drop_zero, hk]
    simp
   ·rw [if_neg hk]
    simp [hk]
  ·have hd' := hd
   unfold diffV at hd
   simp (config := { maxSteps := 10000000 }) +contextual only [exa, ne_eq, not_false_eq_true, Nat.reduceAdd, Nat.reduceMul, Nat.reduceLT, Nat.reduceLeDiff, Nat.reduceEqDiff, Int.reduceLT, Int.reduceLE, Int.reduceEq, Int.reduceToNat, exY, hd, oneOf]
   have : (decide (v.kind = w.kind) && (v.b == w.b) && decide (v.n = w.n) && decide (v.s = w.s) && decide (v.keys.list = w.keys.list) && sameL v.l.list w.l.list) = false := by
    refine Bool.eq_false_iff.2 fun e => ?_
    simp only [Bool.and_eq_true, decide_eq_true_eq, beq_iff_eq] at e
    obtain ⟨⟨⟨⟨⟨e1, e2⟩, e3⟩, e4⟩, e5⟩, e6⟩ := e
    have l1 : v.keys.len = w.keys.len := by unfold Sl.len; rw [e5]
    have l2 : v.l.list.length = w.l.list.length := by
     clear hd hd' e5
     revert e6
     generalize w.l.list = b
     induction v.l.list generalizing b with
     | nil => intro e; cases b with | nil => rfl | cons _ _ => rw [sameL_nil] at e; cases e
     | cons x l ih => intro e; cases b with
      | nil => simp [sameL] at e
      | cons y b =>
       rw [sameL, Bool.and_eq_true] at e
       rw [List.length_cons, List.length_cons, ih b e.2]
    have l2' : v.l.len = w.l.len := l2
    have : diffV v w = false := by
     unfold diffV
     rw [e1, e2, e3, e4, l1, l2']
     cases w.b <;> simp
    rw [this] at hd'; cases hd'
   rw [this]
theorem u24 {β : Type} {k : TVal → Heap → Option β} {h : Heap} {d : Nat} (v w : VT) (sm : smV v) : vcall Om (.v (.c (.func 20 []))) [kA v.row, kA w.row] h d k = k (kB (sameV v w)) h := vcall_pure 20 _ _ (by simp only [exP]) (same_ok _ v (Nat.lt_succ_self _) sm w) rfl
end Go.Proofs.YtiahgnkffnokfaaGreatDoor.Ab
