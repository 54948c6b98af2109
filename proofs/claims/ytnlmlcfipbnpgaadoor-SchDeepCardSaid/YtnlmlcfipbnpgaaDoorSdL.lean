/- SchDeep: the law's walk. -/
import Derived.Test.YtnlmlcfipbnpgaaDoorSdB
import Derived.Test.YtnlmlcfipbnpgaaDoorSdC
import Derived.Test.YtnlmlcfipbnpgaaDoorSdD
import Derived.Test.YtnlmlcfipbnpgaaDoorSdE
import Derived.Test.YtnlmlcfipbnpgaaDoorVtC
set_option linter.all false
set_option linter.unusedVariables false
set_option linter.unusedSimpArgs false
set_option maxRecDepth 100000
set_option maxHeartbeats 4000000
namespace Go.Proofs.YtnlmlcfipbnpgaaDoor.Ab
open Go Go.AI
theorem pre_len (r : Nat) : (preD.getD r []).length ≤ 10 := by
 match r with
 | 0 | 1 | 2 | 3 | 4 => decide
 | n + 5 => exact Nat.zero_le _
theorem suf_len (r : Nat) : (sufD.getD r []).length ≤ 1 := by
 match r with
 | 0 | 1 | 2 | 3 | 4 => decide
 | n + 5 => exact Nat.zero_le _
theorem textD_len (way : Int) : ∀ i : Nat, (textD way i).length ≤ 3 + 11 * i
 | 0 => Nat.le_refl 3
 | i + 1 => by
  have := textD_len way i
  have h1 := pre_len (rD way (i + 1)).toNat
  have h2 := suf_len (rD way (i + 1)).toNat
  rw [textD]
  unfold stepD
  simp only [List.length_append]
  omega
theorem rD_five (way : Int) (k : Nat) : rD way k = 0 ∨ rD way k = 1 ∨ rD way k = 2 ∨ rD way k = 3 ∨ rD way k = 4 := by
 have := withinM_lt (IntKind.i64.wrap (way + (k : Int))) 5 (by decide)
 unfold rD
 omega
abbrev sl5 (a b c d e : List UInt8) : TVal := kSl 1 true [[.str a], [.str b], [.str c], [.str d], [.str e]]
theorem t_b5 {β : Type} {O : Oracle} {kt : TVal → Heap → AI.Touch → Option β} {h : Heap} {d : Nat} (a b c e f : List UInt8) : vtouch O (.bslice 1 5 [.p (.str [])] [(0, .k (kS a)), (1, .k (kS b)), (2, .k (kS c)), (3, .k (kS e)), (4, .k (kS f))] false) h d kt = kt (sl5 a b c e f) h noTouch := t_plan _ _ rfl
theorem y19 {β : Type} {kt : TVal → Heap → AI.Touch → Option β} {h : Heap} {d : Nat} (a n : Int) (hn : 0 < n) (hs : n < 1000000) : vtouch Om (.call (.k (.v (.c (.func 19 [])))) [.k (kI a), .k (kI n)]) h d kt = kt (kI (withinM a n)) h noTouch :=
 t_call0 19 [kI a, kI n] _ rfl (within19 a n hn hs) rfl
theorem deep_loop (way : Int) (M : Nat) (hM : M ≤ 14) (h : Heap) : ∀ i : Nat, i ≤ M → lim tab.get S 7 0 1 [kI ((M : Int) + 1), kI way, kS (textD way i), kI ((i : Int) + 1)] h = lim tab.get S 7 0 2 [kI ((M : Int) + 1), kS (textD way M)] h := by
 refine loop_up M (fun i hi hi2 => ?_) (fun i hi ih hi2 => ?_) <;> rw [w7_1, b7_1]
 ·obtain rfl : i = M := by omega
  have h1 : ¬ ((i : Int) + 1 < (i : Int) + 1) := by omega
  simp (config := { maxSteps := 10000000 }) +contextual only [exa, ne_eq, not_false_eq_true, Nat.reduceAdd, Nat.reduceMul, Nat.reduceLT, Nat.reduceLeDiff, Nat.reduceEqDiff, Int.reduceLT, Int.reduceLE, Int.reduceEq, Int.reduceToNat, exY, h1]
 ·have h1 : ((i : Int) + 1 < (M : Int) + 1) := by omega
  have ih := ih (by omega)
  have wi : withinM (IntKind.i64.wrap (way + ((i : Int) + 1))) 5 = rD way (i + 1) := rfl
  have ws : IntKind.i64.wrap ((i : Int) + 1 + 1) = ((i : Int) + 1 + 1) := wrap_i64 _ (by omega) (by omega)
  have hl := textD_len way i
  have tx : textD way (i + 1) = stepD (rD way (i + 1)).toNat (textD way i) := rfl
  have ei : (((i + 1 : Nat) : Int) + 1) = (i : Int) + 1 + 1 := by omega
  rw [ei, tx] at ih
  generalize textD way i = s at *
  have g1 : ∀ n, n ≤ 200 → decide (n + s.length ≤ 4611686018427387904) = true := fun n hn => decide_eq_true (by omega)
  have g2 : ∀ a : List UInt8, a.length ≤ 200 → decide ((a ++ s).length ≤ 4611686018427387903) = true := fun a ha => decide_eq_true (by rw [List.length_append]; omega)
  rcases rD_five way (i + 1) with hr | hr | hr | hr | hr <;> rw [hr] at ih wi <;>
  ·simp only [stepD, preD, sufD, Int.toNat_zero, Int.toNat_one, Int.reduceToNat, List.getD_cons_zero, List.getD_cons_succ] at ih
   simp (config := { maxSteps := 10000000 }) +contextual only [exa, ne_eq, not_false_eq_true, Nat.reduceAdd, Nat.reduceMul, Nat.reduceLT, Nat.reduceLeDiff, Nat.reduceEqDiff, Int.reduceLT, Int.reduceLE, Int.reduceEq, Int.reduceToNat, exY, h1, t_b5, y19 _ 5 (by decide) (by decide), wi, ws]
   rw [g1 _ (by decide), g2 _ (by decide)]
   exact ih
theorem okAll {P : Nat → Bool} (h : (List.range 15).all P = true) (k : Nat) (hk : k ≤ 14) : P k = true := List.all_eq_true.1 h k (List.mem_range.2 (by omega))
theorem type_deep (way : Int) (h1 : -9223372036854775808 ≤ way) (h2 : way ≤ 9223372036854775807) (M : Nat) (hM : M ≤ 14) : ∃ cs : List Cell, cs.length = 4 ∧ pT (.tup [.agg cs, .c (.p (.int .i64 (bif Nat.ble M 11 then 0 else 13)))]) = true ∧ Om 16 [kS (textD way M)] [] = some (.tup [.agg cs, .c (.p (.int .i64 (bif Nat.ble M 11 then 0 else 13)))], []) := by
 obtain ⟨j, hj, ht⟩ := text_of way h1 h2
 rw [ht M hM]
 refine type_of ?_
 match j, hj with
 | 0, _ => exact okAll td0 M hM
 | 1, _ => exact okAll td1 M hM
 | 2, _ => exact okAll td2 M hM
 | 3, _ => exact okAll td3 M hM
 | 4, _ => exact okAll td4 M hM
 | 5, _ => exact okAll td5 M hM
 | 6, _ => exact okAll td6 M hM
 | 7, _ => exact okAll td7 M hM
 | 8, _ => exact okAll td8 M hM
 | 9, _ => exact okAll td9 M hM
 | 10, _ => exact okAll td10 M hM
 | 11, _ => exact okAll td11 M hM
 | 12, _ => exact okAll td12 M hM
 | 13, _ => exact okAll td13 M hM
 | 14, _ => exact okAll td14 M hM
 | 15, _ => exact okAll td15 M hM
 | 16, _ => exact okAll td16 M hM
 | 17, _ => exact okAll td17 M hM
 | 18, _ => exact okAll td18 M hM
 | n + 19, l => exact absurd l (by omega)
theorem u10 {β : Type} {k : TVal → Heap → Option β} {h : Heap} {d : Nat} : vcall Om (.v (.c (.func 10 []))) [] h d k = k (kB true) h := vcall_pure 10 _ _ rfl known10 rfl
theorem deep_law (n way : Int) (h1 : -9223372036854775808 ≤ way) (h2 : way ≤ 9223372036854775807) : orc S (lim tab.get S) 7 [kI n, kI way] [] = some (kB true, []) := by
 refine (orc_none rfl).trans ?_
 show lim tab.get S 7 0 0 [kI n, kI way] h0 = _
 have hw := withinM_lt n 15 (by decide)
 obtain ⟨M, hM⟩ : ∃ M : Nat, withinM n 15 = (M : Int) := ⟨(withinM n 15).toNat, by omega⟩
 have ws : IntKind.i64.wrap (1 + (M : Int)) = (M : Int) + 1 := by rw [wrap_i64 _ (by omega) (by omega)]; omega
 have hl := deep_loop way M (by omega) h0 0 (Nat.zero_le _)
 rw [w7_0, b7_0]
 simp (config := { maxSteps := 10000000 }) +contextual only [exa, ne_eq, not_false_eq_true, Nat.reduceAdd, Nat.reduceMul, Nat.reduceLT, Nat.reduceLeDiff, Nat.reduceEqDiff, Int.reduceLT, Int.reduceLE, Int.reduceEq, Int.reduceToNat, u10, u19 n 15 (by decide) (by decide), hM, ws]
 refine hl.trans ?_
 obtain ⟨cs, hc, hp, ht⟩ := type_deep way h1 h2 M (by omega)
 rw [w7_2, b7_2]
 by_cases hk : M ≤ 11
 ·have e1 : Nat.ble M 11 = true := Nat.ble_eq_true_of_le hk
  rw [e1] at ht hp
  have c16 : ∀ {β : Type} {k : TVal → Heap → Option β} {h : Heap} {d : Nat}, vcall Om (.v (.c (.func 16 []))) [kS (textD way M)] h d k = k (.tup [.agg cs, .c (.p (.int .i64 0))]) h := vcall_pure 16 _ _ rfl ht hp
  have h3 : (M : Int) + 1 ≤ 12 := by omega
  simp (config := { maxSteps := 10000000 }) +contextual only [exa, ne_eq, not_false_eq_true, Nat.reduceAdd, Nat.reduceMul, Nat.reduceLT, Nat.reduceLeDiff, Nat.reduceEqDiff, Int.reduceLT, Int.reduceLE, Int.reduceEq, Int.reduceToNat, exY, c16, h3, hc, oneOf]
  rw [decide_eq_false (show ¬ (12 : Int) < (M : Int) + 1 by omega)]
  rfl
 ·have e1 : Nat.ble M 11 = false := by cases h : Nat.ble M 11 with | false => rfl | true => exact absurd (Nat.le_of_ble_eq_true h) hk
  rw [e1] at ht hp
  have c16 : ∀ {β : Type} {k : TVal → Heap → Option β} {h : Heap} {d : Nat}, vcall Om (.v (.c (.func 16 []))) [kS (textD way M)] h d k = k (.tup [.agg cs, .c (.p (.int .i64 13))]) h := vcall_pure 16 _ _ rfl ht hp
  have h3 : ¬ (M : Int) + 1 ≤ 12 := by omega
  have h4 : (12 : Int) < (M : Int) + 1 := by omega
  simp (config := { maxSteps := 10000000 }) +contextual only [exa, ne_eq, not_false_eq_true, Nat.reduceAdd, Nat.reduceMul, Nat.reduceLT, Nat.reduceLeDiff, Nat.reduceEqDiff, Int.reduceLT, Int.reduceLE, Int.reduceEq, Int.reduceToNat, exY, c16, h3, h4, hc, oneOf]
end Go.Proofs.YtnlmlcfipbnpgaaDoor.Ab
