/- The program's reader of values: the whole. -/
import Derived.Test.YtiahgnkffnokfaaGreatDoorDiD
set_option linter.all false
set_option linter.unusedVariables false
set_option linter.unusedSimpArgs false
set_option maxRecDepth 100000
set_option maxHeartbeats 4000000
namespace Go.Proofs.YtiahgnkffnokfaaGreatDoor.Ab
open Go Go.AI
abbrev rC (s : List UInt8) : AObj := .cells [.p (.str s), .p (.int .i64 0)] 0
theorem parse13 (t : List UInt8) (v : List PVal) (hv : v.length = 6) (ht : t.length ≤ 20000) (H26 : Om 26 [P0, kI 1] [rO t 0] = some (kA v, [rO [] 0])) (H24 : Om 24 [kA v] [] = some (kI 0, [])) :
  Om 13 [kS t] [] = some (.tup [.agg (pcells v), .c (.p (.int .i64 0))], []) := by
 refine (orc_none rfl).trans ?_
 show lim tab.get S 13 0 0 [kS t] h0 = _
 have l : ¬ (20000 : Int) < ((t.length : Nat) : Int) := by omega
 have c26 : ∀ {β : Type} {k : TVal → Heap → Option β} {h : Heap} {d : Nat} (r : Ref), h.get r = some (rC t) → vcall Om (.v (.c (.func 26 []))) [.v (.c (.ptr r 0)), kI 1] h d k = k (kA v) (h.put r (rC [])) := fun {β k h d} r hg =>
  vcall_p 26 r 0 [] [kI 1] _ _ _ rfl rfl hg (plain_rO _ _) (plain_rO _ _) (by simp only [exP]) H26
 have c27 : ∀ {β : Type} {k : TVal → Heap → Option β} {h : Heap} {d : Nat} (r : Ref), h.get r = some (rC []) → vcall Om (.v (.c (.func 27 []))) [.v (.c (.ptr r 0))] h d k = k (.tup []) (h.put r (rC [])) := fun {β k h d} r hg => u27 r [] 0 (fun b hb => by cases hb) hg
 have c24 : ∀ {β : Type} {k : TVal → Heap → Option β} {h : Heap} {d : Nat}, vcall Om (.v (.c (.func 24 []))) [kA v] h d k = k (kI 0) h := fun {β k h d} => vcall_pure 24 _ _ (by simp only [exP]) H24 rfl
 have pa : ∀ Z : List Cell, Z.length = 6 → put1 Z 0 (pcells v) = pcells v := fun Z hz => put1_all _ _ (by rw [pcells_len, hv, hz])
 have pl : (pcells v).length = 6 := by rw [pcells_len, hv]
 have pt : (pcells v).take 6 = pcells v := List.take_of_length_le (by omega)
 rw [w13_0, b13_0]
 simp (config := { maxSteps := 10000000 }) +contextual only [exa, ne_eq, not_false_eq_true, Nat.reduceAdd, Nat.reduceMul, Nat.reduceLT, Nat.reduceLeDiff, Nat.reduceEqDiff, Int.reduceLT, Int.reduceLE, Int.reduceEq, Int.reduceToNat, exW, exY, rO_h, rO_g0, rO_g1, rO_len, l, c26, c27, c24, pa, pl, pt, if_false, oneOf, w13_1, b13_1, w13_2, b13_2]
end Go.Proofs.YtiahgnkffnokfaaGreatDoor.Ab
