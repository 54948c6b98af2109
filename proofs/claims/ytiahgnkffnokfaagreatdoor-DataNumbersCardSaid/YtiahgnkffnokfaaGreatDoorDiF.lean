/- Numbers are read as they are written: the law. -/
import Derived.Test.YtiahgnkffnokfaaGreatDoorDiE
set_option linter.all false
set_option linter.unusedVariables false
set_option linter.unusedSimpArgs false
set_option maxRecDepth 100000
set_option maxHeartbeats 4000000
namespace Go.Proofs.YtiahgnkffnokfaaGreatDoor.Ab
open Go Go.AI
theorem text_num (n : Int) (h1 : -9223372036854775808 ≤ n) (h2 : n ≤ 9223372036854775807) : Om 14 [kA (numV n).row] [] = some (kS (Lib.itoa n), []) := by
 refine (orc_none rfl).trans ?_
 show lim tab.get S 14 0 0 [kA (numV n).row] h0 = _
 have c : ∀ {β : Type} {k : TVal → Heap → Option β} {h : Heap} {d : Nat}, vcall Om (.v (.c (.func 30 []))) [kI n, kI 10] h d k = k (kS (Lib.itoa n)) h := vcall_pure 30 _ _ rfl (fmt154 n h1 h2) rfl
 rw [w14_0, b14_0]
 simp (config := { maxSteps := 10000000 }) +contextual only [exa, ne_eq, not_false_eq_true, Nat.reduceAdd, Nat.reduceMul, Nat.reduceLT, Nat.reduceLeDiff, Nat.reduceEqDiff, Int.reduceLT, Int.reduceLE, Int.reduceEq, Int.reduceToNat, exY, numV, VT.row, c, oneOf]
theorem parse_num (n : Int) (h1 : -9223372036854775808 ≤ n) (h2 : n ≤ 9223372036854775807) : Om 13 [kS (Lib.itoa n)] [] = some (.tup [.agg (pcells (numV n).row), .c (.p (.int .i64 0))], []) := by
 obtain ⟨b, ds, e, H, hs⟩ := itoa_num n h1 h2
 have hl : (numT b ds).length ≤ 20000 := by have := H.hl; cases b <;> simp [numT] <;> omega
 rw [e]
 refine parse13 _ _ rfl hl ?_ (check_num n)
 rw [← hs]
 exact num26 b ds H
def badRows : List (List UInt8 × Int) := [([45], 12), ([43, 49], 12), ([49, 46, 48], 12), ([49, 101, 53], 12), ([45, 45, 49], 12), ([57, 50, 50, 51, 51, 55, 50, 48, 51, 54, 56, 53, 52, 55, 55, 53, 56, 48, 56], 11), ([45, 57, 50, 50, 51, 51, 55, 50, 48, 51, 54, 56, 53, 52, 55, 55, 53, 56, 48, 57], 11), ([57, 57, 57, 57, 57, 57, 57, 57, 57, 57, 57, 57, 57, 57, 57, 57, 57, 57, 57, 57], 11), ([48, 49], 12), ([45, 48, 49], 12), ([49, 32, 50], 12), ([48, 120, 49], 12)]
def badV (e : Int) : TVal := .tup [.agg Z6, .c (.p (.int .i64 e))]
def isBadR (r : Res1) (e : Int) : Bool := match r with
 | some (.tup [.agg [.p (.int .i64 0), .p (.bool false), .p (.int .i64 0), .p (.str []), .p .nilslice, .p .nilslice], .c (.p (.int .i64 x))], []) => decide (x = e)
 | _ => false
theorem isBadR_inv {r : Res1} {e : Int} (h : isBadR r e = true) : r = some (badV e, []) := by
 unfold isBadR at h
 split at h
 ·have := of_decide_eq_true h
  subst this; rfl
 ·cases h
theorem bad_all : (badRows.all fun p => isBadR (machU blks.get S 3000 13 0 0 [kS p.1] h0) p.2) = true := by kernel_rfl
theorem bad_at (p : List UInt8 × Int) (hp : p ∈ badRows) : Om 13 [kS p.1] [] = some (badV p.2, []) :=
 (orc_none rfl).trans (machU_le blks_ok 3000 13 0 0 _ _ _ (isBadR_inv (List.all_eq_true.1 bad_all p hp)))
noncomputable def rowsB : List (List PVal) := badRows.map fun p => [.str p.1]
noncomputable def errsB : List (List PVal) := badRows.map fun p => [.int .i64 p.2]
theorem bs1 {β : Type} {k : TVal → Heap → Option β} {h : Heap} {d : Nat} : vop Om (.bslice 1 12 [(.p (.str []))] [(0, (.k (kS [45]))), (1, (.k (kS [43, 49]))), (2, (.k (kS [49, 46, 48]))), (3, (.k (kS [49, 101, 53]))), (4, (.k (kS [45, 45, 49]))), (5, (.k (kS [57, 50, 50, 51, 51, 55, 50, 48, 51, 54, 56, 53, 52, 55, 55, 53, 56, 48, 56]))), (6, (.k (kS [45, 57, 50, 50, 51, 51, 55, 50, 48, 51, 54, 56, 53, 52, 55, 55, 53, 56, 48, 57]))), (7, (.k (kS [57, 57, 57, 57, 57, 57, 57, 57, 57, 57, 57, 57, 57, 57, 57, 57, 57, 57, 57, 57]))), (8, (.k (kS [48, 49]))), (9, (.k (kS [45, 48, 49]))), (10, (.k (kS [49, 32, 50]))), (11, (.k (kS [48, 120, 49])))] false) h d k = k (kSl 1 true rowsB) h := vplan _ _ rfl
theorem bs2 {β : Type} {k : TVal → Heap → Option β} {h : Heap} {d : Nat} : vop Om (.bslice 1 12 [(.p (.int .i64 0))] [(0, (.k (kI 12))), (1, (.k (kI 12))), (2, (.k (kI 12))), (3, (.k (kI 12))), (4, (.k (kI 12))), (5, (.k (kI 11))), (6, (.k (kI 11))), (7, (.k (kI 11))), (8, (.k (kI 12))), (9, (.k (kI 12))), (10, (.k (kI 12))), (11, (.k (kI 12)))] false) h d k = k (kSl 1 true errsB) h := vplan _ _ rfl
theorem numbers_law (n a : Int) (h1 : -9223372036854775808 ≤ n) (h2 : n ≤ 9223372036854775807) (h3 : -9223372036854775808 ≤ a) (h4 : a ≤ 9223372036854775807) : orc S (lim tab.get S) 5 [kI n, kI a] [] = some (kB true, []) := by
 refine (orc_none rfl).trans ?_
 show lim tab.get S 5 0 0 [kI n, kI a] h0 = _
 have c14 : ∀ {β : Type} {k : TVal → Heap → Option β} {h : Heap} {d : Nat}, vcall Om (.v (.c (.func 14 []))) [.v (.agg [.p (.int .i64 2), .p (.bool false), .p (.int .i64 n), .p (.str []), .p .nilslice, .p .nilslice])] h d k = k (kS (Lib.itoa n)) h := vcall_pure 14 _ _ rfl (text_num n h1 h2) rfl
 have c13 : ∀ {β : Type} {k : TVal → Heap → Option β} {h : Heap} {d : Nat}, vcall Om (.v (.c (.func 13 []))) [kS (Lib.itoa n)] h d k = k (.tup [.agg [.p (.int .i64 2), .p (.bool false), .p (.int .i64 n), .p (.str []), .p .nilslice, .p .nilslice], .c (.p (.int .i64 0))]) h := vcall_pure 13 _ _ rfl (parse_num n h1 h2) rfl
 have hw := withinM_lt a 12 (by omega)
 obtain ⟨K, hK⟩ : ∃ K : Nat, withinM a 12 = (K : Int) := ⟨(withinM a 12).toNat, by omega⟩
 have hKl : K < 12 := by omega
 have c12 := fun {β : Type} {k : TVal → Heap → Option β} {h : Heap} {d : Nat} => u12 (β := β) (k := k) (h := h) (d := d) a 12 (by omega) (by omega)
 rw [hK] at c12
 obtain ⟨p, hp⟩ : ∃ p, badRows[K]? = some p := ⟨badRows[K]'(show K < badRows.length from hKl), List.getElem?_eq_getElem _⟩
 have b13 : ∀ {β : Type} {k : TVal → Heap → Option β} {h : Heap} {d : Nat}, vcall Om (.v (.c (.func 13 []))) [kS p.1] h d k = k (.tup [.agg Z6, .c (.p (.int .i64 p.2))]) h := vcall_pure 13 _ _ rfl (bad_at p (List.mem_of_getElem? hp)) rfl
 have x1 : rowsB[K]? = some [.str p.1] := by unfold rowsB; rw [List.getElem?_map, hp]; rfl
 have x2 : errsB[K]? = some [.int .i64 p.2] := by unfold errsB; rw [List.getElem?_map, hp]; rfl
 have hk2 : K < 12 := hKl
 rw [w5_0, b5_0]
 simp (config := { maxSteps := 10000000 }) +contextual only [exa, ne_eq, not_false_eq_true, Nat.reduceAdd, Nat.reduceMul, Nat.reduceLT, Nat.reduceLeDiff, Nat.reduceEqDiff, Int.reduceLT, Int.reduceLE, Int.reduceEq, Int.reduceToNat, exW, exY, vcall_pure 11 _ _ rfl known11 rfl, c14, c13, c12, b13, x1, x2, hk2, bs1, bs2, oneOf]
end Go.Proofs.YtiahgnkffnokfaaGreatDoor.Ab
