/- What the checks of values say of lists of nulls. -/
import Derived.Test.YtiahgnkffnokfaaGreatDoorTabBW
import Derived.Test.YtiahgnkffnokfaaGreatDoorMaU
set_option linter.all false
set_option linter.unusedVariables false
set_option linter.unusedSimpArgs false
set_option maxRecDepth 100000
set_option maxHeartbeats 4000000
namespace Go.Proofs.YtiahgnkffnokfaaGreatDoor.Ab
open Go Go.AI
noncomputable def Sc : Oracle := fun _ _ _ => none
noncomputable abbrev Oc : Oracle := orc Sc (lim tab.get Sc)
abbrev cP : TVal := .v (.c (.ptr (.im 0) 0))
abbrev zR : List PVal := [.int .i64 0, .bool false, .int .i64 0, .str [], .nilslice, .nilslice]
abbrev zC : List Cell := [.p (.int .i64 0), .p (.bool false), .p (.int .i64 0), .p (.str []), .p .nilslice, .p .nilslice]
abbrev lC (rows : List (List PVal)) : List Cell := [.p (.int .i64 4), .p (.bool false), .p (.int .i64 0), .p (.str []), .p .nilslice, .p (.slice 6 true rows)]
abbrev cO (m : Int) : AObj := .cells [.p (.int .i64 m)] 0
theorem plain_cO (m : Int) : plainO (cO m) := plainO_cells [.int .i64 m] 0
theorem cO_h (m : Int) : (Heap.mk [cO m] .nil).get (.im 0) = some (cO m) := rfl
theorem z71 : Oc 71 [.v (.agg zC)] [] = some (kB false, []) := (orc_none rfl).trans (machU_le blks_ok 300 71 0 0 _ _ _ (by kernel_rfl))
theorem l71 (rows : List (List PVal)) : Oc 71 [.v (.agg (lC rows))] [] = some (kB false, []) := (orc_none rfl).trans (machU_le blks_ok 300 71 0 0 _ _ _ (by kernel_rfl))
theorem z72 : Oc 72 [.v (.c (.p .nilslice))] [] = some (kI 0, []) := (orc_none rfl).trans (machU_le blks_ok 300 72 0 0 _ _ _ (by kernel_rfl))
theorem z73 : Oc 73 [.v (.agg zC)] [] = some (kB true, []) := (orc_none rfl).trans (machU_le blks_ok 300 73 0 0 _ _ _ (by kernel_rfl))
theorem l73 (rows : List (List PVal)) : Oc 73 [.v (.agg (lC rows))] [] = some (kB true, []) := (orc_none rfl).trans (machU_le blks_ok 300 73 0 0 _ _ _ (by kernel_rfl))
theorem cz71 {β : Type} {k : TVal → Heap → Option β} {h : Heap} {d : Nat} : vcall Oc (.v (.c (.func 71 []))) [.v (.agg zC)] h d k = k (kB false) h := vcall_pure 71 _ _ rfl z71 rfl
theorem cl71 {β : Type} {k : TVal → Heap → Option β} {h : Heap} {d : Nat} (rows : List (List PVal)) : vcall Oc (.v (.c (.func 71 []))) [.v (.agg (lC rows))] h d k = k (kB false) h := vcall_pure 71 _ _ rfl (l71 rows) rfl
theorem cz72 {β : Type} {k : TVal → Heap → Option β} {h : Heap} {d : Nat} : vcall Oc (.v (.c (.func 72 []))) [.v (.c (.p .nilslice))] h d k = k (kI 0) h := vcall_pure 72 _ _ rfl z72 rfl
theorem cz73 {β : Type} {k : TVal → Heap → Option β} {h : Heap} {d : Nat} : vcall Oc (.v (.c (.func 73 []))) [.v (.agg zC)] h d k = k (kB true) h := vcall_pure 73 _ _ rfl z73 rfl
theorem cl73 {β : Type} {k : TVal → Heap → Option β} {h : Heap} {d : Nat} (rows : List (List PVal)) : vcall Oc (.v (.c (.func 73 []))) [.v (.agg (lC rows))] h d k = k (kB true) h := vcall_pure 73 _ _ rfl (l73 rows) rfl
/-- A null is counted. -/
def zA (m : Int) : Int := if 2000 < m + 1 then 3 else 0
theorem wrap1 (m : Int) (h0 : 0 ≤ m) (h1 : m ≤ 3000) : IntKind.i64.wrap (m + 1) = m + 1 := wrap_i64 _ (by omega) (by omega)
theorem n44 (d m : Int) (hd : d ≤ 12) (h0 : 0 ≤ m) (h1 : m ≤ 3000) : Oc 44 [.v (.agg zC), kI d, cP] [cO m] = some (kI (zA m), [cO (m + 1)]) := by
 refine (orc_none rfl).trans ?_
 show lim tab.get Sc 44 1 0 [.v (.agg zC), kI d, cP] { ims := [cO m], owns := .nil } = _
 have hd' : ¬ (12 : Int) < d := by omega
 have q : ¬ (200 : Int) < ((0 : Nat) : Int) := by decide
 have fin : ∀ (e : Int) (h : Heap), h.get (.im 0) = some (cO (m + 1)) → vfin true 1 [.c (.p (.int .i64 e))] h = some (kI e, [cO (m + 1)]) := fun e h hg => vfin_1 true [.c (.p (.int .i64 e))] _ (by simp only [exP]) hg (plain_cO _)
 rw [w44_0, b44_0]
 by_cases h2 : 2000 < m + 1
 ·simp (config := { maxSteps := 10000000 }) +contextual only [exa, ne_eq, not_false_eq_true, Nat.reduceAdd, Nat.reduceMul, Nat.reduceLT, Nat.reduceLeDiff, Nat.reduceEqDiff, Int.reduceLT, Int.reduceLE, Int.reduceEq, Int.reduceToNat, exY, cO_h, wrap1 m h0 h1, h2, if_true, zA, oneOf]
 ·simp (config := { maxSteps := 10000000 }) +contextual only [exa, ne_eq, not_false_eq_true, Nat.reduceAdd, Nat.reduceMul, Nat.reduceLT, Nat.reduceLeDiff, Nat.reduceEqDiff, Int.reduceLT, Int.reduceLE, Int.reduceEq, Int.reduceToNat, exY, cO_h, wrap1 m h0 h1, h2, hd', q, cz71, cz72, if_false, zA, oneOf]
  rw [w44_1, b44_1]
  simp (config := { maxSteps := 10000000 }) +contextual only [exa, ne_eq, not_false_eq_true, Nat.reduceAdd, Nat.reduceMul, Nat.reduceLT, Nat.reduceLeDiff, Nat.reduceEqDiff, Int.reduceLT, Int.reduceLE, Int.reduceEq, Int.reduceToNat, exY, cO_h, if_false, oneOf]
theorem n45 (d m : Int) (hd : d ≤ 12) (h0 : 0 ≤ m) (h1 : m ≤ 3000) : Oc 45 [cP, .v (.agg zC), kI d] [cO m] = some (kI (zA m), [cO (m + 1)]) := by
 refine (orc_none rfl).trans ?_
 show lim tab.get Sc 45 1 0 [cP, .v (.agg zC), kI d] { ims := [cO m], owns := .nil } = _
 have hd' : ¬ (12 : Int) < d := by omega
 have q : ¬ (200 : Int) < ((0 : Nat) : Int) := by decide
 rw [w45_0, b45_0]
 by_cases h2 : 2000 < m + 1
 ·simp (config := { maxSteps := 10000000 }) +contextual only [exa, ne_eq, not_false_eq_true, Nat.reduceAdd, Nat.reduceMul, Nat.reduceLT, Nat.reduceLeDiff, Nat.reduceEqDiff, Int.reduceLT, Int.reduceLE, Int.reduceEq, Int.reduceToNat, exY, cO_h, wrap1 m h0 h1, h2, if_true, zA, oneOf]
 ·simp (config := { maxSteps := 10000000 }) +contextual only [exa, ne_eq, not_false_eq_true, Nat.reduceAdd, Nat.reduceMul, Nat.reduceLT, Nat.reduceLeDiff, Nat.reduceEqDiff, Int.reduceLT, Int.reduceLE, Int.reduceEq, Int.reduceToNat, exY, cO_h, wrap1 m h0 h1, h2, hd', q, cz73, if_false, zA, oneOf]
  rw [w45_1, b45_1]
  simp (config := { maxSteps := 10000000 }) +contextual only [exa, ne_eq, not_false_eq_true, Nat.reduceAdd, Nat.reduceMul, Nat.reduceLT, Nat.reduceLeDiff, Nat.reduceEqDiff, Int.reduceLT, Int.reduceLE, Int.reduceEq, Int.reduceToNat, exY, if_false, oneOf]
  rw [w45_2, b45_2, w45_3, b45_3]
  simp (config := { maxSteps := 10000000 }) +contextual only [exa, ne_eq, not_false_eq_true, Nat.reduceAdd, Nat.reduceMul, Nat.reduceLT, Nat.reduceLeDiff, Nat.reduceEqDiff, Int.reduceLT, Int.reduceLE, Int.reduceEq, Int.reduceToNat, exY, if_false, oneOf]
  rw [w45_4, b45_4, w45_5, b45_5]
  simp (config := { maxSteps := 10000000 }) +contextual only [exa, ne_eq, not_false_eq_true, Nat.reduceAdd, Nat.reduceMul, Nat.reduceLT, Nat.reduceLeDiff, Nat.reduceEqDiff, Int.reduceLT, Int.reduceLE, Int.reduceEq, Int.reduceToNat, exY, if_false, oneOf]
theorem v44 {β : Type} {k : TVal → Heap → Option β} {h : Heap} {e : Nat} (d m : Int) (hd : d ≤ 12) (h0 : 0 ≤ m) (h1 : m ≤ 3000) (hg : h.get (.im 0) = some (cO m)) : vcall Oc (.v (.c (.func 44 []))) [.v (.agg zC), kI d, cP] h e k = k (kI (zA m)) (h.put (.im 0) (cO (m + 1))) :=
 vcall_p 44 (.im 0) 0 [.v (.agg zC), kI d] [] _ _ _ rfl rfl hg (plain_cO _) (plain_cO _) rfl (n44 d m hd h0 h1)
theorem v45 {β : Type} {k : TVal → Heap → Option β} {h : Heap} {e : Nat} (d m : Int) (hd : d ≤ 12) (h0 : 0 ≤ m) (h1 : m ≤ 3000) (hg : h.get (.im 0) = some (cO m)) : vcall Oc (.v (.c (.func 45 []))) [cP, .v (.agg zC), kI d] h e k = k (kI (zA m)) (h.put (.im 0) (cO (m + 1))) :=
 vcall_p 45 (.im 0) 0 [] [.v (.agg zC), kI d] _ _ _ rfl rfl hg (plain_cO _) (plain_cO _) rfl (n45 d m hd h0 h1)
/-- So many nulls are counted. -/
def lRun : Nat → Int → Int × Int
 | 0, m => (0, m)
 | k + 1, m => if 2000 < m + 1 then (3, m + 1) else lRun k (m + 1)
theorem get_put_cO (h : Heap) (m n : Int) (hg : h.get (.im 0) = some (cO m)) : (h.put (.im 0) (cO n)).get (.im 0) = some (cO n) := get_put_im h 0 _ _ (by rw [hg]; rfl)
theorem l44_loop (R : List PVal) (hR : R = zR) (rows : List (List PVal)) (hr : ∀ i, i < rows.length → rows[i]? = some R) (d : Int) (hd : d ≤ 11) (hd0 : 0 ≤ d) (hn : rows.length ≤ 40) : ∀ (k i : Nat) (m : Int) (h : Heap), i + k = rows.length → 0 ≤ m → m + k ≤ 2900 → h.get (.im 0) = some (cO m) →
  lim tab.get Sc 44 1 1 [kI d, cP, kSl 6 true rows, kI (rows.length : Int), kI (i : Int)] h = some (kI (lRun k m).1, [cO (lRun k m).2])
 | 0, i, m, h, hi, h0, h1, hg => by
  have lt : ¬ (i : Int) < (rows.length : Int) := by omega
  have fin := vfin_1 true [.c (.p (.int .i64 0))] _ (by simp only [exP]) hg (plain_cO _)
  rw [w44_1, b44_1]
  simp (config := { maxSteps := 10000000 }) +contextual only [exa, ne_eq, not_false_eq_true, Nat.reduceAdd, Nat.reduceMul, Nat.reduceLT, Nat.reduceLeDiff, Nat.reduceEqDiff, Int.reduceLT, Int.reduceLE, Int.reduceEq, Int.reduceToNat, exY, lt, fin, if_false, lRun, oneOf]
 | k + 1, i, m, h, hi, h0, h1, hg => by
  have lt : (i : Int) < (rows.length : Int) := by omega
  have ew : IntKind.i64.wrap ((i : Int) + 1) = ((i + 1 : Nat) : Int) := by rw [wrap_i64 _ (by omega) (by omega)]; omega
  have ed : IntKind.i64.wrap (d + 1) = d + 1 := wrap_i64 _ (by omega) (by omega)
  have at1 := hr i (by omega)
  have cc : ∀ {β : Type} {kk : TVal → Heap → Option β} {hh : Heap} {e : Nat}, hh.get (.im 0) = some (cO m) → vcall Oc (.v (.c (.func 44 []))) [.v (.agg (pcells R)), kI (d + 1), cP] hh e kk = kk (kI (zA m)) (hh.put (.im 0) (cO (m + 1))) := fun {β kk hh e} hg => by
   subst hR
   exact v44 (d + 1) m (by omega) h0 (by omega) hg
  have r6 : R.length = 6 := by subst hR; rfl
  have p6 : ∀ Z : List Cell, Z.length = 6 → put1 Z 0 (pcells R) = pcells R := fun Z hz => put1_all _ _ (by rw [pcells_len, r6, hz])
  have pl : (pcells R).length = 6 := by rw [pcells_len, r6]
  have pt : (pcells R).take 6 = pcells R := List.take_of_length_le (by omega)
  rw [w44_1, b44_1]
  by_cases h2 : 2000 < m + 1
  ·have z3 : zA m = 3 := if_pos h2
   rw [z3] at cc
   simp (config := { maxSteps := 10000000 }) +contextual only [exa, ne_eq, not_false_eq_true, Nat.reduceAdd, Nat.reduceMul, Nat.reduceLT, Nat.reduceLeDiff, Nat.reduceEqDiff, Int.reduceLT, Int.reduceLE, Int.reduceEq, Int.reduceToNat, exW, exY, lt, at1, hg, ed, cc, x_load_row 6 R r6, r6, p6, pl, pt, if_true, lRun, h2, oneOf]
  ·have z0 : zA m = 0 := if_neg h2
   rw [z0] at cc
   have ih := fun (hh : Heap) (hg : hh.get (.im 0) = some (cO (m + 1))) => l44_loop R hR rows hr d hd hd0 hn k (i + 1) (m + 1) hh (by omega) (by omega) (by omega) hg
   simp (config := { maxSteps := 10000000 }) +contextual only [exa, ne_eq, not_false_eq_true, Nat.reduceAdd, Nat.reduceMul, Nat.reduceLT, Nat.reduceLeDiff, Nat.reduceEqDiff, Int.reduceLT, Int.reduceLE, Int.reduceEq, Int.reduceToNat, exW, exY, lt, at1, hg, ed, ew, cc, x_load_row 6 R r6, r6, p6, pl, pt, ih, if_false, lRun, h2, oneOf]
theorem l45_loop (R : List PVal) (hR : R = zR) (rows : List (List PVal)) (hr : ∀ i, i < rows.length → rows[i]? = some R) (d : Int) (hd : d ≤ 11) (hd0 : 0 ≤ d) (hn : rows.length ≤ 40) : ∀ (k i : Nat) (m : Int) (h : Heap), i + k = rows.length → 0 ≤ m → m + k ≤ 2900 → h.get (.im 0) = some (cO m) → h.get (.own 4 1) = some (.cells (lC rows) 0) →
  lim tab.get Sc 45 1 5 [cP, kI d, .v (.c (.ptr (.own 4 1) 0)), kI (i : Int)] h = some (kI (lRun k m).1, [cO (lRun k m).2])
 | 0, i, m, h, hi, h0, h1, hg, h4 => by
  have lt : ¬ (i : Int) < (rows.length : Int) := by omega
  have fin := vfin_1 true [.c (.p (.int .i64 0))] _ (by simp only [exP]) hg (plain_cO _)
  rw [w45_5, b45_5]
  simp (config := { maxSteps := 10000000 }) +contextual only [exa, ne_eq, not_false_eq_true, Nat.reduceAdd, Nat.reduceMul, Nat.reduceLT, Nat.reduceLeDiff, Nat.reduceEqDiff, Int.reduceLT, Int.reduceLE, Int.reduceEq, Int.reduceToNat, exY, lt, h4, fin, if_false, lRun, oneOf]
 | k + 1, i, m, h, hi, h0, h1, hg, h4 => by
  have lt : (i : Int) < (rows.length : Int) := by omega
  have ew : IntKind.i64.wrap ((i : Int) + 1) = ((i + 1 : Nat) : Int) := by rw [wrap_i64 _ (by omega) (by omega)]; omega
  have ed : IntKind.i64.wrap (d + 1) = d + 1 := wrap_i64 _ (by omega) (by omega)
  have at1 := hr i (by omega)
  have cc : ∀ {β : Type} {kk : TVal → Heap → Option β} {hh : Heap} {e : Nat}, hh.get (.im 0) = some (cO m) → vcall Oc (.v (.c (.func 45 []))) [cP, .v (.agg (pcells R)), kI (d + 1)] hh e kk = kk (kI (zA m)) (hh.put (.im 0) (cO (m + 1))) := fun {β kk hh e} hg => by
   subst hR
   exact v45 (d + 1) m (by omega) h0 (by omega) hg
  have r6 : R.length = 6 := by subst hR; rfl
  have p6 : ∀ Z : List Cell, Z.length = 6 → put1 Z 0 (pcells R) = pcells R := fun Z hz => put1_all _ _ (by rw [pcells_len, r6, hz])
  have pl : (pcells R).length = 6 := by rw [pcells_len, r6]
  have pt : (pcells R).take 6 = pcells R := List.take_of_length_le (by omega)
  rw [w45_5, b45_5]
  by_cases h2 : 2000 < m + 1
  ·have z3 : zA m = 3 := if_pos h2
   rw [z3] at cc
   simp (config := { maxSteps := 10000000 }) +contextual only [exa, ne_eq, not_false_eq_true, Nat.reduceAdd, Nat.reduceMul, Nat.reduceLT, Nat.reduceLeDiff, Nat.reduceEqDiff, Int.reduceLT, Int.reduceLE, Int.reduceEq, Int.reduceToNat, exW, exY, lt, at1, hg, h4, ed, cc, x_load_row 6 R r6, r6, p6, pl, pt, if_true, lRun, h2, oneOf]
  ·have z0 : zA m = 0 := if_neg h2
   rw [z0] at cc
   have ih := fun (hh : Heap) (hg : hh.get (.im 0) = some (cO (m + 1))) (h4 : hh.get (.own 4 1) = some (.cells (lC rows) 0)) => l45_loop R hR rows hr d hd hd0 hn k (i + 1) (m + 1) hh (by omega) (by omega) (by omega) hg h4
   simp (config := { maxSteps := 10000000 }) +contextual only [exa, ne_eq, not_false_eq_true, Nat.reduceAdd, Nat.reduceMul, Nat.reduceLT, Nat.reduceLeDiff, Nat.reduceEqDiff, Int.reduceLT, Int.reduceLE, Int.reduceEq, Int.reduceToNat, exW, exY, lt, at1, hg, h4, ed, ew, cc, x_load_row 6 R r6, r6, p6, pl, pt, ih, if_false, lRun, h2, oneOf]
theorem l44 (rows : List (List PVal)) (hr : ∀ i, i < rows.length → rows[i]? = some zR) (d m : Int) (hd : d ≤ 11) (hd0 : 0 ≤ d) (hn : rows.length ≤ 40) (h0 : 0 ≤ m) (h1 : m ≤ 2800) : Oc 44 [.v (.agg (lC rows)), kI d, cP] [cO m] = if 2000 < m + 1 then some (kI 3, [cO (m + 1)]) else some (kI (lRun rows.length (m + 1)).1, [cO (lRun rows.length (m + 1)).2]) := by
 refine (orc_none rfl).trans ?_
 show lim tab.get Sc 44 1 0 [.v (.agg (lC rows)), kI d, cP] { ims := [cO m], owns := .nil } = _
 have hd' : ¬ (12 : Int) < d := by omega
 have q : ¬ (200 : Int) < ((0 : Nat) : Int) := by decide
 have n40 : ¬ (40 : Int) < (rows.length : Int) := by omega
 rw [w44_0, b44_0]
 by_cases h2 : 2000 < m + 1
 ·simp (config := { maxSteps := 10000000 }) +contextual only [exa, ne_eq, not_false_eq_true, Nat.reduceAdd, Nat.reduceMul, Nat.reduceLT, Nat.reduceLeDiff, Nat.reduceEqDiff, Int.reduceLT, Int.reduceLE, Int.reduceEq, Int.reduceToNat, exY, cO_h, wrap1 m h0 (by omega), h2, if_true, oneOf]
 ·rw [if_neg h2]
  simp (config := { maxSteps := 10000000 }) +contextual only [exa, ne_eq, not_false_eq_true, Nat.reduceAdd, Nat.reduceMul, Nat.reduceLT, Nat.reduceLeDiff, Nat.reduceEqDiff, Int.reduceLT, Int.reduceLE, Int.reduceEq, Int.reduceToNat, exY, cO_h, wrap1 m h0 (by omega), h2, hd', q, n40, cl71, cz72, if_false, oneOf]
  exact l44_loop zR rfl rows hr d hd hd0 hn rows.length 0 (m + 1) _ (by omega) (by omega) (by omega) rfl
theorem l45 (rows : List (List PVal)) (hr : ∀ i, i < rows.length → rows[i]? = some zR) (d m : Int) (hd : d ≤ 11) (hd0 : 0 ≤ d) (hn : rows.length ≤ 40) (h0 : 0 ≤ m) (h1 : m ≤ 2800) : Oc 45 [cP, .v (.agg (lC rows)), kI d] [cO m] = if 2000 < m + 1 then some (kI 3, [cO (m + 1)]) else some (kI (lRun rows.length (m + 1)).1, [cO (lRun rows.length (m + 1)).2]) := by
 refine (orc_none rfl).trans ?_
 show lim tab.get Sc 45 1 0 [cP, .v (.agg (lC rows)), kI d] { ims := [cO m], owns := .nil } = _
 have hd' : ¬ (12 : Int) < d := by omega
 have q : ¬ (200 : Int) < ((0 : Nat) : Int) := by decide
 have n40 : ¬ (40 : Int) < (rows.length : Int) := by omega
 rw [w45_0, b45_0]
 by_cases h2 : 2000 < m + 1
 ·simp (config := { maxSteps := 10000000 }) +contextual only [exa, ne_eq, not_false_eq_true, Nat.reduceAdd, Nat.reduceMul, Nat.reduceLT, Nat.reduceLeDiff, Nat.reduceEqDiff, Int.reduceLT, Int.reduceLE, Int.reduceEq, Int.reduceToNat, exY, cO_h, wrap1 m h0 (by omega), h2, if_true, oneOf]
 ·rw [if_neg h2]
  simp (config := { maxSteps := 10000000 }) +contextual only [exa, ne_eq, not_false_eq_true, Nat.reduceAdd, Nat.reduceMul, Nat.reduceLT, Nat.reduceLeDiff, Nat.reduceEqDiff, Int.reduceLT, Int.reduceLE, Int.reduceEq, Int.reduceToNat, exY, cO_h, wrap1 m h0 (by omega), h2, hd', q, n40, cl73, if_false, oneOf]
  rw [w45_1, b45_1]
  simp (config := { maxSteps := 10000000 }) +contextual only [exa, ne_eq, not_false_eq_true, Nat.reduceAdd, Nat.reduceMul, Nat.reduceLT, Nat.reduceLeDiff, Nat.reduceEqDiff, Int.reduceLT, Int.reduceLE, Int.reduceEq, Int.reduceToNat, exY, if_false, oneOf]
  rw [w45_2, b45_2, w45_3, b45_3]
  simp (config := { maxSteps := 10000000 }) +contextual only [exa, ne_eq, not_false_eq_true, Nat.reduceAdd, Nat.reduceMul, Nat.reduceLT, Nat.reduceLeDiff, Nat.reduceEqDiff, Int.reduceLT, Int.reduceLE, Int.reduceEq, Int.reduceToNat, exY, if_false, oneOf]
  rw [w45_4, b45_4]
  exact l45_loop zR rfl rows hr d hd hd0 hn rows.length 0 (m + 1) _ (by omega) (by omega) (by omega) rfl rfl
end Go.Proofs.YtiahgnkffnokfaaGreatDoor.Ab
