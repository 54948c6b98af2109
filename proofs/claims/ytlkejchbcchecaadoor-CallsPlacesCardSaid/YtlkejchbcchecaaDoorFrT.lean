/- CallsPlaces: the walk. -/
import Derived.Test.YtlkejchbcchecaaDoorFrS
set_option linter.all false
set_option linter.unusedVariables false
set_option linter.unusedSimpArgs false
set_option maxRecDepth 100000
namespace Go.Proofs.YtlkejchbcchecaaDoor.Ab
open Go Go.AI
def iV (n : Int) : VT := .mk 2 false n [] .nil .nil
def kV (s : List UInt8) : VT := .mk 3 false 0 s .nil .nil
theorem iV_row (n : Int) : [.p (.int .i64 2), .p (.bool false), .p (.int .i64 n), .p (.str []), .p .nilslice, .p .nilslice] = pcells (iV n).row := rfl
theorem kV_row (s : List UInt8) : [.p (.int .i64 3), .p (.bool false), .p (.int .i64 0), .p (.str s), .p .nilslice, .p .nilslice] = pcells (kV s).row := rfl
theorem iV_sm (n : Int) : smV (iV n) := flat_sm _ _ _ _ (by simp)
def wordL : List (List UInt8) := [[97], [98], [99], [122, 122]]
def wordM (n : Int) : List UInt8 := wordL.getD (withinM n 4).toNat []
theorem word_at (n : Int) : (wordL.map sRow)[(withinM n 4).toNat]? = some (sRow (wordM n)) := by
 have h := withinM_lt n 4 (by decide)
 have h1 : (withinM n 4).toNat < wordL.length := by show _ < 4; omega
 rw [List.getElem?_map, List.getElem?_eq_getElem h1]
 unfold wordM
 rw [List.getD_eq_getElem?_getD, List.getElem?_eq_getElem h1]; rfl
theorem wordB {β : Type} {O : Oracle} {h : Heap} {d : Nat} {k : TVal → Heap → Option β} : vop O (.bslice 1 4 [.p (.str [])] [(0, .k (kS [97])), (1, .k (kS [98])), (2, .k (kS [99])), (3, .k (kS [122, 122]))] false) h d k = k (kSl 1 true (wordL.map sRow)) h := vplan _ _ rfl
theorem bslice6_2_plan (z : List Cell) (a b : List PVal) (hz : z.length = 6) (ha : a.length = 6) (hb : b.length = 6) : plan .nil (.bslice 6 2 z [(0, .k (.v (.agg (pcells a)))), (1, .k (.v (.agg (pcells b))))] false) = some (.pure (kSl 6 true [a, b])) := by
 have l1 : (pcells a).length = 6 := by unfold pcells; rw [List.length_map, ha]
 have l2 : (pcells b).length = 6 := by unfold pcells; rw [List.length_map, hb]
 have e1 : fillA (rep 2 z) [(0 * 6, 6, Comp.agg (pcells a)), (1 * 6, 6, Comp.agg (pcells b))] = some (pcells a ++ pcells b) := by
  have l0 : (rep 2 z).length = 12 := by simp [rep, hz]
  have c1 : (Comp.agg (pcells a)).cells.length = 6 := l1
  have c2 : (Comp.agg (pcells b)).cells.length = 6 := l2
  have s1 : splice (rep 2 z) (0 * 6) (Comp.agg (pcells a)).cells = pcells a ++ z := by
   show (rep 2 z).take (0 * 6) ++ pcells a ++ (rep 2 z).drop (0 * 6 + (pcells a).length) = _
   rw [l1, Nat.zero_mul, List.take_zero, List.nil_append]
   congr 1
   show (z ++ (z ++ [])).drop (0 + 6) = z
   rw [List.append_nil, Nat.zero_add, List.drop_append_of_le_length (by omega), List.drop_of_length_le (by omega), List.nil_append]
  have s2 : splice (pcells a ++ z) (1 * 6) (Comp.agg (pcells b)).cells = pcells a ++ pcells b := by
   show (pcells a ++ z).take (1 * 6) ++ pcells b ++ (pcells a ++ z).drop (1 * 6 + (pcells b).length) = _
   rw [l2, List.take_append_of_le_length (by omega), List.take_of_length_le (by omega), List.drop_of_length_le (by simp; omega), List.append_nil]
  have l3 : (pcells a ++ z).length = 12 := by rw [List.length_append, l1, hz]
  rw [fillA, if_pos ⟨c1, by omega⟩, s1, fillA, if_pos ⟨c2, by omega⟩, s2, fillA]
 have e2 : chunk 6 2 (pcells a ++ pcells b) = some [a, b] := by
  have := chunk_rows 6 [a, b] (fun r hr => by simp at hr; rcases hr with rfl | rfl <;> assumption)
  have e : pcells [a, b].flatten = pcells a ++ pcells b := by simp [pcells]
  rw [e] at this; exact this
 simp only [plan, List.mapM_cons, List.mapM_nil, X.ev, Option.pure_def, Option.bind_eq_bind, Option.bind_some, e1, e2, Bool.false_eq_true, if_false]
theorem bslice6_2 {β : Type} {O : Oracle} {h : Heap} {d : Nat} {k : TVal → Heap → Option β} (a b : VT) : vop O (.bslice 6 2 [.p (.int .i64 0), .p (.bool false), .p (.int .i64 0), .p (.str []), .p .nilslice, .p .nilslice] [(0, .k (.v (.agg (pcells a.row)))), (1, .k (.v (.agg (pcells b.row))))] false) h d k = k (kSl 6 true [a.row, b.row]) h :=
 vplan _ _ (bslice6_2_plan _ _ _ rfl (VT.row_len a) (VT.row_len b))
section
variable {β : Type} {k : TVal → Heap → Option β} {h : Heap} {d : Nat}
theorem e_at {v w x : VT} {e : Int} (sm : smV v) (hp : atM v w = (x, e)) : vcall Om (.v (.c (.func 38 []))) [kS n_at, kSl 6 true [v.row, w.row]] h d k = k (.tup [.agg (pcells x.row), .c (.p (.int .i64 e))]) h :=
 vcall_pure 38 _ _ rfl ((eval_at true v w sm).trans (by rw [hp]; rfl)) (by simp only [exP])
theorem e_get {v w x : VT} {e : Int} (sm : smV v) (hp : getE v w = (x, e)) : vcall Om (.v (.c (.func 38 []))) [kS n_get, kSl 6 true [v.row, w.row]] h d k = k (.tup [.agg (pcells x.row), .c (.p (.int .i64 e))]) h :=
 vcall_pure 38 _ _ rfl ((eval_get true v w sm).trans (by rw [hp]; rfl)) (by simp only [exP])
theorem e_has (v : VT) : vcall Om (.v (.c (.func 38 []))) [kS n_has, kSl 6 true [v.row]] h d k = k (.tup [.agg (pcells (truthV (!decide (v.kind = 0))).row), .c (.p (.int .i64 0))]) h :=
 vcall_pure 38 _ _ rfl (eval_has true v) (by simp only [ansE, exP])
theorem e_or {v w x : VT} (sm : smV v) (sn : smV w) (hp : orM v w = x) : vcall Om (.v (.c (.func 38 []))) [kS n_orelse, kSl 6 true [v.row, w.row]] h d k = k (.tup [.agg (pcells (ownV x).row), .c (.p (.int .i64 0))]) h :=
 vcall_pure 38 _ _ rfl ((eval_or true v w sm sn).trans (by rw [hp]; rfl)) (by simp only [exP])
theorem u36 : vcall Om (.v (.c (.func 36 []))) [] h d k = k (kB true) h := vcall_pure 36 _ _ rfl known36 rfl
end
abbrev at' (d : Nat) : TVal := .v (.c (.ptr (.own d 1) 0))
/-- What lies where, behind the calls. -/
structure PlH (v x y o : VT) (a : Int) (s : List UInt8) (t : Bool) (h : Heap) : Prop where
 a7 : h.get (.own 7 1) = some (.cells (pcells v.row) 0)
 a8 : h.get (.own 8 1) = some (.cells (pcells (iV a).row) 0)
 a9 : h.get (.own 9 1) = some (.cells (pcells (kV s).row) 0)
 a10 : h.get (.own 10 1) = some (.cells (pcells x.row) 0)
 a12 : h.get (.own 12 1) = some (.cells (pcells y.row) 0)
 a14 : h.get (.own 14 1) = some (.cells (pcells (truthV t).row) 0)
 a16 : h.get (.own 16 1) = some (.cells (pcells o.row) 0)
theorem tr_b (b : Bool) : (truthV b).b = b := rfl
theorem kV_s (s : List UInt8) : (kV s).s = s := rfl
/-- The last tests. -/
theorem pl_k5 {v x y o : VT} {a : Int} {s : List UInt8} {h : Heap} (H : PlH v x y o a s (!decide (y.kind = 0)) h) (ho : o = ownV (orM y (iV a))) (so : smV o) : b9_0k5 Om (lim tab.get S 9 0) 0 (at' 8) (at' 12) (at' 14) (at' 16) h = some (kB true, []) := by
 rw [b9_0k5]
 by_cases hy : y.kind = 0
 ·have e : sameV o (iV a) = true := by rw [ho]; unfold orM; rw [if_pos hy]; exact sameO _
  simp (config := { maxSteps := 10000000 }) +contextual only [exa, ne_eq, not_false_eq_true, Nat.reduceAdd, Nat.reduceMul, Nat.reduceLT, Nat.reduceLeDiff, Nat.reduceEqDiff, Int.reduceLT, Int.reduceLE, Int.reduceEq, Int.reduceToNat, H.a8, H.a12, H.a14, H.a16, tr_b, hy, u24 o (iV a) so, e, BEq.rfl, oneOf]
 ·have e : sameV o y = true := by rw [ho]; unfold orM; rw [if_neg hy]; exact sameO _
  simp (config := { maxSteps := 10000000 }) +contextual only [exa, ne_eq, not_false_eq_true, Nat.reduceAdd, Nat.reduceMul, Nat.reduceLT, Nat.reduceLeDiff, Nat.reduceEqDiff, Int.reduceLT, Int.reduceLE, Int.reduceEq, Int.reduceToNat, H.a8, H.a12, H.a14, H.a16, tr_b, hy, u24 o y so, e, BEq.rfl, oneOf]
theorem PlH.own {v x y o : VT} {a : Int} {s : List UInt8} {t : Bool} {h : Heap} (H : PlH v x y o a s t h) (g : Nat) (ob : AObj) : PlH v x y o a s t (h.own 18 g ob) :=
 ⟨(Heap.own_get_ne h 18 g _ 7 1 (by decide)).trans H.a7, (Heap.own_get_ne h 18 g _ 8 1 (by decide)).trans H.a8, (Heap.own_get_ne h 18 g _ 9 1 (by decide)).trans H.a9, (Heap.own_get_ne h 18 g _ 10 1 (by decide)).trans H.a10, (Heap.own_get_ne h 18 g _ 12 1 (by decide)).trans H.a12, (Heap.own_get_ne h 18 g _ 14 1 (by decide)).trans H.a14, (Heap.own_get_ne h 18 g _ 16 1 (by decide)).trans H.a16⟩
theorem pl_k4 {v x y o : VT} {a : Int} {s : List UInt8} {h : Heap} (H : PlH v x y o a s (!decide (y.kind = 0)) h) (ho : o = ownV (orM y (iV a))) (so : smV o) (sv : smV v) (sy : smV y) (f : Int) (hq : getE v (kV s) = (y, f)) : b9_0k4 Om (lim tab.get S 9 0) 0 (at' 7) (at' 8) (at' 9) (at' 12) (at' 14) (at' 16) (kI f) h = some (kB true, []) := by
 rw [b9_0k4]
 have kl : v.keys.len ≤ 1000 := ((smV_eq v).1 sv).2.1
 have fin := fun (g g' : Nat) (ob ob' : AObj) => pl_k5 ((H.own g ob).own g' ob') ho so
 have nk : VT.nul.kind = 0 := rfl
 have U := fun {β : Type} {k : TVal → Heap → Option β} {h : Heap} {d : Nat} => u39 (k := k) (h := h) (d := d) v s kl
 by_cases h5 : v.kind = 5
 ·cases hg : getM v s with
  | none =>
   have hy : y = VT.nul ∧ f = 0 := by
    unfold getE at hq
    rw [if_neg (by rw [h5]; simp [kV, VT.kind]), kV_s, hg] at hq
    simp only [Prod.mk.injEq] at hq
    exact ⟨hq.1.symm, hq.2.symm⟩
   obtain ⟨rfl, rfl⟩ := hy
   have e : sameV VT.nul VT.nul = true := sameR _
   rw [hg] at U
   simp (config := { maxSteps := 10000000 }) +contextual only [exa, ne_eq, not_false_eq_true, Nat.reduceAdd, Nat.reduceMul, Nat.reduceLT, Nat.reduceLeDiff, Nat.reduceEqDiff, Int.reduceLT, Int.reduceLE, Int.reduceEq, Int.reduceToNat, H.a7, H.a9, H.a12, kV_s, U, ansG, put1_z6 _ (VT.row_len VT.nul), h5, u24 VT.nul VT.nul nul_sm, e, nk]
   exact fin _ _ _ _
  | some z =>
   have hy : y = ownV z ∧ f = 0 := by
    unfold getE at hq
    rw [if_neg (by rw [h5]; simp [kV, VT.kind]), kV_s, hg] at hq
    simp only [Prod.mk.injEq] at hq
    exact ⟨hq.1.symm, hq.2.symm⟩
   obtain ⟨rfl, rfl⟩ := hy
   have e : sameV (ownV z) z = true := sameO _
   rw [hg] at U
   simp (config := { maxSteps := 10000000 }) +contextual only [exa, ne_eq, not_false_eq_true, Nat.reduceAdd, Nat.reduceMul, Nat.reduceLT, Nat.reduceLeDiff, Nat.reduceEqDiff, Int.reduceLT, Int.reduceLE, Int.reduceEq, Int.reduceToNat, H.a7, H.a9, H.a12, kV_s, U, ansG, put1_z6 _ (VT.row_len z), h5, u24 (ownV z) z sy, e, nk]
   exact fin _ _ _ _
 ·cases hg : getM v s <;> rw [hg] at U
  ·simp (config := { maxSteps := 10000000 }) +contextual only [exa, ne_eq, not_false_eq_true, Nat.reduceAdd, Nat.reduceMul, Nat.reduceLT, Nat.reduceLeDiff, Nat.reduceEqDiff, Int.reduceLT, Int.reduceLE, Int.reduceEq, Int.reduceToNat, H.a7, H.a9, H.a12, kV_s, U, ansG, put1_z6 _ (VT.row_len VT.nul), h5, nk]
   exact fin _ _ _ _
  ·rename_i z
   simp (config := { maxSteps := 10000000 }) +contextual only [exa, ne_eq, not_false_eq_true, Nat.reduceAdd, Nat.reduceMul, Nat.reduceLT, Nat.reduceLeDiff, Nat.reduceEqDiff, Int.reduceLT, Int.reduceLE, Int.reduceEq, Int.reduceToNat, H.a7, H.a9, H.a12, kV_s, U, ansG, put1_z6 _ (VT.row_len z), h5, nk]
   exact fin _ _ _ _
theorem atM_4 {v : VT} (a : Int) (h4 : v.kind = 4) : atM v (iV a) = if a < 0 then ((VT.nul, 32) : VT × Int) else match v.l.list[a.toNat]? with
  | none => (VT.nul, 32)
  | some x => (ownV x, 0) := by
 unfold atM
 rw [if_neg (by rw [h4]; simp [iV, VT.kind])]
 show (if a < 0 then _ else _) = _
 split
 ·rfl
 ·show (match v.l.list[a.toNat]? with | none => _ | some x => _) = _
  cases v.l.list[a.toNat]? <;> rfl
theorem pl_k3 {v x y o : VT} {a : Int} {s : List UInt8} {h : Heap} (H : PlH v x y o a s (!decide (y.kind = 0)) h) (ho : o = ownV (orM y (iV a))) (so : smV o) (sv : smV v) (sx : smV x) (sy : smV y) (e f : Int) (hp : atM v (iV a) = (x, e)) (hq : getE v (kV s) = (y, f)) : b9_0k3 Om (lim tab.get S 9 0) 0 (kI a) (at' 7) (at' 8) (at' 9) (at' 10) (at' 12) (at' 14) (at' 16) (kI e) (kI f) h = some (kB true, []) := by
 rw [b9_0k3]
 by_cases h4 : v.kind = 4
 ·rw [atM_4 a h4] at hp
  by_cases h5 : a < 0
  ·rw [if_pos h5] at hp
   simp only [Prod.mk.injEq] at hp
   obtain ⟨rfl, rfl⟩ := hp
   simp (config := { maxSteps := 10000000 }) +contextual only [exa, ne_eq, not_false_eq_true, Nat.reduceAdd, Nat.reduceMul, Nat.reduceLT, Nat.reduceLeDiff, Nat.reduceEqDiff, Int.reduceLT, Int.reduceLE, Int.reduceEq, Int.reduceToNat, H.a7, H.a10, h4, h5, oneOf]
  ·rw [if_neg h5] at hp
   by_cases h6 : a < (v.l.len : Int)
   ·obtain ⟨z, hz, _, mz⟩ := at_step (l := v.l.list) (i := a.toNat) (by unfold Sl.len at h6; omega)
    rw [hz] at hp
    simp only [Prod.mk.injEq] at hp
    obtain ⟨rfl, rfl⟩ := hp
    have h7 : 0 ≤ a := by omega
    have e : sameV (ownV z) z = true := sameO _
    simp (config := { maxSteps := 10000000 }) +contextual only [exa, ne_eq, not_false_eq_true, Nat.reduceAdd, Nat.reduceMul, Nat.reduceLT, Nat.reduceLeDiff, Nat.reduceEqDiff, Int.reduceLT, Int.reduceLE, Int.reduceEq, Int.reduceToNat, H.a7, H.a10, h4, h5, h6, h7, hz, u24 (ownV z) z sx, e, oneOf]
   ·have hn : v.l.list[a.toNat]? = none := List.getElem?_eq_none (by unfold Sl.len at h6; omega)
    rw [hn] at hp
    simp only [Prod.mk.injEq] at hp
    obtain ⟨rfl, rfl⟩ := hp
    simp (config := { maxSteps := 10000000 }) +contextual only [exa, ne_eq, not_false_eq_true, Nat.reduceAdd, Nat.reduceMul, Nat.reduceLT, Nat.reduceLeDiff, Nat.reduceEqDiff, Int.reduceLT, Int.reduceLE, Int.reduceEq, Int.reduceToNat, H.a7, H.a10, h4, h5, h6, oneOf]
 ·simp (config := { maxSteps := 10000000 }) +contextual only [exa, ne_eq, not_false_eq_true, Nat.reduceAdd, Nat.reduceMul, Nat.reduceLT, Nat.reduceLeDiff, Nat.reduceEqDiff, Int.reduceLT, Int.reduceLE, Int.reduceEq, Int.reduceToNat, H.a7, H.a10, h4]
  exact pl_k4 H ho so sv sy f hq
theorem atM_17 {v : VT} {a : Int} {x : VT} {e : Int} (hp : atM v (iV a) = (x, e)) : decide (e = 17) = !decide (v.kind = 4) := by
 by_cases h4 : v.kind = 4
 ·rw [atM_4 a h4] at hp
  have : e ≠ 17 := by
   split at hp
   ·simp only [Prod.mk.injEq] at hp; omega
   ·split at hp
    ·simp only [Prod.mk.injEq] at hp; omega
    ·simp only [Prod.mk.injEq] at hp; omega
  simp [h4, this]
 ·unfold atM at hp
  rw [if_pos (by simp [h4])] at hp
  simp only [Prod.mk.injEq] at hp
  simp [h4, hp.2.symm]
theorem getE_17 {v : VT} {s : List UInt8} {y : VT} {f : Int} (hq : getE v (kV s) = (y, f)) : decide (f = 17) = !decide (v.kind = 5) := by
 unfold getE at hq
 by_cases h5 : v.kind = 5
 ·rw [if_neg (by rw [h5]; simp [kV, VT.kind])] at hq
  have : f ≠ 17 := by
   split at hq
   ·simp only [Prod.mk.injEq] at hq; omega
   ·simp only [Prod.mk.injEq] at hq; omega
  simp [h5, this]
 ·rw [if_pos (by simp [h5])] at hq
  simp only [Prod.mk.injEq] at hq
  simp [h5, hq.2.symm]
theorem pl_k6 {v x y o : VT} {a : Int} {s : List UInt8} {h : Heap} (H : PlH v x y o a s (!decide (y.kind = 0)) h) (ho : o = ownV (orM y (iV a))) (so : smV o) (sv : smV v) (sx : smV x) (sy : smV y) (e f : Int) (hp : atM v (iV a) = (x, e)) (hq : getE v (kV s) = (y, f)) : b9_0k6 Om (lim tab.get S 9 0) 0 (kI a) (at' 7) (at' 8) (at' 9) (at' 10) (at' 12) (at' 14) (at' 16) (kI e) (kI f) (kI 0) (kI 0) (kB false) h = some (kB true, []) := by
 rw [b9_0k6]
 have h1 := atM_17 hp
 simp (config := { maxSteps := 10000000 }) +contextual only [exa, ne_eq, not_false_eq_true, Nat.reduceAdd, Nat.reduceMul, Nat.reduceLT, Nat.reduceLeDiff, Nat.reduceEqDiff, Int.reduceLT, Int.reduceLE, Int.reduceEq, Int.reduceToNat, H.a7, h1, BEq.rfl]
 exact pl_k3 H ho so sv sx sy e f hp hq
theorem own_sameE (h : Heap) (d g e i : Nat) (o : AObj) (w : AObj) (hne : d ≠ e) (hh : h.get (.own e i) = some w) : (h.own d g o).get (.own e i) = some w := (Heap.own_get_ne h d g o e i hne).trans hh
structure PlG (v x y : VT) (a : Int) (s : List UInt8) (h : Heap) : Prop where
 a7 : h.get (.own 7 1) = some (.cells (pcells v.row) 0)
 a8 : h.get (.own 8 1) = some (.cells (pcells (iV a).row) 0)
 a9 : h.get (.own 9 1) = some (.cells (pcells (kV s).row) 0)
 a10 : h.get (.own 10 1) = some (.cells (pcells x.row) 0)
 a12 : h.get (.own 12 1) = some (.cells (pcells y.row) 0)
theorem PlG.own {v x y : VT} {a : Int} {s : List UInt8} {h : Heap} (H : PlG v x y a s h) (d g : Nat) (ob : AObj) (hd : 12 < d) : PlG v x y a s (h.own d g ob) :=
 ⟨own_sameE h d g 7 1 _ _ (by omega) H.a7, own_sameE h d g 8 1 _ _ (by omega) H.a8, own_sameE h d g 9 1 _ _ (by omega) H.a9, own_sameE h d g 10 1 _ _ (by omega) H.a10, own_sameE h d g 12 1 _ _ (by omega) H.a12⟩
theorem PlH.of {v x y o : VT} {a : Int} {s : List UInt8} {t : Bool} {h : Heap} (H : PlG v x y a s h) (p q : AObj) : PlH v x y o a s t ((((h.own 14 1 p).own 14 1 (.cells (pcells (truthV t).row) 0)).own 16 1 q).own 16 1 (.cells (pcells o.row) 0)) := by
 have G := (((H.own 14 1 p (by decide)).own 14 1 (.cells (pcells (truthV t).row) 0) (by decide)).own 16 1 q (by decide)).own 16 1 (.cells (pcells o.row) 0) (by decide)
 exact ⟨G.a7, G.a8, G.a9, G.a10, G.a12, own_sameE _ 16 1 14 1 _ _ (by decide) (own_sameE _ 16 1 14 1 _ _ (by decide) (own_getE _ 14 1 _ 0 (by decide))), own_getE _ 16 1 _ 0 (by decide)⟩
theorem pl_k2 {v x y : VT} {a : Int} {s : List UInt8} {h : Heap} (H : PlG v x y a s h) (g14 : h.gen 14 = 0) (g16 : h.gen 16 = 0) (sv : smV v) (sx : smV x) (sy : smV y) (e f : Int) (hp : atM v (iV a) = (x, e)) (hq : getE v (kV s) = (y, f)) : b9_0k2 Om (lim tab.get S 9 0) 0 (kI a) (at' 7) (at' 8) (at' 9) (at' 10) (at' 12) (kI e) (kI f) h = some (kB true, []) := by
 rw [b9_0k2]
 have h1 := getE_17 hq
 have so : smV (orM y (iV a)) := by unfold orM; split; exact iV_sm a; exact sy
 simp (config := { maxSteps := 10000000 }) +contextual only [exa, ne_eq, not_false_eq_true, Nat.reduceAdd, Nat.reduceMul, Nat.reduceLT, Nat.reduceLeDiff, Nat.reduceEqDiff, Int.reduceLT, Int.reduceLE, Int.reduceEq, Int.reduceToNat, H.a7, H.a8, H.a12, g14, g16, bslice6_1 _ (VT.row_len y), bslice6_2, e_has, e_or sy (iV_sm a) rfl, put1_z6 _ (VT.row_len (truthV _)), put1_z6 _ (VT.row_len (ownV _)), h1, BEq.rfl]
 refine pl_k6 ?_ rfl (sm_own so) sv sx sy e f hp hq
 exact PlH.of H _ _
theorem pl_k1 {v : VT} {a : Int} {s : List UInt8} {h : Heap} (a7 : h.get (.own 7 1) = some (.cells (pcells v.row) 0)) (a8 : h.get (.own 8 1) = some (.cells (pcells (iV a).row) 0)) (g9 : h.gen 9 = 0) (g10 : h.gen 10 = 0) (g12 : h.gen 12 = 0) (g14 : h.gen 14 = 0) (g16 : h.gen 16 = 0) (sv : smV v) :
  b9_0k1 Om (lim tab.get S 9 0) 0 (kI a) (at' 7) (at' 8) (.v (.c (.p (.pptr (sRow s) 0)))) h = some (kB true, []) := by
 rw [b9_0k1]
 obtain ⟨x, e, hp⟩ : ∃ x e, atM v (iV a) = (x, e) := ⟨_, _, rfl⟩
 obtain ⟨y, f, hq⟩ : ∃ y f, getE v (kV s) = (y, f) := ⟨_, _, rfl⟩
 have sl := ((smV_eq v).1 sv).2.2.2
 have sx : smV x := by
  unfold atM at hp
  split at hp
  ·simp only [Prod.mk.injEq] at hp; rw [← hp.1]; exact nul_sm
  ·split at hp
   ·simp only [Prod.mk.injEq] at hp; rw [← hp.1]; exact nul_sm
   ·split at hp
    ·simp only [Prod.mk.injEq] at hp; rw [← hp.1]; exact nul_sm
    ·rename_i z hz
     simp only [Prod.mk.injEq] at hp; rw [← hp.1]; exact sm_own (sl z (List.mem_of_getElem? hz))
 have sy : smV y := by
  unfold getE at hq
  split at hq
  ·simp only [Prod.mk.injEq] at hq; rw [← hq.1]; exact nul_sm
  ·split at hq
   ·simp only [Prod.mk.injEq] at hq; rw [← hq.1]; exact nul_sm
   ·rename_i z hz
    simp only [Prod.mk.injEq] at hq; rw [← hq.1]
    unfold getM at hz
    split at hz
    ·obtain ⟨i, _, hi⟩ := Option.bind_eq_some_iff.1 hz
     exact sm_own (sl z (List.mem_of_getElem? hi))
    ·cases hz
 have i2 := kV_row s
 simp (config := { maxSteps := 10000000 }) +contextual only [exa, ne_eq, not_false_eq_true, Nat.reduceAdd, Nat.reduceMul, Nat.reduceLT, Nat.reduceLeDiff, Nat.reduceEqDiff, Int.reduceLT, Int.reduceLE, Int.reduceEq, Int.reduceToNat, a7, a8, g9, g10, g12, i2, bslice6_2, e_at sv hp, e_get sv hq, put1_z6 _ (VT.row_len x), put1_z6 _ (VT.row_len y), put1_z6 _ (VT.row_len (kV s))]
 refine pl_k2 (v := v) (x := x) (y := y) (a := a) (s := s) ⟨?_, ?_, ?_, ?_, ?_⟩ ?_ ?_ sv sx sy e f hp hq
 ·simp (config := { maxSteps := 10000000 }) only [exa, ne_eq, not_false_eq_true, Nat.reduceAdd, Nat.reduceMul, Nat.reduceLT, Nat.reduceLeDiff, Nat.reduceEqDiff, Int.reduceLT, Int.reduceLE, Int.reduceEq, Int.reduceToNat, a7]
 ·simp (config := { maxSteps := 10000000 }) only [exa, ne_eq, not_false_eq_true, Nat.reduceAdd, Nat.reduceMul, Nat.reduceLT, Nat.reduceLeDiff, Nat.reduceEqDiff, Int.reduceLT, Int.reduceLE, Int.reduceEq, Int.reduceToNat, a8]
 ·simp (config := { maxSteps := 10000000 }) only [exa, ne_eq, not_false_eq_true, Nat.reduceAdd, Nat.reduceMul, Nat.reduceLT, Nat.reduceLeDiff, Nat.reduceEqDiff, Int.reduceLT, Int.reduceLE, Int.reduceEq, Int.reduceToNat]
 ·simp (config := { maxSteps := 10000000 }) only [exa, ne_eq, not_false_eq_true, Nat.reduceAdd, Nat.reduceMul, Nat.reduceLT, Nat.reduceLeDiff, Nat.reduceEqDiff, Int.reduceLT, Int.reduceLE, Int.reduceEq, Int.reduceToNat]
 ·simp (config := { maxSteps := 10000000 }) only [exa, ne_eq, not_false_eq_true, Nat.reduceAdd, Nat.reduceMul, Nat.reduceLT, Nat.reduceLeDiff, Nat.reduceEqDiff, Int.reduceLT, Int.reduceLE, Int.reduceEq, Int.reduceToNat]
 ·simp (config := { maxSteps := 10000000 }) only [exa, ne_eq, not_false_eq_true, Nat.reduceAdd, Nat.reduceMul, Nat.reduceLT, Nat.reduceLeDiff, Nat.reduceEqDiff, Int.reduceLT, Int.reduceLE, Int.reduceEq, Int.reduceToNat, g14]
 ·simp (config := { maxSteps := 10000000 }) only [exa, ne_eq, not_false_eq_true, Nat.reduceAdd, Nat.reduceMul, Nat.reduceLT, Nat.reduceLeDiff, Nat.reduceEqDiff, Int.reduceLT, Int.reduceLE, Int.reduceEq, Int.reduceToNat, g16]
theorem places_law (r : RT) (a key : Int) : Om 9 [kA r.row, kI a, kI key] [] = some (kB true, []) := by
 refine (orc_none rfl).trans ?_
 show lim tab.get S 9 0 0 [kA r.row, kI a, kI key] h0 = _
 rw [w9_0, b9_0]
 by_cases hf : fewR r 40 = 0
 ·simp (config := { maxSteps := 10000000 }) +contextual only [exa, ne_eq, not_false_eq_true, Nat.reduceAdd, Nat.reduceMul, Nat.reduceLT, Nat.reduceLeDiff, Nat.reduceEqDiff, Int.reduceLT, Int.reduceLE, Int.reduceEq, Int.reduceToNat, exW, u36, u29, hf, oneOf]
 have sr := few_small (by decide) hf
 have sv := sm_good sr 4
 have u31' := fun {β : Type} {k : TVal → Heap → Option β} {h : Heap} {d : Nat} => u31 (k := k) (h := h) (d := d) r sr 4
 have hw := withinM_lt key 4 (by decide)
 have i1 := iV_row a
 simp (config := { maxSteps := 10000000 }) +contextual only [exa, ne_eq, not_false_eq_true, Nat.reduceAdd, Nat.reduceMul, Nat.reduceLT, Nat.reduceLeDiff, Nat.reduceEqDiff, Int.reduceLT, Int.reduceLE, Int.reduceEq, Int.reduceToNat, exW, u36, u29, hf, u31', wordB, word_at, u37 key 4 (by decide) (by decide), hw.1, i1, put1_z6 _ (VT.row_len (goodR r 4)), put1_z6 _ (VT.row_len (iV a))]
 exact pl_k1 rfl rfl rfl rfl rfl rfl rfl sv
end Go.Proofs.YtlkejchbcchecaaDoor.Ab
