/- Values that are of a type: fits.Fit. -/
import Derived.Test.YtlkejchbcchecaaDoorFrI
set_option linter.all false
set_option linter.unusedVariables false
set_option linter.unusedSimpArgs false
set_option maxRecDepth 100000
namespace Go.Proofs.YtlkejchbcchecaaDoor.Ab
open Go Go.AI
theorem rec_ok {m : TyM} {F : TT → VT → FitR} (H : FitOK m F) (hm : m.length < 4611686018427387904) (t : TT) (v : VT) (hn : t.names.len < 4611686018427387904) (hl : v.keys.len < 4611686018427387904) (r : List UInt8 × Bool) (he : recF F m t v = some r) : Om 118 [fmV m, kA t.row, kA v.row] [] = some (fitV' r, []) := by
 refine (orc_none rfl).trans ?_
 show lim tab.get S 118 0 0 [fmV m, kA t.row, kA v.row] h0 = _
 rw [w118_0, b118_0]
 unfold recF at he
 by_cases h5 : v.kind = 5
 ·rw [if_pos h5] at he
  obtain ⟨o, e1, e2⟩ := Option.bind_eq_some_iff.1 he
  have hr := rec_names H hm t v hn hl ((h0.own 4 1 (.cells (pcells t.row) 0)).own 5 1 (.cells (pcells v.row) 0)) (by simp only [exa, ne_eq, not_false_eq_true, Nat.reduceAdd, Nat.reduceMul, Nat.reduceLT, Nat.reduceLeDiff, Nat.reduceEqDiff, Int.reduceLT, Int.reduceLE, Int.reduceEq, Int.reduceToNat]) (by simp only [exa, ne_eq, not_false_eq_true, Nat.reduceAdd, Nat.reduceMul, Nat.reduceLT, Nat.reduceLeDiff, Nat.reduceEqDiff, Int.reduceLT, Int.reduceLE, Int.reduceEq, Int.reduceToNat]) 0 o (by rw [List.drop_zero]; exact e1)
  simp (config := { maxSteps := 10000000 }) +contextual only [exa, ne_eq, not_false_eq_true, Nat.reduceAdd, Nat.reduceMul, Nat.reduceLT, Nat.reduceLeDiff, Nat.reduceEqDiff, Int.reduceLT, Int.reduceLE, Int.reduceEq, Int.reduceToNat, h5]
  refine hr.trans ?_
  cases o with
  | some p => cases e2; rfl
  | none =>
   dsimp only at e2 ⊢
   obtain ⟨o2, c1, c2⟩ := Option.map_eq_some_iff.1 e2
   have hq := rec_keys t v hn hl ((h0.own 4 1 (.cells (pcells t.row) 0)).own 5 1 (.cells (pcells v.row) 0)) (by simp only [exa, ne_eq, not_false_eq_true, Nat.reduceAdd, Nat.reduceMul, Nat.reduceLT, Nat.reduceLeDiff, Nat.reduceEqDiff, Int.reduceLT, Int.reduceLE, Int.reduceEq, Int.reduceToNat]) 0 o2 (by rw [List.drop_zero]; exact c1)
   rw [w118_3, b118_3]
   simp (config := { maxSteps := 10000000 }) +contextual only [exa, ne_eq, not_false_eq_true, Nat.reduceAdd, Nat.reduceMul, Nat.reduceLT, Nat.reduceLeDiff, Nat.reduceEqDiff, Int.reduceLT, Int.reduceLE, Int.reduceEq, Int.reduceToNat]
   refine hq.trans ?_
   rw [← c2]
 ·rw [if_neg h5] at he
  cases he
  simp (config := { maxSteps := 10000000 }) +contextual only [exa, ne_eq, not_false_eq_true, Nat.reduceAdd, Nat.reduceMul, Nat.reduceLT, Nat.reduceLeDiff, Nat.reduceEqDiff, Int.reduceLT, Int.reduceLE, Int.reduceEq, Int.reduceToNat, h5, oneOf]
theorem union_ok {m : TyM} {F : TT → VT → FitR} (H : FitOK m F) (t : TT) (v : VT) (hn : t.names.len < 4611686018427387904) (r : List UInt8 × Bool) (he : unionF F t v = some r) : Om 119 [fmV m, kA t.row, kA v.row] [] = some (fitV' r, []) := by
 refine (orc_none rfl).trans ?_
 show lim tab.get S 119 0 0 [fmV m, kA t.row, kA v.row] h0 = _
 rw [w119_0, b119_0]
 unfold unionF at he
 cases hc : ((!decide (v.kind = 5) || !decide ((v.keys.len : Int) = 1)) || !decide ((v.l.len : Int) = 1))
 ·rw [hc] at he
  simp only [Bool.false_eq_true, if_false] at he
  have hc' : v.kind = 5 ∧ v.keys.len = 1 ∧ v.l.len = 1 := by simp at hc; omega
  obtain ⟨key, hk⟩ : ∃ key, v.keys.list = [key] := List.length_eq_one_iff.1 hc'.2.1
  obtain ⟨x, hx⟩ : ∃ x, v.l.list = [x] := List.length_eq_one_iff.1 hc'.2.2
  rw [hk, hx] at he
  simp only [List.headD_cons] at he
  cases hi : (idxM key t.names.list).bind fun i => t.kids.list[i]? with
  | none =>
   rw [hi] at he
   cases he
   have hmiss : (decide (idxI (idxM key t.names.list) 0 < 0) || !decide (idxI (idxM key t.names.list) 0 < (t.kids.len : Int))) = true := by
    cases hi' : idxM key t.names.list with
    | none => rfl
    | some j =>
     rw [hi'] at hi
     have : t.kids.list.length ≤ j := by simpa using hi
     have h4 : ¬ idxI (some j) 0 < (t.kids.len : Int) := by unfold idxI Sl.len; simp; omega
     rw [decide_eq_false h4]; simp
   simp (config := { maxSteps := 10000000 }) +contextual only [exa, ne_eq, not_false_eq_true, Nat.reduceAdd, Nat.reduceMul, Nat.reduceLT, Nat.reduceLeDiff, Nat.reduceEqDiff, Int.reduceLT, Int.reduceLE, Int.reduceEq, Int.reduceToNat, hc, hk, hx, u131 t.names key hn, hmiss, oneOf]
  | some kt =>
   rw [hi] at he
   dsimp only at he
   obtain ⟨j, j1, j2⟩ := Option.bind_eq_some_iff.1 hi
   have hjl : j < t.kids.len := by obtain ⟨q, _⟩ := List.getElem?_eq_some_iff.1 j2; exact q
   have hj : idxI (idxM key t.names.list) 0 = (j : Int) := by rw [j1]; unfold idxI; simp
   have hj0 : ¬ (j : Int) < 0 := by omega
   have hj1 : (j : Int) < (t.kids.len : Int) := by omega
   obtain ⟨r1, e1, e2⟩ := Option.bind_eq_some_iff.1 he
   obtain ⟨p, b⟩ := r1
   cases b
   ·simp only [Bool.false_eq_true, if_false] at e2
    obtain ⟨s, s1, s2⟩ := Option.bind_eq_some_iff.1 e2
    obtain ⟨c, c1, c2⟩ := Option.map_eq_some_iff.1 s2
    obtain ⟨c3, c4⟩ := catM_some s1
    subst c4
    obtain ⟨c5, c6⟩ := catM_some c1
    subst c2; subst c6
    simp (config := { maxSteps := 10000000 }) +contextual only [ex, exG, exM, exV, exF, List.getElem?_cons_zero, List.getElem?_cons_succ, Int.reduceToNat, Int.reduceLE, Nat.reduceEqDiff, Nat.reduceLT, ne_eq, not_false_eq_true, Option.map_some, Bool.not_true, Bool.not_false, Bool.or_self, Int.toNat_natCast, Nat.zero_add, Nat.reduceAdd, decide_true, decide_false, hc, hk, hx, u131 t.names key hn, hj, hj0, hj1, j2, H.u e1, c3, c5, oneOf]
   ·simp only [if_true] at e2
    cases e2
    simp (config := { maxSteps := 10000000 }) +contextual only [exa, ne_eq, not_false_eq_true, Nat.reduceAdd, Nat.reduceMul, Nat.reduceLT, Nat.reduceLeDiff, Nat.reduceEqDiff, Int.reduceLT, Int.reduceLE, Int.reduceEq, Int.reduceToNat, hc, hk, hx, u131 t.names key hn, hj, hj0, hj1, j2, H.u e1, oneOf]
 ·rw [hc] at he
  cases he
  simp (config := { maxSteps := 10000000 }) +contextual only [exa, ne_eq, not_false_eq_true, Nat.reduceAdd, Nat.reduceMul, Nat.reduceLT, Nat.reduceLeDiff, Nat.reduceEqDiff, Int.reduceLT, Int.reduceLE, Int.reduceEq, Int.reduceToNat, hc, oneOf]
set_option maxHeartbeats 2000000 in
theorem fit_ok (m : TyM) (hm : m.length < 4611686018427387904) : ∀ n, FitOK m (fitF m n) := by
 intro n
 induction n with
 | zero => intro t v r he; cases he
 | succ n ih =>
  intro t0 v r he
  refine (orc_none rfl).trans ?_
  show lim tab.get S 58 0 0 [fmV m, kA t0.row, kA v.row] h0 = _
  rw [w58_0, b58_0]
  unfold fitF at he
  cases hb : bigB (fopen m t0) v
  case true => rw [hb, if_pos rfl] at he; cases he
  rw [hb] at he
  simp only [Bool.false_eq_true, if_false] at he
  have hu := fun (β : Type) (k : TVal → Heap → Option β) (h : Heap) (d : Nat) => u113 (k := k) (h := h) (d := d) m t0 hm
  generalize fopen m t0 = t at he hb hu
  have hB : t.names.len < 4611686018427387904 ∧ t.kids.len < 4611686018427387904 ∧ v.keys.len < 4611686018427387904 ∧ v.l.len < 4611686018427387904 := by
   simp [bigB] at hb; omega
  by_cases k1 : t.kind = 1
  ·rw [if_pos k1] at he; cases he
   simp (config := { maxSteps := 10000000 }) +contextual only [exa, ne_eq, not_false_eq_true, Nat.reduceAdd, Nat.reduceMul, Nat.reduceLT, Nat.reduceLeDiff, Nat.reduceEqDiff, Int.reduceLT, Int.reduceLE, Int.reduceEq, Int.reduceToNat, hu, k1, oneOf]
  rw [if_neg k1] at he
  by_cases k2 : t.kind = 2
  ·rw [if_pos k2] at he; cases he
   simp (config := { maxSteps := 10000000 }) +contextual only [exa, ne_eq, not_false_eq_true, Nat.reduceAdd, Nat.reduceMul, Nat.reduceLT, Nat.reduceLeDiff, Nat.reduceEqDiff, Int.reduceLT, Int.reduceLE, Int.reduceEq, Int.reduceToNat, hu, k1, k2, oneOf]
  rw [if_neg k2] at he
  by_cases k3 : t.kind = 3
  ·rw [if_pos k3] at he; cases he
   simp (config := { maxSteps := 10000000 }) +contextual only [exa, ne_eq, not_false_eq_true, Nat.reduceAdd, Nat.reduceMul, Nat.reduceLT, Nat.reduceLeDiff, Nat.reduceEqDiff, Int.reduceLT, Int.reduceLE, Int.reduceEq, Int.reduceToNat, hu, k1, k2, k3, oneOf]
  rw [if_neg k3] at he
  by_cases k4 : t.kind = 4
  ·rw [if_pos k4] at he
   have hc : ∀ (β : Type) (k : TVal → Heap → Option β) (h : Heap) (d : Nat), vcall Om (.v (.c (.func 114 []))) [fmV m, kA t.row, kA v.row, kI 4, .v (.c (.func 115 []))] h d k = k (fitV' r) h := fun β k h d =>
    vcall_f 114 [fmV m, kA t.row, kA v.row, kI 4] [] 115 _ (by simp only [exP]) rfl (by simp only [exP]) (eachL_ok ih t v hB.2.2.2 r he)
   simp (config := { maxSteps := 10000000 }) +contextual only [exa, ne_eq, not_false_eq_true, Nat.reduceAdd, Nat.reduceMul, Nat.reduceLT, Nat.reduceLeDiff, Nat.reduceEqDiff, Int.reduceLT, Int.reduceLE, Int.reduceEq, Int.reduceToNat, hu, k1, k2, k3, k4, hc, oneOf]
  rw [if_neg k4] at he
  by_cases k5 : t.kind = 5
  ·rw [if_pos k5] at he
   have hc : ∀ (β : Type) (k : TVal → Heap → Option β) (h : Heap) (d : Nat), h.get (.own 5 1) = some (.cells (pcells v.row) 0) → vcall Om (.v (.c (.func 114 []))) [fmV m, kA t.row, kA v.row, kI 5, .v (.c (.func 117 [.own 5 1]))] h d k = k (fitV' r) (h.put (.own 5 1) (.cells (pcells v.row) 0)) := fun β k h d hg =>
    vcall_p' 114 (.own 5 1) (.v (.c (.func 117 [.own 5 1]))) (.v (.c (.func 117 [.im 0]))) [fmV m, kA t.row, kA v.row, kI 5] [] _ _ _ rfl rfl (clo_ren _ _) (by simp only [exP]) rfl hg (plainO_cells _ _) (plainO_cells _ _) (by simp only [exP]) (eachM_ok ih t v v hB.2.2.2 r he)
   simp (config := { maxSteps := 10000000 }) +contextual only [exa, ne_eq, not_false_eq_true, Nat.reduceAdd, Nat.reduceMul, Nat.reduceLT, Nat.reduceLeDiff, Nat.reduceEqDiff, Int.reduceLT, Int.reduceLE, Int.reduceEq, Int.reduceToNat, hu, k1, k2, k3, k4, k5]
   refine (hc _ _ _ _ (by simp only [exa, ne_eq, not_false_eq_true, Nat.reduceAdd, Nat.reduceMul, Nat.reduceLT, Nat.reduceLeDiff, Nat.reduceEqDiff, Int.reduceLT, Int.reduceLE, Int.reduceEq, Int.reduceToNat])).trans ?_
   simp (config := { maxSteps := 10000000 }) +contextual only [exa, ne_eq, not_false_eq_true, Nat.reduceAdd, Nat.reduceMul, Nat.reduceLT, Nat.reduceLeDiff, Nat.reduceEqDiff, Int.reduceLT, Int.reduceLE, Int.reduceEq, Int.reduceToNat, oneOf]
  rw [if_neg k5] at he
  by_cases k6 : t.kind = 6
  ·rw [if_pos k6] at he
   cases hc : (decide (v.kind = 0) || !decide ((t.kids.len : Int) = 1))
   ·rw [hc] at he
    simp only [Bool.false_eq_true, if_false] at he
    obtain ⟨kt, hk⟩ : ∃ kt, t.kids.list = [kt] := by
     simp at hc
     have : t.kids.list.length = 1 := by have := hc.2; unfold Sl.len at this; omega
     exact List.length_eq_one_iff.1 this
    rw [hk] at he
    simp only [List.headD_cons] at he
    simp (config := { maxSteps := 10000000 }) +contextual only [exa, ne_eq, not_false_eq_true, Nat.reduceAdd, Nat.reduceMul, Nat.reduceLT, Nat.reduceLeDiff, Nat.reduceEqDiff, Int.reduceLT, Int.reduceLE, Int.reduceEq, Int.reduceToNat, hu, k1, k2, k3, k4, k5, k6, hc, hk, ih.u he, oneOf]
   ·rw [hc] at he
    cases he
    simp (config := { maxSteps := 10000000 }) +contextual only [exa, ne_eq, not_false_eq_true, Nat.reduceAdd, Nat.reduceMul, Nat.reduceLT, Nat.reduceLeDiff, Nat.reduceEqDiff, Int.reduceLT, Int.reduceLE, Int.reduceEq, Int.reduceToNat, hu, k1, k2, k3, k4, k5, k6, hc, oneOf]
  rw [if_neg k6] at he
  by_cases k7 : t.kind = 7
  ·rw [if_pos k7] at he
   have hc : ∀ (β : Type) (k : TVal → Heap → Option β) (h : Heap) (d : Nat), vcall Om (.v (.c (.func 118 []))) [fmV m, kA t.row, kA v.row] h d k = k (fitV' r) h := fun β k h d => vcall_pure 118 _ _ (by simp only [exP]) (rec_ok ih hm t v hB.1 hB.2.2.1 r he) (by simp only [exP])
   simp (config := { maxSteps := 10000000 }) +contextual only [exa, ne_eq, not_false_eq_true, Nat.reduceAdd, Nat.reduceMul, Nat.reduceLT, Nat.reduceLeDiff, Nat.reduceEqDiff, Int.reduceLT, Int.reduceLE, Int.reduceEq, Int.reduceToNat, hu, k1, k2, k3, k4, k5, k6, k7, hc, oneOf]
  rw [if_neg k7] at he
  by_cases k8 : t.kind = 8
  ·rw [if_pos k8] at he
   have hc : ∀ (β : Type) (k : TVal → Heap → Option β) (h : Heap) (d : Nat), vcall Om (.v (.c (.func 119 []))) [fmV m, kA t.row, kA v.row] h d k = k (fitV' r) h := fun β k h d => vcall_pure 119 _ _ (by simp only [exP]) (union_ok ih t v hB.1 r he) (by simp only [exP])
   simp (config := { maxSteps := 10000000 }) +contextual only [exa, ne_eq, not_false_eq_true, Nat.reduceAdd, Nat.reduceMul, Nat.reduceLT, Nat.reduceLeDiff, Nat.reduceEqDiff, Int.reduceLT, Int.reduceLE, Int.reduceEq, Int.reduceToNat, hu, k1, k2, k3, k4, k5, k6, k7, k8, hc, oneOf]
  ·rw [if_neg k8] at he
   cases he
   simp (config := { maxSteps := 10000000 }) +contextual only [exa, ne_eq, not_false_eq_true, Nat.reduceAdd, Nat.reduceMul, Nat.reduceLT, Nat.reduceLeDiff, Nat.reduceEqDiff, Int.reduceLT, Int.reduceLE, Int.reduceEq, Int.reduceToNat, hu, k1, k2, k3, k4, k5, k6, k7, k8, oneOf]
/-! ### the map of named types -/
def madeM (types : List NT) : TyM := types.map fun e => (e.name, e.t)
theorem made_loop (s : ST) (hl : s.types.len < 4611686018427387904) (hd : ∀ (i j : Nat) a b, i < j → s.types.list[i]? = some a → s.types.list[j]? = some b → a.name ≠ b.name) :
  ∀ (i : Nat) (h : Heap), h.get (.own 6 1) = some (.map (smE (fmR (madeM (s.types.list.take i))) 0) (fmR (madeM (s.types.list.take i))).length) →
   lim tab.get S 57 0 1 [.v (.c (.mref (.own 6 1))), .v (.c (.p (slP 5 NT.row s.types))), kI (s.types.len : Int), kI (i : Int)] h = some (fmV (madeM s.types.list), []) := by
 refine loop_up s.types.len (fun i hi h hg => ?_) (fun i hi ih h hg => ?_) <;> rw [w57_1, b57_1]
 ·have h1 : ¬ (i : Int) < (s.types.len : Int) := by omega
  rw [List.take_of_length_le hi] at hg
  simp (config := { maxSteps := 10000000 }) +contextual only [exa, ne_eq, not_false_eq_true, Nat.reduceAdd, Nat.reduceMul, Nat.reduceLT, Nat.reduceLeDiff, Nat.reduceEqDiff, Int.reduceLT, Int.reduceLE, Int.reduceEq, Int.reduceToNat, h1]
  exact x_finmap _ _ _ hg
 ·have h1 : (i : Int) < (s.types.len : Int) := by omega
  obtain ⟨x, hx, h2, _⟩ := at_step hi
  have hn : lookR x.name (fmR (madeM (s.types.list.take i))) = none := by
   rw [lookR_find]
   rw [List.find?_eq_none.2]; rfl
   intro e he
   simp only [fmR, madeM, List.map_map, List.mem_map] at he
   obtain ⟨y, hy, rfl⟩ := he
   obtain ⟨j, hj⟩ := List.mem_iff_getElem?.1 hy
   rw [List.getElem?_take] at hj
   split at hj
   ·rename_i hji
    have := hd j i y x hji hj hx
    simp only [Function.comp, decide_eq_true_eq]
    exact fun e => this e.symm
   ·cases hj
  have ht : s.types.list.take (i + 1) = s.types.list.take i ++ [x] := by
   obtain ⟨q, e⟩ := List.getElem?_eq_some_iff.1 hx
   rw [List.take_succ_eq_append_getElem q, e]
  have e : fmR (madeM (s.types.list.take (i + 1))) = fmR (madeM (s.types.list.take i)) ++ [(x.name, x.t.row)] := by
   rw [ht]; simp [fmR, madeM]
  simp (config := { maxSteps := 10000000 }) +contextual only [exa, ne_eq, not_false_eq_true, Nat.reduceAdd, Nat.reduceMul, Nat.reduceLT, Nat.reduceLeDiff, Nat.reduceEqDiff, Int.reduceLT, Int.reduceLE, Int.reduceEq, Int.reduceToNat, h1, hx]
  rw [x_mapup _ _ (fmR (madeM (s.types.list.take i))).length x.name x.t.row (by simp only [exa, ne_eq, not_false_eq_true, Nat.reduceAdd, Nat.reduceMul, Nat.reduceLT, Nat.reduceLeDiff, Nat.reduceEqDiff, Int.reduceLT, Int.reduceLE, Int.reduceEq, Int.reduceToNat, hg]) hn]
  simp (config := { maxSteps := 10000000 }) +contextual only [exa, ne_eq, not_false_eq_true, Nat.reduceAdd, Nat.reduceMul, Nat.reduceLT, Nat.reduceLeDiff, Nat.reduceEqDiff, Int.reduceLT, Int.reduceLE, Int.reduceEq, Int.reduceToNat, wrapS i (by omega)]
  refine ih _ ?_
  rw [e]
  exact Heap.own_get _ _ _ _ (by decide) (fun e => by cases e)
theorem made_ok (s : ST) (hl : s.types.len < 4611686018427387904) (hd : ∀ (i j : Nat) a b, i < j → s.types.list[i]? = some a → s.types.list[j]? = some b → a.name ≠ b.name) : Om 57 [kA s.row] [] = some (fmV (madeM s.types.list), []) := by
 refine (orc_none rfl).trans ?_
 show lim tab.get S 57 0 0 [kA s.row] h0 = _
 rw [w57_0, b57_0]
 simp (config := { maxSteps := 10000000 }) +contextual only [exa, ne_eq, not_false_eq_true, Nat.reduceAdd, Nat.reduceMul, Nat.reduceLT, Nat.reduceLeDiff, Nat.reduceEqDiff, Int.reduceLT, Int.reduceLE, Int.reduceEq, Int.reduceToNat]
 exact made_loop s hl hd 0 _ (Heap.own_get _ _ _ _ (by decide) (fun e => by cases e))
/-- fits.Fit. -/
theorem Fit_ok (s : ST) (t : TT) (v : VT) (n : Nat) (hl : s.types.len < 4611686018427387904) (hd : ∀ (i j : Nat) a b, i < j → s.types.list[i]? = some a → s.types.list[j]? = some b → a.name ≠ b.name) (r : List UInt8 × Bool) (he : fitF (madeM s.types.list) n t v = some r) :
  Om 17 [kA s.row, kA t.row, kA v.row] [] = some (.tup [.c (.p (.str (if r.2 = true then [] else r.1))), .c (.p (.int .i64 (if r.2 = true then 0 else 31)))], []) := by
 refine (orc_none rfl).trans ?_
 show lim tab.get S 17 0 0 [kA s.row, kA t.row, kA v.row] h0 = _
 rw [w17_0, b17_0]
 have t57 : ∀ (β : Type) (kt : TVal → Heap → AI.Touch → Option β) (h : Heap) (d : Nat), vtouch Om (.call (.k (.v (.c (.func 57 [])))) [.k (kA s.row)]) h d kt = kt (fmV (madeM s.types.list)) h noTouch := fun β kt h d => t_call0 57 [kA s.row] _ (by simp only [exP]) (made_ok s hl hd) rfl
 have hm : (madeM s.types.list).length < 4611686018427387904 := by unfold madeM; rw [List.length_map]; exact hl
 have t58 : ∀ (β : Type) (kt : TVal → Heap → AI.Touch → Option β) (h : Heap) (d : Nat), vtouch Om (.call (.k (.v (.c (.func 58 [])))) [.k (fmV (madeM s.types.list)), .k (kA t.row), .k (kA v.row)]) h d kt = kt (fitV' r) h noTouch := fun β kt h d => t_call0 58 [fmV (madeM s.types.list), kA t.row, kA v.row] _ (by simp only [exP]) (fit_ok _ hm n t v r he) (by simp only [exP])
 obtain ⟨p, b⟩ := r
 cases b
 ·simp (config := { maxSteps := 10000000 }) +contextual only [exa, ne_eq, not_false_eq_true, Nat.reduceAdd, Nat.reduceMul, Nat.reduceLT, Nat.reduceLeDiff, Nat.reduceEqDiff, Int.reduceLT, Int.reduceLE, Int.reduceEq, Int.reduceToNat, t57, t58, oneOf, Bool.false_eq_true, if_false]
 ·simp (config := { maxSteps := 10000000 }) +contextual only [exa, ne_eq, not_false_eq_true, Nat.reduceAdd, Nat.reduceMul, Nat.reduceLT, Nat.reduceLeDiff, Nat.reduceEqDiff, Int.reduceLT, Int.reduceLE, Int.reduceEq, Int.reduceToNat, t57, t58, oneOf, if_true]
end Go.Proofs.YtlkejchbcchecaaDoor.Ab
