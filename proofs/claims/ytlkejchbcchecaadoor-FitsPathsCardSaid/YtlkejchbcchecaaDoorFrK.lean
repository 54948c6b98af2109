/- FitsPaths, whatever the ways. -/
import Derived.Test.YtlkejchbcchecaaDoorFrJ
set_option linter.all false
set_option linter.unusedVariables false
set_option linter.unusedSimpArgs false
set_option maxRecDepth 100000
namespace Go.Proofs.YtlkejchbcchecaaDoor.Ab
open Go Go.AI
def withinM (a n : Int) : Int := if a.tmod n < 0 then a.tmod n + n else a.tmod n
theorem withinM_lt (a n : Int) (hn : 0 < n) : 0 ≤ withinM a n ∧ withinM a n < n := by
 have h1 := Int.tmod_lt_of_pos a hn
 have h2 : -n < a.tmod n := by
  have := Int.tmod_lt_of_pos (-a) hn
  rw [Int.neg_tmod] at this; omega
 unfold withinM
 split <;> omega
theorem within14 (a n : Int) (hn : 0 < n) (hs : n < 1000000) : Om 14 [kI a, kI n] [] = some (kI (withinM a n), []) := by
 refine (orc_none rfl).trans ?_
 show lim tab.get S 14 0 0 [kI a, kI n] h0 = _
 have hb := withinM_lt a n hn
 rw [w14_0, b14_0]
 unfold withinM at hb ⊢
 by_cases h : a.tmod n < 0
 ·rw [if_pos h] at hb ⊢
  have hw : IntKind.i64.wrap (a.tmod n + n) = a.tmod n + n := wrap_i64 _ (by omega) (by omega)
  simp (config := { maxSteps := 10000000 }) +contextual only [exa, ne_eq, not_false_eq_true, Nat.reduceAdd, Nat.reduceMul, Nat.reduceLT, Nat.reduceLeDiff, Nat.reduceEqDiff, Int.reduceLT, Int.reduceLE, Int.reduceEq, Int.reduceToNat, vbin_rem 0 .i64 a n (by omega), h, hw, oneOf]
 ·rw [if_neg h]
  simp (config := { maxSteps := 10000000 }) +contextual only [exa, ne_eq, not_false_eq_true, Nat.reduceAdd, Nat.reduceMul, Nat.reduceLT, Nat.reduceLeDiff, Nat.reduceEqDiff, Int.reduceLT, Int.reduceLE, Int.reduceEq, Int.reduceToNat, vbin_rem 0 .i64 a n (by omega), h, oneOf]
theorem known13 : Om 13 [] [] = some (kB true, []) := (orc_none rfl).trans (machU_le blks_ok 500 13 0 0 _ _ _ (by kernel_rfl))
/-- A type, a value that is not of it, where it is not, one that is. -/
structure FP where
 t : TT
 v : VT
 p : List UInt8
 g : VT
abbrev nA : List UInt8 := [97]
abbrev nB : List UInt8 := [98]
abbrev tab2 (a b : List UInt8) (x y : VT) : VT := .mk 5 false 0 [] (.mk true [a, b]) (.mk true [x, y])
def stepP (k : Int) (f : FP) : FP :=
 if k = 0 then ⟨.mk 4 [] .nil (.mk true [f.t]), .mk 4 false 0 [] .nil (.mk true [f.g, f.v]), [91, 49, 93] ++ f.p, .mk 4 false 0 [] .nil .nil⟩ else
 if k = 1 then ⟨.mk 5 [] .nil (.mk true [f.t]), tab2 [107] [113] f.g f.v, [91, 34, 113, 34, 93] ++ f.p, .mk 5 false 0 [] .nil .nil⟩ else
 if k = 2 then ⟨.mk 7 [] (.mk true [nA, nB]) (.mk true [f.t, f.t]), tab2 nA nB f.g f.v, [46, 98] ++ f.p, tab2 nA nB f.g f.g⟩ else
 if k = 3 then ⟨.mk 8 [] (.mk true [[118], [119]]) (.mk true [.mk 1 [] .nil .nil, f.t]), .mk 5 false 0 [] (.mk true [[119]]) (.mk true [f.v]), [46, 119] ++ f.p, .mk 5 false 0 [] (.mk true [[119]]) (.mk true [f.g])⟩ else
 if f.t.kind = 6 then f else ⟨.mk 6 [] .nil (.mk true [f.t]), f.v, f.p, f.g⟩
def startP : FP := ⟨.mk 2 [] .nil .nil, .mk 1 false 0 [] .nil .nil, [], .mk 2 false 0 [] .nil .nil⟩
/-- What is true of them. -/
structure OkP (n : Nat) (f : FP) : Prop where
 v0 : f.v.kind ≠ 0
 g0 : f.g.kind ≠ 0
 t9 : f.t.kind ≠ 9
 fit : fitT f.t
 len : f.p.length ≤ 5 * n
 fits : ∃ m, fitF [] m f.t f.v = some (f.p, false) ∧ fitF [] m f.t f.g = some ([], true)
theorem fopen0 (t : TT) : fopen [] t = t := rfl
theorem catS {a b : List UInt8} (h : a.length + b.length ≤ 1000) : catM a b = some (a ++ b) := if_pos (by omega)
theorem start_ok : OkP 0 startP := ⟨by decide, by decide, by decide, (fitT_eq _).2 ⟨by decide, by decide, fun x h => by cases h⟩, by decide, 1, rfl, rfl⟩
theorem fitT_mk {k : Int} {n : List UInt8} {ns : Sl (List UInt8)} {l : List TT} (h1 : ns.len < 100) (h2 : l.length < 100) (h3 : ∀ x ∈ l, fitT x) : fitT (.mk k n ns (.mk true l)) :=
 (fitT_eq _).2 ⟨Nat.lt_of_lt_of_le h1 (by decide), Nat.lt_of_lt_of_le h2 (by decide), h3⟩
theorem step_ok (n : Nat) (hn : n < 20) (k : Int) (f : FP) (H : OkP n f) : OkP (n + 1) (stepP k f) := by
 obtain ⟨v0, g0, t9, ft, len, m, bad, good⟩ := H
 have pl : placeL 1 = some [91, 49, 93] := by decide
 unfold stepP
 by_cases h0 : k = 0
 ·rw [if_pos h0]
  refine ⟨by simp [VT.kind], by simp [VT.kind], by simp [TT.kind], fitT_mk (by decide) (by simp) (fun x hx => by simp at hx; subst hx; exact ft), by simp; omega, m + 1, ?_, ?_⟩
  ·unfold fitF
   rw [fopen0]
   simp [bigB, TT.kind, TT.kids, TT.names, VT.keys, VT.l, VT.kind, Sl.len, Sl.list, eachF, eachL, bad, good, pl]
   rw [catS (by simp; omega)]; rfl
  ·unfold fitF
   rw [fopen0]
   simp [bigB, TT.kind, TT.kids, TT.names, VT.keys, VT.l, VT.kind, Sl.len, Sl.list, eachF, eachL]
 rw [if_neg h0]
 by_cases h1 : k = 1
 ·rw [if_pos h1]
  refine ⟨by simp [VT.kind], by simp [VT.kind], by simp [TT.kind], fitT_mk (by decide) (by simp) (fun x hx => by simp at hx; subst hx; exact ft), by simp; omega, m + 1, ?_, ?_⟩
  ·unfold fitF
   rw [fopen0]
   simp [bigB, TT.kind, TT.kids, TT.names, VT.keys, VT.l, VT.kind, Sl.len, Sl.list, eachF, eachL, bad, good, placeM]
   rw [catS (by simp; omega)]; rfl
  ·unfold fitF
   rw [fopen0]
   simp [bigB, TT.kind, TT.kids, TT.names, VT.keys, VT.l, VT.kind, Sl.len, Sl.list, eachF, eachL]
 rw [if_neg h1]
 by_cases h2 : k = 2
 ·rw [if_pos h2]
  have cA : catM [46] nA = some [46, 97] := by decide
  have cB : catM [46] nB = some [46, 98] := by decide
  refine ⟨by simp [VT.kind], by simp [VT.kind], by simp [TT.kind], fitT_mk (by decide) (by simp) (fun x hx => by simp at hx; subst hx; exact ft), by simp; omega, m + 1, ?_, ?_⟩
  ·unfold fitF
   rw [fopen0]
   simp [bigB, TT.kind, TT.kids, TT.names, VT.keys, VT.l, VT.kind, Sl.len, Sl.list, recF, recN, idxM, bad, good, cB]
   rw [catS (by simp; omega)]; rfl
  ·unfold fitF
   rw [fopen0]
   simp [bigB, TT.kind, TT.kids, TT.names, VT.keys, VT.l, VT.kind, Sl.len, Sl.list, recF, recN, idxM, good, keysF]
 rw [if_neg h2]
 by_cases h3 : k = 3
 ·rw [if_pos h3]
  have cW : catM [46] [119] = some [46, 119] := by decide
  refine ⟨by simp [VT.kind], by simp [VT.kind], by simp [TT.kind], fitT_mk (by decide) (by simp) (fun x hx => ?_), by simp; omega, m + 1, ?_, ?_⟩
  ·simp at hx
   rcases hx with rfl | rfl
   ·exact (fitT_eq _).2 ⟨by decide, by decide, fun x h => by cases h⟩
   ·exact ft
  ·unfold fitF
   rw [fopen0]
   simp [bigB, TT.kind, TT.kids, TT.names, VT.keys, VT.l, VT.kind, Sl.len, Sl.list, unionF, idxM, bad, good, cW]
   rw [catS (by simp; omega)]; rfl
  ·unfold fitF
   rw [fopen0]
   simp [bigB, TT.kind, TT.kids, TT.names, VT.keys, VT.l, VT.kind, Sl.len, Sl.list, unionF, idxM, good]
 rw [if_neg h3]
 by_cases h6 : f.t.kind = 6
 ·rw [if_pos h6]
  exact ⟨v0, g0, t9, ft, by omega, m, bad, good⟩
 ·rw [if_neg h6]
  refine ⟨v0, g0, by simp [TT.kind], fitT_mk (by decide) (by simp) (fun x hx => by simp at hx; subst hx; exact ft), by simp; omega, ?_⟩
  have hb : ∀ x, fitF [] m f.t x ≠ none → bigB (.mk 6 [] .nil (.mk true [f.t])) x = false := by
   intro x hx
   cases m with
   | zero => exact absurd rfl hx
   | succ m =>
    unfold fitF at hx
    by_cases hq : bigB (fopen [] f.t) x = true
    ·rw [if_pos hq] at hx; exact absurd rfl hx
    ·rw [fopen0] at hq
     simp only [bigB, Bool.or_eq_true, decide_eq_true_eq] at hq
     refine Bool.eq_false_iff.2 fun e => hq ?_
     simp only [bigB, Bool.or_eq_true, decide_eq_true_eq] at e
     rcases e with ((e | e) | e) | e
     ·exact absurd e (by simp [TT.names, Sl.len, Sl.list])
     ·exact absurd e (by simp [TT.kids, Sl.len, Sl.list])
     ·exact .inl (.inr e)
     ·exact .inr e
  refine ⟨m + 1, ?_, ?_⟩
  ·unfold fitF
   rw [fopen0, hb _ (by rw [bad]; simp)]
   simp [TT.kind, TT.kids, Sl.len, Sl.list, bad, v0]
  ·unfold fitF
   rw [fopen0, hb _ (by rw [good]; simp)]
   simp [TT.kind, TT.kids, Sl.len, Sl.list, good, g0]
def runP : List Int → Nat → FP → FP
 | [], _, f => f
 | w :: l, i, f => if i < 8 then runP l (i + 1) (stepP (withinM w 5) f) else f
theorem runP_ok : ∀ (l : List Int) (i : Nat) (f : FP), i ≤ 8 → OkP i f → ∃ j, j ≤ 8 ∧ OkP j (runP l i f)
 | [], i, f, hi, H => ⟨i, hi, H⟩
 | w :: l, i, f, hi, H => by
  unfold runP
  by_cases h : i < 8
  ·rw [if_pos h]; exact runP_ok l (i + 1) _ (by omega) (step_ok i (by omega) _ f H)
  ·rw [if_neg h]; exact ⟨i, hi, H⟩
def argI (o : Option (List Int)) : Sl Int := match o with
 | none => .nil
 | some l => .mk false l
theorem argI_eq (o : Option (List Int)) : intsP .i64 o = slP 1 iRow (argI o) := by cases o <;> rfl
theorem argI_list (o : Option (List Int)) : (argI o).list = intsL o := by cases o <;> rfl
def HP (f : FP) (h : Heap) : Prop := h.get (.own 3 1) = some (.cells (pcells f.t.row) 0) ∧ h.get (.own 4 1) = some (.cells (pcells f.v.row) 0) ∧ h.get (.own 6 1) = some (.cells (pcells f.g.row) 0)
theorem u14 {β : Type} {k : TVal → Heap → Option β} {h : Heap} {d : Nat} (a : Int) : vcall Om (.v (.c (.func 14 []))) [kI a, kI 5] h d k = k (kI (withinM a 5)) h := vcall_pure 14 _ _ rfl (within14 a 5 (by decide) (by decide)) rfl
/-- A row, cell for cell. -/
theorem tt_row (k : Int) (n : List UInt8) (ns : Sl (List UInt8)) (ks : Sl TT) : TT.row (.mk k n ns ks) = [.int .i64 k, .str n, slP 1 sRow ns, slP 4 TT.row ks] := by rw [TT.row_eq]; rfl
theorem vt_row (k : Int) (b : Bool) (n : Int) (s : List UInt8) (ks : Sl (List UInt8)) (l : Sl VT) : VT.row (.mk k b n s ks l) = [.int .i64 k, .bool b, .int .i64 n, .str s, slP 1 sRow ks, slP 6 VT.row l] := by rw [VT.row_eq]; rfl
set_option maxHeartbeats 4000000 in
theorem one_step (o : Option (List Int)) (i : Nat) (hi : i < 8) (w : Int) (hw : (intsL o)[i]? = some w) (f : FP) (hp : f.p.length ≤ 1000) (h : Heap) (H : HP f h) (X : Res1)
  (hX : ∀ h', HP (stepP (withinM w 5) f) h' → lim tab.get S 3 0 1 [.v (.c (.p (slP 1 iRow (argI o)))), pO 3 1, pO 4 1, kS (stepP (withinM w 5) f).p, pO 6 1, kI ((i + 1 : Nat) : Int)] h' = X) :
  lim tab.get S 3 0 1 [.v (.c (.p (slP 1 iRow (argI o)))), pO 3 1, pO 4 1, kS f.p, pO 6 1, kI (i : Int)] h = X := by
 obtain ⟨ht, hv, hg⟩ := H
 have hl : i < (argI o).len := by unfold Sl.len; rw [argI_list]; exact (List.getElem?_eq_some_iff.1 hw).1
 have h1 : (i : Int) < ((argI o).len : Int) := by omega
 have h2 : (i : Int) < 8 := by omega
 have hr := withinM_lt w 5 (by decide)
 rw [← argI_list] at hw
 rw [w3_1, b3_1]
 unfold stepP at hX
 by_cases k0 : withinM w 5 = 0
 ·have c1 : 3 + f.p.length ≤ 4611686018427387904 := by omega
  rw [if_pos k0] at hX
  simp (config := { maxSteps := 10000000 }) +contextual only [exa, ne_eq, not_false_eq_true, Nat.reduceAdd, Nat.reduceMul, Nat.reduceLT, Nat.reduceLeDiff, Nat.reduceEqDiff, Int.reduceLT, Int.reduceLE, Int.reduceEq, Int.reduceToNat, h1, h2, hw, u14, k0, ht, hv, hg, w3_2, b3_2, wrapS i (by omega), c1]
  refine hX _ ⟨?_, ?_, ?_⟩
  ·simp only [exa, ne_eq, not_false_eq_true, Nat.reduceAdd, Nat.reduceMul, Nat.reduceLT, Nat.reduceLeDiff, Nat.reduceEqDiff, Int.reduceLT, Int.reduceLE, Int.reduceEq, Int.reduceToNat, ht]; rw [tt_row]; rfl
  ·simp only [exa, ne_eq, not_false_eq_true, Nat.reduceAdd, Nat.reduceMul, Nat.reduceLT, Nat.reduceLeDiff, Nat.reduceEqDiff, Int.reduceLT, Int.reduceLE, Int.reduceEq, Int.reduceToNat, hv]; rw [vt_row]; rfl
  ·simp only [exa, ne_eq, not_false_eq_true, Nat.reduceAdd, Nat.reduceMul, Nat.reduceLT, Nat.reduceLeDiff, Nat.reduceEqDiff, Int.reduceLT, Int.reduceLE, Int.reduceEq, Int.reduceToNat, hg]; rw [vt_row]; rfl
 rw [if_neg k0] at hX
 by_cases k1 : withinM w 5 = 1
 ·have c1 : 5 + f.p.length ≤ 4611686018427387904 := by omega
  rw [if_pos k1] at hX
  simp (config := { maxSteps := 10000000 }) +contextual only [exa, ne_eq, not_false_eq_true, Nat.reduceAdd, Nat.reduceMul, Nat.reduceLT, Nat.reduceLeDiff, Nat.reduceEqDiff, Int.reduceLT, Int.reduceLE, Int.reduceEq, Int.reduceToNat, h1, h2, hw, u14, k0, k1, ht, hv, hg, w3_2, b3_2, wrapS i (by omega), c1]
  refine hX _ ⟨?_, ?_, ?_⟩
  ·simp only [exa, ne_eq, not_false_eq_true, Nat.reduceAdd, Nat.reduceMul, Nat.reduceLT, Nat.reduceLeDiff, Nat.reduceEqDiff, Int.reduceLT, Int.reduceLE, Int.reduceEq, Int.reduceToNat, ht]; rw [tt_row]; rfl
  ·simp only [exa, ne_eq, not_false_eq_true, Nat.reduceAdd, Nat.reduceMul, Nat.reduceLT, Nat.reduceLeDiff, Nat.reduceEqDiff, Int.reduceLT, Int.reduceLE, Int.reduceEq, Int.reduceToNat, hv]; rw [vt_row]; rfl
  ·simp only [exa, ne_eq, not_false_eq_true, Nat.reduceAdd, Nat.reduceMul, Nat.reduceLT, Nat.reduceLeDiff, Nat.reduceEqDiff, Int.reduceLT, Int.reduceLE, Int.reduceEq, Int.reduceToNat, hg]; rw [vt_row]; rfl
 rw [if_neg k1] at hX
 by_cases k2 : withinM w 5 = 2
 ·have c1 : 2 + f.p.length ≤ 4611686018427387904 := by omega
  rw [if_pos k2] at hX
  simp (config := { maxSteps := 10000000 }) +contextual only [exa, ne_eq, not_false_eq_true, Nat.reduceAdd, Nat.reduceMul, Nat.reduceLT, Nat.reduceLeDiff, Nat.reduceEqDiff, Int.reduceLT, Int.reduceLE, Int.reduceEq, Int.reduceToNat, h1, h2, hw, u14, k0, k1, k2, ht, hv, hg, w3_2, b3_2, wrapS i (by omega), c1]
  refine hX _ ⟨?_, ?_, ?_⟩
  ·simp only [exa, ne_eq, not_false_eq_true, Nat.reduceAdd, Nat.reduceMul, Nat.reduceLT, Nat.reduceLeDiff, Nat.reduceEqDiff, Int.reduceLT, Int.reduceLE, Int.reduceEq, Int.reduceToNat, ht]; rw [tt_row]; rfl
  ·simp only [exa, ne_eq, not_false_eq_true, Nat.reduceAdd, Nat.reduceMul, Nat.reduceLT, Nat.reduceLeDiff, Nat.reduceEqDiff, Int.reduceLT, Int.reduceLE, Int.reduceEq, Int.reduceToNat, hv]; rw [vt_row]; rfl
  ·simp only [exa, ne_eq, not_false_eq_true, Nat.reduceAdd, Nat.reduceMul, Nat.reduceLT, Nat.reduceLeDiff, Nat.reduceEqDiff, Int.reduceLT, Int.reduceLE, Int.reduceEq, Int.reduceToNat, hg]; rw [vt_row]; rfl
 rw [if_neg k2] at hX
 by_cases k3 : withinM w 5 = 3
 ·have c1 : 2 + f.p.length ≤ 4611686018427387904 := by omega
  have e1 : ([.p (.int .i64 1), .p (.str []), .p .nilslice, .p .nilslice] : List Cell) = pcells (TT.row (.mk 1 [] .nil .nil)) := by rw [tt_row]; rfl
  rw [if_pos k3] at hX
  simp (config := { maxSteps := 10000000 }) +contextual only [e1, exa, ne_eq, not_false_eq_true, Nat.reduceAdd, Nat.reduceMul, Nat.reduceLT, Nat.reduceLeDiff, Nat.reduceEqDiff, Int.reduceLT, Int.reduceLE, Int.reduceEq, Int.reduceToNat, h1, h2, hw, u14, k0, k1, k2, k3, ht, hv, hg, w3_2, b3_2, wrapS i (by omega), c1]
  refine hX _ ⟨?_, ?_, ?_⟩
  ·simp only [exa, ne_eq, not_false_eq_true, Nat.reduceAdd, Nat.reduceMul, Nat.reduceLT, Nat.reduceLeDiff, Nat.reduceEqDiff, Int.reduceLT, Int.reduceLE, Int.reduceEq, Int.reduceToNat, ht]; rw [tt_row]; simp only [slP, List.map]; rw [tt_row]; rfl
  ·simp only [exa, ne_eq, not_false_eq_true, Nat.reduceAdd, Nat.reduceMul, Nat.reduceLT, Nat.reduceLeDiff, Nat.reduceEqDiff, Int.reduceLT, Int.reduceLE, Int.reduceEq, Int.reduceToNat, hv]; rw [vt_row]; rfl
  ·simp only [exa, ne_eq, not_false_eq_true, Nat.reduceAdd, Nat.reduceMul, Nat.reduceLT, Nat.reduceLeDiff, Nat.reduceEqDiff, Int.reduceLT, Int.reduceLE, Int.reduceEq, Int.reduceToNat, hg]; rw [vt_row]; rfl
 rw [if_neg k3] at hX
 have k4 : withinM w 5 = 4 := by omega
 by_cases k6 : f.t.kind = 6
 ·rw [if_pos k6] at hX
  simp (config := { maxSteps := 10000000 }) +contextual only [exa, ne_eq, not_false_eq_true, Nat.reduceAdd, Nat.reduceMul, Nat.reduceLT, Nat.reduceLeDiff, Nat.reduceEqDiff, Int.reduceLT, Int.reduceLE, Int.reduceEq, Int.reduceToNat, h1, h2, hw, u14, k0, k1, k2, k3, k4, k6, ht, hv, hg, w3_2, b3_2, wrapS i (by omega)]
  exact hX _ ⟨ht, hv, hg⟩
 ·rw [if_neg k6] at hX
  simp (config := { maxSteps := 10000000 }) +contextual only [exa, ne_eq, not_false_eq_true, Nat.reduceAdd, Nat.reduceMul, Nat.reduceLT, Nat.reduceLeDiff, Nat.reduceEqDiff, Int.reduceLT, Int.reduceLE, Int.reduceEq, Int.reduceToNat, h1, h2, hw, u14, k0, k1, k2, k3, k4, k6, ht, hv, hg, w3_2, b3_2, wrapS i (by omega)]
  refine hX _ ⟨?_, ?_, ?_⟩
  ·simp only [exa, ne_eq, not_false_eq_true, Nat.reduceAdd, Nat.reduceMul, Nat.reduceLT, Nat.reduceLeDiff, Nat.reduceEqDiff, Int.reduceLT, Int.reduceLE, Int.reduceEq, Int.reduceToNat, ht]; rw [tt_row]; rfl
  ·simp only [exa, ne_eq, not_false_eq_true, Nat.reduceAdd, Nat.reduceMul, Nat.reduceLT, Nat.reduceLeDiff, Nat.reduceEqDiff, Int.reduceLT, Int.reduceLE, Int.reduceEq, Int.reduceToNat, hv]
  ·simp only [exa, ne_eq, not_false_eq_true, Nat.reduceAdd, Nat.reduceMul, Nat.reduceLT, Nat.reduceLeDiff, Nat.reduceEqDiff, Int.reduceLT, Int.reduceLE, Int.reduceEq, Int.reduceToNat, hg]
theorem path_loop (o : Option (List Int)) (X : Res1) : ∀ (i : Nat) (f : FP) (h : Heap), i ≤ 8 → OkP i f → HP f h →
  (∀ f' h', (∃ j, j ≤ 8 ∧ OkP j f') → HP f' h' → lim tab.get S 3 0 3 [pO 3 1, pO 4 1, kS f'.p, pO 6 1] h' = X) →
  lim tab.get S 3 0 1 [.v (.c (.p (slP 1 iRow (argI o)))), pO 3 1, pO 4 1, kS f.p, pO 6 1, kI (i : Int)] h = X := by
 refine loop_up 8 (fun i hi f h hi8 hf H hX => ?_) (fun i hi ih f h hi8 hf H hX => ?_)
 ·have h2 : ¬ (i : Int) < 8 := by omega
  rw [w3_1, b3_1]
  simp (config := { maxSteps := 10000000 }) +contextual only [exa, ne_eq, not_false_eq_true, Nat.reduceAdd, Nat.reduceMul, Nat.reduceLT, Nat.reduceLeDiff, Nat.reduceEqDiff, Int.reduceLT, Int.reduceLE, Int.reduceEq, Int.reduceToNat, h2]
  exact hX f h ⟨i, hi8, hf⟩ H
 ·cases hw : (intsL o)[i]? with
  | none =>
   have h1 : ¬ (i : Int) < ((argI o).len : Int) := by
    have := List.getElem?_eq_none_iff.1 hw
    unfold Sl.len; rw [argI_list]; omega
   rw [w3_1, b3_1]
   simp (config := { maxSteps := 10000000 }) +contextual only [exa, ne_eq, not_false_eq_true, Nat.reduceAdd, Nat.reduceMul, Nat.reduceLT, Nat.reduceLeDiff, Nat.reduceEqDiff, Int.reduceLT, Int.reduceLE, Int.reduceEq, Int.reduceToNat, h1]
   exact hX f h ⟨i, hi8, hf⟩ H
  | some w =>
   have hlen := hf.len
   exact one_step o i hi w hw f (by omega) h H X fun h' H' => ih _ h' (by omega) (step_ok i (by omega) _ f hf) H' hX
theorem paths_end (f : FP) (h : Heap) (j : Nat) (hj : j ≤ 8) (hf : OkP j f) (H : HP f h) : lim tab.get S 3 0 3 [pO 3 1, pO 4 1, kS f.p, pO 6 1] h = some (kB true, []) := by
 obtain ⟨ht, hv, hg⟩ := H
 obtain ⟨n, bad, good⟩ := hf.fits
 have e6 : pcells f.t.row ++ [.p .nilslice, .p .nilslice] = pcells (ST.row ⟨f.t, .nil, .nil⟩) := by unfold ST.row pcells; rw [List.map_append]; rfl
 have c15 := check4_ok ⟨f.t, .nil, .nil⟩ rfl (fun e he => by cases he) hf.fit (by simp [Sl.len, Sl.list])
 have u15 : ∀ (β : Type) (k : TVal → Heap → Option β) (h : Heap) (d : Nat), vcall Om (.v (.c (.func 15 []))) [kA (ST.row ⟨f.t, .nil, .nil⟩)] h d k = k (kI (checkM ⟨f.t, .nil, .nil⟩)) h := fun β k h d => vcall_pure 15 _ _ (by simp only [exP]) c15 rfl
 have u16 : ∀ (v : VT) (β : Type) (k : TVal → Heap → Option β) (h : Heap) (d : Nat), vcall Om (.v (.c (.func 16 []))) [kA v.row] h d k = k (kI (chkV v 1 0).1) h := fun v β k h d => vcall_pure 16 _ _ (by simp only [exP]) (check_ok v) rfl
 have u17 : ∀ (v : VT) (r : List UInt8 × Bool) (he : fitF [] n f.t v = some r) (β : Type) (k : TVal → Heap → Option β) (h : Heap) (d : Nat), vcall Om (.v (.c (.func 17 []))) [kA (ST.row ⟨f.t, .nil, .nil⟩), kA f.t.row, kA v.row] h d k = k (.tup [.c (.p (.str (if r.2 = true then [] else r.1))), .c (.p (.int .i64 (if r.2 = true then 0 else 31)))]) h :=
  fun v r he β k h d => vcall_pure 17 _ _ (by simp only [exP]) (Fit_ok ⟨f.t, .nil, .nil⟩ f.t v n (by simp [Sl.len, Sl.list]) (fun i j a b _ ha => by cases ha) r he) (by simp only [exP])
 rw [w3_3, b3_3]
 cases hc : (!decide (checkM ⟨f.t, .nil, .nil⟩ = 0) || !decide ((chkV f.v 1 0).1 = 0)) || !decide ((chkV f.g 1 0).1 = 0)
 ·simp (config := { maxSteps := 10000000 }) +contextual only [exa, ne_eq, not_false_eq_true, Nat.reduceAdd, Nat.reduceMul, Nat.reduceLT, Nat.reduceLeDiff, Nat.reduceEqDiff, Int.reduceLT, Int.reduceLE, Int.reduceEq, Int.reduceToNat, ht, hv, hg, e6, u15, u16, u17 _ _ bad, u17 _ _ good, hc, if_true, Bool.false_eq_true, if_false, oneOf]
 ·simp (config := { maxSteps := 10000000 }) +contextual only [exa, ne_eq, not_false_eq_true, Nat.reduceAdd, Nat.reduceMul, Nat.reduceLT, Nat.reduceLeDiff, Nat.reduceEqDiff, Int.reduceLT, Int.reduceLE, Int.reduceEq, Int.reduceToNat, ht, hv, hg, e6, u15, u16, hc, oneOf]
theorem paths_law (o : Option (List Int)) : Om 3 [.pv (intsP .i64 o)] [] = some (kB true, []) := by
 refine (orc_none rfl).trans ?_
 rw [argI_eq]
 show lim tab.get S 3 0 0 [.v (.c (.p (slP 1 iRow (argI o))))] h0 = _
 have u13 : ∀ (β : Type) (k : TVal → Heap → Option β) (h : Heap) (d : Nat), vcall Om (.v (.c (.func 13 []))) [] h d k = k (kB true) h := fun β k h d => vcall_pure 13 [] _ rfl known13 rfl
 rw [w3_0, b3_0]
 simp (config := { maxSteps := 10000000 }) +contextual only [exa, ne_eq, not_false_eq_true, Nat.reduceAdd, Nat.reduceMul, Nat.reduceLT, Nat.reduceLeDiff, Nat.reduceEqDiff, Int.reduceLT, Int.reduceLE, Int.reduceEq, Int.reduceToNat, u13]
 refine path_loop o _ 0 startP _ (by omega) start_ok ⟨?_, ?_, ?_⟩ fun f' h' ⟨j, hj, hf⟩ H' => paths_end f' h' j hj hf H'
 ·simp only [exa, ne_eq, not_false_eq_true, Nat.reduceAdd, Nat.reduceMul, Nat.reduceLT, Nat.reduceLeDiff, Nat.reduceEqDiff, Int.reduceLT, Int.reduceLE, Int.reduceEq, Int.reduceToNat]; unfold startP; rw [tt_row]; rfl
 ·simp only [exa, ne_eq, not_false_eq_true, Nat.reduceAdd, Nat.reduceMul, Nat.reduceLT, Nat.reduceLeDiff, Nat.reduceEqDiff, Int.reduceLT, Int.reduceLE, Int.reduceEq, Int.reduceToNat]; unfold startP; rw [vt_row]; rfl
 ·simp only [exa, ne_eq, not_false_eq_true, Nat.reduceAdd, Nat.reduceMul, Nat.reduceLT, Nat.reduceLeDiff, Nat.reduceEqDiff, Int.reduceLT, Int.reduceLE, Int.reduceEq, Int.reduceToNat]; unfold startP; rw [vt_row]; rfl
end Go.Proofs.YtlkejchbcchecaaDoor.Ab
