/- Schemas are checked: Check, where there are no functions. -/
import Derived.Test.YtlkejchbcchecaaDoorFrF
set_option linter.all false
set_option linter.unusedVariables false
set_option linter.unusedSimpArgs false
set_option maxRecDepth 100000
namespace Go.Proofs.YtlkejchbcchecaaDoor.Ab
open Go Go.AI
theorem mayL_inv (s : ST) : ∀ (l : List TT) (d c : Nat), (mayL s l d c).1 = 0 → ∀ x ∈ l, ∃ d' c', (mayV s x d' c').1 = 0
 | [], _, _, _, _, hx => by cases hx
 | t :: l, d, c, h, x, hx => by
  unfold mayL at h
  by_cases h0 : (mayV s t d c).1 = 0
  ·rw [if_pos h0] at h
   rcases List.mem_cons.1 hx with rfl | hx
   ·exact ⟨_, _, h0⟩
   ·exact mayL_inv s l d _ h x hx
  ·rw [if_neg h0] at h; exact absurd h h0
theorem mayV_inv (s : ST) {t : TT} {d c : Nat} (h : (mayV s t d c).1 = 0) : ownM s.types.list t = 0 ∧ ∀ x ∈ t.kids.list, ∃ d' c', (mayV s x d' c').1 = 0 := by
 rw [mayV_eq] at h
 by_cases h1 : 400 < c + 1
 ·rw [if_pos h1] at h; cases h
 rw [if_neg h1] at h
 by_cases h2 : 12 < d
 ·rw [if_pos h2] at h; cases h
 rw [if_neg h2] at h
 by_cases h3 : ownM s.types.list t = 0
 ·rw [if_pos h3] at h
  exact ⟨h3, mayL_inv s _ _ _ h⟩
 ·rw [if_neg h3] at h; exact absurd h h3
/-- What a type by itself is, if nothing is wrong. -/
theorem own_inv {types : List NT} {t : TT} (h : ownM types t = 0) : 1 ≤ t.kind ∧ t.kind ≤ 9 ∧ (t.kids.len : Int) = kidsM t ∧ (t.kind = 9 → defM t.name types ≠ none) ∧ namesM none t.names.list = 0 ∧ (t.kind = 7 ∨ t.kind = 8 ∨ t.names.len = 0) ∧ (t.kind = 8 → t.names.len ≠ 0) ∧ t.names.len ≤ 8 := by
 unfold ownM at h
 by_cases h1 : (decide (t.kind < 1) || decide (9 < t.kind)) = true
 ·rw [if_pos h1] at h; cases h
 rw [if_neg h1] at h
 by_cases h2 : formB t = true
 ·rw [if_pos h2] at h; cases h
 rw [if_neg h2] at h
 by_cases h3 : t.kind = 9 ∧ defM t.name types = none
 ·rw [if_pos h3] at h; cases h
 rw [if_neg h3] at h
 by_cases h4 : 8 < t.names.len
 ·rw [if_pos h4] at h; cases h
 rw [if_neg h4] at h
 by_cases h5 : namesM none t.names.list = 0
 ·rw [if_pos h5] at h
  by_cases h6 : t.kind = 8 ∧ t.names.len = 0
  ·rw [if_pos h6] at h; cases h
  ·simp [formB] at h1 h2
   refine ⟨by omega, by omega, h2.1.1, fun e q => h3 ⟨e, q⟩, h5, ?_, fun e q => h6 ⟨e, q⟩, by omega⟩
   have := h2.2
   omega
 ·rw [if_neg h5] at h; exact absurd h h5
theorem may_optK (s : ST) : ∀ (m : Nat) (t : TT), SizeOf.sizeOf t < m → (∃ d c, (mayV s t d c).1 = 0) → optK t := by
 intro m
 induction m with
 | zero => intro t h; omega
 | succ m ih =>
  intro t hz ⟨d, c, h⟩
  obtain ⟨h1, h2⟩ := mayV_inv s h
  refine (optK_eq t).2 ⟨fun h6 e => ?_, fun x hx => ih x (by have := TT.mem_size hx; omega) (h2 x hx)⟩
  have := (own_inv h1).2.2.1
  unfold Sl.len kidsM at this
  rw [e, if_pos (by omega)] at this
  simp at this
def typesM : Option (List UInt8) → List NT → Int
 | _, [] => 0
 | p, a :: l => if (!identM a.name || wordM a.name) = true then 15 else if (match p with | some q => bless a.name q || a.name == q | none => false) = true then 6 else typesM (some a.name) l
def mayT (s : ST) : List NT → Nat → Int × Nat
 | [], c => (0, c)
 | x :: l, c => if (mayV s x.t 1 c).1 = 0 then mayT s l (mayV s x.t 1 c).2 else mayV s x.t 1 c
def mayA (s : ST) : Int × Nat := if (mayT s s.types.list 0).1 = 0 then mayV s s.main 1 (mayT s s.types.list 0).2 else mayT s s.types.list 0
def checkM (s : ST) : Int := if 12 < s.types.len then 3 else if typesM none s.types.list ≠ 0 then typesM none s.types.list else if (mayA s).1 ≠ 0 then (mayA s).1 else
 if (finM s.types.list).length ≠ s.types.len then 14 else if optsL s (allM s) = true then 17 else 0
theorem chk_types (s : ST) (hs : s.types.len ≤ 1000) (h : Heap) (hv : h.get (.own 1 1) = some (.cells (pcells s.row) 0)) :
  ∀ (i : Nat), lim tab.get S 15 0 1 [pO 1 1, kI (i : Int)] h = if typesM (if i = 0 then none else (s.types.list[i - 1]?).map NT.name) (s.types.list.drop i) = 0 then lim tab.get S 15 0 2 [pO 1 1] h else some (kI (typesM (if i = 0 then none else (s.types.list[i - 1]?).map NT.name) (s.types.list.drop i)), []) := by
 refine loop_up s.types.len (fun i hi => ?_) (fun i hi ih => ?_) <;> rw [w15_1, b15_1]
 ·have h1 : ¬ (i : Int) < (s.types.len : Int) := by omega
  rw [at_end hi]
  simp (config := { maxSteps := 10000000 }) +contextual only [exa, ne_eq, not_false_eq_true, Nat.reduceAdd, Nat.reduceMul, Nat.reduceLT, Nat.reduceLeDiff, Nat.reduceEqDiff, Int.reduceLT, Int.reduceLE, Int.reduceEq, Int.reduceToNat, h1, hv, typesM, if_true]
 ·have h1 : (i : Int) < (s.types.len : Int) := by omega
  obtain ⟨b, hb, h2, _⟩ := at_step hi
  rw [if_neg (Nat.succ_ne_zero i), Nat.add_sub_cancel, hb] at ih
  cases h3 : (!identM b.name || wordM b.name)
  ·by_cases z0 : i = 0
   ·have h5 : ¬ (0 : Int) < (i : Int) := by omega
    simp (config := { maxSteps := 10000000 }) +contextual only [exa, ne_eq, not_false_eq_true, Nat.reduceAdd, Nat.reduceMul, Nat.reduceLT, Nat.reduceLeDiff, Nat.reduceEqDiff, Int.reduceLT, Int.reduceLE, Int.reduceEq, Int.reduceToNat, h1, hv, hb, h2, h3, u49, u50, h5, wrapS i (by omega), ih]
    rw [if_pos z0]
    simp [typesM, h3]
   ·have h5 : (0 : Int) < (i : Int) := by omega
    obtain ⟨c, hc, _, _⟩ := at_step (l := s.types.list) (i := i - 1) (by unfold Sl.len at hi; omega)
    rw [if_neg z0, hc]
    cases h6 : (bless b.name c.name || b.name == c.name)
    ·simp (config := { maxSteps := 10000000 }) +contextual only [exa, ne_eq, not_false_eq_true, Nat.reduceAdd, Nat.reduceMul, Nat.reduceLT, Nat.reduceLeDiff, Nat.reduceEqDiff, Int.reduceLT, Int.reduceLE, Int.reduceEq, Int.reduceToNat, h1, hv, hb, h2, h3, u49, u50, h5, wrapS i (by omega), wrapP i (by omega) (by omega), hc, h6, ih]
     simp [typesM, h3, h6]
    ·simp (config := { maxSteps := 10000000 }) +contextual only [exa, ne_eq, not_false_eq_true, Nat.reduceAdd, Nat.reduceMul, Nat.reduceLT, Nat.reduceLeDiff, Nat.reduceEqDiff, Int.reduceLT, Int.reduceLE, Int.reduceEq, Int.reduceToNat, h1, hv, hb, h2, h3, u49, u50, h5, wrapP i (by omega) (by omega), hc, h6, oneOf]
     simp [typesM, h3, h6]
  ·simp (config := { maxSteps := 10000000 }) +contextual only [exa, ne_eq, not_false_eq_true, Nat.reduceAdd, Nat.reduceMul, Nat.reduceLT, Nat.reduceLeDiff, Nat.reduceEqDiff, Int.reduceLT, Int.reduceLE, Int.reduceEq, Int.reduceToNat, h1, hv, hb, h2, h3, u49, u50, oneOf]
   simp [typesM, h3]
theorem chk_may (s : ST) (hs : s.types.len ≤ 1000) (hf : ∀ e ∈ s.types.list, fitT e.t) :
  ∀ (i c : Nat) (h : Heap), c ≤ 400 → h.get (.own 1 1) = some (.cells (pcells s.row) 0) → h.get (.own 66 1) = some (wkO s c) →
   ∃ h', h'.get (.own 1 1) = some (.cells (pcells s.row) 0) ∧ h'.get (.own 66 1) = some (wkO s (mayT s (s.types.list.drop i) c).2) ∧
    lim tab.get S 15 0 3 [pO 1 1, pO 66 1, kI 0, kI (i : Int)] h = lim tab.get S 15 0 4 [pO 1 1, pO 66 1, kI (mayT s (s.types.list.drop i) c).1] h' := by
 refine loop_up s.types.len (fun i hi c h hc hv hw => ?_) (fun i hi ih c h hc hv hw => ?_)
 ·have h1 : ¬ (i : Int) < (s.types.len : Int) := by omega
  refine ⟨h, hv, ?_, ?_⟩
  ·rw [at_end hi]; exact hw
  ·rw [w15_3, b15_3, at_end hi]
   simp (config := { maxSteps := 10000000 }) +contextual only [exa, ne_eq, not_false_eq_true, Nat.reduceAdd, Nat.reduceMul, Nat.reduceLT, Nat.reduceLeDiff, Nat.reduceEqDiff, Int.reduceLT, Int.reduceLE, Int.reduceEq, Int.reduceToNat, hv, h1, mayT]
 ·have h1 : (i : Int) < (s.types.len : Int) := by omega
  obtain ⟨x, hx, h2, hm⟩ := at_step hi
  have hk := may_ok s (by omega) _ x.t (Nat.lt_succ_self _) (hf x hm) 1 c (by omega) hc
  have hk' : Om 51 [kP (.im 0), kA x.t.row, kI 1] [wkO s c] = some (kI (mayV s x.t 1 c).1, [wkO s (mayV s x.t 1 c).2]) := hk
  have hu := fun (β : Type) (k : TVal → Heap → Option β) => u51 (d := 85) (k := k) hk' (.own 66 1) hw
  have hst : lim tab.get S 15 0 3 [pO 1 1, pO 66 1, kI 0, kI (i : Int)] h = lim tab.get S 15 0 3 [pO 1 1, pO 66 1, kI (mayV s x.t 1 c).1, kI ((i + 1 : Nat) : Int)] (h.own 66 1 (wkO s (mayV s x.t 1 c).2)) := by
   rw [w15_3, b15_3]
   simp (config := { maxSteps := 10000000 }) +contextual only [exa, ne_eq, not_false_eq_true, Nat.reduceAdd, Nat.reduceMul, Nat.reduceLT, Nat.reduceLeDiff, Nat.reduceEqDiff, Int.reduceLT, Int.reduceLE, Int.reduceEq, Int.reduceToNat, hv, h1, hx]
   refine (hu _ _).trans ?_
   simp (config := { maxSteps := 10000000 }) +contextual only [exa, ne_eq, not_false_eq_true, Nat.reduceAdd, Nat.reduceMul, Nat.reduceLT, Nat.reduceLeDiff, Nat.reduceEqDiff, Int.reduceLT, Int.reduceLE, Int.reduceEq, Int.reduceToNat, wrapS i (by omega)]
  rw [h2, mayT]
  by_cases z0 : (mayV s x.t 1 c).1 = 0
  ·rw [if_pos z0]
   obtain ⟨h', a1, a2, a3⟩ := ih _ (h.own 66 1 (wkO s (mayV s x.t 1 c).2)) (mayV_c s _ x.t (Nat.lt_succ_self _) 1 c z0) (by simp only [exa, ne_eq, not_false_eq_true, Nat.reduceAdd, Nat.reduceMul, Nat.reduceLT, Nat.reduceLeDiff, Nat.reduceEqDiff, Int.reduceLT, Int.reduceLE, Int.reduceEq, Int.reduceToNat, hv]) (by simp only [exa, ne_eq, not_false_eq_true, Nat.reduceAdd, Nat.reduceMul, Nat.reduceLT, Nat.reduceLeDiff, Nat.reduceEqDiff, Int.reduceLT, Int.reduceLE, Int.reduceEq, Int.reduceToNat])
   exact ⟨h', a1, a2, by rw [hst, z0]; exact a3⟩
  ·rw [if_neg z0]
   refine ⟨h.own 66 1 (wkO s (mayV s x.t 1 c).2), by simp only [exa, ne_eq, not_false_eq_true, Nat.reduceAdd, Nat.reduceMul, Nat.reduceLT, Nat.reduceLeDiff, Nat.reduceEqDiff, Int.reduceLT, Int.reduceLE, Int.reduceEq, Int.reduceToNat, hv], by simp only [exa, ne_eq, not_false_eq_true, Nat.reduceAdd, Nat.reduceMul, Nat.reduceLT, Nat.reduceLeDiff, Nat.reduceEqDiff, Int.reduceLT, Int.reduceLE, Int.reduceEq, Int.reduceToNat], ?_⟩
   rw [hst, w15_3, b15_3]
   simp (config := { maxSteps := 10000000 }) +contextual only [exa, ne_eq, not_false_eq_true, Nat.reduceAdd, Nat.reduceMul, Nat.reduceLT, Nat.reduceLeDiff, Nat.reduceEqDiff, Int.reduceLT, Int.reduceLE, Int.reduceEq, Int.reduceToNat, hv, z0]
theorem chk_opts (s : ST) (hs : s.types.len ≤ 1000) (L : List TT) (hL : L.length ≤ 2000) (ih : ∀ x ∈ L, OptsOK s x) (h : Heap) (hv : h.get (.own 1 1) = some (.cells (pcells s.row) 0)) :
  ∀ i : Nat, lim tab.get S 15 0 12 [pO 1 1, .v (.c (.p (slP 4 TT.row (grown L)))), kI (i : Int)] h = some (kI (if optsL s (L.drop i) = true then 17 else 0), []) := by
 refine loop_up L.length (fun i hi => ?_) (fun i hi ihl => ?_) <;> rw [w15_12, b15_12]
 ·have h1 : ¬ (i : Int) < (L.length : Int) := by omega
  simp (config := { maxSteps := 10000000 }) +contextual only [exa, ne_eq, not_false_eq_true, Nat.reduceAdd, Nat.reduceMul, Nat.reduceLT, Nat.reduceLeDiff, Nat.reduceEqDiff, Int.reduceLT, Int.reduceLE, Int.reduceEq, Int.reduceToNat, hv, h1, at_end hi, optsL, oneOf, grown_len, Bool.false_eq_true, if_false]
 ·have h1 : (i : Int) < (L.length : Int) := by omega
  obtain ⟨x, hx0, h2, hx⟩ := at_step hi
  cases h3 : optsM s x
  ·simp (config := { maxSteps := 10000000 }) +contextual only [exa, ne_eq, not_false_eq_true, Nat.reduceAdd, Nat.reduceMul, Nat.reduceLT, Nat.reduceLeDiff, Nat.reduceEqDiff, Int.reduceLT, Int.reduceLE, Int.reduceEq, Int.reduceToNat, hv, h1, hx0, h2, u55 (ih x hx), h3, optsL, oneOf, grown_len, grown_list, wrapS i (by omega), ihl]
  ·simp (config := { maxSteps := 10000000 }) +contextual only [exa, ne_eq, not_false_eq_true, Nat.reduceAdd, Nat.reduceMul, Nat.reduceLT, Nat.reduceLeDiff, Nat.reduceEqDiff, Int.reduceLT, Int.reduceLE, Int.reduceEq, Int.reduceToNat, hv, h1, hx0, h2, u55 (ih x hx), h3, optsL, oneOf, grown_len, grown_list, if_true]
/-- Check of a schema without functions. -/
theorem check4_ok (s : ST) (hg : s.sigs = .nil) (hf : ∀ e ∈ s.types.list, fitT e.t) (hm : fitT s.main) (hl : s.types.len < 4611686018427387904) : Om 15 [kA s.row] [] = some (kI (checkM s), []) := by
 refine (orc_none rfl).trans ?_
 show lim tab.get S 15 0 0 [kA s.row] h0 = _
 have hn : ∀ (f : GT → List PVal), slP 6 f (.nil : Sl GT) = .nilslice := fun _ => rfl
 rw [w15_0, b15_0]
 unfold checkM
 by_cases h1 : 12 < s.types.len
 ·have h1' : (12 : Int) < (s.types.len : Int) := by omega
  simp (config := { maxSteps := 10000000 }) +contextual only [exa, ne_eq, not_false_eq_true, Nat.reduceAdd, Nat.reduceMul, Nat.reduceLT, Nat.reduceLeDiff, Nat.reduceEqDiff, Int.reduceLT, Int.reduceLE, Int.reduceEq, Int.reduceToNat, h1, h1', if_true, oneOf]
 have h1' : ¬ (12 : Int) < (s.types.len : Int) := by omega
 have hs : s.types.len ≤ 1000 := by omega
 have ht := chk_types s hs (h0.own 1 1 (.cells (pcells s.row) 0)) (by simp only [exa, ne_eq, not_false_eq_true, Nat.reduceAdd, Nat.reduceMul, Nat.reduceLT, Nat.reduceLeDiff, Nat.reduceEqDiff, Int.reduceLT, Int.reduceLE, Int.reduceEq, Int.reduceToNat]) 0
 rw [if_pos rfl, List.drop_zero] at ht
 simp (config := { maxSteps := 10000000 }) +contextual only [exa, ne_eq, not_false_eq_true, Nat.reduceAdd, Nat.reduceMul, Nat.reduceLT, Nat.reduceLeDiff, Nat.reduceEqDiff, Int.reduceLT, Int.reduceLE, Int.reduceEq, Int.reduceToNat, h1, h1', hg, hn, if_false]
 refine ht.trans ?_
 by_cases h2 : ¬ typesM none s.types.list = 0
 ·rw [if_neg h2, if_pos h2]
 replace h2 := Classical.not_not.1 h2
 rw [if_pos h2, if_neg (by simpa using h2), w15_2, b15_2]
 simp (config := { maxSteps := 10000000 }) +contextual only [exa, ne_eq, not_false_eq_true, Nat.reduceAdd, Nat.reduceMul, Nat.reduceLT, Nat.reduceLeDiff, Nat.reduceEqDiff, Int.reduceLT, Int.reduceLE, Int.reduceEq, Int.reduceToNat]
 obtain ⟨h', a1, a2, a3⟩ := chk_may s hs hf 0 0 ((h0.own 1 1 (.cells (pcells s.row) 0)).own 66 1 (wkO s 0)) (by omega) (by simp only [exa, ne_eq, not_false_eq_true, Nat.reduceAdd, Nat.reduceMul, Nat.reduceLT, Nat.reduceLeDiff, Nat.reduceEqDiff, Int.reduceLT, Int.reduceLE, Int.reduceEq, Int.reduceToNat]) (by simp only [exa, ne_eq, not_false_eq_true, Nat.reduceAdd, Nat.reduceMul, Nat.reduceLT, Nat.reduceLeDiff, Nat.reduceEqDiff, Int.reduceLT, Int.reduceLE, Int.reduceEq, Int.reduceToNat])
 rw [List.drop_zero] at a2 a3
 refine a3.trans ?_
 -- the whole's own type
 have step : ∃ h'', h''.get (.own 1 1) = some (.cells (pcells s.row) 0) ∧ lim tab.get S 15 0 4 [pO 1 1, pO 66 1, kI (mayT s s.types.list 0).1] h' = lim tab.get S 15 0 5 [pO 1 1, pO 66 1, kI (mayA s).1] h'' := by
  unfold mayA
  by_cases z0 : (mayT s s.types.list 0).1 = 0
  ·have hc : (mayT s s.types.list 0).2 ≤ 400 := by
    have : ∀ (l : List NT) (c : Nat), c ≤ 400 → (mayT s l c).1 = 0 → (mayT s l c).2 ≤ 400 := by
     intro l
     induction l with
     | nil => intro c hc _; simpa [mayT] using hc
     | cons x l ihl =>
      intro c hc e
      unfold mayT at e ⊢
      by_cases hx : (mayV s x.t 1 c).1 = 0
      ·rw [if_pos hx] at e ⊢
       exact ihl _ (mayV_c s _ x.t (Nat.lt_succ_self _) 1 c hx) e
      ·rw [if_neg hx] at e; exact absurd e hx
    exact this _ _ (by omega) z0
   have hk := may_ok s (by omega) _ s.main (Nat.lt_succ_self _) hm 1 _ (by omega) hc
   have hk' : Om 51 [kP (.im 0), kA s.main.row, kI 1] [wkO s (mayT s s.types.list 0).2] = some (kI (mayV s s.main 1 (mayT s s.types.list 0).2).1, [wkO s (mayV s s.main 1 (mayT s s.types.list 0).2).2]) := hk
   refine ⟨h'.own 66 1 (wkO s (mayV s s.main 1 (mayT s s.types.list 0).2).2), by simp only [exa, ne_eq, not_false_eq_true, Nat.reduceAdd, Nat.reduceMul, Nat.reduceLT, Nat.reduceLeDiff, Nat.reduceEqDiff, Int.reduceLT, Int.reduceLE, Int.reduceEq, Int.reduceToNat, a1], ?_⟩
   rw [w15_4, b15_4]
   simp (config := { maxSteps := 10000000 }) +contextual only [exa, ne_eq, not_false_eq_true, Nat.reduceAdd, Nat.reduceMul, Nat.reduceLT, Nat.reduceLeDiff, Nat.reduceEqDiff, Int.reduceLT, Int.reduceLE, Int.reduceEq, Int.reduceToNat, z0, a1, if_true]
   rw [u51 hk' (.own 66 1) a2]
   simp (config := { maxSteps := 10000000 }) +contextual only [exa, ne_eq, not_false_eq_true, Nat.reduceAdd, Nat.reduceMul, Nat.reduceLT, Nat.reduceLeDiff, Nat.reduceEqDiff, Int.reduceLT, Int.reduceLE, Int.reduceEq, Int.reduceToNat]
  ·refine ⟨h', a1, ?_⟩
   rw [w15_4, b15_4]
   simp (config := { maxSteps := 10000000 }) +contextual only [exa, ne_eq, not_false_eq_true, Nat.reduceAdd, Nat.reduceMul, Nat.reduceLT, Nat.reduceLeDiff, Nat.reduceEqDiff, Int.reduceLT, Int.reduceLE, Int.reduceEq, Int.reduceToNat, z0, a1, if_false]
 obtain ⟨h'', b1, b2⟩ := step
 rw [b2, w15_5, b15_5]
 by_cases h3 : ¬ (mayA s).1 = 0
 ·simp (config := { maxSteps := 10000000 }) +contextual only [exa, ne_eq, not_false_eq_true, Nat.reduceAdd, Nat.reduceMul, Nat.reduceLT, Nat.reduceLeDiff, Nat.reduceEqDiff, Int.reduceLT, Int.reduceLE, Int.reduceEq, Int.reduceToNat, h3, if_true, oneOf]
 replace h3 := Classical.not_not.1 h3
 have hmay : (mayT s s.types.list 0).1 = 0 ∧ (mayV s s.main 1 (mayT s s.types.list 0).2).1 = 0 := by
  unfold mayA at h3
  by_cases z0 : (mayT s s.types.list 0).1 = 0
  ·rw [if_pos z0] at h3; exact ⟨z0, h3⟩
  ·rw [if_neg z0] at h3; exact absurd h3 z0
 have hT : ∀ (l : List NT) (c : Nat), (mayT s l c).1 = 0 → ∀ e ∈ l, ∃ d c, (mayV s e.t d c).1 = 0 := by
  intro l
  induction l with
  | nil => intro c _ e he; cases he
  | cons x l ihl =>
   intro c hc e he
   unfold mayT at hc
   by_cases hx : (mayV s x.t 1 c).1 = 0
   ·rw [if_pos hx] at hc
    rcases List.mem_cons.1 he with rfl | he
    ·exact ⟨_, _, hx⟩
    ·exact ihl _ hc e he
   ·rw [if_neg hx] at hc; exact absurd hc hx
 rw [if_neg (by simpa using h3)]
 simp (config := { maxSteps := 10000000 }) +contextual only [exa, ne_eq, not_false_eq_true, Nat.reduceAdd, Nat.reduceMul, Nat.reduceLT, Nat.reduceLeDiff, Nat.reduceEqDiff, Int.reduceLT, Int.reduceLE, Int.reduceEq, Int.reduceToNat, h3]
 rw [w15_6, b15_6]
 simp (config := { maxSteps := 10000000 }) +contextual only [exa, ne_eq, not_false_eq_true, Nat.reduceAdd, Nat.reduceMul, Nat.reduceLT, Nat.reduceLeDiff, Nat.reduceEqDiff, Int.reduceLT, Int.reduceLE, Int.reduceEq, Int.reduceToNat, b1, hg, hn, Int.lt_irrefl]
 rw [w15_11, b15_11]
 have tc : ∀ (β : Type) (kt : TVal → Heap → AI.Touch → Option β) (h : Heap) (d : Nat), vtouch Om (.call (.k (.v (.c (.func 53 [])))) [.k (kA s.row)]) h d kt = kt (.v (.c (.p (slP 1 sRow (grown (finM s.types.list)))))) h noTouch := fun β kt h d => t_call0 53 [kA s.row] _ (by simp only [exP]) (finite_ok s hs hf) rfl
 have tl : ∀ {α β : Type} {O : Oracle} {h : Heap} {d : Nat} {kt : TVal → Heap → AI.Touch → Option β} (sz : Nat) (f : α → List PVal) (s : Sl α), vtouch O (.len 2 (.k (.v (.c (.p (slP sz f s)))))) h d kt = kt (kI (s.len : Int)) h noTouch := by
  intro α β O h d kt sz f s
  cases s with
  | nil => exact t_len_nil
  | mk t l => show vtouch O (.len 2 (.k (kSl sz t (l.map f)))) h d kt = _; rw [t_len_sl, List.length_map]; rfl
 simp (config := { maxSteps := 10000000 }) +contextual only [exa, ne_eq, not_false_eq_true, Nat.reduceAdd, Nat.reduceMul, Nat.reduceLT, Nat.reduceLeDiff, Nat.reduceEqDiff, Int.reduceLT, Int.reduceLE, Int.reduceEq, Int.reduceToNat, b1, tc, tl, grown_len]
 by_cases h4 : (finM s.types.list).length = s.types.len
 ·have h4' : ((finM s.types.list).length : Int) = (s.types.len : Int) := by omega
  rw [if_neg (by simpa using h4)]
  simp (config := { maxSteps := 10000000 }) +contextual only [exa, ne_eq, not_false_eq_true, Nat.reduceAdd, Nat.reduceMul, Nat.reduceLT, Nat.reduceLeDiff, Nat.reduceEqDiff, Int.reduceLT, Int.reduceLE, Int.reduceEq, Int.reduceToNat, b1, h4', u54 s hs hg]
  have hO : ∀ x ∈ allM s, OptsOK s x := by
   intro x hx
   have hx' : x ∈ s.types.list.map NT.t ++ [s.main] := hx
   rcases List.mem_append.1 hx' with hx | hx
   ·obtain ⟨e, he, rfl⟩ := List.mem_map.1 hx
    exact opts_ok s (by omega) _ _ (Nat.lt_succ_self _) (hf e he) (may_optK s _ _ (Nat.lt_succ_self _) (hT _ _ hmay.1 e he))
   ·have : x = s.main := by simpa using hx
    subst this
    exact opts_ok s (by omega) _ _ (Nat.lt_succ_self _) hm (may_optK s _ _ (Nat.lt_succ_self _) ⟨_, _, hmay.2⟩)
  have := chk_opts s hs (allM s) (by unfold allM; unfold Sl.len at hs; simp; omega) hO h'' b1 0
  rw [List.drop_zero] at this
  exact this
 ·have h4' : ¬ ((finM s.types.list).length : Int) = (s.types.len : Int) := by omega
  rw [if_pos (by simpa using h4)]
  simp (config := { maxSteps := 10000000 }) +contextual only [exa, ne_eq, not_false_eq_true, Nat.reduceAdd, Nat.reduceMul, Nat.reduceLT, Nat.reduceLeDiff, Nat.reduceEqDiff, Int.reduceLT, Int.reduceLE, Int.reduceEq, Int.reduceToNat, b1, h4', oneOf]
end Go.Proofs.YtlkejchbcchecaaDoor.Ab
