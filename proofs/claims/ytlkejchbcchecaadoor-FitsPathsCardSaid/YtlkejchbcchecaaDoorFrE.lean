/- Schemas are checked, continued: values that end, Opts in Opts, the whole. -/
import Derived.Test.YtlkejchbcchecaaDoorFrD
set_option linter.all false
set_option linter.unusedVariables false
set_option linter.unusedSimpArgs false
set_option maxRecDepth 100000
namespace Go.Proofs.YtlkejchbcchecaaDoor.Ab
open Go Go.AI
mutual
def endsM (l : List (List UInt8)) : TT → Bool
 | .mk k n _ ks => if k = 7 then endsAllS l ks else if k = 8 then endsAnyS l ks else if k = 9 then (idxM n l).isSome else true
def endsAllS (l : List (List UInt8)) : Sl TT → Bool
 | .nil => true
 | .mk _ ts => endsAll l ts
def endsAnyS (l : List (List UInt8)) : Sl TT → Bool
 | .nil => false
 | .mk _ ts => endsAny l ts
def endsAll (l : List (List UInt8)) : List TT → Bool
 | [] => true
 | t :: ts => endsM l t && endsAll l ts
def endsAny (l : List (List UInt8)) : List TT → Bool
 | [] => false
 | t :: ts => endsM l t || endsAny l ts
end
theorem endsAllS_eq (l : List (List UInt8)) (s : Sl TT) : endsAllS l s = endsAll l s.list := by cases s <;> simp [endsAllS, endsAll, Sl.list]
theorem endsAnyS_eq (l : List (List UInt8)) (s : Sl TT) : endsAnyS l s = endsAny l s.list := by cases s <;> simp [endsAnyS, endsAny, Sl.list]
theorem endsM_eq (l : List (List UInt8)) (t : TT) : endsM l t = if t.kind = 7 then endsAll l t.kids.list else if t.kind = 8 then endsAny l t.kids.list else if t.kind = 9 then (idxM t.name l).isSome else true := by
 cases t with
 | mk k n ns ks => rw [endsM, endsAllS_eq, endsAnyS_eq]; rfl
def EndsOK (L : Sl (List UInt8)) (t : TT) : Prop := Om 110 [.v (.c (.p (slP 1 sRow L))), kA t.row] [] = some (kB (endsM L.list t), [])
theorem u110 {β : Type} {k : TVal → Heap → Option β} {h : Heap} {d : Nat} {L : Sl (List UInt8)} {t : TT} (e : EndsOK L t) : vcall Om (.v (.c (.func 110 []))) [.v (.c (.p (slP 1 sRow L))), kA t.row] h d k = k (kB (endsM L.list t)) h := vcall_pure 110 _ _ (by simp only [exP]) e rfl
theorem ends_all (L : Sl (List UInt8)) (t : TT) (hl : t.kids.len < 4611686018427387904) (ih : ∀ x ∈ t.kids.list, EndsOK L x) (h : Heap) (ht : h.get (.own 3 1) = some (.cells (pcells t.row) 0)) :
  ∀ i : Nat, lim tab.get S 110 0 1 [.v (.c (.p (slP 1 sRow L))), pO 3 1, kI (i : Int)] h = some (kB (endsAll L.list (t.kids.list.drop i)), []) := by
 refine loop_up t.kids.len (fun i hi => ?_) (fun i hi ihl => ?_) <;> rw [w110_1, b110_1]
 ·have h1 : ¬ (i : Int) < (t.kids.len : Int) := by omega
  simp (config := { maxSteps := 10000000 }) +contextual only [exa, ne_eq, not_false_eq_true, Nat.reduceAdd, Nat.reduceMul, Nat.reduceLT, Nat.reduceLeDiff, Nat.reduceEqDiff, Int.reduceLT, Int.reduceLE, Int.reduceEq, Int.reduceToNat, ht, h1, at_end hi, endsAll, oneOf]
 ·have h1 : (i : Int) < (t.kids.len : Int) := by omega
  obtain ⟨x, hs, h2, hx⟩ := at_step hi
  cases h3 : endsM L.list x
  ·simp (config := { maxSteps := 10000000 }) +contextual only [exa, ne_eq, not_false_eq_true, Nat.reduceAdd, Nat.reduceMul, Nat.reduceLT, Nat.reduceLeDiff, Nat.reduceEqDiff, Int.reduceLT, Int.reduceLE, Int.reduceEq, Int.reduceToNat, ht, h1, hs, h2, u110 (ih x hx), h3, endsAll, oneOf]
  ·simp (config := { maxSteps := 10000000 }) +contextual only [exa, ne_eq, not_false_eq_true, Nat.reduceAdd, Nat.reduceMul, Nat.reduceLT, Nat.reduceLeDiff, Nat.reduceEqDiff, Int.reduceLT, Int.reduceLE, Int.reduceEq, Int.reduceToNat, ht, h1, hs, h2, u110 (ih x hx), h3, endsAll, oneOf, wrapS i (by omega), ihl]
theorem ends_any (L : Sl (List UInt8)) (t : TT) (hl : t.kids.len < 4611686018427387904) (ih : ∀ x ∈ t.kids.list, EndsOK L x) (h : Heap) (ht : h.get (.own 3 1) = some (.cells (pcells t.row) 0)) :
  ∀ i : Nat, lim tab.get S 110 0 2 [.v (.c (.p (slP 1 sRow L))), pO 3 1, kI (i : Int)] h = some (kB (endsAny L.list (t.kids.list.drop i)), []) := by
 refine loop_up t.kids.len (fun i hi => ?_) (fun i hi ihl => ?_) <;> rw [w110_2, b110_2]
 ·have h1 : ¬ (i : Int) < (t.kids.len : Int) := by omega
  simp (config := { maxSteps := 10000000 }) +contextual only [exa, ne_eq, not_false_eq_true, Nat.reduceAdd, Nat.reduceMul, Nat.reduceLT, Nat.reduceLeDiff, Nat.reduceEqDiff, Int.reduceLT, Int.reduceLE, Int.reduceEq, Int.reduceToNat, ht, h1, at_end hi, endsAny, oneOf]
 ·have h1 : (i : Int) < (t.kids.len : Int) := by omega
  obtain ⟨x, hs, h2, hx⟩ := at_step hi
  cases h3 : endsM L.list x
  ·simp (config := { maxSteps := 10000000 }) +contextual only [exa, ne_eq, not_false_eq_true, Nat.reduceAdd, Nat.reduceMul, Nat.reduceLT, Nat.reduceLeDiff, Nat.reduceEqDiff, Int.reduceLT, Int.reduceLE, Int.reduceEq, Int.reduceToNat, ht, h1, hs, h2, u110 (ih x hx), h3, endsAny, oneOf, wrapS i (by omega), ihl]
  ·simp (config := { maxSteps := 10000000 }) +contextual only [exa, ne_eq, not_false_eq_true, Nat.reduceAdd, Nat.reduceMul, Nat.reduceLT, Nat.reduceLeDiff, Nat.reduceEqDiff, Int.reduceLT, Int.reduceLE, Int.reduceEq, Int.reduceToNat, ht, h1, hs, h2, u110 (ih x hx), h3, endsAny, oneOf]
theorem ends_ok (L : Sl (List UInt8)) (hL : L.len < 4611686018427387904) : ∀ (m : Nat) (v : TT), SizeOf.sizeOf v < m → fitT v → EndsOK L v := by
 intro m
 induction m with
 | zero => intro v h; omega
 | succ m ih =>
  intro v hz hf
  obtain ⟨hf1, hf2, hf3⟩ := (fitT_eq v).1 hf
  have hk : ∀ x ∈ v.kids.list, EndsOK L x := fun x hx => ih x (by have := TT.mem_size hx; omega) (hf3 x hx)
  refine (orc_none rfl).trans ?_
  show lim tab.get S 110 0 0 [.v (.c (.p (slP 1 sRow L))), kA v.row] h0 = _
  rw [w110_0, b110_0, endsM_eq]
  by_cases h7 : v.kind = 7
  ·have := ends_all L v hf2 hk (h0.own 3 1 (.cells (pcells v.row) 0)) (by simp only [exa, ne_eq, not_false_eq_true, Nat.reduceAdd, Nat.reduceMul, Nat.reduceLT, Nat.reduceLeDiff, Nat.reduceEqDiff, Int.reduceLT, Int.reduceLE, Int.reduceEq, Int.reduceToNat]) 0
   rw [List.drop_zero] at this
   simp (config := { maxSteps := 10000000 }) +contextual only [exa, ne_eq, not_false_eq_true, Nat.reduceAdd, Nat.reduceMul, Nat.reduceLT, Nat.reduceLeDiff, Nat.reduceEqDiff, Int.reduceLT, Int.reduceLE, Int.reduceEq, Int.reduceToNat, h7, if_true]
   exact this
  by_cases h8 : v.kind = 8
  ·have := ends_any L v hf2 hk (h0.own 3 1 (.cells (pcells v.row) 0)) (by simp only [exa, ne_eq, not_false_eq_true, Nat.reduceAdd, Nat.reduceMul, Nat.reduceLT, Nat.reduceLeDiff, Nat.reduceEqDiff, Int.reduceLT, Int.reduceLE, Int.reduceEq, Int.reduceToNat]) 0
   rw [List.drop_zero] at this
   simp (config := { maxSteps := 10000000 }) +contextual only [exa, ne_eq, not_false_eq_true, Nat.reduceAdd, Nat.reduceMul, Nat.reduceLT, Nat.reduceLeDiff, Nat.reduceEqDiff, Int.reduceLT, Int.reduceLE, Int.reduceEq, Int.reduceToNat, h7, h8, if_true, if_false]
   exact this
  by_cases h9 : v.kind = 9
  ·simp (config := { maxSteps := 10000000 }) +contextual only [exa, ne_eq, not_false_eq_true, Nat.reduceAdd, Nat.reduceMul, Nat.reduceLT, Nat.reduceLeDiff, Nat.reduceEqDiff, Int.reduceLT, Int.reduceLE, Int.reduceEq, Int.reduceToNat, h7, h8, h9, if_true, if_false, u163 L v.name hL, oneOf]
  ·simp (config := { maxSteps := 10000000 }) +contextual only [exa, ne_eq, not_false_eq_true, Nat.reduceAdd, Nat.reduceMul, Nat.reduceLT, Nat.reduceLeDiff, Nat.reduceEqDiff, Int.reduceLT, Int.reduceLE, Int.reduceEq, Int.reduceToNat, h7, h8, h9, if_false, oneOf]
/-! ### the names whose values end -/
def finF (types : List NT) (l : List (List UInt8)) : List (List UInt8) := (types.filter fun e => endsM l e.t).map NT.name
def finK (types : List NT) : Nat → List (List UInt8) → List (List UInt8)
 | 0, l => l
 | n + 1, l => finK types n (finF types l)
def finM (types : List NT) : List (List UInt8) := finK types (types.length + 1) []
theorem finF_len (types : List NT) (l : List (List UInt8)) : (finF types l).length ≤ types.length := by unfold finF; rw [List.length_map]; exact List.length_filter_le _ _
theorem fin_in (s : ST) (hs : s.types.len ≤ 1000) (hf : ∀ e ∈ s.types.list, fitT e.t) (v3 : Cell) (l3 : List (List UInt8)) (hl3 : l3.length ≤ 1000) (G3 : Bears 1 v3 (l3.map sRow)) (x4 : TVal) :
  ∀ (i : Nat) (v5 : Cell) (l5 : List (List UInt8)) (h : Heap), l5.length ≤ i → h.get (.own 1 1) = some (.cells (pcells s.row) 0) → Grow [37] 1 v5 (l5.map sRow) h →
   ∃ v' h', Grow [37] 1 v' ((l5 ++ finF (s.types.list.drop i) l3).map sRow) h' ∧ h'.get (.own 1 1) = some (.cells (pcells s.row) 0) ∧
    lim tab.get S 53 0 2 [pO 1 1, .v (.c v3), x4, .v (.c v5), kI (i : Int)] h = lim tab.get S 53 0 4 [pO 1 1, x4, .v (.c v')] h' := by
 refine loop_up s.types.len (fun i hi v5 l5 h h5 hv G5 => ?_) (fun i hi ih v5 l5 h h5 hv G5 => ?_)
 ·have h1 : ¬ (i : Int) < (s.types.len : Int) := by omega
  refine ⟨v5, h, ?_, hv, ?_⟩
  ·rw [at_end hi]; simpa [finF] using G5
  ·rw [w53_2, b53_2]
   simp (config := { maxSteps := 10000000 }) +contextual only [exa, ne_eq, not_false_eq_true, Nat.reduceAdd, Nat.reduceMul, Nat.reduceLT, Nat.reduceLeDiff, Nat.reduceEqDiff, Int.reduceLT, Int.reduceLE, Int.reduceEq, Int.reduceToNat, hv, h1]
 ·have h1 : (i : Int) < (s.types.len : Int) := by omega
  obtain ⟨x, hx, h2, hm⟩ := at_step hi
  have he : EndsOK (grown l3) x.t := ends_ok _ (by rw [grown_len]; omega) _ x.t (Nat.lt_succ_self _) (hf x hm)
  have hc : ∀ {β : Type} {k : TVal → Heap → Option β} {h : Heap} {d : Nat}, vcall Om (.v (.c (.func 110 []))) [.v (.c v3), kA x.t.row] h d k = k (kB (endsM l3 x.t)) h := by
   intro β k h d
   rw [G3.call1, grown_row, u110 he, grown_list]
  cases h3 : endsM l3 x.t
  ·obtain ⟨v', h', a1, a2, a3⟩ := ih v5 l5 h (by omega) hv G5
   refine ⟨v', h', ?_, a2, ?_⟩
   ·rw [h2]; simpa [finF, h3] using a1
   ·rw [w53_2, b53_2]
    simp (config := { maxSteps := 10000000 }) +contextual only [exa, ne_eq, not_false_eq_true, Nat.reduceAdd, Nat.reduceMul, Nat.reduceLT, Nat.reduceLeDiff, Nat.reduceEqDiff, Int.reduceLT, Int.reduceLE, Int.reduceEq, Int.reduceToNat, hv, h1, hx, hc, h3, w53_3, b53_3, wrapS i (by omega)]
    exact a3
  ·obtain ⟨vv, hh, b1, b2, b3, b4⟩ := Grow.app (d := 37) (by' := 16) true G5 (by simp) (new := [[PVal.str x.name]]) (by simp) (by simp) (by simp; omega) (by decide)
   have b1' : Grow [37] 1 vv ((l5 ++ [x.name]).map sRow) hh := by rw [List.map_append]; exact b1
   obtain ⟨v', h', a1, a2, a3⟩ := ih vv (l5 ++ [x.name]) hh (by simp; omega) (b3 1 1 _ (by decide) hv (by rw [ST.row_lit]; intro e; cases e)) b1'
   refine ⟨v', h', ?_, a2, ?_⟩
   ·rw [h2]; simpa [finF, h3] using a1
   ·rw [w53_2, b53_2]
    simp (config := { maxSteps := 10000000 }) +contextual only [exa, ne_eq, not_false_eq_true, Nat.reduceAdd, Nat.reduceMul, Nat.reduceLT, Nat.reduceLeDiff, Nat.reduceEqDiff, Int.reduceLT, Int.reduceLE, Int.reduceEq, Int.reduceToNat, hv, h1, hx, hc, h3, w53_3, b53_3, wrapS i (by omega)]
    rw [b2]
    exact a3
theorem fin_out (s : ST) (hs : s.types.len ≤ 1000) (hf : ∀ e ∈ s.types.list, fitT e.t) :
  ∀ (i : Nat) (v3 : Cell) (l3 : List (List UInt8)) (h : Heap), l3.length ≤ 1000 → h.get (.own 1 1) = some (.cells (pcells s.row) 0) → Bears 1 v3 (l3.map sRow) →
   lim tab.get S 53 0 1 [pO 1 1, .v (.c v3), kI (i : Int)] h = some (.v (.c (.p (slP 1 sRow (grown (finK s.types.list (s.types.len + 1 - i) l3))))), []) := by
 refine loop_up (s.types.len + 1) (fun i hi v3 l3 h hl3 hv G3 => ?_) (fun i hi ih v3 l3 h hl3 hv G3 => ?_) <;> rw [w53_1, b53_1]
 ·have h1 : (s.types.len : Int) < (i : Int) := by omega
  have h2 : s.types.len + 1 - i = 0 := by omega
  simp (config := { maxSteps := 10000000 }) +contextual only [exa, ne_eq, not_false_eq_true, Nat.reduceAdd, Nat.reduceMul, Nat.reduceLT, Nat.reduceLeDiff, Nat.reduceEqDiff, Int.reduceLT, Int.reduceLE, Int.reduceEq, Int.reduceToNat, hv, h1, h2, finK]
  rw [G3.fin, grown_row]
 ·have h1 : ¬ (s.types.len : Int) < (i : Int) := by omega
  have h2 : s.types.len + 1 - i = (s.types.len + 1 - (i + 1)) + 1 := by omega
  obtain ⟨v', h', a1, a2, a3⟩ := fin_in s hs hf v3 l3 hl3 G3 (kI (i : Int)) 0 (.p .nilslice) [] h (by simp) hv (Grow.nil _ _ _)
  simp (config := { maxSteps := 10000000 }) +contextual only [exa, ne_eq, not_false_eq_true, Nat.reduceAdd, Nat.reduceMul, Nat.reduceLT, Nat.reduceLeDiff, Nat.reduceEqDiff, Int.reduceLT, Int.reduceLE, Int.reduceEq, Int.reduceToNat, hv, h1]
  refine a3.trans ?_
  rw [w53_4, b53_4, w53_5, b53_5]
  simp (config := { maxSteps := 10000000 }) +contextual only [exa, ne_eq, not_false_eq_true, Nat.reduceAdd, Nat.reduceMul, Nat.reduceLT, Nat.reduceLeDiff, Nat.reduceEqDiff, Int.reduceLT, Int.reduceLE, Int.reduceEq, Int.reduceToNat, wrapS i (by omega)]
  rw [List.nil_append, List.drop_zero] at a1
  rw [ih v' (finF s.types.list l3) h' (Nat.le_trans (finF_len _ _) hs) a2 a1.bears, h2, finK]
theorem finite_ok (s : ST) (hs : s.types.len ≤ 1000) (hf : ∀ e ∈ s.types.list, fitT e.t) : Om 53 [kA s.row] [] = some (.v (.c (.p (slP 1 sRow (grown (finM s.types.list))))), []) := by
 refine (orc_none rfl).trans ?_
 show lim tab.get S 53 0 0 [kA s.row] h0 = _
 rw [w53_0, b53_0]
 simp (config := { maxSteps := 10000000 }) +contextual only [exa, ne_eq, not_false_eq_true, Nat.reduceAdd, Nat.reduceMul, Nat.reduceLT, Nat.reduceLeDiff, Nat.reduceEqDiff, Int.reduceLT, Int.reduceLE, Int.reduceEq, Int.reduceToNat]
 exact fin_out s hs hf 0 (.p .nilslice) [] _ (by simp) (by simp only [exa, ne_eq, not_false_eq_true, Nat.reduceAdd, Nat.reduceMul, Nat.reduceLT, Nat.reduceLeDiff, Nat.reduceEqDiff, Int.reduceLT, Int.reduceLE, Int.reduceEq, Int.reduceToNat]) (.inl ⟨rfl, rfl⟩)
theorem u53 {β : Type} {k : TVal → Heap → Option β} {h : Heap} {d : Nat} (s : ST) (hs : s.types.len ≤ 1000) (hf : ∀ e ∈ s.types.list, fitT e.t) : vcall Om (.v (.c (.func 53 []))) [kA s.row] h d k = k (.v (.c (.p (slP 1 sRow (grown (finM s.types.list)))))) h := vcall_pure 53 _ _ (by simp only [exP]) (finite_ok s hs hf) rfl
/-! ### Opts in Opts -/
mutual
def optsM (s : ST) : TT → Bool
 | .mk k _ _ ks => (decide (k = 6) && decide ((openM s (ks.list.headD nulT)).kind = 6)) || optsS s ks
def optsS (s : ST) : Sl TT → Bool
 | .nil => false
 | .mk _ l => optsL s l
def optsL (s : ST) : List TT → Bool
 | [] => false
 | t :: l => optsM s t || optsL s l
end
theorem optsS_eq (s : ST) (l : Sl TT) : optsS s l = optsL s l.list := by cases l <;> simp [optsS, optsL, Sl.list]
theorem optsM_eq (s : ST) (t : TT) : optsM s t = ((decide (t.kind = 6) && decide ((openM s (t.kids.list.headD nulT)).kind = 6)) || optsL s t.kids.list) := by
 cases t with
 | mk k n ns ks => rw [optsM, optsS_eq]; rfl
/- An Opt has a kid. -/
mutual
def optK : TT → Prop
 | .mk k _ _ ks => (k = 6 → ks.list ≠ []) ∧ optKS ks
def optKS : Sl TT → Prop
 | .nil => True
 | .mk _ l => optKL l
def optKL : List TT → Prop
 | [] => True
 | t :: l => optK t ∧ optKL l
end
theorem optK_eq (t : TT) : optK t ↔ (t.kind = 6 → t.kids.list ≠ []) ∧ ∀ x ∈ t.kids.list, optK x := by
 have hl : ∀ l : List TT, optKL l ↔ ∀ x ∈ l, optK x := by
  intro l
  induction l with
  | nil => simp [optKL]
  | cons a l ih => simp [optKL, ih]
 cases t with
 | mk k n ns ks =>
  cases ks with
  | nil => simp [optK, optKS, TT.kind, TT.kids, Sl.list]
  | mk t l => simp [optK, optKS, TT.kind, TT.kids, Sl.list, hl]
def OptsOK (s : ST) (t : TT) : Prop := Om 55 [kA s.row, kA t.row] [] = some (kB (optsM s t), [])
theorem u55 {β : Type} {k : TVal → Heap → Option β} {h : Heap} {d : Nat} {s : ST} {t : TT} (e : OptsOK s t) : vcall Om (.v (.c (.func 55 []))) [kA s.row, kA t.row] h d k = k (kB (optsM s t)) h := vcall_pure 55 _ _ (by simp only [exP]) e rfl
theorem opts_loop (s : ST) (t : TT) (hl : t.kids.len < 4611686018427387904) (ih : ∀ x ∈ t.kids.list, OptsOK s x) (h : Heap) (hs : h.get (.own 2 1) = some (.cells (pcells s.row) 0)) (ht : h.get (.own 3 1) = some (.cells (pcells t.row) 0)) :
  ∀ i : Nat, lim tab.get S 55 0 1 [pO 2 1, pO 3 1, kI (i : Int)] h = some (kB (optsL s (t.kids.list.drop i)), []) := by
 refine loop_up t.kids.len (fun i hi => ?_) (fun i hi ihl => ?_) <;> rw [w55_1, b55_1]
 ·have h1 : ¬ (i : Int) < (t.kids.len : Int) := by omega
  simp (config := { maxSteps := 10000000 }) +contextual only [exa, ne_eq, not_false_eq_true, Nat.reduceAdd, Nat.reduceMul, Nat.reduceLT, Nat.reduceLeDiff, Nat.reduceEqDiff, Int.reduceLT, Int.reduceLE, Int.reduceEq, Int.reduceToNat, hs, ht, h1, at_end hi, optsL, oneOf]
 ·have h1 : (i : Int) < (t.kids.len : Int) := by omega
  obtain ⟨x, hx0, h2, hx⟩ := at_step hi
  cases h3 : optsM s x
  ·simp (config := { maxSteps := 10000000 }) +contextual only [exa, ne_eq, not_false_eq_true, Nat.reduceAdd, Nat.reduceMul, Nat.reduceLT, Nat.reduceLeDiff, Nat.reduceEqDiff, Int.reduceLT, Int.reduceLE, Int.reduceEq, Int.reduceToNat, hs, ht, h1, hx0, h2, u55 (ih x hx), h3, optsL, oneOf, wrapS i (by omega), ihl]
  ·simp (config := { maxSteps := 10000000 }) +contextual only [exa, ne_eq, not_false_eq_true, Nat.reduceAdd, Nat.reduceMul, Nat.reduceLT, Nat.reduceLeDiff, Nat.reduceEqDiff, Int.reduceLT, Int.reduceLE, Int.reduceEq, Int.reduceToNat, hs, ht, h1, hx0, h2, u55 (ih x hx), h3, optsL, oneOf]
theorem opts_ok (s : ST) (hs : s.types.len < 4611686018427387904) : ∀ (m : Nat) (v : TT), SizeOf.sizeOf v < m → fitT v → optK v → OptsOK s v := by
 intro m
 induction m with
 | zero => intro v h; omega
 | succ m ih =>
  intro v hz hf ho
  obtain ⟨hf1, hf2, hf3⟩ := (fitT_eq v).1 hf
  obtain ⟨ho1, ho2⟩ := (optK_eq v).1 ho
  have hk : ∀ x ∈ v.kids.list, OptsOK s x := fun x hx => ih x (by have := TT.mem_size hx; omega) (hf3 x hx) (ho2 x hx)
  refine (orc_none rfl).trans ?_
  show lim tab.get S 55 0 0 [kA s.row, kA v.row] h0 = _
  rw [w55_0, b55_0, optsM_eq]
  have hlp := opts_loop s v hf2 hk ((h0.own 2 1 (.cells (pcells s.row) 0)).own 3 1 (.cells (pcells v.row) 0)) (by simp only [exa, ne_eq, not_false_eq_true, Nat.reduceAdd, Nat.reduceMul, Nat.reduceLT, Nat.reduceLeDiff, Nat.reduceEqDiff, Int.reduceLT, Int.reduceLE, Int.reduceEq, Int.reduceToNat]) (by simp only [exa, ne_eq, not_false_eq_true, Nat.reduceAdd, Nat.reduceMul, Nat.reduceLT, Nat.reduceLeDiff, Nat.reduceEqDiff, Int.reduceLT, Int.reduceLE, Int.reduceEq, Int.reduceToNat]) 0
  rw [List.drop_zero] at hlp
  by_cases h6 : v.kind = 6
  ·obtain ⟨x, l, hx⟩ : ∃ x l, v.kids.list = x :: l := by
    cases hv : v.kids.list with
    | nil => exact absurd hv (ho1 h6)
    | cons x l => exact ⟨x, l, rfl⟩
   rw [hx] at hlp ⊢
   have hr : ∀ t : TT, (pcells t.row)[0]? = some (.p (.int .i64 t.kind)) := fun t => by rw [pcells_get, TT.row0]; rfl
   by_cases h7 : (openM s x).kind = 6
   ·simp (config := { maxSteps := 10000000 }) +contextual only [exa, ne_eq, not_false_eq_true, Nat.reduceAdd, Nat.reduceMul, Nat.reduceLT, Nat.reduceLeDiff, Nat.reduceEqDiff, Int.reduceLT, Int.reduceLE, Int.reduceEq, Int.reduceToNat, h6, hx, u111 s x hs, hr, h7, oneOf, List.headD_cons]
   ·simp (config := { maxSteps := 10000000 }) +contextual only [exa, ne_eq, not_false_eq_true, Nat.reduceAdd, Nat.reduceMul, Nat.reduceLT, Nat.reduceLeDiff, Nat.reduceEqDiff, Int.reduceLT, Int.reduceLE, Int.reduceEq, Int.reduceToNat, h6, hx, u111 s x hs, hr, h7, List.headD_cons]
    exact hlp
  ·simp (config := { maxSteps := 10000000 }) +contextual only [exa, ne_eq, not_false_eq_true, Nat.reduceAdd, Nat.reduceMul, Nat.reduceLT, Nat.reduceLeDiff, Nat.reduceEqDiff, Int.reduceLT, Int.reduceLE, Int.reduceEq, Int.reduceToNat, h6]
   exact hlp
end Go.Proofs.YtlkejchbcchecaaDoor.Ab
