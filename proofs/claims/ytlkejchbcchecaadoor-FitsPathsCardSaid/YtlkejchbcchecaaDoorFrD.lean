/- Schemas are checked, continued: types gone through, values that end, Opts in Opts. -/
import Derived.Test.YtlkejchbcchecaaDoorFrC
set_option linter.all false
set_option linter.unusedVariables false
set_option linter.unusedSimpArgs false
set_option maxRecDepth 100000
namespace Go.Proofs.YtlkejchbcchecaaDoor.Ab
open Go Go.AI
/- A row of types that a program may hold: lists short enough to be counted. -/
mutual
def fitT : TT → Prop
 | .mk _ _ ns ks => ns.len < 4611686018427387904 ∧ ks.len < 4611686018427387904 ∧ fitTS ks
def fitTS : Sl TT → Prop
 | .nil => True
 | .mk _ l => fitTL l
def fitTL : List TT → Prop
 | [] => True
 | t :: l => fitT t ∧ fitTL l
end
theorem fitTL_mem : ∀ {l : List TT} {x : TT}, fitTL l → x ∈ l → fitT x
 | [], _, _, h => by cases h
 | t :: l, x, h, hx => by
  unfold fitTL at h
  rcases List.mem_cons.1 hx with rfl | hx
  ·exact h.1
  ·exact fitTL_mem h.2 hx
theorem fitT_eq (t : TT) : fitT t ↔ t.names.len < 4611686018427387904 ∧ t.kids.len < 4611686018427387904 ∧ ∀ x ∈ t.kids.list, fitT x := by
 have hl : ∀ l : List TT, fitTL l ↔ ∀ x ∈ l, fitT x := by
  intro l
  induction l with
  | nil => simp [fitTL]
  | cons a l ih => simp [fitTL, ih]
 cases t with
 | mk k n ns ks =>
  cases ks with
  | nil => simp [fitT, fitTS, TT.names, TT.kids, Sl.list]
  | mk t l => simp [fitT, fitTS, TT.names, TT.kids, Sl.list, hl]
mutual
def mayV (s : ST) : TT → Nat → Nat → Int × Nat
 | .mk k n ns ks, deep, c => if 400 < c + 1 then (3, c + 1) else if 12 < deep then (13, c + 1) else if ownM s.types.list (.mk k n ns ks) = 0 then mayS s ks (deep + 1) (c + 1) else (ownM s.types.list (.mk k n ns ks), c + 1)
def mayS (s : ST) : Sl TT → Nat → Nat → Int × Nat
 | .nil, _, c => (0, c)
 | .mk _ l, d, c => mayL s l d c
def mayL (s : ST) : List TT → Nat → Nat → Int × Nat
 | [], _, c => (0, c)
 | v :: vs, d, c => if (mayV s v d c).1 = 0 then mayL s vs d (mayV s v d c).2 else mayV s v d c
end
theorem mayS_eq (s : ST) (l : Sl TT) (d c : Nat) : mayS s l d c = mayL s l.list d c := by cases l <;> simp [mayS, mayL, Sl.list]
theorem mayV_eq (s : ST) (t : TT) (deep c : Nat) : mayV s t deep c = if 400 < c + 1 then (3, c + 1) else if 12 < deep then (13, c + 1) else if ownM s.types.list t = 0 then mayL s t.kids.list (deep + 1) (c + 1) else (ownM s.types.list t, c + 1) := by
 cases t with
 | mk k n ns ks => rw [mayV, mayS_eq]; rfl
theorem mayV_c (s : ST) : ∀ (m : Nat) (v : TT), SizeOf.sizeOf v < m → ∀ (deep c : Nat), (mayV s v deep c).1 = 0 → (mayV s v deep c).2 ≤ 400 := by
 intro m
 induction m with
 | zero => intro v h; omega
 | succ m ih =>
  intro v h deep c h0
  rw [mayV_eq] at h0 ⊢
  by_cases h1 : 400 < c + 1
  ·rw [if_pos h1] at h0; cases h0
  rw [if_neg h1] at h0 ⊢
  by_cases h2 : 12 < deep
  ·rw [if_pos h2] at h0; cases h0
  rw [if_neg h2] at h0 ⊢
  by_cases h3 : ownM s.types.list v = 0
  ·rw [if_pos h3] at h0 ⊢
   have hl : ∀ (l : List TT), (∀ x ∈ l, SizeOf.sizeOf x < m) → ∀ d c, c ≤ 400 → (mayL s l d c).1 = 0 → (mayL s l d c).2 ≤ 400 := by
    intro l
    induction l with
    | nil => intro _ d c hc _; simpa [mayL] using hc
    | cons x l ihl =>
     intro hm d c hc e
     unfold mayL at e ⊢
     by_cases hx : (mayV s x d c).1 = 0
     ·rw [if_pos hx] at e ⊢
      exact ihl (fun y hy => hm y (by simp [hy])) d _ (ih x (hm x (by simp)) d c hx) e
     ·rw [if_neg hx] at e; exact absurd e hx
   exact hl _ (fun x hx => by have := TT.mem_size hx; omega) _ _ (by omega) h0
  ·rw [if_neg h3] at h0; exact absurd h0 h3
abbrev wkO (s : ST) (c : Nat) : AObj := .cells (pcells (wkRow s (c : Int))) 0
theorem u51 {β : Type} {k : TVal → Heap → Option β} {h : Heap} {d : Nat} {s : ST} {t : TT} {deep : Int} {c c' : Nat} {e : Int} (hc : Om 51 [kP (.im 0), kA t.row, kI deep] [wkO s c] = some (kI e, [wkO s c'])) (r : Ref) (hg : h.get r = some (wkO s c)) :
  vcall Om (.v (.c (.func 51 []))) [kP r, kA t.row, kI deep] h d k = k (kI e) (h.put r (wkO s c')) :=
 vcall_p 51 r 0 [] [kA t.row, kI deep] (wkO s c) (wkO s c') _ rfl (by simp only [exP]) hg (plainO_cells _ _) (plainO_cells _ _) rfl hc
def MayOK (s : ST) (v : TT) : Prop := ∀ (deep c : Nat), deep ≤ 13 → c ≤ 400 → Om 51 [kP (.im 0), kA v.row, kI (deep : Int)] [wkO s c] = some (kI (mayV s v deep c).1, [wkO s (mayV s v deep c).2])
theorem may_kids (s : ST) (t : TT) (deep : Nat) (hd : deep ≤ 12) (hl : t.kids.len < 4611686018427387904) (ih : ∀ x ∈ t.kids.list, MayOK s x) :
  ∀ (i c : Nat) (h : Heap), h.get (.own 4 1) = some (.cells (pcells t.row) 0) → h.get (.im 0) = some (wkO s c) → c ≤ 400 →
  lim tab.get S 51 1 1 [kP (.im 0), kI (deep : Int), pO 4 1, kI 0, kI (i : Int)] h = some (kI (mayL s (t.kids.list.drop i) (deep + 1) c).1, [wkO s (mayL s (t.kids.list.drop i) (deep + 1) c).2]) := by
 refine loop_up t.kids.len (fun i hi c h ht hc hcl => ?_) (fun i hi ihl c h ht hc hcl => ?_) <;> rw [w51_1, b51_1]
 ·have h1 : ¬ (i : Int) < (t.kids.len : Int) := by omega
  simp (config := { maxSteps := 10000000 }) +contextual only [exa, ne_eq, not_false_eq_true, Nat.reduceAdd, Nat.reduceMul, Nat.reduceLT, Nat.reduceLeDiff, Nat.reduceEqDiff, Int.reduceLT, Int.reduceLE, Int.reduceEq, Int.reduceToNat, ht, hc, h1, at_end hi, mayL, oneOf]
 ·have h1 : (i : Int) < (t.kids.len : Int) := by omega
  obtain ⟨x, hs, h2, hx⟩ := at_step hi
  simp (config := { maxSteps := 10000000 }) +contextual only [exa, ne_eq, not_false_eq_true, Nat.reduceAdd, Nat.reduceMul, Nat.reduceLT, Nat.reduceLeDiff, Nat.reduceEqDiff, Int.reduceLT, Int.reduceLE, Int.reduceEq, Int.reduceToNat, ht, hc, h1, hs, wrapS deep (by omega)]
  have hk := ih x hx (deep + 1) c (by omega) hcl
  rw [u51 hk _ hc, h2, mayL]
  have h3 : (h.put (.im 0) (wkO s (mayV s x (deep + 1) c).2)).get (.im 0) = some (wkO s (mayV s x (deep + 1) c).2) := get_put_im h 0 _ _ (by rw [hc]; rfl)
  by_cases z0 : (mayV s x (deep + 1) c).1 = 0
  ·simp (config := { maxSteps := 10000000 }) +contextual only [exa, ne_eq, not_false_eq_true, Nat.reduceAdd, Nat.reduceMul, Nat.reduceLT, Nat.reduceLeDiff, Nat.reduceEqDiff, Int.reduceLT, Int.reduceLE, Int.reduceEq, Int.reduceToNat, z0, wrapS i (by omega), if_true]
   exact ihl _ _ ht h3 (mayV_c s _ x (Nat.lt_succ_self _) _ _ z0)
  ·rw [if_neg z0]
   simp (config := { maxSteps := 10000000 }) +contextual only [exa, ne_eq, not_false_eq_true, Nat.reduceAdd, Nat.reduceMul, Nat.reduceLT, Nat.reduceLeDiff, Nat.reduceEqDiff, Int.reduceLT, Int.reduceLE, Int.reduceEq, Int.reduceToNat, wrapS i (by omega)]
   rw [w51_1, b51_1]
   simp (config := { maxSteps := 10000000 }) +contextual only [exa, ne_eq, not_false_eq_true, Nat.reduceAdd, Nat.reduceMul, Nat.reduceLT, Nat.reduceLeDiff, Nat.reduceEqDiff, Int.reduceLT, Int.reduceLE, Int.reduceEq, Int.reduceToNat, z0, show ∀ r, (h.put (.im 0) (wkO s (mayV s x (deep + 1) c).2)).get (.own 4 r) = h.get (.own 4 r) from fun _ => rfl, ht, h3, oneOf]
theorem may_ok (s : ST) (hs : s.types.len < 4611686018427387904) : ∀ (m : Nat) (v : TT), SizeOf.sizeOf v < m → fitT v → MayOK s v := by
 intro m
 induction m with
 | zero => intro v h; omega
 | succ m ih =>
  intro v hz hf deep c hd hc
  obtain ⟨hf1, hf2, hf3⟩ := (fitT_eq v).1 hf
  refine (orc_none rfl).trans ?_
  show lim tab.get S 51 1 0 [kP (.im 0), kA v.row, kI (deep : Int)] { ims := [wkO s c], owns := .nil } = _
  rw [w51_0, b51_0, mayV_eq]
  by_cases h1 : 400 < c + 1
  ·have h2 : (400 : Int) < ((c + 1 : Nat) : Int) := by omega
   simp (config := { maxSteps := 10000000 }) +contextual only [exa, ne_eq, not_false_eq_true, Nat.reduceAdd, Nat.reduceMul, Nat.reduceLT, Nat.reduceLeDiff, Nat.reduceEqDiff, Int.reduceLT, Int.reduceLE, Int.reduceEq, Int.reduceToNat, wrapS c (by omega), h1, h2, if_true, oneOf]
  have h2 : ¬ (400 : Int) < ((c + 1 : Nat) : Int) := by omega
  by_cases h4 : 12 < deep
  ·have h4' : (12 : Int) < (deep : Int) := by omega
   simp (config := { maxSteps := 10000000 }) +contextual only [exa, ne_eq, not_false_eq_true, Nat.reduceAdd, Nat.reduceMul, Nat.reduceLT, Nat.reduceLeDiff, Nat.reduceEqDiff, Int.reduceLT, Int.reduceLE, Int.reduceEq, Int.reduceToNat, wrapS c (by omega), h1, h2, h4, h4', if_true, if_false, oneOf]
  have h4' : ¬ (12 : Int) < (deep : Int) := by omega
  simp (config := { maxSteps := 10000000 }) +contextual only [exa, ne_eq, not_false_eq_true, Nat.reduceAdd, Nat.reduceMul, Nat.reduceLT, Nat.reduceLeDiff, Nat.reduceEqDiff, Int.reduceLT, Int.reduceLE, Int.reduceEq, Int.reduceToNat, wrapS c (by omega), h1, h2, h4, h4', if_false, u109 s v hs hf1]
  by_cases h5 : ownM s.types.list v = 0
  ·rw [if_pos h5, h5]
   have := may_kids s v deep (by omega) hf2 (fun x hx => ih x (by have := TT.mem_size hx; omega) (hf3 x hx)) 0 (c + 1) ((({ ims := [wkO s c], owns := .nil } : Heap).own 4 1 (.cells (pcells v.row) 0)).put (.im 0) (wkO s (c + 1))) (by simp only [exa, ne_eq, not_false_eq_true, Nat.reduceAdd, Nat.reduceMul, Nat.reduceLT, Nat.reduceLeDiff, Nat.reduceEqDiff, Int.reduceLT, Int.reduceLE, Int.reduceEq, Int.reduceToNat]) (get_put_im _ 0 _ _ rfl) (by omega)
   rw [List.drop_zero] at this
   exact this
  ·rw [if_neg h5, w51_1, b51_1]
   simp (config := { maxSteps := 10000000 }) +contextual only [exa, ne_eq, not_false_eq_true, Nat.reduceAdd, Nat.reduceMul, Nat.reduceLT, Nat.reduceLeDiff, Nat.reduceEqDiff, Int.reduceLT, Int.reduceLE, Int.reduceEq, Int.reduceToNat, h5, oneOf]
end Go.Proofs.YtlkejchbcchecaaDoor.Ab
