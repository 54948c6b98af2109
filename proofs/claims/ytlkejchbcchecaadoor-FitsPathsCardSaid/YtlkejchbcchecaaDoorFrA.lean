/- Values are checked: the document's Check. -/
import Derived.Test.YtlkejchbcchecaaDoorTabPW
import Derived.Test.YtlkejchbcchecaaDoorVtA
set_option linter.all false
set_option linter.unusedVariables false
set_option linter.unusedSimpArgs false
set_option maxRecDepth 100000
namespace Go.Proofs.YtlkejchbcchecaaDoor.Ab
open Go Go.AI
noncomputable def S : Oracle := SI 183
noncomputable abbrev W : Mach := lim tab.get S
noncomputable abbrev Om : Oracle := orc S W
def cleanM (v : VT) : Bool := !(decide (v.kind < 0) || decide (5 < v.kind)) && ((((decide (v.kind = 1) || !v.b) && (decide (v.kind = 2) || decide (v.n = 0))) && (decide (v.kind = 3) || decide (v.s = []))) && (!decide (v.kind < 4) || decide ((v.l.len : Int) = 0)) && (decide (v.kind = 5) && decide ((v.keys.len : Int) = (v.l.len : Int)) || !decide (v.kind = 5) && decide ((v.keys.len : Int) = 0)))
theorem clean_ok (v : VT) : Om 112 [.v (.agg (pcells v.row))] [] = some (kB (cleanM v), []) := by
 refine (orc_none rfl).trans ?_
 show lim tab.get S 112 0 0 [.v (.agg (pcells v.row))] h0 = _
 rw [w112_0, b112_0]
 by_cases h : (decide (v.kind < 0) || decide (5 < v.kind)) = true
 ·simp (config := { maxSteps := 10000000 }) +contextual only [exa, ne_eq, not_false_eq_true, Nat.reduceAdd, Nat.reduceMul, Nat.reduceLT, Nat.reduceLeDiff, Nat.reduceEqDiff, Int.reduceLT, Int.reduceLE, Int.reduceEq, Int.reduceToNat, h]
  simp [cleanM, h, oneOf]
 ·simp (config := { maxSteps := 10000000 }) +contextual only [exa, ne_eq, not_false_eq_true, Nat.reduceAdd, Nat.reduceMul, Nat.reduceLT, Nat.reduceLeDiff, Nat.reduceEqDiff, Int.reduceLT, Int.reduceLE, Int.reduceEq, Int.reduceToNat, h]
  simp [cleanM, h, oneOf]
def longB (l : List (List UInt8)) : Bool := l.any fun s => decide (200 < s.length)
def ordB : List (List UInt8) → Bool
 | a :: b :: r => !(bless b a || b == a) && ordB (b :: r)
 | _ => true
mutual
def chkV : VT → Nat → Nat → Int × Nat
 | .mk k b n s ks l, deep, c =>
  if 2000 < c + 1 then (3, c + 1) else if cleanM (.mk k b n s ks l) = false then (1, c + 1) else if 12 < deep then (13, c + 1) else if 40 < l.len then (3, c + 1) else
  if 200 < s.length then (4, c + 1) else if longB ks.list then (4, c + 1) else if ordB ks.list = false then (6, c + 1) else chkS l (deep + 1) (c + 1)
def chkS : Sl VT → Nat → Nat → Int × Nat
 | .nil, _, c => (0, c)
 | .mk _ l, d, c => chkL l d c
def chkL : List VT → Nat → Nat → Int × Nat
 | [], _, c => (0, c)
 | v :: vs, d, c => if (chkV v d c).1 = 0 then chkL vs d (chkV v d c).2 else chkV v d c
end
theorem chkS_eq (l : Sl VT) (d c : Nat) : chkS l d c = chkL l.list d c := by cases l <;> simp [chkS, chkL, Sl.list]
theorem chkV_eq (v : VT) (deep c : Nat) : chkV v deep c = if 2000 < c + 1 then (3, c + 1) else if cleanM v = false then (1, c + 1) else if 12 < deep then (13, c + 1) else if 40 < v.l.len then (3, c + 1) else
  if 200 < v.s.length then (4, c + 1) else if longB v.keys.list then (4, c + 1) else if ordB v.keys.list = false then (6, c + 1) else chkL v.l.list (deep + 1) (c + 1) := by
 cases v with
 | mk k b n s ks l => rw [chkV, chkS_eq]; rfl
abbrev cntO (c : Nat) : AObj := .cells [.p (.int .i64 (c : Int))] 0
abbrev p4 (g : Nat) : TVal := .v (.c (.ptr (.own 4 g) 0))
/-- Loops that only look. -/
theorem chk_keys (v : VT) (x0 x2 : TVal) (g : Nat) (h : Heap) (hv : h.get (.own 4 g) = some (.cells (pcells v.row) 0)) (hl : v.keys.len < 4611686018427387904) :
  ∀ i : Nat, lim tab.get S 56 1 1 [x0, x2, p4 g, kI (i : Int)] h = if longB (v.keys.list.drop i) then vfin true 1 [.c (.p (.int .i64 4))] h else lim tab.get S 56 1 2 [x0, x2, p4 g] h := by
 refine loop_up v.keys.len (fun i hi => ?_) (fun i hi ih => ?_) <;> rw [w56_1, b56_1]
 ·have h1 : ¬ (i : Int) < (v.keys.len : Int) := by omega
  simp (config := { maxSteps := 10000000 }) +contextual only [exa, ne_eq, not_false_eq_true, Nat.reduceAdd, Nat.reduceMul, Nat.reduceLT, Nat.reduceLeDiff, Nat.reduceEqDiff, Int.reduceLT, Int.reduceLE, Int.reduceEq, Int.reduceToNat, hv, h1, at_end hi]
  rfl
 ·have h1 : (i : Int) < (v.keys.len : Int) := by omega
  obtain ⟨s, hs, h2, _⟩ := at_step hi
  by_cases h3 : 200 < s.length
  ·have h4 : (200 : Int) < (s.length : Int) := by omega
   simp (config := { maxSteps := 10000000 }) +contextual only [exa, ne_eq, not_false_eq_true, Nat.reduceAdd, Nat.reduceMul, Nat.reduceLT, Nat.reduceLeDiff, Nat.reduceEqDiff, Int.reduceLT, Int.reduceLE, Int.reduceEq, Int.reduceToNat, hv, h1, h2, hs, h4]
   simp [longB, h3]
  ·have h4 : ¬ (200 : Int) < (s.length : Int) := by omega
   simp (config := { maxSteps := 10000000 }) +contextual only [exa, ne_eq, not_false_eq_true, Nat.reduceAdd, Nat.reduceMul, Nat.reduceLT, Nat.reduceLeDiff, Nat.reduceEqDiff, Int.reduceLT, Int.reduceLE, Int.reduceEq, Int.reduceToNat, hv, h1, h2, hs, h4, wrapS i (by omega), ih]
   simp [longB, h3]
theorem chk_ord (v : VT) (x0 x2 : TVal) (g : Nat) (h : Heap) (hv : h.get (.own 4 g) = some (.cells (pcells v.row) 0)) (hl : v.keys.len < 4611686018427387904) :
  ∀ i : Nat, 1 ≤ i → lim tab.get S 56 1 3 [x0, x2, p4 g, kI (i : Int)] h = if ordB (v.keys.list.drop (i - 1)) then lim tab.get S 56 1 4 [x0, x2, p4 g] h else vfin true 1 [.c (.p (.int .i64 6))] h := by
 refine loop_up v.keys.len (fun i hi h0 => ?_) (fun i hi ih h0 => ?_) <;> rw [w56_3, b56_3]
 ·have h1 : ¬ (i : Int) < (v.keys.len : Int) := by omega
  have h2 : ordB (v.keys.list.drop (i - 1)) = true := by
   have hl1 : (v.keys.list.drop (i - 1)).length ≤ 1 := by rw [List.length_drop]; unfold Sl.len at hi; omega
   match v.keys.list.drop (i - 1), hl1 with
   | [], _ => rfl
   | [_], _ => rfl
  simp (config := { maxSteps := 10000000 }) +contextual only [exa, ne_eq, not_false_eq_true, Nat.reduceAdd, Nat.reduceMul, Nat.reduceLT, Nat.reduceLeDiff, Nat.reduceEqDiff, Int.reduceLT, Int.reduceLE, Int.reduceEq, Int.reduceToNat, hv, h1, h2]
  rfl
 ·have h1 : (i : Int) < (v.keys.len : Int) := by omega
  obtain ⟨s, hs, h2, _⟩ := at_step hi
  obtain ⟨t, ht, h3, _⟩ := at_step (l := v.keys.list) (i := i - 1) (by unfold Sl.len at hi; omega)
  rw [show i - 1 + 1 = i by omega, h2] at h3
  cases h4 : (bless s t || s == t)
  ·simp (config := { maxSteps := 10000000 }) +contextual only [exa, ne_eq, not_false_eq_true, Nat.reduceAdd, Nat.reduceMul, Nat.reduceLT, Nat.reduceLeDiff, Nat.reduceEqDiff, Int.reduceLT, Int.reduceLE, Int.reduceEq, Int.reduceToNat, hv, h1, h3, hs, ht, h4, wrapS i (by omega), wrapP i (by omega) h0, ih, ordB, Nat.add_sub_cancel, h2, Nat.le_add_left]
  ·simp (config := { maxSteps := 10000000 }) +contextual only [exa, ne_eq, not_false_eq_true, Nat.reduceAdd, Nat.reduceMul, Nat.reduceLT, Nat.reduceLeDiff, Nat.reduceEqDiff, Int.reduceLT, Int.reduceLE, Int.reduceEq, Int.reduceToNat, hv, h1, h3, hs, ht, h4, wrapP i (by omega) h0, ordB]
   rfl
abbrev kA (r : List PVal) : TVal := .v (.agg (pcells r))
abbrev kP (r : Ref) : TVal := .v (.c (.ptr r 0))
theorem chk_call {β : Type} {k : TVal → Heap → Option β} {h : Heap} {d : Nat} {v : VT} {deep c c' : Nat} {e : Int} (hc : Om 56 [kP (.im 0), kA v.row, kI (deep : Int)] [cntO c] = some (kI e, [cntO c'])) (r : Ref) (hg : h.get r = some (cntO c)) :
  vcall Om (.v (.c (.func 56 []))) [kP r, kA v.row, kI (deep : Int)] h d k = k (kI e) (h.put r (cntO c')) :=
 vcall_p 56 r 0 [] [kA v.row, kI (deep : Int)] (cntO c) (cntO c') _ rfl (by simp only [exP]) hg (plainO_1 _) (plainO_1 _) rfl hc
def ChkOK (v : VT) : Prop := ∀ (deep c : Nat), deep ≤ 13 → c ≤ 2000 → Om 56 [kP (.im 0), kA v.row, kI (deep : Int)] [cntO c] = some (kI (chkV v deep c).1, [cntO (chkV v deep c).2])
theorem chkV_c : ∀ (v : VT) (deep c : Nat), (chkV v deep c).1 = 0 → c ≤ 2000 → (chkV v deep c).2 ≤ 2000 := by
 have key : ∀ m, (∀ v : VT, SizeOf.sizeOf v < m → ∀ (deep c : Nat), (chkV v deep c).1 = 0 → c ≤ 2000 → (chkV v deep c).2 ≤ 2000) := by
  intro m
  induction m with
  | zero => intro v h; omega
  | succ m ih =>
   intro v h deep c h0 hc
   rw [chkV_eq] at h0 ⊢
   by_cases h1 : 2000 < c + 1
   ·rw [if_pos h1] at h0; cases h0
   rw [if_neg h1] at h0 ⊢
   split at h0; · cases h0
   split at h0; · cases h0
   split at h0; · cases h0
   split at h0; · cases h0
   split at h0; · cases h0
   split at h0; · cases h0
   rename_i h2 h3 h4 h5 h6 h7
   rw [if_neg h2, if_neg h3, if_neg h4, if_neg h5, if_neg h6, if_neg h7]
   have hl : ∀ (l : List VT), (∀ x ∈ l, SizeOf.sizeOf x < m) → ∀ d c, (chkL l d c).1 = 0 → c ≤ 2000 → (chkL l d c).2 ≤ 2000 := by
    intro l
    induction l with
    | nil => intro _ d c _ hc; simpa [chkL] using hc
    | cons x l ihl =>
     intro hm d c e hc
     unfold chkL at e ⊢
     by_cases hx : (chkV x d c).1 = 0
     ·rw [if_pos hx] at e ⊢
      exact ihl (fun y hy => hm y (by simp [hy])) d _ e (ih x (hm x (by simp)) d c hx hc)
     ·rw [if_neg hx] at e; exact absurd e hx
   exact hl _ (fun x hx => by have := VT.mem_size hx; omega) _ _ h0 (by omega)
 intro v
 exact key (SizeOf.sizeOf v + 1) v (by omega)
theorem chk_kids (v : VT) (deep : Nat) (g : Nat) (hd : deep ≤ 12) (hl : v.l.len ≤ 40) (ih : ∀ x ∈ v.l.list, ChkOK x) :
  ∀ (i c : Nat) (h : Heap), h.get (.own 4 g) = some (.cells (pcells v.row) 0) → h.get (.im 0) = some (cntO c) → c ≤ 2000 →
  lim tab.get S 56 1 5 [kP (.im 0), kI (deep : Int), p4 g, kI (i : Int)] h = some (kI (chkL (v.l.list.drop i) (deep + 1) c).1, [cntO (chkL (v.l.list.drop i) (deep + 1) c).2]) := by
 refine loop_up v.l.len (fun i hi c h hv hc hcl => ?_) (fun i hi ihl c h hv hc hcl => ?_) <;> rw [w56_5, b56_5]
 ·have h1 : ¬ (i : Int) < (v.l.len : Int) := by omega
  simp (config := { maxSteps := 10000000 }) +contextual only [exa, ne_eq, not_false_eq_true, Nat.reduceAdd, Nat.reduceMul, Nat.reduceLT, Nat.reduceLeDiff, Nat.reduceEqDiff, Int.reduceLT, Int.reduceLE, Int.reduceEq, Int.reduceToNat, hv, hc, h1, at_end hi]
  simp [chkL, oneOf]
 ·have h1 : (i : Int) < (v.l.len : Int) := by omega
  obtain ⟨x, hs, h2, hx⟩ := at_step hi
  simp (config := { maxSteps := 10000000 }) +contextual only [exa, ne_eq, not_false_eq_true, Nat.reduceAdd, Nat.reduceMul, Nat.reduceLT, Nat.reduceLeDiff, Nat.reduceEqDiff, Int.reduceLT, Int.reduceLE, Int.reduceEq, Int.reduceToNat, hv, hc, h1, hs, wrapS deep (by omega)]
  have hk := ih x hx (deep + 1) c (by omega) hcl
  rw [chk_call hk _ hc]
  rw [h2, chkL]
  by_cases h0 : (chkV x (deep + 1) c).1 = 0
  ·have h3 : (h.put (.im 0) (cntO (chkV x (deep + 1) c).2)).get (.im 0) = some (cntO (chkV x (deep + 1) c).2) := get_put_im h 0 _ _ (by rw [hc]; rfl)
   simp (config := { maxSteps := 10000000 }) +contextual only [exa, ne_eq, not_false_eq_true, Nat.reduceAdd, Nat.reduceMul, Nat.reduceLT, Nat.reduceLeDiff, Nat.reduceEqDiff, Int.reduceLT, Int.reduceLE, Int.reduceEq, Int.reduceToNat, h0, wrapS i (by omega)]
   exact ihl _ _ hv h3 (chkV_c _ _ _ h0 hcl)
  ·simp (config := { maxSteps := 10000000 }) +contextual only [exa, ne_eq, not_false_eq_true, Nat.reduceAdd, Nat.reduceMul, Nat.reduceLT, Nat.reduceLeDiff, Nat.reduceEqDiff, Int.reduceLT, Int.reduceLE, Int.reduceEq, Int.reduceToNat, h0, hc]
   simp [h0, oneOf]
theorem chk_ok : ∀ (m : Nat) (v : VT), SizeOf.sizeOf v < m → ChkOK v := by
 intro m
 induction m with
 | zero => intro v h; omega
 | succ m ih =>
  intro v hs deep c hd hc
  refine (orc_none rfl).trans ?_
  show lim tab.get S 56 1 0 [kP (.im 0), kA v.row, kI (deep : Int)] { ims := [cntO c], owns := .nil } = _
  have hcl := clean_ok v
  rw [w56_0, b56_0, chkV_eq]
  have cc : ∀ {β : Type} {k : TVal → Heap → Option β} {h : Heap} {d : Nat}, vcall Om (.v (.c (.func 112 []))) [kA v.row] h d k = k (kB (cleanM v)) h := vcall_pure 112 _ _ (by simp only [exP]) hcl rfl
  by_cases h1 : 2000 < c + 1
  ·have h2 : (2000 : Int) < ((c + 1 : Nat) : Int) := by omega
   simp (config := { maxSteps := 10000000 }) +contextual only [exa, ne_eq, not_false_eq_true, Nat.reduceAdd, Nat.reduceMul, Nat.reduceLT, Nat.reduceLeDiff, Nat.reduceEqDiff, Int.reduceLT, Int.reduceLE, Int.reduceEq, Int.reduceToNat, wrapS c (by omega), h1, h2]
   simp [oneOf]
  have h2 : ¬ (2000 : Int) < ((c + 1 : Nat) : Int) := by omega
  cases h3 : cleanM v
  ·simp (config := { maxSteps := 10000000 }) +contextual only [exa, ne_eq, not_false_eq_true, Nat.reduceAdd, Nat.reduceMul, Nat.reduceLT, Nat.reduceLeDiff, Nat.reduceEqDiff, Int.reduceLT, Int.reduceLE, Int.reduceEq, Int.reduceToNat, wrapS c (by omega), h1, h2, cc, h3]
   simp [oneOf]
  by_cases h4 : 12 < deep
  ·have h4' : (12 : Int) < (deep : Int) := by omega
   simp (config := { maxSteps := 10000000 }) +contextual only [exa, ne_eq, not_false_eq_true, Nat.reduceAdd, Nat.reduceMul, Nat.reduceLT, Nat.reduceLeDiff, Nat.reduceEqDiff, Int.reduceLT, Int.reduceLE, Int.reduceEq, Int.reduceToNat, wrapS c (by omega), h1, h2, cc, h3, h4, h4']
   simp [oneOf]
  have h4' : ¬ (12 : Int) < (deep : Int) := by omega
  by_cases h5 : 40 < v.l.len
  ·have h5' : (40 : Int) < (v.l.len : Int) := by omega
   simp (config := { maxSteps := 10000000 }) +contextual only [exa, ne_eq, not_false_eq_true, Nat.reduceAdd, Nat.reduceMul, Nat.reduceLT, Nat.reduceLeDiff, Nat.reduceEqDiff, Int.reduceLT, Int.reduceLE, Int.reduceEq, Int.reduceToNat, wrapS c (by omega), h1, h2, cc, h3, h4, h4', h5, h5']
   simp [oneOf]
  have h5' : ¬ (40 : Int) < (v.l.len : Int) := by omega
  by_cases h6 : 200 < v.s.length
  ·have h6' : (200 : Int) < (v.s.length : Int) := by omega
   simp (config := { maxSteps := 10000000 }) +contextual only [exa, ne_eq, not_false_eq_true, Nat.reduceAdd, Nat.reduceMul, Nat.reduceLT, Nat.reduceLeDiff, Nat.reduceEqDiff, Int.reduceLT, Int.reduceLE, Int.reduceEq, Int.reduceToNat, wrapS c (by omega), h1, h2, cc, h3, h4, h4', h5, h5', h6, h6']
   simp [oneOf]
  have h6' : ¬ (200 : Int) < (v.s.length : Int) := by omega
  simp (config := { maxSteps := 10000000 }) +contextual only [exa, ne_eq, not_false_eq_true, Nat.reduceAdd, Nat.reduceMul, Nat.reduceLT, Nat.reduceLeDiff, Nat.reduceEqDiff, Int.reduceLT, Int.reduceLE, Int.reduceEq, Int.reduceToNat, wrapS c (by omega), h1, h2, cc, h3, h4, h4', h5, h5', h6, h6']
  have hlk : v.keys.len ≤ 4000000000000000000 := by
   simp only [cleanM, Bool.and_eq_true, Bool.or_eq_true, decide_eq_true_eq, Bool.not_eq_true', decide_eq_false_iff_not] at h3
   have := h3.2
   omega
  have hv : ∀ (h : Heap) (d g : Nat) (o : AObj) (x : AObj), d + 1 < 1048576 → ((h.own d g (.cells (pcells v.row) 0)).put (.im 0) x).get (.own d g) = some (.cells (pcells v.row) 0) := fun h d g o x hd => own_getE h d g _ 0 hd
  have hi : ∀ (h : Heap), ((({ ims := [cntO c], owns := .nil } : Heap).own 4 1 (.cells (pcells v.row) 0)).put (.im 0) (cntO (c + 1))).get (.im 0) = some (cntO (c + 1)) := fun h => get_put_im _ 0 _ _ rfl
  refine (chk_keys v _ _ _ _ (hv _ _ _ (cntO 0) _ (by decide)) (by omega) 0).trans ?_
  rw [List.drop_zero]
  cases h7 : longB v.keys.list
  ·simp only [Bool.false_eq_true, if_false]
   rw [w56_2, b56_2]
   refine (chk_ord v _ _ _ _ (hv _ _ _ (cntO 0) _ (by decide)) (by omega) 1 (Nat.le_refl _)).trans ?_
   rw [Nat.sub_self, List.drop_zero]
   cases h8 : ordB v.keys.list
   ·simp (config := { maxSteps := 10000000 }) +contextual only [exa, ne_eq, not_false_eq_true, Nat.reduceAdd, Nat.reduceMul, Nat.reduceLT, Nat.reduceLeDiff, Nat.reduceEqDiff, Int.reduceLT, Int.reduceLE, Int.reduceEq, Int.reduceToNat, hi h0]
    simp [oneOf]
   ·simp only [if_true]
    rw [w56_4, b56_4]
    have := chk_kids v deep _ (by omega) (by omega) (fun x hx => ih x (by have := VT.mem_size hx; omega)) 0 (c + 1) _ (hv _ _ _ (cntO 0) _ (by decide)) (hi h0) (by omega)
    rw [List.drop_zero] at this
    exact this
  ·simp (config := { maxSteps := 10000000 }) +contextual only [exa, ne_eq, not_false_eq_true, Nat.reduceAdd, Nat.reduceMul, Nat.reduceLT, Nat.reduceLeDiff, Nat.reduceEqDiff, Int.reduceLT, Int.reduceLE, Int.reduceEq, Int.reduceToNat, hi h0]
   simp [oneOf]
theorem check_ok (v : VT) : Om 16 [kA v.row] [] = some (kI (chkV v 1 0).1, []) := by
 refine (orc_none rfl).trans ?_
 show lim tab.get S 16 0 0 [kA v.row] h0 = _
 have hk := chk_ok (SizeOf.sizeOf v + 1) v (by omega) 1 0 (by omega) (by omega)
 rw [w16_0, b16_0]
 simp (config := { maxSteps := 10000000 }) +contextual only [exa, ne_eq, not_false_eq_true, Nat.reduceAdd, Nat.reduceMul, Nat.reduceLT, Nat.reduceLeDiff, Nat.reduceEqDiff, Int.reduceLT, Int.reduceLE, Int.reduceEq, Int.reduceToNat]
 refine (chk_call hk _ (Heap.own_get _ _ _ _ (by decide) (fun e => by cases e))).trans ?_
 simp (config := { maxSteps := 10000000 }) +contextual only [exa, ne_eq, not_false_eq_true, Nat.reduceAdd, Nat.reduceMul, Nat.reduceLT, Nat.reduceLeDiff, Nat.reduceEqDiff, Int.reduceLT, Int.reduceLE, Int.reduceEq, Int.reduceToNat, oneOf]
end Go.Proofs.YtlkejchbcchecaaDoor.Ab
