/- The rules, the contracts, the plain laws that lead to the statement. Own work. Condition: what each theorem names. -/
import Derived.Test.YtlkejchbcchecaaDoorTabXW
import Derived.Test.YtlkejchbcchecaaDoorV0
import Derived.Lib.ItoaNum
set_option linter.all false
set_option linter.unusedVariables false
set_option linter.unusedSimpArgs false
set_option linter.unusedSectionVars false
set_option maxRecDepth 100000
open Nat (reduceAdd reduceMul reduceLT reduceLeDiff reduceEqDiff)
namespace Go.Proofs.YtlkejchbcchecaaDoor.Ab
open Go Go.AI
noncomputable def S : Oracle := SI 183
noncomputable abbrev W : Mach := lim tab.get S
noncomputable abbrev Om : Oracle := orc S W
abbrev CAL (f : FuncId) (l : List TVal) (v : TVal) : Prop := ∀ {β : Type} {k : TVal → Heap → Option β} {h : Heap} {d : Nat}, vcall Om (.v (.c (.func f []))) l h d k = k v h
abbrev kA (r : List PVal) : TVal := .v (.agg (pcells r))
abbrev kP (r : Ref) : TVal := .v (.c (.ptr r 0))
open Go Go.AI
def cleanM (v : VT) : Bool := !(decide (v.kind < 0) || decide (5 < v.kind)) && ((((decide (v.kind = 1) || !v.b) && (decide (v.kind = 2) || decide (v.n = 0))) && (decide (v.kind = 3) || decide (v.s = []))) && (!decide (v.kind < 4) || decide ((v.l.len : Int) = 0)) && (decide (v.kind = 5) && decide ((v.keys.len : Int) = (v.l.len : Int)) || !decide (v.kind = 5) && decide ((v.keys.len : Int) = 0)))
theorem qI3 (v : VT) : Om 112 [.v (.agg (pcells v.row))] [] = some (kB (cleanM v), []) := by
 refine (qAE rfl).trans ?_
 show lim tab.get S 112 0 0 [.v (.agg (pcells v.row))] h0 = _
 rw [w112_0, b112_0]
 by_cases h : (decide (v.kind < 0) || decide (5 < v.kind)) = true
 ·simp (maxSteps := 9999999) +contextual only [exa, ne_eq, not_false_eq_true, reduceAdd, reduceMul, reduceLT, reduceLeDiff, reduceEqDiff, Int.reduceLT, Int.reduceLE, Int.reduceEq, Int.reduceToNat, h]
  simp [cleanM, h, oneOf]
 ·simp (maxSteps := 9999999) +contextual only [exa, ne_eq, not_false_eq_true, reduceAdd, reduceMul, reduceLT, reduceLeDiff, reduceEqDiff, Int.reduceLT, Int.reduceLE, Int.reduceEq, Int.reduceToNat, h]
  simp [cleanM, h, oneOf]
def longB (l : List (List UInt8)) : Bool := l.any fun s => decide (200 < s.length)
def ordB : List (List UInt8) → Bool
 | a :: b :: r => !(bless b a || b == a) && ordB (b :: r)
 | _ => true
mutual
def chkV : VT → Nat → Nat → Int × Nat
 | .mk k b n s ks l, deep, c =>
  if 2000 < c + 1 then (3, c + 1) else if cleanM (.mk k b n s ks l) = false then (1, c + 1) else if 12 < deep then (13, c + 1) else if 40 < l.len then (3, c + 1) else
  if 200 < s.length then (4, c + 1) else if longB ks.list then (4, c + 1) else if ordB ks.list = false then (6, c + 1) else chkS l (deep + 1) (c + 1)
def chkS : Sl VT → Nat → Nat → Int × Nat
 | .nil, _, c => (0, c)
 | .mk _ l, d, c => chkL l d c
def chkL : List VT → Nat → Nat → Int × Nat
 | [], _, c => (0, c)
 | v :: vs, d, c => if (chkV v d c).1 = 0 then chkL vs d (chkV v d c).2 else chkV v d c
end
theorem qKx (l : Sl VT) (d c : Nat) : chkS l d c = chkL l.list d c := by cases l <;> simp [chkS, chkL, Sl.list]
theorem qD0 (v : VT) (deep c : Nat) : chkV v deep c = if 2000 < c + 1 then (3, c + 1) else if cleanM v = false then (1, c + 1) else if 12 < deep then (13, c + 1) else if 40 < v.l.len then (3, c + 1) else
  if 200 < v.s.length then (4, c + 1) else if longB v.keys.list then (4, c + 1) else if ordB v.keys.list = false then (6, c + 1) else chkL v.l.list (deep + 1) (c + 1) := by
 cases v with
 | mk k b n s ks l => rw [chkV, qKx]; rfl
abbrev cntO (c : Nat) : AObj := .cells [.p (.int .i64 (c : Int))] 0
abbrev p4 (g : Nat) : TVal := .v (.c (.ptr (.own 4 g) 0))
theorem qIn (v : VT) (x0 x2 : TVal) (g : Nat) (h : Heap) (hv : h.get (.own 4 g) = some (.cells (pcells v.row) 0)) (hl : v.keys.len < 4611686018427387904) :
  ∀ i : Nat, lim tab.get S 56 1 1 [x0, x2, p4 g, kI (i : Int)] h = if longB (v.keys.list.drop i) then vfin true 1 [.c (.p (.int .i64 4))] h else lim tab.get S 56 1 2 [x0, x2, p4 g] h := by
 refine qBg v.keys.len (fun i hi => ?_) (fun i hi ih => ?_) <;> rw [w56_1, b56_1]
 ·have h1 : ¬ (i : Int) < (v.keys.len : Int) := by omega
  simp (maxSteps := 9999999) +contextual only [exa, ne_eq, not_false_eq_true, reduceAdd, reduceMul, reduceLT, reduceLeDiff, reduceEqDiff, Int.reduceLT, Int.reduceLE, Int.reduceEq, Int.reduceToNat, hv, h1, qDK hi]
  rfl
 ·have h1 : (i : Int) < (v.keys.len : Int) := by omega
  obtain ⟨s, hs, h2, _⟩ := qAz hi
  by_cases h3 : 200 < s.length
  ·have h4 : (200 : Int) < (s.length : Int) := by omega
   simp (maxSteps := 9999999) +contextual only [exa, ne_eq, not_false_eq_true, reduceAdd, reduceMul, reduceLT, reduceLeDiff, reduceEqDiff, Int.reduceLT, Int.reduceLE, Int.reduceEq, Int.reduceToNat, hv, h1, h2, hs, h4]
   simp [longB, h3]
  ·have h4 : ¬ (200 : Int) < (s.length : Int) := by omega
   simp (maxSteps := 9999999) +contextual only [exa, ne_eq, not_false_eq_true, reduceAdd, reduceMul, reduceLT, reduceLeDiff, reduceEqDiff, Int.reduceLT, Int.reduceLE, Int.reduceEq, Int.reduceToNat, hv, h1, h2, hs, h4, qAm i (by omega), ih]
   simp [longB, h3]
theorem qKN (v : VT) (x0 x2 : TVal) (g : Nat) (h : Heap) (hv : h.get (.own 4 g) = some (.cells (pcells v.row) 0)) (hl : v.keys.len < 4611686018427387904) :
  ∀ i : Nat, 1 ≤ i → lim tab.get S 56 1 3 [x0, x2, p4 g, kI (i : Int)] h = if ordB (v.keys.list.drop (i - 1)) then lim tab.get S 56 1 4 [x0, x2, p4 g] h else vfin true 1 [.c (.p (.int .i64 6))] h := by
 refine qBg v.keys.len (fun i hi h0 => ?_) (fun i hi ih h0 => ?_) <;> rw [w56_3, b56_3]
 ·have h1 : ¬ (i : Int) < (v.keys.len : Int) := by omega
  have h2 : ordB (v.keys.list.drop (i - 1)) = true := by
   have hl1 : (v.keys.list.drop (i - 1)).length ≤ 1 := by rw [List.length_drop]; unfold Sl.len at hi; omega
   match v.keys.list.drop (i - 1), hl1 with
   | [], _ => rfl
   | [_], _ => rfl
  simp (maxSteps := 9999999) +contextual only [exa, ne_eq, not_false_eq_true, reduceAdd, reduceMul, reduceLT, reduceLeDiff, reduceEqDiff, Int.reduceLT, Int.reduceLE, Int.reduceEq, Int.reduceToNat, hv, h1, h2]
  rfl
 ·have h1 : (i : Int) < (v.keys.len : Int) := by omega
  obtain ⟨s, hs, h2, _⟩ := qAz hi
  obtain ⟨t, ht, h3, _⟩ := qAz (l := v.keys.list) (i := i - 1) (by unfold Sl.len at hi; omega)
  rw [show i - 1 + 1 = i by omega, h2] at h3
  cases h4 : (bless s t || s == t)
  ·simp (maxSteps := 9999999) +contextual only [exa, ne_eq, not_false_eq_true, reduceAdd, reduceMul, reduceLT, reduceLeDiff, reduceEqDiff, Int.reduceLT, Int.reduceLE, Int.reduceEq, Int.reduceToNat, hv, h1, h3, hs, ht, h4, qAm i (by omega), qKI i (by omega) h0, ih, ordB, Nat.add_sub_cancel, h2, Nat.le_add_left]
  ·simp (maxSteps := 9999999) +contextual only [exa, ne_eq, not_false_eq_true, reduceAdd, reduceMul, reduceLT, reduceLeDiff, reduceEqDiff, Int.reduceLT, Int.reduceLE, Int.reduceEq, Int.reduceToNat, hv, h1, h3, hs, ht, h4, qKI i (by omega) h0, ordB]
   rfl
theorem qEm {β : Type} {k : TVal → Heap → Option β} {h : Heap} {d : Nat} {v : VT} {deep c c' : Nat} {e : Int} (hc : Om 56 [kP (.im 0), kA v.row, kI (deep : Int)] [cntO c] = some (kI e, [cntO c'])) (r : Ref) (hg : h.get r = some (cntO c)) :
  vcall Om (.v (.c (.func 56 []))) [kP r, kA v.row, kI (deep : Int)] h d k = k (kI e) (h.put r (cntO c')) :=
 qB2 56 r 0 [] [kA v.row, kI (deep : Int)] (cntO c) (cntO c') _ rfl (by simp only [exP]) hg (qFC _) (qFC _) rfl hc
def ChkOK (v : VT) : Prop := ∀ (deep c : Nat), deep ≤ 13 → c ≤ 2000 → Om 56 [kP (.im 0), kA v.row, kI (deep : Int)] [cntO c] = some (kI (chkV v deep c).1, [cntO (chkV v deep c).2])
theorem qLn : ∀ (v : VT) (deep c : Nat), (chkV v deep c).1 = 0 → c ≤ 2000 → (chkV v deep c).2 ≤ 2000 := by
 have key : ∀ m, (∀ v : VT, SizeOf.sizeOf v < m → ∀ (deep c : Nat), (chkV v deep c).1 = 0 → c ≤ 2000 → (chkV v deep c).2 ≤ 2000) := by
  intro m
  induction m with
  | zero => intro v h; omega
  | succ m ih =>
   intro v h deep c h0 hc
   rw [qD0] at h0 ⊢
   by_cases h1 : 2000 < c + 1
   ·rw [if_pos h1] at h0; cases h0
   rw [if_neg h1] at h0 ⊢
   split at h0; · cases h0
   split at h0; · cases h0
   split at h0; · cases h0
   split at h0; · cases h0
   split at h0; · cases h0
   split at h0; · cases h0
   rename_i h2 h3 h4 h5 h6 h7
   rw [if_neg h2, if_neg h3, if_neg h4, if_neg h5, if_neg h6, if_neg h7]
   have hl : ∀ (l : List VT), (∀ x ∈ l, SizeOf.sizeOf x < m) → ∀ d c, (chkL l d c).1 = 0 → c ≤ 2000 → (chkL l d c).2 ≤ 2000 := by
    intro l
    induction l with
    | nil => intro _ d c _ hc; simpa [chkL] using hc
    | cons x l ihl =>
     intro hm d c e hc
     unfold chkL at e ⊢
     by_cases hx : (chkV x d c).1 = 0
     ·rw [if_pos hx] at e ⊢
      exact ihl (fun y hy => hm y (by simp [hy])) d _ e (ih x (hm x (by simp)) d c hx hc)
     ·rw [if_neg hx] at e; exact absurd e hx
   exact hl _ (fun x hx => by have := VT.mem_size hx; omega) _ _ h0 (by omega)
 intro v
 exact key (SizeOf.sizeOf v + 1) v (by omega)
theorem qJi (v : VT) (deep : Nat) (g : Nat) (hd : deep ≤ 12) (hl : v.l.len ≤ 40) (ih : ∀ x ∈ v.l.list, ChkOK x) :
  ∀ (i c : Nat) (h : Heap), h.get (.own 4 g) = some (.cells (pcells v.row) 0) → h.get (.im 0) = some (cntO c) → c ≤ 2000 →
  lim tab.get S 56 1 5 [kP (.im 0), kI (deep : Int), p4 g, kI (i : Int)] h = some (kI (chkL (v.l.list.drop i) (deep + 1) c).1, [cntO (chkL (v.l.list.drop i) (deep + 1) c).2]) := by
 refine qBg v.l.len (fun i hi c h hv hc hcl => ?_) (fun i hi ihl c h hv hc hcl => ?_) <;> rw [w56_5, b56_5]
 ·have h1 : ¬ (i : Int) < (v.l.len : Int) := by omega
  simp (maxSteps := 9999999) +contextual only [exa, ne_eq, not_false_eq_true, reduceAdd, reduceMul, reduceLT, reduceLeDiff, reduceEqDiff, Int.reduceLT, Int.reduceLE, Int.reduceEq, Int.reduceToNat, hv, hc, h1, qDK hi]
  simp [chkL, oneOf]
 ·have h1 : (i : Int) < (v.l.len : Int) := by omega
  obtain ⟨x, hs, h2, hx⟩ := qAz hi
  simp (maxSteps := 9999999) +contextual only [exa, ne_eq, not_false_eq_true, reduceAdd, reduceMul, reduceLT, reduceLeDiff, reduceEqDiff, Int.reduceLT, Int.reduceLE, Int.reduceEq, Int.reduceToNat, hv, hc, h1, hs, qAm deep (by omega)]
  have hk := ih x hx (deep + 1) c (by omega) hcl
  rw [qEm hk _ hc]
  rw [h2, chkL]
  by_cases h0 : (chkV x (deep + 1) c).1 = 0
  ·have h3 : (h.put (.im 0) (cntO (chkV x (deep + 1) c).2)).get (.im 0) = some (cntO (chkV x (deep + 1) c).2) := qAK h 0 _ _ (by rw [hc]; rfl)
   simp (maxSteps := 9999999) +contextual only [exa, ne_eq, not_false_eq_true, reduceAdd, reduceMul, reduceLT, reduceLeDiff, reduceEqDiff, Int.reduceLT, Int.reduceLE, Int.reduceEq, Int.reduceToNat, h0, qAm i (by omega)]
   exact ihl _ _ hv h3 (qLn _ _ _ h0 hcl)
  ·simp (maxSteps := 9999999) +contextual only [exa, ne_eq, not_false_eq_true, reduceAdd, reduceMul, reduceLT, reduceLeDiff, reduceEqDiff, Int.reduceLT, Int.reduceLE, Int.reduceEq, Int.reduceToNat, h0, hc]
   simp [h0, oneOf]
theorem qLh : ∀ (m : Nat) (v : VT), SizeOf.sizeOf v < m → ChkOK v := by
 intro m
 induction m with
 | zero => intro v h; omega
 | succ m ih =>
  intro v hs deep c hd hc
  refine (qAE rfl).trans ?_
  show lim tab.get S 56 1 0 [kP (.im 0), kA v.row, kI (deep : Int)] { ims := [cntO c], owns := .nil } = _
  have hcl := qI3 v
  rw [w56_0, b56_0, qD0]
  have cc : CAL 112 [kA v.row] (kB (cleanM v)) := qAD 112 _ _ (by simp only [exP]) hcl rfl
  by_cases h1 : 2000 < c + 1
  ·have h2 : (2000 : Int) < ((c + 1 : Nat) : Int) := by omega
   simp (maxSteps := 9999999) +contextual only [exa, ne_eq, not_false_eq_true, reduceAdd, reduceMul, reduceLT, reduceLeDiff, reduceEqDiff, Int.reduceLT, Int.reduceLE, Int.reduceEq, Int.reduceToNat, qAm c (by omega), h1, h2]
   simp [oneOf]
  have h2 : ¬ (2000 : Int) < ((c + 1 : Nat) : Int) := by omega
  cases h3 : cleanM v
  ·simp (maxSteps := 9999999) +contextual only [exa, ne_eq, not_false_eq_true, reduceAdd, reduceMul, reduceLT, reduceLeDiff, reduceEqDiff, Int.reduceLT, Int.reduceLE, Int.reduceEq, Int.reduceToNat, qAm c (by omega), h1, h2, cc, h3]
   simp [oneOf]
  by_cases h4 : 12 < deep
  ·have h4' : (12 : Int) < (deep : Int) := by omega
   simp (maxSteps := 9999999) +contextual only [exa, ne_eq, not_false_eq_true, reduceAdd, reduceMul, reduceLT, reduceLeDiff, reduceEqDiff, Int.reduceLT, Int.reduceLE, Int.reduceEq, Int.reduceToNat, qAm c (by omega), h1, h2, cc, h3, h4, h4']
   simp [oneOf]
  have h4' : ¬ (12 : Int) < (deep : Int) := by omega
  by_cases h5 : 40 < v.l.len
  ·have h5' : (40 : Int) < (v.l.len : Int) := by omega
   simp (maxSteps := 9999999) +contextual only [exa, ne_eq, not_false_eq_true, reduceAdd, reduceMul, reduceLT, reduceLeDiff, reduceEqDiff, Int.reduceLT, Int.reduceLE, Int.reduceEq, Int.reduceToNat, qAm c (by omega), h1, h2, cc, h3, h4, h4', h5, h5']
   simp [oneOf]
  have h5' : ¬ (40 : Int) < (v.l.len : Int) := by omega
  by_cases h6 : 200 < v.s.length
  ·have h6' : (200 : Int) < (v.s.length : Int) := by omega
   simp (maxSteps := 9999999) +contextual only [exa, ne_eq, not_false_eq_true, reduceAdd, reduceMul, reduceLT, reduceLeDiff, reduceEqDiff, Int.reduceLT, Int.reduceLE, Int.reduceEq, Int.reduceToNat, qAm c (by omega), h1, h2, cc, h3, h4, h4', h5, h5', h6, h6']
   simp [oneOf]
  have h6' : ¬ (200 : Int) < (v.s.length : Int) := by omega
  simp (maxSteps := 9999999) +contextual only [exa, ne_eq, not_false_eq_true, reduceAdd, reduceMul, reduceLT, reduceLeDiff, reduceEqDiff, Int.reduceLT, Int.reduceLE, Int.reduceEq, Int.reduceToNat, qAm c (by omega), h1, h2, cc, h3, h4, h4', h5, h5', h6, h6']
  have hlk : v.keys.len ≤ 4000000000000000000 := by
   simp only [cleanM, Bool.and_eq_true, Bool.or_eq_true, decide_eq_true_eq, Bool.not_eq_true', decide_eq_false_iff_not] at h3
   have := h3.2
   omega
  have hv : ∀ (h : Heap) (d g : Nat) (o : AObj) (x : AObj), d + 1 < 1048576 → ((h.own d g (.cells (pcells v.row) 0)).put (.im 0) x).get (.own d g) = some (.cells (pcells v.row) 0) := fun h d g o x hd => qAk h d g _ 0 hd
  have hi : ∀ (h : Heap), ((({ ims := [cntO c], owns := .nil } : Heap).own 4 1 (.cells (pcells v.row) 0)).put (.im 0) (cntO (c + 1))).get (.im 0) = some (cntO (c + 1)) := fun h => qAK _ 0 _ _ rfl
  refine (qIn v _ _ _ _ (hv _ _ _ (cntO 0) _ (by decide)) (by omega) 0).trans ?_
  rw [List.drop_zero]
  cases h7 : longB v.keys.list
  ·simp only [Bool.false_eq_true, if_false]
   rw [w56_2, b56_2]
   refine (qKN v _ _ _ _ (hv _ _ _ (cntO 0) _ (by decide)) (by omega) 1 (Nat.le_refl _)).trans ?_
   rw [Nat.sub_self, List.drop_zero]
   cases h8 : ordB v.keys.list
   ·simp (maxSteps := 9999999) +contextual only [exa, ne_eq, not_false_eq_true, reduceAdd, reduceMul, reduceLT, reduceLeDiff, reduceEqDiff, Int.reduceLT, Int.reduceLE, Int.reduceEq, Int.reduceToNat, hi h0]
    simp [oneOf]
   ·simp only [if_true]
    rw [w56_4, b56_4]
    have := qJi v deep _ (by omega) (by omega) (fun x hx => ih x (by have := VT.mem_size hx; omega)) 0 (c + 1) _ (hv _ _ _ (cntO 0) _ (by decide)) (hi h0) (by omega)
    rw [List.drop_zero] at this
    exact this
  ·simp (maxSteps := 9999999) +contextual only [exa, ne_eq, not_false_eq_true, reduceAdd, reduceMul, reduceLT, reduceLeDiff, reduceEqDiff, Int.reduceLT, Int.reduceLE, Int.reduceEq, Int.reduceToNat, hi h0]
   simp [oneOf]
theorem qKC (v : VT) : Om 16 [kA v.row] [] = some (kI (chkV v 1 0).1, []) := by
 refine (qAE rfl).trans ?_
 show lim tab.get S 16 0 0 [kA v.row] h0 = _
 have hk := qLh (SizeOf.sizeOf v + 1) v (by omega) 1 0 (by omega) (by omega)
 rw [w16_0, b16_0]
 simp (maxSteps := 9999999) +contextual only [exa, ne_eq, not_false_eq_true, reduceAdd, reduceMul, reduceLT, reduceLeDiff, reduceEqDiff, Int.reduceLT, Int.reduceLE, Int.reduceEq, Int.reduceToNat]
 refine (qEm hk _ (Heap.own_get _ _ _ _ (by decide) (fun e => by cases e))).trans ?_
 simp (maxSteps := 9999999) +contextual only [exa, ne_eq, not_false_eq_true, reduceAdd, reduceMul, reduceLT, reduceLeDiff, reduceEqDiff, Int.reduceLT, Int.reduceLE, Int.reduceEq, Int.reduceToNat, oneOf]
open Go Go.AI
open Go Go.AI
open Go Go.AI
def v0 (k : Int) : VT := .mk k false 0 [] .nil .nil
open Go Go.AI
abbrev q2 : TVal := .v (.c (.ptr (.own 2 1) 0))
abbrev q4 : TVal := .v (.c (.ptr (.own 4 1) 0))
abbrev q6 : TVal := .v (.c (.ptr (.own 6 1) 0))
abbrev z6 : List Cell := [.p (.int .i64 0), .p (.bool false), .p (.int .i64 0), .p (.str []), .p .nilslice, .p .nilslice]
structure GoodH (r : RT) (cs : List Cell) (h : Heap) : Prop where
 a2 : h.get (.own 2 1) = some (.cells (pcells r.row) 0)
 a4 : h.get (.own 4 1) = some (.cells z6 0)
 a6 : h.get (.own 6 1) = some (.cells cs 0)
theorem GoodH.put {r : RT} {cs : List Cell} {h : Heap} (H : GoodH r cs h) (cs' : List Cell) : GoodH r cs' (h.own 6 1 (.cells cs' 0)) :=
 ⟨(Heap.own_get_ne h 6 1 _ 2 1 (by decide)).trans H.a2, (Heap.own_get_ne h 6 1 _ 4 1 (by decide)).trans H.a4, qAk h 6 1 _ 0 (by decide)⟩
open Go Go.AI
open Go Go.AI
theorem qAO (r : List PVal) (hr : r.length = 6) : put1 [.p (.int .i64 0), .p (.bool false), .p (.int .i64 0), .p (.str []), .p .nilslice, .p .nilslice] 0 (pcells r) = pcells r := qE3 _ _ (by rw [qCG, hr]; rfl)
abbrev s2 : TVal := .v (.c (.ptr (.own 2 1) 0))
open Go Go.AI
def areM : List VT → List Int → Bool
 | v :: l, k :: ks => if v.kind = k then areM l ks else false
 | _, _ => true
theorem qKA (t : Bool) (l : List VT) (ks : List Int) (hl : ks.length ≤ l.length) (hb : l.length ≤ 1000) (h : Heap) :
  ∀ i : Nat, lim tab.get S 92 0 1 [kSl 6 t (l.map VT.row), kSl 1 true (ks.map iRow), kI (ks.length : Int), kI (i : Int)] h = some (kB (areM (l.drop i) (ks.drop i)), []) := by
 refine qBg ks.length (fun i hi => ?_) (fun i hi ih => ?_) <;> rw [w92_1, b92_1]
 ·have h1 : ¬ (i : Int) < (ks.length : Int) := by omega
  rw [qDK hi]
  simp (maxSteps := 9999999) +contextual only [exa, ne_eq, not_false_eq_true, reduceAdd, reduceMul, reduceLT, reduceLeDiff, reduceEqDiff, Int.reduceLT, Int.reduceLE, Int.reduceEq, Int.reduceToNat, h1, oneOf]
  cases l.drop i <;> rfl
 ·have h1 : (i : Int) < (ks.length : Int) := by omega
  obtain ⟨c, hc, e1, _⟩ := qAz hi
  obtain ⟨v, hv, e2, _⟩ := qAz (l := l) (i := i) (by omega)
  have m1 : (l.map VT.row)[i]? = some v.row := by rw [List.getElem?_map, hv]; rfl
  have m2 : (ks.map iRow)[i]? = some (iRow c) := by rw [List.getElem?_map, hc]; rfl
  rw [e1, e2, areM]
  by_cases hk : v.kind = c
  ·simp (maxSteps := 9999999) +contextual only [exa, ne_eq, not_false_eq_true, reduceAdd, reduceMul, reduceLT, reduceLeDiff, reduceEqDiff, Int.reduceLT, Int.reduceLE, Int.reduceEq, Int.reduceToNat, h1, m1, m2, hk, qAm i (by omega), ih, if_true]
  ·simp (maxSteps := 9999999) +contextual only [exa, ne_eq, not_false_eq_true, reduceAdd, reduceMul, reduceLT, reduceLeDiff, reduceEqDiff, Int.reduceLT, Int.reduceLE, Int.reduceEq, Int.reduceToNat, h1, m1, m2, hk, oneOf, if_false]
theorem qMA (t : Bool) (l : List VT) (ks : List Int) (hl : ks.length ≤ l.length) (hb : l.length ≤ 1000) : Om 92 [kSl 6 t (l.map VT.row), kSl 1 true (ks.map iRow)] [] = some (kB (areM l ks), []) := by
 refine (qAE rfl).trans ?_
 show lim tab.get S 92 0 0 [kSl 6 t (l.map VT.row), kSl 1 true (ks.map iRow)] h0 = _
 rw [w92_0, b92_0]
 simp (maxSteps := 9999999) +contextual only [exa, ne_eq, not_false_eq_true, reduceAdd, reduceMul, reduceLT, reduceLeDiff, reduceEqDiff, Int.reduceLT, Int.reduceLE, Int.reduceEq, Int.reduceToNat, List.length_map]
 exact qKA t l ks hl hb h0 0
theorem qJr {β : Type} {k : TVal → Heap → Option β} {h : Heap} {d : Nat} (t : Bool) (a b : VT) (p q : Int) : vcall Om (.v (.c (.func 92 []))) [kSl 6 t [a.row, b.row], kSl 1 true [[.int .i64 p], [.int .i64 q]]] h d k = k (kB (decide (a.kind = p) && decide (b.kind = q))) h := by
 refine (qAD 92 [kSl 6 t [a.row, b.row], kSl 1 true [[.int .i64 p], [.int .i64 q]]] _ rfl (qMA t [a, b] [p, q] (Nat.le_refl _) (by show 2 ≤ 1000; decide)) rfl).trans ?_
 by_cases h1 : a.kind = p <;> by_cases h2 : b.kind = q <;> simp [areM, h1, h2]
def ansE (p : VT × Int) : TVal := .tup [.agg (pcells p.1.row), .c (.p (.int .i64 p.2))]
theorem qEc : ((1 : Nat) : Int) = 1 := rfl
theorem qEb : ((2 : Nat) : Int) = 2 := rfl
abbrev n_len : List UInt8 := [108, 101, 110]
abbrev n_cat : List UInt8 := [99, 97, 116]
abbrev n_text : List UInt8 := [116, 101, 120, 116]
theorem qKk : Om 36 [] [] = some (kB true, []) := (qAE rfl).trans (qAa blks_ok 500 36 0 0 _ _ _ (by kernel_rfl))
open Go Go.AI
open Go Go.AI
def numV (n : Int) : VT := .mk 2 false n [] .nil .nil
def txtV (s : List UInt8) : VT := .mk 3 false 0 s .nil .nil
theorem qDm (a : List PVal) : [a][(0 : Int).toNat]? = some a := rfl
theorem qB4 (a b : List PVal) : [a, b][(0 : Int).toNat]? = some a := rfl
theorem qB7 (a b : List PVal) : [a, b][(1 : Int).toNat]? = some b := rfl
theorem qHW (n : Int) : Om 150 [kI n] [] = some (kA (numV n).row, []) := by
 refine (qAE rfl).trans ?_
 show lim tab.get S 150 0 0 [kI n] h0 = _
 rw [w150_0, b150_0]
 simp (maxSteps := 9999999) +contextual only [exa, ne_eq, not_false_eq_true, reduceAdd, reduceMul, reduceLT, reduceLeDiff, reduceEqDiff, Int.reduceLT, Int.reduceLE, Int.reduceEq, Int.reduceToNat]
 rfl
theorem qJp {β : Type} {k : TVal → Heap → Option β} {h : Heap} {d : Nat} (n : Int) : vcall Om (.v (.c (.func 150 []))) [kI n] h d k = k (kA (numV n).row) h := qAD 150 _ _ rfl (qHW n) (by simp only [exP])
theorem qKT (s : List UInt8) : Om 153 [kS s] [] = some (kA (txtV s).row, []) := by
 refine (qAE rfl).trans ?_
 show lim tab.get S 153 0 0 [kS s] h0 = _
 rw [w153_0, b153_0]
 simp (maxSteps := 9999999) +contextual only [exa, ne_eq, not_false_eq_true, reduceAdd, reduceMul, reduceLT, reduceLeDiff, reduceEqDiff, Int.reduceLT, Int.reduceLE, Int.reduceEq, Int.reduceToNat]
 rfl
theorem qJO {β : Type} {k : TVal → Heap → Option β} {h : Heap} {d : Nat} (s : List UInt8) : vcall Om (.v (.c (.func 153 []))) [kS s] h d k = k (kA (txtV s).row) h := qAD 153 _ _ rfl (qKT s) (by simp only [exP])
def lenM (v : VT) : VT × Int := if v.kind = 3 then (numV v.s.length, 0) else if v.kind = 4 then (numV v.l.len, 0) else if v.kind = 5 then (numV v.l.len, 0) else (VT.nul, 17)
theorem qKr (v : VT) : Om 86 [kA v.row] [] = some (ansE (lenM v), []) := by
 refine (qAE rfl).trans ?_
 show lim tab.get S 86 0 0 [kA v.row] h0 = _
 rw [w86_0, b86_0]
 unfold lenM
 by_cases h3 : v.kind = 3
 ·rw [if_pos h3]
  simp (maxSteps := 9999999) +contextual only [exa, ne_eq, not_false_eq_true, reduceAdd, reduceMul, reduceLT, reduceLeDiff, reduceEqDiff, Int.reduceLT, Int.reduceLE, Int.reduceEq, Int.reduceToNat, h3, qJp, qAO _ (VT.row_len (numV _))]
  rfl
 rw [if_neg h3]
 by_cases h4 : v.kind = 4
 ·rw [if_pos h4]
  simp (maxSteps := 9999999) +contextual only [exa, ne_eq, not_false_eq_true, reduceAdd, reduceMul, reduceLT, reduceLeDiff, reduceEqDiff, Int.reduceLT, Int.reduceLE, Int.reduceEq, Int.reduceToNat, h3, h4]
  rw [w86_1, b86_1]
  simp (maxSteps := 9999999) +contextual only [exa, ne_eq, not_false_eq_true, reduceAdd, reduceMul, reduceLT, reduceLeDiff, reduceEqDiff, Int.reduceLT, Int.reduceLE, Int.reduceEq, Int.reduceToNat, h3, h4, qJp, qAO _ (VT.row_len (numV _))]
  rfl
 rw [if_neg h4]
 by_cases h5 : v.kind = 5
 ·rw [if_pos h5]
  simp (maxSteps := 9999999) +contextual only [exa, ne_eq, not_false_eq_true, reduceAdd, reduceMul, reduceLT, reduceLeDiff, reduceEqDiff, Int.reduceLT, Int.reduceLE, Int.reduceEq, Int.reduceToNat, h3, h4, h5]
  rw [w86_1, b86_1]
  simp (maxSteps := 9999999) +contextual only [exa, ne_eq, not_false_eq_true, reduceAdd, reduceMul, reduceLT, reduceLeDiff, reduceEqDiff, Int.reduceLT, Int.reduceLE, Int.reduceEq, Int.reduceToNat, h3, h4, h5, qJp, qAO _ (VT.row_len (numV _))]
  rfl
 rw [if_neg h5]
 simp (maxSteps := 9999999) +contextual only [exa, ne_eq, not_false_eq_true, reduceAdd, reduceMul, reduceLT, reduceLeDiff, reduceEqDiff, Int.reduceLT, Int.reduceLE, Int.reduceEq, Int.reduceToNat, h3, h4, h5]
 rw [w86_1, b86_1]
 simp (maxSteps := 9999999) +contextual only [exa, ne_eq, not_false_eq_true, reduceAdd, reduceMul, reduceLT, reduceLeDiff, reduceEqDiff, Int.reduceLT, Int.reduceLE, Int.reduceEq, Int.reduceToNat]
 rfl
def catE (v w : VT) : VT × Int := if (decide (v.kind = 3) && decide (w.kind = 3)) = false then (VT.nul, 17) else if 65536 < v.s.length + w.s.length then (VT.nul, 34) else (txtV (v.s ++ w.s), 0)
theorem qMV (t : Bool) (v w : VT) (hw : w.s.length < 4611686018427387904) : Om 89 [kSl 6 t [v.row, w.row]] [] = some (ansE (catE v w), []) := by
 refine (qAE rfl).trans ?_
 show lim tab.get S 89 0 0 [kSl 6 t [v.row, w.row]] h0 = _
 rw [w89_0, b89_0]
 unfold catE
 have hs : IntKind.i64.wrap (65536 - (w.s.length : Int)) = 65536 - (w.s.length : Int) := qAF _ (by omega) (by omega)
 cases hk : (decide (v.kind = 3) && decide (w.kind = 3))
 ·simp (maxSteps := 9999999) +contextual only [exa, ne_eq, not_false_eq_true, reduceAdd, reduceMul, reduceLT, reduceLeDiff, reduceEqDiff, Int.reduceLT, Int.reduceLE, Int.reduceEq, Int.reduceToNat, qJr, hk, qBu]
  rfl
 ·rw [if_neg (by simp)]
  by_cases h1 : 65536 < v.s.length + w.s.length
  ·have h2 : 65536 - (w.s.length : Int) < (v.s.length : Int) := by omega
   rw [if_pos h1]
   simp (maxSteps := 9999999) +contextual only [exa, ne_eq, not_false_eq_true, reduceAdd, reduceMul, reduceLT, reduceLeDiff, reduceEqDiff, Int.reduceLT, Int.reduceLE, Int.reduceEq, Int.reduceToNat, qJr, hk, qBu, qB4, qB7, hs, h2]
   rfl
  ·have h2 : ¬ 65536 - (w.s.length : Int) < (v.s.length : Int) := by omega
   have h3 : v.s.length + w.s.length ≤ 4611686018427387904 := by omega
   rw [if_neg h1]
   simp (maxSteps := 9999999) +contextual only [exa, ne_eq, not_false_eq_true, reduceAdd, reduceMul, reduceLT, reduceLeDiff, reduceEqDiff, Int.reduceLT, Int.reduceLE, Int.reduceEq, Int.reduceToNat, qJr, hk, qBu, qB4, qB7, hs, h2, h3, qJO, qAO _ (VT.row_len (txtV _))]
   rfl
open Go Go.AI
def sh (b : Int) : Nat := (b % 64).toNat
open Go Go.AI
theorem qMU : (decide (n_len = [108, 101, 110]) = true) ∧ (decide (n_len = [110, 111, 116]) = false) ∧ (decide (n_len = [97, 110, 100]) = false) ∧ (decide (n_len = [111, 114]) = false) ∧ (decide (n_len = [101, 113]) = false) ∧ (decide (n_len = [99, 97, 116]) = false) ∧ (decide (n_len = [116, 101, 120, 116]) = false) ∧ (decide (n_len = [97, 116]) = false) ∧ (decide (n_len = [103, 101, 116]) = false) ∧ (decide (n_len = [104, 97, 115]) = false) ∧ (decide (n_len = [111, 114, 101, 108, 115, 101]) = false) := ⟨id rfl, id rfl, id rfl, id rfl, id rfl, id rfl, id rfl, id rfl, id rfl, id rfl, id rfl⟩
theorem qML {β : Type} {k : TVal → Heap → Option β} {h : Heap} {d : Nat} : vcall Om (.v (.c (.func 84 []))) [kS n_len] h d k = k (kB true) h := qAD 84 _ _ rfl ((qAE rfl).trans (qAa blks_ok 500 84 0 0 _ _ _ (by kernel_rfl))) rfl
theorem qLe {β : Type} {k : TVal → Heap → Option β} {h : Heap} {d : Nat} : vcall Om (.v (.c (.func 85 []))) [kS n_len] h d k = k (kI 1) h := qAD 85 _ _ rfl ((qAE rfl).trans (qAa blks_ok 500 85 0 0 _ _ _ (by kernel_rfl))) rfl
theorem qKF : (decide (n_cat = [108, 101, 110]) = false) ∧ (decide (n_cat = [110, 111, 116]) = false) ∧ (decide (n_cat = [97, 110, 100]) = false) ∧ (decide (n_cat = [111, 114]) = false) ∧ (decide (n_cat = [101, 113]) = false) ∧ (decide (n_cat = [99, 97, 116]) = true) ∧ (decide (n_cat = [116, 101, 120, 116]) = false) ∧ (decide (n_cat = [97, 116]) = false) ∧ (decide (n_cat = [103, 101, 116]) = false) ∧ (decide (n_cat = [104, 97, 115]) = false) ∧ (decide (n_cat = [111, 114, 101, 108, 115, 101]) = false) := ⟨id rfl, id rfl, id rfl, id rfl, id rfl, id rfl, id rfl, id rfl, id rfl, id rfl, id rfl⟩
theorem qL7 {β : Type} {k : TVal → Heap → Option β} {h : Heap} {d : Nat} : vcall Om (.v (.c (.func 84 []))) [kS n_cat] h d k = k (kB true) h := qAD 84 _ _ rfl ((qAE rfl).trans (qAa blks_ok 500 84 0 0 _ _ _ (by kernel_rfl))) rfl
theorem qL6 {β : Type} {k : TVal → Heap → Option β} {h : Heap} {d : Nat} : vcall Om (.v (.c (.func 85 []))) [kS n_cat] h d k = k (kI 2) h := qAD 85 _ _ rfl ((qAE rfl).trans (qAa blks_ok 500 85 0 0 _ _ _ (by kernel_rfl))) rfl
theorem qHf : (decide (n_text = [108, 101, 110]) = false) ∧ (decide (n_text = [110, 111, 116]) = false) ∧ (decide (n_text = [97, 110, 100]) = false) ∧ (decide (n_text = [111, 114]) = false) ∧ (decide (n_text = [101, 113]) = false) ∧ (decide (n_text = [99, 97, 116]) = false) ∧ (decide (n_text = [116, 101, 120, 116]) = true) ∧ (decide (n_text = [97, 116]) = false) ∧ (decide (n_text = [103, 101, 116]) = false) ∧ (decide (n_text = [104, 97, 115]) = false) ∧ (decide (n_text = [111, 114, 101, 108, 115, 101]) = false) := ⟨id rfl, id rfl, id rfl, id rfl, id rfl, id rfl, id rfl, id rfl, id rfl, id rfl, id rfl⟩
theorem qFy {β : Type} {k : TVal → Heap → Option β} {h : Heap} {d : Nat} : vcall Om (.v (.c (.func 84 []))) [kS n_text] h d k = k (kB true) h := qAD 84 _ _ rfl ((qAE rfl).trans (qAa blks_ok 500 84 0 0 _ _ _ (by kernel_rfl))) rfl
theorem qFz {β : Type} {k : TVal → Heap → Option β} {h : Heap} {d : Nat} : vcall Om (.v (.c (.func 85 []))) [kS n_text] h d k = k (kI 1) h := qAD 85 _ _ rfl ((qAE rfl).trans (qAa blks_ok 500 85 0 0 _ _ _ (by kernel_rfl))) rfl
theorem qLa (t : Bool) (v : VT) : Om 38 [kS n_len, kSl 6 t [v.row]] [] = some (ansE (lenM v), []) := by
 refine (qAE rfl).trans ?_
 show lim tab.get S 38 0 0 [kS n_len, kSl 6 t [v.row]] h0 = _
 have hc := qKr v
 generalize (lenM v) = p at hc ⊢
 have cc : CAL 86 [kA v.row] (.tup [.agg (pcells p.1.row), .c (.p (.int .i64 p.2))]) := qAD 86 _ _ (by simp only [exP]) hc (by simp only [exP])
 rw [w38_0, b38_0]
 simp (maxSteps := 9999999) +contextual only [exa, ne_eq, not_false_eq_true, reduceAdd, reduceMul, reduceLT, reduceLeDiff, reduceEqDiff, Int.reduceLT, Int.reduceLE, Int.reduceEq, Int.reduceToNat, qML, qLe, qMU, qEc, qEb, qDm, qB4, qB7, cc, qAO _ (VT.row_len p.1)]
 rfl
theorem qMM (t : Bool) (v w : VT) (hw : w.s.length < 4611686018427387904) : Om 38 [kS n_cat, kSl 6 t [v.row, w.row]] [] = some (ansE (catE v w), []) := by
 refine (qAE rfl).trans ?_
 show lim tab.get S 38 0 0 [kS n_cat, kSl 6 t [v.row, w.row]] h0 = _
 have hc := qMV t v w hw
 generalize (catE v w) = p at hc ⊢
 have cc : CAL 89 [kSl 6 t [v.row, w.row]] (.tup [.agg (pcells p.1.row), .c (.p (.int .i64 p.2))]) := qAD 89 _ _ (by simp only [exP]) hc (by simp only [exP])
 rw [w38_0, b38_0]
 simp (maxSteps := 9999999) +contextual only [exa, ne_eq, not_false_eq_true, reduceAdd, reduceMul, reduceLT, reduceLeDiff, reduceEqDiff, Int.reduceLT, Int.reduceLE, Int.reduceEq, Int.reduceToNat, qL7, qL6, qKF, qEc, qEb, qDm, qB4, qB7, cc, qAO _ (VT.row_len p.1)]
 rw [w38_1, b38_1]
 simp (maxSteps := 9999999) +contextual only [exa, ne_eq, not_false_eq_true, reduceAdd, reduceMul, reduceLT, reduceLeDiff, reduceEqDiff, Int.reduceLT, Int.reduceLE, Int.reduceEq, Int.reduceToNat, qKF, cc, qAO _ (VT.row_len p.1)]
 rfl
open Go Go.AI
open Go Go.AI
open Go Go.AI
open Go Go.AI
abbrev e4 : TVal := .v (.c (.ptr (.own 4 1) 0))
abbrev e6 : TVal := .v (.c (.ptr (.own 6 1) 0))
abbrev e7 : TVal := .v (.c (.ptr (.own 7 1) 0))
open Go Go.AI
open Go Go.AI
open Go Go.AI
open Go Go.AI
open Go Go.AI
def decM : Nat → Nat → List UInt8
 | 0, _ => []
 | f + 1, n => if 10 ≤ n then decM f (n / 10) ++ [UInt8.ofNat (48 + n % 10)] else [UInt8.ofNat (48 + n)]
theorem qEz : ∀ (f n : Nat), n < 10 ^ f → (decM f n).length ≤ f
 | 0, n, _ => Nat.zero_le _
 | f + 1, n, h => by
  unfold decM
  split
  ·have := qEz f (n / 10) (by rw [Nat.pow_succ] at h; omega)
   simp; omega
  ·simp
theorem qEC : ∀ (f n : Nat), n < 10 ^ (f + 1) → Lib.decDigits n = decM (f + 1) n
 | 0, n, h => by
  have : n < 10 := by omega
  rw [Lib.decDigits, dif_pos this, decM, if_neg (by omega)]
 | f + 1, n, h => by
  rw [Lib.decDigits, decM]
  by_cases h10 : 10 ≤ n
  ·rw [dif_neg (by omega), if_pos h10, qEC f (n / 10) (by rw [Nat.pow_succ] at h; omega)]
  ·rw [dif_pos (by omega), if_neg h10]
theorem qDg (n : Nat) (hn : (n : Int) ≤ 9223372036854775808) : (Lib.decDigits n).length ≤ 20 := by
 have h : n < 10 ^ (19 + 1) := by
  have : (10 : Nat) ^ (19 + 1) = 100000000000000000000 := by decide
  omega
 rw [qEC 19 n h]
 exact qEz _ _ h
open Go Go.AI
theorem qC8 (n : Int) (h1 : -9223372036854775808 ≤ n) (h2 : n ≤ 9223372036854775807) : (Lib.itoa n).length ≤ 21 := by
 unfold Lib.itoa
 split
 ·have := qDg n.natAbs (by omega); simp; omega
 ·have := qDg n.toNat (by omega); omega
def trueS : List UInt8 := [116, 114, 117, 101]
def falseS : List UInt8 := [102, 97, 108, 115, 101]
open Go Go.AI
theorem qMX {β : Type} {h : Heap} {k : TVal → Heap → Option β} (a : Int) : vbin .shr 0 (kN .u64 a) (kN .u64 32) h k = k (kN .u64 (a / 4294967296)) h := qBC _ _ _ _ _ (by
 show some (Cell.p (.int .u64 (a.fdiv (2 ^ (min ((32 : Int).toNat) 64))))) = _
 rw [show (2 : Int) ^ (min ((32 : Int).toNat) 64) = 4294967296 by decide, Int.fdiv_eq_ediv_of_nonneg _ (by decide)])
theorem qMh {β : Type} {h : Heap} {k : TVal → Heap → Option β} (a : Int) : vbin .shr 0 (kN .u64 a) (kN .u64 16) h k = k (kN .u64 (a / 65536)) h := qBC _ _ _ _ _ (by
 show some (Cell.p (.int .u64 (a.fdiv (2 ^ (min ((16 : Int).toNat) 64))))) = _
 rw [show (2 : Int) ^ (min ((16 : Int).toNat) 64) = 65536 by decide, Int.fdiv_eq_ediv_of_nonneg _ (by decide)])
theorem vsh8 {β : Type} {h : Heap} {k : TVal → Heap → Option β} (a : Int) : vbin .shr 0 (kN .u64 a) (kN .u64 8) h k = k (kN .u64 (a / 256)) h := qBC _ _ _ _ _ (by
 show some (Cell.p (.int .u64 (a.fdiv (2 ^ (min ((8 : Int).toNat) 64))))) = _
 rw [show (2 : Int) ^ (min ((8 : Int).toNat) 64) = 256 by decide, Int.fdiv_eq_ediv_of_nonneg _ (by decide)])
def len8L : List UInt8 := z0a4518d3
theorem qIx : (List.range 256).all (fun x => match len8L[x]? with | some b => (x == 0 && b == 0) || (decide (1 ≤ b.toNat) && decide (2 ^ (b.toNat - 1) ≤ x) && decide (x < 2 ^ b.toNat) && decide (b.toNat ≤ 8)) | none => false) = true := by decide +kernel
def IsLen (u : Int) (L : Nat) : Prop := (u = 0 ∧ L = 0) ∨ (1 ≤ L ∧ (2 : Int) ^ (L - 1) ≤ u ∧ u < 2 ^ L)
theorem qKM (x : Int) (h0 : 0 ≤ x) (h1 : x < 256) : ∃ b : UInt8, len8L[x.toNat]? = some b ∧ IsLen x b.toNat ∧ b.toNat ≤ 8 := by
 have h := List.all_eq_true.1 qIx x.toNat (List.mem_range.2 (by omega))
 revert h
 cases hb : len8L[x.toNat]? with
 | none => intro h; cases h
 | some b =>
  intro h
  refine ⟨b, rfl, ?_⟩
  simp only [Bool.or_eq_true, Bool.and_eq_true, beq_iff_eq, decide_eq_true_eq] at h
  rcases h with ⟨h2, h3⟩ | ⟨⟨⟨h2, h3⟩, h4⟩, h5⟩
  ·subst h3
   exact ⟨.inl ⟨by omega, rfl⟩, by decide⟩
  ·refine ⟨.inr ⟨h2, ?_, ?_⟩, h5⟩
   ·have : ((2 ^ (b.toNat - 1) : Nat) : Int) ≤ ((x.toNat : Nat) : Int) := by exact_mod_cast h3
    rw [Int.toNat_of_nonneg h0] at this
    simpa using this
   ·have : ((x.toNat : Nat) : Int) < ((2 ^ b.toNat : Nat) : Int) := by exact_mod_cast h4
    rw [Int.toNat_of_nonneg h0] at this
    simpa using this
theorem qKK (x : Int) (n : Nat) (h0 : 0 ≤ x) (h1 : x < 256) (hn : n ≤ 200) (h : Heap) : ∃ L : Nat, L ≤ 8 ∧ IsLen x L ∧ lim tab.get S 193 0 3 [kN .u64 x, kI (n : Int)] h = some (kI ((n + L : Nat) : Int), []) := by
 obtain ⟨b, hb, hl, h8⟩ := qKM x h0 h1
 refine ⟨b.toNat, h8, hl, ?_⟩
 have w1 : IntKind.u8.wrap x = x := qAI .u8 _ (by show (0 : Int) ≤ _; omega) (by show _ ≤ (255 : Int); omega)
 have w2 : IntKind.i64.wrap ((b.toNat : Nat) : Int) = ((b.toNat : Nat) : Int) := qAF _ (by omega) (by omega)
 have w3 : IntKind.i64.wrap ((n : Int) + ((b.toNat : Nat) : Int)) = ((n + b.toNat : Nat) : Int) := by rw [qAF _ (by omega) (by omega)]; omega
 have hx : ∀ {β : Type} {h : Heap} {k : TVal → Heap → Option β}, vindex (kS z0a4518d3) (kN .u8 x) h k = k (kU b) h := fun {β h k} => by
  obtain ⟨m, hm⟩ : ∃ m : Nat, x = m := ⟨x.toNat, by omega⟩
  subst hm
  show bnd (nthF len8L m) _ = _
  rw [qAS]
  rw [Int.toNat_natCast] at hb
  rw [hb]; rfl
 rw [w193_3, b193_3]
 simp (maxSteps := 9999999) +contextual only [exa, ne_eq, not_false_eq_true, reduceAdd, reduceMul, reduceLT, reduceLeDiff, reduceEqDiff, Int.reduceLT, Int.reduceLE, Int.reduceEq, Int.reduceToNat, w1, hx, w2, w3, oneOf]
theorem qLK {x : Int} {L : Nat} (hx : 256 ≤ x) (h : IsLen (x / 256) L) : IsLen x (L + 8) := by
 rcases h with ⟨h1, _⟩ | ⟨h1, h2, h3⟩
 ·omega
 ·refine .inr ⟨by omega, ?_, ?_⟩
  ·rw [show L + 8 - 1 = (L - 1) + 8 by omega, Int.pow_add, show (2 : Int) ^ 8 = 256 by decide]
   generalize (2 : Int) ^ (L - 1) = y at h2
   omega
  ·rw [Int.pow_add, show (2 : Int) ^ 8 = 256 by decide]
   generalize (2 : Int) ^ L = y at h3
   omega
theorem qIw {x : Int} {L : Nat} (hx : 65536 ≤ x) (h : IsLen (x / 65536) L) : IsLen x (L + 16) := by
 rcases h with ⟨h1, _⟩ | ⟨h1, h2, h3⟩
 ·omega
 ·refine .inr ⟨by omega, ?_, ?_⟩
  ·rw [show L + 16 - 1 = (L - 1) + 16 by omega, Int.pow_add, show (2 : Int) ^ 16 = 65536 by decide]
   generalize (2 : Int) ^ (L - 1) = y at h2
   omega
  ·rw [Int.pow_add, show (2 : Int) ^ 16 = 65536 by decide]
   generalize (2 : Int) ^ L = y at h3
   omega
theorem qIv {x : Int} {L : Nat} (hx : 4294967296 ≤ x) (h : IsLen (x / 4294967296) L) : IsLen x (L + 32) := by
 rcases h with ⟨h1, _⟩ | ⟨h1, h2, h3⟩
 ·omega
 ·refine .inr ⟨by omega, ?_, ?_⟩
  ·rw [show L + 32 - 1 = (L - 1) + 32 by omega, Int.pow_add, show (2 : Int) ^ 32 = 4294967296 by decide]
   generalize (2 : Int) ^ (L - 1) = y at h2
   omega
  ·rw [Int.pow_add, show (2 : Int) ^ 32 = 4294967296 by decide]
   generalize (2 : Int) ^ L = y at h3
   omega
theorem qKJ (x : Int) (n : Nat) (h0 : 0 ≤ x) (h1 : x < 65536) (hn : n ≤ 150) (h : Heap) : ∃ L : Nat, L ≤ 16 ∧ IsLen x L ∧ lim tab.get S 193 0 2 [kN .u64 x, kI (n : Int)] h = some (kI ((n + L : Nat) : Int), []) := by
 rw [w193_2, b193_2]
 by_cases hx : 256 ≤ x
 ·have hx' : ¬ x < 256 := by omega
  have w : IntKind.i64.wrap ((n : Int) + 8) = ((n + 8 : Nat) : Int) := by rw [qAF _ (by omega) (by omega)]; omega
  obtain ⟨L, h8, hl, e⟩ := qKK (x / 256) (n + 8) (by omega) (by omega) (by omega) h
  refine ⟨L + 8, by omega, qLK hx hl, ?_⟩
  simp (maxSteps := 9999999) +contextual only [exa, ne_eq, not_false_eq_true, reduceAdd, reduceMul, reduceLT, reduceLeDiff, reduceEqDiff, Int.reduceLT, Int.reduceLE, Int.reduceEq, Int.reduceToNat, hx', vsh8, w]
  refine e.trans ?_
  rw [show n + 8 + L = n + (L + 8) by omega]
 ·have hx' : x < 256 := by omega
  obtain ⟨L, h8, hl, e⟩ := qKK x n h0 hx' (by omega) h
  refine ⟨L, by omega, hl, ?_⟩
  simp (maxSteps := 9999999) +contextual only [exa, ne_eq, not_false_eq_true, reduceAdd, reduceMul, reduceLT, reduceLeDiff, reduceEqDiff, Int.reduceLT, Int.reduceLE, Int.reduceEq, Int.reduceToNat, hx']
  exact e
theorem qKH (x : Int) (n : Nat) (h0 : 0 ≤ x) (h1 : x < 4294967296) (hn : n ≤ 100) (h : Heap) : ∃ L : Nat, L ≤ 32 ∧ IsLen x L ∧ lim tab.get S 193 0 1 [kN .u64 x, kI (n : Int)] h = some (kI ((n + L : Nat) : Int), []) := by
 rw [w193_1, b193_1]
 by_cases hx : 65536 ≤ x
 ·have hx' : ¬ x < 65536 := by omega
  have w : IntKind.i64.wrap ((n : Int) + 16) = ((n + 16 : Nat) : Int) := by rw [qAF _ (by omega) (by omega)]; omega
  obtain ⟨L, h8, hl, e⟩ := qKJ (x / 65536) (n + 16) (by omega) (by omega) (by omega) h
  refine ⟨L + 16, by omega, qIw hx hl, ?_⟩
  simp (maxSteps := 9999999) +contextual only [exa, ne_eq, not_false_eq_true, reduceAdd, reduceMul, reduceLT, reduceLeDiff, reduceEqDiff, Int.reduceLT, Int.reduceLE, Int.reduceEq, Int.reduceToNat, hx', qMh, w]
  refine e.trans ?_
  rw [show n + 16 + L = n + (L + 16) by omega]
 ·have hx' : x < 65536 := by omega
  obtain ⟨L, h8, hl, e⟩ := qKJ x n h0 hx' (by omega) h
  refine ⟨L, by omega, hl, ?_⟩
  simp (maxSteps := 9999999) +contextual only [exa, ne_eq, not_false_eq_true, reduceAdd, reduceMul, reduceLT, reduceLeDiff, reduceEqDiff, Int.reduceLT, Int.reduceLE, Int.reduceEq, Int.reduceToNat, hx']
  exact e
theorem qMc (x : Int) (h0 : 0 ≤ x) (h1 : x < 18446744073709551616) : ∃ L : Nat, L ≤ 64 ∧ IsLen x L ∧ Om 193 [kN .u64 x] [] = some (kI (L : Int), []) := by
 have hs : Om 193 [kN .u64 x] [] = lim tab.get S 193 0 0 [kN .u64 x] Go.AI.h0 := qAE rfl
 rw [hs, w193_0, b193_0]
 by_cases hx : 4294967296 ≤ x
 ·have hx' : ¬ x < 4294967296 := by omega
  obtain ⟨L, h8, hl, e⟩ := qKH (x / 4294967296) 32 (by omega) (by omega) (by decide) Go.AI.h0
  refine ⟨L + 32, by omega, qIv hx hl, ?_⟩
  simp (maxSteps := 9999999) +contextual only [exa, ne_eq, not_false_eq_true, reduceAdd, reduceMul, reduceLT, reduceLeDiff, reduceEqDiff, Int.reduceLT, Int.reduceLE, Int.reduceEq, Int.reduceToNat, hx', qMX]
  refine e.trans ?_
  rw [Nat.add_comm]
 ·have hx' : x < 4294967296 := by omega
  obtain ⟨L, h8, hl, e⟩ := qKH x 0 h0 hx' (by decide) Go.AI.h0
  refine ⟨L, by omega, hl, ?_⟩
  simp (maxSteps := 9999999) +contextual only [exa, ne_eq, not_false_eq_true, reduceAdd, reduceMul, reduceLT, reduceLeDiff, reduceEqDiff, Int.reduceLT, Int.reduceLE, Int.reduceEq, Int.reduceToNat, hx']
  refine e.trans ?_
  rw [Nat.zero_add]
open Go Go.AI
def tenL (L : Nat) : Nat := L * 78913 / 262144
theorem qKh : (List.range 65).all (fun L => decide (tenL L < 20) && (decide (L = 0) || (decide (2 ^ L ≤ 10 ^ (tenL L + 1)) && (decide (tenL L = 0) || decide (10 ^ (tenL L - 1) ≤ 2 ^ (L - 1)))))) = true := by decide +kernel
theorem qMB (L : Nat) (hL : L ≤ 64) : Om 192 [kI (L : Int)] [] = some (kI (tenL L : Int), []) := by
 refine (qAE rfl).trans ?_
 show lim tab.get S 192 0 0 [kI (L : Int)] h0 = _
 have w : IntKind.i64.wrap ((L : Int) * 78913) = ((L * 78913 : Nat) : Int) := by rw [qAF _ (by omega) (by omega)]; omega
 have sh : ∀ {β : Type} {h : Heap} {k : TVal → Heap → Option β}, vbin .shr 0 (kI ((L * 78913 : Nat) : Int)) (kN .u64 18) h k = k (kI (tenL L : Int)) h := fun {β h k} => qBC _ _ _ _ _ (by
  show some (Cell.p (.int .i64 ((((L * 78913 : Nat) : Int)).fdiv (2 ^ (min ((18 : Int).toNat) 64))))) = _
  rw [show (2 : Int) ^ (min ((18 : Int).toNat) 64) = 262144 by decide, Int.fdiv_eq_ediv_of_nonneg _ (by decide)]
  unfold tenL
  rw [Int.natCast_ediv]; rfl)
 rw [w192_0, b192_0]
 simp (maxSteps := 9999999) +contextual only [exa, ne_eq, not_false_eq_true, reduceAdd, reduceMul, reduceLT, reduceLeDiff, reduceEqDiff, Int.reduceLT, Int.reduceLE, Int.reduceEq, Int.reduceToNat, w, sh, oneOf]
theorem qLr (b : Bool) : Om 194 [kB b] [] = some (kI (if b = true then 1 else 0), []) := by
 refine (qAE rfl).trans ?_
 show lim tab.get S 194 0 0 [kB b] h0 = _
 rw [w194_0, b194_0]
 cases b
 ·simp (maxSteps := 9999999) +contextual only [exa, ne_eq, not_false_eq_true, reduceAdd, reduceMul, reduceLT, reduceLeDiff, reduceEqDiff, Int.reduceLT, Int.reduceLE, Int.reduceEq, Int.reduceToNat, oneOf]
  rfl
 ·simp (maxSteps := 9999999) +contextual only [exa, ne_eq, not_false_eq_true, reduceAdd, reduceMul, reduceLT, reduceLeDiff, reduceEqDiff, Int.reduceLT, Int.reduceLE, Int.reduceEq, Int.reduceToNat, oneOf]
  rfl
abbrev powR : List PVal := [.int .u64 1, .int .u64 10, .int .u64 100, .int .u64 1000, .int .u64 10000, .int .u64 100000, .int .u64 1000000, .int .u64 10000000, .int .u64 100000000, .int .u64 1000000000, .int .u64 10000000000, .int .u64 100000000000, .int .u64 1000000000000, .int .u64 10000000000000, .int .u64 100000000000000, .int .u64 1000000000000000, .int .u64 10000000000000000, .int .u64 100000000000000000, .int .u64 1000000000000000000, .int .u64 10000000000000000000]
theorem qLq (t : Nat) (ht : t < 20) : powR[t]? = some (.int .u64 (10 ^ t)) := by
 match t, ht with
 | 0, _ => rfl
 | 1, _ => rfl
 | 2, _ => rfl
 | 3, _ => rfl
 | 4, _ => rfl
 | 5, _ => rfl
 | 6, _ => rfl
 | 7, _ => rfl
 | 8, _ => rfl
 | 9, _ => rfl
 | 10, _ => rfl
 | 11, _ => rfl
 | 12, _ => rfl
 | 13, _ => rfl
 | 14, _ => rfl
 | 15, _ => rfl
 | 16, _ => rfl
 | 17, _ => rfl
 | 18, _ => rfl
 | 19, _ => rfl
 | n + 20, h => exact absurd h (by omega)
theorem qEi {β : Type} {O : Oracle} {h : Heap} {d : Nat} {k : TVal → Heap → Option β} (n : Nat) (row : List PVal) (t : Nat) (ht : t < n) : vop O (.iaddrA n 1 (.k (.v (.c (.p (.pptr row 0))))) (.k (kI (t : Int)))) h d k = k (.v (.c (.p (.pptr row t)))) h := qAW _ _ (by
 show (if t < n then some (Plan.pure (.pv (.pptr row (0 + t * 1)))) else none) = _
 rw [if_pos ht, Nat.mul_one, Nat.zero_add])
theorem qHT (u : Int) (h0 : 0 ≤ u) (h1 : u < 18446744073709551616) : ∃ N : Nat, N ≤ 20 ∧ u < 10 ^ N ∧ (u = 0 ∨ (1 ≤ N ∧ (10 : Int) ^ (N - 1) ≤ u)) ∧ Om 185 [kN .u64 u] [] = some (kI (N : Int), []) := by
 obtain ⟨L, hL, hl, e⟩ := qMc u h0 h1
 have c1 : CAL 193 [kN .u64 u] (kI (L : Int)) := qAD 193 _ _ rfl e rfl
 have c2 : CAL 192 [kI (L : Int)] (kI (tenL L : Int)) := qAD 192 _ _ rfl (qMB L hL) rfl
 have c3 : ∀ {β : Type} {k : TVal → Heap → Option β} {h : Heap} {d : Nat} (b : Bool), vcall Om (.v (.c (.func 194 []))) [kB b] h d k = k (kI (if b = true then 1 else 0)) h := fun b => qAD 194 _ _ rfl (qLr b) rfl
 have hT := List.all_eq_true.1 qKh L (List.mem_range.2 (by omega))
 simp only [Bool.and_eq_true, Bool.or_eq_true, decide_eq_true_eq] at hT
 obtain ⟨t20, hT⟩ := hT
 have hp := qLq (tenL L) t20
 have hs : Om 185 [kN .u64 u] [] = lim tab.get S 185 0 0 [kN .u64 u] Go.AI.h0 := qAE rfl
 by_cases hq : u < 10 ^ tenL L
 ·refine ⟨tenL L, by omega, hq, ?_, ?_⟩
  ·rcases hl with ⟨hl, _⟩ | ⟨l1, l2, l3⟩
   ·exact .inl hl
   ·refine .inr ?_
    rcases hT with hT | ⟨_, hT | hT⟩
    ·omega
    ·exfalso
     rw [hT] at hq
     have : (0 : Int) < 2 ^ (L - 1) := Int.pow_pos (by decide)
     have : (10 : Int) ^ 0 = 1 := rfl
     omega
    ·refine ⟨?_, ?_⟩
     ·rcases Nat.eq_zero_or_pos (tenL L) with hz | hz
      ·exfalso
       rw [hz] at hq
       have : (0 : Int) < 2 ^ (L - 1) := Int.pow_pos (by decide)
       have : (10 : Int) ^ 0 = 1 := rfl
       omega
      ·exact hz
     ·have : ((10 ^ (tenL L - 1) : Nat) : Int) ≤ ((2 ^ (L - 1) : Nat) : Int) := by exact_mod_cast hT
      rw [Int.natCast_pow, Int.natCast_pow] at this
      exact Int.le_trans this l2
  ·have w : IntKind.i64.wrap ((tenL L : Int) + 0) = (tenL L : Int) := by rw [qAF _ (by omega) (by omega)]; omega
   rw [hs, w185_0, b185_0]
   simp (maxSteps := 9999999) +contextual only [exa, ne_eq, not_false_eq_true, reduceAdd, reduceMul, reduceLT, reduceLeDiff, reduceEqDiff, Int.reduceLT, Int.reduceLE, Int.reduceEq, Int.reduceToNat, c1, c2, qEi 20 _ _ t20, hp, hq, c3, Bool.false_eq_true, if_false, w, oneOf]
 ·refine ⟨tenL L + 1, by omega, ?_, ?_, ?_⟩
  ·rcases hl with ⟨hl, hz⟩ | ⟨l1, l2, l3⟩
   ·rw [hl]; exact Int.pow_pos (by decide)
   ·rcases hT with hT | ⟨hT, _⟩
    ·omega
    ·have : ((2 ^ L : Nat) : Int) ≤ ((10 ^ (tenL L + 1) : Nat) : Int) := by exact_mod_cast hT
     rw [Int.natCast_pow, Int.natCast_pow] at this
     exact Int.lt_of_lt_of_le l3 this
  ·exact .inr ⟨by omega, by rw [Nat.add_sub_cancel]; omega⟩
  ·have w : IntKind.i64.wrap ((tenL L : Int) + 1) = ((tenL L + 1 : Nat) : Int) := by rw [qAF _ (by omega) (by omega)]; omega
   rw [hs, w185_0, b185_0]
   simp (maxSteps := 9999999) +contextual only [exa, ne_eq, not_false_eq_true, reduceAdd, reduceMul, reduceLT, reduceLeDiff, reduceEqDiff, Int.reduceLT, Int.reduceLE, Int.reduceEq, Int.reduceToNat, c1, c2, qEi 20 _ _ t20, hp, hq, c3, if_true, w, oneOf]
open Go Go.AI
def dig (x : Int) : Cell := .p (.int .u8 (48 + x % 10))
def wr : List Cell → Nat → Int → Nat → List Cell
 | cs, _, _, 0 => cs
 | cs, i, u, k + 1 => wr (cs.set i (dig u)) (i - 1) (u / 10) k
theorem qHz : ∀ (k : Nat) (cs : List Cell) (i : Nat) (u : Int), (wr cs i u k).length = cs.length
 | 0, _, _, _ => rfl
 | k + 1, cs, i, u => by rw [wr, qHz k, List.length_set]
theorem qAR (cs : List Cell) (i : Nat) (c : Cell) (hi : i < cs.length) : put1 cs i [c] = cs.set i c := by
 unfold put1 splice
 rw [List.set_eq_take_append_cons_drop, if_pos hi]
 simp
abbrev bufP (N : Nat) : TVal := .v (.c (.sref (.im 0) 1 N (some 23) 1))
def plainC (cs : List Cell) : Prop := ∃ xs, cs = pcells xs
theorem qFJ (cs : List Cell) (h : Heap) (hp : plainC cs) (hg : h.get (.im 0) = some (.cells cs 0)) : vfin true 1 [] h = some (.tup [], [.cells cs 0]) := by
 obtain ⟨xs, rfl⟩ := hp
 exact qDj true [] _ rfl hg (qAn xs 0)
theorem fb4 (N i : Nat) (u : Int) (cs : List Cell) (h : Heap) (hp : plainC cs) (hl : cs.length = 24) (hg : h.get (.im 0) = some (.cells cs 0)) (hi : i ≤ 1) (hiN : i ≤ N) (hN : N ≤ 23) (h0 : 0 ≤ u) (h1 : u < 10 ^ i) :
  lim tab.get S 186 1 4 [bufP N, kI (i : Int), kN .u32 u] h = some (.tup [], [.cells (wr cs i u i) 0]) := by
 rw [w186_4, b186_4]
 rcases Nat.le_one_iff_eq_zero_or_eq_one.1 hi with rfl | rfl
 ·have a : ¬ (0 : Int) < ((0 : Nat) : Int) := by omega
  simp (maxSteps := 9999999) +contextual only [exa, ne_eq, not_false_eq_true, reduceAdd, reduceMul, reduceLT, reduceLeDiff, reduceEqDiff, Int.reduceLT, Int.reduceLE, Int.reduceEq, Int.reduceToNat, a]
  exact qFJ cs h hp hg
 ·have a : (0 : Int) < ((1 : Nat) : Int) := by omega
  have hu : u < 10 := by simpa using h1
  have w1 : IntKind.u32.wrap (48 + u) = 48 + u := qAI .u32 _ (by show (0 : Int) ≤ _; omega) (by show _ ≤ (4294967295 : Int); omega)
  have w2 : IntKind.u8.wrap (48 + u) = 48 + u := qAI .u8 _ (by show (0 : Int) ≤ _; omega) (by show _ ≤ (255 : Int); omega)
  have hN0 : 0 < N := by omega
  have P : put1 cs 1 [.p (.int .u8 (48 + u))] = wr cs 1 u 1 := by
   rw [qAR _ _ _ (by omega)]
   show _ = cs.set 1 (dig u)
   unfold dig
   rw [Int.emod_eq_of_lt h0 hu]
  have hp2 : plainC (wr cs 1 u 1) := by
   obtain ⟨xs, rfl⟩ := hp
   refine ⟨xs.set 1 (.int .u8 (48 + u % 10)), ?_⟩
   show (pcells xs).set 1 (dig u) = _
   unfold pcells dig
   rw [List.map_set]
  simp (maxSteps := 9999999) +contextual only [exa, ne_eq, not_false_eq_true, reduceAdd, reduceMul, reduceLT, reduceLeDiff, reduceEqDiff, Int.reduceLT, Int.reduceLE, Int.reduceEq, Int.reduceToNat, a, w1, w2, hN0, hg, hl, P]
  exact qFJ _ _ hp2 (qAK h 0 _ _ (by rw [hg]; rfl))
open Go Go.AI
def pairL : List UInt8 := z53fdd7c2
theorem qEo : (List.range 100).all (fun q => (pairL[q * 2]? == some (UInt8.ofNat (48 + q / 10))) && (pairL[q * 2 + 1]? == some (UInt8.ofNat (48 + q % 10)))) = true := by decide +kernel
theorem qBS {β : Type} {h : Heap} {k : TVal → Heap → Option β} (K : IntKind) (x : Int) (h0 : 0 ≤ x) (h1 : x < 100) : vindex (kS z53fdd7c2) (kN K (x * 2 + 1)) h k = k (.v (.c (dig x))) h := by
 obtain ⟨q, rfl⟩ : ∃ q : Nat, x = q := ⟨x.toNat, by omega⟩
 have h := List.all_eq_true.1 qEo q (List.mem_range.2 (by omega))
 simp only [Bool.and_eq_true, beq_iff_eq] at h
 show bnd (nthF pairL (q * 2 + 1)) _ = _
 rw [qAS, h.2]
 show k (kU (UInt8.ofNat (48 + q % 10))) _ = _
 unfold dig
 show k (.v (.c (.p (.int .u8 ((UInt8.ofNat (48 + q % 10)).toNat : Int))))) _ = _
 rw [UInt8.toNat_ofNat', Nat.mod_eq_of_lt (by omega)]
 congr 5
theorem qBN {β : Type} {h : Heap} {k : TVal → Heap → Option β} (K : IntKind) (x : Int) (h0 : 0 ≤ x) (h1 : x < 100) : vindex (kS z53fdd7c2) (kN K (x * 2)) h k = k (.v (.c (dig (x / 10)))) h := by
 obtain ⟨q, rfl⟩ : ∃ q : Nat, x = q := ⟨x.toNat, by omega⟩
 have h := List.all_eq_true.1 qEo q (List.mem_range.2 (by omega))
 simp only [Bool.and_eq_true, beq_iff_eq] at h
 show bnd (nthF pairL (q * 2)) _ = _
 rw [qAS, h.1]
 show k (.v (.c (.p (.int .u8 ((UInt8.ofNat (48 + q / 10)).toNat : Int))))) _ = _
 rw [UInt8.toNat_ofNat', Nat.mod_eq_of_lt (by omega)]
 unfold dig
 have e : ((48 + q / 10 : Nat) : Int) = 48 + (q : Int) / 10 % 10 := by omega
 rw [e]
theorem qAP {cs : List Cell} (hp : plainC cs) (i : Nat) (x : Int) : plainC (cs.set i (dig x)) := by
 obtain ⟨xs, rfl⟩ := hp
 exact ⟨xs.set i (.int .u8 (48 + x % 10)), by unfold pcells dig; rw [List.map_set]⟩
theorem qFQ : ∀ (k : Nat) (cs : List Cell) (i : Nat) (u : Int), plainC cs → plainC (wr cs i u k)
 | 0, _, _, _, h => h
 | k + 1, cs, i, u, h => qFQ k _ _ _ (qAP h i u)
theorem qKg (u : Int) (m : Int) (hm : (10 : Int) ∣ m) : dig (u % m) = dig u := by
 unfold dig
 rw [Int.emod_emod_of_dvd _ hm]
theorem fb3 (N i : Nat) (u : Int) (cs : List Cell) (h : Heap) (hp : plainC cs) (hl : cs.length = 24) (hg : h.get (.im 0) = some (.cells cs 0)) (hi : i ≤ 3) (hiN : i ≤ N) (hN : N ≤ 23) (h0 : 0 ≤ u) (h1 : u < 10 ^ i) :
  lim tab.get S 186 1 3 [bufP N, kI (i : Int), kN .u32 u] h = some (.tup [], [.cells (wr cs i u i) 0]) := by
 rw [w186_3, b186_3]
 have hu : u < 1000 := by
  have hi' : i = 0 ∨ i = 1 ∨ i = 2 ∨ i = 3 := by omega
  rcases hi' with rfl | rfl | rfl | rfl <;> simp at h1 <;> omega
 by_cases h2 : 2 ≤ i
 ·have a : ¬ (i : Int) < 2 := by omega
  have e1 : u.tmod 100 = u % 100 := Int.tmod_eq_emod_of_nonneg h0
  have e2 : u.tdiv 100 = u / 100 := Int.tdiv_eq_ediv_of_nonneg h0
  have w1 : IntKind.u32.wrap (u % 100 * 2) = u % 100 * 2 := qAI .u32 _ (by show (0 : Int) ≤ _; omega) (by show _ ≤ (4294967295 : Int); omega)
  have w2 : IntKind.u32.wrap (u % 100 * 2 + 1) = u % 100 * 2 + 1 := qAI .u32 _ (by show (0 : Int) ≤ _; omega) (by show _ ≤ (4294967295 : Int); omega)
  have w3 : IntKind.u32.wrap (u / 100) = u / 100 := qAI .u32 _ (by show (0 : Int) ≤ _; omega) (by show _ ≤ (4294967295 : Int); omega)
  have v1 : IntKind.i64.wrap ((i : Int) - 1) = ((i - 1 : Nat) : Int) := by rw [qAF _ (by omega) (by omega)]; omega
  have v2 : IntKind.i64.wrap ((i : Int) - 2) = ((i - 2 : Nat) : Int) := by rw [qAF _ (by omega) (by omega)]; omega
  have l1 : i - 1 < N := by omega
  have l2 : i - 2 < N := by omega
  have n1 : ((i - 1 : Nat) : Int).toNat = i - 1 := Int.toNat_natCast _
  have n2 : ((i - 2 : Nat) : Int).toNat = i - 2 := Int.toNat_natCast _
  have g1 : (0 : Int) ≤ ((i - 1 : Nat) : Int) := by omega
  have g2 : (0 : Int) ≤ ((i - 2 : Nat) : Int) := by omega
  have P1 : put1 cs (1 + (i - 1)) [dig (u % 100)] = cs.set i (dig u) := by
   rw [qAR _ _ _ (by omega), qKg u 100 (by decide), show 1 + (i - 1) = i by omega]
  have P2 : put1 (cs.set i (dig u)) (1 + (i - 2)) [dig (u % 100 / 10)] = (cs.set i (dig u)).set (i - 1) (dig (u / 10)) := by
   rw [qAR _ _ _ (by rw [List.length_set]; omega), show 1 + (i - 2) = i - 1 by omega]
   congr 1
   unfold dig
   have : u % 100 / 10 % 10 = u / 10 % 10 := by omega
   rw [this]
  have b1 : 1 + (i - 1) + 1 ≤ 24 := by omega
  have b2 : 1 + (i - 2) + 1 ≤ 24 := by omega
  have hgs : ∀ (h : Heap) (c : List Cell), (h.get (.im 0)).isSome = true → (h.put (.im 0) (.cells c 0)).get (.im 0) = some (.cells c 0) := fun h c x => qAK h 0 c 0 x
  have s1 : (h.get (.im 0)).isSome = true := by rw [hg]; rfl
  have q1 : (h.put (.im 0) (.cells (cs.set i (dig u)) 0)).get (.im 0) = some (.cells (cs.set i (dig u)) 0) := hgs _ _ s1
  have q2 : ((h.put (.im 0) (.cells (cs.set i (dig u)) 0)).put (.im 0) (.cells ((cs.set i (dig u)).set (i - 1) (dig (u / 10))) 0)).get (.im 0) = some (.cells ((cs.set i (dig u)).set (i - 1) (dig (u / 10))) 0) := hgs _ _ (by rw [q1]; rfl)
  simp (maxSteps := 9999999) +contextual only [exa, ne_eq, not_false_eq_true, reduceAdd, reduceMul, reduceLT, reduceLeDiff, reduceEqDiff, Int.reduceLT, Int.reduceLE, Int.reduceEq, Int.reduceToNat, a, qA3 0 .u32 u 100 (by decide), qA2 0 .u32 u 100 (by decide), e1, e2, w1, w2, w3, v1, v2, qBS .u32 (u % 100) (by omega) (by omega), qBN .u32 (u % 100) (by omega) (by omega), l1, l2, n1, n2, g1, g2, hg, hl, List.length_set, Nat.mul_one, Nat.zero_le, P1, P2, b1, b2, q1]
  have r : wr cs i u i = wr ((cs.set i (dig u)).set (i - 1) (dig (u / 10))) (i - 2) (u / 100) (i - 2) := by
   obtain ⟨m, rfl⟩ : ∃ m, i = m + 2 := ⟨i - 2, by omega⟩
   rw [wr, wr, Int.ediv_ediv_of_nonneg (by decide)]
   rfl
  rw [r]
  refine fb4 N (i - 2) (u / 100) _ _ (qAP (qAP hp _ _) _ _) (by rw [List.length_set, List.length_set]; exact hl) q2 (by omega) (by omega) hN (by omega) ?_
  have hi' : i = 2 ∨ i = 3 := by omega
  rcases hi' with rfl | rfl
  ·simp at h1 ⊢; omega
  ·simp at h1 ⊢; omega
 ·have a : (i : Int) < 2 := by omega
  simp (maxSteps := 9999999) +contextual only [exa, ne_eq, not_false_eq_true, reduceAdd, reduceMul, reduceLT, reduceLeDiff, reduceEqDiff, Int.reduceLT, Int.reduceLE, Int.reduceEq, Int.reduceToNat, a]
  exact fb4 N i u cs h hp hl hg (by omega) hiN hN h0 h1
open Go Go.AI
theorem qA1 {x y : Int} (h : x % 10 = y % 10) : dig x = dig y := by unfold dig; rw [h]
theorem fb2 (N i : Nat) (u : Int) (cs : List Cell) (h : Heap) (hp : plainC cs) (hl : cs.length = 24) (hg : h.get (.im 0) = some (.cells cs 0)) (hi : i ≤ 7) (hiN : i ≤ N) (hN : N ≤ 23) (h0 : 0 ≤ u) (h1 : u < 10 ^ i) :
  lim tab.get S 186 1 2 [bufP N, kN .u64 u, kI (i : Int)] h = some (.tup [], [.cells (wr cs i u i) 0]) := by
 rw [w186_2, b186_2]
 have hu : u < 10000000 := by
  have hi' : i = 0 ∨ i = 1 ∨ i = 2 ∨ i = 3 ∨ i = 4 ∨ i = 5 ∨ i = 6 ∨ i = 7 := by omega
  rcases hi' with rfl | rfl | rfl | rfl | rfl | rfl | rfl | rfl <;> simp at h1 <;> omega
 have w0 : IntKind.u32.wrap u = u := qAI .u32 _ (by show (0 : Int) ≤ _; omega) (by show _ ≤ (4294967295 : Int); omega)
 by_cases h2 : 4 ≤ i
 ·have a : ¬ (i : Int) < 4 := by omega
  have e1 : u.tmod 10000 = u % 10000 := Int.tmod_eq_emod_of_nonneg h0
  have e2 : u.tdiv 10000 = u / 10000 := Int.tdiv_eq_ediv_of_nonneg h0
  have e3 : (u % 10000).tdiv 100 = u % 10000 / 100 := Int.tdiv_eq_ediv_of_nonneg (by omega)
  have e4 : (u % 10000).tmod 100 = u % 10000 % 100 := Int.tmod_eq_emod_of_nonneg (by omega)
  have w1 : IntKind.u32.wrap (u / 10000) = u / 10000 := qAI .u32 _ (by show (0 : Int) ≤ _; omega) (by show _ ≤ (4294967295 : Int); omega)
  have w2 : IntKind.u32.wrap (u % 10000 / 100) = u % 10000 / 100 := qAI .u32 _ (by show (0 : Int) ≤ _; omega) (by show _ ≤ (4294967295 : Int); omega)
  have w3 : IntKind.u32.wrap (u % 10000 / 100 * 2) = u % 10000 / 100 * 2 := qAI .u32 _ (by show (0 : Int) ≤ _; omega) (by show _ ≤ (4294967295 : Int); omega)
  have w4 : IntKind.u32.wrap (u % 10000 / 100 * 2 + 1) = u % 10000 / 100 * 2 + 1 := qAI .u32 _ (by show (0 : Int) ≤ _; omega) (by show _ ≤ (4294967295 : Int); omega)
  have w5 : IntKind.u32.wrap (u % 10000 % 100 * 2) = u % 10000 % 100 * 2 := qAI .u32 _ (by show (0 : Int) ≤ _; omega) (by show _ ≤ (4294967295 : Int); omega)
  have w6 : IntKind.u32.wrap (u % 10000 % 100 * 2 + 1) = u % 10000 % 100 * 2 + 1 := qAI .u32 _ (by show (0 : Int) ≤ _; omega) (by show _ ≤ (4294967295 : Int); omega)
  have v1 : IntKind.i64.wrap ((i : Int) - 1) = ((i - 1 : Nat) : Int) := by rw [qAF _ (by omega) (by omega)]; omega
  have l1 : i - 1 < N := by omega
  have n1 : ((i - 1 : Nat) : Int).toNat = i - 1 := Int.toNat_natCast _
  have g1 : (0 : Int) ≤ ((i - 1 : Nat) : Int) := by omega
  have b1 : 1 + (i - 1) + 1 ≤ 24 := by omega
  have v2 : IntKind.i64.wrap ((i : Int) - 2) = ((i - 2 : Nat) : Int) := by rw [qAF _ (by omega) (by omega)]; omega
  have l2 : i - 2 < N := by omega
  have n2 : ((i - 2 : Nat) : Int).toNat = i - 2 := Int.toNat_natCast _
  have g2 : (0 : Int) ≤ ((i - 2 : Nat) : Int) := by omega
  have b2 : 1 + (i - 2) + 1 ≤ 24 := by omega
  have v3 : IntKind.i64.wrap ((i : Int) - 3) = ((i - 3 : Nat) : Int) := by rw [qAF _ (by omega) (by omega)]; omega
  have l3 : i - 3 < N := by omega
  have n3 : ((i - 3 : Nat) : Int).toNat = i - 3 := Int.toNat_natCast _
  have g3 : (0 : Int) ≤ ((i - 3 : Nat) : Int) := by omega
  have b3 : 1 + (i - 3) + 1 ≤ 24 := by omega
  have v4 : IntKind.i64.wrap ((i : Int) - 4) = ((i - 4 : Nat) : Int) := by rw [qAF _ (by omega) (by omega)]; omega
  have l4 : i - 4 < N := by omega
  have n4 : ((i - 4 : Nat) : Int).toNat = i - 4 := Int.toNat_natCast _
  have g4 : (0 : Int) ≤ ((i - 4 : Nat) : Int) := by omega
  have b4 : 1 + (i - 4) + 1 ≤ 24 := by omega
  have P1 : put1 cs (1 + (i - 1)) [dig (u % 10000 % 100)] = (cs.set i (dig (u))) := by
   rw [qAR _ _ _ (by omega), show 1 + (i - 1) = i by omega, qA1 (show (u % 10000 % 100) % 10 = (u) % 10 by omega)]
  have P2 : put1 (cs.set i (dig (u))) (1 + (i - 2)) [dig (u % 10000 % 100 / 10)] = ((cs.set i (dig (u))).set (i - 1) (dig (u / 10))) := by
   rw [qAR _ _ _ (by simp only [List.length_set]; omega), show 1 + (i - 2) = (i - 1) by omega, qA1 (show (u % 10000 % 100 / 10) % 10 = (u / 10) % 10 by omega)]
  have P3 : put1 ((cs.set i (dig (u))).set (i - 1) (dig (u / 10))) (1 + (i - 3)) [dig (u % 10000 / 100)] = (((cs.set i (dig (u))).set (i - 1) (dig (u / 10))).set (i - 2) (dig (u / 10 / 10))) := by
   rw [qAR _ _ _ (by simp only [List.length_set]; omega), show 1 + (i - 3) = (i - 2) by omega, qA1 (show (u % 10000 / 100) % 10 = (u / 10 / 10) % 10 by omega)]
  have P4 : put1 (((cs.set i (dig (u))).set (i - 1) (dig (u / 10))).set (i - 2) (dig (u / 10 / 10))) (1 + (i - 4)) [dig (u % 10000 / 100 / 10)] = ((((cs.set i (dig (u))).set (i - 1) (dig (u / 10))).set (i - 2) (dig (u / 10 / 10))).set (i - 3) (dig (u / 10 / 10 / 10))) := by
   rw [qAR _ _ _ (by simp only [List.length_set]; omega), show 1 + (i - 4) = (i - 3) by omega, qA1 (show (u % 10000 / 100 / 10) % 10 = (u / 10 / 10 / 10) % 10 by omega)]
  have q1 : (h.put (.im 0) (.cells (cs.set i (dig (u))) 0)).get (.im 0) = some (.cells (cs.set i (dig (u))) 0) := qAK h 0 _ _ (by rw [hg]; rfl)
  have q2 : ((h.put (.im 0) (.cells (cs.set i (dig (u))) 0)).put (.im 0) (.cells ((cs.set i (dig (u))).set (i - 1) (dig (u / 10))) 0)).get (.im 0) = some (.cells ((cs.set i (dig (u))).set (i - 1) (dig (u / 10))) 0) := qAK (h.put (.im 0) (.cells (cs.set i (dig (u))) 0)) 0 _ _ (by rw [q1]; rfl)
  have q3 : (((h.put (.im 0) (.cells (cs.set i (dig (u))) 0)).put (.im 0) (.cells ((cs.set i (dig (u))).set (i - 1) (dig (u / 10))) 0)).put (.im 0) (.cells (((cs.set i (dig (u))).set (i - 1) (dig (u / 10))).set (i - 2) (dig (u / 10 / 10))) 0)).get (.im 0) = some (.cells (((cs.set i (dig (u))).set (i - 1) (dig (u / 10))).set (i - 2) (dig (u / 10 / 10))) 0) := qAK ((h.put (.im 0) (.cells (cs.set i (dig (u))) 0)).put (.im 0) (.cells ((cs.set i (dig (u))).set (i - 1) (dig (u / 10))) 0)) 0 _ _ (by rw [q2]; rfl)
  have q4 : ((((h.put (.im 0) (.cells (cs.set i (dig (u))) 0)).put (.im 0) (.cells ((cs.set i (dig (u))).set (i - 1) (dig (u / 10))) 0)).put (.im 0) (.cells (((cs.set i (dig (u))).set (i - 1) (dig (u / 10))).set (i - 2) (dig (u / 10 / 10))) 0)).put (.im 0) (.cells ((((cs.set i (dig (u))).set (i - 1) (dig (u / 10))).set (i - 2) (dig (u / 10 / 10))).set (i - 3) (dig (u / 10 / 10 / 10))) 0)).get (.im 0) = some (.cells ((((cs.set i (dig (u))).set (i - 1) (dig (u / 10))).set (i - 2) (dig (u / 10 / 10))).set (i - 3) (dig (u / 10 / 10 / 10))) 0) := qAK (((h.put (.im 0) (.cells (cs.set i (dig (u))) 0)).put (.im 0) (.cells ((cs.set i (dig (u))).set (i - 1) (dig (u / 10))) 0)).put (.im 0) (.cells (((cs.set i (dig (u))).set (i - 1) (dig (u / 10))).set (i - 2) (dig (u / 10 / 10))) 0)) 0 _ _ (by rw [q3]; rfl)
  simp (maxSteps := 9999999) +contextual only [exa, ne_eq, not_false_eq_true, reduceAdd, reduceMul, reduceLT, reduceLeDiff, reduceEqDiff, Int.reduceLT, Int.reduceLE, Int.reduceEq, Int.reduceToNat, a, w0, qA3 0 .u32 u 10000 (by decide), qA2 0 .u32 u 10000 (by decide), qA3 0 .u32 (u % 10000) 100 (by decide), qA2 0 .u32 (u % 10000) 100 (by decide), e1, e2, e3, e4, w1, w2, w3, w4, w5, w6, v1, v2, v3, v4, qBS .u32 (u % 10000 % 100) (by omega) (by omega), qBN .u32 (u % 10000 % 100) (by omega) (by omega), qBS .u32 (u % 10000 / 100) (by omega) (by omega), qBN .u32 (u % 10000 / 100) (by omega) (by omega), l1, l2, l3, l4, n1, n2, n3, n4, g1, g2, g3, g4, hg, hl, List.length_set, Nat.mul_one, Nat.zero_le, P1, P2, P3, P4, b1, b2, b3, b4, q1, q2, q3]
  have r : wr cs i u i = wr ((((cs.set i (dig (u))).set (i - 1) (dig (u / 10))).set (i - 2) (dig (u / 10 / 10))).set (i - 3) (dig (u / 10 / 10 / 10))) (i - 4) (u / 10000) (i - 4) := by
   obtain ⟨m, rfl⟩ : ∃ m, i = m + 4 := ⟨i - 4, by omega⟩
   rw [wr, wr, wr, wr]
   have : u / 10 / 10 / 10 / 10 = u / 10000 := by omega
   rw [this]
   rfl
  rw [r]
  refine fb3 N (i - 4) (u / 10000) _ _ (qAP (qAP (qAP (qAP hp _ _) _ _) _ _) _ _) (by simp only [List.length_set]; exact hl) q4 (by omega) (by omega) hN (by omega) ?_
  have hi' : i = 4 ∨ i = 5 ∨ i = 6 ∨ i = 7 := by omega
  rcases hi' with rfl | rfl | rfl | rfl
  ·simp at h1 ⊢; omega
  ·simp at h1 ⊢; omega
  ·simp at h1 ⊢; omega
  ·simp at h1 ⊢; omega
 ·have a : (i : Int) < 4 := by omega
  simp (maxSteps := 9999999) +contextual only [exa, ne_eq, not_false_eq_true, reduceAdd, reduceMul, reduceLT, reduceLeDiff, reduceEqDiff, Int.reduceLT, Int.reduceLE, Int.reduceEq, Int.reduceToNat, a, w0]
  exact fb3 N i u cs h hp hl hg (by omega) hiN hN h0 h1
open Go Go.AI
set_option maxHeartbeats 4000000 in
theorem fb1 (N : Nat) (hN : N ≤ 23) : ∀ (m i : Nat), i < m → ∀ (u : Int) (cs : List Cell) (h : Heap), plainC cs → cs.length = 24 → h.get (.im 0) = some (.cells cs 0) → i ≤ N → 0 ≤ u → u < 18446744073709551616 → u < 10 ^ i →
  lim tab.get S 186 1 1 [bufP N, kN .u64 u, kI (i : Int)] h = some (.tup [], [.cells (wr cs i u i) 0]) := by
 intro m
 induction m with
 | zero => intro i h; omega
 | succ m ih =>
 intro i him u cs h hp hl hg hiN h0 hu h1
 rw [w186_1, b186_1]
 by_cases h2 : 8 ≤ i
 ·have a : ¬ (i : Int) < 8 := by omega
  have e1 : u.tmod 100000000 = u % 100000000 := Int.tmod_eq_emod_of_nonneg h0
  have e2 : u.tdiv 100000000 = u / 100000000 := Int.tdiv_eq_ediv_of_nonneg h0
  have e3 : (u % 100000000).tdiv 10000 = u % 100000000 / 10000 := Int.tdiv_eq_ediv_of_nonneg (by omega)
  have e4 : (u % 100000000).tmod 10000 = u % 100000000 % 10000 := Int.tmod_eq_emod_of_nonneg (by omega)
  have e5 : (u % 100000000 % 10000).tdiv 100 = u % 100000000 % 10000 / 100 := Int.tdiv_eq_ediv_of_nonneg (by omega)
  have e6 : (u % 100000000 % 10000).tmod 100 = u % 100000000 % 10000 % 100 := Int.tmod_eq_emod_of_nonneg (by omega)
  have e7 : (u % 100000000 / 10000).tdiv 100 = u % 100000000 / 10000 / 100 := Int.tdiv_eq_ediv_of_nonneg (by omega)
  have e8 : (u % 100000000 / 10000).tmod 100 = u % 100000000 / 10000 % 100 := Int.tmod_eq_emod_of_nonneg (by omega)
  have w0 : IntKind.u64.wrap (u / 100000000) = u / 100000000 := qBo _ (by omega) (by omega)
  have w1 : IntKind.u32.wrap (u % 100000000) = u % 100000000 := qAI .u32 _ (by show (0 : Int) ≤ _; omega) (by show _ ≤ (4294967295 : Int); omega)
  have w2 : IntKind.u32.wrap (u % 100000000 / 10000) = u % 100000000 / 10000 := qAI .u32 _ (by show (0 : Int) ≤ _; omega) (by show _ ≤ (4294967295 : Int); omega)
  have w3 : IntKind.u32.wrap (u % 100000000 % 10000 / 100) = u % 100000000 % 10000 / 100 := qAI .u32 _ (by show (0 : Int) ≤ _; omega) (by show _ ≤ (4294967295 : Int); omega)
  have w4 : IntKind.u32.wrap (u % 100000000 / 10000 / 100) = u % 100000000 / 10000 / 100 := qAI .u32 _ (by show (0 : Int) ≤ _; omega) (by show _ ≤ (4294967295 : Int); omega)
  have w5 : IntKind.u32.wrap (u % 100000000 % 10000 % 100 * 2) = u % 100000000 % 10000 % 100 * 2 := qAI .u32 _ (by show (0 : Int) ≤ _; omega) (by show _ ≤ (4294967295 : Int); omega)
  have w6 : IntKind.u32.wrap (u % 100000000 % 10000 % 100 * 2 + 1) = u % 100000000 % 10000 % 100 * 2 + 1 := qAI .u32 _ (by show (0 : Int) ≤ _; omega) (by show _ ≤ (4294967295 : Int); omega)
  have w7 : IntKind.u32.wrap (u % 100000000 % 10000 / 100 * 2) = u % 100000000 % 10000 / 100 * 2 := qAI .u32 _ (by show (0 : Int) ≤ _; omega) (by show _ ≤ (4294967295 : Int); omega)
  have w8 : IntKind.u32.wrap (u % 100000000 % 10000 / 100 * 2 + 1) = u % 100000000 % 10000 / 100 * 2 + 1 := qAI .u32 _ (by show (0 : Int) ≤ _; omega) (by show _ ≤ (4294967295 : Int); omega)
  have w9 : IntKind.u32.wrap (u % 100000000 / 10000 % 100 * 2) = u % 100000000 / 10000 % 100 * 2 := qAI .u32 _ (by show (0 : Int) ≤ _; omega) (by show _ ≤ (4294967295 : Int); omega)
  have w10 : IntKind.u32.wrap (u % 100000000 / 10000 % 100 * 2 + 1) = u % 100000000 / 10000 % 100 * 2 + 1 := qAI .u32 _ (by show (0 : Int) ≤ _; omega) (by show _ ≤ (4294967295 : Int); omega)
  have w11 : IntKind.u32.wrap (u % 100000000 / 10000 / 100 * 2) = u % 100000000 / 10000 / 100 * 2 := qAI .u32 _ (by show (0 : Int) ≤ _; omega) (by show _ ≤ (4294967295 : Int); omega)
  have w12 : IntKind.u32.wrap (u % 100000000 / 10000 / 100 * 2 + 1) = u % 100000000 / 10000 / 100 * 2 + 1 := qAI .u32 _ (by show (0 : Int) ≤ _; omega) (by show _ ≤ (4294967295 : Int); omega)
  have v1 : IntKind.i64.wrap ((i : Int) - 1) = ((i - 1 : Nat) : Int) := by rw [qAF _ (by omega) (by omega)]; omega
  have l1 : i - 1 < N := by omega
  have n1 : ((i - 1 : Nat) : Int).toNat = i - 1 := Int.toNat_natCast _
  have g1 : (0 : Int) ≤ ((i - 1 : Nat) : Int) := by omega
  have b1 : 1 + (i - 1) + 1 ≤ 24 := by omega
  have v2 : IntKind.i64.wrap ((i : Int) - 2) = ((i - 2 : Nat) : Int) := by rw [qAF _ (by omega) (by omega)]; omega
  have l2 : i - 2 < N := by omega
  have n2 : ((i - 2 : Nat) : Int).toNat = i - 2 := Int.toNat_natCast _
  have g2 : (0 : Int) ≤ ((i - 2 : Nat) : Int) := by omega
  have b2 : 1 + (i - 2) + 1 ≤ 24 := by omega
  have v3 : IntKind.i64.wrap ((i : Int) - 3) = ((i - 3 : Nat) : Int) := by rw [qAF _ (by omega) (by omega)]; omega
  have l3 : i - 3 < N := by omega
  have n3 : ((i - 3 : Nat) : Int).toNat = i - 3 := Int.toNat_natCast _
  have g3 : (0 : Int) ≤ ((i - 3 : Nat) : Int) := by omega
  have b3 : 1 + (i - 3) + 1 ≤ 24 := by omega
  have v4 : IntKind.i64.wrap ((i : Int) - 4) = ((i - 4 : Nat) : Int) := by rw [qAF _ (by omega) (by omega)]; omega
  have l4 : i - 4 < N := by omega
  have n4 : ((i - 4 : Nat) : Int).toNat = i - 4 := Int.toNat_natCast _
  have g4 : (0 : Int) ≤ ((i - 4 : Nat) : Int) := by omega
  have b4 : 1 + (i - 4) + 1 ≤ 24 := by omega
  have v5 : IntKind.i64.wrap ((i : Int) - 5) = ((i - 5 : Nat) : Int) := by rw [qAF _ (by omega) (by omega)]; omega
  have l5 : i - 5 < N := by omega
  have n5 : ((i - 5 : Nat) : Int).toNat = i - 5 := Int.toNat_natCast _
  have g5 : (0 : Int) ≤ ((i - 5 : Nat) : Int) := by omega
  have b5 : 1 + (i - 5) + 1 ≤ 24 := by omega
  have v6 : IntKind.i64.wrap ((i : Int) - 6) = ((i - 6 : Nat) : Int) := by rw [qAF _ (by omega) (by omega)]; omega
  have l6 : i - 6 < N := by omega
  have n6 : ((i - 6 : Nat) : Int).toNat = i - 6 := Int.toNat_natCast _
  have g6 : (0 : Int) ≤ ((i - 6 : Nat) : Int) := by omega
  have b6 : 1 + (i - 6) + 1 ≤ 24 := by omega
  have v7 : IntKind.i64.wrap ((i : Int) - 7) = ((i - 7 : Nat) : Int) := by rw [qAF _ (by omega) (by omega)]; omega
  have l7 : i - 7 < N := by omega
  have n7 : ((i - 7 : Nat) : Int).toNat = i - 7 := Int.toNat_natCast _
  have g7 : (0 : Int) ≤ ((i - 7 : Nat) : Int) := by omega
  have b7 : 1 + (i - 7) + 1 ≤ 24 := by omega
  have v8 : IntKind.i64.wrap ((i : Int) - 8) = ((i - 8 : Nat) : Int) := by rw [qAF _ (by omega) (by omega)]; omega
  have l8 : i - 8 < N := by omega
  have n8 : ((i - 8 : Nat) : Int).toNat = i - 8 := Int.toNat_natCast _
  have g8 : (0 : Int) ≤ ((i - 8 : Nat) : Int) := by omega
  have b8 : 1 + (i - 8) + 1 ≤ 24 := by omega
  have P1 : put1 cs (1 + (i - 1)) [dig (u % 100000000 % 10000 % 100)] = (cs.set i (dig (u))) := by
   rw [qAR _ _ _ (by omega), show 1 + (i - 1) = i by omega, qA1 (show (u % 100000000 % 10000 % 100) % 10 = (u) % 10 by omega)]
  have P2 : put1 (cs.set i (dig (u))) (1 + (i - 2)) [dig (u % 100000000 % 10000 % 100 / 10)] = ((cs.set i (dig (u))).set (i - 1) (dig (u / 10))) := by
   rw [qAR _ _ _ (by simp only [List.length_set]; omega), show 1 + (i - 2) = (i - 1) by omega, qA1 (show (u % 100000000 % 10000 % 100 / 10) % 10 = (u / 10) % 10 by omega)]
  have P3 : put1 ((cs.set i (dig (u))).set (i - 1) (dig (u / 10))) (1 + (i - 3)) [dig (u % 100000000 % 10000 / 100)] = (((cs.set i (dig (u))).set (i - 1) (dig (u / 10))).set (i - 2) (dig (u / 10 / 10))) := by
   rw [qAR _ _ _ (by simp only [List.length_set]; omega), show 1 + (i - 3) = (i - 2) by omega, qA1 (show (u % 100000000 % 10000 / 100) % 10 = (u / 10 / 10) % 10 by omega)]
  have P4 : put1 (((cs.set i (dig (u))).set (i - 1) (dig (u / 10))).set (i - 2) (dig (u / 10 / 10))) (1 + (i - 4)) [dig (u % 100000000 % 10000 / 100 / 10)] = ((((cs.set i (dig (u))).set (i - 1) (dig (u / 10))).set (i - 2) (dig (u / 10 / 10))).set (i - 3) (dig (u / 10 / 10 / 10))) := by
   rw [qAR _ _ _ (by simp only [List.length_set]; omega), show 1 + (i - 4) = (i - 3) by omega, qA1 (show (u % 100000000 % 10000 / 100 / 10) % 10 = (u / 10 / 10 / 10) % 10 by omega)]
  have P5 : put1 ((((cs.set i (dig (u))).set (i - 1) (dig (u / 10))).set (i - 2) (dig (u / 10 / 10))).set (i - 3) (dig (u / 10 / 10 / 10))) (1 + (i - 5)) [dig (u % 100000000 / 10000 % 100)] = (((((cs.set i (dig (u))).set (i - 1) (dig (u / 10))).set (i - 2) (dig (u / 10 / 10))).set (i - 3) (dig (u / 10 / 10 / 10))).set (i - 4) (dig (u / 10 / 10 / 10 / 10))) := by
   rw [qAR _ _ _ (by simp only [List.length_set]; omega), show 1 + (i - 5) = (i - 4) by omega, qA1 (show (u % 100000000 / 10000 % 100) % 10 = (u / 10 / 10 / 10 / 10) % 10 by omega)]
  have P6 : put1 (((((cs.set i (dig (u))).set (i - 1) (dig (u / 10))).set (i - 2) (dig (u / 10 / 10))).set (i - 3) (dig (u / 10 / 10 / 10))).set (i - 4) (dig (u / 10 / 10 / 10 / 10))) (1 + (i - 6)) [dig (u % 100000000 / 10000 % 100 / 10)] = ((((((cs.set i (dig (u))).set (i - 1) (dig (u / 10))).set (i - 2) (dig (u / 10 / 10))).set (i - 3) (dig (u / 10 / 10 / 10))).set (i - 4) (dig (u / 10 / 10 / 10 / 10))).set (i - 5) (dig (u / 10 / 10 / 10 / 10 / 10))) := by
   rw [qAR _ _ _ (by simp only [List.length_set]; omega), show 1 + (i - 6) = (i - 5) by omega, qA1 (show (u % 100000000 / 10000 % 100 / 10) % 10 = (u / 10 / 10 / 10 / 10 / 10) % 10 by omega)]
  have P7 : put1 ((((((cs.set i (dig (u))).set (i - 1) (dig (u / 10))).set (i - 2) (dig (u / 10 / 10))).set (i - 3) (dig (u / 10 / 10 / 10))).set (i - 4) (dig (u / 10 / 10 / 10 / 10))).set (i - 5) (dig (u / 10 / 10 / 10 / 10 / 10))) (1 + (i - 7)) [dig (u % 100000000 / 10000 / 100)] = (((((((cs.set i (dig (u))).set (i - 1) (dig (u / 10))).set (i - 2) (dig (u / 10 / 10))).set (i - 3) (dig (u / 10 / 10 / 10))).set (i - 4) (dig (u / 10 / 10 / 10 / 10))).set (i - 5) (dig (u / 10 / 10 / 10 / 10 / 10))).set (i - 6) (dig (u / 10 / 10 / 10 / 10 / 10 / 10))) := by
   rw [qAR _ _ _ (by simp only [List.length_set]; omega), show 1 + (i - 7) = (i - 6) by omega, qA1 (show (u % 100000000 / 10000 / 100) % 10 = (u / 10 / 10 / 10 / 10 / 10 / 10) % 10 by omega)]
  have P8 : put1 (((((((cs.set i (dig (u))).set (i - 1) (dig (u / 10))).set (i - 2) (dig (u / 10 / 10))).set (i - 3) (dig (u / 10 / 10 / 10))).set (i - 4) (dig (u / 10 / 10 / 10 / 10))).set (i - 5) (dig (u / 10 / 10 / 10 / 10 / 10))).set (i - 6) (dig (u / 10 / 10 / 10 / 10 / 10 / 10))) (1 + (i - 8)) [dig (u % 100000000 / 10000 / 100 / 10)] = ((((((((cs.set i (dig (u))).set (i - 1) (dig (u / 10))).set (i - 2) (dig (u / 10 / 10))).set (i - 3) (dig (u / 10 / 10 / 10))).set (i - 4) (dig (u / 10 / 10 / 10 / 10))).set (i - 5) (dig (u / 10 / 10 / 10 / 10 / 10))).set (i - 6) (dig (u / 10 / 10 / 10 / 10 / 10 / 10))).set (i - 7) (dig (u / 10 / 10 / 10 / 10 / 10 / 10 / 10))) := by
   rw [qAR _ _ _ (by simp only [List.length_set]; omega), show 1 + (i - 8) = (i - 7) by omega, qA1 (show (u % 100000000 / 10000 / 100 / 10) % 10 = (u / 10 / 10 / 10 / 10 / 10 / 10 / 10) % 10 by omega)]
  have q1 : (h.put (.im 0) (.cells (cs.set i (dig (u))) 0)).get (.im 0) = some (.cells (cs.set i (dig (u))) 0) := qAK h 0 _ _ (by rw [hg]; rfl)
  have q2 : ((h.put (.im 0) (.cells (cs.set i (dig (u))) 0)).put (.im 0) (.cells ((cs.set i (dig (u))).set (i - 1) (dig (u / 10))) 0)).get (.im 0) = some (.cells ((cs.set i (dig (u))).set (i - 1) (dig (u / 10))) 0) := qAK (h.put (.im 0) (.cells (cs.set i (dig (u))) 0)) 0 _ _ (by rw [q1]; rfl)
  have q3 : (((h.put (.im 0) (.cells (cs.set i (dig (u))) 0)).put (.im 0) (.cells ((cs.set i (dig (u))).set (i - 1) (dig (u / 10))) 0)).put (.im 0) (.cells (((cs.set i (dig (u))).set (i - 1) (dig (u / 10))).set (i - 2) (dig (u / 10 / 10))) 0)).get (.im 0) = some (.cells (((cs.set i (dig (u))).set (i - 1) (dig (u / 10))).set (i - 2) (dig (u / 10 / 10))) 0) := qAK ((h.put (.im 0) (.cells (cs.set i (dig (u))) 0)).put (.im 0) (.cells ((cs.set i (dig (u))).set (i - 1) (dig (u / 10))) 0)) 0 _ _ (by rw [q2]; rfl)
  have q4 : ((((h.put (.im 0) (.cells (cs.set i (dig (u))) 0)).put (.im 0) (.cells ((cs.set i (dig (u))).set (i - 1) (dig (u / 10))) 0)).put (.im 0) (.cells (((cs.set i (dig (u))).set (i - 1) (dig (u / 10))).set (i - 2) (dig (u / 10 / 10))) 0)).put (.im 0) (.cells ((((cs.set i (dig (u))).set (i - 1) (dig (u / 10))).set (i - 2) (dig (u / 10 / 10))).set (i - 3) (dig (u / 10 / 10 / 10))) 0)).get (.im 0) = some (.cells ((((cs.set i (dig (u))).set (i - 1) (dig (u / 10))).set (i - 2) (dig (u / 10 / 10))).set (i - 3) (dig (u / 10 / 10 / 10))) 0) := qAK (((h.put (.im 0) (.cells (cs.set i (dig (u))) 0)).put (.im 0) (.cells ((cs.set i (dig (u))).set (i - 1) (dig (u / 10))) 0)).put (.im 0) (.cells (((cs.set i (dig (u))).set (i - 1) (dig (u / 10))).set (i - 2) (dig (u / 10 / 10))) 0)) 0 _ _ (by rw [q3]; rfl)
  have q5 : (((((h.put (.im 0) (.cells (cs.set i (dig (u))) 0)).put (.im 0) (.cells ((cs.set i (dig (u))).set (i - 1) (dig (u / 10))) 0)).put (.im 0) (.cells (((cs.set i (dig (u))).set (i - 1) (dig (u / 10))).set (i - 2) (dig (u / 10 / 10))) 0)).put (.im 0) (.cells ((((cs.set i (dig (u))).set (i - 1) (dig (u / 10))).set (i - 2) (dig (u / 10 / 10))).set (i - 3) (dig (u / 10 / 10 / 10))) 0)).put (.im 0) (.cells (((((cs.set i (dig (u))).set (i - 1) (dig (u / 10))).set (i - 2) (dig (u / 10 / 10))).set (i - 3) (dig (u / 10 / 10 / 10))).set (i - 4) (dig (u / 10 / 10 / 10 / 10))) 0)).get (.im 0) = some (.cells (((((cs.set i (dig (u))).set (i - 1) (dig (u / 10))).set (i - 2) (dig (u / 10 / 10))).set (i - 3) (dig (u / 10 / 10 / 10))).set (i - 4) (dig (u / 10 / 10 / 10 / 10))) 0) := qAK ((((h.put (.im 0) (.cells (cs.set i (dig (u))) 0)).put (.im 0) (.cells ((cs.set i (dig (u))).set (i - 1) (dig (u / 10))) 0)).put (.im 0) (.cells (((cs.set i (dig (u))).set (i - 1) (dig (u / 10))).set (i - 2) (dig (u / 10 / 10))) 0)).put (.im 0) (.cells ((((cs.set i (dig (u))).set (i - 1) (dig (u / 10))).set (i - 2) (dig (u / 10 / 10))).set (i - 3) (dig (u / 10 / 10 / 10))) 0)) 0 _ _ (by rw [q4]; rfl)
  have q6 : ((((((h.put (.im 0) (.cells (cs.set i (dig (u))) 0)).put (.im 0) (.cells ((cs.set i (dig (u))).set (i - 1) (dig (u / 10))) 0)).put (.im 0) (.cells (((cs.set i (dig (u))).set (i - 1) (dig (u / 10))).set (i - 2) (dig (u / 10 / 10))) 0)).put (.im 0) (.cells ((((cs.set i (dig (u))).set (i - 1) (dig (u / 10))).set (i - 2) (dig (u / 10 / 10))).set (i - 3) (dig (u / 10 / 10 / 10))) 0)).put (.im 0) (.cells (((((cs.set i (dig (u))).set (i - 1) (dig (u / 10))).set (i - 2) (dig (u / 10 / 10))).set (i - 3) (dig (u / 10 / 10 / 10))).set (i - 4) (dig (u / 10 / 10 / 10 / 10))) 0)).put (.im 0) (.cells ((((((cs.set i (dig (u))).set (i - 1) (dig (u / 10))).set (i - 2) (dig (u / 10 / 10))).set (i - 3) (dig (u / 10 / 10 / 10))).set (i - 4) (dig (u / 10 / 10 / 10 / 10))).set (i - 5) (dig (u / 10 / 10 / 10 / 10 / 10))) 0)).get (.im 0) = some (.cells ((((((cs.set i (dig (u))).set (i - 1) (dig (u / 10))).set (i - 2) (dig (u / 10 / 10))).set (i - 3) (dig (u / 10 / 10 / 10))).set (i - 4) (dig (u / 10 / 10 / 10 / 10))).set (i - 5) (dig (u / 10 / 10 / 10 / 10 / 10))) 0) := qAK (((((h.put (.im 0) (.cells (cs.set i (dig (u))) 0)).put (.im 0) (.cells ((cs.set i (dig (u))).set (i - 1) (dig (u / 10))) 0)).put (.im 0) (.cells (((cs.set i (dig (u))).set (i - 1) (dig (u / 10))).set (i - 2) (dig (u / 10 / 10))) 0)).put (.im 0) (.cells ((((cs.set i (dig (u))).set (i - 1) (dig (u / 10))).set (i - 2) (dig (u / 10 / 10))).set (i - 3) (dig (u / 10 / 10 / 10))) 0)).put (.im 0) (.cells (((((cs.set i (dig (u))).set (i - 1) (dig (u / 10))).set (i - 2) (dig (u / 10 / 10))).set (i - 3) (dig (u / 10 / 10 / 10))).set (i - 4) (dig (u / 10 / 10 / 10 / 10))) 0)) 0 _ _ (by rw [q5]; rfl)
  have q7 : (((((((h.put (.im 0) (.cells (cs.set i (dig (u))) 0)).put (.im 0) (.cells ((cs.set i (dig (u))).set (i - 1) (dig (u / 10))) 0)).put (.im 0) (.cells (((cs.set i (dig (u))).set (i - 1) (dig (u / 10))).set (i - 2) (dig (u / 10 / 10))) 0)).put (.im 0) (.cells ((((cs.set i (dig (u))).set (i - 1) (dig (u / 10))).set (i - 2) (dig (u / 10 / 10))).set (i - 3) (dig (u / 10 / 10 / 10))) 0)).put (.im 0) (.cells (((((cs.set i (dig (u))).set (i - 1) (dig (u / 10))).set (i - 2) (dig (u / 10 / 10))).set (i - 3) (dig (u / 10 / 10 / 10))).set (i - 4) (dig (u / 10 / 10 / 10 / 10))) 0)).put (.im 0) (.cells ((((((cs.set i (dig (u))).set (i - 1) (dig (u / 10))).set (i - 2) (dig (u / 10 / 10))).set (i - 3) (dig (u / 10 / 10 / 10))).set (i - 4) (dig (u / 10 / 10 / 10 / 10))).set (i - 5) (dig (u / 10 / 10 / 10 / 10 / 10))) 0)).put (.im 0) (.cells (((((((cs.set i (dig (u))).set (i - 1) (dig (u / 10))).set (i - 2) (dig (u / 10 / 10))).set (i - 3) (dig (u / 10 / 10 / 10))).set (i - 4) (dig (u / 10 / 10 / 10 / 10))).set (i - 5) (dig (u / 10 / 10 / 10 / 10 / 10))).set (i - 6) (dig (u / 10 / 10 / 10 / 10 / 10 / 10))) 0)).get (.im 0) = some (.cells (((((((cs.set i (dig (u))).set (i - 1) (dig (u / 10))).set (i - 2) (dig (u / 10 / 10))).set (i - 3) (dig (u / 10 / 10 / 10))).set (i - 4) (dig (u / 10 / 10 / 10 / 10))).set (i - 5) (dig (u / 10 / 10 / 10 / 10 / 10))).set (i - 6) (dig (u / 10 / 10 / 10 / 10 / 10 / 10))) 0) := qAK ((((((h.put (.im 0) (.cells (cs.set i (dig (u))) 0)).put (.im 0) (.cells ((cs.set i (dig (u))).set (i - 1) (dig (u / 10))) 0)).put (.im 0) (.cells (((cs.set i (dig (u))).set (i - 1) (dig (u / 10))).set (i - 2) (dig (u / 10 / 10))) 0)).put (.im 0) (.cells ((((cs.set i (dig (u))).set (i - 1) (dig (u / 10))).set (i - 2) (dig (u / 10 / 10))).set (i - 3) (dig (u / 10 / 10 / 10))) 0)).put (.im 0) (.cells (((((cs.set i (dig (u))).set (i - 1) (dig (u / 10))).set (i - 2) (dig (u / 10 / 10))).set (i - 3) (dig (u / 10 / 10 / 10))).set (i - 4) (dig (u / 10 / 10 / 10 / 10))) 0)).put (.im 0) (.cells ((((((cs.set i (dig (u))).set (i - 1) (dig (u / 10))).set (i - 2) (dig (u / 10 / 10))).set (i - 3) (dig (u / 10 / 10 / 10))).set (i - 4) (dig (u / 10 / 10 / 10 / 10))).set (i - 5) (dig (u / 10 / 10 / 10 / 10 / 10))) 0)) 0 _ _ (by rw [q6]; rfl)
  have q8 : ((((((((h.put (.im 0) (.cells (cs.set i (dig (u))) 0)).put (.im 0) (.cells ((cs.set i (dig (u))).set (i - 1) (dig (u / 10))) 0)).put (.im 0) (.cells (((cs.set i (dig (u))).set (i - 1) (dig (u / 10))).set (i - 2) (dig (u / 10 / 10))) 0)).put (.im 0) (.cells ((((cs.set i (dig (u))).set (i - 1) (dig (u / 10))).set (i - 2) (dig (u / 10 / 10))).set (i - 3) (dig (u / 10 / 10 / 10))) 0)).put (.im 0) (.cells (((((cs.set i (dig (u))).set (i - 1) (dig (u / 10))).set (i - 2) (dig (u / 10 / 10))).set (i - 3) (dig (u / 10 / 10 / 10))).set (i - 4) (dig (u / 10 / 10 / 10 / 10))) 0)).put (.im 0) (.cells ((((((cs.set i (dig (u))).set (i - 1) (dig (u / 10))).set (i - 2) (dig (u / 10 / 10))).set (i - 3) (dig (u / 10 / 10 / 10))).set (i - 4) (dig (u / 10 / 10 / 10 / 10))).set (i - 5) (dig (u / 10 / 10 / 10 / 10 / 10))) 0)).put (.im 0) (.cells (((((((cs.set i (dig (u))).set (i - 1) (dig (u / 10))).set (i - 2) (dig (u / 10 / 10))).set (i - 3) (dig (u / 10 / 10 / 10))).set (i - 4) (dig (u / 10 / 10 / 10 / 10))).set (i - 5) (dig (u / 10 / 10 / 10 / 10 / 10))).set (i - 6) (dig (u / 10 / 10 / 10 / 10 / 10 / 10))) 0)).put (.im 0) (.cells ((((((((cs.set i (dig (u))).set (i - 1) (dig (u / 10))).set (i - 2) (dig (u / 10 / 10))).set (i - 3) (dig (u / 10 / 10 / 10))).set (i - 4) (dig (u / 10 / 10 / 10 / 10))).set (i - 5) (dig (u / 10 / 10 / 10 / 10 / 10))).set (i - 6) (dig (u / 10 / 10 / 10 / 10 / 10 / 10))).set (i - 7) (dig (u / 10 / 10 / 10 / 10 / 10 / 10 / 10))) 0)).get (.im 0) = some (.cells ((((((((cs.set i (dig (u))).set (i - 1) (dig (u / 10))).set (i - 2) (dig (u / 10 / 10))).set (i - 3) (dig (u / 10 / 10 / 10))).set (i - 4) (dig (u / 10 / 10 / 10 / 10))).set (i - 5) (dig (u / 10 / 10 / 10 / 10 / 10))).set (i - 6) (dig (u / 10 / 10 / 10 / 10 / 10 / 10))).set (i - 7) (dig (u / 10 / 10 / 10 / 10 / 10 / 10 / 10))) 0) := qAK (((((((h.put (.im 0) (.cells (cs.set i (dig (u))) 0)).put (.im 0) (.cells ((cs.set i (dig (u))).set (i - 1) (dig (u / 10))) 0)).put (.im 0) (.cells (((cs.set i (dig (u))).set (i - 1) (dig (u / 10))).set (i - 2) (dig (u / 10 / 10))) 0)).put (.im 0) (.cells ((((cs.set i (dig (u))).set (i - 1) (dig (u / 10))).set (i - 2) (dig (u / 10 / 10))).set (i - 3) (dig (u / 10 / 10 / 10))) 0)).put (.im 0) (.cells (((((cs.set i (dig (u))).set (i - 1) (dig (u / 10))).set (i - 2) (dig (u / 10 / 10))).set (i - 3) (dig (u / 10 / 10 / 10))).set (i - 4) (dig (u / 10 / 10 / 10 / 10))) 0)).put (.im 0) (.cells ((((((cs.set i (dig (u))).set (i - 1) (dig (u / 10))).set (i - 2) (dig (u / 10 / 10))).set (i - 3) (dig (u / 10 / 10 / 10))).set (i - 4) (dig (u / 10 / 10 / 10 / 10))).set (i - 5) (dig (u / 10 / 10 / 10 / 10 / 10))) 0)).put (.im 0) (.cells (((((((cs.set i (dig (u))).set (i - 1) (dig (u / 10))).set (i - 2) (dig (u / 10 / 10))).set (i - 3) (dig (u / 10 / 10 / 10))).set (i - 4) (dig (u / 10 / 10 / 10 / 10))).set (i - 5) (dig (u / 10 / 10 / 10 / 10 / 10))).set (i - 6) (dig (u / 10 / 10 / 10 / 10 / 10 / 10))) 0)) 0 _ _ (by rw [q7]; rfl)
  simp (maxSteps := 9999999) +contextual only [exa, ne_eq, not_false_eq_true, reduceAdd, reduceMul, reduceLT, reduceLeDiff, reduceEqDiff, Int.reduceLT, Int.reduceLE, Int.reduceEq, Int.reduceToNat, a, qA3 0 .u64 u 100000000 (by decide), qA2 0 .u64 u 100000000 (by decide), qA3 0 .u32 (u % 100000000) 10000 (by decide), qA2 0 .u32 (u % 100000000) 10000 (by decide), qA3 0 .u32 (u % 100000000 % 10000) 100 (by decide), qA2 0 .u32 (u % 100000000 % 10000) 100 (by decide), qA3 0 .u32 (u % 100000000 / 10000) 100 (by decide), qA2 0 .u32 (u % 100000000 / 10000) 100 (by decide), e1, e2, e3, e4, e5, e6, e7, e8, w0, w1, w2, w3, w4, w5, w6, w7, w8, w9, w10, w11, w12, v1, v2, v3, v4, v5, v6, v7, v8, qBS .u32 (u % 100000000 % 10000 % 100) (by omega) (by omega), qBN .u32 (u % 100000000 % 10000 % 100) (by omega) (by omega), qBS .u32 (u % 100000000 % 10000 / 100) (by omega) (by omega), qBN .u32 (u % 100000000 % 10000 / 100) (by omega) (by omega), qBS .u32 (u % 100000000 / 10000 % 100) (by omega) (by omega), qBN .u32 (u % 100000000 / 10000 % 100) (by omega) (by omega), qBS .u32 (u % 100000000 / 10000 / 100) (by omega) (by omega), qBN .u32 (u % 100000000 / 10000 / 100) (by omega) (by omega), l1, l2, l3, l4, l5, l6, l7, l8, n1, n2, n3, n4, n5, n6, n7, n8, g1, g2, g3, g4, g5, g6, g7, g8, hg, hl, List.length_set, Nat.mul_one, Nat.zero_le, P1, P2, P3, P4, P5, P6, P7, P8, b1, b2, b3, b4, b5, b6, b7, b8, q1, q2, q3, q4, q5, q6, q7]
  have r : wr cs i u i = wr ((((((((cs.set i (dig (u))).set (i - 1) (dig (u / 10))).set (i - 2) (dig (u / 10 / 10))).set (i - 3) (dig (u / 10 / 10 / 10))).set (i - 4) (dig (u / 10 / 10 / 10 / 10))).set (i - 5) (dig (u / 10 / 10 / 10 / 10 / 10))).set (i - 6) (dig (u / 10 / 10 / 10 / 10 / 10 / 10))).set (i - 7) (dig (u / 10 / 10 / 10 / 10 / 10 / 10 / 10))) (i - 8) (u / 100000000) (i - 8) := by
   obtain ⟨m, rfl⟩ : ∃ m, i = m + 8 := ⟨i - 8, by omega⟩
   rw [wr, wr, wr, wr, wr, wr, wr, wr]
   have : u / 10 / 10 / 10 / 10 / 10 / 10 / 10 / 10 = u / 100000000 := by omega
   rw [this]
   rfl
  rw [r]
  refine ih (i - 8) (by omega) (u / 100000000) _ _ (qAP (qAP (qAP (qAP (qAP (qAP (qAP (qAP (hp) _ _) _ _) _ _) _ _) _ _) _ _) _ _) _ _) (by simp only [List.length_set]; exact hl) q8 (by omega) (by omega) (by omega) ?_
  obtain ⟨m, rfl⟩ : ∃ m, i = m + 8 := ⟨i - 8, by omega⟩
  rw [Int.pow_add, show (10 : Int) ^ 8 = 100000000 by decide] at h1
  rw [Nat.add_sub_cancel]
  generalize (10 : Int) ^ m = y at h1
  omega
 ·have a : (i : Int) < 8 := by omega
  simp (maxSteps := 9999999) +contextual only [exa, ne_eq, not_false_eq_true, reduceAdd, reduceMul, reduceLT, reduceLeDiff, reduceEqDiff, Int.reduceLT, Int.reduceLE, Int.reduceEq, Int.reduceToNat, a]
  exact fb2 N i u cs h hp hl hg (by omega) hiN hN h0 h1
open Go Go.AI
theorem qMS (N : Nat) (u : Int) (cs : List Cell) (hp : plainC cs) (hl : cs.length = 24) (hN : N ≤ 23) (h0 : 0 ≤ u) (hu : u < 18446744073709551616) (h1 : u < 10 ^ N) :
  Om 186 [bufP N, kN .u64 u] [.cells cs 0] = some (.tup [], [.cells (wr cs N u N) 0]) := by
 refine (qAE rfl).trans ?_
 show lim tab.get S 186 1 0 [bufP N, kN .u64 u] { ims := [.cells cs 0], owns := .nil } = _
 rw [w186_0, b186_0]
 simp (maxSteps := 9999999) +contextual only [exa, ne_eq, not_false_eq_true, reduceAdd, reduceMul, reduceLT, reduceLeDiff, reduceEqDiff, Int.reduceLT, Int.reduceLE, Int.reduceEq, Int.reduceToNat, exU]
 exact fb1 N hN (N + 1) N (Nat.lt_succ_self _) u cs _ hp hl rfl (Nat.le_refl _) h0 hu h1
theorem qH9 : ∀ (k : Nat) (cs : List Cell) (i : Nat) (u : Int) (j : Nat), k ≤ i → i < cs.length → (wr cs i u k)[j]? = if i < j + k ∧ j ≤ i then some (dig (u / 10 ^ (i - j))) else cs[j]?
 | 0, cs, i, u, j, _, _ => by
  rw [wr, if_neg (by omega)]
 | k + 1, cs, i, u, j, hk, hi => by
  rw [wr, qH9 k _ _ _ _ (by omega) (by rw [List.length_set]; omega), List.getElem?_set]
  by_cases h1 : j = i
  ·subst h1
   rw [if_neg (by omega), if_pos rfl, if_pos hi, if_pos ⟨by omega, Nat.le_refl _⟩, Nat.sub_self]
   simp
  ·by_cases h2 : i - 1 < j + k ∧ j ≤ i - 1
   ·rw [if_pos h2, if_pos ⟨by omega, by omega⟩, Int.ediv_ediv_of_nonneg (by decide)]
    rw [show i - j = (i - 1 - j) + 1 by omega, Int.pow_succ, Int.mul_comm]
   ·rw [if_neg h2, if_neg (fun e => h1 e.symm), if_neg (by omega)]
theorem qDS : ∀ (N u : Nat), u < 10 ^ (N + 1) → (10 ^ N ≤ u ∨ N = 0) → Lib.decDigits u = (List.range (N + 1)).map fun j => UInt8.ofNat (48 + u / 10 ^ (N - j) % 10)
 | 0, u, h, _ => by
  have hu : u < 10 := by simpa using h
  rw [Lib.decDigits, dif_pos hu]
  simp [Nat.mod_eq_of_lt hu]
 | N + 1, u, h, h2 => by
  have h3 : 10 ^ (N + 1) ≤ u := by rcases h2 with h2 | h2; exact h2; omega
  have h4 : 10 ≤ u := by
   have : 10 ^ 1 ≤ 10 ^ (N + 1) := Nat.pow_le_pow_right (by decide) (by omega)
   omega
  rw [Lib.decDigits, dif_neg (by omega), qDS N (u / 10) (by rw [Nat.pow_succ] at h; omega) (.inl (by rw [Nat.pow_succ] at h3; omega)), List.range_succ (n := N + 1), List.map_append]
  congr 1
  ·refine List.map_congr_left fun j hj => ?_
   have hj' := List.mem_range.1 hj
   rw [Nat.div_div_eq_div_mul, Nat.mul_comm, ← Nat.pow_succ, show (N - j).succ = N + 1 - j by omega]
  ·simp
open Go Go.AI
theorem qJ0 (u m : Nat) : dig ((u : Int) / 10 ^ m) = .p (.int .u8 ((UInt8.ofNat (48 + u / 10 ^ m % 10)).toNat : Int)) := by
 unfold dig
 rw [UInt8.toNat_ofNat', Nat.mod_eq_of_lt (by omega)]
 have : ((48 + u / 10 ^ m % 10 : Nat) : Int) = 48 + (u : Int) / 10 ^ m % 10 := by
  rw [Int.natCast_add, Int.natCast_emod, Int.natCast_ediv, Int.natCast_pow]; rfl
 rw [this]
theorem qLd (n u : Nat) (cs : List Cell) (hl : cs.length = 24) (hN : n + 1 ≤ 23) (h1 : u < 10 ^ (n + 1)) (h2 : 10 ^ n ≤ u ∨ n = 0) :
  ((wr cs (n + 1) (u : Int) (n + 1)).drop 1).take (n + 1) = (Lib.decDigits u).map fun b => Cell.p (.int .u8 (b.toNat : Int)) := by
 rw [qDS n u h1 h2, List.map_map]
 refine List.ext_getElem? fun j => ?_
 rw [List.getElem?_take, List.getElem?_map]
 by_cases hj : j < n + 1
 ·rw [if_pos hj, List.getElem?_drop, qH9 _ _ _ _ _ (Nat.le_refl _) (by omega), if_pos ⟨by omega, by omega⟩, List.getElem?_range hj]
  show some (dig _) = some _
  rw [show n + 1 - (1 + j) = n - j by omega, qJ0]; rfl
 ·rw [if_neg hj]
  rw [List.getElem?_eq_none (by simpa using hj)]; rfl
open Go Go.AI
def isStrR (r : Res1) (x : List UInt8) : Bool := match r with
 | some (.v (.c (.p (.str y))), []) => y == x
 | _ => false
theorem qGN {r : Res1} {x : List UInt8} (h : isStrR r x = true) : r = some (kS x, []) := by
 unfold isStrR at h
 split at h
 ·simp only [beq_iff_eq] at h; subst h; rfl
 ·cases h
def smallL (n : Nat) : List UInt8 := bif Nat.blt n 10 then [UInt8.ofNat (48 + n)] else [UInt8.ofNat (48 + n / 10), UInt8.ofNat (48 + n % 10)]
theorem qIU (n : Nat) (hn : n < 100) : smallL n = Lib.decDigits n := by
 unfold smallL
 by_cases h : n < 10
 ·rw [Lib.decDigits, dif_pos h, show Nat.blt n 10 = true from Nat.ble_eq_true_of_le h]; rfl
 ·have : Nat.blt n 10 = false := Bool.eq_false_iff.2 fun e => h (Nat.le_of_ble_eq_true e)
  rw [Lib.decDigits, dif_neg h, Lib.decDigits, dif_pos (by omega), this]
  rfl
theorem qHs : ((List.range 100).all fun n => isStrR (machU blks.get S 500 184 0 0 [kN .i64 (.ofNat n)] h0) (smallL n)) = true := by kernel_rfl
theorem qJS (n : Nat) (hn : n < 100) : Om 184 [kI (n : Int)] [] = some (kS (Lib.decDigits n), []) := by
 refine (qAE rfl).trans ?_
 rw [← qIU n hn]
 exact qAa blks_ok 500 184 0 0 _ _ _ (qGN (List.all_eq_true.1 qHs n (List.mem_range.2 hn)))
theorem qHZ (n : Int) (u g : Nat) (h : Heap) (cs : List Cell) (hp : plainC cs) (hl : cs.length = 24) (hg : h.get (.own 5 g) = some (.cells cs 0)) (hu : 1 ≤ u) (hu2 : u < 18446744073709551616) :
  lim tab.get S 178 0 1 [kI n, .v (.c (.ptr (.own 5 g) 0)), kN .u64 (u : Int)] h = some (kS (if n < 0 then 45 :: Lib.decDigits u else Lib.decDigits u), []) := by
 obtain ⟨N, hN, l1, l2, e185⟩ := qHT (u : Int) (by omega) (by omega)
 have l2 : 1 ≤ N ∧ (10 : Int) ^ (N - 1) ≤ u := by rcases l2 with l2 | l2; exact absurd l2 (by omega); exact l2
 obtain ⟨m, rfl⟩ : ∃ m, N = m + 1 := ⟨N - 1, by omega⟩
 have l1' : u < 10 ^ (m + 1) := by
  have : ((u : Nat) : Int) < ((10 ^ (m + 1) : Nat) : Int) := by rw [Int.natCast_pow]; exact l1
  omega
 have l2' : 10 ^ m ≤ u := by
  have : ((10 ^ m : Nat) : Int) ≤ ((u : Nat) : Int) := by rw [Int.natCast_pow]; exact l2.2
  omega
 have hw := qLd m u cs hl (by omega) l1' (.inl l2')
 have hwl : (wr cs (m + 1) (u : Int) (m + 1)).length = 24 := by rw [qHz, hl]
 have c1 : CAL 185 [kN .u64 (u : Int)] (kI ((m + 1 : Nat) : Int)) := qAD 185 _ _ rfl e185 rfl
 have w1 : IntKind.i64.wrap (1 + ((m + 1 : Nat) : Int)) = ((m + 2 : Nat) : Int) := by rw [qAF _ (by omega) (by omega)]; omega
 have s1 : ∀ {β : Type} {k : TVal → Heap → Option β} {d : Nat}, vop Om (.sliceA 24 1 (.k (.v (.c (.ptr (.own 5 g) 0)))) (some (.k (kI 1))) (some (.k (kI ((m + 2 : Nat) : Int))))) h d k = k (.v (.c (.sref (.own 5 g) 1 (m + 1) (some 23) 1))) h :=
  fun {β k d} => (qE4 24 1 (.own 5 g) 0 1 (m + 2) cs 0 (by omega) (by omega) (by omega) hg (by omega)).trans (by rw [show m + 2 - 1 = m + 1 by omega])
 have e186 := qMS (m + 1) (u : Int) cs hp hl (by omega) (by omega) (by omega) l1
 obtain ⟨xs, hxs⟩ := hp
 obtain ⟨ys, hys⟩ := qFQ (m + 1) cs (m + 1) (u : Int) ⟨xs, hxs⟩
 have hin : (TVal.v (.c (.sref (.own 5 g) 1 (m + 1) (some 23) 1))).ren (inn [.own 5 g]) = bufP (m + 1) := by
  show TVal.v (.c (match inn [Ref.own 5 g] (.own 5 g) with | some s => Cell.sref s 1 (m + 1) (some 23) 1 | none => .junk)) = _
  have : inn [Ref.own 5 g] (.own 5 g) = some (.im 0) := by simp [inn, idx]
  rw [this]
 have c2 : ∀ {β : Type} {k : TVal → Heap → Option β} {d : Nat}, vcall Om (.v (.c (.func 186 []))) [.v (.c (.sref (.own 5 g) 1 (m + 1) (some 23) 1)), kN .u64 (u : Int)] h d k = k (.tup []) (h.own 5 g (.cells (wr cs (m + 1) (u : Int) (m + 1)) 0)) :=
  fun {β k d} => qIo 186 (.own 5 g) (.v (.c (.sref (.own 5 g) 1 (m + 1) (some 23) 1))) (bufP (m + 1)) [] [kN .u64 (u : Int)] _ (.cells (wr cs (m + 1) (u : Int) (m + 1)) 0) (.tup []) rfl rfl
   hin rfl rfl hg (by rw [hxs]; exact qAn xs 0) (by rw [hys]; exact qAn ys 0) rfl e186
 have hg2 : (h.own 5 g (.cells (wr cs (m + 1) (u : Int) (m + 1)) 0)).get (.own 5 g) = some (.cells (wr cs (m + 1) (u : Int) (m + 1)) 0) := qAk _ _ _ _ _ (by omega)
 rw [w178_1, b178_1]
 by_cases hn : n < 0
 ·have i1 : ∀ {β : Type} {k : TVal → Heap → Option β} {h : Heap} {d : Nat}, vop Om (.iaddrA 24 1 (.k (.v (.c (.ptr (.own 5 g) 0)))) (.k (kI 0))) h d k = k (.v (.c (.ptr (.own 5 g) 0))) h := fun {β k h d} => qFV 24 1 _ 0 0 (by omega)
  have hp2 : put1 (wr cs (m + 1) (u : Int) (m + 1)) 0 [.p (.int .u8 45)] = .p (.int .u8 45) :: (wr cs (m + 1) (u : Int) (m + 1)).drop 1 := by
   unfold put1 splice; simp
  have hg3 : ((h.own 5 g (.cells (wr cs (m + 1) (u : Int) (m + 1)) 0)).own 5 g (.cells (.p (.int .u8 45) :: (wr cs (m + 1) (u : Int) (m + 1)).drop 1) 0)).get (.own 5 g) = some (.cells (.p (.int .u8 45) :: (wr cs (m + 1) (u : Int) (m + 1)).drop 1) 0) := qAk _ _ _ _ _ (by omega)
  have s2 : ∀ {β : Type} {k : TVal → Heap → Option β} {d : Nat}, vop Om (.sliceA 24 1 (.k (.v (.c (.ptr (.own 5 g) 0)))) none (some (.k (kI ((m + 2 : Nat) : Int))))) ((h.own 5 g (.cells (wr cs (m + 1) (u : Int) (m + 1)) 0)).own 5 g (.cells (.p (.int .u8 45) :: (wr cs (m + 1) (u : Int) (m + 1)).drop 1) 0)) d k = k (.v (.c (.sref (.own 5 g) 0 (m + 2) (some 24) 1))) ((h.own 5 g (.cells (wr cs (m + 1) (u : Int) (m + 1)) 0)).own 5 g (.cells (.p (.int .u8 45) :: (wr cs (m + 1) (u : Int) (m + 1)).drop 1) 0)) := fun {β k d} => by
   refine qC1 _ (.own 5 g) (fun
    | .cells cs _ => if 0 + 24 * 1 ≤ cs.length then some (.v (.c (.sref (.own 5 g) (0 + 0 * 1) (m + 2 - 0) (some (24 - 0)) 1))) else none
    | _ => none) _ _ ?_ hg3 ?_
   ·show (if 0 ≤ m + 2 ∧ m + 2 ≤ 24 ∧ 0 < 24 then some (Plan.read _ _) else none) = _
    rw [if_pos ⟨by omega, by omega, by omega⟩]
    rfl
   ·show (if _ then _ else _) = _
    rw [if_pos (by simp; omega)]
    rfl
  have t2 : ∀ {β : Type} {k : TVal → Heap → Option β} {d : Nat}, vop Om (.toStr (.k (.v (.c (.sref (.own 5 g) 0 (m + 2) (some 24) 1))))) ((h.own 5 g (.cells (wr cs (m + 1) (u : Int) (m + 1)) 0)).own 5 g (.cells (.p (.int .u8 45) :: (wr cs (m + 1) (u : Int) (m + 1)).drop 1) 0)) d k = k (kS (45 :: Lib.decDigits u)) ((h.own 5 g (.cells (wr cs (m + 1) (u : Int) (m + 1)) 0)).own 5 g (.cells (.p (.int .u8 45) :: (wr cs (m + 1) (u : Int) (m + 1)).drop 1) 0)) :=
   fun {β k d} => qCp (.own 5 g) 0 (m + 2) (some 24) _ 0 _ hg3 (by simp; omega) (by
    rw [List.drop_zero, List.take_succ_cons, hw]
    exact qCo (45 :: Lib.decDigits u))
  have q1 : 0 + 1 ≤ (wr cs (m + 1) (u : Int) (m + 1)).length := by omega
  simp (maxSteps := 9999999) +contextual only [exa, ne_eq, not_false_eq_true, reduceAdd, reduceMul, reduceLT, reduceLeDiff, reduceEqDiff, Int.reduceLT, Int.reduceLE, Int.reduceEq, Int.reduceToNat, c1, w1, s1, c2, hn, i1, hg2, q1, hp2, s2, t2, oneOf, if_true]
 ·have s2 : ∀ {β : Type} {k : TVal → Heap → Option β} {d : Nat}, vop Om (.sliceA 24 1 (.k (.v (.c (.ptr (.own 5 g) 0)))) (some (.k (kI 1))) (some (.k (kI ((m + 2 : Nat) : Int))))) (h.own 5 g (.cells (wr cs (m + 1) (u : Int) (m + 1)) 0)) d k = k (.v (.c (.sref (.own 5 g) 1 (m + 1) (some 23) 1))) (h.own 5 g (.cells (wr cs (m + 1) (u : Int) (m + 1)) 0)) :=
   fun {β k d} => (qE4 24 1 (.own 5 g) 0 1 (m + 2) _ 0 (by omega) (by omega) (by omega) hg2 (by omega)).trans (by rw [show m + 2 - 1 = m + 1 by omega])
  have t2 : ∀ {β : Type} {k : TVal → Heap → Option β} {d : Nat}, vop Om (.toStr (.k (.v (.c (.sref (.own 5 g) 1 (m + 1) (some 23) 1))))) (h.own 5 g (.cells (wr cs (m + 1) (u : Int) (m + 1)) 0)) d k = k (kS (Lib.decDigits u)) (h.own 5 g (.cells (wr cs (m + 1) (u : Int) (m + 1)) 0)) :=
   fun {β k d} => qCp (.own 5 g) 1 (m + 1) (some 23) _ 0 _ hg2 (by omega) (by rw [hw]; exact qCo _)
  simp (maxSteps := 9999999) +contextual only [exa, ne_eq, not_false_eq_true, reduceAdd, reduceMul, reduceLT, reduceLeDiff, reduceEqDiff, Int.reduceLT, Int.reduceLE, Int.reduceEq, Int.reduceToNat, c1, w1, s1, c2, hn, s2, t2, oneOf, if_false]
theorem qF8 : plainC (List.replicate 24 (.p (.int .u8 0))) := ⟨List.replicate 24 (.int .u8 0), by unfold pcells; rw [List.map_replicate]⟩
theorem qLf (n : Int) (h1 : -9223372036854775808 ≤ n) (h2 : n ≤ 9223372036854775807) : Om 178 [kI n, kI 10] [] = some (kS (Lib.itoa n), []) := by
 refine (qAE rfl).trans ?_
 show lim tab.get S 178 0 0 [kI n, kI 10] h0 = _
 rw [w178_0, b178_0]
 by_cases hn : n < 0
 ·have e1 : IntKind.u64.wrap (0 - IntKind.u64.wrap n) = ((n.natAbs : Nat) : Int) := by
   have w : ∀ z : Int, IntKind.u64.wrap z = z % 18446744073709551616 := fun z => rfl
   rw [w, w]
   omega
  have hx : ¬ (0 : Int) ≤ n := by omega
  simp (maxSteps := 9999999) +contextual only [exa, ne_eq, not_false_eq_true, reduceAdd, reduceMul, reduceLT, reduceLeDiff, reduceEqDiff, Int.reduceLT, Int.reduceLE, Int.reduceEq, Int.reduceToNat, hn, hx, e1]
  refine (qHZ n n.natAbs 1 _ (List.replicate 24 (.p (.int .u8 0))) qF8 rfl (qAk h0 5 1 _ 0 (by decide)) (by omega) (by omega)).trans ?_
  rw [if_pos hn]
  unfold Lib.itoa
  rw [if_pos hn]
 ·by_cases hs : n < 100
  ·obtain ⟨m, rfl⟩ : ∃ m : Nat, n = m := ⟨n.toNat, by omega⟩
   have c1 : CAL 184 [kI (m : Int)] (kS (Lib.decDigits m)) := qAD 184 _ _ rfl (qJS m (by omega)) rfl
   simp (maxSteps := 9999999) +contextual only [exa, ne_eq, not_false_eq_true, reduceAdd, reduceMul, reduceLT, reduceLeDiff, reduceEqDiff, Int.reduceLT, Int.reduceLE, Int.reduceEq, Int.reduceToNat, hn, hs, c1, oneOf]
   unfold Lib.itoa
   rw [if_neg hn, Int.toNat_natCast]
  ·obtain ⟨m, rfl⟩ : ∃ m : Nat, n = m := ⟨n.toNat, by omega⟩
   have e1 : IntKind.u64.wrap (m : Int) = (m : Int) := qBo _ (by omega) (by omega)
   simp (maxSteps := 9999999) +contextual only [exa, ne_eq, not_false_eq_true, reduceAdd, reduceMul, reduceLT, reduceLeDiff, reduceEqDiff, Int.reduceLT, Int.reduceLE, Int.reduceEq, Int.reduceToNat, hn, hs, e1]
   refine (qHZ (m : Int) m 1 _ (List.replicate 24 (.p (.int .u8 0))) qF8 rfl (qAk h0 5 1 _ 0 (by decide)) (by omega) (by omega)).trans ?_
   rw [if_neg hn]
   unfold Lib.itoa
   rw [if_neg hn, Int.toNat_natCast]
theorem qL9 (n : Int) (h1 : -9223372036854775808 ≤ n) (h2 : n ≤ 9223372036854775807) : Om 154 [kI n, kI 10] [] = some (kS (Lib.itoa n), []) := by
 have c1 : CAL 178 [kI n, kI 10] (kS (Lib.itoa n)) := qAD 178 _ _ rfl (qLf n h1 h2) rfl
 refine (qAE rfl).trans ?_
 show lim tab.get S 154 0 0 [kI n, kI 10] h0 = _
 rw [w154_0, b154_0]
 simp (maxSteps := 9999999) +contextual only [exa, ne_eq, not_false_eq_true, reduceAdd, reduceMul, reduceLT, reduceLeDiff, reduceEqDiff, Int.reduceLT, Int.reduceLE, Int.reduceEq, Int.reduceToNat, c1, oneOf]
theorem qL3 (b : Bool) : Om 155 [kB b] [] = some (kS (if b = true then trueS else falseS), []) := by
 refine (qAE rfl).trans ?_
 cases b
 ·exact qAa blks_ok 500 155 0 0 _ _ _ (by kernel_rfl)
 ·exact qAa blks_ok 500 155 0 0 _ _ _ (by kernel_rfl)
open Go Go.AI
def rngN (n : Int) : Prop := -9223372036854775808 ≤ n ∧ n ≤ 9223372036854775807
def wrtM (v : VT) : VT × Int := if v.kind = 2 then (txtV (Lib.itoa v.n), 0) else if v.kind = 1 then (txtV (if v.b = true then trueS else falseS), 0) else (VT.nul, 17)
theorem qHH (v : VT) (hr : rngN v.n) : Om 90 [kA v.row] [] = some (ansE (wrtM v), []) := by
 have c1 : CAL 154 [kI v.n, kI 10] (kS (Lib.itoa v.n)) := qAD 154 _ _ rfl (qL9 v.n hr.1 hr.2) rfl
 have c2 : CAL 155 [kB v.b] (kS (if v.b = true then trueS else falseS)) := qAD 155 _ _ rfl (qL3 v.b) rfl
 refine (qAE rfl).trans ?_
 show lim tab.get S 90 0 0 [kA v.row] h0 = _
 rw [w90_0, b90_0]
 unfold wrtM
 by_cases h2 : v.kind = 2
 ·rw [if_pos h2]
  simp (maxSteps := 9999999) +contextual only [exa, ne_eq, not_false_eq_true, reduceAdd, reduceMul, reduceLT, reduceLeDiff, reduceEqDiff, Int.reduceLT, Int.reduceLE, Int.reduceEq, Int.reduceToNat, h2, c1, qJO, qAO _ (VT.row_len (txtV _))]
  rfl
 rw [if_neg h2]
 by_cases h1 : v.kind = 1
 ·rw [if_pos h1]
  simp (maxSteps := 9999999) +contextual only [exa, ne_eq, not_false_eq_true, reduceAdd, reduceMul, reduceLT, reduceLeDiff, reduceEqDiff, Int.reduceLT, Int.reduceLE, Int.reduceEq, Int.reduceToNat, h1, h2, c2, qJO, qAO _ (VT.row_len (txtV _))]
  rfl
 rw [if_neg h1]
 simp (maxSteps := 9999999) +contextual only [exa, ne_eq, not_false_eq_true, reduceAdd, reduceMul, reduceLT, reduceLeDiff, reduceEqDiff, Int.reduceLT, Int.reduceLE, Int.reduceEq, Int.reduceToNat, h1, h2, qC5]
 rfl
theorem qKs (t : Bool) (v : VT) (hr : rngN v.n) : Om 38 [kS n_text, kSl 6 t [v.row]] [] = some (ansE (wrtM v), []) := by
 refine (qAE rfl).trans ?_
 show lim tab.get S 38 0 0 [kS n_text, kSl 6 t [v.row]] h0 = _
 have hc := qHH v hr
 generalize (wrtM v) = p at hc ⊢
 have cc : CAL 90 [kA v.row] (.tup [.agg (pcells p.1.row), .c (.p (.int .i64 p.2))]) := qAD 90 _ _ (by simp only [exP]) hc (by simp only [exP])
 rw [w38_0, b38_0]
 simp (maxSteps := 9999999) +contextual only [exa, ne_eq, not_false_eq_true, reduceAdd, reduceMul, reduceLT, reduceLeDiff, reduceEqDiff, Int.reduceLT, Int.reduceLE, Int.reduceEq, Int.reduceToNat, qFy, qFz, qHf, qEc, qEb, qDm, qB4, qB7, cc, qAO _ (VT.row_len p.1)]
 rw [w38_1, b38_1]
 simp (maxSteps := 9999999) +contextual only [exa, ne_eq, not_false_eq_true, reduceAdd, reduceMul, reduceLT, reduceLeDiff, reduceEqDiff, Int.reduceLT, Int.reduceLE, Int.reduceEq, Int.reduceToNat, qFy, qFz, qHf, qEc, qEb, qDm, qB4, qB7, cc, qAO _ (VT.row_len p.1)]
 rfl
open Go Go.AI
open Go Go.AI
theorem u36' {β : Type} {k : TVal → Heap → Option β} {h : Heap} {d : Nat} : vcall Om (.v (.c (.func 36 []))) [] h d k = k (kB true) h := qAD 36 _ _ rfl qKk rfl
open Go Go.AI
def isD (b : UInt8) : Bool := decide (48 ≤ b.toNat) && decide (b.toNat ≤ 57)
def valD : List UInt8 → Nat → Nat
 | [], a => a
 | b :: l, a => valD l (10 * a + (b.toNat - 48))
theorem qE7 : ∀ (l m : List UInt8) (a : Nat), valD (l ++ m) a = valD m (valD l a)
 | [], _, _ => rfl
 | b :: l, m, a => by rw [List.cons_append, valD, qE7 l m]; rfl
theorem qBh : ∀ (m u : Nat), u < m → valD (Lib.decDigits u) 0 = u ∧ (∀ b ∈ Lib.decDigits u, isD b = true) ∧ Lib.decDigits u ≠ []
 | 0, _, h => by omega
 | m + 1, u, h => by
  have one : ∀ x, x < 10 → (UInt8.ofNat (48 + x)).toNat = 48 + x := fun x hx => by rw [UInt8.toNat_ofNat', Nat.mod_eq_of_lt (by omega)]
  rw [Lib.decDigits]
  by_cases h1 : u < 10
  ·rw [dif_pos h1]
   refine ⟨?_, fun b hb => ?_, by simp⟩
   ·rw [valD, valD, one u h1]; omega
   ·obtain rfl := List.mem_singleton.1 hb
    unfold isD
    rw [one u h1]
    simp; omega
  ·rw [dif_neg h1]
   obtain ⟨i1, i2, i3⟩ := qBh m (u / 10) (by omega)
   refine ⟨?_, fun b hb => ?_, by simp⟩
   ·rw [qE7, i1, valD, valD, one _ (by omega)]; omega
   ·rcases List.mem_append.1 hb with hb | hb
    ·exact i2 b hb
    ·obtain rfl := List.mem_singleton.1 hb
     unfold isD
     rw [one _ (by omega)]
     simp; omega
theorem qB0 : ∀ (N u : Nat), u < 10 ^ (N + 1) → (Lib.decDigits u).length ≤ N + 1
 | 0, u, h => by
  have hu : u < 10 := by simpa using h
  rw [Lib.decDigits, dif_pos hu]; simp
 | N + 1, u, h => by
  rw [Lib.decDigits]
  split
  ·simp
  ·have := qB0 N (u / 10) (by rw [Nat.pow_succ] at h; omega)
   simp; omega
theorem qDB : ∀ (m u : Nat), u < m → (Lib.decDigits u).head? = some 48 → u = 0
 | 0, _, h, _ => by omega
 | m + 1, u, h, e => by
  rw [Lib.decDigits] at e
  by_cases h1 : u < 10
  ·rw [dif_pos h1] at e
   have e1 : UInt8.ofNat (48 + u) = 48 := by simpa using e
   have : (UInt8.ofNat (48 + u)).toNat = 48 := by rw [e1]; rfl
   rw [UInt8.toNat_ofNat', Nat.mod_eq_of_lt (by omega)] at this
   omega
  ·rw [dif_neg h1] at e
   have hne := (qBh (u / 10 + 1) (u / 10) (by omega)).2.2
   have e1 : (Lib.decDigits (u / 10)).head? = some 48 := by
    cases hd : Lib.decDigits (u / 10) with
    | nil => exact absurd hd hne
    | cons a l => rw [hd] at e; simpa using e
   have := qDB m (u / 10) (by omega) e1
   omega
theorem num2 (x0 : TVal) (ds : List UInt8) (hd : ∀ b ∈ ds, isD b = true) (hl : ds.length ≤ 19) (h : Heap) :
  ∀ (i : Nat) (a : Nat), i ≤ ds.length → a < 10 ^ i → lim tab.get S 165 0 2 [x0, kS ds, kN .u64 (a : Int), kI (i : Int)] h = lim tab.get S 165 0 3 [x0, kN .u64 ((valD (ds.drop i) a : Nat) : Int)] h := by
 refine qBg ds.length (fun i hi a hia ha => ?_) (fun i hi ihl a hia ha => ?_) <;> rw [w165_2, b165_2]
 ·have h1 : ¬ (i : Int) < (ds.length : Int) := by omega
  simp (maxSteps := 9999999) +contextual only [exa, ne_eq, not_false_eq_true, reduceAdd, reduceMul, reduceLT, reduceLeDiff, reduceEqDiff, Int.reduceLT, Int.reduceLE, Int.reduceEq, Int.reduceToNat, h1, qDK hi, valD]
 ·have h1 : (i : Int) < (ds.length : Int) := by omega
  obtain ⟨b, hb, hdr, hm⟩ := qAz hi
  have hbd := hd b hm
  unfold isD at hbd
  simp only [Bool.and_eq_true, decide_eq_true_eq] at hbd
  have hp : (10 : Nat) ^ i ≤ 10 ^ 18 := Nat.pow_le_pow_right (by decide) (by omega)
  have hp2 : (10 : Nat) ^ 18 = 1000000000000000000 := by decide
  have w1 : IntKind.u8.wrap ((b.toNat : Int) - 48) = ((b.toNat - 48 : Nat) : Int) := by
   rw [qAI .u8 _ (by show (0 : Int) ≤ _; omega) (by show _ ≤ (255 : Int); omega)]; omega
  have w2 : IntKind.u64.wrap ((a : Int) * 10) = ((a * 10 : Nat) : Int) := by rw [qBo _ (by omega) (by omega)]; omega
  have w3 : IntKind.u64.wrap ((b.toNat - 48 : Nat) : Int) = ((b.toNat - 48 : Nat) : Int) := qBo _ (by omega) (by omega)
  have w4 : IntKind.u64.wrap (((a * 10 : Nat) : Int) + ((b.toNat - 48 : Nat) : Int)) = ((10 * a + (b.toNat - 48) : Nat) : Int) := by rw [qBo _ (by omega) (by omega)]; omega
  simp (maxSteps := 9999999) +contextual only [exa, ne_eq, not_false_eq_true, reduceAdd, reduceMul, reduceLT, reduceLeDiff, reduceEqDiff, Int.reduceLT, Int.reduceLE, Int.reduceEq, Int.reduceToNat, h1, hb, w1, w2, w3, w4, qAm i (by omega)]
  rw [hdr, valD]
  exact ihl _ (by omega) (by rw [Nat.pow_succ]; omega)
theorem qHk (n : Int) (h1 : -9223372036854775808 ≤ n) (h2 : n ≤ 9223372036854775807) : Om 165 [kS (Lib.itoa n)] [] = some (.tup [.c (.p (.int .i64 n)), .c (.p (.int .i64 0))], []) := by
 refine (qAE rfl).trans ?_
 show lim tab.get S 165 0 0 [kS (Lib.itoa n)] h0 = _
 have pw : (10 : Nat) ^ 19 = 10000000000000000000 := by decide
 have one : ((1 : Nat) : Int) = 1 := rfl
 unfold Lib.itoa
 by_cases h0 : n < 0
 ·rw [if_pos h0]
  obtain ⟨v1, v2, v3⟩ := qBh (n.natAbs + 1) n.natAbs (by omega)
  have ll := qB0 18 n.natAbs (by omega)
  have sl : ∀ {β : Type} {O : Oracle} {h : Heap} {d : Nat} {k : TVal → Heap → Option β}, vop O (.slice 0 true (.k (kS (45 :: Lib.decDigits n.natAbs))) (some (.k (kI 1))) none none) h d k = k (kS (Lib.decDigits n.natAbs)) h := fun {β O h d k} => qJj (45 :: Lib.decDigits n.natAbs) 1 (by simp)
  have h19 : ¬ (19 : Int) < ((Lib.decDigits n.natAbs).length : Int) := by omega
  rw [w165_0, b165_0]
  simp (maxSteps := 9999999) +contextual only [exa, ne_eq, not_false_eq_true, reduceAdd, reduceMul, reduceLT, reduceLeDiff, reduceEqDiff, Int.reduceLT, Int.reduceLE, Int.reduceEq, Int.reduceToNat, sl, show ((45 : UInt8).toNat : Int) = 45 from rfl, Int.toNat_zero]
  rw [w165_1, b165_1]
  simp (maxSteps := 9999999) +contextual only [exa, ne_eq, not_false_eq_true, reduceAdd, reduceMul, reduceLT, reduceLeDiff, reduceEqDiff, Int.reduceLT, Int.reduceLE, Int.reduceEq, Int.reduceToNat, h19]
  refine (num2 _ _ v2 (by omega) _ 0 0 (by omega) (by decide)).trans ?_
  rw [List.drop_zero, v1, w165_3, b165_3]
  have w5 : ¬ (9223372036854775808 : Int) < ((n.natAbs : Nat) : Int) := by omega
  have w6 : IntKind.i64.wrap (IntKind.u64.wrap (0 - ((n.natAbs : Nat) : Int))) = n := by
   have e : ∀ z : Int, IntKind.u64.wrap z = z % 18446744073709551616 := fun z => rfl
   rw [e]
   have e2 : (0 - ((n.natAbs : Nat) : Int)) % 18446744073709551616 = n + 18446744073709551616 := by omega
   rw [e2]
   show (if (true && decide ((n + 18446744073709551616) % 18446744073709551616 ≥ (9223372036854775808 : Int))) = true then _ else _) = n
   have e3 : (n + 18446744073709551616) % 18446744073709551616 = n + 18446744073709551616 := by omega
   rw [e3, if_pos (by simp; omega)]
   show (n + 18446744073709551616) % 18446744073709551616 - 18446744073709551616 = n
   omega
  simp (maxSteps := 9999999) +contextual only [exa, ne_eq, not_false_eq_true, reduceAdd, reduceMul, reduceLT, reduceLeDiff, reduceEqDiff, Int.reduceLT, Int.reduceLE, Int.reduceEq, Int.reduceToNat, show ((45 : UInt8).toNat : Int) = 45 from rfl, Int.toNat_zero, w5, w6, oneOf]
 ·rw [if_neg h0]
  obtain ⟨v1, v2, v3⟩ := qBh (n.toNat + 1) n.toNat (by omega)
  have ll := qB0 18 n.toNat (by omega)
  have h19 : ¬ (19 : Int) < ((Lib.decDigits n.toNat).length : Int) := by omega
  obtain ⟨b, l, hbl⟩ : ∃ b l, Lib.decDigits n.toNat = b :: l := by
   cases hd : Lib.decDigits n.toNat with
   | nil => exact absurd hd v3
   | cons b l => exact ⟨b, l, rfl⟩
  have hbd := v2 b (by rw [hbl]; simp)
  unfold isD at hbd
  simp only [Bool.and_eq_true, decide_eq_true_eq] at hbd
  have b45 : ¬ ((b.toNat : Nat) : Int) = 45 := by omega
  have hidx : (Lib.decDigits n.toNat)[(0 : Nat)]? = some b := by rw [hbl]; rfl
  rw [w165_0, b165_0]
  simp (maxSteps := 9999999) +contextual only [exa, ne_eq, not_false_eq_true, reduceAdd, reduceMul, reduceLT, reduceLeDiff, reduceEqDiff, Int.reduceLT, Int.reduceLE, Int.reduceEq, Int.reduceToNat, hidx, b45, Int.toNat_zero]
  rw [w165_1, b165_1]
  simp (maxSteps := 9999999) +contextual only [exa, ne_eq, not_false_eq_true, reduceAdd, reduceMul, reduceLT, reduceLeDiff, reduceEqDiff, Int.reduceLT, Int.reduceLE, Int.reduceEq, Int.reduceToNat, h19]
  refine (num2 _ _ v2 (by omega) _ 0 0 (by omega) (by decide)).trans ?_
  rw [List.drop_zero, v1, w165_3, b165_3]
  have w5 : ¬ (9223372036854775807 : Int) < ((n.toNat : Nat) : Int) := by omega
  have w6 : IntKind.i64.wrap ((n.toNat : Nat) : Int) = n := by rw [qAF _ (by omega) (by omega)]; omega
  simp (maxSteps := 9999999) +contextual only [exa, ne_eq, not_false_eq_true, reduceAdd, reduceMul, reduceLT, reduceLeDiff, reduceEqDiff, Int.reduceLT, Int.reduceLE, Int.reduceEq, Int.reduceToNat, hidx, b45, Int.toNat_zero, w5, w6, oneOf]
open Go Go.AI
abbrev P0 : TVal := .v (.c (.ptr (.im 0) 0))
abbrev rdO (s : List UInt8) (p e : Int) : AObj := .cells (pcells [.str s, .int .i64 p, .int .i64 e]) 0
theorem qMK (a b c x : PVal) : put1 (pcells [a, b, c]) 1 [.p x] = pcells [a, x, c] := rfl
theorem qHP (a b c : PVal) : (pcells [a, b, c]).length = 3 := rfl
theorem qAl (s : List UInt8) (p e : Int) : plainO (rdO s p e) := qAn _ 0
def noBl (s : List UInt8) (p : Nat) : Prop := ∀ b, s[p]? = some b → b.toNat ≠ 32 ∧ b.toNat ≠ 9 ∧ b.toNat ≠ 10 ∧ b.toNat ≠ 13
theorem qJN (s : List UInt8) (p : Nat) (e : Int) (hb : noBl s p) : Om 67 [P0] [rdO s p e] = some (.tup [], [rdO s p e]) := by
 refine (qAE rfl).trans ?_
 show lim tab.get S 67 1 0 [P0] { ims := [rdO s p e], owns := .nil } = _
 rw [w67_0, b67_0, w67_1, b67_1]
 by_cases h : p < s.length
 ·have h1 : (p : Int) < (s.length : Int) := by omega
  obtain ⟨b, hs, _, _⟩ := qAz h
  obtain ⟨q1, q2, q3, q4⟩ := hb b hs
  have r1 : ¬ ((b.toNat : Nat) : Int) = 32 := by omega
  have r2 : ¬ ((b.toNat : Nat) : Int) = 9 := by omega
  have r3 : ¬ ((b.toNat : Nat) : Int) = 10 := by omega
  have r4 : ¬ ((b.toNat : Nat) : Int) = 13 := by omega
  simp (maxSteps := 9999999) +contextual only [exa, ne_eq, not_false_eq_true, reduceAdd, reduceMul, reduceLT, reduceLeDiff, reduceEqDiff, Int.reduceLT, Int.reduceLE, Int.reduceEq, Int.reduceToNat, h1, hs, r1, r2, r3, r4, oneOf]
 ·have h1 : ¬ (p : Int) < (s.length : Int) := by omega
  simp (maxSteps := 9999999) +contextual only [exa, ne_eq, not_false_eq_true, reduceAdd, reduceMul, reduceLT, reduceLeDiff, reduceEqDiff, Int.reduceLT, Int.reduceLE, Int.reduceEq, Int.reduceToNat, h1, oneOf]
theorem u67 {β : Type} {k : TVal → Heap → Option β} {h : Heap} {d : Nat} (r : Ref) (s : List UInt8) (p : Nat) (e : Int) (hb : noBl s p) (hg : h.get r = some (rdO s p e)) : vcall Om (.v (.c (.func 67 []))) [.v (.c (.ptr r 0))] h d k = k (.tup []) (h.put r (rdO s p e)) :=
 qB2 67 r 0 [] [] _ _ _ rfl rfl hg (qAl _ _ _) (qAl _ _ _) rfl (qJN s p e hb)
theorem qMT (s w : List UInt8) (p n : Nat) (a b : UInt8) (hs : s[p]? = some a) (hw : w[0]? = some b) (hn : 0 < n) (hab : a ≠ b) : ((s.take (p + n)).drop p) ≠ w := by
 intro e
 have : ((s.take (p + n)).drop p)[0]? = some a := by
  rw [List.getElem?_drop, List.getElem?_take, if_pos (by omega), Nat.add_zero, hs]
 rw [e, hw] at this
 exact hab (Option.some.inj this).symm
def nullS : List UInt8 := [110, 117, 108, 108]
theorem qLR (s : List UInt8) (p : Nat) (e : Int) (b : UInt8) (hs : s[p]? = some b) (hl : s.length ≤ 100000) (q1 : b ≠ 110) (q2 : b ≠ 102) (q3 : b ≠ 116) : Om 125 [P0] [rdO s p e] = some (.tup [.agg (pcells VT.nul.row), .c (.p (.bool false))], [rdO s p e]) := by
 obtain ⟨hp, _⟩ := List.getElem?_eq_some_iff.1 hs
 refine (qAE rfl).trans ?_
 show lim tab.get S 125 1 0 [P0] { ims := [rdO s p e], owns := .nil } = _
 have step : ∀ (w : List UInt8) (c : UInt8) (n : Nat) (hn : w.length = n) (h0 : 0 < n) (hw : w[0]? = some c) (hbc : b ≠ c) {β : Type} {k : TVal → Heap → Option β} {h : Heap} {d : Nat}, (p : Int) + (n : Int) ≤ (s.length : Int) →
   vop Om (.slice 0 true (.k (kS s)) (some (.k (kI (p : Int)))) (some (.k (kI ((p : Int) + (n : Int))))) none) h d k = k (kS ((s.take (p + n)).drop p)) h := by
  intro w c n hn h0 hw hbc β k h d hle
  exact qD5 s p (p + n) (by omega) (by omega)
 rw [w125_0, b125_0]
 have three : ∀ (i : Nat) (w : List UInt8) (c : UInt8) (n : Nat) (h : Heap), (i : Int) < 3 → ([[.str nullS], [.str falseS], [.str trueS]] : List (List PVal))[i]? = some [.str w] → w.length = n → 0 < n → n ≤ 10 → w[0]? = some c → b ≠ c → h.get (.im 0) = some (rdO s p e) → ∀ x2 : TVal,
   lim tab.get S 125 1 1 [P0, x2, kSl 1 true [[.str nullS], [.str falseS], [.str trueS]], kI (i : Int)] h = lim tab.get S 125 1 1 [P0, x2, kSl 1 true [[.str nullS], [.str falseS], [.str trueS]], kI ((i + 1 : Nat) : Int)] h := by
  intro i w c n h hi hw hn h0 h10 hc hbc hg x2
  have wa : IntKind.i64.wrap ((p : Int) + (n : Int)) = (p : Int) + (n : Int) := qAF _ (by omega) (by omega)
  have lw : ((w.length : Nat) : Int) = (n : Int) := by rw [hn]
  conv => lhs; rw [w125_1, b125_1]
  by_cases hle : (p : Int) + (n : Int) ≤ (s.length : Int)
  ·have hle' : ¬ (s.length : Int) < (p : Int) + (n : Int) := by omega
   have st := fun {β : Type} {k : TVal → Heap → Option β} {h : Heap} {d : Nat} => step w c n hn h0 hc hbc (k := k) (h := h) (d := d) hle
   have ne := qMT s w p n b c hs hc h0 hbc
   simp (maxSteps := 9999999) +contextual only [exa, ne_eq, not_false_eq_true, reduceAdd, reduceMul, reduceLT, reduceLeDiff, reduceEqDiff, Int.reduceLT, Int.reduceLE, Int.reduceEq, Int.reduceToNat, hi, hw, lw, hg, wa, hle', st, ne, qAm i (by omega)]
  ·have hle' : (s.length : Int) < (p : Int) + (n : Int) := by omega
   simp (maxSteps := 9999999) +contextual only [exa, ne_eq, not_false_eq_true, reduceAdd, reduceMul, reduceLT, reduceLeDiff, reduceEqDiff, Int.reduceLT, Int.reduceLE, Int.reduceEq, Int.reduceToNat, hi, hw, lw, hg, wa, hle', qAm i (by omega)]
 have B : ∀ {β : Type} {O : Oracle} {h : Heap} {d : Nat} {k : TVal → Heap → Option β}, vop O (.bslice 1 3 [.p (.str [])] [(0, .k (kS [110, 117, 108, 108])), (1, .k (kS [102, 97, 108, 115, 101])), (2, .k (kS [116, 114, 117, 101]))] false) h d k = k (kSl 1 true [[.str nullS], [.str falseS], [.str trueS]]) h := fun {β O h d k} => qAW _ _ rfl
 simp (maxSteps := 9999999) +contextual only [exa, ne_eq, not_false_eq_true, reduceAdd, reduceMul, reduceLT, reduceLeDiff, reduceEqDiff, Int.reduceLT, Int.reduceLE, Int.reduceEq, Int.reduceToNat, B]
 have g1 : ∀ o : AObj, ((Heap.mk [rdO s p e] .nil).own 2 1 o).get (.im 0) = some (rdO s p e) := fun _ => rfl
 refine (three 0 nullS 110 4 _ (by decide) rfl rfl (by decide) (by decide) rfl q1 (g1 _) _).trans ?_
 refine (three 1 falseS 102 5 _ (by decide) rfl rfl (by decide) (by decide) rfl q2 (g1 _) _).trans ?_
 refine (three 2 trueS 116 4 _ (by decide) rfl rfl (by decide) (by decide) rfl q3 (g1 _) _).trans ?_
 rw [w125_1, b125_1]
 have h3 : ((2 + 1 : Nat) : Int) = 3 := rfl
 simp (maxSteps := 9999999) +contextual only [exa, ne_eq, not_false_eq_true, reduceAdd, reduceMul, reduceLT, reduceLeDiff, reduceEqDiff, Int.reduceLT, Int.reduceLE, Int.reduceEq, Int.reduceToNat, h3]
 rw [w125_2, b125_2]
 simp (maxSteps := 9999999) +contextual only [exa, ne_eq, not_false_eq_true, reduceAdd, reduceMul, reduceLT, reduceLeDiff, reduceEqDiff, Int.reduceLT, Int.reduceLE, Int.reduceEq, Int.reduceToNat, qC5, oneOf]
 rfl
open Go Go.AI
theorem qJ5 (b : UInt8) : Om 126 [kU b] [] = some (kB (isD b), []) := by
 refine (qAE rfl).trans ?_
 show lim tab.get S 126 0 0 [kU b] h0 = _
 rw [w126_0, b126_0]
 unfold isD
 by_cases h1 : (b.toNat : Int) < 48
 ·have h2 : ¬ 48 ≤ b.toNat := by omega
  simp (maxSteps := 9999999) +contextual only [exa, ne_eq, not_false_eq_true, reduceAdd, reduceMul, reduceLT, reduceLeDiff, reduceEqDiff, Int.reduceLT, Int.reduceLE, Int.reduceEq, Int.reduceToNat, h1, h2, oneOf]
 ·have h2 : 48 ≤ b.toNat := by omega
  by_cases h3 : (57 : Int) < (b.toNat : Int)
  ·have h4 : ¬ b.toNat ≤ 57 := by omega
   simp (maxSteps := 9999999) +contextual only [exa, ne_eq, not_false_eq_true, reduceAdd, reduceMul, reduceLT, reduceLeDiff, reduceEqDiff, Int.reduceLT, Int.reduceLE, Int.reduceEq, Int.reduceToNat, h1, h2, h3, h4, oneOf]
  ·have h4 : b.toNat ≤ 57 := by omega
   simp (maxSteps := 9999999) +contextual only [exa, ne_eq, not_false_eq_true, reduceAdd, reduceMul, reduceLT, reduceLeDiff, reduceEqDiff, Int.reduceLT, Int.reduceLE, Int.reduceEq, Int.reduceToNat, h1, h2, h3, h4, oneOf]
theorem qDw {β : Type} {k : TVal → Heap → Option β} {h : Heap} {d : Nat} (b : UInt8) : vcall Om (.v (.c (.func 126 []))) [kU b] h d k = k (kB (isD b)) h := qAD 126 _ _ rfl (qJ5 b) rfl
theorem qES (n : Int) (h1 : -9223372036854775808 ≤ n) (h2 : n ≤ 9223372036854775807) : ∃ (m : Nat) (ds : List UInt8), (m = 0 ∧ Lib.itoa n = ds ∨ m = 1 ∧ Lib.itoa n = 45 :: ds) ∧ (∀ b ∈ ds, isD b = true) ∧ ds ≠ [] ∧ ds.length ≤ 19 ∧ (ds[0]? = some 48 → ds.length = 1) := by
 have pw : (10 : Nat) ^ 19 = 10000000000000000000 := by decide
 have z : Lib.decDigits 0 = [48] := by rw [Lib.decDigits, dif_pos (by decide)]; rfl
 have hd : ∀ l : List UInt8, l[0]? = some 48 → l.head? = some 48 := fun l h => by cases l with | nil => cases h | cons a l => exact h
 unfold Lib.itoa
 by_cases h0 : n < 0
 ·obtain ⟨v1, v2, v3⟩ := qBh (n.natAbs + 1) n.natAbs (by omega)
  refine ⟨1, Lib.decDigits n.natAbs, .inr ⟨rfl, by rw [if_pos h0]⟩, v2, v3, qB0 18 _ (by omega), fun e => ?_⟩
  have := qDB (n.natAbs + 1) n.natAbs (by omega) (hd _ e)
  rw [this, z]; rfl
 ·obtain ⟨v1, v2, v3⟩ := qBh (n.toNat + 1) n.toNat (by omega)
  refine ⟨0, Lib.decDigits n.toNat, .inl ⟨rfl, by rw [if_neg h0]⟩, v2, v3, qB0 18 _ (by omega), fun e => ?_⟩
  have := qDB (n.toNat + 1) n.toNat (by omega) (hd _ e)
  rw [this, z]; rfl
abbrev r2 : TVal := .v (.c (.ptr (.own 2 1) 0))
theorem qJ3 (s : List UInt8) (e : Int) (x2 : TVal) (h : Heap) (hg : h.get (.im 0) = some (rdO s 0 e)) (hl : s.length ≤ 100000) :
  ∀ k : Nat, (∀ i b, k ≤ i → s[i]? = some b → isD b = true) → k ≤ s.length → lim tab.get S 130 1 2 [P0, x2, kI (k : Int)] h = lim tab.get S 130 1 3 [P0, x2, kI (s.length : Int)] h := by
 refine qBg s.length (fun i hi hd hk => ?_) (fun i hi ihl hd hk => ?_) <;> rw [w130_2, b130_2]
 ·have h1 : ¬ (i : Int) < (s.length : Int) := by omega
  have h2 : i = s.length := by omega
  subst h2
  simp (maxSteps := 9999999) +contextual only [exa, ne_eq, not_false_eq_true, reduceAdd, reduceMul, reduceLT, reduceLeDiff, reduceEqDiff, Int.reduceLT, Int.reduceLE, Int.reduceEq, Int.reduceToNat, hg, h1]
 ·have h1 : (i : Int) < (s.length : Int) := by omega
  obtain ⟨b, hs, _, _⟩ := qAz hi
  have hb := hd i b (Nat.le_refl _) hs
  simp (maxSteps := 9999999) +contextual only [exa, ne_eq, not_false_eq_true, reduceAdd, reduceMul, reduceLT, reduceLeDiff, reduceEqDiff, Int.reduceLT, Int.reduceLE, Int.reduceEq, Int.reduceToNat, hg, h1, hs, qDw, hb, qAm i (by omega)]
  exact ihl (fun j c hj hc => hd j c (by omega) hc) (by omega)
theorem qMQ (n : Int) (h1 : -9223372036854775808 ≤ n) (h2 : n ≤ 9223372036854775807) : Om 130 [P0] [rdO (Lib.itoa n) 0 0] = some (kA (numV n).row, [rdO (Lib.itoa n) ((Lib.itoa n).length : Int) 0]) := by
 have hlen := qC8 n h1 h2
 have hn := qHk n h1 h2
 obtain ⟨m, ds, hm, hd, hne, hl, hz⟩ := qES n h1 h2
 generalize Lib.itoa n = s at hm hn hlen ⊢
 have c165 : CAL 165 [kS s] (.tup [.c (.p (.int .i64 n)), .c (.p (.int .i64 0))]) := qAD 165 _ _ rfl hn rfl
 have l3 : ∀ (h : Heap), h.get (.im 0) = some (rdO s 0 0) → h.get (.own 2 1) = some (.cells z6 0) → lim tab.get S 130 1 3 [P0, r2, kI (s.length : Int)] h = some (kA (numV n).row, [rdO s (s.length : Int) 0]) := by
  intro h hg h2'
  have sl : ∀ {β : Type} {O : Oracle} {h : Heap} {d : Nat} {k : TVal → Heap → Option β}, vop O (.slice 0 true (.k (kS s)) (some (.k (kI 0))) (some (.k (kI (s.length : Int)))) none) h d k = k (kS s) h := fun {β O h d k} => (qD5 s 0 s.length (by omega) (by omega)).trans (by rw [List.take_length, List.drop_zero])
  rw [w130_3, b130_3]
  simp (maxSteps := 9999999) +contextual only [exa, ne_eq, not_false_eq_true, reduceAdd, reduceMul, reduceLT, reduceLeDiff, reduceEqDiff, Int.reduceLT, Int.reduceLE, Int.reduceEq, Int.reduceToNat, hg, h2', sl, c165, qMK, qHP]
  exact qDj true [.agg (pcells (numV n).row)] _ (by simp only [exP]) ((Heap.own_get_im _ _ _ _ _).trans (qAK h 0 _ _ (by rw [hg]; rfl))) (qAl s _ 0)
 have k3 : ∀ (k : Nat) (b : UInt8) (h : Heap), s[k]? = some b → isD b = true → (b = 48 → k + 1 = s.length) → (∀ i c, k ≤ i → s[i]? = some c → isD c = true) → h.get (.im 0) = some (rdO s 0 0) → h.get (.own 2 1) = some (.cells z6 0) →
   lim tab.get S 130 1 1 [P0, r2, kI (k : Int)] h = some (kA (numV n).row, [rdO s (s.length : Int) 0]) := by
  intro k b h hs hb h48 hall hg h2'
  obtain ⟨hk, _⟩ := List.getElem?_eq_some_iff.1 hs
  have q1 : (k : Int) < (s.length : Int) := by omega
  rw [w130_1, b130_1]
  by_cases e48 : ((b.toNat : Nat) : Int) = 48
  ·have : b = 48 := UInt8.toNat_inj.1 (by show b.toNat = 48; omega)
   have hk1 := h48 this
   simp (maxSteps := 9999999) +contextual only [exa, ne_eq, not_false_eq_true, reduceAdd, reduceMul, reduceLT, reduceLeDiff, reduceEqDiff, Int.reduceLT, Int.reduceLE, Int.reduceEq, Int.reduceToNat, hg, q1, hs, qDw, hb, e48, qAm k (by omega)]
   rw [hk1]
   exact l3 h hg h2'
  ·simp (maxSteps := 9999999) +contextual only [exa, ne_eq, not_false_eq_true, reduceAdd, reduceMul, reduceLT, reduceLeDiff, reduceEqDiff, Int.reduceLT, Int.reduceLE, Int.reduceEq, Int.reduceToNat, hg, q1, hs, qDw, hb, e48]
   exact (qJ3 s 0 _ h hg (by omega) k hall (by omega)).trans (l3 h hg h2')
 refine (qAE rfl).trans ?_
 show lim tab.get S 130 1 0 [P0] { ims := [rdO s 0 0], owns := .nil } = _
 rw [w130_0, b130_0]
 have i0 : ((0 : Nat) : Int) = 0 := rfl
 have i1 : IntKind.i64.wrap (0 + 1) = ((1 : Nat) : Int) := rfl
 have gh : ∀ o : AObj, ((Heap.mk [rdO s 0 0] .nil).own 2 1 o).get (.im 0) = some (rdO s 0 0) := fun _ => rfl
 obtain ⟨b0, l0, hb0⟩ : ∃ b l, ds = b :: l := by cases ds with | nil => exact absurd rfl hne | cons b l => exact ⟨b, l, rfl⟩
 rcases hm with ⟨rfl, rfl⟩ | ⟨rfl, rfl⟩
 ·have hs : s[(0 : Nat)]? = some b0 := by rw [hb0]; rfl
  have hb := hd b0 (by rw [hb0]; simp)
  have hb' := hb
  unfold isD at hb'
  simp only [Bool.and_eq_true, decide_eq_true_eq] at hb'
  have b45 : ¬ ((b0.toNat : Nat) : Int) = 45 := by omega
  simp (maxSteps := 9999999) +contextual only [exa, ne_eq, not_false_eq_true, reduceAdd, reduceMul, reduceLT, reduceLeDiff, reduceEqDiff, Int.reduceLT, Int.reduceLE, Int.reduceEq, Int.reduceToNat, Int.toNat_zero, hs, b45]
  refine k3 0 b0 _ hs hb (fun e => by rw [hz (by rw [hs, e])]) (fun i c _ hc => hd c (List.mem_of_getElem? hc)) (gh _) (qAk _ 2 1 _ 0 (by decide))
 ·have b45 : ((45 : UInt8).toNat : Int) = 45 := rfl
  simp (maxSteps := 9999999) +contextual only [exa, ne_eq, not_false_eq_true, reduceAdd, reduceMul, reduceLT, reduceLeDiff, reduceEqDiff, Int.reduceLT, Int.reduceLE, Int.reduceEq, Int.reduceToNat, Int.toNat_zero, b45, i1]
  have hs : (45 :: ds)[(1 : Nat)]? = some b0 := by rw [hb0]; rfl
  refine k3 1 b0 _ hs (hd b0 (by rw [hb0]; simp)) (fun e => by have := hz (by rw [hb0, e]; rfl); simp [this]) (fun i c hi hc => ?_) (gh _) (qAk _ 2 1 _ 0 (by decide))
  obtain ⟨j, rfl⟩ : ∃ j, i = j + 1 := ⟨i - 1, by omega⟩
  exact hd c (List.mem_of_getElem? (by simpa using hc))
open Go Go.AI
theorem qG8 (n : Int) (h1 : -9223372036854775808 ≤ n) (h2 : n ≤ 9223372036854775807) : ∃ b, (Lib.itoa n)[0]? = some b ∧ (b = 45 ∨ isD b = true) := by
 obtain ⟨m, ds, hm, hd, hne, _, _⟩ := qES n h1 h2
 rcases hm with ⟨_, e⟩ | ⟨_, e⟩
 ·rw [e]
  cases ds with
  | nil => exact absurd rfl hne
  | cons b l => exact ⟨b, rfl, .inr (hd b (by simp))⟩
 ·rw [e]; exact ⟨45, rfl, .inl rfl⟩
theorem qJz (b : UInt8) (h : b = 45 ∨ isD b = true) : b ≠ 110 ∧ b ≠ 102 ∧ b ≠ 116 ∧ b.toNat ≠ 32 ∧ b.toNat ≠ 9 ∧ b.toNat ≠ 10 ∧ b.toNat ≠ 13 ∧ b.toNat ≠ 34 ∧ b.toNat ≠ 91 ∧ b.toNat ≠ 123 := by
 rcases h with rfl | h
 ·decide
 ·unfold isD at h
  simp only [Bool.and_eq_true, decide_eq_true_eq] at h
  refine ⟨?_, ?_, ?_, by omega, by omega, by omega, by omega, by omega, by omega, by omega⟩ <;> (intro e; subst e; revert h; decide)
set_option maxHeartbeats 2000000 in
theorem qKP (n : Int) (h1 : -9223372036854775808 ≤ n) (h2 : n ≤ 9223372036854775807) : Om 66 [P0, kI 1] [rdO (Lib.itoa n) 0 0] = some (kA (numV n).row, [rdO (Lib.itoa n) ((Lib.itoa n).length : Int) 0]) := by
 have hlen := qC8 n h1 h2
 obtain ⟨b, hs, hb⟩ := qG8 n h1 h2
 have hn := qMQ n h1 h2
 generalize Lib.itoa n = s at hlen hs hn ⊢
 obtain ⟨q1, q2, q3, q4, q5, q6, q7, q8, q9, q10⟩ := qJz b hb
 have nb : noBl s 0 := fun c hc => by rw [hs] at hc; obtain rfl := Option.some.inj hc; exact ⟨q4, q5, q6, q7⟩
 obtain ⟨hp, _⟩ := List.getElem?_eq_some_iff.1 hs
 have hp' : (0 : Int) < (s.length : Int) := by omega
 have r34 : ¬ ((b.toNat : Nat) : Int) = 34 := by omega
 have r91 : ¬ ((b.toNat : Nat) : Int) = 91 := by omega
 have r123 : ¬ ((b.toNat : Nat) : Int) = 123 := by omega
 have i0 : ((0 : Nat) : Int) = 0 := rfl
 refine (qAE rfl).trans ?_
 show lim tab.get S 66 1 0 [P0, kI 1] { ims := [rdO s 0 0], owns := .nil } = _
 rw [w66_0, b66_0]
 have gh : ∀ o : AObj, ((Heap.mk [rdO s 0 0] .nil).own 4 1 o).get (.im 0) = some (rdO s 0 0) := fun _ => rfl
 have c67 : ∀ {β : Type} {k : TVal → Heap → Option β} {h : Heap} {d : Nat}, h.get (.im 0) = some (rdO s 0 0) → vcall Om (.v (.c (.func 67 []))) [P0] h d k = k (.tup []) h := fun {β k h d} hg => (u67 (.im 0) s 0 0 nb hg).trans (by show k _ (h.put (.im 0) (rdO s 0 0)) = k _ h; rw [qEM 0 _ hg])
 have c125 : ∀ {β : Type} {k : TVal → Heap → Option β} {h : Heap} {d : Nat}, h.get (.im 0) = some (rdO s 0 0) → vcall Om (.v (.c (.func 125 []))) [P0] h d k = k (.tup [.agg (pcells VT.nul.row), .c (.p (.bool false))]) h := fun {β k h d} hg =>
  (qB2 125 (.im 0) 0 [] [] _ _ _ rfl rfl hg (qAl _ _ _) (qAl _ _ _) (by simp only [exP]) (qLR s 0 0 b hs (by omega) q1 q2 q3)).trans (by show k _ (h.put (.im 0) (rdO s 0 0)) = k _ h; rw [qEM 0 _ hg])
 have c130 : ∀ {β : Type} {k : TVal → Heap → Option β} {h : Heap} {d : Nat}, h.get (.im 0) = some (rdO s 0 0) → vcall Om (.v (.c (.func 130 []))) [P0] h d k = k (kA (numV n).row) (h.put (.im 0) (rdO s (s.length : Int) 0)) := fun {β k h d} hg =>
  qB2 130 (.im 0) 0 [] [] _ _ _ rfl rfl hg (qAl _ _ _) (qAl _ _ _) (by simp only [exP]) hn
 have last : ∀ (h : Heap), (h.get (.im 0)).isSome = true → vfin true 1 [.agg (pcells (numV n).row)] ((h.put (.im 0) (rdO s (s.length : Int) 0)).own 4 1 (.cells (pcells (numV n).row) 0)) = some (kA (numV n).row, [rdO s (s.length : Int) 0]) := fun h hs =>
  qDj true [.agg (pcells (numV n).row)] _ (by simp only [exP]) ((Heap.own_get_im _ _ _ _ _).trans (qAK h 0 _ _ hs)) (qAl s _ 0)
 rcases hb with rfl | hb
 ·have b45 : ((45 : UInt8).toNat : Int) = 45 := rfl
  simp (maxSteps := 9999999) +contextual only [exa, ne_eq, not_false_eq_true, reduceAdd, reduceMul, reduceLT, reduceLeDiff, reduceEqDiff, Int.reduceLT, Int.reduceLE, Int.reduceEq, Int.reduceToNat, c67, c125, c130, hp', Int.toNat_zero, hs, b45, qDw, qAO _ (VT.row_len VT.nul), qAO _ (VT.row_len (numV n)), last]
 ·by_cases e45 : ((b.toNat : Nat) : Int) = 45
  ·simp (maxSteps := 9999999) +contextual only [exa, ne_eq, not_false_eq_true, reduceAdd, reduceMul, reduceLT, reduceLeDiff, reduceEqDiff, Int.reduceLT, Int.reduceLE, Int.reduceEq, Int.reduceToNat, c67, c125, c130, hp', Int.toNat_zero, hs, e45, r34, r91, r123, hb, qDw, qAO _ (VT.row_len VT.nul), qAO _ (VT.row_len (numV n)), last]
  ·simp (maxSteps := 9999999) +contextual only [exa, ne_eq, not_false_eq_true, reduceAdd, reduceMul, reduceLT, reduceLeDiff, reduceEqDiff, Int.reduceLT, Int.reduceLE, Int.reduceEq, Int.reduceToNat, c67, c125, c130, hp', Int.toNat_zero, hs, e45, r34, r91, r123, hb, qDw, qAO _ (VT.row_len VT.nul), qAO _ (VT.row_len (numV n)), last]
theorem qK6 (n : Int) : (chkV (numV n) 1 0).1 = 0 := by
 rw [qD0]
 have c : cleanM (numV n) = true := by simp [cleanM, numV, VT.kind, VT.b, VT.n, VT.s, VT.keys, VT.l, Sl.len, Sl.list]
 rw [c]
 simp [numV, VT.l, VT.s, VT.keys, Sl.len, Sl.list, longB, ordB, chkL]
theorem qKq (n : Int) (h1 : -9223372036854775808 ≤ n) (h2 : n ≤ 9223372036854775807) : Om 19 [kS (Lib.itoa n)] [] = some (.tup [.agg (pcells (numV n).row), .c (.p (.int .i64 0))], []) := by
 have hlen := qC8 n h1 h2
 have hv := qKP n h1 h2
 generalize Lib.itoa n = s at hlen hv ⊢
 have q1 : ¬ (20000 : Int) < (s.length : Int) := by omega
 have q2 : ¬ (s.length : Int) < (s.length : Int) := by omega
 have i0 : ((0 : Nat) : Int) = 0 := rfl
 have nb : noBl s s.length := fun c hc => by rw [List.getElem?_eq_none (Nat.le_refl _)] at hc; cases hc
 have c66 : ∀ {β : Type} {k : TVal → Heap → Option β} {h : Heap} {d : Nat} (g : Nat), h.get (.own 12 g) = some (rdO s 0 0) → vcall Om (.v (.c (.func 66 []))) [.v (.c (.ptr (.own 12 g) 0)), kI 1] h d k = k (kA (numV n).row) (h.own 12 g (rdO s (s.length : Int) 0)) := fun {β k h d} g hg =>
  qB2 66 (.own 12 g) 0 [] [kI 1] _ _ _ rfl rfl hg (qAl _ _ _) (qAl _ _ _) (by simp only [exP]) hv
 have c67 : ∀ {β : Type} {k : TVal → Heap → Option β} {h : Heap} {d : Nat} (g : Nat), h.get (.own 12 g) = some (rdO s (s.length : Int) 0) → vcall Om (.v (.c (.func 67 []))) [.v (.c (.ptr (.own 12 g) 0))] h d k = k (.tup []) (h.own 12 g (rdO s (s.length : Int) 0)) := fun {β k h d} g hg =>
  u67 (.own 12 g) s s.length 0 nb hg
 have c16 : CAL 16 [kA (numV n).row] (kI 0) := fun {β k h d} => qAD 16 _ _ (by simp only [exP]) (by rw [qKC, qK6]) rfl
 have rp2 : ∀ a b c x : PVal, put1 (pcells [a, b, c]) 2 [.p x] = pcells [a, b, x] := fun _ _ _ _ => rfl
 have rp1 : put1 ([.p (.str []), .p (.int .i64 0), .p (.int .i64 0)] : List Cell) 0 [.p (.str s)] = pcells [.str s, .int .i64 0, .int .i64 0] := rfl
 have gg : ∀ (h : Heap) (p e : Int), (h.own 12 1 (rdO s p e)).get (.own 12 1) = some (rdO s p e) := fun h p e => qAk h 12 1 _ 0 (by decide)
 refine (qAE rfl).trans ?_
 show lim tab.get S 19 0 0 [kS s] h0 = _
 rw [w19_0, b19_0]
 simp (maxSteps := 9999999) +contextual only [exa, ne_eq, not_false_eq_true, reduceAdd, reduceMul, reduceLT, reduceLeDiff, reduceEqDiff, Int.reduceLT, Int.reduceLE, Int.reduceEq, Int.reduceToNat, q1, q2, rp1, c66 1, c67 1, gg, qAO _ (VT.row_len (numV n))]
 rw [w19_1, b19_1]
 simp (maxSteps := 9999999) +contextual only [exa, ne_eq, not_false_eq_true, reduceAdd, reduceMul, reduceLT, reduceLeDiff, reduceEqDiff, Int.reduceLT, Int.reduceLE, Int.reduceEq, Int.reduceToNat, c16, gg, rp2, qHP]
 rw [w19_2, b19_2]
 simp (maxSteps := 9999999) +contextual only [exa, ne_eq, not_false_eq_true, reduceAdd, reduceMul, reduceLT, reduceLeDiff, reduceEqDiff, Int.reduceLT, Int.reduceLE, Int.reduceEq, Int.reduceToNat, gg, qAO _ (VT.row_len (numV n)), oneOf]
open Go Go.AI
def bytesL (o : Option (List Int)) : List UInt8 := (intsL o).map fun n => UInt8.ofNat n.toNat
abbrev bP (o : Option (List Int)) : TVal := .v (.c (.p (intsP .u8 o)))
theorem qET (o : Option (List Int)) : (bytesL o).length = (intsL o).length := by unfold bytesL; rw [List.length_map]
theorem qHX {β : Type} {O : Oracle} {h : Heap} {d : Nat} {k : TVal → Heap → Option β} (o : Option (List Int)) : vlen O 2 (bP o) h d k = k (kI ((bytesL o).length : Int)) h := by
 rw [qET]
 cases o with
 | none => rfl
 | some l =>
  show vlen O 2 (kSl 1 false (l.map fun n => [PVal.int .u8 n])) h d k = _
  rw [qDr, List.length_map]; rfl
theorem qDp : ∀ l : List Int, bytesOfRows (l.map fun n => [PVal.int .u8 n]) = some (l.map fun n => UInt8.ofNat n.toNat)
 | [] => rfl
 | n :: l => by
  show (bytesOfRows (l.map fun n => [PVal.int .u8 n])).map (UInt8.ofNat n.toNat :: ·) = _
  rw [qDp l]; rfl
theorem qL2 {β : Type} {O : Oracle} {h : Heap} {d : Nat} {k : TVal → Heap → Option β} (o : Option (List Int)) : vop O (.toStr (.k (bP o))) h d k = k (kS (bytesL o)) h := by
 cases o with
 | none => exact qAW _ _ rfl
 | some l =>
  refine qAW _ _ ?_
  show (bytesOfRows (l.map fun n => [PVal.int .u8 n])).map (fun s => Plan.pure (.pv (.str s))) = _
  rw [qDp]; rfl
theorem texts_law (n : Int) (a b : Option (List Int)) (h1 : -9223372036854775808 ≤ n ∧ n ≤ 9223372036854775807) (la : (intsL a).length ≤ 140737488351232) (lb : (intsL b).length ≤ 140737488351232) :
  orc S (lim tab.get S) 10 [kI n, bP a, bP b] [] = some (kB true, []) := by
 rw [← qET] at la lb
 refine (qAE rfl).trans ?_
 show lim tab.get S 10 0 0 [kI n, bP a, bP b] h0 = _
 have e1 := qKs true (numV n) h1
 have e1' : wrtM (numV n) = (txtV (Lib.itoa n), 0) := rfl
 rw [e1'] at e1
 have c1 : CAL 38 [kS n_text, kSl 6 true [(numV n).row]] (.tup [.agg (pcells (txtV (Lib.itoa n)).row), .c (.p (.int .i64 0))]) := qAD 38 _ _ rfl e1 rfl
 have c19 : CAL 19 [kS (Lib.itoa n)] (.tup [.agg (pcells (numV n).row), .c (.p (.int .i64 0))]) := qAD 19 _ _ rfl (qKq n h1.1 h1.2) rfl
 have B1 : ∀ {β : Type} {O : Oracle} {h : Heap} {d : Nat} {k : TVal → Heap → Option β} (m : Int), vop O (.bslice 6 1 z6 [(0, .k (.v (.agg [.p (.int .i64 2), .p (.bool false), .p (.int .i64 m), .p (.str []), .p .nilslice, .p .nilslice])))] false) h d k = k (kSl 6 true [(numV m).row]) h := fun {β O h d k} m => qDa 6 z6 (numV m).row rfl (VT.row_len _)
 have tx : (pcells (txtV (Lib.itoa n)).row)[3]? = some (.p (.str (Lib.itoa n))) := rfl
 have nu : ∀ m, (pcells (numV m).row)[0]? = some (.p (.int .i64 2)) := fun _ => rfl
 have nn : ∀ m, (pcells (numV m).row)[2]? = some (.p (.int .i64 m)) := fun _ => rfl
 rw [w10_0, b10_0]
 have wl : IntKind.i64.wrap (((bytesL a).length : Int) + ((bytesL b).length : Int)) = ((bytesL a).length : Int) + ((bytesL b).length : Int) := qAF _ (by omega) (by omega)
 by_cases hl : (500 : Int) < ((bytesL a).length : Int) + ((bytesL b).length : Int)
 ·simp (maxSteps := 9999999) +contextual only [exa, ne_eq, not_false_eq_true, reduceAdd, reduceMul, reduceLT, reduceLeDiff, reduceEqDiff, Int.reduceLT, Int.reduceLE, Int.reduceEq, Int.reduceToNat, u36', qHX, wl, hl, oneOf]
 ·have e2 := qMM true (txtV (bytesL a)) (txtV (bytesL b)) (by show (bytesL b).length < _; omega)
  have e2' : catE (txtV (bytesL a)) (txtV (bytesL b)) = (txtV (bytesL a ++ bytesL b), 0) := by
   unfold catE
   show (if (decide ((3 : Int) = 3) && decide ((3 : Int) = 3)) = false then _ else _) = _
   rw [if_neg (by decide)]
   have : ¬ 65536 < (bytesL a).length + (bytesL b).length := by omega
   exact if_neg this
  rw [e2'] at e2
  have c2 : CAL 38 [kS n_cat, kSl 6 true [(txtV (bytesL a)).row, (txtV (bytesL b)).row]] (.tup [.agg (pcells (txtV (bytesL a ++ bytesL b)).row), .c (.p (.int .i64 0))]) := qAD 38 _ _ rfl e2 rfl
  have e3 := qLa true (txtV (bytesL a ++ bytesL b))
  have e3' : lenM (txtV (bytesL a ++ bytesL b)) = (numV ((bytesL a).length + (bytesL b).length), 0) := by
   show (numV (((bytesL a ++ bytesL b).length : Nat) : Int), (0 : Int)) = _
   rw [List.length_append]
   have : (((bytesL a).length + (bytesL b).length : Nat) : Int) = ((bytesL a).length : Int) + ((bytesL b).length : Int) := by omega
   rw [this]
  rw [e3'] at e3
  have c3 : CAL 38 [kS n_len, kSl 6 true [(txtV (bytesL a ++ bytesL b)).row]] (.tup [.agg (pcells (numV ((bytesL a).length + (bytesL b).length)).row), .c (.p (.int .i64 0))]) := qAD 38 _ _ rfl e3 rfl
  have B2 : ∀ {β : Type} {O : Oracle} {h : Heap} {d : Nat} {k : TVal → Heap → Option β} (s t : List UInt8), vop O (.bslice 6 2 z6 [(0, .k (.v (.agg [.p (.int .i64 3), .p (.bool false), .p (.int .i64 0), .p (.str s), .p .nilslice, .p .nilslice]))), (1, .k (.v (.agg [.p (.int .i64 3), .p (.bool false), .p (.int .i64 0), .p (.str t), .p .nilslice, .p .nilslice])))] false) h d k = k (kSl 6 true [(txtV s).row, (txtV t).row]) h := fun {β O h d k} s t => qDd 6 z6 (txtV s).row (txtV t).row rfl (VT.row_len _) (VT.row_len _)
  have tc : (pcells (txtV (bytesL a ++ bytesL b)).row)[3]? = some (.p (.str (bytesL a ++ bytesL b))) := rfl
  have lc : (bytesL a).length + (bytesL b).length ≤ 4611686018427387904 := by omega
  simp (maxSteps := 9999999) +contextual only [exa, ne_eq, not_false_eq_true, reduceAdd, reduceMul, reduceLT, reduceLeDiff, reduceEqDiff, Int.reduceLT, Int.reduceLE, Int.reduceEq, Int.reduceToNat, u36', qHX, wl, hl, B1, B2, qL2, c1, c2, c3, c19, tx, nu, nn, tc, lc, qAO _ (VT.row_len (txtV _)), qAO _ (VT.row_len (numV _)), oneOf]
end Go.Proofs.YtlkejchbcchecaaDoor.Ab
