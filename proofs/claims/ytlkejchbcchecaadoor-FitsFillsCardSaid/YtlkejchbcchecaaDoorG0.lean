/- The rules, the contracts, the plain laws that lead to the statement. Own work. Condition: what each theorem names. -/
import Derived.Test.YtlkejchbcchecaaDoorTabFW
import Derived.Test.YtlkejchbcchecaaDoorV0
set_option linter.all false
set_option linter.unusedVariables false
set_option linter.unusedSimpArgs false
set_option linter.unusedSectionVars false
set_option maxRecDepth 100000
open Nat (reduceAdd reduceMul reduceLT reduceLeDiff reduceEqDiff)
namespace Go.Proofs.YtlkejchbcchecaaDoor.Ab
open Go Go.AI
noncomputable def S : Oracle := SI 183
noncomputable abbrev W : Mach := lim tab.get S
noncomputable abbrev Om : Oracle := orc S W
abbrev CAL (f : FuncId) (l : List TVal) (v : TVal) : Prop := ∀ {β : Type} {k : TVal → Heap → Option β} {h : Heap} {d : Nat}, vcall Om (.v (.c (.func f []))) l h d k = k v h
abbrev kA (r : List PVal) : TVal := .v (.agg (pcells r))
abbrev kP (r : Ref) : TVal := .v (.c (.ptr r 0))
def idxM (x : List UInt8) : List (List UInt8) → Option Nat
 | [] => none
 | a :: l => if x = a then some 0 else (idxM x l).map (· + 1)
def idxI (o : Option Nat) (i : Nat) : Int := match o with
 | none => -1
 | some n => ((i + n : Nat) : Int)
theorem qMb (o : Option Nat) (i : Nat) : idxI (o.map (· + 1)) i = idxI o (i + 1) := by cases o <;> simp [idxI]; omega
theorem qHO (l : Sl (List UInt8)) (x : List UInt8) (hl : l.len < 4611686018427387904) (h : Heap) : ∀ i : Nat, lim tab.get S 131 0 1 [.v (.c (.p (slP 1 sRow l))), kS x, kI (l.len : Int), kI (i : Int)] h = some (kI (idxI (idxM x (l.list.drop i)) i), []) := by
 refine qAY l.len (fun i hi => ?_) (fun i hi ih => ?_) <;> rw [w131_1, b131_1]
 ·have h1 : ¬ (i : Int) < (l.len : Int) := by omega
  simp (maxSteps := 9999999) +contextual only [exa, ne_eq, not_false_eq_true, reduceAdd, reduceMul, reduceLT, reduceLeDiff, reduceEqDiff, Int.reduceLT, Int.reduceLE, Int.reduceEq, Int.reduceToNat, h1, qBq hi, oneOf, idxM, idxI]
 ·have h1 : (i : Int) < (l.len : Int) := by omega
  obtain ⟨b, hs, h2, _⟩ := qAt hi
  by_cases h3 : x = b
  ·simp (maxSteps := 9999999) +contextual only [exa, ne_eq, not_false_eq_true, reduceAdd, reduceMul, reduceLT, reduceLeDiff, reduceEqDiff, Int.reduceLT, Int.reduceLE, Int.reduceEq, Int.reduceToNat, h1, h2, hs, h3, oneOf, idxM, idxI, if_true]
  ·simp (maxSteps := 9999999) +contextual only [exa, ne_eq, not_false_eq_true, reduceAdd, reduceMul, reduceLT, reduceLeDiff, reduceEqDiff, Int.reduceLT, Int.reduceLE, Int.reduceEq, Int.reduceToNat, h1, h2, hs, h3, oneOf, idxM, qAL i (by omega), ih, if_false, qMb]
theorem qJY (l : Sl (List UInt8)) (x : List UInt8) (hl : l.len < 4611686018427387904) : Om 131 [.v (.c (.p (slP 1 sRow l))), kS x] [] = some (kI (idxI (idxM x l.list) 0), []) := by
 refine (qAE rfl).trans ?_
 show lim tab.get S 131 0 0 [.v (.c (.p (slP 1 sRow l))), kS x] h0 = _
 rw [w131_0, b131_0]
 simp (maxSteps := 9999999) +contextual only [exa, ne_eq, not_false_eq_true, reduceAdd, reduceMul, reduceLT, reduceLeDiff, reduceEqDiff, Int.reduceLT, Int.reduceLE, Int.reduceEq, Int.reduceToNat]
 exact qHO l x hl h0 0
theorem qCk {β : Type} {k : TVal → Heap → Option β} {h : Heap} {d : Nat} (l : Sl (List UInt8)) (x : List UInt8) (hl : l.len < 4611686018427387904) : vcall Om (.v (.c (.func 131 []))) [.v (.c (.p (slP 1 sRow l))), kS x] h d k = k (kI (idxI (idxM x l.list) 0)) h := qAF 131 _ _ rfl (qJY l x hl) rfl
def withinM (a n : Int) : Int := if a.tmod n < 0 then a.tmod n + n else a.tmod n
theorem qDj (a n : Int) (hn : 0 < n) : 0 ≤ withinM a n ∧ withinM a n < n := by
 have h1 := Int.tmod_lt_of_pos a hn
 have h2 : -n < a.tmod n := by
  have := Int.tmod_lt_of_pos (-a) hn
  rw [Int.neg_tmod] at this; omega
 unfold withinM
 split <;> omega
def isDigit (n : Nat) : Bool := Nat.ble 48 n && Nat.ble n 57
open Go Go.AI
open Go Go.AI
abbrev p3 : TVal := .v (.c (.ptr (.own 3 1) 0))
abbrev p5 : TVal := .v (.c (.ptr (.own 5 1) 0))
abbrev p6 : TVal := .v (.c (.ptr (.own 6 1) 0))
theorem qMA {β : Type} {O : Oracle} {h : Heap} {d : Nat} {op : AOp} {v' : TVal} {h' : Heap} {t : AI.Touch} (e : ∀ (β : Type) (O : Oracle) (kt : TVal → Heap → AI.Touch → Option β), vtouch O op h d kt = kt v' h' t) (k : TVal → Heap → Option β) : vop O op h d k = k v' h' := by
 rw [qCu, e]
open Go Go.AI
def cloneS {α : Type} : Sl α → Sl α
 | .nil => .nil
 | .mk _ [] => .mk true []
 | .mk _ (a :: l) => .mk false (a :: l)
theorem qII {β : Type} {h : Heap} {k : TVal → Heap → Option β} : vbin .eql 2 kNil (.v (.c (.p .nilslice))) h k = k (kB true) h := qBl _ _ _ _ _ rfl
theorem qEn {β : Type} {h : Heap} {k : TVal → Heap → Option β} (sz : Nat) (t : Bool) (rows : List (List PVal)) : vbin .eql 2 (kSl sz t rows) (.v (.c (.p .nilslice))) h k = k (kB false) h := qBl _ _ _ _ _ rfl
theorem qNO {β : Type} {O : Oracle} {h : Heap} {d : Nat} {k : TVal → Heap → Option β} (t : Bool) : vop O (.append 1 16 false (.k (kSl 1 true [])) (.k (kSl 1 t []))) h d k = k (kSl 1 true []) h := by
 show opK O _ .nil h d k = _
 rw [qA4]; rfl
theorem qJx (s : Sl (List UInt8)) (hl : s.len ≤ 1000000) : Om 132 [.v (.c (.p (slP 1 sRow s)))] [] = some (.v (.c (.p (slP 1 sRow (cloneS s)))), []) := by
 refine (qAE rfl).trans ?_
 show lim tab.get S 132 0 0 [.v (.c (.p (slP 1 sRow s)))] h0 = _
 rw [w132_0, b132_0]
 match s, hl with
 | .nil, _ =>
  simp (maxSteps := 9999999) +contextual only [exa, ne_eq, not_false_eq_true, reduceAdd, reduceMul, reduceLT, reduceLeDiff, reduceEqDiff, Int.reduceLT, Int.reduceLE, Int.reduceEq, Int.reduceToNat, slP, qII, cloneS, oneOf]
 | .mk t [], _ =>
  simp (maxSteps := 9999999) +contextual only [exa, ne_eq, not_false_eq_true, reduceAdd, reduceMul, reduceLT, reduceLeDiff, reduceEqDiff, Int.reduceLT, Int.reduceLE, Int.reduceEq, Int.reduceToNat, slP, qEn, cloneS, oneOf, List.map_nil, qIv, qNO]
 | .mk t (a :: l), hl =>
  obtain ⟨c', h', t', G', e', T', K', I', X'⟩ := qBj (h := h0) (d := 7) (D := [7]) (sz := 1) (by' := 16) (v := .p (.slice 1 true [])) (rows := []) (new := (a :: l).map sRow) (b := .slice 1 t ((a :: l).map sRow)) (.inr ⟨_, rfl⟩) (.inr (.inl rfl)) (by decide) (fun r hr => by obtain ⟨x, _, rfl⟩ := List.mem_map.1 hr; rfl) (by simp [Sl.len, Sl.list] at hl ⊢; omega) (by decide)
  obtain ⟨q, eq⟩ := X' (.inl (by simp))
  simp (maxSteps := 9999999) +contextual only [exa, ne_eq, not_false_eq_true, reduceAdd, reduceMul, reduceLT, reduceLeDiff, reduceEqDiff, Int.reduceLT, Int.reduceLE, Int.reduceEq, Int.reduceToNat, slP, qEn, cloneS, oneOf, qMA e']
  rw [eq, qFO _ rfl]
  rfl
abbrev o2 : TVal := .v (.c (.ptr (.own 2 1) 0))
open Go Go.AI
theorem qBH (r : List PVal) (hr : r.length = 6) : put1 [.p (.int .i64 0), .p (.bool false), .p (.int .i64 0), .p (.str []), .p .nilslice, .p .nilslice] 0 (pcells r) = pcells r := qFT _ _ (by rw [qCM, hr]; rfl)
abbrev s2 : TVal := .v (.c (.ptr (.own 2 1) 0))
abbrev s3 : TVal := .v (.c (.ptr (.own 3 1) 0))
open Go Go.AI
def cleanM (v : VT) : Bool := !(decide (v.kind < 0) || decide (5 < v.kind)) && ((((decide (v.kind = 1) || !v.b) && (decide (v.kind = 2) || decide (v.n = 0))) && (decide (v.kind = 3) || decide (v.s = []))) && (!decide (v.kind < 4) || decide ((v.l.len : Int) = 0)) && (decide (v.kind = 5) && decide ((v.keys.len : Int) = (v.l.len : Int)) || !decide (v.kind = 5) && decide ((v.keys.len : Int) = 0)))
theorem qJz (v : VT) : Om 112 [.v (.agg (pcells v.row))] [] = some (kB (cleanM v), []) := by
 refine (qAE rfl).trans ?_
 show lim tab.get S 112 0 0 [.v (.agg (pcells v.row))] h0 = _
 rw [w112_0, b112_0]
 by_cases h : (decide (v.kind < 0) || decide (5 < v.kind)) = true
 ·simp (maxSteps := 9999999) +contextual only [exa, ne_eq, not_false_eq_true, reduceAdd, reduceMul, reduceLT, reduceLeDiff, reduceEqDiff, Int.reduceLT, Int.reduceLE, Int.reduceEq, Int.reduceToNat, h]
  simp [cleanM, h, oneOf]
 ·simp (maxSteps := 9999999) +contextual only [exa, ne_eq, not_false_eq_true, reduceAdd, reduceMul, reduceLT, reduceLeDiff, reduceEqDiff, Int.reduceLT, Int.reduceLE, Int.reduceEq, Int.reduceToNat, h]
  simp [cleanM, h, oneOf]
def longB (l : List (List UInt8)) : Bool := l.any fun s => decide (200 < s.length)
def ordB : List (List UInt8) → Bool
 | a :: b :: r => !(bless b a || b == a) && ordB (b :: r)
 | _ => true
mutual
def chkV : VT → Nat → Nat → Int × Nat
 | .mk k b n s ks l, deep, c =>
  if 2000 < c + 1 then (3, c + 1) else if cleanM (.mk k b n s ks l) = false then (1, c + 1) else if 12 < deep then (13, c + 1) else if 40 < l.len then (3, c + 1) else
  if 200 < s.length then (4, c + 1) else if longB ks.list then (4, c + 1) else if ordB ks.list = false then (6, c + 1) else chkS l (deep + 1) (c + 1)
def chkS : Sl VT → Nat → Nat → Int × Nat
 | .nil, _, c => (0, c)
 | .mk _ l, d, c => chkL l d c
def chkL : List VT → Nat → Nat → Int × Nat
 | [], _, c => (0, c)
 | v :: vs, d, c => if (chkV v d c).1 = 0 then chkL vs d (chkV v d c).2 else chkV v d c
end
theorem qL5 (l : Sl VT) (d c : Nat) : chkS l d c = chkL l.list d c := by cases l <;> simp [chkS, chkL, Sl.list]
theorem qD8 (v : VT) (deep c : Nat) : chkV v deep c = if 2000 < c + 1 then (3, c + 1) else if cleanM v = false then (1, c + 1) else if 12 < deep then (13, c + 1) else if 40 < v.l.len then (3, c + 1) else
  if 200 < v.s.length then (4, c + 1) else if longB v.keys.list then (4, c + 1) else if ordB v.keys.list = false then (6, c + 1) else chkL v.l.list (deep + 1) (c + 1) := by
 cases v with
 | mk k b n s ks l => rw [chkV, qL5]; rfl
abbrev cntO (c : Nat) : AObj := .cells [.p (.int .i64 (c : Int))] 0
abbrev p4 (g : Nat) : TVal := .v (.c (.ptr (.own 4 g) 0))
theorem qKm (v : VT) (x0 x2 : TVal) (g : Nat) (h : Heap) (hv : h.get (.own 4 g) = some (.cells (pcells v.row) 0)) (hl : v.keys.len < 4611686018427387904) :
  ∀ i : Nat, lim tab.get S 56 1 1 [x0, x2, p4 g, kI (i : Int)] h = if longB (v.keys.list.drop i) then vfin true 1 [.c (.p (.int .i64 4))] h else lim tab.get S 56 1 2 [x0, x2, p4 g] h := by
 refine qAY v.keys.len (fun i hi => ?_) (fun i hi ih => ?_) <;> rw [w56_1, b56_1]
 ·have h1 : ¬ (i : Int) < (v.keys.len : Int) := by omega
  simp (maxSteps := 9999999) +contextual only [exa, ne_eq, not_false_eq_true, reduceAdd, reduceMul, reduceLT, reduceLeDiff, reduceEqDiff, Int.reduceLT, Int.reduceLE, Int.reduceEq, Int.reduceToNat, hv, h1, qBq hi]
  rfl
 ·have h1 : (i : Int) < (v.keys.len : Int) := by omega
  obtain ⟨s, hs, h2, _⟩ := qAt hi
  by_cases h3 : 200 < s.length
  ·have h4 : (200 : Int) < (s.length : Int) := by omega
   simp (maxSteps := 9999999) +contextual only [exa, ne_eq, not_false_eq_true, reduceAdd, reduceMul, reduceLT, reduceLeDiff, reduceEqDiff, Int.reduceLT, Int.reduceLE, Int.reduceEq, Int.reduceToNat, hv, h1, h2, hs, h4]
   simp [longB, h3]
  ·have h4 : ¬ (200 : Int) < (s.length : Int) := by omega
   simp (maxSteps := 9999999) +contextual only [exa, ne_eq, not_false_eq_true, reduceAdd, reduceMul, reduceLT, reduceLeDiff, reduceEqDiff, Int.reduceLT, Int.reduceLE, Int.reduceEq, Int.reduceToNat, hv, h1, h2, hs, h4, qAL i (by omega), ih]
   simp [longB, h3]
theorem qLe (v : VT) (x0 x2 : TVal) (g : Nat) (h : Heap) (hv : h.get (.own 4 g) = some (.cells (pcells v.row) 0)) (hl : v.keys.len < 4611686018427387904) :
  ∀ i : Nat, 1 ≤ i → lim tab.get S 56 1 3 [x0, x2, p4 g, kI (i : Int)] h = if ordB (v.keys.list.drop (i - 1)) then lim tab.get S 56 1 4 [x0, x2, p4 g] h else vfin true 1 [.c (.p (.int .i64 6))] h := by
 refine qAY v.keys.len (fun i hi h0 => ?_) (fun i hi ih h0 => ?_) <;> rw [w56_3, b56_3]
 ·have h1 : ¬ (i : Int) < (v.keys.len : Int) := by omega
  have h2 : ordB (v.keys.list.drop (i - 1)) = true := by
   have hl1 : (v.keys.list.drop (i - 1)).length ≤ 1 := by rw [List.length_drop]; unfold Sl.len at hi; omega
   match v.keys.list.drop (i - 1), hl1 with
   | [], _ => rfl
   | [_], _ => rfl
  simp (maxSteps := 9999999) +contextual only [exa, ne_eq, not_false_eq_true, reduceAdd, reduceMul, reduceLT, reduceLeDiff, reduceEqDiff, Int.reduceLT, Int.reduceLE, Int.reduceEq, Int.reduceToNat, hv, h1, h2]
  rfl
 ·have h1 : (i : Int) < (v.keys.len : Int) := by omega
  obtain ⟨s, hs, h2, _⟩ := qAt hi
  obtain ⟨t, ht, h3, _⟩ := qAt (l := v.keys.list) (i := i - 1) (by unfold Sl.len at hi; omega)
  rw [show i - 1 + 1 = i by omega, h2] at h3
  cases h4 : (bless s t || s == t)
  ·simp (maxSteps := 9999999) +contextual only [exa, ne_eq, not_false_eq_true, reduceAdd, reduceMul, reduceLT, reduceLeDiff, reduceEqDiff, Int.reduceLT, Int.reduceLE, Int.reduceEq, Int.reduceToNat, hv, h1, h3, hs, ht, h4, qAL i (by omega), qK8 i (by omega) h0, ih, ordB, Nat.add_sub_cancel, h2, Nat.le_add_left]
  ·simp (maxSteps := 9999999) +contextual only [exa, ne_eq, not_false_eq_true, reduceAdd, reduceMul, reduceLT, reduceLeDiff, reduceEqDiff, Int.reduceLT, Int.reduceLE, Int.reduceEq, Int.reduceToNat, hv, h1, h3, hs, ht, h4, qK8 i (by omega) h0, ordB]
   rfl
theorem qFW {β : Type} {k : TVal → Heap → Option β} {h : Heap} {d : Nat} {v : VT} {deep c c' : Nat} {e : Int} (hc : Om 56 [kP (.im 0), kA v.row, kI (deep : Int)] [cntO c] = some (kI e, [cntO c'])) (r : Ref) (hg : h.get r = some (cntO c)) :
  vcall Om (.v (.c (.func 56 []))) [kP r, kA v.row, kI (deep : Int)] h d k = k (kI e) (h.put r (cntO c')) :=
 qD3 56 r 0 [] [kA v.row, kI (deep : Int)] (cntO c) (cntO c') _ rfl (by simp only [exP]) hg (qEy _) (qEy _) rfl hc
def ChkOK (v : VT) : Prop := ∀ (deep c : Nat), deep ≤ 13 → c ≤ 2000 → Om 56 [kP (.im 0), kA v.row, kI (deep : Int)] [cntO c] = some (kI (chkV v deep c).1, [cntO (chkV v deep c).2])
theorem qMw : ∀ (v : VT) (deep c : Nat), (chkV v deep c).1 = 0 → c ≤ 2000 → (chkV v deep c).2 ≤ 2000 := by
 have key : ∀ m, (∀ v : VT, SizeOf.sizeOf v < m → ∀ (deep c : Nat), (chkV v deep c).1 = 0 → c ≤ 2000 → (chkV v deep c).2 ≤ 2000) := by
  intro m
  induction m with
  | zero => intro v h; omega
  | succ m ih =>
   intro v h deep c h0 hc
   rw [qD8] at h0 ⊢
   by_cases h1 : 2000 < c + 1
   ·rw [if_pos h1] at h0; cases h0
   rw [if_neg h1] at h0 ⊢
   split at h0; · cases h0
   split at h0; · cases h0
   split at h0; · cases h0
   split at h0; · cases h0
   split at h0; · cases h0
   split at h0; · cases h0
   rename_i h2 h3 h4 h5 h6 h7
   rw [if_neg h2, if_neg h3, if_neg h4, if_neg h5, if_neg h6, if_neg h7]
   have hl : ∀ (l : List VT), (∀ x ∈ l, SizeOf.sizeOf x < m) → ∀ d c, (chkL l d c).1 = 0 → c ≤ 2000 → (chkL l d c).2 ≤ 2000 := by
    intro l
    induction l with
    | nil => intro _ d c _ hc; simpa [chkL] using hc
    | cons x l ihl =>
     intro hm d c e hc
     unfold chkL at e ⊢
     by_cases hx : (chkV x d c).1 = 0
     ·rw [if_pos hx] at e ⊢
      exact ihl (fun y hy => hm y (by simp [hy])) d _ e (ih x (hm x (by simp)) d c hx hc)
     ·rw [if_neg hx] at e; exact absurd e hx
   exact hl _ (fun x hx => by have := VT.mem_size hx; omega) _ _ h0 (by omega)
 intro v
 exact key (SizeOf.sizeOf v + 1) v (by omega)
theorem qKC (v : VT) (deep : Nat) (g : Nat) (hd : deep ≤ 12) (hl : v.l.len ≤ 40) (ih : ∀ x ∈ v.l.list, ChkOK x) :
  ∀ (i c : Nat) (h : Heap), h.get (.own 4 g) = some (.cells (pcells v.row) 0) → h.get (.im 0) = some (cntO c) → c ≤ 2000 →
  lim tab.get S 56 1 5 [kP (.im 0), kI (deep : Int), p4 g, kI (i : Int)] h = some (kI (chkL (v.l.list.drop i) (deep + 1) c).1, [cntO (chkL (v.l.list.drop i) (deep + 1) c).2]) := by
 refine qAY v.l.len (fun i hi c h hv hc hcl => ?_) (fun i hi ihl c h hv hc hcl => ?_) <;> rw [w56_5, b56_5]
 ·have h1 : ¬ (i : Int) < (v.l.len : Int) := by omega
  simp (maxSteps := 9999999) +contextual only [exa, ne_eq, not_false_eq_true, reduceAdd, reduceMul, reduceLT, reduceLeDiff, reduceEqDiff, Int.reduceLT, Int.reduceLE, Int.reduceEq, Int.reduceToNat, hv, hc, h1, qBq hi]
  simp [chkL, oneOf]
 ·have h1 : (i : Int) < (v.l.len : Int) := by omega
  obtain ⟨x, hs, h2, hx⟩ := qAt hi
  simp (maxSteps := 9999999) +contextual only [exa, ne_eq, not_false_eq_true, reduceAdd, reduceMul, reduceLT, reduceLeDiff, reduceEqDiff, Int.reduceLT, Int.reduceLE, Int.reduceEq, Int.reduceToNat, hv, hc, h1, hs, qAL deep (by omega)]
  have hk := ih x hx (deep + 1) c (by omega) hcl
  rw [qFW hk _ hc]
  rw [h2, chkL]
  by_cases h0 : (chkV x (deep + 1) c).1 = 0
  ·have h3 : (h.put (.im 0) (cntO (chkV x (deep + 1) c).2)).get (.im 0) = some (cntO (chkV x (deep + 1) c).2) := qA0 h 0 _ _ (by rw [hc]; rfl)
   simp (maxSteps := 9999999) +contextual only [exa, ne_eq, not_false_eq_true, reduceAdd, reduceMul, reduceLT, reduceLeDiff, reduceEqDiff, Int.reduceLT, Int.reduceLE, Int.reduceEq, Int.reduceToNat, h0, qAL i (by omega)]
   exact ihl _ _ hv h3 (qMw _ _ _ h0 hcl)
  ·simp (maxSteps := 9999999) +contextual only [exa, ne_eq, not_false_eq_true, reduceAdd, reduceMul, reduceLT, reduceLeDiff, reduceEqDiff, Int.reduceLT, Int.reduceLE, Int.reduceEq, Int.reduceToNat, h0, hc]
   simp [h0, oneOf]
theorem qMy : ∀ (m : Nat) (v : VT), SizeOf.sizeOf v < m → ChkOK v := by
 intro m
 induction m with
 | zero => intro v h; omega
 | succ m ih =>
  intro v hs deep c hd hc
  refine (qAE rfl).trans ?_
  show lim tab.get S 56 1 0 [kP (.im 0), kA v.row, kI (deep : Int)] { ims := [cntO c], owns := .nil } = _
  have hcl := qJz v
  rw [w56_0, b56_0, qD8]
  have cc : CAL 112 [kA v.row] (kB (cleanM v)) := qAF 112 _ _ (by simp only [exP]) hcl rfl
  by_cases h1 : 2000 < c + 1
  ·have h2 : (2000 : Int) < ((c + 1 : Nat) : Int) := by omega
   simp (maxSteps := 9999999) +contextual only [exa, ne_eq, not_false_eq_true, reduceAdd, reduceMul, reduceLT, reduceLeDiff, reduceEqDiff, Int.reduceLT, Int.reduceLE, Int.reduceEq, Int.reduceToNat, qAL c (by omega), h1, h2]
   simp [oneOf]
  have h2 : ¬ (2000 : Int) < ((c + 1 : Nat) : Int) := by omega
  cases h3 : cleanM v
  ·simp (maxSteps := 9999999) +contextual only [exa, ne_eq, not_false_eq_true, reduceAdd, reduceMul, reduceLT, reduceLeDiff, reduceEqDiff, Int.reduceLT, Int.reduceLE, Int.reduceEq, Int.reduceToNat, qAL c (by omega), h1, h2, cc, h3]
   simp [oneOf]
  by_cases h4 : 12 < deep
  ·have h4' : (12 : Int) < (deep : Int) := by omega
   simp (maxSteps := 9999999) +contextual only [exa, ne_eq, not_false_eq_true, reduceAdd, reduceMul, reduceLT, reduceLeDiff, reduceEqDiff, Int.reduceLT, Int.reduceLE, Int.reduceEq, Int.reduceToNat, qAL c (by omega), h1, h2, cc, h3, h4, h4']
   simp [oneOf]
  have h4' : ¬ (12 : Int) < (deep : Int) := by omega
  by_cases h5 : 40 < v.l.len
  ·have h5' : (40 : Int) < (v.l.len : Int) := by omega
   simp (maxSteps := 9999999) +contextual only [exa, ne_eq, not_false_eq_true, reduceAdd, reduceMul, reduceLT, reduceLeDiff, reduceEqDiff, Int.reduceLT, Int.reduceLE, Int.reduceEq, Int.reduceToNat, qAL c (by omega), h1, h2, cc, h3, h4, h4', h5, h5']
   simp [oneOf]
  have h5' : ¬ (40 : Int) < (v.l.len : Int) := by omega
  by_cases h6 : 200 < v.s.length
  ·have h6' : (200 : Int) < (v.s.length : Int) := by omega
   simp (maxSteps := 9999999) +contextual only [exa, ne_eq, not_false_eq_true, reduceAdd, reduceMul, reduceLT, reduceLeDiff, reduceEqDiff, Int.reduceLT, Int.reduceLE, Int.reduceEq, Int.reduceToNat, qAL c (by omega), h1, h2, cc, h3, h4, h4', h5, h5', h6, h6']
   simp [oneOf]
  have h6' : ¬ (200 : Int) < (v.s.length : Int) := by omega
  simp (maxSteps := 9999999) +contextual only [exa, ne_eq, not_false_eq_true, reduceAdd, reduceMul, reduceLT, reduceLeDiff, reduceEqDiff, Int.reduceLT, Int.reduceLE, Int.reduceEq, Int.reduceToNat, qAL c (by omega), h1, h2, cc, h3, h4, h4', h5, h5', h6, h6']
  have hlk : v.keys.len ≤ 4000000000000000000 := by
   simp only [cleanM, Bool.and_eq_true, Bool.or_eq_true, decide_eq_true_eq, Bool.not_eq_true', decide_eq_false_iff_not] at h3
   have := h3.2
   omega
  have hv : ∀ (h : Heap) (d g : Nat) (o : AObj) (x : AObj), d + 1 < 1048576 → ((h.own d g (.cells (pcells v.row) 0)).put (.im 0) x).get (.own d g) = some (.cells (pcells v.row) 0) := fun h d g o x hd => qFK h d g _ 0 hd
  have hi : ∀ (h : Heap), ((({ ims := [cntO c], owns := .nil } : Heap).own 4 1 (.cells (pcells v.row) 0)).put (.im 0) (cntO (c + 1))).get (.im 0) = some (cntO (c + 1)) := fun h => qA0 _ 0 _ _ rfl
  refine (qKm v _ _ _ _ (hv _ _ _ (cntO 0) _ (by decide)) (by omega) 0).trans ?_
  rw [List.drop_zero]
  cases h7 : longB v.keys.list
  ·simp only [Bool.false_eq_true, if_false]
   rw [w56_2, b56_2]
   refine (qLe v _ _ _ _ (hv _ _ _ (cntO 0) _ (by decide)) (by omega) 1 (Nat.le_refl _)).trans ?_
   rw [Nat.sub_self, List.drop_zero]
   cases h8 : ordB v.keys.list
   ·simp (maxSteps := 9999999) +contextual only [exa, ne_eq, not_false_eq_true, reduceAdd, reduceMul, reduceLT, reduceLeDiff, reduceEqDiff, Int.reduceLT, Int.reduceLE, Int.reduceEq, Int.reduceToNat, hi h0]
    simp [oneOf]
   ·simp only [if_true]
    rw [w56_4, b56_4]
    have := qKC v deep _ (by omega) (by omega) (fun x hx => ih x (by have := VT.mem_size hx; omega)) 0 (c + 1) _ (hv _ _ _ (cntO 0) _ (by decide)) (hi h0) (by omega)
    rw [List.drop_zero] at this
    exact this
  ·simp (maxSteps := 9999999) +contextual only [exa, ne_eq, not_false_eq_true, reduceAdd, reduceMul, reduceLT, reduceLeDiff, reduceEqDiff, Int.reduceLT, Int.reduceLE, Int.reduceEq, Int.reduceToNat, hi h0]
   simp [oneOf]
theorem qJT (v : VT) : Om 16 [kA v.row] [] = some (kI (chkV v 1 0).1, []) := by
 refine (qAE rfl).trans ?_
 show lim tab.get S 16 0 0 [kA v.row] h0 = _
 have hk := qMy (SizeOf.sizeOf v + 1) v (by omega) 1 0 (by omega) (by omega)
 rw [w16_0, b16_0]
 simp (maxSteps := 9999999) +contextual only [exa, ne_eq, not_false_eq_true, reduceAdd, reduceMul, reduceLT, reduceLeDiff, reduceEqDiff, Int.reduceLT, Int.reduceLE, Int.reduceEq, Int.reduceToNat]
 refine (qFW hk _ (Heap.own_get _ _ _ _ (by decide) (fun e => by cases e))).trans ?_
 simp (maxSteps := 9999999) +contextual only [exa, ne_eq, not_false_eq_true, reduceAdd, reduceMul, reduceLT, reduceLeDiff, reduceEqDiff, Int.reduceLT, Int.reduceLE, Int.reduceEq, Int.reduceToNat, oneOf]
open Go Go.AI
theorem qFp (l : Sl (List UInt8)) (x : List UInt8) (hl : l.len < 4611686018427387904) : Om 139 [.v (.c (.p (slP 1 sRow l))), kS x] [] = some (kB (idxM x l.list).isSome, []) := by
 refine (qAE rfl).trans ?_
 show lim tab.get S 139 0 0 [.v (.c (.p (slP 1 sRow l))), kS x] h0 = _
 rw [w139_0, b139_0]
 simp (maxSteps := 9999999) +contextual only [exa, ne_eq, not_false_eq_true, reduceAdd, reduceMul, reduceLT, reduceLeDiff, reduceEqDiff, Int.reduceLT, Int.reduceLE, Int.reduceEq, Int.reduceToNat, qCk l x hl, oneOf]
 cases idxM x l.list with
 | none => rfl
 | some n => simp [idxI]
theorem u139 {β : Type} {k : TVal → Heap → Option β} {h : Heap} {d : Nat} (l : Sl (List UInt8)) (x : List UInt8) (hl : l.len < 4611686018427387904) : vcall Om (.v (.c (.func 139 []))) [.v (.c (.p (slP 1 sRow l))), kS x] h d k = k (kB (idxM x l.list).isSome) h := qAF 139 _ _ rfl (qFp l x hl) rfl
open Go Go.AI
abbrev z4 : List PVal := [.int .i64 0, .str [], .nilslice, .nilslice]
abbrev nulT : TT := .mk 0 [] .nil .nil
theorem z4_row : TT.row nulT = z4 := by rw [TT.row_eq]; rfl
abbrev pO (d g : Nat) : TVal := .v (.c (.ptr (.own d g) 0))
open Go Go.AI
open Go Go.AI
open Go Go.AI
open Go Go.AI
open Go Go.AI
abbrev TyM := List (List UInt8 × TT)
def fmR (m : TyM) : List (List UInt8 × List PVal) := m.map fun e => (e.1, e.2.row)
abbrev fmV (m : TyM) : TVal := .v (.c (.p (smP (fmR m))))
theorem qE8 (s : List UInt8) : ∀ m : TyM, lookR s (fmR m) = (lookR s m).map TT.row
 | [] => rfl
 | e :: m => by
  show (if s = e.1 then some e.2.row else lookR s (fmR m)) = (if s = e.1 then some e.2 else lookR s m).map TT.row
  rw [qE8 s m]; split <;> rfl
def lookT (m : TyM) (s : List UInt8) : TT := (lookR s m).getD nulT
theorem qMf {β : Type} {O : Oracle} {h : Heap} {d : Nat} {k : TVal → Heap → Option β} (m : TyM) (s : List UInt8) : vop O (.lookup 2 (.agg [.p (.int .i64 0), .p (.str []), .p .nilslice, .p .nilslice]) (.k (fmV m)) (.k (kS s)) false) h d k = k (kA (lookT m s).row) h := by
 have e : ([.p (.int .i64 0), .p (.str []), .p .nilslice, .p .nilslice] : List Cell) = pcells (TT.row nulT) := by rw [z4_row]; rfl
 rw [qEw, qE8]
 unfold lookT
 cases lookR s m with
 | none => rw [e]; rfl
 | some t => rfl
def fopenN (m : TyM) : Nat → TT → TT
 | 0, t => t
 | n + 1, t => fopenN m n (if t.kind = 9 then lookT m t.name else t)
def fopen (m : TyM) (t : TT) : TT := fopenN m m.length t
theorem qHf (m : TyM) (hl : m.length < 4611686018427387904) : ∀ (i : Nat) (t : TT) (h : Heap), h.get (.own 3 1) = some (.cells (pcells t.row) 0) → h.get (.own 4 1) = some (.cells (pcells (TT.row nulT)) 0) →
  lim tab.get S 113 0 1 [fmV m, pO 3 1, pO 4 1, kI (m.length : Int), kI (i : Int)] h = some (kA (fopenN m (m.length - i) t).row, []) := by
 refine qAY m.length (fun i hi t h ht hx => ?_) (fun i hi ih t h ht hx => ?_) <;> rw [w113_1, b113_1]
 ·have h1 : ¬ (i : Int) < (m.length : Int) := by omega
  have h2 : m.length - i = 0 := by omega
  simp (maxSteps := 9999999) +contextual only [exa, ne_eq, not_false_eq_true, reduceAdd, reduceMul, reduceLT, reduceLeDiff, reduceEqDiff, Int.reduceLT, Int.reduceLE, Int.reduceEq, Int.reduceToNat, h1, h2, fopenN, w113_3, b113_3, ht, hx, oneOf]
 ·have h1 : (i : Int) < (m.length : Int) := by omega
  have h2 : m.length - i = (m.length - (i + 1)) + 1 := by omega
  rw [h2, fopenN]
  by_cases h9 : t.kind = 9
  ·simp (maxSteps := 9999999) +contextual only [↓qMf, exa, ne_eq, not_false_eq_true, reduceAdd, reduceMul, reduceLT, reduceLeDiff, reduceEqDiff, Int.reduceLT, Int.reduceLE, Int.reduceEq, Int.reduceToNat, h1, ht, h9, w113_2, b113_2, qAL i (by omega), if_true]
   exact ih _ _ (by simp only [exa, ne_eq, not_false_eq_true, reduceAdd, reduceMul, reduceLT, reduceLeDiff, reduceEqDiff, Int.reduceLT, Int.reduceLE, Int.reduceEq, Int.reduceToNat]) (by simp only [exa, ne_eq, not_false_eq_true, reduceAdd, reduceMul, reduceLT, reduceLeDiff, reduceEqDiff, Int.reduceLT, Int.reduceLE, Int.reduceEq, Int.reduceToNat, hx])
  ·simp (maxSteps := 9999999) +contextual only [exa, ne_eq, not_false_eq_true, reduceAdd, reduceMul, reduceLT, reduceLeDiff, reduceEqDiff, Int.reduceLT, Int.reduceLE, Int.reduceEq, Int.reduceToNat, h1, ht, h9, w113_2, b113_2, qAL i (by omega), if_false]
   exact ih _ _ ht hx
theorem qKf (m : TyM) (t : TT) (hl : m.length < 4611686018427387904) : Om 113 [fmV m, kA t.row] [] = some (kA (fopen m t).row, []) := by
 refine (qAE rfl).trans ?_
 show lim tab.get S 113 0 0 [fmV m, kA t.row] h0 = _
 rw [w113_0, b113_0]
 have e : ([.p (.int .i64 0), .p (.str []), .p .nilslice, .p .nilslice] : List Cell) = pcells (TT.row nulT) := by rw [z4_row]; rfl
 rw [e]
 have hm : (fmR m).length = m.length := by unfold fmR; rw [List.length_map]
 simp (maxSteps := 9999999) +contextual only [exa, ne_eq, not_false_eq_true, reduceAdd, reduceMul, reduceLT, reduceLeDiff, reduceEqDiff, Int.reduceLT, Int.reduceLE, Int.reduceEq, Int.reduceToNat, hm]
 exact qHf m hl 0 t _ (by simp only [exa, ne_eq, not_false_eq_true, reduceAdd, reduceMul, reduceLT, reduceLeDiff, reduceEqDiff, Int.reduceLT, Int.reduceLE, Int.reduceEq, Int.reduceToNat]) (by simp only [exa, ne_eq, not_false_eq_true, reduceAdd, reduceMul, reduceLT, reduceLeDiff, reduceEqDiff, Int.reduceLT, Int.reduceLE, Int.reduceEq, Int.reduceToNat])
theorem qGv {β : Type} {k : TVal → Heap → Option β} {h : Heap} {d : Nat} (m : TyM) (t : TT) (hl : m.length < 4611686018427387904) : vcall Om (.v (.c (.func 113 []))) [fmV m, kA t.row] h d k = k (kA (fopen m t).row) h := qAF 113 _ _ (by simp only [exP]) (qKf m t hl) (by simp only [exP])
def digM (n : Nat) : List UInt8 := if n < 10 then [UInt8.ofNat (48 + n)] else [UInt8.ofNat (48 + n / 10), UInt8.ofNat (48 + n % 10)]
def isStrR (r : Res1) (s : List UInt8) : Bool := match r with
 | some (.v (.c (.p (.str t))), []) => t == s
 | _ => false
theorem qGu {r : Res1} {s : List UInt8} (h : isStrR r s = true) : r = some (kS s, []) := by
 unfold isStrR at h
 split at h
 ·rw [eq_of_beq h]
 ·cases h
theorem qMH {n : Nat} (hn : n < 100) : Om 116 [kI (n : Int)] [] = some (kS (digM n), []) := by
 have h : ((List.range 100).all fun n => isStrR (machU blks.get S 200 116 0 0 [kI (.ofNat n)] h0) (digM n)) = true := by kernel_rfl
 refine (qAE rfl).trans ?_
 exact qAO blks_ok 200 116 0 0 _ _ _ (qGu (qEb h hn))
theorem u116 {β : Type} {k : TVal → Heap → Option β} {h : Heap} {d : Nat} {n : Nat} (hn : n < 100) : vcall Om (.v (.c (.func 116 []))) [kI (n : Int)] h d k = k (kS (digM n)) h := qAF 116 _ _ rfl (qMH hn) rfl
theorem qJi (n : Nat) : (digM n).length ≤ 2 := by unfold digM; split <;> simp
def placeL (i : Nat) : Option (List UInt8) := if i < 100 then some ([91] ++ digM i ++ [93]) else none
theorem qIf (i : Nat) (s : List UInt8) (hi : placeL i = some s) : Om 115 [kI (i : Int)] [] = some (kS s, []) := by
 unfold placeL at hi
 by_cases h1 : i < 100
 ·rw [if_pos h1] at hi
  cases hi
  refine (qAE rfl).trans ?_
  show lim tab.get S 115 0 0 [kI (i : Int)] h0 = _
  have hd := qJi i
  have l1 : ([91] : List UInt8).length + (digM i).length ≤ 4611686018427387904 := by simp; omega
  have l2 : ([91] ++ digM i : List UInt8).length + ([93] : List UInt8).length ≤ 4611686018427387904 := by simp; omega
  rw [w115_0, b115_0]
  simp (maxSteps := 9999999) +contextual only [ex, exM, exF, u116 h1, l1, l2, decide_true, oneOf]
 ·rw [if_neg h1] at hi; cases hi
def placeM (v : VT) (i : Nat) : Option (List UInt8) := match v.keys.list[i]? with
 | none => some []
 | some key => if key.length ≤ 1000000000000 then some ([91, 34] ++ key ++ [34, 93]) else none
theorem qHx (v : VT) (i : Nat) (s : List UInt8) (hi : placeM v i = some s) : Om 117 [kI (i : Int), kP (.im 0)] [.cells (pcells v.row) 0] = some (kS s, [.cells (pcells v.row) 0]) := by
 refine (qAE rfl).trans ?_
 show lim tab.get S 117 1 0 [kI (i : Int), kP (.im 0)] { ims := [.cells (pcells v.row) 0], owns := .nil } = _
 rw [w117_0, b117_0]
 unfold placeM at hi
 cases hk : v.keys.list[i]? with
 | none =>
  rw [hk] at hi
  cases hi
  have h1 : ¬ (i : Int) < (v.keys.len : Int) := by have := List.getElem?_eq_none_iff.1 hk; unfold Sl.len; omega
  simp (maxSteps := 9999999) +contextual only [exa, ne_eq, not_false_eq_true, reduceAdd, reduceMul, reduceLT, reduceLeDiff, reduceEqDiff, Int.reduceLT, Int.reduceLE, Int.reduceEq, Int.reduceToNat, h1, oneOf]
 | some key =>
  rw [hk] at hi
  dsimp only at hi
  by_cases hl : key.length ≤ 1000000000000
  ·rw [if_pos hl] at hi
   cases hi
   have h1 : (i : Int) < (v.keys.len : Int) := by obtain ⟨q, _⟩ := List.getElem?_eq_some_iff.1 hk; unfold Sl.len; omega
   have l1 : ([91, 34] : List UInt8).length + key.length ≤ 4611686018427387904 := by simp; omega
   have l2 : ([91, 34] ++ key : List UInt8).length + ([34, 93] : List UInt8).length ≤ 4611686018427387904 := by simp; omega
   simp (maxSteps := 9999999) +contextual only [ex, exM, exF, exG, exV, exQ, Option.map_some, Nat.reduceAdd, Nat.zero_add, Int.toNat_natCast, Bool.not_true, Bool.not_false, hk, h1, l1, l2, decide_true, decide_false, oneOf]
  ·rw [if_neg hl] at hi; cases hi
open Go Go.AI
def catM (a b : List UInt8) : Option (List UInt8) := if a.length + b.length ≤ 4611686018427387904 then some (a ++ b) else none
theorem qAo {a b c : List UInt8} (h : catM a b = some c) : decide (a.length + b.length ≤ 4611686018427387904) = true ∧ c = a ++ b := by
 unfold catM at h
 by_cases h1 : a.length + b.length ≤ 4611686018427387904
 ·rw [if_pos h1] at h; exact ⟨decide_eq_true h1, (Option.some.inj h).symm⟩
 ·rw [if_neg h1] at h; cases h
abbrev FitR := Option (List UInt8 × Bool)
def eachL (F : TT → VT → FitR) (place : Nat → Option (List UInt8)) (t : TT) : List VT → Nat → FitR
 | [], _ => some ([], true)
 | x :: l, i => (F t x).bind fun r => if r.2 = true then eachL F place t l (i + 1) else (place i).bind fun s => (catM s r.1).map fun p => (p, false)
def eachF (F : TT → VT → FitR) (place : Nat → Option (List UInt8)) (t : TT) (v : VT) (kd : Int) : FitR :=
 if (!decide (v.kind = kd) || !decide ((t.kids.len : Int) = 1)) = true then some ([], false) else eachL F place (t.kids.list.headD nulT) v.l.list 0
def recN (F : TT → VT → FitR) (m : TyM) (t : TT) (v : VT) : List (List UInt8) → Nat → Option (Option (List UInt8))
 | [], _ => some none
 | a :: l, i => match t.kids.list[i]? with
  | none => (catM [46] a).map some
  | some kt => match (idxM a v.keys.list).bind fun k => v.l.list[k]? with
   | none => if (fopen m kt).kind = 6 then recN F m t v l (i + 1) else (catM [46] a).map some
   | some x => (F kt x).bind fun r => if r.2 = true then recN F m t v l (i + 1) else (catM [46] a).bind fun q => (catM q r.1).map some
def keysF (t : TT) : List (List UInt8) → Option (Option (List UInt8))
 | [] => some none
 | k :: l => if (idxM k t.names.list).isSome = true then keysF t l else (catM [46] k).map some
def recF (F : TT → VT → FitR) (m : TyM) (t : TT) (v : VT) : FitR :=
 if v.kind = 5 then (recN F m t v t.names.list 0).bind fun o => match o with
  | some p => some (p, false)
  | none => (keysF t v.keys.list).map fun o => match o with
   | some p => (p, false)
   | none => ([], true)
 else some ([], false)
def unionF (F : TT → VT → FitR) (t : TT) (v : VT) : FitR :=
 if ((!decide (v.kind = 5) || !decide ((v.keys.len : Int) = 1)) || !decide ((v.l.len : Int) = 1)) = true then some ([], false) else
 match (idxM (v.keys.list.headD []) t.names.list).bind fun i => t.kids.list[i]? with
 | none => some ([], false)
 | some kt => (F kt (v.l.list.headD .nul)).bind fun r => if r.2 = true then some r else (catM [46] (v.keys.list.headD [])).bind fun q => (catM q r.1).map fun p => (p, false)
def bigB (t : TT) (v : VT) : Bool := decide (4611686018427387904 ≤ t.names.len) || decide (4611686018427387904 ≤ t.kids.len) || decide (4611686018427387904 ≤ v.keys.len) || decide (4611686018427387904 ≤ v.l.len)
def fitF (m : TyM) : Nat → TT → VT → FitR
 | 0, _, _ => none
 | n + 1, t0, v => if bigB (fopen m t0) v = true then none else
  if (fopen m t0).kind = 1 then some ([], decide (v.kind = 1)) else if (fopen m t0).kind = 2 then some ([], decide (v.kind = 2)) else if (fopen m t0).kind = 3 then some ([], decide (v.kind = 3)) else
  if (fopen m t0).kind = 4 then eachF (fitF m n) placeL (fopen m t0) v 4 else if (fopen m t0).kind = 5 then eachF (fitF m n) (placeM v) (fopen m t0) v 5 else
  if (fopen m t0).kind = 6 then (if (decide (v.kind = 0) || !decide (((fopen m t0).kids.len : Int) = 1)) = true then some ([], decide (v.kind = 0)) else fitF m n ((fopen m t0).kids.list.headD nulT) v) else
  if (fopen m t0).kind = 7 then recF (fitF m n) m (fopen m t0) v else if (fopen m t0).kind = 8 then unionF (fitF m n) (fopen m t0) v else some ([], false)
abbrev fitV' (r : List UInt8 × Bool) : TVal := .tup [.c (.p (.str r.1)), .c (.p (.bool r.2))]
def FitOK (m : TyM) (F : TT → VT → FitR) : Prop := ∀ t v r, F t v = some r → Om 58 [fmV m, kA t.row, kA v.row] [] = some (fitV' r, [])
theorem FitOK.u {m : TyM} {F : TT → VT → FitR} (H : FitOK m F) {β : Type} {k : TVal → Heap → Option β} {h : Heap} {d : Nat} {t : TT} {v : VT} {r : List UInt8 × Bool} (e : F t v = some r) : vcall Om (.v (.c (.func 58 []))) [fmV m, kA t.row, kA v.row] h d k = k (fitV' r) h := qAF 58 _ _ (by simp only [exP]) (H t v r e) (by simp only [exP])
theorem qIQ {m : TyM} {F : TT → VT → FitR} (H : FitOK m F) (t kt : TT) (v : VT) (hk : t.kids.list[0]? = some kt) (hl : v.l.len < 4611686018427387904) (q : Nat) (clo : TVal) (objs : List AObj) (P : Heap → Prop) (place : Nat → Option (List UInt8))
  (hP : ∀ h d g o, P h → P (h.own d g o)) (hplace : ∀ (i : Nat) (s : List UInt8) (h : Heap) (d : Nat) (β : Type) (k : TVal → Heap → Option β), P h → place i = some s → vcall Om clo [kI (i : Int)] h d k = k (kS s) h)
  (hfin : ∀ (h : Heap) (x y : PVal), P h → vfin true q [.c (.p x), .c (.p y)] h = some (.tup [.c (.p x), .c (.p y)], objs)) :
  ∀ (i : Nat) (h : Heap) (r : List UInt8 × Bool), P h → h.get (.own 6 1) = some (.cells (pcells t.row) 0) → eachL F place kt (v.l.list.drop i) i = some r →
   lim tab.get S 114 q 1 [fmV m, clo, pO 6 1, .v (.c (.p (slP 6 VT.row v.l))), kI (v.l.len : Int), kI (i : Int)] h = some (fitV' r, objs) := by
 refine qAY v.l.len (fun i hi h r hp ht he => ?_) (fun i hi ih h r hp ht he => ?_) <;> rw [w114_1, b114_1]
 ·have h1 : ¬ (i : Int) < (v.l.len : Int) := by omega
  rw [qBq hi] at he
  cases he
  simp (maxSteps := 9999999) +contextual only [exa, ne_eq, not_false_eq_true, reduceAdd, reduceMul, reduceLT, reduceLeDiff, reduceEqDiff, Int.reduceLT, Int.reduceLE, Int.reduceEq, Int.reduceToNat, h1]
  exact hfin _ _ _ hp
 ·have h1 : (i : Int) < (v.l.len : Int) := by omega
  obtain ⟨x, hx, h2, _⟩ := qAt hi
  rw [h2] at he
  unfold eachL at he
  obtain ⟨r1, e1, e2⟩ := Option.bind_eq_some_iff.1 he
  obtain ⟨p, b⟩ := r1
  cases b
  ·simp only [Bool.false_eq_true, if_false] at e2
   obtain ⟨s, s1, s2⟩ := Option.bind_eq_some_iff.1 e2
   obtain ⟨c, c1, c2⟩ := Option.map_eq_some_iff.1 s2
   obtain ⟨c3, c4⟩ := qAo c1
   subst c2; subst c4
   simp (maxSteps := 9999999) +contextual only [exa, ne_eq, not_false_eq_true, reduceAdd, reduceMul, reduceLT, reduceLeDiff, reduceEqDiff, Int.reduceLT, Int.reduceLE, Int.reduceEq, Int.reduceToNat, h1, hx, ht, hk, H.u e1]
   refine (hplace i s _ 48 _ _ (hP _ _ _ _ (hP _ _ _ _ hp)) s1).trans ?_
   simp (maxSteps := 9999999) +contextual only [exa, ne_eq, not_false_eq_true, reduceAdd, reduceMul, reduceLT, reduceLeDiff, reduceEqDiff, Int.reduceLT, Int.reduceLE, Int.reduceEq, Int.reduceToNat, c3]
   exact hfin _ _ _ (hP _ _ _ _ (hP _ _ _ _ hp))
  ·simp only [if_true] at e2
   simp (maxSteps := 9999999) +contextual only [exa, ne_eq, not_false_eq_true, reduceAdd, reduceMul, reduceLT, reduceLeDiff, reduceEqDiff, Int.reduceLT, Int.reduceLE, Int.reduceEq, Int.reduceToNat, h1, hx, ht, hk, H.u e1, qAL i (by omega)]
   exact ih _ r (hP _ _ _ _ (hP _ _ _ _ hp)) (by simp only [exa, ne_eq, not_false_eq_true, reduceAdd, reduceMul, reduceLT, reduceLeDiff, reduceEqDiff, Int.reduceLT, Int.reduceLE, Int.reduceEq, Int.reduceToNat, ht]) e2
theorem qGU {m : TyM} {F : TT → VT → FitR} (H : FitOK m F) (t : TT) (v : VT) (hl : v.l.len < 4611686018427387904) (q : Nat) (kd : Int) (clo : TVal) (objs : List AObj) (P : Heap → Prop) (place : Nat → Option (List UInt8))
  (hP : ∀ h d g o, P h → P (h.own d g o)) (hplace : ∀ (i : Nat) (s : List UInt8) (h : Heap) (d : Nat) (β : Type) (k : TVal → Heap → Option β), P h → place i = some s → vcall Om clo [kI (i : Int)] h d k = k (kS s) h)
  (hfin : ∀ (h : Heap) (x y : PVal), P h → vfin true q [.c (.p x), .c (.p y)] h = some (.tup [.c (.p x), .c (.p y)], objs)) (hi : P { ims := objs, owns := .nil }) (r : List UInt8 × Bool) (he : eachF F place t v kd = some r) :
  lim tab.get S 114 q 0 [fmV m, kA t.row, kA v.row, kI kd, clo] { ims := objs, owns := .nil } = some (fitV' r, objs) := by
 rw [w114_0, b114_0]
 unfold eachF at he
 cases hc : (!decide (v.kind = kd) || !decide ((t.kids.len : Int) = 1))
 ·rw [hc] at he
  simp only [Bool.false_eq_true, if_false] at he
  obtain ⟨kt, hk⟩ : ∃ kt, t.kids.list = [kt] := by
   simp at hc
   have : t.kids.list.length = 1 := by have := hc.2; unfold Sl.len at this; omega
   exact List.length_eq_one_iff.1 this
  rw [hk] at he
  have := qIQ H t kt v (by rw [hk]; rfl) hl q clo objs P place hP hplace hfin 0 (((({ ims := objs, owns := .nil } : Heap).own 6 1 (.cells (pcells t.row) 0))).own 7 1 (.cells (pcells v.row) 0)) r (hP _ _ _ _ (hP _ _ _ _ hi)) (by simp only [exa, ne_eq, not_false_eq_true, reduceAdd, reduceMul, reduceLT, reduceLeDiff, reduceEqDiff, Int.reduceLT, Int.reduceLE, Int.reduceEq, Int.reduceToNat]) he
  simp (maxSteps := 9999999) +contextual only [exa, ne_eq, not_false_eq_true, reduceAdd, reduceMul, reduceLT, reduceLeDiff, reduceEqDiff, Int.reduceLT, Int.reduceLE, Int.reduceEq, Int.reduceToNat, hc]
  exact this
 ·rw [hc] at he
  cases he
  simp (maxSteps := 9999999) +contextual only [exa, ne_eq, not_false_eq_true, reduceAdd, reduceMul, reduceLT, reduceLeDiff, reduceEqDiff, Int.reduceLT, Int.reduceLE, Int.reduceEq, Int.reduceToNat, hc]
  exact hfin _ _ _ (hP _ _ _ _ (hP _ _ _ _ hi))
theorem qKA {m : TyM} {F : TT → VT → FitR} (H : FitOK m F) (t : TT) (v : VT) (hl : v.l.len < 4611686018427387904) (r : List UInt8 × Bool) (he : eachF F placeL t v 4 = some r) : Om 114 [fmV m, kA t.row, kA v.row, kI 4, .v (.c (.func 115 []))] [] = some (fitV' r, []) := by
 refine (qAE rfl).trans ?_
 exact qGU H t v hl 0 4 _ [] (fun _ => True) placeL (fun _ _ _ _ _ => trivial) (fun i s h d β k _ hs => qAF 115 _ _ rfl (qIf i s hs) rfl) (fun h x y _ => qJI true x y) trivial r he
theorem qKJ {m : TyM} {F : TT → VT → FitR} (H : FitOK m F) (t : TT) (v w : VT) (hl : v.l.len < 4611686018427387904) (r : List UInt8 × Bool) (he : eachF F (placeM w) t v 5 = some r) : Om 114 [fmV m, kA t.row, kA v.row, kI 5, .v (.c (.func 117 [.im 0]))] [.cells (pcells w.row) 0] = some (fitV' r, [.cells (pcells w.row) 0]) := by
 refine (qAE rfl).trans ?_
 refine qGU H t v hl 1 5 _ [.cells (pcells w.row) 0] (fun h => h.get (.im 0) = some (.cells (pcells w.row) 0)) (placeM w) (fun h d g o hp => hp) (fun i s h d β k hp hs => ?_) (fun h x y hp => ?_) rfl r he
 ·rw [qK4]
  refine (qD3 117 (.im 0) 0 [kI (i : Int)] [] _ _ _ (by simp only [exP]) rfl hp (qAd _ _) (qAd _ _) rfl (qHx w i s hs)).trans ?_
  rw [qHv 0 _ hp]
 ·simp (maxSteps := 9999999) +contextual only [exa, ne_eq, not_false_eq_true, reduceAdd, reduceMul, reduceLT, reduceLeDiff, reduceEqDiff, Int.reduceLT, Int.reduceLE, Int.reduceEq, Int.reduceToNat, hp]
theorem qKw (t : TT) (v : VT) (hn : t.names.len < 4611686018427387904) (hl : v.keys.len < 4611686018427387904) (h : Heap) (ht : h.get (.own 4 1) = some (.cells (pcells t.row) 0)) :
  ∀ (i : Nat) (o : Option (List UInt8)), keysF t (v.keys.list.drop i) = some o → lim tab.get S 118 0 4 [pO 4 1, .v (.c (.p (slP 1 sRow v.keys))), kI (v.keys.len : Int), kI (i : Int)] h = some (fitV' (match o with | some p => (p, false) | none => ([], true)), []) := by
 refine qAY v.keys.len (fun i hi o he => ?_) (fun i hi ih o he => ?_) <;> rw [w118_4, b118_4]
 ·have h1 : ¬ (i : Int) < (v.keys.len : Int) := by omega
  rw [qBq hi] at he
  cases he
  simp (maxSteps := 9999999) +contextual only [exa, ne_eq, not_false_eq_true, reduceAdd, reduceMul, reduceLT, reduceLeDiff, reduceEqDiff, Int.reduceLT, Int.reduceLE, Int.reduceEq, Int.reduceToNat, h1, oneOf]
 ·have h1 : (i : Int) < (v.keys.len : Int) := by omega
  obtain ⟨x, hx, h2, _⟩ := qAt hi
  rw [h2] at he
  unfold keysF at he
  cases hc : (idxM x t.names.list).isSome
  ·rw [hc] at he
   simp only [Bool.false_eq_true, if_false] at he
   obtain ⟨c, c1, c2⟩ := Option.map_eq_some_iff.1 he
   obtain ⟨c3, c4⟩ := qAo c1
   subst c2; subst c4
   simp (maxSteps := 9999999) +contextual only [ex, exG, exM, exV, exF, Option.map_some, Bool.not_true, Bool.not_false, Int.toNat_natCast, Nat.zero_add, Nat.reduceAdd, ht, decide_true, h1, hx, u139 t.names x hn, hc, c3, oneOf]
  ·rw [hc] at he
   simp only [if_true] at he
   simp (maxSteps := 9999999) +contextual only [exa, ne_eq, not_false_eq_true, reduceAdd, reduceMul, reduceLT, reduceLeDiff, reduceEqDiff, Int.reduceLT, Int.reduceLE, Int.reduceEq, Int.reduceToNat, h1, ht, hx, u139 t.names x hn, hc, qAL i (by omega)]
   exact ih o he
theorem qHw {m : TyM} {F : TT → VT → FitR} (H : FitOK m F) (hm : m.length < 4611686018427387904) (t : TT) (v : VT) (hn : t.names.len < 4611686018427387904) (hl : v.keys.len < 4611686018427387904) (h : Heap) (ht : h.get (.own 4 1) = some (.cells (pcells t.row) 0)) (hv : h.get (.own 5 1) = some (.cells (pcells v.row) 0)) :
  ∀ (i : Nat) (o : Option (List UInt8)), recN F m t v (t.names.list.drop i) i = some o → lim tab.get S 118 0 1 [fmV m, pO 4 1, pO 5 1, .v (.c (.p (slP 1 sRow t.names))), kI (t.names.len : Int), kI (i : Int)] h = match o with | some p => some (fitV' (p, false), []) | none => lim tab.get S 118 0 3 [pO 4 1, pO 5 1] h := by
 refine qAY t.names.len (fun i hi o he => ?_) (fun i hi ih o he => ?_) <;> rw [w118_1, b118_1]
 ·have h1 : ¬ (i : Int) < (t.names.len : Int) := by omega
  rw [qBq hi] at he
  cases he
  simp (maxSteps := 9999999) +contextual only [exa, ne_eq, not_false_eq_true, reduceAdd, reduceMul, reduceLT, reduceLeDiff, reduceEqDiff, Int.reduceLT, Int.reduceLE, Int.reduceEq, Int.reduceToNat, h1]
 ·have h1 : (i : Int) < (t.names.len : Int) := by omega
  obtain ⟨a, ha, h2, _⟩ := qAt hi
  rw [h2] at he
  unfold recN at he
  cases hk : t.kids.list[i]? with
  | none =>
   rw [hk] at he
   have h3 : ¬ (i : Int) < (t.kids.len : Int) := by have := List.getElem?_eq_none_iff.1 hk; unfold Sl.len; omega
   obtain ⟨c, c1, c2⟩ := Option.map_eq_some_iff.1 he
   obtain ⟨c3, c4⟩ := qAo c1
   subst c2; subst c4
   simp (maxSteps := 9999999) +contextual only [ex, exG, exM, exV, exF, Option.map_some, Bool.not_true, Bool.not_false, Int.toNat_natCast, Nat.zero_add, Nat.reduceAdd, ht, decide_true, decide_false, h1, h3, ha, c3, oneOf]
  | some kt =>
   rw [hk] at he
   dsimp only at he
   have h3 : (i : Int) < (t.kids.len : Int) := by obtain ⟨q, _⟩ := List.getElem?_eq_some_iff.1 hk; unfold Sl.len; omega
   cases hx : (idxM a v.keys.list).bind fun k => v.l.list[k]? with
   | none =>
    rw [hx] at he
    dsimp only at he
    have hmiss : (decide (idxI (idxM a v.keys.list) 0 < 0) || !decide (idxI (idxM a v.keys.list) 0 < (v.l.len : Int))) = true := by
     cases hi' : idxM a v.keys.list with
     | none => rfl
     | some j =>
      rw [hi'] at hx
      have : v.l.list.length ≤ j := by simpa using hx
      have h4 : ¬ idxI (some j) 0 < (v.l.len : Int) := by unfold idxI Sl.len; simp; omega
      rw [decide_eq_false h4]; simp
    by_cases h6 : (fopen m kt).kind = 6
    ·rw [if_pos h6] at he
     simp (maxSteps := 9999999) +contextual only [exa, ne_eq, not_false_eq_true, reduceAdd, reduceMul, reduceLT, reduceLeDiff, reduceEqDiff, Int.reduceLT, Int.reduceLE, Int.reduceEq, Int.reduceToNat, h1, h3, ht, hv, ha, qCk v.keys a hl, hmiss, hk, qGv m kt hm, h6, w118_2, b118_2, qAL i (by omega)]
     exact ih o he
    ·rw [if_neg h6] at he
     obtain ⟨c, c1, c2⟩ := Option.map_eq_some_iff.1 he
     obtain ⟨c3, c4⟩ := qAo c1
     subst c2; subst c4
     simp (maxSteps := 9999999) +contextual only [ex, exG, exM, exV, exF, Option.map_some, Bool.not_true, Bool.not_false, Int.toNat_natCast, Nat.zero_add, Nat.reduceAdd, ht, decide_true, decide_false, h1, h3, hv, ha, qCk v.keys a hl, hmiss, hk, qGv m kt hm, h6, c3, oneOf]
   | some x =>
    rw [hx] at he
    dsimp only at he
    obtain ⟨j, j1, j2⟩ := Option.bind_eq_some_iff.1 hx
    have hjl : j < v.l.len := by obtain ⟨q, _⟩ := List.getElem?_eq_some_iff.1 j2; exact q
    have hj : idxI (idxM a v.keys.list) 0 = (j : Int) := by rw [j1]; unfold idxI; simp
    have hj0 : ¬ (j : Int) < 0 := by omega
    have hj1 : (j : Int) < (v.l.len : Int) := by omega
    obtain ⟨r1, e1, e2⟩ := Option.bind_eq_some_iff.1 he
    obtain ⟨p, b⟩ := r1
    cases b
    ·simp only [Bool.false_eq_true, if_false] at e2
     obtain ⟨s, s1, s2⟩ := Option.bind_eq_some_iff.1 e2
     obtain ⟨c, c1, c2⟩ := Option.map_eq_some_iff.1 s2
     obtain ⟨c3, c4⟩ := qAo s1
     subst c4
     obtain ⟨c5, c6⟩ := qAo c1
     subst c2; subst c6
     simp (maxSteps := 9999999) +contextual only [ex, exG, exM, exV, exF, List.getElem?_cons_zero, List.getElem?_cons_succ, Option.map_some, Bool.not_true, Bool.not_false, Bool.or_self, Int.toNat_natCast, Nat.zero_add, Nat.reduceAdd, ht, decide_true, decide_false, h1, h3, hv, ha, qCk v.keys a hl, hj, hj0, hj1, hk, j2, H.u e1, c3, c5, oneOf]
    ·simp only [if_true] at e2
     simp (maxSteps := 9999999) +contextual only [exa, ne_eq, not_false_eq_true, reduceAdd, reduceMul, reduceLT, reduceLeDiff, reduceEqDiff, Int.reduceLT, Int.reduceLE, Int.reduceEq, Int.reduceToNat, h1, h3, ht, hv, ha, qCk v.keys a hl, hj, hj0, hj1, hk, j2, H.u e1, w118_2, b118_2, qAL i (by omega)]
     exact ih o e2
open Go Go.AI
theorem qMp {m : TyM} {F : TT → VT → FitR} (H : FitOK m F) (hm : m.length < 4611686018427387904) (t : TT) (v : VT) (hn : t.names.len < 4611686018427387904) (hl : v.keys.len < 4611686018427387904) (r : List UInt8 × Bool) (he : recF F m t v = some r) : Om 118 [fmV m, kA t.row, kA v.row] [] = some (fitV' r, []) := by
 refine (qAE rfl).trans ?_
 show lim tab.get S 118 0 0 [fmV m, kA t.row, kA v.row] h0 = _
 rw [w118_0, b118_0]
 unfold recF at he
 by_cases h5 : v.kind = 5
 ·rw [if_pos h5] at he
  obtain ⟨o, e1, e2⟩ := Option.bind_eq_some_iff.1 he
  have hr := qHw H hm t v hn hl ((h0.own 4 1 (.cells (pcells t.row) 0)).own 5 1 (.cells (pcells v.row) 0)) (by simp only [exa, ne_eq, not_false_eq_true, reduceAdd, reduceMul, reduceLT, reduceLeDiff, reduceEqDiff, Int.reduceLT, Int.reduceLE, Int.reduceEq, Int.reduceToNat]) (by simp only [exa, ne_eq, not_false_eq_true, reduceAdd, reduceMul, reduceLT, reduceLeDiff, reduceEqDiff, Int.reduceLT, Int.reduceLE, Int.reduceEq, Int.reduceToNat]) 0 o (by rw [List.drop_zero]; exact e1)
  simp (maxSteps := 9999999) +contextual only [exa, ne_eq, not_false_eq_true, reduceAdd, reduceMul, reduceLT, reduceLeDiff, reduceEqDiff, Int.reduceLT, Int.reduceLE, Int.reduceEq, Int.reduceToNat, h5]
  refine hr.trans ?_
  cases o with
  | some p => cases e2; rfl
  | none =>
   dsimp only at e2 ⊢
   obtain ⟨o2, c1, c2⟩ := Option.map_eq_some_iff.1 e2
   have hq := qKw t v hn hl ((h0.own 4 1 (.cells (pcells t.row) 0)).own 5 1 (.cells (pcells v.row) 0)) (by simp only [exa, ne_eq, not_false_eq_true, reduceAdd, reduceMul, reduceLT, reduceLeDiff, reduceEqDiff, Int.reduceLT, Int.reduceLE, Int.reduceEq, Int.reduceToNat]) 0 o2 (by rw [List.drop_zero]; exact c1)
   rw [w118_3, b118_3]
   simp (maxSteps := 9999999) +contextual only [exa, ne_eq, not_false_eq_true, reduceAdd, reduceMul, reduceLT, reduceLeDiff, reduceEqDiff, Int.reduceLT, Int.reduceLE, Int.reduceEq, Int.reduceToNat]
   refine hq.trans ?_
   rw [← c2]
 ·rw [if_neg h5] at he
  cases he
  simp (maxSteps := 9999999) +contextual only [exa, ne_eq, not_false_eq_true, reduceAdd, reduceMul, reduceLT, reduceLeDiff, reduceEqDiff, Int.reduceLT, Int.reduceLE, Int.reduceEq, Int.reduceToNat, h5, oneOf]
theorem qKE {m : TyM} {F : TT → VT → FitR} (H : FitOK m F) (t : TT) (v : VT) (hn : t.names.len < 4611686018427387904) (r : List UInt8 × Bool) (he : unionF F t v = some r) : Om 119 [fmV m, kA t.row, kA v.row] [] = some (fitV' r, []) := by
 refine (qAE rfl).trans ?_
 show lim tab.get S 119 0 0 [fmV m, kA t.row, kA v.row] h0 = _
 rw [w119_0, b119_0]
 unfold unionF at he
 cases hc : ((!decide (v.kind = 5) || !decide ((v.keys.len : Int) = 1)) || !decide ((v.l.len : Int) = 1))
 ·rw [hc] at he
  simp only [Bool.false_eq_true, if_false] at he
  have hc' : v.kind = 5 ∧ v.keys.len = 1 ∧ v.l.len = 1 := by simp at hc; omega
  obtain ⟨key, hk⟩ : ∃ key, v.keys.list = [key] := List.length_eq_one_iff.1 hc'.2.1
  obtain ⟨x, hx⟩ : ∃ x, v.l.list = [x] := List.length_eq_one_iff.1 hc'.2.2
  rw [hk, hx] at he
  simp only [List.headD_cons] at he
  cases hi : (idxM key t.names.list).bind fun i => t.kids.list[i]? with
  | none =>
   rw [hi] at he
   cases he
   have hmiss : (decide (idxI (idxM key t.names.list) 0 < 0) || !decide (idxI (idxM key t.names.list) 0 < (t.kids.len : Int))) = true := by
    cases hi' : idxM key t.names.list with
    | none => rfl
    | some j =>
     rw [hi'] at hi
     have : t.kids.list.length ≤ j := by simpa using hi
     have h4 : ¬ idxI (some j) 0 < (t.kids.len : Int) := by unfold idxI Sl.len; simp; omega
     rw [decide_eq_false h4]; simp
   simp (maxSteps := 9999999) +contextual only [exa, ne_eq, not_false_eq_true, reduceAdd, reduceMul, reduceLT, reduceLeDiff, reduceEqDiff, Int.reduceLT, Int.reduceLE, Int.reduceEq, Int.reduceToNat, hc, hk, hx, qCk t.names key hn, hmiss, oneOf]
  | some kt =>
   rw [hi] at he
   dsimp only at he
   obtain ⟨j, j1, j2⟩ := Option.bind_eq_some_iff.1 hi
   have hjl : j < t.kids.len := by obtain ⟨q, _⟩ := List.getElem?_eq_some_iff.1 j2; exact q
   have hj : idxI (idxM key t.names.list) 0 = (j : Int) := by rw [j1]; unfold idxI; simp
   have hj0 : ¬ (j : Int) < 0 := by omega
   have hj1 : (j : Int) < (t.kids.len : Int) := by omega
   obtain ⟨r1, e1, e2⟩ := Option.bind_eq_some_iff.1 he
   obtain ⟨p, b⟩ := r1
   cases b
   ·simp only [Bool.false_eq_true, if_false] at e2
    obtain ⟨s, s1, s2⟩ := Option.bind_eq_some_iff.1 e2
    obtain ⟨c, c1, c2⟩ := Option.map_eq_some_iff.1 s2
    obtain ⟨c3, c4⟩ := qAo s1
    subst c4
    obtain ⟨c5, c6⟩ := qAo c1
    subst c2; subst c6
    simp (maxSteps := 9999999) +contextual only [ex, exG, exM, exV, exF, List.getElem?_cons_zero, List.getElem?_cons_succ, Int.reduceToNat, Int.reduceLE, Nat.reduceEqDiff, Nat.reduceLT, ne_eq, not_false_eq_true, Option.map_some, Bool.not_true, Bool.not_false, Bool.or_self, Int.toNat_natCast, Nat.zero_add, Nat.reduceAdd, decide_true, decide_false, hc, hk, hx, qCk t.names key hn, hj, hj0, hj1, j2, H.u e1, c3, c5, oneOf]
   ·simp only [if_true] at e2
    cases e2
    simp (maxSteps := 9999999) +contextual only [exa, ne_eq, not_false_eq_true, reduceAdd, reduceMul, reduceLT, reduceLeDiff, reduceEqDiff, Int.reduceLT, Int.reduceLE, Int.reduceEq, Int.reduceToNat, hc, hk, hx, qCk t.names key hn, hj, hj0, hj1, j2, H.u e1, oneOf]
 ·rw [hc] at he
  cases he
  simp (maxSteps := 9999999) +contextual only [exa, ne_eq, not_false_eq_true, reduceAdd, reduceMul, reduceLT, reduceLeDiff, reduceEqDiff, Int.reduceLT, Int.reduceLE, Int.reduceEq, Int.reduceToNat, hc, oneOf]
set_option maxHeartbeats 2000000 in
theorem qMt (m : TyM) (hm : m.length < 4611686018427387904) : ∀ n, FitOK m (fitF m n) := by
 intro n
 induction n with
 | zero => intro t v r he; cases he
 | succ n ih =>
  intro t0 v r he
  refine (qAE rfl).trans ?_
  show lim tab.get S 58 0 0 [fmV m, kA t0.row, kA v.row] h0 = _
  rw [w58_0, b58_0]
  unfold fitF at he
  cases hb : bigB (fopen m t0) v
  case true => rw [hb, if_pos rfl] at he; cases he
  rw [hb] at he
  simp only [Bool.false_eq_true, if_false] at he
  have hu := fun (β : Type) (k : TVal → Heap → Option β) (h : Heap) (d : Nat) => qGv (k := k) (h := h) (d := d) m t0 hm
  generalize fopen m t0 = t at he hb hu
  have hB : t.names.len < 4611686018427387904 ∧ t.kids.len < 4611686018427387904 ∧ v.keys.len < 4611686018427387904 ∧ v.l.len < 4611686018427387904 := by
   simp [bigB] at hb; omega
  by_cases k1 : t.kind = 1
  ·rw [if_pos k1] at he; cases he
   simp (maxSteps := 9999999) +contextual only [exa, ne_eq, not_false_eq_true, reduceAdd, reduceMul, reduceLT, reduceLeDiff, reduceEqDiff, Int.reduceLT, Int.reduceLE, Int.reduceEq, Int.reduceToNat, hu, k1, oneOf]
  rw [if_neg k1] at he
  by_cases k2 : t.kind = 2
  ·rw [if_pos k2] at he; cases he
   simp (maxSteps := 9999999) +contextual only [exa, ne_eq, not_false_eq_true, reduceAdd, reduceMul, reduceLT, reduceLeDiff, reduceEqDiff, Int.reduceLT, Int.reduceLE, Int.reduceEq, Int.reduceToNat, hu, k1, k2, oneOf]
  rw [if_neg k2] at he
  by_cases k3 : t.kind = 3
  ·rw [if_pos k3] at he; cases he
   simp (maxSteps := 9999999) +contextual only [exa, ne_eq, not_false_eq_true, reduceAdd, reduceMul, reduceLT, reduceLeDiff, reduceEqDiff, Int.reduceLT, Int.reduceLE, Int.reduceEq, Int.reduceToNat, hu, k1, k2, k3, oneOf]
  rw [if_neg k3] at he
  by_cases k4 : t.kind = 4
  ·rw [if_pos k4] at he
   have hc : ∀ (β : Type) (k : TVal → Heap → Option β) (h : Heap) (d : Nat), vcall Om (.v (.c (.func 114 []))) [fmV m, kA t.row, kA v.row, kI 4, .v (.c (.func 115 []))] h d k = k (fitV' r) h := fun β k h d =>
    qLl 114 [fmV m, kA t.row, kA v.row, kI 4] [] 115 _ (by simp only [exP]) rfl (by simp only [exP]) (qKA ih t v hB.2.2.2 r he)
   simp (maxSteps := 9999999) +contextual only [exa, ne_eq, not_false_eq_true, reduceAdd, reduceMul, reduceLT, reduceLeDiff, reduceEqDiff, Int.reduceLT, Int.reduceLE, Int.reduceEq, Int.reduceToNat, hu, k1, k2, k3, k4, hc, oneOf]
  rw [if_neg k4] at he
  by_cases k5 : t.kind = 5
  ·rw [if_pos k5] at he
   have hc : ∀ (β : Type) (k : TVal → Heap → Option β) (h : Heap) (d : Nat), h.get (.own 5 1) = some (.cells (pcells v.row) 0) → vcall Om (.v (.c (.func 114 []))) [fmV m, kA t.row, kA v.row, kI 5, .v (.c (.func 117 [.own 5 1]))] h d k = k (fitV' r) (h.put (.own 5 1) (.cells (pcells v.row) 0)) := fun β k h d hg =>
    qKH 114 (.own 5 1) (.v (.c (.func 117 [.own 5 1]))) (.v (.c (.func 117 [.im 0]))) [fmV m, kA t.row, kA v.row, kI 5] [] _ _ _ rfl rfl (qMJ _ _) (by simp only [exP]) rfl hg (qAd _ _) (qAd _ _) (by simp only [exP]) (qKJ ih t v v hB.2.2.2 r he)
   simp (maxSteps := 9999999) +contextual only [exa, ne_eq, not_false_eq_true, reduceAdd, reduceMul, reduceLT, reduceLeDiff, reduceEqDiff, Int.reduceLT, Int.reduceLE, Int.reduceEq, Int.reduceToNat, hu, k1, k2, k3, k4, k5]
   refine (hc _ _ _ _ (by simp only [exa, ne_eq, not_false_eq_true, reduceAdd, reduceMul, reduceLT, reduceLeDiff, reduceEqDiff, Int.reduceLT, Int.reduceLE, Int.reduceEq, Int.reduceToNat])).trans ?_
   simp (maxSteps := 9999999) +contextual only [exa, ne_eq, not_false_eq_true, reduceAdd, reduceMul, reduceLT, reduceLeDiff, reduceEqDiff, Int.reduceLT, Int.reduceLE, Int.reduceEq, Int.reduceToNat, oneOf]
  rw [if_neg k5] at he
  by_cases k6 : t.kind = 6
  ·rw [if_pos k6] at he
   cases hc : (decide (v.kind = 0) || !decide ((t.kids.len : Int) = 1))
   ·rw [hc] at he
    simp only [Bool.false_eq_true, if_false] at he
    obtain ⟨kt, hk⟩ : ∃ kt, t.kids.list = [kt] := by
     simp at hc
     have : t.kids.list.length = 1 := by have := hc.2; unfold Sl.len at this; omega
     exact List.length_eq_one_iff.1 this
    rw [hk] at he
    simp only [List.headD_cons] at he
    simp (maxSteps := 9999999) +contextual only [exa, ne_eq, not_false_eq_true, reduceAdd, reduceMul, reduceLT, reduceLeDiff, reduceEqDiff, Int.reduceLT, Int.reduceLE, Int.reduceEq, Int.reduceToNat, hu, k1, k2, k3, k4, k5, k6, hc, hk, ih.u he, oneOf]
   ·rw [hc] at he
    cases he
    simp (maxSteps := 9999999) +contextual only [exa, ne_eq, not_false_eq_true, reduceAdd, reduceMul, reduceLT, reduceLeDiff, reduceEqDiff, Int.reduceLT, Int.reduceLE, Int.reduceEq, Int.reduceToNat, hu, k1, k2, k3, k4, k5, k6, hc, oneOf]
  rw [if_neg k6] at he
  by_cases k7 : t.kind = 7
  ·rw [if_pos k7] at he
   have hc : ∀ (β : Type) (k : TVal → Heap → Option β) (h : Heap) (d : Nat), vcall Om (.v (.c (.func 118 []))) [fmV m, kA t.row, kA v.row] h d k = k (fitV' r) h := fun β k h d => qAF 118 _ _ (by simp only [exP]) (qMp ih hm t v hB.1 hB.2.2.1 r he) (by simp only [exP])
   simp (maxSteps := 9999999) +contextual only [exa, ne_eq, not_false_eq_true, reduceAdd, reduceMul, reduceLT, reduceLeDiff, reduceEqDiff, Int.reduceLT, Int.reduceLE, Int.reduceEq, Int.reduceToNat, hu, k1, k2, k3, k4, k5, k6, k7, hc, oneOf]
  rw [if_neg k7] at he
  by_cases k8 : t.kind = 8
  ·rw [if_pos k8] at he
   have hc : ∀ (β : Type) (k : TVal → Heap → Option β) (h : Heap) (d : Nat), vcall Om (.v (.c (.func 119 []))) [fmV m, kA t.row, kA v.row] h d k = k (fitV' r) h := fun β k h d => qAF 119 _ _ (by simp only [exP]) (qKE ih t v hB.1 r he) (by simp only [exP])
   simp (maxSteps := 9999999) +contextual only [exa, ne_eq, not_false_eq_true, reduceAdd, reduceMul, reduceLT, reduceLeDiff, reduceEqDiff, Int.reduceLT, Int.reduceLE, Int.reduceEq, Int.reduceToNat, hu, k1, k2, k3, k4, k5, k6, k7, k8, hc, oneOf]
  ·rw [if_neg k8] at he
   cases he
   simp (maxSteps := 9999999) +contextual only [exa, ne_eq, not_false_eq_true, reduceAdd, reduceMul, reduceLT, reduceLeDiff, reduceEqDiff, Int.reduceLT, Int.reduceLE, Int.reduceEq, Int.reduceToNat, hu, k1, k2, k3, k4, k5, k6, k7, k8, oneOf]
def madeM (types : List NT) : TyM := types.map fun e => (e.name, e.t)
theorem qHp (s : ST) (hl : s.types.len < 4611686018427387904) (hd : ∀ (i j : Nat) a b, i < j → s.types.list[i]? = some a → s.types.list[j]? = some b → a.name ≠ b.name) :
  ∀ (i : Nat) (h : Heap), h.get (.own 6 1) = some (.map (smE (fmR (madeM (s.types.list.take i))) 0) (fmR (madeM (s.types.list.take i))).length) →
   lim tab.get S 57 0 1 [.v (.c (.mref (.own 6 1))), .v (.c (.p (slP 5 NT.row s.types))), kI (s.types.len : Int), kI (i : Int)] h = some (fmV (madeM s.types.list), []) := by
 refine qAY s.types.len (fun i hi h hg => ?_) (fun i hi ih h hg => ?_) <;> rw [w57_1, b57_1]
 ·have h1 : ¬ (i : Int) < (s.types.len : Int) := by omega
  rw [List.take_of_length_le hi] at hg
  simp (maxSteps := 9999999) +contextual only [exa, ne_eq, not_false_eq_true, reduceAdd, reduceMul, reduceLT, reduceLeDiff, reduceEqDiff, Int.reduceLT, Int.reduceLE, Int.reduceEq, Int.reduceToNat, h1]
  exact qKY _ _ _ hg
 ·have h1 : (i : Int) < (s.types.len : Int) := by omega
  obtain ⟨x, hx, h2, _⟩ := qAt hi
  have hn : lookR x.name (fmR (madeM (s.types.list.take i))) = none := by
   rw [qCR]
   rw [List.find?_eq_none.2]; rfl
   intro e he
   simp only [fmR, madeM, List.map_map, List.mem_map] at he
   obtain ⟨y, hy, rfl⟩ := he
   obtain ⟨j, hj⟩ := List.mem_iff_getElem?.1 hy
   rw [List.getElem?_take] at hj
   split at hj
   ·rename_i hji
    have := hd j i y x hji hj hx
    simp only [Function.comp, decide_eq_true_eq]
    exact fun e => this e.symm
   ·cases hj
  have ht : s.types.list.take (i + 1) = s.types.list.take i ++ [x] := by
   obtain ⟨q, e⟩ := List.getElem?_eq_some_iff.1 hx
   rw [List.take_succ_eq_append_getElem q, e]
  have e : fmR (madeM (s.types.list.take (i + 1))) = fmR (madeM (s.types.list.take i)) ++ [(x.name, x.t.row)] := by
   rw [ht]; simp [fmR, madeM]
  simp (maxSteps := 9999999) +contextual only [exa, ne_eq, not_false_eq_true, reduceAdd, reduceMul, reduceLT, reduceLeDiff, reduceEqDiff, Int.reduceLT, Int.reduceLE, Int.reduceEq, Int.reduceToNat, h1, hx]
  rw [qLH _ _ (fmR (madeM (s.types.list.take i))).length x.name x.t.row (by simp only [exa, ne_eq, not_false_eq_true, reduceAdd, reduceMul, reduceLT, reduceLeDiff, reduceEqDiff, Int.reduceLT, Int.reduceLE, Int.reduceEq, Int.reduceToNat, hg]) hn]
  simp (maxSteps := 9999999) +contextual only [exa, ne_eq, not_false_eq_true, reduceAdd, reduceMul, reduceLT, reduceLeDiff, reduceEqDiff, Int.reduceLT, Int.reduceLE, Int.reduceEq, Int.reduceToNat, qAL i (by omega)]
  refine ih _ ?_
  rw [e]
  exact Heap.own_get _ _ _ _ (by decide) (fun e => by cases e)
theorem qL2 (s : ST) (hl : s.types.len < 4611686018427387904) (hd : ∀ (i j : Nat) a b, i < j → s.types.list[i]? = some a → s.types.list[j]? = some b → a.name ≠ b.name) : Om 57 [kA s.row] [] = some (fmV (madeM s.types.list), []) := by
 refine (qAE rfl).trans ?_
 show lim tab.get S 57 0 0 [kA s.row] h0 = _
 rw [w57_0, b57_0]
 simp (maxSteps := 9999999) +contextual only [exa, ne_eq, not_false_eq_true, reduceAdd, reduceMul, reduceLT, reduceLeDiff, reduceEqDiff, Int.reduceLT, Int.reduceLE, Int.reduceEq, Int.reduceToNat]
 exact qHp s hl hd 0 _ (Heap.own_get _ _ _ _ (by decide) (fun e => by cases e))
end Go.Proofs.YtlkejchbcchecaaDoor.Ab
set_option maxHeartbeats 4000000
namespace Go.Proofs.YtlkejchbcchecaaDoor.Ab
open Go Go.AI
abbrev rdC (S : List UInt8) (P : Nat) (E : Int) : AObj := .cells [.p (.str S), .p (.int .i64 (P : Int)), .p (.int .i64 E)] 0
def notBl (b : UInt8) : Prop := b ≠ 32 ∧ b ≠ 9 ∧ b ≠ 10 ∧ b ≠ 13
theorem qA1 {b c : UInt8} (h : b ≠ c) : ¬ (b.toNat : Int) = (c.toNat : Int) := fun e => h (UInt8.toNat_inj.1 (Int.ofNat.inj e))
theorem qCY (S : List UInt8) (P : Nat) (E : Int) : plainO (rdC S P E) := qAd [.str S, .int .i64 (P : Int), .int .i64 E] 0
theorem qA2 {f : FuncId} {ps : List TVal} {T : List UInt8} {P P' : Nat} {E E' : Int} {v : TVal} (hp : allB pT ps = true) (hv : pT v = true) (hc : Om f (kP (.im 0) :: ps) [rdC T P E] = some (v, [rdC T P' E'])) {β : Type} {k : TVal → Heap → Option β} {h : Heap} {d : Nat} (r : Ref) (hg : h.get r = some (rdC T P E)) :
  vcall Om (.v (.c (.func f []))) (kP r :: ps) h d k = k v (h.put r (rdC T P' E')) :=
 qD3 f r 0 [] ps _ _ v rfl hp hg (qCY _ _ _) (qCY _ _ _) hv hc
theorem qJK (T : List UInt8) (P : Nat) (E : Int) (hb : ∀ b, T[P]? = some b → notBl b) : Om 67 [kP (.im 0)] [rdC T P E] = some (.tup [], [rdC T P E]) := by
 refine (qAE rfl).trans ?_
 show lim tab.get S 67 1 0 [kP (.im 0)] ⟨[rdC T P E], .nil⟩ = _
 rw [w67_0, b67_0, w67_1, b67_1]
 cases hx : T[P]? with
 | none =>
  have h1 : ¬ (P : Int) < (T.length : Int) := by have := List.getElem?_eq_none_iff.1 hx; omega
  simp (maxSteps := 9999999) +contextual only [exa, ne_eq, not_false_eq_true, reduceAdd, reduceMul, reduceLT, reduceLeDiff, reduceEqDiff, Int.reduceLT, Int.reduceLE, Int.reduceEq, Int.reduceToNat, exW, h1]
 | some b =>
  have h1 : (P : Int) < (T.length : Int) := by have := (List.getElem?_eq_some_iff.1 hx).1; omega
  obtain ⟨n1, n2, n3, n4⟩ := hb b hx
  have m1 : ¬ (b.toNat : Int) = 32 := qA1 n1
  have m2 : ¬ (b.toNat : Int) = 9 := qA1 n2
  have m3 : ¬ (b.toNat : Int) = 10 := qA1 n3
  have m4 : ¬ (b.toNat : Int) = 13 := qA1 n4
  simp (maxSteps := 9999999) +contextual only [exa, ne_eq, not_false_eq_true, reduceAdd, reduceMul, reduceLT, reduceLeDiff, reduceEqDiff, Int.reduceLT, Int.reduceLE, Int.reduceEq, Int.reduceToNat, exW, h1, hx, m1, m2, m3, m4, Int.toNat_natCast]
theorem u67 {T : List UInt8} {P : Nat} {E : Int} (hb : ∀ b, T[P]? = some b → notBl b) {β : Type} {k : TVal → Heap → Option β} {h : Heap} {d : Nat} (r : Ref) (hg : h.get r = some (rdC T P E)) : vcall Om (.v (.c (.func 67 []))) [kP r] h d k = k (.tup []) (h.put r (rdC T P E)) :=
 qA2 (ps := []) rfl rfl (qJK T P E hb) r hg
theorem qNB (T : List UInt8) (P : Nat) (b c : UInt8) (hx : T[P]? = some b) (nb : notBl b) (hP : P < 1000000) : Om 167 [kP (.im 0), kU c] [rdC T P 0] = some (kB (decide (b = c)), [rdC T (if b = c then P + 1 else P) 0]) := by
 refine (qAE rfl).trans ?_
 show lim tab.get S 167 1 0 [kP (.im 0), kU c] ⟨[rdC T P 0], .nil⟩ = _
 rw [w167_0, b167_0]
 have h1 : (P : Int) < (T.length : Int) := by have := (List.getElem?_eq_some_iff.1 hx).1; omega
 have U := fun (β : Type) (k : TVal → Heap → Option β) (h : Heap) (d : Nat) => u67 (k := k) (h := h) (d := d) (T := T) (P := P) (E := 0) (fun b' h' => by rw [hx] at h'; cases h'; exact nb) (.im 0)
 have e1 := U _ (fun x h => some x) (Heap.mk [rdC T P 0] .nil) 0 rfl
 have gp : (Heap.mk [rdC T P 0] .nil).put (.im 0) (rdC T P 0) = Heap.mk [rdC T P 0] .nil := rfl
 have U0 : ∀ (β : Type) (k : TVal → Heap → Option β) (d : Nat), vcall Om (.v (.c (.func 67 []))) [kP (.im 0)] (Heap.mk [rdC T P 0] .nil) d k = k (.tup []) (Heap.mk [rdC T P 0] .nil) := fun β k d => (U β k _ d rfl).trans (by rw [gp])
 by_cases hc : b = c
 ·subst hc
  have hw := qAL P (by omega)
  simp (maxSteps := 9999999) +contextual only [exa, ne_eq, not_false_eq_true, reduceAdd, reduceMul, reduceLT, reduceLeDiff, reduceEqDiff, Int.reduceLT, Int.reduceLE, Int.reduceEq, Int.reduceToNat, exW, U0, h1, hx, Int.toNat_natCast, hw, if_true]
 ·have hne := qA1 hc
  simp (maxSteps := 9999999) +contextual only [exa, ne_eq, not_false_eq_true, reduceAdd, reduceMul, reduceLT, reduceLeDiff, reduceEqDiff, Int.reduceLT, Int.reduceLE, Int.reduceEq, Int.reduceToNat, exW, U0, h1, hx, hne, hc, Int.toNat_natCast, if_false]
theorem qHR {β : Type} {k : TVal → Heap → Option β} {h : Heap} {d : Nat} (b : UInt8) : vcall Om (.v (.c (.func 126 []))) [kU b] h d k = k (kB (isDigit b.toNat)) h := qAF 126 _ _ rfl ((qAE rfl).trans (qIi blks_ok (p := isDigit) (N := 20) (by kernel_rfl) b)) rfl
theorem qEl {T : List UInt8} {P n : Nat} {b c : UInt8} {w : List UInt8} (hx : T[P]? = some b) (hn : P < n) (hc : b ≠ c) : ¬ (T.take n).drop P = c :: w := by
 intro e
 have h := congrArg (fun l : List UInt8 => l[0]?) e
 simp only [List.getElem?_drop, List.getElem?_take, Nat.add_zero, if_pos hn, hx, List.getElem?_cons_zero, Option.some.injEq] at h
 exact hc h
theorem qKD (T : List UInt8) (P : Nat) (b : UInt8) (hx : T[P]? = some b) (h1 : b ≠ 110) (h2 : b ≠ 102) (h3 : b ≠ 116) (hP : T.length < 1000000) : Om 125 [kP (.im 0)] [rdC T P 0] = some (.tup [.agg (pcells VT.nul.row), .c (.p (.bool false))], [rdC T P 0]) := by
 refine (qAE rfl).trans ?_
 show lim tab.get S 125 1 0 [kP (.im 0)] ⟨[rdC T P 0], .nil⟩ = _
 have hlt := (List.getElem?_eq_some_iff.1 hx).1
 have c1 : ¬ (T.take (P + 4)).drop P = [110, 117, 108, 108] := qEl hx (by omega) h1
 have c2 : ¬ (T.take (P + 5)).drop P = [102, 97, 108, 115, 101] := qEl hx (by omega) h2
 have c3 : ¬ (T.take (P + 4)).drop P = [116, 114, 117, 101] := qEl hx (by omega) h3
 have W4 : IntKind.i64.wrap ((P : Int) + ((4 : Nat) : Int)) = ((P + 4 : Nat) : Int) := by rw [qBR _ (by omega) (by omega)]; rfl
 have W5 : IntKind.i64.wrap ((P : Int) + ((5 : Nat) : Int)) = ((P + 5 : Nat) : Int) := by rw [qBR _ (by omega) (by omega)]; rfl
 have W1 : ∀ i : Int, 0 ≤ i → i < 3 → IntKind.i64.wrap (i + 1) = i + 1 := fun i _ _ => qBR _ (by omega) (by omega)
 generalize hws : kSl 1 true [[PVal.str [110, 117, 108, 108]], [PVal.str [102, 97, 108, 115, 101]], [PVal.str [116, 114, 117, 101]]] = ws
 have A0 : ∀ (β : Type) (h : Heap) (k : TVal → Heap → Option β), viaddr 1 ws (kI 0) h k = k (.v (.c (.p (.pptr [.str [110, 117, 108, 108]] 0)))) h := fun β h k => by rw [← hws]; rfl
 have A1 : ∀ (β : Type) (h : Heap) (k : TVal → Heap → Option β), viaddr 1 ws (kI 1) h k = k (.v (.c (.p (.pptr [.str [102, 97, 108, 115, 101]] 0)))) h := fun β h k => by rw [← hws]; rfl
 have A2 : ∀ (β : Type) (h : Heap) (k : TVal → Heap → Option β), viaddr 1 ws (kI 2) h k = k (.v (.c (.p (.pptr [.str [116, 114, 117, 101]] 0)))) h := fun β h k => by rw [← hws]; rfl
 have S0 : ∀ (x2 : TVal) (h : Heap), h.get (.im 0) = some (rdC T P 0) → lim tab.get S 125 1 1 [kP (.im 0), x2, ws, kI 0] h = lim tab.get S 125 1 1 [kP (.im 0), x2, ws, kI 1] h := by
  intro x2 h hg
  rw [w125_1, b125_1]
  have WI : IntKind.i64.wrap (0 + 1) = 1 := by decide
  by_cases hl : (T.length : Int) < ((P + 4 : Nat) : Int)
  ·simp (maxSteps := 9999999) +contextual only [exa, ne_eq, not_false_eq_true, reduceAdd, reduceMul, reduceLT, reduceLeDiff, reduceEqDiff, Int.reduceLT, Int.reduceLE, Int.reduceEq, Int.reduceToNat, exW, A0, hg, W4, hl, WI]
  ·have SL := fun (β : Type) (k : TVal → Heap → Option β) (h : Heap) (d : Nat) => qBa (O := Om) (k := k) (h := h) (d := d) T P (P + 4) (by omega) (by omega)
   simp (maxSteps := 9999999) +contextual only [exa, ne_eq, not_false_eq_true, reduceAdd, reduceMul, reduceLT, reduceLeDiff, reduceEqDiff, Int.reduceLT, Int.reduceLE, Int.reduceEq, Int.reduceToNat, exW, A0, hg, W4, hl, SL, c1, WI]
 have S1 : ∀ (x2 : TVal) (h : Heap), h.get (.im 0) = some (rdC T P 0) → lim tab.get S 125 1 1 [kP (.im 0), x2, ws, kI 1] h = lim tab.get S 125 1 1 [kP (.im 0), x2, ws, kI 2] h := by
  intro x2 h hg
  rw [w125_1, b125_1]
  have WI : IntKind.i64.wrap (1 + 1) = 2 := by decide
  by_cases hl : (T.length : Int) < ((P + 5 : Nat) : Int)
  ·simp (maxSteps := 9999999) +contextual only [exa, ne_eq, not_false_eq_true, reduceAdd, reduceMul, reduceLT, reduceLeDiff, reduceEqDiff, Int.reduceLT, Int.reduceLE, Int.reduceEq, Int.reduceToNat, exW, A1, hg, W5, hl, WI]
  ·have SL := fun (β : Type) (k : TVal → Heap → Option β) (h : Heap) (d : Nat) => qBa (O := Om) (k := k) (h := h) (d := d) T P (P + 5) (by omega) (by omega)
   simp (maxSteps := 9999999) +contextual only [exa, ne_eq, not_false_eq_true, reduceAdd, reduceMul, reduceLT, reduceLeDiff, reduceEqDiff, Int.reduceLT, Int.reduceLE, Int.reduceEq, Int.reduceToNat, exW, A1, hg, W5, hl, SL, c2, WI]
 have S2 : ∀ (x2 : TVal) (h : Heap), h.get (.im 0) = some (rdC T P 0) → lim tab.get S 125 1 1 [kP (.im 0), x2, ws, kI 2] h = lim tab.get S 125 1 1 [kP (.im 0), x2, ws, kI 3] h := by
  intro x2 h hg
  rw [w125_1, b125_1]
  have WI : IntKind.i64.wrap (2 + 1) = 3 := by decide
  by_cases hl : (T.length : Int) < ((P + 4 : Nat) : Int)
  ·simp (maxSteps := 9999999) +contextual only [exa, ne_eq, not_false_eq_true, reduceAdd, reduceMul, reduceLT, reduceLeDiff, reduceEqDiff, Int.reduceLT, Int.reduceLE, Int.reduceEq, Int.reduceToNat, exW, A2, hg, W4, hl, WI]
  ·have SL := fun (β : Type) (k : TVal → Heap → Option β) (h : Heap) (d : Nat) => qBa (O := Om) (k := k) (h := h) (d := d) T P (P + 4) (by omega) (by omega)
   simp (maxSteps := 9999999) +contextual only [exa, ne_eq, not_false_eq_true, reduceAdd, reduceMul, reduceLT, reduceLeDiff, reduceEqDiff, Int.reduceLT, Int.reduceLE, Int.reduceEq, Int.reduceToNat, exW, A2, hg, W4, hl, SL, c3, WI]
 rw [w125_0, b125_0]
 simp (maxSteps := 9999999) +contextual only [exa, ne_eq, not_false_eq_true, reduceAdd, reduceMul, reduceLT, reduceLeDiff, reduceEqDiff, Int.reduceLT, Int.reduceLE, Int.reduceEq, Int.reduceToNat, exW]
 rw [hws]
 rw [S0 _ _ rfl, S1 _ _ rfl, S2 _ _ rfl, w125_1, b125_1]
 have hz : put1 [.p (.int .i64 0), .p (.bool false), .p (.int .i64 0), .p (.str []), .p .nilslice, .p .nilslice] 0 (pcells VT.nul.row) = pcells VT.nul.row := rfl
 simp (maxSteps := 9999999) +contextual only [exa, ne_eq, not_false_eq_true, reduceAdd, reduceMul, reduceLT, reduceLeDiff, reduceEqDiff, Int.reduceLT, Int.reduceLE, Int.reduceEq, Int.reduceToNat, exW, w125_2, b125_2]
 rfl
theorem qKU {T : List UInt8} {P : Nat} {b : UInt8} (hx : T[P]? = some b) (h1 : b ≠ 110) (h2 : b ≠ 102) (h3 : b ≠ 116) (hP : T.length < 1000000) {β : Type} {k : TVal → Heap → Option β} {h : Heap} {d : Nat} (r : Ref) (hg : h.get r = some (rdC T P 0)) : vcall Om (.v (.c (.func 125 []))) [kP r] h d k = k (.tup [.agg (pcells VT.nul.row), .c (.p (.bool false))]) (h.put r (rdC T P 0)) :=
 qA2 (ps := []) rfl (by simp only [exP]) (qKD T P b hx h1 h2 h3 hP) r hg
end Go.Proofs.YtlkejchbcchecaaDoor.Ab
set_option maxHeartbeats 4000000
namespace Go.Proofs.YtlkejchbcchecaaDoor.Ab
open Go Go.AI
theorem qCD {h : Heap} {T : List UInt8} {P : Nat} {E : Int} {r : List PVal} (hg : h.get (.im 0) = some (rdC T P E)) : vfin true 1 [.agg (pcells r)] h = some (kA r, [rdC T P E]) := qJC true [.agg (pcells r)] _ (by simp only [exP]) hg (qCY T P E)
theorem qGK {T : List UInt8} {P : Nat} {x : UInt8} (hx : T[P]? = some x) : (T.take (P + 1)).drop P = [x] := by
 have hlt := (List.getElem?_eq_some_iff.1 hx).1
 refine List.ext_getElem? fun i => ?_
 rw [List.getElem?_drop, List.getElem?_take]
 cases i with
 | zero => rw [if_pos (by omega), Nat.add_zero, hx]; rfl
 | succ i => rw [if_neg (by omega)]; rfl
theorem qGy (T : List UInt8) (P : Nat) (x : UInt8) (h1 : T[P + 1]? = some x) (h2 : T[P + 2]? = some 34) (hx : 32 ≤ x.toNat ∧ x ≠ 34 ∧ x ≠ 92) (hP : T.length < 1000000) :
  Om 166 [kS T, kI (P : Int)] [] = some (.tup [.c (.p (.str [x])), .c (.p (.int .i64 ((P + 3 : Nat) : Int)))], []) := by
 refine (qAE rfl).trans ?_
 show lim tab.get S 166 0 0 [kS T, kI (P : Int)] h0 = _
 have l2 := (List.getElem?_eq_some_iff.1 h2).1
 have w1 := qAL P (by omega)
 have w2 := qAL (P + 1) (by omega)
 have w3 := qAL (P + 2) (by omega)
 have m1 : ((P + 1 : Nat) : Int) < (T.length : Int) := by omega
 have m2 : ((P + 1 + 1 : Nat) : Int) < (T.length : Int) := by omega
 have n1 : ¬ (x.toNat : Int) = 34 := qA1 hx.2.1
 have n2 : ¬ (x.toNat : Int) < 32 := by omega
 have n3 : ¬ (x.toNat : Int) = 92 := qA1 hx.2.2
 have SL := fun (β : Type) (k : TVal → Heap → Option β) (h : Heap) (d : Nat) => qBa (O := Om) (k := k) (h := h) (d := d) T (P + 1) (P + 1 + 1) (by omega) (by omega)
 rw [w166_0, b166_0]
 simp (maxSteps := 9999999) +contextual only [exa, ne_eq, not_false_eq_true, reduceAdd, reduceMul, reduceLT, reduceLeDiff, reduceEqDiff, Int.reduceLT, Int.reduceLE, Int.reduceEq, Int.reduceToNat, w1]
 rw [w166_1, b166_1]
 have h2' : T[P + 1 + 1]? = some 34 := h2
 have q34 : ((34 : UInt8).toNat : Int) = 34 := rfl
 have w3' : IntKind.i64.wrap (((P + 1 + 1 : Nat) : Int) + 1) = ((P + 3 : Nat) : Int) := w3
 simp (maxSteps := 9999999) +contextual only [exa, ne_eq, not_false_eq_true, reduceAdd, reduceMul, reduceLT, reduceLeDiff, reduceEqDiff, Int.reduceLT, Int.reduceLE, Int.reduceEq, Int.reduceToNat, m1, h1, n1, n2, n3, w2, SL, qGK h1, List.nil_append]
 rw [w166_1, b166_1]
 simp (maxSteps := 9999999) +contextual only [exa, ne_eq, not_false_eq_true, reduceAdd, reduceMul, reduceLT, reduceLeDiff, reduceEqDiff, Int.reduceLT, Int.reduceLE, Int.reduceEq, Int.reduceToNat, m2, h2', q34, w3']
theorem qKq (T : List UInt8) (P : Nat) (x : UInt8) (h1 : T[P + 1]? = some x) (h2 : T[P + 2]? = some 34) (hx : 32 ≤ x.toNat ∧ x ≠ 34 ∧ x ≠ 92) (hP : T.length < 1000000) :
  Om 127 [kP (.im 0)] [rdC T P 0] = some (kS [x], [rdC T (P + 3) 0]) := by
 refine (qAE rfl).trans ?_
 show lim tab.get S 127 1 0 [kP (.im 0)] ⟨[rdC T P 0], .nil⟩ = _
 rw [w127_0, b127_0]
 have U := fun (β : Type) (k : TVal → Heap → Option β) (h : Heap) (d : Nat) => qAF (k := k) (h := h) (d := d) 166 [kS T, kI (P : Int)] _ rfl (qGy T P x h1 h2 hx hP) rfl
 have hn : ¬ ((P + 3 : Nat) : Int) < 0 := by omega
 simp (maxSteps := 9999999) +contextual only [exa, ne_eq, not_false_eq_true, reduceAdd, reduceMul, reduceLT, reduceLeDiff, reduceEqDiff, Int.reduceLT, Int.reduceLE, Int.reduceEq, Int.reduceToNat, U, hn]
theorem u127 {T : List UInt8} {P : Nat} {x : UInt8} (h1 : T[P + 1]? = some x) (h2 : T[P + 2]? = some 34) (hx : 32 ≤ x.toNat ∧ x ≠ 34 ∧ x ≠ 92) (hP : T.length < 1000000) {β : Type} {k : TVal → Heap → Option β} {h : Heap} {d : Nat} (r : Ref) (hg : h.get r = some (rdC T P 0)) : vcall Om (.v (.c (.func 127 []))) [kP r] h d k = k (kS [x]) (h.put r (rdC T (P + 3) 0)) :=
 qA2 (ps := []) rfl rfl (qKq T P x h1 h2 hx hP) r hg
theorem dig5 : Om 165 [kS [53]] [] = some (.tup [.c (.p (.int .i64 5)), .c (.p (.int .i64 0))], []) := (qAE rfl).trans (qAO blks_ok 50 165 0 0 _ _ _ (by kernel_rfl))
theorem dig1 : Om 165 [kS [49]] [] = some (.tup [.c (.p (.int .i64 1)), .c (.p (.int .i64 0))], []) := (qAE rfl).trans (qAO blks_ok 50 165 0 0 _ _ _ (by kernel_rfl))
theorem qL3 (T : List UInt8) (P : Nat) (x b : UInt8) (n : Int) (h1 : T[P]? = some x) (h2 : T[P + 1]? = some b) (hd : isDigit x.toNat = true) (h0 : x ≠ 48) (hm : x ≠ 45) (hb : isDigit b.toNat = false) (hN : Om 165 [kS [x]] [] = some (.tup [.c (.p (.int .i64 n)), .c (.p (.int .i64 0))], [])) (hP : T.length < 1000000) :
  Om 130 [kP (.im 0)] [rdC T P 0] = some (kA (VT.mk 2 false n [] .nil .nil).row, [rdC T (P + 1) 0]) := by
 refine (qAE rfl).trans ?_
 show lim tab.get S 130 1 0 [kP (.im 0)] ⟨[rdC T P 0], .nil⟩ = _
 have l2 := (List.getElem?_eq_some_iff.1 h2).1
 have w1 := qAL P (by omega)
 have n0 : ¬ (x.toNat : Int) = 48 := qA1 h0
 have nm : ¬ (x.toNat : Int) = 45 := qA1 hm
 have m1 : (P : Int) < (T.length : Int) := by omega
 have m2 : ((P + 1 : Nat) : Int) < (T.length : Int) := by omega
 have SL := fun (β : Type) (k : TVal → Heap → Option β) (h : Heap) (d : Nat) => qBa (O := Om) (k := k) (h := h) (d := d) T P (P + 1) (by omega) (by omega)
 have U := fun (β : Type) (k : TVal → Heap → Option β) (h : Heap) (d : Nat) => qAF (k := k) (h := h) (d := d) 165 [kS [x]] _ rfl hN rfl
 have D := fun (β : Type) (k : TVal → Heap → Option β) (h : Heap) (d : Nat) (c : UInt8) => qHR (k := k) (h := h) (d := d) c
 rw [w130_0, b130_0]
 simp (maxSteps := 9999999) +contextual only [exa, ne_eq, not_false_eq_true, reduceAdd, reduceMul, reduceLT, reduceLeDiff, reduceEqDiff, Int.reduceLT, Int.reduceLE, Int.reduceEq, Int.reduceToNat, h1, nm, Int.toNat_natCast]
 rw [w130_1, b130_1]
 simp (maxSteps := 9999999) +contextual only [exa, ne_eq, not_false_eq_true, reduceAdd, reduceMul, reduceLT, reduceLeDiff, reduceEqDiff, Int.reduceLT, Int.reduceLE, Int.reduceEq, Int.reduceToNat, exW, m1, h1, n0, D, hd, Int.toNat_natCast]
 rw [w130_2, b130_2]
 simp (maxSteps := 9999999) +contextual only [exa, ne_eq, not_false_eq_true, reduceAdd, reduceMul, reduceLT, reduceLeDiff, reduceEqDiff, Int.reduceLT, Int.reduceLE, Int.reduceEq, Int.reduceToNat, exW, m1, h1, D, hd, w1, Int.toNat_natCast]
 rw [w130_2, b130_2]
 simp (maxSteps := 9999999) +contextual only [exa, ne_eq, not_false_eq_true, reduceAdd, reduceMul, reduceLT, reduceLeDiff, reduceEqDiff, Int.reduceLT, Int.reduceLE, Int.reduceEq, Int.reduceToNat, exW, m2, h2, D, hb, Int.toNat_natCast]
 rw [w130_3, b130_3]
 have hz : ∀ a b c d e f : Cell, put1 [.p (.int .i64 0), .p (.bool false), .p (.int .i64 0), .p (.str []), .p .nilslice, .p .nilslice] 0 [a, b, c, d, e, f] = [a, b, c, d, e, f] := fun _ _ _ _ _ _ => rfl
 simp (maxSteps := 9999999) +contextual only [exa, ne_eq, not_false_eq_true, reduceAdd, reduceMul, reduceLT, reduceLeDiff, reduceEqDiff, Int.reduceLT, Int.reduceLE, Int.reduceEq, Int.reduceToNat, SL, qGK h1, U, hz]
 rw [VT.row_eq]
 exact qCD (r := [.int .i64 2, .bool false, .int .i64 n, .str [], .nilslice, .nilslice]) rfl
theorem qGY (T : List UInt8) (P : Nat) (x b : UInt8) (n d : Int) (h1 : T[P]? = some x) (h2 : T[P + 1]? = some b) (hd : isDigit x.toNat = true) (h0 : x ≠ 48) (hb : isDigit b.toNat = false) (hN : Om 165 [kS [x]] [] = some (.tup [.c (.p (.int .i64 n)), .c (.p (.int .i64 0))], [])) (hP : T.length < 1000000) (hdp : ¬ 12 < d) :
  Om 66 [kP (.im 0), kI d] [rdC T P 0] = some (kA (VT.mk 2 false n [] .nil .nil).row, [rdC T (P + 1) 0]) := by
 refine (qAE rfl).trans ?_
 show lim tab.get S 66 1 0 [kP (.im 0), kI d] ⟨[rdC T P 0], .nil⟩ = _
 have hx : x ≠ 32 ∧ x ≠ 9 ∧ x ≠ 10 ∧ x ≠ 13 ∧ x ≠ 110 ∧ x ≠ 102 ∧ x ≠ 116 ∧ x ≠ 34 ∧ x ≠ 45 ∧ x ≠ 91 ∧ x ≠ 123 := by
  refine ⟨?_, ?_, ?_, ?_, ?_, ?_, ?_, ?_, ?_, ?_, ?_⟩ <;> (rintro rfl; revert hd; decide)
 obtain ⟨x1, x2, x3, x4, x5, x6, x7, x8, x9, x10, x11⟩ := hx
 have n34 : ¬ (x.toNat : Int) = 34 := qA1 x8
 have n45 : ¬ (x.toNat : Int) = 45 := qA1 x9
 have n91 : ¬ (x.toNat : Int) = 91 := qA1 x10
 have n123 : ¬ (x.toNat : Int) = 123 := qA1 x11
 have m1 : (P : Int) < (T.length : Int) := by have := (List.getElem?_eq_some_iff.1 h1).1; omega
 have UB := fun (β : Type) (k : TVal → Heap → Option β) (h : Heap) (d : Nat) (hg : h.get (.im 0) = some (rdC T P 0)) => u67 (k := k) (d := d) (T := T) (P := P) (E := 0) (fun b' h' => by rw [h1] at h'; cases h'; exact ⟨x1, x2, x3, x4⟩) (.im 0) hg
 have UW := fun (β : Type) (k : TVal → Heap → Option β) (h : Heap) (d : Nat) (hg : h.get (.im 0) = some (rdC T P 0)) => qKU (k := k) (d := d) h1 x5 x6 x7 hP (.im 0) hg
 have UN := fun (β : Type) (k : TVal → Heap → Option β) (h : Heap) (d : Nat) (hg : h.get (.im 0) = some (rdC T P 0)) => qA2 (k := k) (d := d) (ps := []) rfl (by simp only [exP]) (qL3 T P x b n h1 h2 hd h0 x9 hb hN hP) (.im 0) hg
 have D := fun (β : Type) (k : TVal → Heap → Option β) (h : Heap) (d : Nat) (c : UInt8) => qHR (k := k) (h := h) (d := d) c
 rw [w66_0, b66_0]
 have hz : ∀ v : VT, put1 [.p (.int .i64 0), .p (.bool false), .p (.int .i64 0), .p (.str []), .p .nilslice, .p .nilslice] 0 (pcells v.row) = pcells v.row := fun v => qBH _ (VT.row_len v)
 simp (maxSteps := 9999999) +contextual only [exa, ne_eq, not_false_eq_true, reduceAdd, reduceMul, reduceLT, reduceLeDiff, reduceEqDiff, Int.reduceLT, Int.reduceLE, Int.reduceEq, Int.reduceToNat]
 refine (UB _ _ _ _ (by simp only [exa, ne_eq, not_false_eq_true, reduceAdd, reduceMul, reduceLT, reduceLeDiff, reduceEqDiff, Int.reduceLT, Int.reduceLE, Int.reduceEq, Int.reduceToNat])).trans ?_
 simp (maxSteps := 9999999) +contextual only [exa, ne_eq, not_false_eq_true, reduceAdd, reduceMul, reduceLT, reduceLeDiff, reduceEqDiff, Int.reduceLT, Int.reduceLE, Int.reduceEq, Int.reduceToNat, exW, m1, h1, Int.toNat_natCast]
 refine (UW _ _ _ _ (by simp only [exa, ne_eq, not_false_eq_true, reduceAdd, reduceMul, reduceLT, reduceLeDiff, reduceEqDiff, Int.reduceLT, Int.reduceLE, Int.reduceEq, Int.reduceToNat])).trans ?_
 simp (maxSteps := 9999999) +contextual only [exa, ne_eq, not_false_eq_true, reduceAdd, reduceMul, reduceLT, reduceLeDiff, reduceEqDiff, Int.reduceLT, Int.reduceLE, Int.reduceEq, Int.reduceToNat, exW, hz, n34, n45, n91, n123, D, hd, hdp]
 refine (UN _ _ _ _ (by simp only [exa, ne_eq, not_false_eq_true, reduceAdd, reduceMul, reduceLT, reduceLeDiff, reduceEqDiff, Int.reduceLT, Int.reduceLE, Int.reduceEq, Int.reduceToNat])).trans ?_
 simp (maxSteps := 9999999) +contextual only [exa, ne_eq, not_false_eq_true, reduceAdd, reduceMul, reduceLT, reduceLeDiff, reduceEqDiff, Int.reduceLT, Int.reduceLE, Int.reduceEq, Int.reduceToNat, hz]
 exact qCD rfl
theorem qBk (T : List UInt8) (P P' : Nat) (d : Int) (v : VT) (h1 : T[P]? = some 123) (hT : Om 129 [kP (.im 0), kI d] [rdC T P 0] = some (kA v.row, [rdC T P' 0])) (hP : T.length < 1000000) (hdp : ¬ 12 < d) :
  Om 66 [kP (.im 0), kI d] [rdC T P 0] = some (kA v.row, [rdC T P' 0]) := by
 refine (qAE rfl).trans ?_
 show lim tab.get S 66 1 0 [kP (.im 0), kI d] ⟨[rdC T P 0], .nil⟩ = _
 have m1 : (P : Int) < (T.length : Int) := by have := (List.getElem?_eq_some_iff.1 h1).1; omega
 have UB := fun (β : Type) (k : TVal → Heap → Option β) (h : Heap) (d : Nat) (hg : h.get (.im 0) = some (rdC T P 0)) => u67 (k := k) (d := d) (T := T) (P := P) (E := 0) (fun b' h' => by rw [h1] at h'; cases h'; exact ⟨by decide, by decide, by decide, by decide⟩) (.im 0) hg
 have UW := fun (β : Type) (k : TVal → Heap → Option β) (h : Heap) (d : Nat) (hg : h.get (.im 0) = some (rdC T P 0)) => qKU (k := k) (d := d) h1 (by decide) (by decide) (by decide) hP (.im 0) hg
 have UN := fun (β : Type) (k : TVal → Heap → Option β) (h : Heap) (dd : Nat) (hg : h.get (.im 0) = some (rdC T P 0)) => qA2 (k := k) (d := dd) (ps := [kI d]) rfl (by simp only [exP]) hT (.im 0) hg
 have D := fun (β : Type) (k : TVal → Heap → Option β) (h : Heap) (d : Nat) (c : UInt8) => qHR (k := k) (h := h) (d := d) c
 have hq : ((123 : UInt8).toNat : Int) = 123 := rfl
 have hdg : isDigit (123 : UInt8).toNat = false := by decide
 rw [w66_0, b66_0]
 have hz : ∀ v : VT, put1 [.p (.int .i64 0), .p (.bool false), .p (.int .i64 0), .p (.str []), .p .nilslice, .p .nilslice] 0 (pcells v.row) = pcells v.row := fun v => qBH _ (VT.row_len v)
 simp (maxSteps := 9999999) +contextual only [exa, ne_eq, not_false_eq_true, reduceAdd, reduceMul, reduceLT, reduceLeDiff, reduceEqDiff, Int.reduceLT, Int.reduceLE, Int.reduceEq, Int.reduceToNat]
 refine (UB _ _ _ _ (by simp only [exa, ne_eq, not_false_eq_true, reduceAdd, reduceMul, reduceLT, reduceLeDiff, reduceEqDiff, Int.reduceLT, Int.reduceLE, Int.reduceEq, Int.reduceToNat])).trans ?_
 simp (maxSteps := 9999999) +contextual only [exa, ne_eq, not_false_eq_true, reduceAdd, reduceMul, reduceLT, reduceLeDiff, reduceEqDiff, Int.reduceLT, Int.reduceLE, Int.reduceEq, Int.reduceToNat, exW, m1, h1, Int.toNat_natCast]
 refine (UW _ _ _ _ (by simp only [exa, ne_eq, not_false_eq_true, reduceAdd, reduceMul, reduceLT, reduceLeDiff, reduceEqDiff, Int.reduceLT, Int.reduceLE, Int.reduceEq, Int.reduceToNat])).trans ?_
 simp (maxSteps := 9999999) +contextual only [exa, ne_eq, not_false_eq_true, reduceAdd, reduceMul, reduceLT, reduceLeDiff, reduceEqDiff, Int.reduceLT, Int.reduceLE, Int.reduceEq, Int.reduceToNat, exW, hz, hq, D, hdg, hdp]
 refine (UN _ _ _ _ (by simp only [exa, ne_eq, not_false_eq_true, reduceAdd, reduceMul, reduceLT, reduceLeDiff, reduceEqDiff, Int.reduceLT, Int.reduceLE, Int.reduceEq, Int.reduceToNat])).trans ?_
 simp (maxSteps := 9999999) +contextual only [exa, ne_eq, not_false_eq_true, reduceAdd, reduceMul, reduceLT, reduceLeDiff, reduceEqDiff, Int.reduceLT, Int.reduceLE, Int.reduceEq, Int.reduceToNat, hz]
 exact qCD rfl
theorem qFN (T : List UInt8) (P P' : Nat) (d : Int) (v : VT) (h1 : T[P]? = some 91) (hT : Om 128 [kP (.im 0), kI d] [rdC T P 0] = some (kA v.row, [rdC T P' 0])) (hP : T.length < 1000000) (hdp : ¬ 12 < d) :
  Om 66 [kP (.im 0), kI d] [rdC T P 0] = some (kA v.row, [rdC T P' 0]) := by
 refine (qAE rfl).trans ?_
 show lim tab.get S 66 1 0 [kP (.im 0), kI d] ⟨[rdC T P 0], .nil⟩ = _
 have m1 : (P : Int) < (T.length : Int) := by have := (List.getElem?_eq_some_iff.1 h1).1; omega
 have UB := fun (β : Type) (k : TVal → Heap → Option β) (h : Heap) (d : Nat) (hg : h.get (.im 0) = some (rdC T P 0)) => u67 (k := k) (d := d) (T := T) (P := P) (E := 0) (fun b' h' => by rw [h1] at h'; cases h'; exact ⟨by decide, by decide, by decide, by decide⟩) (.im 0) hg
 have UW := fun (β : Type) (k : TVal → Heap → Option β) (h : Heap) (d : Nat) (hg : h.get (.im 0) = some (rdC T P 0)) => qKU (k := k) (d := d) h1 (by decide) (by decide) (by decide) hP (.im 0) hg
 have UN := fun (β : Type) (k : TVal → Heap → Option β) (h : Heap) (dd : Nat) (hg : h.get (.im 0) = some (rdC T P 0)) => qA2 (k := k) (d := dd) (ps := [kI d]) rfl (by simp only [exP]) hT (.im 0) hg
 have D := fun (β : Type) (k : TVal → Heap → Option β) (h : Heap) (d : Nat) (c : UInt8) => qHR (k := k) (h := h) (d := d) c
 have hq : ((91 : UInt8).toNat : Int) = 91 := rfl
 have hdg : isDigit (91 : UInt8).toNat = false := by decide
 rw [w66_0, b66_0]
 have hz : ∀ v : VT, put1 [.p (.int .i64 0), .p (.bool false), .p (.int .i64 0), .p (.str []), .p .nilslice, .p .nilslice] 0 (pcells v.row) = pcells v.row := fun v => qBH _ (VT.row_len v)
 simp (maxSteps := 9999999) +contextual only [exa, ne_eq, not_false_eq_true, reduceAdd, reduceMul, reduceLT, reduceLeDiff, reduceEqDiff, Int.reduceLT, Int.reduceLE, Int.reduceEq, Int.reduceToNat]
 refine (UB _ _ _ _ (by simp only [exa, ne_eq, not_false_eq_true, reduceAdd, reduceMul, reduceLT, reduceLeDiff, reduceEqDiff, Int.reduceLT, Int.reduceLE, Int.reduceEq, Int.reduceToNat])).trans ?_
 simp (maxSteps := 9999999) +contextual only [exa, ne_eq, not_false_eq_true, reduceAdd, reduceMul, reduceLT, reduceLeDiff, reduceEqDiff, Int.reduceLT, Int.reduceLE, Int.reduceEq, Int.reduceToNat, exW, m1, h1, Int.toNat_natCast]
 refine (UW _ _ _ _ (by simp only [exa, ne_eq, not_false_eq_true, reduceAdd, reduceMul, reduceLT, reduceLeDiff, reduceEqDiff, Int.reduceLT, Int.reduceLE, Int.reduceEq, Int.reduceToNat])).trans ?_
 simp (maxSteps := 9999999) +contextual only [exa, ne_eq, not_false_eq_true, reduceAdd, reduceMul, reduceLT, reduceLeDiff, reduceEqDiff, Int.reduceLT, Int.reduceLE, Int.reduceEq, Int.reduceToNat, exW, hz, hq, D, hdg, hdp]
 refine (UN _ _ _ _ (by simp only [exa, ne_eq, not_false_eq_true, reduceAdd, reduceMul, reduceLT, reduceLeDiff, reduceEqDiff, Int.reduceLT, Int.reduceLE, Int.reduceEq, Int.reduceToNat])).trans ?_
 simp (maxSteps := 9999999) +contextual only [exa, ne_eq, not_false_eq_true, reduceAdd, reduceMul, reduceLT, reduceLeDiff, reduceEqDiff, Int.reduceLT, Int.reduceLE, Int.reduceEq, Int.reduceToNat, hz]
 exact qCD rfl
end Go.Proofs.YtlkejchbcchecaaDoor.Ab
set_option maxHeartbeats 4000000
namespace Go.Proofs.YtlkejchbcchecaaDoor.Ab
open Go Go.AI
theorem qMF {β : Type} {O : Oracle} {h : Heap} {d : Nat} {kt : TVal → Heap → AI.Touch → Option β} (sz by' : Nat) (x : TVal) (rows : List (List PVal)) (r : Ref) :
  vtouch O (.append sz by' false (.k x) (.k (.v (.c (.tsl sz rows r))))) h d kt = vtouch O (.append sz by' false (.k x) (.k (.v (.c (.p (.slice sz false rows)))))) h d kt := by
 have e : plan .nil (.append sz by' false (.k x) (.k (.v (.c (.tsl sz rows r))))) = plan .nil (.append sz by' false (.k x) (.k (.v (.c (.p (.slice sz false rows)))))) := by
  show some (Plan.go (zipNeeds (dstRef x) none) _) = some (Plan.go (zipNeeds (dstRef x) none) _)
  congr 2
  funext os
  have h1 : ∀ ob, srcCells sz (.v (.c (.tsl sz rows r))) ob = srcCells sz (.v (.c (.p (.slice sz false rows)))) ob := fun ob => by cases ob <;> rfl
  show (splitNeeds (dstRef x) none os).bind (fun p => (srcCells sz (.v (.c (.tsl sz rows r))) p.2).bind fun q => _) = (splitNeeds (dstRef x) none os).bind (fun p => (srcCells sz (.v (.c (.p (.slice sz false rows)))) p.2).bind fun q => _)
  simp only [h1]
 show bnd (plan2 (.append sz by' false (.k x) (.k (.v (.c (.tsl sz rows r))))) .nil) (fun p => bnd (p.exec O d h) fun x => kt x.1 x.2.1 x.2.2) = bnd (plan2 (.append sz by' false (.k x) (.k (.v (.c (.p (.slice sz false rows)))))) .nil) (fun p => bnd (p.exec O d h) fun x => kt x.1 x.2.1 x.2.2)
 rw [qAN, qAN, e]
theorem qDe {sz : Nat} {c : Cell} {rows : List (List PVal)} (B : Bears sz c rows) : ∃ c', (∀ {β : Type} {O : Oracle} {h : Heap} {d : Nat} {k : TVal → Heap → Option β}, vop O (.slice sz false (.k (.v (.c c))) none (some (.k (kI (rows.length : Int)))) none) h d k = k (.v (.c c')) h) ∧
  ∃ b, SrcR sz b rows ∧ ∀ {β : Type} {O : Oracle} {h : Heap} {d : Nat} {kt : TVal → Heap → AI.Touch → Option β} (by' : Nat) (x : TVal), vtouch O (.append sz by' false (.k x) (.k (.v (.c c')))) h d kt = vtouch O (.append sz by' false (.k x) (.k (.v (.c (.p b))))) h d kt := by
 rcases B with ⟨rfl, rfl⟩ | ⟨hne, r, rfl⟩
 ·exact ⟨.p .nilslice, fun {β O h d k} => qAe _ _ rfl, .nilslice, .inl ⟨rfl, rfl⟩, fun _ _ => rfl⟩
 ·refine ⟨.tsl sz rows r, fun {β O h d k} => qAe _ _ ?_, .slice sz false rows, .inr ⟨_, rfl⟩, fun by' x => qMF sz by' x rows r⟩
  have hpos : 0 < rows.length := List.length_pos_iff.2 hne
  show ((sliceV sz false (.tsl sz rows r) none (some ((rows.length : Int).toNat)) none).map fun c => Plan.pure (.v (.c c))) = _
  rw [Int.toNat_natCast]
  show ((if sz = sz ∧ 0 ≤ rows.length ∧ rows.length ≤ rows.length ∧ rows.length ≤ rows.length then (if (none : Option Nat).isNone = true ∧ rows.length = rows.length ∧ 0 < rows.length then some (Cell.tsl sz (rows.drop 0) r) else _) else none).map fun c => Plan.pure (.v (.c c))) = _
  rw [if_pos ⟨rfl, by omega, by omega, by omega⟩, if_pos ⟨rfl, rfl, hpos⟩]; rfl
theorem qDm {sz : Nat} {c : Cell} {rows : List (List PVal)} (B : Bears sz c rows) : ∃ b, SrcR sz b [] ∧ ∀ {β : Type} {O : Oracle} {h : Heap} {d : Nat} {kt : TVal → Heap → AI.Touch → Option β}, vtouch O (.slice sz false (.k (.v (.c c))) (some (.k (kI (rows.length : Int)))) none none) h d kt = kt (.v (.c (.p b))) h noTouch := by
 rcases B with ⟨rfl, rfl⟩ | ⟨hne, r, rfl⟩
 ·exact ⟨.nilslice, .inl ⟨rfl, rfl⟩, fun {β O h d k} => qAs _ _ rfl⟩
 ·refine ⟨.slice sz false [], .inr ⟨_, rfl⟩, fun {β O h d k} => qAs _ _ ?_⟩
  show ((sliceV sz false (.tsl sz rows r) (some ((rows.length : Int).toNat)) none none).map fun c => Plan.pure (.v (.c c))) = _
  rw [Int.toNat_natCast]
  show ((if sz = sz ∧ rows.length ≤ rows.length ∧ rows.length ≤ rows.length ∧ rows.length ≤ rows.length then (if (none : Option Nat).isNone = true ∧ rows.length = rows.length ∧ rows.length < rows.length then _ else some (Cell.p (.slice sz (tightOf false rows.length none) ((rows.take rows.length).drop rows.length)))) else none).map fun c => Plan.pure (.v (.c c))) = _
  rw [if_pos ⟨rfl, by omega, by omega, by omega⟩, if_neg (by omega)]
  rw [show (rows.take rows.length).drop rows.length = [] by simp]; rfl
end Go.Proofs.YtlkejchbcchecaaDoor.Ab
set_option maxHeartbeats 4000000
namespace Go.Proofs.YtlkejchbcchecaaDoor.Ab
open Go Go.AI
abbrev z6c : List Cell := [.p (.int .i64 0), .p (.bool false), .p (.int .i64 0), .p (.str []), .p .nilslice, .p .nilslice]
abbrev rd4 : TVal := .v (.c (.ptr (.own 4 1) 0))
abbrev rd5 : TVal := .v (.c (.ptr (.own 5 1) 0))
structure TH (T : List UInt8) (P : Nat) (ck cl : Cell) (h : Heap) : Prop where
 a0 : h.get (.im 0) = some (rdC T P 0)
 a4 : h.get (.own 4 1) = some (.cells z6c 0)
 a5 : h.get (.own 5 1) = some (.cells [.p (.int .i64 5), .p (.bool false), .p (.int .i64 0), .p (.str []), ck, cl] 0)
theorem qCQ {T : List UInt8} {P : Nat} {b : UInt8} (c : UInt8) (hx : T[P]? = some b) (nb : notBl b) (hP : P < 1000000) {β : Type} {k : TVal → Heap → Option β} {h : Heap} {d : Nat} (r : Ref) (hg : h.get r = some (rdC T P 0)) :
  vcall Om (.v (.c (.func 167 []))) [kP r, kU c] h d k = k (kB (decide (b = c))) (h.put r (rdC T (if b = c then P + 1 else P) 0)) :=
 qA2 (ps := [kU c]) rfl rfl (qNB T P b c hx nb hP) r hg
theorem qJ3 (ks : List (List UInt8)) (key : List UInt8) (hlt : ∀ a ∈ ks, bless a key = true) (hl : ks.length < 1000000) (ck cl : Cell) (h : Heap) (a5 : h.get (.own 5 1) = some (.cells [.p (.int .i64 5), .p (.bool false), .p (.int .i64 0), .p (.str []), ck, cl] 0)) (B : Bears 1 ck (ks.map sRow)) (dd x8 : TVal) :
  ∀ k : Nat, k ≤ ks.length → lim tab.get S 129 1 2 [kP (.im 0), dd, rd4, rd5, kB false, kS key, x8, kI (k : Int)] h = lim tab.get S 129 1 3 [kP (.im 0), dd, rd4, rd5, kB false, kS key, x8, kI (ks.length : Int)] h := by
 have L1 : ∀ (β : Type) (O : Oracle) (h : Heap) (d : Nat) (k : TVal → Heap → Option β), vlen O 2 (.v (.c ck)) h d k = k (kI (ks.length : Int)) h := fun β O h d k => by rw [B.len, List.length_map]
 have I1 := fun (β : Type) (h : Heap) (k : TVal → Heap → Option β) (i : Int) => B.at (h := h) (k := k) i
 refine qAY ks.length (fun k hk hle => ?_) (fun k hk ih hle => ?_)
 ·have hek : k = ks.length := by omega
  have h1 : ¬ (k : Int) < (ks.length : Int) := by omega
  rw [w129_2, b129_2]
  simp (maxSteps := 9999999) +contextual only [exa, ne_eq, not_false_eq_true, reduceAdd, reduceMul, reduceLT, reduceLeDiff, reduceEqDiff, Int.reduceLT, Int.reduceLE, Int.reduceEq, Int.reduceToNat, exW, a5, L1, h1]
  rw [hek]
 ·have h1 : (k : Int) < (ks.length : Int) := by omega
  obtain ⟨a, ha⟩ : ∃ a, ks[k]? = some a := ⟨ks[k], List.getElem?_eq_getElem hk⟩
  have hb := hlt a (List.mem_of_getElem? ha)
  have hr : (ks.map sRow)[k]? = some (sRow a) := by rw [List.getElem?_map, ha]; rfl
  rw [w129_2, b129_2]
  simp (maxSteps := 9999999) +contextual only [exa, ne_eq, not_false_eq_true, reduceAdd, reduceMul, reduceLT, reduceLeDiff, reduceEqDiff, Int.reduceLT, Int.reduceLE, Int.reduceEq, Int.reduceToNat, exW, a5, L1, I1, h1, hr, hb, Int.toNat_natCast, qAL k (by omega)]
  exact ih (by omega)
theorem qLN (T : List UInt8) (P : Nat) (b : UInt8) (hx : T[P]? = some b) (nb : notBl b) (hP : P < 1000000) (ks : List (List UInt8)) (vs : List VT) (he : ks.length = vs.length) (hl : ks.length < 1000) (key : List UInt8) (x : VT) (ck cl : Cell) (h : Heap) (H : TH T P ck cl h)
  (B3 : Bears 1 ck (ks.map sRow)) (B4 : Bears 6 cl (vs.map VT.row)) (g : Nat) (a8 : h.get (.own 8 g) = some (.cells (pcells x.row) 0)) (dd : TVal) :
  ∃ h' ck' cl', Bears 1 ck' ((ks ++ [key]).map sRow) ∧ Bears 6 cl' ((vs ++ [x]).map VT.row) ∧ TH T (if b = 44 then P + 1 else P) ck' cl' h' ∧
   lim tab.get S 129 1 3 [kP (.im 0), dd, rd4, rd5, kB false, kS key, .v (.c (.ptr (.own 8 g) 0)), kI (ks.length : Int)] h = (if b = 44 then lim tab.get S 129 1 1 [kP (.im 0), dd, rd4, rd5, kB false] h' else lim tab.get S 129 1 4 [kP (.im 0), rd4, rd5, kB false] h') := by
 have m1 : ∀ l : List VT, (l.map VT.row).length = l.length := fun l => List.length_map _
 have m2 : ∀ l : List (List UInt8), (l.map sRow).length = l.length := fun l => List.length_map _
 have r1 : ∀ l : List (List UInt8), ∀ r ∈ l.map sRow, r.length = 1 := fun l r hr => by obtain ⟨_, _, rfl⟩ := List.mem_map.1 hr; rfl
 have r6 : ∀ l : List VT, ∀ r ∈ l.map VT.row, r.length = 6 := fun l r hr => by obtain ⟨a, _, rfl⟩ := List.mem_map.1 hr; exact VT.row_len a
 obtain ⟨s3, t3, b3, q3, p3⟩ := qDe B3
 obtain ⟨s4, t4, b4, q4, p4⟩ := qDe B4
 obtain ⟨b5, q5, p5⟩ := qDm B3
 obtain ⟨b6, q6, p6⟩ := qDm B4
 rw [m2] at t3 p5
 rw [m1, ← he] at t4 p6
 obtain ⟨c1, h1, u1, G1, e1, T1, K1, I1, X1⟩ := qBj (h := h) (d := 103) (D := [103, 113, 118]) (sz := 1) (by' := 16) (v := .p (.slice 1 true [])) (rows := []) q3 (.inr (.inl rfl)) (by decide) (r1 _) (by simp [m2]; omega) (by decide)
 obtain ⟨c2, h2, u2, G2, e2, T2, K2, I2, X2⟩ := qBj (h := h1) (d := 109) (D := [109, 122, 127]) (sz := 6) (by' := 88) (v := .p (.slice 6 true [])) (rows := []) q4 (.inr (.inl rfl)) (by decide) (r6 _) (by simp [m1]; omega) (by decide)
 have G1' : GS [103, 113, 118] 1 c1 ([] ++ ks.map sRow) h2 := G1.keep fun e he' g hh => K2 e g _ (by revert he'; simp; omega) hh
 obtain ⟨c3, h3, u3, G3, e3, T3, K3, I3, X3⟩ := qBj (h := h2) (d := 113) (sz := 1) (by' := 16) (new := [[.str key]]) (b := .slice 1 true [[.str key]]) (.inr ⟨_, rfl⟩) G1' (by decide) (fun r hr => by simp at hr; rw [hr]; rfl) (by simp [m2]; omega) (by decide)
 obtain ⟨c4, h4, u4, G4, e4, T4, K4, I4, X4⟩ := qBj (d := 118) (by' := 16) q5 G3 (by decide) (fun r hr => by cases hr) (by simp [m2]; omega) (by decide)
 have G2' : GS [109, 122, 127] 6 c2 ([] ++ vs.map VT.row) h4 := G2.keep fun e he' g hh => K4 e g _ (by revert he'; simp; omega) (K3 e g _ (by revert he'; simp; omega) hh)
 obtain ⟨c5, h5, u5, G5, e5, T5, K5, I5, X5⟩ := qBj (d := 122) (by' := 88) (new := [x.row]) (b := .slice 6 true [x.row]) (.inr ⟨_, rfl⟩) G2' (by decide) (fun r hr => by simp at hr; rw [hr]; exact VT.row_len x) (by simp [m1]; omega) (by decide)
 obtain ⟨c6, h6, u6, G6, e6, T6, K6, I6, X6⟩ := qBj (d := 127) (by' := 88) q6 G5 (by decide) (fun r hr => by cases hr) (by simp [m1]; omega) (by decide)
 obtain ⟨ra, ea⟩ := X4 (.inr (X3 (.inl (by simp))))
 obtain ⟨rb, eb⟩ := X6 (.inr (X5 (.inl (by simp))))
 have keep : ∀ e g o, e ∉ [103, 113, 118, 109, 122, 127] → h.get (.own e g) = some o → (h1.get (.own e g) = some o ∧ h2.get (.own e g) = some o) ∧ (h3.get (.own e g) = some o ∧ h4.get (.own e g) = some o) ∧ h5.get (.own e g) = some o ∧ h6.get (.own e g) = some o := by
  intro e g o he' ho
  have a1 := K1 e g o (by revert he'; simp <;> omega) ho
  have a2 := K2 e g o (by revert he'; simp <;> omega) a1
  have a3 := K3 e g o (by revert he'; simp <;> omega) a2
  have a4 := K4 e g o (by revert he'; simp <;> omega) a3
  have a5 := K5 e g o (by revert he'; simp <;> omega) a4
  exact ⟨⟨a1, a2⟩, ⟨a3, a4⟩, a5, K6 e g o (by revert he'; simp <;> omega) a5⟩
 obtain ⟨⟨v1, v2⟩, ⟨v3, v4⟩, v5, v6⟩ := keep 5 1 _ (by decide) H.a5
 obtain ⟨⟨x1, x2⟩, ⟨x3, x4⟩, x5, x6⟩ := keep 8 g _ (by decide) a8
 obtain ⟨⟨y1, y2⟩, ⟨y3, y4⟩, y5, y6⟩ := keep 4 1 _ (by decide) H.a4
 have i6 : h6.get (.im 0) = some (rdC T P 0) := by rw [I6, I5, I4, I3, I2, I1]; exact H.a0
 have A1 : AI.Touch.apart u3 ⟨[(Ref.own 8 g).site], [], false⟩ = true := qAx T3 8 (by decide)
 have A2 : AI.Touch.apart u4 ⟨[(Ref.own 8 g).site], [], false⟩ = true := qAx T4 8 (by decide)
 have A3 : AI.Touch.apart u3 ⟨[(Ref.own 5 1).site], [], false⟩ = true := qAx T3 5 (by decide)
 have A4 : AI.Touch.apart u4 ⟨[(Ref.own 5 1).site], [], false⟩ = true := qAx T4 5 (by decide)
 have A5 : AI.Touch.apart u5 ⟨[(Ref.own 5 1).site], [], false⟩ = true := qAx T5 5 (by decide)
 have P1 : ∀ a b c d f g : Cell, put1 [a, b, c, d, f, g] 4 [c4] = [a, b, c, d, c4, g] := fun _ _ _ _ _ _ => rfl
 have P2 : ∀ a b c d f g : Cell, put1 [a, b, c, d, f, g] 5 [c6] = [a, b, c, d, f, c6] := fun _ _ _ _ _ _ => rfl
 have L1 : ∀ (β : Type) (O : Oracle) (h : Heap) (d : Nat) (k : TVal → Heap → Option β), vlen O 2 (.v (.c ck)) h d k = k (kI (ks.length : Int)) h := fun β O h d k => by rw [B3.len, List.length_map]
 have B1 : ∀ {β : Type} {O : Oracle} {h : Heap} {d : Nat} {kt : TVal → Heap → AI.Touch → Option β}, vtouch O (.bslice 1 1 [.p (.str [])] [(0, .k (kS key))] false) h d kt = kt (kSl 1 true [[.str key]]) h noTouch := qIP _ _ rfl
 have B2 : ∀ {β : Type} {O : Oracle} {h : Heap} {d : Nat} {kt : TVal → Heap → AI.Touch → Option β}, vtouch O (.bslice 6 1 z6c [(0, .k (.v (.agg (pcells x.row))))] false) h d kt = kt (kSl 6 true [x.row]) h noTouch := qCW 6 _ _ rfl (VT.row_len x)
 have E1 : ∀ {β : Type} {O : Oracle} {k : TVal → Heap → Option β}, vop O (.append 1 16 false (.k (kSl 1 true [])) (.k (.v (.c s3)))) h 103 k = k (.v (.c c1)) h1 := fun {β O k} => by rw [qCu, p3]; exact e1 β O _
 have E2 : ∀ {β : Type} {O : Oracle} {k : TVal → Heap → Option β}, vop O (.append 6 88 false (.k (kSl 6 true [])) (.k (.v (.c s4)))) h1 109 k = k (.v (.c c2)) h2 := fun {β O k} => by rw [qCu, p4]; exact e2 β O _
 have Z1 : ∀ {β : Type} {O : Oracle} {h : Heap} {d : Nat} {k : TVal → Heap → Option β}, vop O (.bslice 1 0 [.p (.str [])] [] false) h d k = k (kSl 1 true []) h := fun {β O h d k} => qAe _ _ rfl
 have Z2 : ∀ {β : Type} {O : Oracle} {h : Heap} {d : Nat} {k : TVal → Heap → Option β}, vop O (.bslice 6 0 z6c [] false) h d k = k (kSl 6 true []) h := fun {β O h d k} => qAe _ _ rfl
 have U := fun (β : Type) (k : TVal → Heap → Option β) (h : Heap) (d : Nat) (hg : h.get (.im 0) = some (rdC T P 0)) => qCQ (k := k) (d := d) 44 hx nb hP (.im 0) hg
 have hlt : ¬ (ks.length : Int) < (ks.length : Int) := Int.lt_irrefl _
 have GO : lim tab.get S 129 1 3 [kP (.im 0), dd, rd4, rd5, kB false, kS key, .v (.c (.ptr (.own 8 g) 0)), kI (ks.length : Int)] h = lim tab.get S 129 1 3 [kP (.im 0), dd, rd4, rd5, kB false, kS key, .v (.c (.ptr (.own 8 g) 0)), kI (ks.length : Int)] h := rfl
 conv at GO => rhs; rw [w129_3, b129_3]
 simp (maxSteps := 9999999) +contextual only [exa, ne_eq, not_false_eq_true, reduceAdd, reduceMul, reduceLT, reduceLeDiff, reduceEqDiff, Int.reduceLT, Int.reduceLE, Int.reduceEq, Int.reduceToNat, exW, exY, H.a5, L1, hlt, t3, t4, p5, p6, Z1, Z2, E1, E2, e3, e4, e5, e6, v1, v2, v3, v4, v5, v6, x1, x2, x3, x4, x5, x6, B1, B2, qD7, A1, A2, A3, A4, A5, P1, P2] at GO
 have hg : ((h6.own 5 1 (.cells [.p (.int .i64 5), .p (.bool false), .p (.int .i64 0), .p (.str []), c4, cl] 0)).own 5 1 (.cells [.p (.int .i64 5), .p (.bool false), .p (.int .i64 0), .p (.str []), c4, c6] 0)).get (.im 0) = some (rdC T P 0) := by simp only [exa, ne_eq, not_false_eq_true, reduceAdd, reduceMul, reduceLT, reduceLeDiff, reduceEqDiff, Int.reduceLT, Int.reduceLE, Int.reduceEq, Int.reduceToNat]; exact i6
 refine ⟨(((h6.own 5 1 (.cells [.p (.int .i64 5), .p (.bool false), .p (.int .i64 0), .p (.str []), c4, cl] 0)).own 5 1 (.cells [.p (.int .i64 5), .p (.bool false), .p (.int .i64 0), .p (.str []), c4, c6] 0)).put (.im 0) (rdC T (if b = 44 then P + 1 else P) 0)), c4, c6, .inr ⟨by simp, ra, by rw [ea]; simp [sRow]⟩, .inr ⟨by simp, rb, by rw [eb]; simp⟩, ⟨qA0 _ 0 _ 0 (by rw [hg]; rfl), by simp only [exa, ne_eq, not_false_eq_true, reduceAdd, reduceMul, reduceLT, reduceLeDiff, reduceEqDiff, Int.reduceLT, Int.reduceLE, Int.reduceEq, Int.reduceToNat]; exact y6, by simp only [exa, ne_eq, not_false_eq_true, reduceAdd, reduceMul, reduceLT, reduceLeDiff, reduceEqDiff, Int.reduceLT, Int.reduceLE, Int.reduceEq, Int.reduceToNat]⟩, ?_⟩
 rw [GO]
 refine (U _ _ _ _ hg).trans ?_
 by_cases hb : b = 44
 ·simp (maxSteps := 9999999) +contextual only [exa, ne_eq, not_false_eq_true, reduceAdd, reduceMul, reduceLT, reduceLeDiff, reduceEqDiff, Int.reduceLT, Int.reduceLE, Int.reduceEq, Int.reduceToNat, exW, hb]
  exact (if_pos trivial).symm
 ·simp (maxSteps := 9999999) +contextual only [exa, ne_eq, not_false_eq_true, reduceAdd, reduceMul, reduceLT, reduceLeDiff, reduceEqDiff, Int.reduceLT, Int.reduceLE, Int.reduceEq, Int.reduceToNat, exW, hb]
  exact (if_neg not_false).symm
end Go.Proofs.YtlkejchbcchecaaDoor.Ab
set_option maxHeartbeats 4000000
namespace Go.Proofs.YtlkejchbcchecaaDoor.Ab
open Go Go.AI
theorem qBs {T : List UInt8} {P : Nat} {E : Int} (Q : Nat) {h : Heap} (hg : h.get (.im 0) = some (rdC T P E)) : (h.put (.im 0) (rdC T Q 0)).get (.im 0) = some (rdC T Q 0) := qA0 _ 0 _ 0 (by rw [hg]; rfl)
theorem qEU (T : List UInt8) (P P' : Nat) (x b : UInt8) (v : VT) (D : Int) (hT : T.length < 900000) (h0 : T[P]? = some 34) (h1 : T[P + 1]? = some x) (h2 : T[P + 2]? = some 34) (h3 : T[P + 3]? = some 58) (hx : 32 ≤ x.toNat ∧ x ≠ 34 ∧ x ≠ 92)
  (hD : 0 ≤ D ∧ D < 1000) (hV : Om 66 [kP (.im 0), kI (D + 1)] [rdC T (P + 4) 0] = some (kA v.row, [rdC T P' 0])) (hb : T[P']? = some b) (nb : notBl b)
  (ks : List (List UInt8)) (vs : List VT) (he : ks.length = vs.length) (hl : ks.length < 1000) (hlt : ∀ a ∈ ks, bless a [x] = true) (ck cl : Cell) (h : Heap) (H : TH T P ck cl h)
  (B3 : Bears 1 ck (ks.map sRow)) (B4 : Bears 6 cl (vs.map VT.row)) :
  ∃ h' ck' cl', Bears 1 ck' ((ks ++ [[x]]).map sRow) ∧ Bears 6 cl' ((vs ++ [v]).map VT.row) ∧ TH T (if b = 44 then P' + 1 else P') ck' cl' h' ∧
   lim tab.get S 129 1 1 [kP (.im 0), kI D, rd4, rd5, kB false] h = (if b = 44 then lim tab.get S 129 1 1 [kP (.im 0), kI D, rd4, rd5, kB false] h' else lim tab.get S 129 1 4 [kP (.im 0), rd4, rd5, kB false] h') := by
 have m1 : (P : Int) < (T.length : Int) := by have := (List.getElem?_eq_some_iff.1 h0).1; omega
 have l0 := (List.getElem?_eq_some_iff.1 h0).1
 have l1 := (List.getElem?_eq_some_iff.1 hb).1
 have UB := fun (β : Type) (k : TVal → Heap → Option β) (h : Heap) (d : Nat) (hg : h.get (.im 0) = some (rdC T P 0)) => u67 (k := k) (d := d) (T := T) (P := P) (E := 0) (fun b' h' => by rw [h0] at h'; cases h'; exact ⟨by decide, by decide, by decide, by decide⟩) (.im 0) hg
 have UT := fun (β : Type) (k : TVal → Heap → Option β) (h : Heap) (d : Nat) (hg : h.get (.im 0) = some (rdC T P 0)) => u127 (k := k) (d := d) h1 h2 hx (by omega) (.im 0) hg
 have UC := fun (β : Type) (k : TVal → Heap → Option β) (h : Heap) (d : Nat) (hg : h.get (.im 0) = some (rdC T (P + 3) 0)) => qCQ (k := k) (d := d) 58 h3 ⟨by decide, by decide, by decide, by decide⟩ (by omega) (.im 0) hg
 have UV := fun (β : Type) (k : TVal → Heap → Option β) (h : Heap) (dd : Nat) (hg : h.get (.im 0) = some (rdC T (P + 4) 0)) => qA2 (k := k) (d := dd) (ps := [kI (D + 1)]) rfl (by simp only [exP]) hV (.im 0) hg
 have q34 : ((34 : UInt8).toNat : Int) = 34 := rfl
 have hz : ∀ v : VT, put1 [.p (.int .i64 0), .p (.bool false), .p (.int .i64 0), .p (.str []), .p .nilslice, .p .nilslice] 0 (pcells v.row) = pcells v.row := fun v => qBH _ (VT.row_len v)
 have wD : IntKind.i64.wrap (D + 1) = D + 1 := qCC _ _ (by show (-9223372036854775808 : Int) ≤ _; omega) (by show _ ≤ (9223372036854775807 : Int); omega)
 have GO : lim tab.get S 129 1 1 [kP (.im 0), kI D, rd4, rd5, kB false] h = lim tab.get S 129 1 1 [kP (.im 0), kI D, rd4, rd5, kB false] h := rfl
 conv at GO => rhs; rw [w129_1, b129_1]
 simp (maxSteps := 9999999) +contextual only [exa, ne_eq, not_false_eq_true, reduceAdd, reduceMul, reduceLT, reduceLeDiff, reduceEqDiff, Int.reduceLT, Int.reduceLE, Int.reduceEq, Int.reduceToNat, exW, H.a0] at GO
 replace GO := GO.trans (UB _ _ _ _ H.a0)
 simp (maxSteps := 9999999) +contextual only [exa, ne_eq, not_false_eq_true, reduceAdd, reduceMul, reduceLT, reduceLeDiff, reduceEqDiff, Int.reduceLT, Int.reduceLE, Int.reduceEq, Int.reduceToNat, exW, H.a0, m1, h0, q34, Int.toNat_natCast] at GO
 have g1 := qBs P H.a0
 replace GO := GO.trans (UT _ _ _ _ g1)
 have g2 := qBs (P + 3) g1
 replace GO := GO.trans (UC _ _ _ _ g2)
 rw [if_pos rfl] at GO
 have g3 := qBs (P + 3 + 1) g2
 simp (maxSteps := 9999999) +contextual only [exa, ne_eq, not_false_eq_true, reduceAdd, reduceMul, reduceLT, reduceLeDiff, reduceEqDiff, Int.reduceLT, Int.reduceLE, Int.reduceEq, Int.reduceToNat, exW, wD, decide_true] at GO
 replace GO := GO.trans (UV _ _ _ _ g3)
 have g4 := qBs P' g3
 generalize hh4 : (((h.put (.im 0) (rdC T P 0)).put (.im 0) (rdC T (P + 3) 0)).put (.im 0) (rdC T (P + 3 + 1) 0)).put (.im 0) (rdC T P' 0) = h4 at GO g4
 simp (maxSteps := 9999999) +contextual only [exa, ne_eq, not_false_eq_true, reduceAdd, reduceMul, reduceLT, reduceLeDiff, reduceEqDiff, Int.reduceLT, Int.reduceLE, Int.reduceEq, Int.reduceToNat, exW, hz] at GO
 have k4 : h4.get (.own 4 1) = some (.cells z6c 0) := by rw [← hh4]; exact H.a4
 have k5 : h4.get (.own 5 1) = some (.cells [.p (.int .i64 5), .p (.bool false), .p (.int .i64 0), .p (.str []), ck, cl] 0) := by rw [← hh4]; exact H.a5
 have H5 : TH T P' ck cl ((h4.own 8 (h4.gen 8 + 1) (.cells z6c 0)).own 8 (h4.gen 8 + 1) (.cells (pcells v.row) 0)) := ⟨by simp only [exa, ne_eq, not_false_eq_true, reduceAdd, reduceMul, reduceLT, reduceLeDiff, reduceEqDiff, Int.reduceLT, Int.reduceLE, Int.reduceEq, Int.reduceToNat]; exact g4, by simp only [exa, ne_eq, not_false_eq_true, reduceAdd, reduceMul, reduceLT, reduceLeDiff, reduceEqDiff, Int.reduceLT, Int.reduceLE, Int.reduceEq, Int.reduceToNat]; exact k4, by simp only [exa, ne_eq, not_false_eq_true, reduceAdd, reduceMul, reduceLT, reduceLeDiff, reduceEqDiff, Int.reduceLT, Int.reduceLE, Int.reduceEq, Int.reduceToNat]; exact k5⟩
 have a8 : ((h4.own 8 (h4.gen 8 + 1) (.cells z6c 0)).own 8 (h4.gen 8 + 1) (.cells (pcells v.row) 0)).get (.own 8 (h4.gen 8 + 1)) = some (.cells (pcells v.row) 0) := by simp only [exa, ne_eq, not_false_eq_true, reduceAdd, reduceMul, reduceLT, reduceLeDiff, reduceEqDiff, Int.reduceLT, Int.reduceLE, Int.reduceEq, Int.reduceToNat]
 obtain ⟨h', ck', cl', e1, e2, e3, e4⟩ := qLN T P' b hb nb (by omega) ks vs he hl [x] v ck cl _ H5 B3 B4 (h4.gen 8 + 1) a8 (kI D)
 refine ⟨h', ck', cl', e1, e2, e3, GO.trans (Eq.trans ?_ e4)⟩
 exact qJ3 ks [x] hlt (by omega) ck cl _ H5.a5 B3 (kI D) _ 0 (by omega)
end Go.Proofs.YtlkejchbcchecaaDoor.Ab
set_option maxHeartbeats 4000000
namespace Go.AI
theorem qGZ {h : Heap} (vs : List Comp) (o : AObj) (hv : vs.all compPT = true) (hg : h.get (.im 0) = some o) (ho : plainO o) : vfin true 1 vs h = some (oneOf (vs.map Comp.strip), [o]) := by
 letI : Sym := ⟨fun _ => 0⟩
 rw [qCy]
 obtain ⟨e1, e2⟩ := qC5 h vs hv
 have ef : freezeT h (oneOf vs) = some (oneOf (vs.map Comp.strip), []) := by
  match vs, hv, e1, e2 with
  | [], _, _, _ => rfl
  | [x], hv, _, _ =>
   rw [List.all_cons, Bool.and_eq_true] at hv
   show (freezeC h x).map _ = _
   rw [(qCV h x hv.1).1]; rfl
  | x :: y :: vs, _, e1, _ =>
   show ((x :: y :: vs).mapM (freezeC h)).map _ = _
   rw [e1]
   show some (TVal.tup (((x :: y :: vs).map fun x => (x.strip, ([] : List Ref))).map (·.1)), ((x :: y :: vs).map fun x => (x.strip, ([] : List Ref))).flatMap (·.2)) = _
   congr 2
   ·rw [List.map_map]; rfl
   ·generalize (x :: y :: vs) = l
    induction l with
    | nil => rfl
    | cons a l ih => rw [List.map_cons, List.flatMap_cons, ih]; rfl
 obtain ⟨q1, q2, q3, q4⟩ := qAP (qCF e2)
 unfold finV
 rw [show ims 1 = [Ref.im 0] from rfl]
 simp [ef, settle, hg, ho.1, q1, q3, reach, fuelReach, ho.2]
end Go.AI
namespace Go.Proofs.YtlkejchbcchecaaDoor.Ab
open Go Go.AI
structure Ent (T : List UInt8) (D : Int) (P : Nat) (x : UInt8) (v : VT) (P' : Nat) : Prop where
 h0 : T[P]? = some 34
 h1 : T[P + 1]? = some x
 h2 : T[P + 2]? = some 34
 h3 : T[P + 3]? = some 58
 hx : 32 ≤ x.toNat ∧ x ≠ 34 ∧ x ≠ 92
 hV : Om 66 [kP (.im 0), kI (D + 1)] [rdC T (P + 4) 0] = some (kA v.row, [rdC T P' 0])
inductive Ents (T : List UInt8) (D : Int) : Nat → List (UInt8 × VT) → Nat → Prop
 | one {P P' : Nat} {x : UInt8} {v : VT} : Ent T D P x v P' → T[P']? = some 125 → Ents T D P [(x, v)] P'
 | more {P P' Q : Nat} {x : UInt8} {v : VT} {es : List (UInt8 × VT)} : Ent T D P x v P' → T[P']? = some 44 → Ents T D (P' + 1) es Q → Ents T D P ((x, v) :: es) Q
theorem Ents.fin {T : List UInt8} {D : Int} : ∀ {P Q : Nat} {es : List (UInt8 × VT)}, Ents T D P es Q → T[Q]? = some 125
 | _, _, _, .one _ h => h
 | _, _, _, .more _ _ h => h.fin
theorem Ents.pos {T : List UInt8} {D : Int} {P Q : Nat} {es : List (UInt8 × VT)} (H : Ents T D P es Q) : T[P]? = some 34 := by cases H with | one e _ => exact e.h0 | more e _ _ => exact e.h0
abbrev kk1 (es : List (UInt8 × VT)) : List (List UInt8) := es.map fun e => [e.1]
abbrev vv1 (es : List (UInt8 × VT)) : List VT := es.map (·.2)
theorem qJX (T : List UInt8) (D : Int) (hT : T.length < 900000) (hD : 0 ≤ D ∧ D < 1000) : ∀ (es : List (UInt8 × VT)) (P Q : Nat) (E : Ents T D P es Q) (ks : List (List UInt8)) (vs : List VT) (he : ks.length = vs.length) (hl : ks.length + es.length < 1000)
  (hlt : (ks ++ kk1 es).Pairwise fun a b => bless a b = true) (ck cl : Cell) (h : Heap) (H : TH T P ck cl h) (B3 : Bears 1 ck (ks.map sRow)) (B4 : Bears 6 cl (vs.map VT.row)),
  ∃ h' ck' cl', Bears 1 ck' ((ks ++ kk1 es).map sRow) ∧ Bears 6 cl' ((vs ++ vv1 es).map VT.row) ∧ TH T Q ck' cl' h' ∧ lim tab.get S 129 1 1 [kP (.im 0), kI D, rd4, rd5, kB false] h = lim tab.get S 129 1 4 [kP (.im 0), rd4, rd5, kB false] h' := by
 intro es
 induction es with
 | nil => intro P Q E; cases E
 | cons a es ih =>
  intro P Q E ks vs he hl hlt ck cl h H B3 B4
  have hk : ∀ a' ∈ ks, bless a' [a.1] = true := fun a' ha' => (List.pairwise_append.1 hlt).2.2 a' ha' _ (by simp)
  simp only [List.length_cons] at hl
  cases E with
  | one e hq =>
   obtain ⟨h', ck', cl', e1, e2, e3, e4⟩ := qEU T P Q _ 125 _ D hT e.h0 e.h1 e.h2 e.h3 e.hx hD e.hV hq ⟨by decide, by decide, by decide, by decide⟩ ks vs he (by omega) hk ck cl h H B3 B4
   rw [if_neg (by decide)] at e3 e4
   exact ⟨h', ck', cl', e1, e2, e3, e4⟩
  | more e hq E' =>
   obtain ⟨h', ck', cl', e1, e2, e3, e4⟩ := qEU T P _ _ 44 _ D hT e.h0 e.h1 e.h2 e.h3 e.hx hD e.hV hq ⟨by decide, by decide, by decide, by decide⟩ ks vs he (by omega) hk ck cl h H B3 B4
   rw [if_pos rfl] at e3 e4
   obtain ⟨h2, ck2, cl2, f1, f2, f3, f4⟩ := ih _ _ E' (ks ++ [[_]]) (vs ++ [_]) (by simp [he]) (by simp; omega) (by simpa using hlt) ck' cl' h' e3 e1 e2
   exact ⟨h2, ck2, cl2, by simpa using f1, by simpa using f2, f3, e4.trans f4⟩
theorem qME (T : List UInt8) (Q : Nat) (hT : T.length < 900000) (hQ : T[Q]? = some 125) (ks : List (List UInt8)) (vs : List VT) (ck cl : Cell) (h : Heap) (H : TH T Q ck cl h) (B3 : Bears 1 ck (ks.map sRow)) (B4 : Bears 6 cl (vs.map VT.row)) :
  lim tab.get S 129 1 4 [kP (.im 0), rd4, rd5, kB false] h = some (kA (VT.mk 5 false 0 [] (grown ks) (grown vs)).row, [rdC T (Q + 1) 0]) := by
 have l0 := (List.getElem?_eq_some_iff.1 hQ).1
 have UC := fun (β : Type) (k : TVal → Heap → Option β) (h : Heap) (d : Nat) (hg : h.get (.im 0) = some (rdC T Q 0)) => qCQ (k := k) (d := d) 125 hQ ⟨by decide, by decide, by decide, by decide⟩ (by omega) (.im 0) hg
 have hz : ∀ a b c d e f : Cell, put1 z6c 0 [a, b, c, d, e, f] = [a, b, c, d, e, f] := fun _ _ _ _ _ _ => rfl
 have g1 := qBs (Q + 1) H.a0
 have g4 : (h.put (.im 0) (rdC T (Q + 1) 0)).get (.own 4 1) = some (.cells z6c 0) := H.a4
 have g5 : (h.put (.im 0) (rdC T (Q + 1) 0)).get (.own 5 1) = some (.cells [.p (.int .i64 5), .p (.bool false), .p (.int .i64 0), .p (.str []), ck, cl] 0) := H.a5
 rw [w129_4, b129_4]
 refine (UC _ _ _ _ H.a0).trans ?_
 rw [if_pos rfl]
 simp (maxSteps := 9999999) +contextual only [exa, ne_eq, not_false_eq_true, reduceAdd, reduceMul, reduceLT, reduceLeDiff, reduceEqDiff, Int.reduceLT, Int.reduceLE, Int.reduceEq, Int.reduceToNat, exW, decide_true]
 rw [w129_5, b129_5]
 simp (maxSteps := 9999999) +contextual only [exa, ne_eq, not_false_eq_true, reduceAdd, reduceMul, reduceLT, reduceLeDiff, reduceEqDiff, Int.reduceLT, Int.reduceLE, Int.reduceEq, Int.reduceToNat, exW]
 rw [w129_6, b129_6]
 simp (maxSteps := 9999999) +contextual only [exa, ne_eq, not_false_eq_true, reduceAdd, reduceMul, reduceLT, reduceLeDiff, reduceEqDiff, Int.reduceLT, Int.reduceLE, Int.reduceEq, Int.reduceToNat, exW, g1, g4, g5, hz]
 rw [qGZ _ (rdC T (Q + 1) 0) (by show ([Cell.p (.int .i64 5), .p (.bool false), .p (.int .i64 0), .p (.str []), ck, cl].all isPT && true) = true; simp only [List.all_cons, List.all_nil, B3.pt, B4.pt]; rfl) (by simp only [exa, ne_eq, not_false_eq_true, reduceAdd, reduceMul, reduceLT, reduceLeDiff, reduceEqDiff, Int.reduceLT, Int.reduceLE, Int.reduceEq, Int.reduceToNat]; exact g1) (qCY _ _ _)]
 show some (TVal.v (.agg [.p (.int .i64 5), .p (.bool false), .p (.int .i64 0), .p (.str []), ck.strip, cl.strip]), _) = _
 rw [B3.strip, B4.strip, qB4, qB4, VT.row_eq]
 rfl
theorem qCH (T : List UInt8) (D : Int) (P Q : Nat) (es : List (UInt8 × VT)) (hT : T.length < 900000) (hD : 0 ≤ D ∧ D < 1000) (hP : T[P]? = some 123) (E : Ents T D (P + 1) es Q) (hl : es.length < 1000) (hlt : (kk1 es).Pairwise fun a b => bless a b = true) :
  Om 129 [kP (.im 0), kI D] [rdC T P 0] = some (kA (VT.mk 5 false 0 [] (grown (kk1 es)) (grown (vv1 es))).row, [rdC T (Q + 1) 0]) := by
 refine (qAE rfl).trans ?_
 show lim tab.get S 129 1 0 [kP (.im 0), kI D] ⟨[rdC T P 0], .nil⟩ = _
 have l0 := (List.getElem?_eq_some_iff.1 hP).1
 have w1 := qAL P (by omega)
 have UC := fun (β : Type) (k : TVal → Heap → Option β) (h : Heap) (d : Nat) (hg : h.get (.im 0) = some (rdC T (P + 1) 0)) => qCQ (k := k) (d := d) 125 E.pos ⟨by decide, by decide, by decide, by decide⟩ (by omega) (.im 0) hg
 have hz : ∀ a b c d e f : Cell, put1 [.p (.int .i64 0), .p (.bool false), .p (.int .i64 0), .p (.str []), .p .nilslice, .p .nilslice] 0 [a, b, c, d, e, f] = [a, b, c, d, e, f] := fun _ _ _ _ _ _ => rfl
 rw [w129_0, b129_0]
 simp (maxSteps := 9999999) +contextual only [exa, ne_eq, not_false_eq_true, reduceAdd, reduceMul, reduceLT, reduceLeDiff, reduceEqDiff, Int.reduceLT, Int.reduceLE, Int.reduceEq, Int.reduceToNat, exW, w1, hz]
 refine (UC _ _ _ _ (by simp only [exa, ne_eq, not_false_eq_true, reduceAdd, reduceMul, reduceLT, reduceLeDiff, reduceEqDiff, Int.reduceLT, Int.reduceLE, Int.reduceEq, Int.reduceToNat])).trans ?_
 rw [if_neg (by decide)]
 simp (maxSteps := 9999999) +contextual only [exa, ne_eq, not_false_eq_true, reduceAdd, reduceMul, reduceLT, reduceLeDiff, reduceEqDiff, Int.reduceLT, Int.reduceLE, Int.reduceEq, Int.reduceToNat, exW, show decide ((34 : UInt8) = 125) = false from rfl]
 generalize hh : Heap.put _ (.im 0) (rdC T (P + 1) 0) = h1
 have H : TH T (P + 1) (.p .nilslice) (.p .nilslice) h1 := by rw [← hh]; exact ⟨by simp only [exa, ne_eq, not_false_eq_true, reduceAdd, reduceMul, reduceLT, reduceLeDiff, reduceEqDiff, Int.reduceLT, Int.reduceLE, Int.reduceEq, Int.reduceToNat], by simp only [exa, ne_eq, not_false_eq_true, reduceAdd, reduceMul, reduceLT, reduceLeDiff, reduceEqDiff, Int.reduceLT, Int.reduceLE, Int.reduceEq, Int.reduceToNat], by simp only [exa, ne_eq, not_false_eq_true, reduceAdd, reduceMul, reduceLT, reduceLeDiff, reduceEqDiff, Int.reduceLT, Int.reduceLE, Int.reduceEq, Int.reduceToNat]⟩
 obtain ⟨h2, ck, cl, e1, e2, e3, e4⟩ := qJX T D hT hD es (P + 1) Q E [] [] rfl (by simp; omega) (by simpa using hlt) _ _ h1 H (.inl ⟨rfl, rfl⟩) (.inl ⟨rfl, rfl⟩)
 rw [e4]
 exact qME T Q hT E.fin _ _ ck cl h2 e3 e1 e2
end Go.Proofs.YtlkejchbcchecaaDoor.Ab
set_option maxHeartbeats 4000000
namespace Go.AI
section
variable {β : Type} {O : Oracle} {h : Heap} {d : Nat} {k : TVal → Heap → Option β} {kt : TVal → Heap → Touch → Option β}
theorem qLU (g : FuncId) (r : Ref) (x v : TVal) (o o' : AObj) (hx : pT x = true) (hv : pT v = true) (hg : h.get r = some o) (ho : plainO o) (ho' : plainO o') (hc : O g [.v (.c (.ptr (.im 0) 0)), x] [o] = some (v, [o'])) :
  vtouch O (.call (.k (.v (.c (.func g [])))) [.k (.v (.c (.ptr r 0))), .k x]) h d kt = kt v (h.put r o') ⟨[r.site, r.site], [r.site], false⟩ := by
 obtain ⟨q1, q2, q3, q4⟩ := qAP hx
 obtain ⟨p1, p2, p3, p4⟩ := qAP hv
 have e2 : reach h fuelReach ([TVal.v (.c (.ptr r 0)), x].flatMap TVal.refs) [] = [r] := by
  rw [List.flatMap_cons, List.flatMap_cons, List.flatMap_nil, q1]
  show reach h (398 + 1 + 1) [r] [] = _
  rw [qG7 _ r [] [] o (by simp) hg, ho.1]
  exact qIE _ _
 have e3 : ([r] : List Ref).mapM h.get = some [o] := by simp only [List.mapM_cons, List.mapM_nil, hg, Option.pure_def, Option.bind_eq_bind, Option.bind_some]
 have ir : inn [r] r = some (.im 0) := by simp [inn, idx]
 have e4 : ([TVal.v (.c (.ptr r 0)), x]).map (TVal.ren (inn [r])) = [.v (.c (.ptr (.im 0) 0)), x] := by
  show [TVal.v (.c (match inn [r] r with | some s => .ptr s 0 | none => .junk)), x.ren (inn [r])] = _
  rw [ir, q3]
 have co := qJy (d := d) (h := h) (O := O) g [.v (.c (.ptr r 0)), x] [.v (.c (.ptr r 0)), x] _ [r] [o] [o] [o'] v (by show [_, x.strip] = _; rw [q2]; rfl) e2 e3 e4 (by rw [List.map_cons, ho.2]; rfl) hc (Nat.le_refl _)
 have hp : plan .nil (.call (.k (.v (.c (.func g [])))) [.k (.v (.c (.ptr r 0))), .k x]) = some (.call g [.v (.c (.ptr r 0)), x]) := rfl
 show bnd (plan2 (.call (.k (.v (.c (.func g [])))) [.k (.v (.c (.ptr r 0))), .k x]) .nil) (fun p => bnd (p.exec O d h) fun x => kt x.1 x.2.1 x.2.2) = _
 rw [qAN, hp]
 show bnd (callOp O g [.v (.c (.ptr r 0)), x] d h) _ = _
 rw [co, bnd_some]
 have h1 : hAfter h [r] [o'] = h.put r o' := by show h.put r (o'.ren _) = _; rw [ho'.2]
 have h2 : gTouch h [.v (.c (.ptr r 0)), x] [o] [r] [o'] = ⟨[r.site, r.site], [r.site], false⟩ := by
  unfold gTouch
  rw [List.flatMap_cons, List.flatMap_cons, List.flatMap_nil, q1, List.flatMap_cons, List.flatMap_nil, ho.1]
  rfl
 dsimp only
 rw [h1, h2, p3]
end
end Go.AI
namespace Go.Proofs.YtlkejchbcchecaaDoor.Ab
open Go Go.AI
structure LH (T : List UInt8) (P : Nat) (cl : Cell) (h : Heap) : Prop where
 a0 : h.get (.im 0) = some (rdC T P 0)
 a4 : h.get (.own 4 1) = some (.cells z6c 0)
 a5 : h.get (.own 5 1) = some (.cells [.p (.int .i64 4), .p (.bool false), .p (.int .i64 0), .p (.str []), .p .nilslice, cl] 0)
theorem qDg (T : List UInt8) (P P' : Nat) (b : UInt8) (v : VT) (D : Int) (hT : T.length < 900000)
  (hD : 0 ≤ D ∧ D < 1000) (hV : Om 66 [kP (.im 0), kI (D + 1)] [rdC T P 0] = some (kA v.row, [rdC T P' 0])) (hb : T[P']? = some b) (nb : notBl b)
  (vs : List VT) (hl : vs.length < 1000) (cl : Cell) (h : Heap) (H : LH T P cl h) (G : GS [29] 6 cl (vs.map VT.row) h) :
  ∃ h' cl', (Bears 6 cl' ((vs ++ [v]).map VT.row) ∧ GS [29] 6 cl' ((vs ++ [v]).map VT.row) h') ∧ LH T (if b = 44 then P' + 1 else P') cl' h' ∧
   lim tab.get S 128 1 1 [kP (.im 0), kI D, rd4, rd5] h = (if b = 44 then lim tab.get S 128 1 1 [kP (.im 0), kI D, rd4, rd5] h' else lim tab.get S 128 1 2 [kP (.im 0), rd4, rd5] h') := by
 have l1 := (List.getElem?_eq_some_iff.1 hb).1
 have wD : IntKind.i64.wrap (D + 1) = D + 1 := qCC _ _ (by show (-9223372036854775808 : Int) ≤ _; omega) (by show _ ≤ (9223372036854775807 : Int); omega)
 have r6 : ∀ l : List VT, ∀ r ∈ l.map VT.row, r.length = 6 := fun l r hr => by obtain ⟨a, _, rfl⟩ := List.mem_map.1 hr; exact VT.row_len a
 have C5 : ∀ {β : Type} {kt : TVal → Heap → AI.Touch → Option β}, vtouch Om (.call (.k (.v (.c (.func 66 [])))) [.k (kP (.im 0)), .k (kI (D + 1))]) h 27 kt = kt (kA v.row) (h.put (.im 0) (rdC T P' 0)) ⟨[(Ref.im 0).site, (Ref.im 0).site], [(Ref.im 0).site], false⟩ := fun {β kt} =>
  qLU 66 (.im 0) (kI (D + 1)) (kA v.row) _ _ rfl (by simp only [exP]) H.a0 (qCY _ _ _) (qCY _ _ _) hV
 have g1 := qBs P' H.a0
 have G1 : GS [29] 6 cl (vs.map VT.row) (h.put (.im 0) (rdC T P' 0)) := G.keep fun e he' g hh => hh
 obtain ⟨c1, h1, u1, G2, e1, T1, K1, I1, X1⟩ := qBj (d := 29) (by' := 88) (new := [v.row]) (b := .slice 6 true [v.row]) (.inr ⟨_, rfl⟩) G1 (by decide) (fun r hr => by simp at hr; rw [hr]; exact VT.row_len v) (by simp; omega) (by decide)
 have B2 : ∀ {β : Type} {O : Oracle} {h : Heap} {d : Nat} {kt : TVal → Heap → AI.Touch → Option β}, vtouch O (.bslice 6 1 z6c [(0, .k (.v (.agg (pcells v.row))))] false) h d kt = kt (kSl 6 true [v.row]) h noTouch := qCW 6 _ _ rfl (VT.row_len v)
 have v1 : h1.get (.own 5 1) = some (.cells [.p (.int .i64 4), .p (.bool false), .p (.int .i64 0), .p (.str []), .p .nilslice, cl] 0) := K1 5 1 _ (by decide) H.a5
 have v2 : h1.get (.own 4 1) = some (.cells z6c 0) := K1 4 1 _ (by decide) H.a4
 have i1 : h1.get (.im 0) = some (rdC T P' 0) := by rw [I1]; exact g1
 have P2 : ∀ a b c d f g : Cell, put1 [a, b, c, d, f, g] 5 [c1] = [a, b, c, d, f, c1] := fun _ _ _ _ _ _ => rfl
 have U := fun (β : Type) (k : TVal → Heap → Option β) (h : Heap) (d : Nat) (hg : h.get (.im 0) = some (rdC T P' 0)) => qCQ (k := k) (d := d) 44 hb nb (by omega) (.im 0) hg
 have GO : lim tab.get S 128 1 1 [kP (.im 0), kI D, rd4, rd5] h = lim tab.get S 128 1 1 [kP (.im 0), kI D, rd4, rd5] h := rfl
 conv at GO => rhs; rw [w128_1, b128_1]
 simp (maxSteps := 9999999) +contextual only [exa, ne_eq, not_false_eq_true, reduceAdd, reduceMul, reduceLT, reduceLeDiff, reduceEqDiff, Int.reduceLT, Int.reduceLE, Int.reduceEq, Int.reduceToNat, exW, exY, H.a0, H.a5, C5, wD, B2, e1, v1, P2, qD7] at GO
 rw [show (AI.Touch.apart ⟨[(Ref.own 5 1).site], [], false⟩ ⟨[(Ref.im 0).site, (Ref.im 0).site], [(Ref.im 0).site], false⟩) = true from rfl, cond_true] at GO
 have hg : (h1.own 5 1 (.cells [.p (.int .i64 4), .p (.bool false), .p (.int .i64 0), .p (.str []), .p .nilslice, c1] 0)).get (.im 0) = some (rdC T P' 0) := by simp only [exa, ne_eq, not_false_eq_true, reduceAdd, reduceMul, reduceLT, reduceLeDiff, reduceEqDiff, Int.reduceLT, Int.reduceLE, Int.reduceEq, Int.reduceToNat]; exact i1
 obtain ⟨ra, ea⟩ := X1 (.inl (by simp))
 refine ⟨_, c1, ⟨.inr ⟨by simp, ra, by rw [ea]; simp⟩, G2.keep (h' := (h1.own 5 1 (.cells [.p (.int .i64 4), .p (.bool false), .p (.int .i64 0), .p (.str []), .p .nilslice, c1] 0)).put (.im 0) (rdC T (if b = 44 then P' + 1 else P') 0)) (fun e he' g hh => ?_) |> fun x => by rw [List.map_append]; exact x⟩, ⟨qA0 _ 0 _ 0 (by rw [hg]; rfl), by simp only [exa, ne_eq, not_false_eq_true, reduceAdd, reduceMul, reduceLT, reduceLeDiff, reduceEqDiff, Int.reduceLT, Int.reduceLE, Int.reduceEq, Int.reduceToNat]; exact v2, by simp only [exa, ne_eq, not_false_eq_true, reduceAdd, reduceMul, reduceLT, reduceLeDiff, reduceEqDiff, Int.reduceLT, Int.reduceLE, Int.reduceEq, Int.reduceToNat]⟩, ?_⟩
 ·have : e ≠ 5 := by rintro rfl; revert he'; decide
  exact (Heap.own_get_ne h1 5 1 _ e g (Ne.symm this)).trans hh
 rw [GO]
 refine (U _ _ _ _ hg).trans ?_
 by_cases hb : b = 44
 ·simp (maxSteps := 9999999) +contextual only [exa, ne_eq, not_false_eq_true, reduceAdd, reduceMul, reduceLT, reduceLeDiff, reduceEqDiff, Int.reduceLT, Int.reduceLE, Int.reduceEq, Int.reduceToNat, exW, hb]
  exact (if_pos trivial).symm
 ·simp (maxSteps := 9999999) +contextual only [exa, ne_eq, not_false_eq_true, reduceAdd, reduceMul, reduceLT, reduceLeDiff, reduceEqDiff, Int.reduceLT, Int.reduceLE, Int.reduceEq, Int.reduceToNat, exW, hb]
  exact (if_neg not_false).symm
inductive Vals (T : List UInt8) (D : Int) : Nat → List VT → Nat → Prop
 | one {P P' : Nat} {v : VT} : Om 66 [kP (.im 0), kI (D + 1)] [rdC T P 0] = some (kA v.row, [rdC T P' 0]) → T[P']? = some 93 → Vals T D P [v] P'
 | more {P P' Q : Nat} {v : VT} {es : List VT} : Om 66 [kP (.im 0), kI (D + 1)] [rdC T P 0] = some (kA v.row, [rdC T P' 0]) → T[P']? = some 44 → Vals T D (P' + 1) es Q → Vals T D P (v :: es) Q
theorem Vals.fin {T : List UInt8} {D : Int} : ∀ {P Q : Nat} {es : List VT}, Vals T D P es Q → T[Q]? = some 93
 | _, _, _, .one _ h => h
 | _, _, _, .more _ _ h => h.fin
theorem qJA (T : List UInt8) (D : Int) (hT : T.length < 900000) (hD : 0 ≤ D ∧ D < 1000) : ∀ (es : List VT) (P Q : Nat) (E : Vals T D P es Q) (vs : List VT) (hl : vs.length + es.length < 1000)
  (cl : Cell) (h : Heap) (H : LH T P cl h) (G : GS [29] 6 cl (vs.map VT.row) h),
  ∃ h' cl', Bears 6 cl' ((vs ++ es).map VT.row) ∧ LH T Q cl' h' ∧ lim tab.get S 128 1 1 [kP (.im 0), kI D, rd4, rd5] h = lim tab.get S 128 1 2 [kP (.im 0), rd4, rd5] h' := by
 intro es
 induction es with
 | nil => intro P Q E; cases E
 | cons a es ih =>
  intro P Q E vs hl cl h H G
  simp only [List.length_cons] at hl
  cases E with
  | one e hq =>
   obtain ⟨h', cl', e2, e3, e4⟩ := qDg T P Q 93 _ D hT hD e hq ⟨by decide, by decide, by decide, by decide⟩ vs (by omega) cl h H G
   rw [if_neg (by decide)] at e3 e4
   exact ⟨h', cl', e2.1, e3, e4⟩
  | more e hq E' =>
   obtain ⟨h', cl', e2, e3, e4⟩ := qDg T P _ 44 _ D hT hD e hq ⟨by decide, by decide, by decide, by decide⟩ vs (by omega) cl h H G
   rw [if_pos rfl] at e3 e4
   obtain ⟨h2, cl2, f2, f3, f4⟩ := ih _ _ E' (vs ++ [_]) (by simp; omega) cl' h' e3 e2.2
   exact ⟨h2, cl2, by simpa using f2, f3, e4.trans f4⟩
theorem qKe (T : List UInt8) (Q : Nat) (hT : T.length < 900000) (hQ : T[Q]? = some 93) (vs : List VT) (cl : Cell) (h : Heap) (H : LH T Q cl h) (B : Bears 6 cl (vs.map VT.row)) :
  lim tab.get S 128 1 2 [kP (.im 0), rd4, rd5] h = some (kA (VT.mk 4 false 0 [] .nil (grown vs)).row, [rdC T (Q + 1) 0]) := by
 have l0 := (List.getElem?_eq_some_iff.1 hQ).1
 have UC := fun (β : Type) (k : TVal → Heap → Option β) (h : Heap) (d : Nat) (hg : h.get (.im 0) = some (rdC T Q 0)) => qCQ (k := k) (d := d) 93 hQ ⟨by decide, by decide, by decide, by decide⟩ (by omega) (.im 0) hg
 have hz : ∀ a b c d e f : Cell, put1 z6c 0 [a, b, c, d, e, f] = [a, b, c, d, e, f] := fun _ _ _ _ _ _ => rfl
 have g1 := qBs (Q + 1) H.a0
 have g4 : (h.put (.im 0) (rdC T (Q + 1) 0)).get (.own 4 1) = some (.cells z6c 0) := H.a4
 have g5 : (h.put (.im 0) (rdC T (Q + 1) 0)).get (.own 5 1) = some (.cells [.p (.int .i64 4), .p (.bool false), .p (.int .i64 0), .p (.str []), .p .nilslice, cl] 0) := H.a5
 rw [w128_2, b128_2]
 refine (UC _ _ _ _ H.a0).trans ?_
 rw [if_pos rfl]
 simp (maxSteps := 9999999) +contextual only [exa, ne_eq, not_false_eq_true, reduceAdd, reduceMul, reduceLT, reduceLeDiff, reduceEqDiff, Int.reduceLT, Int.reduceLE, Int.reduceEq, Int.reduceToNat, exW, decide_true]
 rw [w128_3, b128_3]
 simp (maxSteps := 9999999) +contextual only [exa, ne_eq, not_false_eq_true, reduceAdd, reduceMul, reduceLT, reduceLeDiff, reduceEqDiff, Int.reduceLT, Int.reduceLE, Int.reduceEq, Int.reduceToNat, exW, g1, g4, g5, hz]
 rw [qGZ _ (rdC T (Q + 1) 0) (by show ([Cell.p (.int .i64 4), .p (.bool false), .p (.int .i64 0), .p (.str []), .p .nilslice, cl].all isPT && true) = true; simp only [List.all_cons, List.all_nil, B.pt]; rfl) (by simp only [exa, ne_eq, not_false_eq_true, reduceAdd, reduceMul, reduceLT, reduceLeDiff, reduceEqDiff, Int.reduceLT, Int.reduceLE, Int.reduceEq, Int.reduceToNat]; exact g1) (qCY _ _ _)]
 show some (TVal.v (.agg [.p (.int .i64 4), .p (.bool false), .p (.int .i64 0), .p (.str []), .p .nilslice, cl.strip]), _) = _
 rw [B.strip, qB4, VT.row_eq]
 rfl
theorem qJj (T : List UInt8) (D : Int) (P Q : Nat) (es : List VT) (c : UInt8) (hT : T.length < 900000) (hD : 0 ≤ D ∧ D < 1000) (hP : T[P]? = some 91) (hc : T[P + 1]? = some c) (nb : notBl c) (h93 : c ≠ 93) (E : Vals T D (P + 1) es Q) (hl : es.length < 1000) :
  Om 128 [kP (.im 0), kI D] [rdC T P 0] = some (kA (VT.mk 4 false 0 [] .nil (grown es)).row, [rdC T (Q + 1) 0]) := by
 refine (qAE rfl).trans ?_
 show lim tab.get S 128 1 0 [kP (.im 0), kI D] ⟨[rdC T P 0], .nil⟩ = _
 have l0 := (List.getElem?_eq_some_iff.1 hP).1
 have w1 := qAL P (by omega)
 have UC := fun (β : Type) (k : TVal → Heap → Option β) (h : Heap) (d : Nat) (hg : h.get (.im 0) = some (rdC T (P + 1) 0)) => qCQ (k := k) (d := d) 93 hc nb (by omega) (.im 0) hg
 have hz : ∀ a b c d e f : Cell, put1 [.p (.int .i64 0), .p (.bool false), .p (.int .i64 0), .p (.str []), .p .nilslice, .p .nilslice] 0 [a, b, c, d, e, f] = [a, b, c, d, e, f] := fun _ _ _ _ _ _ => rfl
 rw [w128_0, b128_0]
 simp (maxSteps := 9999999) +contextual only [exa, ne_eq, not_false_eq_true, reduceAdd, reduceMul, reduceLT, reduceLeDiff, reduceEqDiff, Int.reduceLT, Int.reduceLE, Int.reduceEq, Int.reduceToNat, exW, w1, hz]
 refine (UC _ _ _ _ (by simp only [exa, ne_eq, not_false_eq_true, reduceAdd, reduceMul, reduceLT, reduceLeDiff, reduceEqDiff, Int.reduceLT, Int.reduceLE, Int.reduceEq, Int.reduceToNat])).trans ?_
 rw [if_neg h93]
 simp (maxSteps := 9999999) +contextual only [exa, ne_eq, not_false_eq_true, reduceAdd, reduceMul, reduceLT, reduceLeDiff, reduceEqDiff, Int.reduceLT, Int.reduceLE, Int.reduceEq, Int.reduceToNat, exW, decide_eq_false h93]
 generalize hh : Heap.put _ (.im 0) (rdC T (P + 1) 0) = h1
 have H : LH T (P + 1) (.p .nilslice) h1 := by rw [← hh]; exact ⟨by simp only [exa, ne_eq, not_false_eq_true, reduceAdd, reduceMul, reduceLT, reduceLeDiff, reduceEqDiff, Int.reduceLT, Int.reduceLE, Int.reduceEq, Int.reduceToNat], by simp only [exa, ne_eq, not_false_eq_true, reduceAdd, reduceMul, reduceLT, reduceLeDiff, reduceEqDiff, Int.reduceLT, Int.reduceLE, Int.reduceEq, Int.reduceToNat], by simp only [exa, ne_eq, not_false_eq_true, reduceAdd, reduceMul, reduceLT, reduceLeDiff, reduceEqDiff, Int.reduceLT, Int.reduceLE, Int.reduceEq, Int.reduceToNat]⟩
 obtain ⟨h2, cl, e2, e3, e4⟩ := qJA T D hT hD es (P + 1) Q E [] (by simp; omega) _ h1 H (.inl ⟨rfl, rfl⟩)
 rw [e4]
 exact qKe T Q hT E.fin _ cl h2 e3 e2
end Go.Proofs.YtlkejchbcchecaaDoor.Ab
set_option maxHeartbeats 4000000
namespace Go.Proofs.YtlkejchbcchecaaDoor.Ab
open Go Go.AI
theorem qJJ (T : List UInt8) (D : Int) (P : Nat) (hT : T.length < 900000) (hP : T[P]? = some 91) (hc : T[P + 1]? = some 93) :
  Om 128 [kP (.im 0), kI D] [rdC T P 0] = some (kA (VT.mk 4 false 0 [] .nil .nil).row, [rdC T (P + 2) 0]) := by
 refine (qAE rfl).trans ?_
 show lim tab.get S 128 1 0 [kP (.im 0), kI D] ⟨[rdC T P 0], .nil⟩ = _
 have l0 := (List.getElem?_eq_some_iff.1 hP).1
 have w1 := qAL P (by omega)
 have UC := fun (β : Type) (k : TVal → Heap → Option β) (h : Heap) (d : Nat) (hg : h.get (.im 0) = some (rdC T (P + 1) 0)) => qCQ (k := k) (d := d) 93 hc ⟨by decide, by decide, by decide, by decide⟩ (by omega) (.im 0) hg
 have hz : ∀ a b c d e f : Cell, put1 [.p (.int .i64 0), .p (.bool false), .p (.int .i64 0), .p (.str []), .p .nilslice, .p .nilslice] 0 [a, b, c, d, e, f] = [a, b, c, d, e, f] := fun _ _ _ _ _ _ => rfl
 rw [w128_0, b128_0]
 simp (maxSteps := 9999999) +contextual only [exa, ne_eq, not_false_eq_true, reduceAdd, reduceMul, reduceLT, reduceLeDiff, reduceEqDiff, Int.reduceLT, Int.reduceLE, Int.reduceEq, Int.reduceToNat, exW, w1, hz]
 refine (UC _ _ _ _ (by simp only [exa, ne_eq, not_false_eq_true, reduceAdd, reduceMul, reduceLT, reduceLeDiff, reduceEqDiff, Int.reduceLT, Int.reduceLE, Int.reduceEq, Int.reduceToNat])).trans ?_
 rw [if_pos rfl]
 simp (maxSteps := 9999999) +contextual only [exa, ne_eq, not_false_eq_true, reduceAdd, reduceMul, reduceLT, reduceLeDiff, reduceEqDiff, Int.reduceLT, Int.reduceLE, Int.reduceEq, Int.reduceToNat, exW, decide_true, hz]
 rw [VT.row_eq]
 exact qCD (r := [.int .i64 4, .bool false, .int .i64 0, .str [], .nilslice, .nilslice]) rfl
theorem qKo (T : List UInt8) (D : Int) (P : Nat) (hT : T.length < 900000) (hP : T[P]? = some 123) (hc : T[P + 1]? = some 125) :
  Om 129 [kP (.im 0), kI D] [rdC T P 0] = some (kA (VT.mk 5 false 0 [] .nil .nil).row, [rdC T (P + 2) 0]) := by
 refine (qAE rfl).trans ?_
 show lim tab.get S 129 1 0 [kP (.im 0), kI D] ⟨[rdC T P 0], .nil⟩ = _
 have l0 := (List.getElem?_eq_some_iff.1 hP).1
 have w1 := qAL P (by omega)
 have UC := fun (β : Type) (k : TVal → Heap → Option β) (h : Heap) (d : Nat) (hg : h.get (.im 0) = some (rdC T (P + 1) 0)) => qCQ (k := k) (d := d) 125 hc ⟨by decide, by decide, by decide, by decide⟩ (by omega) (.im 0) hg
 have hz : ∀ a b c d e f : Cell, put1 [.p (.int .i64 0), .p (.bool false), .p (.int .i64 0), .p (.str []), .p .nilslice, .p .nilslice] 0 [a, b, c, d, e, f] = [a, b, c, d, e, f] := fun _ _ _ _ _ _ => rfl
 rw [w129_0, b129_0]
 simp (maxSteps := 9999999) +contextual only [exa, ne_eq, not_false_eq_true, reduceAdd, reduceMul, reduceLT, reduceLeDiff, reduceEqDiff, Int.reduceLT, Int.reduceLE, Int.reduceEq, Int.reduceToNat, exW, w1, hz]
 refine (UC _ _ _ _ (by simp only [exa, ne_eq, not_false_eq_true, reduceAdd, reduceMul, reduceLT, reduceLeDiff, reduceEqDiff, Int.reduceLT, Int.reduceLE, Int.reduceEq, Int.reduceToNat])).trans ?_
 rw [if_pos rfl]
 simp (maxSteps := 9999999) +contextual only [exa, ne_eq, not_false_eq_true, reduceAdd, reduceMul, reduceLT, reduceLeDiff, reduceEqDiff, Int.reduceLT, Int.reduceLE, Int.reduceEq, Int.reduceToNat, exW, decide_true, hz]
 rw [VT.row_eq]
 exact qCD (r := [.int .i64 5, .bool false, .int .i64 0, .str [], .nilslice, .nilslice]) rfl
end Go.Proofs.YtlkejchbcchecaaDoor.Ab
set_option maxHeartbeats 4000000
namespace Go.Proofs.YtlkejchbcchecaaDoor.Ab
open Go Go.AI
theorem qIL (T : List UInt8) (v : VT) (hT : T.length ≤ 20000) (hV : Om 66 [kP (.im 0), kI 1] [rdC T 0 0] = some (kA v.row, [rdC T T.length 0])) (hC : (chkV v 1 0).1 = 0) :
  Om 19 [kS T] [] = some (.tup [.agg (pcells v.row), .c (.p (.int .i64 0))], []) := by
 refine (qAE rfl).trans ?_
 show lim tab.get S 19 0 0 [kS T] h0 = _
 have m1 : ¬ (20000 : Int) < (T.length : Int) := by omega
 have m2 : ¬ (T.length : Int) < (T.length : Int) := by omega
 have C16 : CAL 16 [kA v.row] (kI 0) := fun {β k h d} => by
  have e := qJT v; rw [hC] at e; exact qAF 16 [kA v.row] _ (by simp only [exP]) e rfl
 have hz : ∀ v : VT, put1 [.p (.int .i64 0), .p (.bool false), .p (.int .i64 0), .p (.str []), .p .nilslice, .p .nilslice] 0 (pcells v.row) = pcells v.row := fun v => qBH _ (VT.row_len v)
 have UV := fun (β : Type) (k : TVal → Heap → Option β) (h : Heap) (dd : Nat) (r : Ref) (hg : h.get r = some (rdC T 0 0)) => qA2 (k := k) (d := dd) (ps := [kI 1]) rfl (by simp only [exP]) hV r hg
 have UB := fun (β : Type) (k : TVal → Heap → Option β) (h : Heap) (d : Nat) (r : Ref) (hg : h.get r = some (rdC T T.length 0)) => u67 (k := k) (d := d) (T := T) (P := T.length) (E := 0) (fun b' h' => by rw [List.getElem?_eq_none (by omega)] at h'; cases h') r hg
 rw [w19_0, b19_0]
 simp (maxSteps := 9999999) +contextual only [exa, ne_eq, not_false_eq_true, reduceAdd, reduceMul, reduceLT, reduceLeDiff, reduceEqDiff, Int.reduceLT, Int.reduceLE, Int.reduceEq, Int.reduceToNat, exW, m1, hz]
 refine (UV _ _ _ _ _ (by simp only [exa, ne_eq, not_false_eq_true, reduceAdd, reduceMul, reduceLT, reduceLeDiff, reduceEqDiff, Int.reduceLT, Int.reduceLE, Int.reduceEq, Int.reduceToNat]; rfl)).trans ?_
 simp (maxSteps := 9999999) +contextual only [exa, ne_eq, not_false_eq_true, reduceAdd, reduceMul, reduceLT, reduceLeDiff, reduceEqDiff, Int.reduceLT, Int.reduceLE, Int.reduceEq, Int.reduceToNat, exW, hz]
 refine (UB _ _ _ _ _ (by simp only [exa, ne_eq, not_false_eq_true, reduceAdd, reduceMul, reduceLT, reduceLeDiff, reduceEqDiff, Int.reduceLT, Int.reduceLE, Int.reduceEq, Int.reduceToNat])).trans ?_
 simp (maxSteps := 9999999) +contextual only [exa, ne_eq, not_false_eq_true, reduceAdd, reduceMul, reduceLT, reduceLeDiff, reduceEqDiff, Int.reduceLT, Int.reduceLE, Int.reduceEq, Int.reduceToNat, exW, m2]
 rw [w19_1, b19_1]
 simp (maxSteps := 9999999) +contextual only [exa, ne_eq, not_false_eq_true, reduceAdd, reduceMul, reduceLT, reduceLeDiff, reduceEqDiff, Int.reduceLT, Int.reduceLE, Int.reduceEq, Int.reduceToNat, exW, C16, hz]
 rw [w19_2, b19_2]
 simp (maxSteps := 9999999) +contextual only [exa, ne_eq, not_false_eq_true, reduceAdd, reduceMul, reduceLT, reduceLeDiff, reduceEqDiff, Int.reduceLT, Int.reduceLE, Int.reduceEq, Int.reduceToNat, exW, hz]
end Go.Proofs.YtlkejchbcchecaaDoor.Ab
set_option maxHeartbeats 4000000
namespace Go.Proofs.YtlkejchbcchecaaDoor.Ab
open Go Go.AI
abbrev F4 : TVal := .v (.c (.ptr (.own 4 1) 0))
abbrev F6 : TVal := .v (.c (.ptr (.own 6 1) 0))
abbrev F7 : TVal := .v (.c (.ptr (.own 7 1) 0))
structure FH (t : TT) (cl : Cell) (h : Heap) : Prop where
 a4 : h.get (.own 4 1) = some (.cells (pcells t.row) 0)
 a6 : h.get (.own 6 1) = some (.cells z6c 0)
 a7 : h.get (.own 7 1) = some (.cells [.p (.int .i64 4), .p (.bool false), .p (.int .i64 0), .p (.str []), .p .nilslice, cl] 0)
theorem qIr (m : TyM) (t kt : TT) (hk : t.kids.list[0]? = some kt) (l : Sl VT) (f : VT → VT) (hf : ∀ v ∈ l.list, Om 69 [fmV m, kA kt.row, kA v.row] [] = some (kA (f v).row, [])) (hl : l.len < 1000) :
  ∀ (i : Nat) (h : Heap) (cl : Cell) (vs : List VT), vs.length ≤ i → FH t cl h → Bears 6 cl (vs.map VT.row) ∧ GS [130] 6 cl (vs.map VT.row) h →
   ∃ h' cl', Bears 6 cl' ((vs ++ (l.list.drop i).map f).map VT.row) ∧ FH t cl' h' ∧ lim tab.get S 69 0 3 [fmV m, F4, F6, F7, .v (.c (.p (slP 6 VT.row l))), kI (l.len : Int), kI (i : Int)] h = lim tab.get S 69 0 4 [F6, F7] h' := by
 refine qAY l.len (fun i hi h cl vs hv H G => ?_) (fun i hi ih h cl vs hv H G => ?_)
 ·have h1 : ¬ (i : Int) < (l.len : Int) := by omega
  refine ⟨h, cl, by rw [qBq hi]; simpa using G.1, H, ?_⟩
  rw [w69_3, b69_3]
  simp (maxSteps := 9999999) +contextual only [exa, ne_eq, not_false_eq_true, reduceAdd, reduceMul, reduceLT, reduceLeDiff, reduceEqDiff, Int.reduceLT, Int.reduceLE, Int.reduceEq, Int.reduceToNat, h1]
 ·have h1 : (i : Int) < (l.len : Int) := by omega
  obtain ⟨x, hx, h2, hm⟩ := qAt hi
  have C := hf x hm
  have hz : ∀ v : VT, put1 [.p (.int .i64 0), .p (.bool false), .p (.int .i64 0), .p (.str []), .p .nilslice, .p .nilslice] 0 (pcells v.row) = pcells v.row := fun v => qBH _ (VT.row_len v)
  have C5 : ∀ {β : Type} {kt' : TVal → Heap → AI.Touch → Option β} {h : Heap} {d : Nat}, vtouch Om (.call (.k (.v (.c (.func 69 [])))) [.k (fmV m), .k (kA kt.row), .k (kA x.row)]) h d kt' = kt' (kA (f x).row) h noTouch := fun {β kt' h d} =>
   qFo 69 [fmV m, kA kt.row, kA x.row] _ (by simp only [exP]) C (by simp only [exP])
  have B2 : ∀ {β : Type} {O : Oracle} {h : Heap} {d : Nat} {kt : TVal → Heap → AI.Touch → Option β}, vtouch O (.bslice 6 1 z6c [(0, .k (.v (.agg (pcells (f x).row))))] false) h d kt = kt (kSl 6 true [(f x).row]) h noTouch := qCW 6 _ _ rfl (VT.row_len _)
  have G1 : GS [130] 6 cl (vs.map VT.row) ((h.own 14 (h.gen 14 + 1) (.cells z6c 0)).own 14 (h.gen 14 + 1) (.cells (pcells x.row) 0)) := (G.2.own _ _ (by decide)).own _ _ (by decide)
  obtain ⟨c1, h1', u1, G2, e1, T1, K1, I1, X1⟩ := qBj (d := 130) (by' := 88) (new := [(f x).row]) (b := .slice 6 true [(f x).row]) (.inr ⟨_, rfl⟩) G1 (by decide) (fun r hr => by simp at hr; rw [hr]; exact VT.row_len _) (by simp; omega) (by decide)
  have v7 := K1 7 1 _ (by decide) ((Heap.own_get_ne _ 14 _ _ 7 1 (by decide)).trans ((Heap.own_get_ne _ 14 _ _ 7 1 (by decide)).trans H.a7))
  have v6 := K1 6 1 _ (by decide) ((Heap.own_get_ne _ 14 _ _ 6 1 (by decide)).trans ((Heap.own_get_ne _ 14 _ _ 6 1 (by decide)).trans H.a6))
  have v4 := K1 4 1 _ (by decide) ((Heap.own_get_ne _ 14 _ _ 4 1 (by decide)).trans ((Heap.own_get_ne _ 14 _ _ 4 1 (by decide)).trans H.a4))
  have P2 : ∀ a b c d f g : Cell, put1 [a, b, c, d, f, g] 5 [c1] = [a, b, c, d, f, c1] := fun _ _ _ _ _ _ => rfl
  obtain ⟨ra, ea⟩ := X1 (.inl (by simp))
  obtain ⟨h', cl', q1, q2, q3⟩ := ih (h1'.own 7 1 (.cells [.p (.int .i64 4), .p (.bool false), .p (.int .i64 0), .p (.str []), .p .nilslice, c1] 0)) c1 (vs ++ [f x]) (by simp; omega)
   ⟨by simp only [exa, ne_eq, not_false_eq_true, reduceAdd, reduceMul, reduceLT, reduceLeDiff, reduceEqDiff, Int.reduceLT, Int.reduceLE, Int.reduceEq, Int.reduceToNat]; exact v4, by simp only [exa, ne_eq, not_false_eq_true, reduceAdd, reduceMul, reduceLT, reduceLeDiff, reduceEqDiff, Int.reduceLT, Int.reduceLE, Int.reduceEq, Int.reduceToNat]; exact v6, by simp only [exa, ne_eq, not_false_eq_true, reduceAdd, reduceMul, reduceLT, reduceLeDiff, reduceEqDiff, Int.reduceLT, Int.reduceLE, Int.reduceEq, Int.reduceToNat]⟩ ⟨.inr ⟨by simp, ra, by rw [ea]; simp⟩, by rw [List.map_append]; exact G2.own _ _ (by decide)⟩
  refine ⟨h', cl', by rw [h2]; simpa using q1, q2, Eq.trans ?_ q3⟩
  rw [w69_3, b69_3]
  simp (maxSteps := 9999999) +contextual only [exa, ne_eq, not_false_eq_true, reduceAdd, reduceMul, reduceLT, reduceLeDiff, reduceEqDiff, Int.reduceLT, Int.reduceLE, Int.reduceEq, Int.reduceToNat, exW, exY, h1, hx, H.a4, H.a6, H.a7, hz, hk, C5, B2, e1, v7, P2, qD7, qAL i (by omega)]
theorem qIT (m : TyM) (hm : m.length < 1000) (t kt : TT) (ht : fopen m t = t) (h4 : t.kind = 4) (hk : t.kids.list[0]? = some kt) (l : Sl VT) (f : VT → VT) (hf : ∀ v ∈ l.list, Om 69 [fmV m, kA kt.row, kA v.row] [] = some (kA (f v).row, [])) (hl : l.len < 1000) :
  Om 69 [fmV m, kA t.row, kA (VT.mk 4 false 0 [] .nil l).row] [] = some (kA (VT.mk 4 false 0 [] .nil (grown (l.list.map f))).row, []) := by
 refine (qAE rfl).trans ?_
 show lim tab.get S 69 0 0 [fmV m, kA t.row, kA (VT.mk 4 false 0 [] .nil l).row] h0 = _
 have U := fun (β : Type) (k : TVal → Heap → Option β) (h : Heap) (d : Nat) => qGv (k := k) (h := h) (d := d) m t (by omega)
 rw [ht] at U
 have z7 : ∀ a b c d f g : Cell, put1 z6c 0 [a, b, c, d, f, g] = [a, b, c, d, f, g] := fun _ _ _ _ _ _ => rfl
 have U132 := fun (β : Type) (k : TVal → Heap → Option β) (h : Heap) (d : Nat) => qAF (k := k) (h := h) (d := d) 132 [.v (.c (.p (slP 1 sRow (.nil : Sl (List UInt8)))))] _ (by simp only [exP]) (qJx .nil (by decide)) (by simp only [exP])
 have sn : slP 1 sRow (.nil : Sl (List UInt8)) = .nilslice := rfl
 have cn : cloneS (.nil : Sl (List UInt8)) = .nil := rfl
 rw [cn, sn] at U132
 rw [w69_0, b69_0]
 simp (maxSteps := 9999999) +contextual only [exa, ne_eq, not_false_eq_true, reduceAdd, reduceMul, reduceLT, reduceLeDiff, reduceEqDiff, Int.reduceLT, Int.reduceLE, Int.reduceEq, Int.reduceToNat, exW, U, h4]
 rw [w69_2, b69_2]
 have k1 : (VT.mk 4 false 0 [] .nil l).keys = .nil := rfl
 have k2 : (VT.mk 4 false 0 [] .nil l).kind = 4 := rfl
 have k3 : (VT.mk 4 false 0 [] .nil l).b = false := rfl
 have k4 : (VT.mk 4 false 0 [] .nil l).n = 0 := rfl
 have k5 : (VT.mk 4 false 0 [] .nil l).s = [] := rfl
 have k6 : (VT.mk 4 false 0 [] .nil l).l = l := rfl
 have P1 : ∀ a b c d f g : Cell, put1 [a, b, c, d, f, g] 4 [.p .nilslice] = [a, b, c, d, .p .nilslice, g] := fun _ _ _ _ _ _ => rfl
 simp (maxSteps := 9999999) +contextual only [exa, ne_eq, not_false_eq_true, reduceAdd, reduceMul, reduceLT, reduceLeDiff, reduceEqDiff, Int.reduceLT, Int.reduceLE, Int.reduceEq, Int.reduceToNat, exW, k1, sn, U132, k2, k3, k4, k5, k6, P1]
 generalize hh : Heap.own _ 7 1 _ = h1
 have H : FH t (.p .nilslice) h1 := by rw [← hh]; exact ⟨by simp only [exa, ne_eq, not_false_eq_true, reduceAdd, reduceMul, reduceLT, reduceLeDiff, reduceEqDiff, Int.reduceLT, Int.reduceLE, Int.reduceEq, Int.reduceToNat], by simp only [exa, ne_eq, not_false_eq_true, reduceAdd, reduceMul, reduceLT, reduceLeDiff, reduceEqDiff, Int.reduceLT, Int.reduceLE, Int.reduceEq, Int.reduceToNat], by simp only [exa, ne_eq, not_false_eq_true, reduceAdd, reduceMul, reduceLT, reduceLeDiff, reduceEqDiff, Int.reduceLT, Int.reduceLE, Int.reduceEq, Int.reduceToNat]⟩
 obtain ⟨h2, cl, e1, e2, e3⟩ := qIr m t kt hk l f hf hl 0 h1 (.p .nilslice) [] (by simp) H ⟨.inl ⟨rfl, rfl⟩, .inl ⟨rfl, rfl⟩⟩
 refine Eq.trans e3 ?_
 rw [List.nil_append, List.drop_zero] at e1
 rw [w69_4, b69_4]
 simp (maxSteps := 9999999) +contextual only [exa, ne_eq, not_false_eq_true, reduceAdd, reduceMul, reduceLT, reduceLeDiff, reduceEqDiff, Int.reduceLT, Int.reduceLE, Int.reduceEq, Int.reduceToNat, exW, e2.a6, e2.a7, z7]
 rw [qFO _ (by show ([Cell.p (.int .i64 4), .p (.bool false), .p (.int .i64 0), .p (.str []), .p .nilslice, cl].all isPT && true) = true; simp only [List.all_cons, List.all_nil, e1.pt]; rfl)]
 show some (TVal.v (.agg [.p (.int .i64 4), .p (.bool false), .p (.int .i64 0), .p (.str []), .p .nilslice, cl.strip]), _) = _
 rw [e1.strip, qB4, VT.row_eq]
 rfl
end Go.Proofs.YtlkejchbcchecaaDoor.Ab
set_option maxHeartbeats 4000000
namespace Go.Proofs.YtlkejchbcchecaaDoor.Ab
open Go Go.AI
abbrev fT1 : TT := .mk 2 [] .nil .nil
abbrev fTd : TT := .mk 7 [] (.mk false [[100]]) (.mk false [.mk 6 [] .nil (.mk true [.mk 1 [] .nil .nil])])
abbrev fTe : TT := .mk 7 [] (.mk false [[97], [98], [99]]) (.mk false [.mk 6 [] .nil (.mk true [fT1]), fT1, .mk 6 [] .nil (.mk true [.mk 5 [] .nil (.mk true [fTd])])])
abbrev fTL : TT := .mk 4 [] .nil (.mk true [fTe])
abbrev vI (n : Int) : VT := .mk 2 false n [] .nil .nil
abbrev vR (l : List (UInt8 × VT)) : VT := .mk 5 false 0 [] (grown (kk1 l)) (grown (vv1 l))
def eC : VT := vR [(107, .mk 5 false 0 [] .nil .nil)]
def elV : Nat → VT
 | 0 => vR [(98, vI 1)]
 | 1 => vR [(97, vI 5), (98, vI 1)]
 | 2 => vR [(98, vI 1), (99, eC)]
 | _ => vR [(97, vI 5), (98, vI 1), (99, eC)]
def eX : VT := .mk 5 false 0 [] (.mk false [[107]]) (.mk false [vR [(100, .nul)]])
def elX : Nat → VT
 | 0 => vR [(97, .nul), (98, vI 1), (99, .nul)]
 | 1 => vR [(97, vI 5), (98, vI 1), (99, .nul)]
 | 2 => vR [(97, .nul), (98, vI 1), (99, eX)]
 | _ => vR [(97, vI 5), (98, vI 1), (99, eX)]
theorem qNV : Om 69 [fmV [], kA fTe.row, kA (elV 0).row] [] = some (kA (elX 0).row, []) := (qAE rfl).trans (qAO blks_ok 1000 69 0 0 _ _ _ (by kernel_rfl))
theorem qNU : Om 69 [fmV [], kA fTe.row, kA (elV 1).row] [] = some (kA (elX 1).row, []) := (qAE rfl).trans (qAO blks_ok 1000 69 0 0 _ _ _ (by kernel_rfl))
theorem qNc : Om 69 [fmV [], kA fTe.row, kA (elV 2).row] [] = some (kA (elX 2).row, []) := (qAE rfl).trans (qAO blks_ok 1000 69 0 0 _ _ _ (by kernel_rfl))
theorem qNE : Om 69 [fmV [], kA fTe.row, kA (elV 3).row] [] = some (kA (elX 3).row, []) := (qAE rfl).trans (qAO blks_ok 1000 69 0 0 _ _ _ (by kernel_rfl))
end Go.Proofs.YtlkejchbcchecaaDoor.Ab
set_option maxHeartbeats 4000000
namespace Go.Proofs.YtlkejchbcchecaaDoor.Ab
open Go Go.AI
theorem qLn : Om 13 [] [] = some (kB true, []) := (qAE rfl).trans (qAO blks_ok 500 13 0 0 _ _ _ (by kernel_rfl))
def fS : ST := ⟨fTL, .nil, .nil⟩
theorem qKG : Om 18 [kS zf6113985] [] = some (.tup [.agg (pcells fS.row), .c (.p (.int .i64 0))], []) := (qAE rfl).trans (qAO blks_ok 3000 18 0 0 _ _ _ (by kernel_rfl))
abbrev tA : List UInt8 := [34, 97, 34, 58, 53, 44]
abbrev tB : List UInt8 := [34, 98, 34, 58, 49]
abbrev tC : List UInt8 := [44, 34, 99, 34, 58, 123, 34, 107, 34, 58, 123, 125, 125]
abbrev tA' : List UInt8 := [34, 97, 34, 58, 110, 117, 108, 108, 44]
abbrev tC' : List UInt8 := [44, 34, 99, 34, 58, 123, 34, 107, 34, 58, 123, 34, 100, 34, 58, 110, 117, 108, 108, 125, 125]
abbrev tN' : List UInt8 := [44, 34, 99, 34, 58, 110, 117, 108, 108]
def elT : Nat → List UInt8
 | 0 => [123] ++ tB ++ [125]
 | 1 => [123] ++ tA ++ tB ++ [125]
 | 2 => [123] ++ tB ++ tC ++ [125]
 | _ => [123] ++ tA ++ tB ++ tC ++ [125]
def elO : Nat → List UInt8
 | 0 => [123] ++ tA' ++ tB ++ tN' ++ [125]
 | 1 => [123] ++ tA ++ tB ++ tN' ++ [125]
 | 2 => [123] ++ tA' ++ tB ++ tC' ++ [125]
 | _ => [123] ++ tA ++ tB ++ tC' ++ [125]
theorem qNG : Om 21 [kA (elX 0).row] [] = some (kS (elO 0), []) := (qAE rfl).trans (qAO blks_ok 1000 21 0 0 _ _ _ (by kernel_rfl))
theorem qNY : Om 21 [kA (elX 1).row] [] = some (kS (elO 1), []) := (qAE rfl).trans (qAO blks_ok 1000 21 0 0 _ _ _ (by kernel_rfl))
theorem qNS : Om 21 [kA (elX 2).row] [] = some (kS (elO 2), []) := (qAE rfl).trans (qAO blks_ok 1000 21 0 0 _ _ _ (by kernel_rfl))
theorem qNQ : Om 21 [kA (elX 3).row] [] = some (kS (elO 3), []) := (qAE rfl).trans (qAO blks_ok 1000 21 0 0 _ _ _ (by kernel_rfl))
end Go.Proofs.YtlkejchbcchecaaDoor.Ab
set_option maxHeartbeats 4000000
namespace Go.Proofs.YtlkejchbcchecaaDoor.Ab
open Go Go.AI
theorem qEh {T A X B : List UInt8} (e : T = A ++ X ++ B) : ∀ i x, X[i]? = some x → T[A.length + i]? = some x := by
 intro i x h
 have hi := (List.getElem?_eq_some_iff.1 h).1
 rw [e, List.append_assoc, List.getElem?_append_right (by omega), List.getElem?_append_left (by omega), ← h]
 congr 1; omega
theorem qGe {T A X : List UInt8} {b : UInt8} {B : List UInt8} (e : T = A ++ X ++ b :: B) : T[A.length + X.length]? = some b := by
 rw [e, List.getElem?_append_right (by simp)]
 simp
abbrev ReadsAt (T : List UInt8) (d : Int) (P : Nat) (v : VT) (P' : Nat) : Prop := Om 66 [kP (.im 0), kI d] [rdC T P 0] = some (kA v.row, [rdC T P' 0])
theorem qMK (T : List UInt8) (P : Nat) (hT : T.length < 900000) (g : ∀ i x, ([123, 34, 107, 34, 58, 123, 125, 125] : List UInt8)[i]? = some x → T[P + i]? = some x) : ReadsAt T 3 P eC (P + 8) := by
 have L : T.length < 1000000 := by omega
 exact qBk T P (P + 8) 3 eC (g 0 _ rfl) (qCH T 3 P (P + 7) [(107, .mk 5 false 0 [] .nil .nil)] hT (by decide) (g 0 _ rfl)
  (.one ⟨g 1 _ rfl, g 2 _ rfl, g 3 _ rfl, g 4 _ rfl, by decide, qBk T (P + 5) (P + 7) 4 _ (g 5 _ rfl) (qKo T 4 (P + 5) hT (g 5 _ rfl) (g 6 _ rfl)) L (by decide)⟩ (g 7 _ rfl)) (by decide) (by simp)) L (by decide)
theorem qEi (T : List UInt8) (P : Nat) (b : UInt8) (hT : T.length < 900000) (hb : isDigit b.toNat = false) (g : ∀ i x, (tB ++ [b])[i]? = some x → T[P + i]? = some x) : Ent T 2 P 98 (vI 1) (P + 5) :=
 ⟨g 0 _ rfl, g 1 _ rfl, g 2 _ rfl, g 3 _ rfl, by decide, qGY T (P + 4) 49 b 1 3 (g 4 _ rfl) (g 5 _ rfl) (by decide) (by decide) hb dig1 (by omega) (by decide)⟩
theorem qK6 (T : List UInt8) (P : Nat) (hT : T.length < 900000) (g : ∀ i x, tA[i]? = some x → T[P + i]? = some x) : Ent T 2 P 97 (vI 5) (P + 5) :=
 ⟨g 0 _ rfl, g 1 _ rfl, g 2 _ rfl, g 3 _ rfl, by decide, qGY T (P + 4) 53 44 5 3 (g 4 _ rfl) (g 5 _ rfl) (by decide) (by decide) (by decide) dig5 (by omega) (by decide)⟩
theorem qK3 (T : List UInt8) (P : Nat) (hT : T.length < 900000) (g : ∀ i x, tC[i]? = some x → T[P + i]? = some x) : Ent T 2 (P + 1) 99 eC (P + 13) :=
 ⟨g 1 _ rfl, g 2 _ rfl, g 3 _ rfl, g 4 _ rfl, by decide, qMK T (P + 5) hT fun i x h => by
  have := g (i + 5) x (by show (([44, 34, 99, 34, 58] : List UInt8) ++ [123, 34, 107, 34, 58, 123, 125, 125])[i + 5]? = _; rw [List.getElem?_append_right (by simp)]; simpa using h)
  rw [show P + 5 + i = P + (i + 5) by omega]; exact this⟩
theorem qBX {T X Y Z : List UInt8} {P : Nat} (g : ∀ i x, (X ++ Y ++ Z)[i]? = some x → T[P + i]? = some x) : ∀ i x, Y[i]? = some x → T[P + X.length + i]? = some x := by
 intro i x h
 have := g (X.length + i) x (qEh rfl i x h)
 rw [Nat.add_assoc]; exact this
theorem qGG (k : Nat) (T : List UInt8) (P : Nat) (hT : T.length < 900000) (g : ∀ i x, (elT k)[i]? = some x → T[P + i]? = some x) : ReadsAt T 2 P (elV k) (P + (elT k).length) := by
 have L : T.length < 1000000 := by omega
 match k with
 | 0 =>
  have g1 := qBX (X := [123]) (Y := tB ++ [125]) (Z := []) g
  exact qBk T P (P + 7) 2 _ (g 0 _ rfl) (qCH T 2 P (P + 6) [(98, vI 1)] hT (by decide) (g 0 _ rfl) (.one (qEi T (P + 1) 125 hT (by decide) g1) (g 6 _ rfl)) (by decide) (by simp)) L (by decide)
 | 1 =>
  have g1 := qBX (X := [123]) (Y := tA) (Z := tB ++ [125]) g
  have g2 := qBX (X := [123] ++ tA) (Y := tB ++ [125]) (Z := []) g
  exact qBk T P (P + 13) 2 _ (g 0 _ rfl) (qCH T 2 P (P + 12) [(97, vI 5), (98, vI 1)] hT (by decide) (g 0 _ rfl) (.more (qK6 T (P + 1) hT g1) (g 6 _ rfl) (.one (qEi T (P + 7) 125 hT (by decide) g2) (g 12 _ rfl))) (by decide) (by decide)) L (by decide)
 | 2 =>
  have g1 := qBX (X := [123]) (Y := tB ++ [44]) (Z := [34, 99, 34, 58, 123, 34, 107, 34, 58, 123, 125, 125, 125]) g
  have g2 := qBX (X := [123] ++ tB) (Y := tC) (Z := [125]) g
  exact qBk T P (P + 20) 2 _ (g 0 _ rfl) (qCH T 2 P (P + 19) [(98, vI 1), (99, eC)] hT (by decide) (g 0 _ rfl) (.more (qEi T (P + 1) 44 hT (by decide) g1) (g 6 _ rfl) (.one (qK3 T (P + 6) hT g2) (g 19 _ rfl))) (by decide) (by decide)) L (by decide)
 | n + 3 =>
  have g1 := qBX (X := [123]) (Y := tA) (Z := tB ++ tC ++ [125]) g
  have g2 := qBX (X := [123] ++ tA) (Y := tB ++ [44]) (Z := [34, 99, 34, 58, 123, 34, 107, 34, 58, 123, 125, 125, 125]) g
  have g3 := qBX (X := [123] ++ tA ++ tB) (Y := tC) (Z := [125]) g
  exact qBk T P (P + 26) 2 _ (g 0 _ rfl) (qCH T 2 P (P + 25) [(97, vI 5), (98, vI 1), (99, eC)] hT (by decide) (g 0 _ rfl) (.more (qK6 T (P + 1) hT g1) (g 6 _ rfl) (.more (qEi T (P + 7) 44 hT (by decide) g2) (g 12 _ rfl) (.one (qK3 T (P + 12) hT g3) (g 25 _ rfl)))) (by decide) (by decide)) L (by decide)
def tailT (f : Nat → List UInt8) : List Nat → List UInt8
 | [] => []
 | k :: ks => 44 :: f k ++ tailT f ks
def bodyT (f : Nat → List UInt8) : List Nat → List UInt8
 | [] => []
 | k :: ks => f k ++ tailT f ks
theorem qGJ (T : List UInt8) (hT : T.length < 900000) : ∀ (ks : List Nat) (k : Nat) (A : List UInt8), T = A ++ (elT k ++ tailT elT ks) ++ [93] → Vals T 1 A.length ((k :: ks).map elV) (T.length - 1)
 | [], k, A, e => by
  have e1 : T = A ++ elT k ++ [93] := by rw [e]; simp [tailT]
  have e2 : T.length - 1 = A.length + (elT k).length := by rw [e1]; simp
  rw [e2]
  exact .one (qGG k T A.length hT (qEh e1)) (qGe e1)
 | k' :: ks, k, A, e => by
  have e1 : T = A ++ elT k ++ (44 :: (elT k' ++ tailT elT ks ++ [93])) := by rw [e]; simp [tailT]
  have e3 : T = (A ++ elT k ++ [44]) ++ (elT k' ++ tailT elT ks) ++ [93] := by rw [e1]; simp
  have IH := qGJ T hT ks k' (A ++ elT k ++ [44]) e3
  have e2 : (A ++ elT k ++ [44]).length = A.length + (elT k).length + 1 := by simp; omega
  rw [e2] at IH
  exact .more (qGG k T A.length hT (qEh e1)) (qGe e1) IH
theorem qM9 : ∀ k, (elT k)[0]? = some 123
 | 0 => rfl
 | 1 => rfl
 | 2 => rfl
 | _ + 3 => rfl
theorem qIz (ks : List Nat) (T : List UInt8) (e : T = [91] ++ bodyT elT ks ++ [93]) (hT : T.length < 900000) (hk : ks.length < 1000) : ReadsAt T 1 0 (VT.mk 4 false 0 [] .nil (grown (ks.map elV))) T.length := by
 have L : T.length < 1000000 := by omega
 match ks, hk, e with
 | [], _, e =>
  have e2 : T.length = 0 + 2 := by rw [e]; rfl
  rw [e2]
  exact qFN T 0 (0 + 2) 1 _ (by rw [e]; rfl) (qJJ T 1 0 hT (by rw [e]; rfl) (by rw [e]; rfl)) L (by decide)
 | k :: ks, hk, e =>
  have v := qGJ T hT ks k [91] e
  have e3 : T.length = 1 + (bodyT elT (k :: ks)).length + 1 := by rw [e]; simp; omega
  have e2 : T.length = T.length - 1 + 1 := by omega
  have h0 : T[0]? = some 91 := by rw [e]; rfl
  have h1 : T[0 + 1]? = some 123 := qEh (A := [91]) (X := elT k) (B := tailT elT ks ++ [93]) (by rw [e]; simp [bodyT]) 0 123 (qM9 k)
  have R := qJj T 1 0 (T.length - 1) ((k :: ks).map elV) 123 hT (by decide) h0 h1 ⟨by decide, by decide, by decide, by decide⟩ (by decide) v (by simpa using hk)
  rw [← e2] at R
  exact qFN T 0 T.length 1 _ h0 R L (by decide)
end Go.Proofs.YtlkejchbcchecaaDoor.Ab
set_option maxHeartbeats 4000000
namespace Go.Proofs.YtlkejchbcchecaaDoor.Ab
open Go Go.AI
def stepB (v : VT) (d : Nat) : Bool := cleanM v && decide (d ≤ 12) && decide (v.l.len ≤ 40) && decide (v.s.length ≤ 200) && !longB v.keys.list && ordB v.keys.list
theorem qAw (v : VT) (d c : Nat) (hc : c + 1 ≤ 2000) (h : stepB v d = true) : chkV v d c = chkL v.l.list (d + 1) (c + 1) := by
 unfold stepB at h
 simp only [Bool.and_eq_true, decide_eq_true_eq, Bool.not_eq_true'] at h
 obtain ⟨⟨⟨⟨⟨h1, h2⟩, h3⟩, h4⟩, h5⟩, h6⟩ := h
 rw [qD8, if_neg (by omega), if_neg (by rw [h1]; decide), if_neg (by omega), if_neg (by omega), if_neg (by omega), if_neg (by rw [h5]; decide), if_neg (by rw [h6]; decide)]
theorem qAT {v : VT} {vs : List VT} {d c c' : Nat} (h : chkV v d c = (0, c')) : chkL (v :: vs) d c = chkL vs d c' := by rw [chkL, h]; rfl
theorem qAy (d c : Nat) : chkL [] d c = (0, c) := by rw [chkL]
theorem qCw (n : Int) (d c : Nat) (hc : c + 1 ≤ 2000) (hd : d ≤ 12) : chkV (vI n) d c = (0, c + 1) := by
 rw [qAw _ _ _ hc (by simp [stepB, cleanM, VT.kind, VT.b, VT.n, VT.s, VT.keys, VT.l, Sl.len, Sl.list, longB, ordB, hd])]
 exact qAy _ _
theorem qK2 (c : Nat) (hc : c ≤ 1900) : chkV eC 3 c = (0, c + 1 + 1) := by
 rw [qAw _ _ _ (by omega) (by decide)]
 show chkL [.mk 5 false 0 [] .nil .nil] 4 (c + 1) = _
 rw [qAT (c' := c + 1 + 1) (by rw [qAw _ _ _ (by omega) (by decide)]; exact qAy _ _)]
 exact qAy _ _
theorem qMV (k c : Nat) (hc : c ≤ 1000) : ∃ n, n ≤ 10 ∧ chkV (elV k) 2 c = (0, c + n) := by
 match k with
 | 0 =>
  refine ⟨2, by decide, ?_⟩
  rw [qAw _ _ _ (by omega) (by decide)]
  show chkL [vI 1] 3 (c + 1) = _
  rw [qAT (qCw 1 3 _ (by omega) (by decide)), qAy]
 | 1 =>
  refine ⟨3, by decide, ?_⟩
  rw [qAw _ _ _ (by omega) (by decide)]
  show chkL [vI 5, vI 1] 3 (c + 1) = _
  rw [qAT (qCw 5 3 _ (by omega) (by decide)), qAT (qCw 1 3 _ (by omega) (by decide)), qAy]
 | 2 =>
  refine ⟨4, by decide, ?_⟩
  rw [qAw _ _ _ (by omega) (by decide)]
  show chkL [vI 1, eC] 3 (c + 1) = _
  rw [qAT (qCw 1 3 _ (by omega) (by decide)), qAT (qK2 _ (by omega)), qAy]
 | _ + 3 =>
  refine ⟨5, by decide, ?_⟩
  rw [qAw _ _ _ (by omega) (by rfl)]
  show chkL [vI 5, vI 1, eC] 3 (c + 1) = _
  rw [qAT (qCw 5 3 _ (by omega) (by decide)), qAT (qCw 1 3 _ (by omega) (by decide)), qAT (qK2 _ (by omega)), qAy]
theorem qGc : ∀ (ks : List Nat) (c : Nat), c + 10 * ks.length ≤ 1000 → (chkL (ks.map elV) 2 c).1 = 0
 | [], c, _ => by rw [List.map_nil, qAy]
 | k :: ks, c, h => by
  rw [List.length_cons] at h
  obtain ⟨n, hn, e⟩ := qMV k c (by omega)
  rw [List.map_cons, qAT e]
  exact qGc ks (c + n) (by omega)
abbrev lsV (ks : List Nat) : VT := .mk 4 false 0 [] .nil (grown (ks.map elV))
theorem qMr (ks : List Nat) (h : ks.length ≤ 10) : (chkV (lsV ks) 1 0).1 = 0 := by
 have hl : (grown (ks.map elV)).len ≤ 40 := by rw [qBv, List.length_map]; omega
 rw [qAw _ _ _ (by omega) (by
  have h1 : cleanM (lsV ks) = true := by simp [cleanM, VT.kind, VT.b, VT.n, VT.s, VT.keys, Sl.len, Sl.list]
  unfold stepB
  rw [h1]
  simp [VT.l, VT.s, VT.keys, Sl.list, longB, ordB]; exact decide_eq_true hl)]
 show (chkL (grown (ks.map elV)).list 2 1).1 = 0
 rw [qBK]
 exact qGc ks 1 (by omega)
theorem qMg (k : Nat) : fitF [] 20 fTe (elV k) = some ([], true) := by
 match k with
 | 0 => show fitF [] 20 fTe (elV 0) = some ([], true); rfl
 | 1 => show fitF [] 20 fTe (elV 1) = some ([], true); rfl
 | 2 => show fitF [] 20 fTe (elV 2) = some ([], true); rfl
 | _ + 3 => show fitF [] 20 fTe (elV 3) = some ([], true); rfl
theorem qGV : ∀ (ks : List Nat) (i : Nat), eachL (fitF [] 20) placeL fTe (ks.map elV) i = some ([], true)
 | [], _ => rfl
 | k :: ks, i => by
  rw [List.map_cons, eachL, qMg k]
  exact qGV ks (i + 1)
theorem qM3 (ks : List Nat) (h : ks.length ≤ 10) : fitF [] 21 fTL (lsV ks) = some ([], true) := by
 have hl : (grown (ks.map elV)).len ≤ 40 := by rw [qBv, List.length_map]; omega
 have hb : bigB (fopen [] fTL) (lsV ks) = false := by
  show (decide (4611686018427387904 ≤ (Sl.nil : Sl (List UInt8)).len) || decide (4611686018427387904 ≤ (Sl.mk true [fTe]).len) || decide (4611686018427387904 ≤ (Sl.nil : Sl (List UInt8)).len) || decide (4611686018427387904 ≤ (grown (ks.map elV)).len)) = false
  rw [decide_eq_false (show ¬ 4611686018427387904 ≤ (grown (ks.map elV)).len by omega)]
  rfl
 unfold fitF
 rw [hb]
 show eachF (fitF [] 20) placeL fTL (lsV ks) 4 = _
 unfold eachF
 show eachL (fitF [] 20) placeL fTe (grown (ks.map elV)).list 0 = _
 rw [qBK]
 exact qGV ks 0
theorem qLO (ks : List Nat) (h : ks.length ≤ 10) : Om 58 [fmV [], kA fTL.row, kA (lsV ks).row] [] = some (fitV' ([], true), []) := qMt [] (by decide) 21 _ _ _ (qM3 ks h)
theorem qLv : ∀ k : Nat, Om 69 [fmV [], kA fTe.row, kA (elV k).row] [] = some (kA (elX k).row, [])
 | 0 => qNV
 | 1 => qNU
 | 2 => qNc
 | _ + 3 => qNE
def fX (v : VT) : VT := if v.keys.list = [[98]] then elX 0 else if v.keys.list = [[97], [98]] then elX 1 else if v.keys.list = [[98], [99]] then elX 2 else elX 3
theorem qK7 : ∀ k : Nat, fX (elV k) = elX k
 | 0 => rfl
 | 1 => rfl
 | 2 => rfl
 | _ + 3 => rfl
theorem qNC (ks : List Nat) : (ks.map elV).map fX = ks.map elX := by
 rw [List.map_map]; exact List.map_congr_left fun k _ => qK7 k
abbrev lsX (ks : List Nat) : VT := .mk 4 false 0 [] .nil (grown (ks.map elX))
theorem qLV (ks : List Nat) (h : ks.length ≤ 10) : Om 69 [fmV [], kA fTL.row, kA (lsV ks).row] [] = some (kA (lsX ks).row, []) := by
 have e := qIT [] (by decide) fTL fTe rfl rfl rfl (grown (ks.map elV)) fX (fun v hv => by
  rw [qBK] at hv
  obtain ⟨k, _, rfl⟩ := List.mem_map.1 hv
  rw [qK7]; exact qLv k) (by rw [qBv, List.length_map]; omega)
 rw [qBK, qNC] at e
 exact e
theorem qMD (ks : List Nat) (hk : ks.length ≤ 10) : Om 20 [kA fS.row, kA fTL.row, kA (lsV ks).row] [] = some (.tup [.agg (pcells (lsX ks).row), .c (.p (.int .i64 0))], []) := by
 refine (qAE rfl).trans ?_
 show lim tab.get S 20 0 0 [kA fS.row, kA fTL.row, kA (lsV ks).row] h0 = _
 have U57 : ∀ (β : Type) (k : TVal → Heap → Option β) (h : Heap) (d : Nat), vcall Om (.v (.c (.func 57 []))) [kA fS.row] h d k = k (fmV []) h := fun β k h d => qAF 57 [kA fS.row] _ (by simp only [exP]) (qL2 fS (by decide) (fun i j a b _ ha _ => by cases i <;> cases ha)) rfl
 have U58 : ∀ (β : Type) (k : TVal → Heap → Option β) (h : Heap) (d : Nat), vcall Om (.v (.c (.func 58 []))) [fmV [], kA fTL.row, kA (lsV ks).row] h d k = k (fitV' ([], true)) h := fun β k h d => qAF 58 _ _ (by simp only [exP]) (qLO ks (by omega)) (by simp only [exP])
 have U69 : ∀ (β : Type) (k : TVal → Heap → Option β) (h : Heap) (d : Nat), vcall Om (.v (.c (.func 69 []))) [fmV [], kA fTL.row, kA (lsV ks).row] h d k = k (kA (lsX ks).row) h := fun β k h d => qAF 69 _ _ (by simp only [exP]) (qLV ks hk) (by simp only [exP])
 have hz : ∀ v : VT, put1 [.p (.int .i64 0), .p (.bool false), .p (.int .i64 0), .p (.str []), .p .nilslice, .p .nilslice] 0 (pcells v.row) = pcells v.row := fun v => qBH _ (VT.row_len v)
 rw [w20_0, b20_0]
 generalize hv : lsV ks = v at U58 U69
 generalize hx : lsX ks = x at U69
 generalize ht : fTL = t at U58 U69
 generalize hs : fS = s at U57
 simp (maxSteps := 9999999) +contextual only [exa, ne_eq, not_false_eq_true, reduceAdd, reduceMul, reduceLT, reduceLeDiff, reduceEqDiff, Int.reduceLT, Int.reduceLE, Int.reduceEq, Int.reduceToNat, exW, U57, U58, U69, hz]
end Go.Proofs.YtlkejchbcchecaaDoor.Ab
set_option maxHeartbeats 4000000
namespace Go.Proofs.YtlkejchbcchecaaDoor.Ab
open Go Go.AI
theorem qLZ : ∀ k : Nat, Om 21 [kA (elX k).row] [] = some (kS (elO k), [])
 | 0 => qNG
 | 1 => qNY
 | 2 => qNS
 | _ + 3 => qNQ
theorem qD4 (k : Nat) : (elO k).length ≤ 100 := by
 match k with
 | 0 => decide
 | 1 => decide
 | 2 => decide
 | _ + 3 => show (elO 3).length ≤ 100; decide
theorem qG0 (ks : List Nat) (hk : ks.length ≤ 10) :
  ∀ (i : Nat) (acc : List UInt8) (h : Heap), acc.length + 200 * (ks.length - i) ≤ 4000 → h.get (.own 1 1) = some (.cells (pcells (lsX ks).row) 0) →
   lim tab.get S 21 0 1 [pO 1 1, kS acc, kI (i : Int)] h = some (kS (acc ++ (if i = 0 then bodyT elO (ks.drop i) else tailT elO (ks.drop i)) ++ [93]), []) := by
 have L5 : (lsX ks).l = grown (ks.map elX) := rfl
 have hlen : (grown (ks.map elX)).len = ks.length := by rw [qBv, List.length_map]
 refine qAY ks.length (fun i hi acc h ha hg => ?_) (fun i hi ih acc h ha hg => ?_)
 ·have h1 : ¬ (i : Int) < (ks.length : Int) := by omega
  have he : ks.drop i = [] := List.drop_eq_nil_of_le (by omega)
  rw [w21_1, b21_1, he]
  have hif : (if i = 0 then bodyT elO [] else tailT elO []) = [] := by split <;> rfl
  rw [hif]
  simp (maxSteps := 9999999) +contextual only [exa, ne_eq, not_false_eq_true, reduceAdd, reduceMul, reduceLT, reduceLeDiff, reduceEqDiff, Int.reduceLT, Int.reduceLE, Int.reduceEq, Int.reduceToNat, exW, hg, L5, hlen, h1]
  rw [w21_3, b21_3]
  have c1 : decide (acc.length ≤ 4611686018427387903) = true := decide_eq_true (by omega)
  simp (maxSteps := 9999999) +contextual only [exa, ne_eq, not_false_eq_true, reduceAdd, reduceMul, reduceLT, reduceLeDiff, reduceEqDiff, Int.reduceLT, Int.reduceLE, Int.reduceEq, Int.reduceToNat, exW, c1, oneOf, List.append_nil]
 ·have h1 : (i : Int) < (ks.length : Int) := by omega
  obtain ⟨k, hx⟩ : ∃ k, ks[i]? = some k := ⟨ks[i], List.getElem?_eq_getElem hi⟩
  have hd : ks.drop i = k :: ks.drop (i + 1) := by rw [List.drop_eq_getElem_cons hi]; rw [List.getElem?_eq_getElem hi] at hx; cases hx; rfl
  have hr : (grown (ks.map elX)).list[i]? = some (elX k) := by rw [qBK, List.getElem?_map, hx]; rfl
  have C := fun (β : Type) (k' : TVal → Heap → Option β) (h : Heap) (d : Nat) => qAF (k := k') (h := h) (d := d) 21 [kA (elX k).row] _ (by simp only [exP]) (qLZ k) rfl
  have lo := qD4 k
  rw [w21_1, b21_1, hd]
  by_cases h0 : i = 0
  ·subst h0
   have c2 : decide (acc.length + (elO k).length ≤ 4611686018427387904) = true := decide_eq_true (by omega)
   have IH := ih (acc ++ elO k) h (by simp; omega) hg
   have hz0 : ¬ (0 : Int) < ((0 : Nat) : Int) := by decide
   have w0 := qAL 0 (by decide)
   simp (maxSteps := 9999999) +contextual only [exa, ne_eq, not_false_eq_true, reduceAdd, reduceMul, reduceLT, reduceLeDiff, reduceEqDiff, Int.reduceLT, Int.reduceLE, Int.reduceEq, Int.reduceToNat, exW, hg, L5, hlen, h1, hz0]
   rw [w21_2, b21_2]
   simp (maxSteps := 9999999) +contextual only [exa, ne_eq, not_false_eq_true, reduceAdd, reduceMul, reduceLT, reduceLeDiff, reduceEqDiff, Int.reduceLT, Int.reduceLE, Int.reduceEq, Int.reduceToNat, exW, hg, L5, hr, C, c2, w0, Int.toNat_natCast]
   refine Eq.trans IH ?_
   rw [if_neg (by omega), if_pos trivial]
   simp [bodyT]
  ·have hp : (0 : Int) < (i : Int) := by omega
   have c1 : decide (acc.length ≤ 4611686018427387903) = true := decide_eq_true (by omega)
   have c2 : decide ((acc ++ [44]).length + (elO k).length ≤ 4611686018427387904) = true := decide_eq_true (by simp; omega)
   have IH := ih (acc ++ [44] ++ elO k) h (by simp; omega) hg
   simp (maxSteps := 9999999) +contextual only [exa, ne_eq, not_false_eq_true, reduceAdd, reduceMul, reduceLT, reduceLeDiff, reduceEqDiff, Int.reduceLT, Int.reduceLE, Int.reduceEq, Int.reduceToNat, exW, hg, L5, hlen, h1, hp, c1]
   rw [w21_2, b21_2]
   simp (maxSteps := 9999999) +contextual only [exa, ne_eq, not_false_eq_true, reduceAdd, reduceMul, reduceLT, reduceLeDiff, reduceEqDiff, Int.reduceLT, Int.reduceLE, Int.reduceEq, Int.reduceToNat, exW, hg, L5, hr, C, c2, qAL i (by omega)]
   refine Eq.trans IH ?_
   rw [if_neg (by omega), if_neg h0]
   simp [tailT]
theorem qMP (ks : List Nat) (hk : ks.length ≤ 10) : Om 21 [kA (lsX ks).row] [] = some (kS ([91] ++ bodyT elO ks ++ [93]), []) := by
 refine (qAE rfl).trans ?_
 show lim tab.get S 21 0 0 [kA (lsX ks).row] h0 = _
 have k4 : (lsX ks).kind = 4 := rfl
 have L := qG0 ks hk 0 [91] (h0.own 1 1 (.cells (pcells (lsX ks).row) 0)) (by simp; omega) (by simp only [exa, ne_eq, not_false_eq_true, reduceAdd, reduceMul, reduceLT, reduceLeDiff, reduceEqDiff, Int.reduceLT, Int.reduceLE, Int.reduceEq, Int.reduceToNat])
 rw [if_pos rfl, List.drop_zero] at L
 generalize lsX ks = x at k4 L
 rw [w21_0, b21_0]
 simp (maxSteps := 9999999) +contextual only [exa, ne_eq, not_false_eq_true, reduceAdd, reduceMul, reduceLT, reduceLeDiff, reduceEqDiff, Int.reduceLT, Int.reduceLE, Int.reduceEq, Int.reduceToNat, exW, k4]
 exact L
end Go.Proofs.YtlkejchbcchecaaDoor.Ab
set_option maxHeartbeats 4000000
namespace Go.Proofs.YtlkejchbcchecaaDoor.Ab
open Go Go.AI
theorem qIk (a n : Int) (hn : 0 < n) (hs : n < 1000000) : Om 14 [kI a, kI n] [] = some (kI (withinM a n), []) := by
 refine (qAE rfl).trans ?_
 show lim tab.get S 14 0 0 [kI a, kI n] h0 = _
 have hb := qDj a n hn
 rw [w14_0, b14_0]
 unfold withinM at hb ⊢
 by_cases h : a.tmod n < 0
 ·rw [if_pos h] at hb ⊢
  have hw : IntKind.i64.wrap (a.tmod n + n) = a.tmod n + n := qBR _ (by omega) (by omega)
  simp (maxSteps := 9999999) +contextual only [exa, ne_eq, not_false_eq_true, reduceAdd, reduceMul, reduceLT, reduceLeDiff, reduceEqDiff, Int.reduceLT, Int.reduceLE, Int.reduceEq, Int.reduceToNat, qDM 0 .i64 a n (by omega), h, hw, oneOf]
 ·rw [if_neg h]
  simp (maxSteps := 9999999) +contextual only [exa, ne_eq, not_false_eq_true, reduceAdd, reduceMul, reduceLT, reduceLeDiff, reduceEqDiff, Int.reduceLT, Int.reduceLE, Int.reduceEq, Int.reduceToNat, qDM 0 .i64 a n (by omega), h, oneOf]
theorem qBt {β : Type} {h : Heap} {k : TVal → Heap → Option β} (a b : List UInt8) (hl : a.length + b.length ≤ 4611686018427387904) : vbin .add 0 (kS a) (kS b) h k = k (kS (a ++ b)) h := by
 simp (config := { maxSteps := 10000000 }) only [exa, ne_eq, not_false_eq_true, reduceAdd, reduceMul, reduceLT, reduceLeDiff, reduceEqDiff, Int.reduceLT, Int.reduceLE, Int.reduceEq, Int.reduceToNat, decide_eq_true hl]
def fargI (o : Option (List Int)) : Sl Int := match o with
 | none => .nil
 | some l => .mk false l
theorem qJf (o : Option (List Int)) : intsP .i64 o = slP 1 iRow (fargI o) := by cases o <;> rfl
def kapF (w : Int) : Nat := (withinM w 8).toNat % 4
abbrev FS4 (s : Sl Int) : TVal := .v (.c (.p (slP 1 iRow s)))
theorem qHr (s : Sl Int) (i : Nat) (hi : i < 10) (w : Int) (hw : s.list[i]? = some w) (x3 x4 : TVal) (a b : List UInt8) (ha : a.length ≤ 100000) (hb : b.length ≤ 100000) (h : Heap) :
  lim tab.get S 4 0 2 [FS4 s, x3, x4, kS a, kS b, kI (i : Int)] h = lim tab.get S 4 0 1 [FS4 s, x3, x4, kS (a ++ elT (kapF w)), kS (b ++ elO (kapF w)), kI ((i + 1 : Nat) : Int)] h := by
 have U14 := fun (β : Type) (k : TVal → Heap → Option β) (h : Heap) (d : Nat) => qAF (k := k) (h := h) (d := d) 14 [kI w, kI 8] _ rfl (qIk w 8 (by decide) (by decide)) rfl
 have hr := qDj w 8 (by decide)
 have last : ∀ (x9 x10 x11 x12 : List UInt8), x9.length ≤ 100 → x10.length ≤ 100 → x11.length ≤ 100 → x12.length ≤ 100 →
   lim tab.get S 4 0 4 [FS4 s, x3, x4, kS a, kS b, kI (i : Int), kS x9, kS x10, kS x11, kS x12] h = lim tab.get S 4 0 1 [FS4 s, x3, x4, kS (a ++ [123] ++ x9 ++ tB ++ x11 ++ [125]), kS (b ++ [123] ++ x10 ++ tB ++ x12 ++ [125]), kI ((i + 1 : Nat) : Int)] h := by
  intro x9 x10 x11 x12 l9 l10 l11 l12
  rw [w4_4, b4_4]
  refine (qBt _ _ (by simp; omega)).trans ?_
  refine (qBt _ _ (by simp; omega)).trans ?_
  refine (qBt _ _ (by simp; omega)).trans ?_
  refine (qBt _ _ (by simp; omega)).trans ?_
  refine (qBt _ _ (by simp; omega)).trans ?_
  refine (qBt _ _ (by simp; omega)).trans ?_
  refine (qBt _ _ (by simp; omega)).trans ?_
  refine (qBt _ _ (by simp; omega)).trans ?_
  refine (qBt _ _ (by simp; omega)).trans ?_
  refine (qBt _ _ (by simp; omega)).trans ?_
  simp (maxSteps := 9999999) +contextual only [exa, ne_eq, not_false_eq_true, reduceAdd, reduceMul, reduceLT, reduceLeDiff, reduceEqDiff, Int.reduceLT, Int.reduceLE, Int.reduceEq, Int.reduceToNat, qAL i (by omega)]
 have fin : ∀ (k : Nat) (x9 x10 x11 x12 : List UInt8), x9.length ≤ 100 → x10.length ≤ 100 → x11.length ≤ 100 → x12.length ≤ 100 → elT k = [123] ++ x9 ++ tB ++ x11 ++ [125] → elO k = [123] ++ x10 ++ tB ++ x12 ++ [125] →
   lim tab.get S 4 0 4 [FS4 s, x3, x4, kS a, kS b, kI (i : Int), kS x9, kS x10, kS x11, kS x12] h = lim tab.get S 4 0 1 [FS4 s, x3, x4, kS (a ++ elT k), kS (b ++ elO k), kI ((i + 1 : Nat) : Int)] h := by
  intro k x9 x10 x11 x12 l9 l10 l11 l12 e1 e2
  rw [last x9 x10 x11 x12 l9 l10 l11 l12, e1, e2]
  simp only [List.append_assoc]
 rw [w4_2, b4_2]
 have hm : withinM w 8 = 0 ∨ withinM w 8 = 1 ∨ withinM w 8 = 2 ∨ withinM w 8 = 3 ∨ withinM w 8 = 4 ∨ withinM w 8 = 5 ∨ withinM w 8 = 6 ∨ withinM w 8 = 7 := by omega
 unfold kapF
 have R2 : ∀ (β : Type) (h : Heap) (k : TVal → Heap → Option β) (a : Int), vbin .rem 0 (kI a) (kI 2) h k = k (kI (a.tmod 2)) h := fun β h k a => qDM 0 .i64 a 2 (by decide)
 have Q2 : ∀ (β : Type) (h : Heap) (k : TVal → Heap → Option β) (a : Int), vbin .quo 0 (kI a) (kI 2) h k = k (kI (IntKind.i64.wrap (a.tdiv 2))) h := fun β h k a => qJc 0 .i64 a 2 (by decide)
 rcases hm with e | e | e | e | e | e | e | e <;> rw [e] at U14 ⊢ <;> simp (maxSteps := 9999999) +contextual only [exa, ne_eq, not_false_eq_true, reduceAdd, reduceMul, reduceLT, reduceLeDiff, reduceEqDiff, Int.reduceLT, Int.reduceLE, Int.reduceEq, Int.reduceToNat, hw, U14, R2, Int.toNat_natCast]
 ·rw [show decide (Int.tmod 0 2 = 1) = false from rfl]
  simp (maxSteps := 9999999) +contextual only [exa, ne_eq, not_false_eq_true, reduceAdd, reduceMul, reduceLT, reduceLeDiff, reduceEqDiff, Int.reduceLT, Int.reduceLE, Int.reduceEq, Int.reduceToNat]
  rw [w4_3, b4_3]
  simp (maxSteps := 9999999) +contextual only [exa, ne_eq, not_false_eq_true, reduceAdd, reduceMul, reduceLT, reduceLeDiff, reduceEqDiff, Int.reduceLT, Int.reduceLE, Int.reduceEq, Int.reduceToNat, R2, Q2, show IntKind.i64.wrap (Int.tdiv 0 2) = 0 from rfl, show decide (Int.tmod 0 2 = 1) = false from rfl]
  exact fin 0 [] tA' [] tN' (by decide) (by decide) (by decide) (by decide) rfl rfl
 ·rw [show decide (Int.tmod 1 2 = 1) = true from rfl]
  simp (maxSteps := 9999999) +contextual only [exa, ne_eq, not_false_eq_true, reduceAdd, reduceMul, reduceLT, reduceLeDiff, reduceEqDiff, Int.reduceLT, Int.reduceLE, Int.reduceEq, Int.reduceToNat]
  rw [w4_3, b4_3]
  simp (maxSteps := 9999999) +contextual only [exa, ne_eq, not_false_eq_true, reduceAdd, reduceMul, reduceLT, reduceLeDiff, reduceEqDiff, Int.reduceLT, Int.reduceLE, Int.reduceEq, Int.reduceToNat, R2, Q2, show IntKind.i64.wrap (Int.tdiv 1 2) = 0 from rfl, show decide (Int.tmod 0 2 = 1) = false from rfl]
  exact fin 1 tA tA [] tN' (by decide) (by decide) (by decide) (by decide) rfl rfl
 ·rw [show decide (Int.tmod 2 2 = 1) = false from rfl]
  simp (maxSteps := 9999999) +contextual only [exa, ne_eq, not_false_eq_true, reduceAdd, reduceMul, reduceLT, reduceLeDiff, reduceEqDiff, Int.reduceLT, Int.reduceLE, Int.reduceEq, Int.reduceToNat]
  rw [w4_3, b4_3]
  simp (maxSteps := 9999999) +contextual only [exa, ne_eq, not_false_eq_true, reduceAdd, reduceMul, reduceLT, reduceLeDiff, reduceEqDiff, Int.reduceLT, Int.reduceLE, Int.reduceEq, Int.reduceToNat, R2, Q2, show IntKind.i64.wrap (Int.tdiv 2 2) = 1 from rfl, show decide (Int.tmod 1 2 = 1) = true from rfl]
  exact fin 2 [] tA' tC tC' (by decide) (by decide) (by decide) (by decide) rfl rfl
 ·rw [show decide (Int.tmod 3 2 = 1) = true from rfl]
  simp (maxSteps := 9999999) +contextual only [exa, ne_eq, not_false_eq_true, reduceAdd, reduceMul, reduceLT, reduceLeDiff, reduceEqDiff, Int.reduceLT, Int.reduceLE, Int.reduceEq, Int.reduceToNat]
  rw [w4_3, b4_3]
  simp (maxSteps := 9999999) +contextual only [exa, ne_eq, not_false_eq_true, reduceAdd, reduceMul, reduceLT, reduceLeDiff, reduceEqDiff, Int.reduceLT, Int.reduceLE, Int.reduceEq, Int.reduceToNat, R2, Q2, show IntKind.i64.wrap (Int.tdiv 3 2) = 1 from rfl, show decide (Int.tmod 1 2 = 1) = true from rfl]
  exact fin 3 tA tA tC tC' (by decide) (by decide) (by decide) (by decide) rfl rfl
 ·rw [show decide (Int.tmod 4 2 = 1) = false from rfl]
  simp (maxSteps := 9999999) +contextual only [exa, ne_eq, not_false_eq_true, reduceAdd, reduceMul, reduceLT, reduceLeDiff, reduceEqDiff, Int.reduceLT, Int.reduceLE, Int.reduceEq, Int.reduceToNat]
  rw [w4_3, b4_3]
  simp (maxSteps := 9999999) +contextual only [exa, ne_eq, not_false_eq_true, reduceAdd, reduceMul, reduceLT, reduceLeDiff, reduceEqDiff, Int.reduceLT, Int.reduceLE, Int.reduceEq, Int.reduceToNat, R2, Q2, show IntKind.i64.wrap (Int.tdiv 4 2) = 2 from rfl, show decide (Int.tmod 2 2 = 1) = false from rfl]
  exact fin 0 [] tA' [] tN' (by decide) (by decide) (by decide) (by decide) rfl rfl
 ·rw [show decide (Int.tmod 5 2 = 1) = true from rfl]
  simp (maxSteps := 9999999) +contextual only [exa, ne_eq, not_false_eq_true, reduceAdd, reduceMul, reduceLT, reduceLeDiff, reduceEqDiff, Int.reduceLT, Int.reduceLE, Int.reduceEq, Int.reduceToNat]
  rw [w4_3, b4_3]
  simp (maxSteps := 9999999) +contextual only [exa, ne_eq, not_false_eq_true, reduceAdd, reduceMul, reduceLT, reduceLeDiff, reduceEqDiff, Int.reduceLT, Int.reduceLE, Int.reduceEq, Int.reduceToNat, R2, Q2, show IntKind.i64.wrap (Int.tdiv 5 2) = 2 from rfl, show decide (Int.tmod 2 2 = 1) = false from rfl]
  exact fin 1 tA tA [] tN' (by decide) (by decide) (by decide) (by decide) rfl rfl
 ·rw [show decide (Int.tmod 6 2 = 1) = false from rfl]
  simp (maxSteps := 9999999) +contextual only [exa, ne_eq, not_false_eq_true, reduceAdd, reduceMul, reduceLT, reduceLeDiff, reduceEqDiff, Int.reduceLT, Int.reduceLE, Int.reduceEq, Int.reduceToNat]
  rw [w4_3, b4_3]
  simp (maxSteps := 9999999) +contextual only [exa, ne_eq, not_false_eq_true, reduceAdd, reduceMul, reduceLT, reduceLeDiff, reduceEqDiff, Int.reduceLT, Int.reduceLE, Int.reduceEq, Int.reduceToNat, R2, Q2, show IntKind.i64.wrap (Int.tdiv 6 2) = 3 from rfl, show decide (Int.tmod 3 2 = 1) = true from rfl]
  exact fin 2 [] tA' tC tC' (by decide) (by decide) (by decide) (by decide) rfl rfl
 ·rw [show decide (Int.tmod 7 2 = 1) = true from rfl]
  simp (maxSteps := 9999999) +contextual only [exa, ne_eq, not_false_eq_true, reduceAdd, reduceMul, reduceLT, reduceLeDiff, reduceEqDiff, Int.reduceLT, Int.reduceLE, Int.reduceEq, Int.reduceToNat]
  rw [w4_3, b4_3]
  simp (maxSteps := 9999999) +contextual only [exa, ne_eq, not_false_eq_true, reduceAdd, reduceMul, reduceLT, reduceLeDiff, reduceEqDiff, Int.reduceLT, Int.reduceLE, Int.reduceEq, Int.reduceToNat, R2, Q2, show IntKind.i64.wrap (Int.tdiv 7 2) = 3 from rfl, show decide (Int.tmod 3 2 = 1) = true from rfl]
  exact fin 3 tA tA tC tC' (by decide) (by decide) (by decide) (by decide) rfl rfl
theorem qHq (k : Nat) : (elT k).length ≤ 100 := by
 match k with
 | 0 => decide
 | 1 => decide
 | 2 => decide
 | _ + 3 => show (elT 3).length ≤ 100; decide
abbrev ksF (s : Sl Int) : List Nat := (s.list.take 10).map kapF
theorem qLp (s : Sl Int) (x3 x4 : TVal) (h : Heap) :
  ∀ (i : Nat) (a b : List UInt8), a.length + 200 * (10 - i) ≤ 3000 → b.length + 200 * (10 - i) ≤ 3000 →
   lim tab.get S 4 0 1 [FS4 s, x3, x4, kS a, kS b, kI (i : Int)] h = lim tab.get S 4 0 5 [x3, x4, kS (a ++ (if i = 0 then bodyT elT ((ksF s).drop i) else tailT elT ((ksF s).drop i))), kS (b ++ (if i = 0 then bodyT elO ((ksF s).drop i) else tailT elO ((ksF s).drop i)))] h := by
 refine qAY (ksF s).length (fun i hi a b ha hb => ?_) (fun i hi ih a b ha hb => ?_)
 ·have he : (ksF s).drop i = [] := List.drop_eq_nil_of_le (by omega)
  have hif : ∀ f, (if i = 0 then bodyT f [] else tailT f []) = [] := fun f => by split <;> rfl
  rw [w4_1, b4_1, he, hif, hif, List.append_nil, List.append_nil]
  simp only [ksF, List.length_map, List.length_take] at hi
  by_cases h1 : i < s.len
  ·have h2 : ¬ (i : Int) < 10 := by unfold Sl.len at h1; omega
   have h1' : (i : Int) < (s.len : Int) := by omega
   simp (maxSteps := 9999999) +contextual only [exa, ne_eq, not_false_eq_true, reduceAdd, reduceMul, reduceLT, reduceLeDiff, reduceEqDiff, Int.reduceLT, Int.reduceLE, Int.reduceEq, Int.reduceToNat, h1', h2]
  ·have h1' : ¬ (i : Int) < (s.len : Int) := by omega
   simp (maxSteps := 9999999) +contextual only [exa, ne_eq, not_false_eq_true, reduceAdd, reduceMul, reduceLT, reduceLeDiff, reduceEqDiff, Int.reduceLT, Int.reduceLE, Int.reduceEq, Int.reduceToNat, h1']
 ·have hi' := hi
  simp only [ksF, List.length_map, List.length_take] at hi'
  have h1 : (i : Int) < (s.len : Int) := by unfold Sl.len; omega
  have h2 : (i : Int) < 10 := by omega
  obtain ⟨w, hw⟩ : ∃ w, s.list[i]? = some w := ⟨s.list[i]'(by omega), List.getElem?_eq_getElem (by omega)⟩
  have hk : (ksF s)[i]? = some (kapF w) := by rw [List.getElem?_map, List.getElem?_take, if_pos (by omega), hw]; rfl
  have hd : (ksF s).drop i = kapF w :: (ksF s).drop (i + 1) := by rw [List.drop_eq_getElem_cons hi]; rw [List.getElem?_eq_getElem hi] at hk; rw [Option.some.inj hk]
  have l1 := qHq (kapF w)
  have l2 := qD4 (kapF w)
  rw [w4_1, b4_1, hd]
  by_cases h0 : i = 0
  ·subst h0
   have hz0 : ¬ (0 : Int) < ((0 : Nat) : Int) := by decide
   simp (maxSteps := 9999999) +contextual only [exa, ne_eq, not_false_eq_true, reduceAdd, reduceMul, reduceLT, reduceLeDiff, reduceEqDiff, Int.reduceLT, Int.reduceLE, Int.reduceEq, Int.reduceToNat, exW, h1, h2, hz0]
   refine (qHr s 0 (by omega) w hw x3 x4 a b (by omega) (by omega) h).trans ?_
   refine (ih _ _ (by simp; omega) (by simp; omega)).trans ?_
   rw [if_neg (by omega), if_neg (by omega), if_pos trivial, if_pos trivial]
   simp [bodyT]
  ·have hp : (0 : Int) < (i : Int) := by omega
   simp (maxSteps := 9999999) +contextual only [exa, ne_eq, not_false_eq_true, reduceAdd, reduceMul, reduceLT, reduceLeDiff, reduceEqDiff, Int.reduceLT, Int.reduceLE, Int.reduceEq, Int.reduceToNat, exW, h1, h2, hp, decide_eq_true (show a.length ≤ 4611686018427387903 by omega), decide_eq_true (show b.length ≤ 4611686018427387903 by omega)]
   refine (qHr s i (by omega) w hw x3 x4 (a ++ [44]) (b ++ [44]) (by simp; omega) (by simp; omega) h).trans ?_
   refine (ih _ _ (by simp; omega) (by simp; omega)).trans ?_
   rw [if_neg (by omega), if_neg (by omega), if_neg h0, if_neg h0]
   simp [tailT]
end Go.Proofs.YtlkejchbcchecaaDoor.Ab
set_option maxHeartbeats 4000000
namespace Go.Proofs.YtlkejchbcchecaaDoor.Ab
open Go Go.AI
theorem qFd {f : Nat → List UInt8} (hf : ∀ k, (f k).length ≤ 100) : ∀ ks, (tailT f ks).length ≤ 101 * ks.length
 | [] => Nat.zero_le _
 | k :: ks => by
  have := qFd hf ks
  have := hf k
  simp only [tailT, List.length_cons, List.length_append]; omega
theorem qFV {f : Nat → List UInt8} (hf : ∀ k, (f k).length ≤ 100) : ∀ ks, (bodyT f ks).length ≤ 101 * ks.length
 | [] => Nat.zero_le _
 | k :: ks => by
  have := qFd hf ks
  have := hf k
  simp only [bodyT, List.length_cons, List.length_append]; omega
theorem fills_law (o : Option (List Int)) : Om 4 [.pv (intsP .i64 o)] [] = some (kB true, []) := by
 refine (qAE rfl).trans ?_
 rw [qJf]
 generalize fargI o = s
 show lim tab.get S 4 0 0 [FS4 s] h0 = _
 have hk : (ksF s).length ≤ 10 := by simp only [ksF, List.length_map, List.length_take]; omega
 have b1 := qFV qHq (ksF s)
 have b2 := qFV qD4 (ksF s)
 have U13 : ∀ (β : Type) (k : TVal → Heap → Option β) (h : Heap) (d : Nat), vcall Om (.v (.c (.func 13 []))) [] h d k = k (kB true) h := fun β k h d => qAF 13 [] _ rfl qLn rfl
 have U18 := fun (β : Type) (k : TVal → Heap → Option β) (h : Heap) (d : Nat) => qAF (k := k) (h := h) (d := d) 18 [kS zf6113985] _ rfl qKG (by simp only [exP])
 have hz : ∀ s : ST, put1 [.p (.int .i64 0), .p (.str []), .p .nilslice, .p .nilslice, .p .nilslice, .p .nilslice] 0 (pcells s.row) = pcells s.row := fun s => by rw [ST.row_lit]; rfl
 have hz6 : ∀ v : VT, put1 [.p (.int .i64 0), .p (.bool false), .p (.int .i64 0), .p (.str []), .p .nilslice, .p .nilslice] 0 (pcells v.row) = pcells v.row := fun v => qBH _ (VT.row_len v)
 have L := fun (h : Heap) => qLp s (pO 3 1) (kI 0) h 0 [91] [91] (by decide) (by decide)
 rw [if_pos rfl, if_pos rfl, List.drop_zero] at L
 generalize ksF s = ks at hk b1 b2 L
 have lT : ([91] ++ bodyT elT ks ++ [93]).length ≤ 2000 := by simp; omega
 have P19 := qIL ([91] ++ bodyT elT ks ++ [93]) (lsV ks) (by omega) (qIz ks _ rfl (by omega) (by omega)) (qMr ks hk)
 have U19 := fun (β : Type) (k : TVal → Heap → Option β) (h : Heap) (d : Nat) => qAF (k := k) (h := h) (d := d) 19 [kS ([91] ++ bodyT elT ks ++ [93])] _ rfl P19 (by simp only [exP])
 have U20 := fun (β : Type) (k : TVal → Heap → Option β) (h : Heap) (d : Nat) => qAF (k := k) (h := h) (d := d) 20 [kA fS.row, kA fTL.row, kA (lsV ks).row] _ (by simp only [exP]) (qMD ks hk) (by simp only [exP])
 have U21 := fun (β : Type) (k : TVal → Heap → Option β) (h : Heap) (d : Nat) => qAF (k := k) (h := h) (d := d) 21 [kA (lsX ks).row] _ (by simp only [exP]) (qMP ks hk) rfl
 rw [w4_0, b4_0]
 simp (maxSteps := 9999999) +contextual only [exa, ne_eq, not_false_eq_true, reduceAdd, reduceMul, reduceLT, reduceLeDiff, reduceEqDiff, Int.reduceLT, Int.reduceLE, Int.reduceEq, Int.reduceToNat, exW, U13, U18, hz]
 refine (L _).trans ?_
 rw [w4_5, b4_5]
 refine (qBt _ _ (by simp; omega)).trans ?_
 have fm : fS.main = fTL := rfl
 have c3 : decide ((bodyT elO ks).length ≤ 4611686018427387902) = true := decide_eq_true (by omega)
 generalize lsV ks = v at U19 U20
 generalize lsX ks = x at U20 U21
 simp (maxSteps := 9999999) +contextual only [exa, ne_eq, not_false_eq_true, reduceAdd, reduceMul, reduceLT, reduceLeDiff, reduceEqDiff, Int.reduceLT, Int.reduceLE, Int.reduceEq, Int.reduceToNat, exW, U19, hz6, fm, U20, U21, c3]
 have hc : ([91] ++ bodyT elO ks).length ≤ 4611686018427387903 := by simp; omega
 rw [decide_eq_true hc]
 rfl
end Go.Proofs.YtlkejchbcchecaaDoor.Ab
