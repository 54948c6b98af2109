/- The rules, the contracts, the plain laws that lead to the statement. Own work. Condition: what each theorem names. -/
import Derived.Test.YtlkejchbcchecaaDoorTabEW
import Derived.Test.YtlkejchbcchecaaDoorV0
set_option linter.all false
set_option linter.unusedVariables false
set_option linter.unusedSimpArgs false
set_option linter.unusedSectionVars false
set_option maxRecDepth 100000
open Nat (reduceAdd reduceMul reduceLT reduceLeDiff reduceEqDiff)
namespace Go.Proofs.YtlkejchbcchecaaDoor.Ab
open Go Go.AI
noncomputable def S : Oracle := SI 183
noncomputable abbrev W : Mach := lim tab.get S
noncomputable abbrev Om : Oracle := orc S W
abbrev CAL (f : FuncId) (l : List TVal) (v : TVal) : Prop := ∀ {β : Type} {k : TVal → Heap → Option β} {h : Heap} {d : Nat}, vcall Om (.v (.c (.func f []))) l h d k = k v h
abbrev kA (r : List PVal) : TVal := .v (.agg (pcells r))
def idxM (x : List UInt8) : List (List UInt8) → Option Nat
 | [] => none
 | a :: l => if x = a then some 0 else (idxM x l).map (· + 1)
def idxI (o : Option Nat) (i : Nat) : Int := match o with
 | none => -1
 | some n => ((i + n : Nat) : Int)
theorem qR2 (o : Option Nat) (i : Nat) : idxI (o.map (· + 1)) i = idxI o (i + 1) := by cases o <;> simp [idxI]; omega
theorem qKP (l : Sl (List UInt8)) (x : List UInt8) (hl : l.len < 4611686018427387904) (h : Heap) : ∀ i : Nat, lim tab.get S 131 0 1 [.v (.c (.p (slP 1 sRow l))), kS x, kI (l.len : Int), kI (i : Int)] h = some (kI (idxI (idxM x (l.list.drop i)) i), []) := by
 refine qAj l.len (fun i hi => ?_) (fun i hi ih => ?_) <;> rw [w131_1, b131_1]
 ·have h1 : ¬ (i : Int) < (l.len : Int) := by omega
  simp (maxSteps := 9999999) +contextual only [exa, ne_eq, not_false_eq_true, reduceAdd, reduceMul, reduceLT, reduceLeDiff, reduceEqDiff, Int.reduceLT, Int.reduceLE, Int.reduceEq, Int.reduceToNat, h1, qA3 hi, oneOf, idxM, idxI]
 ·have h1 : (i : Int) < (l.len : Int) := by omega
  obtain ⟨b, hs, h2, _⟩ := qAS hi
  by_cases h3 : x = b
  ·simp (maxSteps := 9999999) +contextual only [exa, ne_eq, not_false_eq_true, reduceAdd, reduceMul, reduceLT, reduceLeDiff, reduceEqDiff, Int.reduceLT, Int.reduceLE, Int.reduceEq, Int.reduceToNat, h1, h2, hs, h3, oneOf, idxM, idxI, if_true]
  ·simp (maxSteps := 9999999) +contextual only [exa, ne_eq, not_false_eq_true, reduceAdd, reduceMul, reduceLT, reduceLeDiff, reduceEqDiff, Int.reduceLT, Int.reduceLE, Int.reduceEq, Int.reduceToNat, h1, h2, hs, h3, oneOf, idxM, qA5 i (by omega), ih, if_false, qR2]
theorem qPd (l : Sl (List UInt8)) (x : List UInt8) (hl : l.len < 4611686018427387904) : Om 131 [.v (.c (.p (slP 1 sRow l))), kS x] [] = some (kI (idxI (idxM x l.list) 0), []) := by
 refine (qAA rfl).trans ?_
 show lim tab.get S 131 0 0 [.v (.c (.p (slP 1 sRow l))), kS x] h0 = _
 rw [w131_0, b131_0]
 simp (maxSteps := 9999999) +contextual only [exa, ne_eq, not_false_eq_true, reduceAdd, reduceMul, reduceLT, reduceLeDiff, reduceEqDiff, Int.reduceLT, Int.reduceLE, Int.reduceEq, Int.reduceToNat]
 exact qKP l x hl h0 0
theorem qKW {β : Type} {k : TVal → Heap → Option β} {h : Heap} {d : Nat} (l : Sl (List UInt8)) (x : List UInt8) (hl : l.len < 4611686018427387904) : vcall Om (.v (.c (.func 131 []))) [.v (.c (.p (slP 1 sRow l))), kS x] h d k = k (kI (idxI (idxM x l.list) 0)) h := qAB 131 _ _ rfl (qPd l x hl) rfl
def withinM (a n : Int) : Int := if a.tmod n < 0 then a.tmod n + n else a.tmod n
theorem qBo (a n : Int) (hn : 0 < n) : 0 ≤ withinM a n ∧ withinM a n < n := by
 have h1 := Int.tmod_lt_of_pos a hn
 have h2 : -n < a.tmod n := by
  have := Int.tmod_lt_of_pos (-a) hn
  rw [Int.neg_tmod] at this; omega
 unfold withinM
 split <;> omega
def isDigit (n : Nat) : Bool := Nat.ble 48 n && Nat.ble n 57
def isLetter (n : Nat) : Bool := Nat.ble 97 n && Nat.ble n 122 || Nat.ble 65 n && Nat.ble n 90 || Nat.beq n 95
def isWord (n : Nat) : Bool := isLetter n || isDigit n
open Go Go.AI
mutual
def fewR : RT → Int → Int
 | .mk k n s ks l, m => if ((((!decide (0 < m)) || decide (12 < (l.len : Int))) || decide (50 < (s.len : Int))) || decide (12 < (ks.len : Int))) then 0 else fewS l (IntKind.i64.wrap (m - 1))
def fewS : Sl RT → Int → Int
 | .nil, m => m
 | .mk _ l, m => fewL l m
def fewL : List RT → Int → Int
 | [], m => m
 | r :: rs, m => if 0 < m then fewL rs (fewR r m) else m
end
theorem qQe (l : Sl RT) (m : Int) : fewS l m = fewL l.list m := by cases l <;> simp [fewS, fewL, Sl.list]
def bigR (r : RT) (m : Int) : Bool := (((!decide (0 < m)) || decide (12 < (r.kids.len : Int))) || decide (50 < (r.s.len : Int))) || decide (12 < (r.keys.len : Int))
theorem qJq (r : RT) (m : Int) : fewR r m = if bigR r m then 0 else fewL r.kids.list (IntKind.i64.wrap (m - 1)) := by
 cases r with
 | mk k n s ks l => rw [fewR, qQe]; rfl
theorem qO9 (r : RT) (g : Nat) (h : Heap) (hv : h.get (.own 2 g) = some (.cells (pcells r.row) 0)) (hl : r.kids.len ≤ 12)
  (ih : ∀ x ∈ r.kids.list, ∀ m, Om 29 [kA x.row, kI m] [] = some (kI (fewR x m), [])) :
  ∀ (i : Nat) (m : Int), lim tab.get S 29 0 1 [kI m, .v (.c (.ptr (.own 2 g) 0)), kI (i : Int)] h = some (kI (fewL (r.kids.list.drop i) m), []) := by
 refine qAj r.kids.len (fun i hi m => ?_) (fun i hi ihl m => ?_) <;> rw [w29_1, b29_1]
 ·have h1 : ¬ (i : Int) < (r.kids.len : Int) := by omega
  simp (maxSteps := 9999999) +contextual only [exa, ne_eq, not_false_eq_true, reduceAdd, reduceMul, reduceLT, reduceLeDiff, reduceEqDiff, Int.reduceLT, Int.reduceLE, Int.reduceEq, Int.reduceToNat, exW, exY, hv, h1, qA3 hi, fewL, oneOf]
 ·have h1 : (i : Int) < (r.kids.len : Int) := by omega
  obtain ⟨x, hs, h2, hx⟩ := qAS hi
  by_cases hm : 0 < m
  ·have cc : CAL 29 [kA x.row, kI m] (kI (fewR x m)) := qAB 29 _ _ (by simp only [exP]) (ih x hx m) rfl
   simp (maxSteps := 9999999) +contextual only [exa, ne_eq, not_false_eq_true, reduceAdd, reduceMul, reduceLT, reduceLeDiff, reduceEqDiff, Int.reduceLT, Int.reduceLE, Int.reduceEq, Int.reduceToNat, exW, exY, hv, h1, hs, hm, cc, qA5 i (by omega), ihl, h2, fewL, if_true]
  ·simp (maxSteps := 9999999) +contextual only [exa, ne_eq, not_false_eq_true, reduceAdd, reduceMul, reduceLT, reduceLeDiff, reduceEqDiff, Int.reduceLT, Int.reduceLE, Int.reduceEq, Int.reduceToNat, exW, exY, hv, h1, hs, hm, h2, fewL, if_false, oneOf]
theorem qTn : ∀ (n : Nat) (r : RT), SizeOf.sizeOf r < n → ∀ m, Om 29 [kA r.row, kI m] [] = some (kI (fewR r m), []) := by
 intro n
 induction n with
 | zero => intro r h; omega
 | succ n ih =>
  intro r hs m
  refine (qAA rfl).trans ?_
  show lim tab.get S 29 0 0 [kA r.row, kI m] h0 = _
  rw [w29_0, b29_0, qJq]
  cases hb : bigR r m
  ·unfold bigR at hb
   simp (maxSteps := 9999999) +contextual only [exa, ne_eq, not_false_eq_true, reduceAdd, reduceMul, reduceLT, reduceLeDiff, reduceEqDiff, Int.reduceLT, Int.reduceLE, Int.reduceEq, Int.reduceToNat, exW, exY, hb, if_false]
   have hl : r.kids.len ≤ 12 := by simp only [Bool.or_eq_false_iff, decide_eq_false_iff_not] at hb; omega
   have := qO9 r _ _ (qBP h0 2 1 _ 0 (by decide)) hl (fun x hx => ih x (by have := RT.mem_size hx; omega)) 0 (IntKind.i64.wrap (m - 1))
   rw [List.drop_zero] at this
   exact this
  ·unfold bigR at hb
   simp (maxSteps := 9999999) +contextual only [exa, ne_eq, not_false_eq_true, reduceAdd, reduceMul, reduceLT, reduceLeDiff, reduceEqDiff, Int.reduceLT, Int.reduceLE, Int.reduceEq, Int.reduceToNat, exW, exY, hb, if_true, oneOf]
theorem u29 {β : Type} {k : TVal → Heap → Option β} {h : Heap} {d : Nat} (r : RT) (m : Int) : vcall Om (.v (.c (.func 29 []))) [kA r.row, kI m] h d k = k (kI (fewR r m)) h := qAB 29 _ _ (by simp only [exP]) (qTn _ r (Nat.lt_succ_self _) m) rfl
def inText (n : Nat) : Bool := ((!decide ((n : Int) < 32)) || decide ((n : Int) = 10)) || decide ((n : Int) = 9)
def textM (l : List UInt8) : List UInt8 := l.filter fun b => inText b.toNat
theorem qNd (l : List UInt8) : (textM l).length ≤ l.length := List.length_filter_le _ _
theorem qQ4 {b : UInt8} {l : List UInt8} (h : inText b.toNat = false) : textM (b :: l) = textM l := by unfold textM; rw [List.filter_cons, h]; rfl
theorem qRg {b : UInt8} {l : List UInt8} (h : inText b.toNat = true) : textM (b :: l) = b :: textM l := by unfold textM; rw [List.filter_cons, h]; rfl
theorem qMX (s : Sl UInt8) (h : Heap) (hl : s.len ≤ 1000) : ∀ (i : Nat) (acc : List UInt8), acc.length ≤ i → lim tab.get S 80 0 1 [.v (.c (.p (slP 1 bRow s))), kS acc, kI (i : Int)] h = some (kS (acc ++ textM (s.list.drop i)), []) := by
 refine qAj s.len (fun i hi acc ha => ?_) (fun i hi ih acc ha => ?_) <;> rw [w80_1, b80_1]
 ·have h1 : ¬ (i : Int) < (s.len : Int) := by omega
  simp (maxSteps := 9999999) +contextual only [exa, ne_eq, not_false_eq_true, reduceAdd, reduceMul, reduceLT, reduceLeDiff, reduceEqDiff, Int.reduceLT, Int.reduceLE, Int.reduceEq, Int.reduceToNat, exW, exY, h1, qA3 hi, oneOf, textM, List.filter_nil, List.append_nil]
 ·have h1 : (i : Int) < (s.len : Int) := by omega
  obtain ⟨b, hs, h2, _⟩ := qAS hi
  obtain ⟨x, hx1, hx2⟩ := qNi s i b hs
  have h4 : acc.length + 1 ≤ 4611686018427387904 := by omega
  cases h3 : inText b.toNat
  ·have h3' := h3
   unfold inText at h3
   simp (maxSteps := 9999999) +contextual only [exa, ne_eq, not_false_eq_true, reduceAdd, reduceMul, reduceLT, reduceLeDiff, reduceEqDiff, Int.reduceLT, Int.reduceLE, Int.reduceEq, Int.reduceToNat, exW, exY, h1, h2, hs, h3, oneOf]
   rw [w80_2, b80_2]
   simp (maxSteps := 9999999) +contextual only [exa, ne_eq, not_false_eq_true, reduceAdd, reduceMul, reduceLT, reduceLeDiff, reduceEqDiff, Int.reduceLT, Int.reduceLE, Int.reduceEq, Int.reduceToNat, qA5 i (by omega), ih acc (by omega)]
   rw [qQ4 h3']
  ·have h3' := h3
   unfold inText at h3
   simp (maxSteps := 9999999) +contextual only [exa, ne_eq, not_false_eq_true, reduceAdd, reduceMul, reduceLT, reduceLeDiff, reduceEqDiff, Int.reduceLT, Int.reduceLE, Int.reduceEq, Int.reduceToNat, exW, exY, h1, h2, hs, h3, oneOf, qA5 i (by omega), qAa _ _ hx1, qAa _ _ hx2, h4]
   rw [w80_2, b80_2]
   simp (maxSteps := 9999999) +contextual only [exa, ne_eq, not_false_eq_true, reduceAdd, reduceMul, reduceLT, reduceLeDiff, reduceEqDiff, Int.reduceLT, Int.reduceLE, Int.reduceEq, Int.reduceToNat, qA5 i (by omega), ih (acc ++ [b]) (by simp; omega)]
   rw [qRg h3', List.append_assoc]; rfl
theorem qP9 (s : Sl UInt8) (hl : s.len ≤ 1000) : Om 80 [.v (.c (.p (slP 1 bRow s)))] [] = some (kS (textM s.list), []) := by
 refine (qAA rfl).trans ?_
 show lim tab.get S 80 0 0 [.v (.c (.p (slP 1 bRow s)))] h0 = _
 rw [w80_0, b80_0]
 exact qMX s h0 hl 0 [] (Nat.le_refl _)
theorem u80 {β : Type} {k : TVal → Heap → Option β} {h : Heap} {d : Nat} (s : Sl UInt8) (hl : s.len ≤ 1000) : vcall Om (.v (.c (.func 80 []))) [.v (.c (.p (slP 1 bRow s)))] h d k = k (kS (textM s.list)) h := qAB 80 _ _ rfl (qP9 s hl) rfl
open Go Go.AI
theorem qIN (a n : Int) (hn : 0 < n) (hs : n < 1000000) : Om 79 [kI a, kI n] [] = some (kI (withinM a n), []) := by
 refine (qAA rfl).trans ?_
 show lim tab.get S 79 0 0 [kI a, kI n] h0 = _
 have hb := qBo a n hn
 rw [w79_0, b79_0]
 unfold withinM at hb ⊢
 by_cases h : a.tmod n < 0
 ·rw [if_pos h] at hb ⊢
  have hw : IntKind.i64.wrap (a.tmod n + n) = a.tmod n + n := qAI _ (by omega) (by omega)
  simp (maxSteps := 9999999) +contextual only [exa, ne_eq, not_false_eq_true, reduceAdd, reduceMul, reduceLT, reduceLeDiff, reduceEqDiff, Int.reduceLT, Int.reduceLE, Int.reduceEq, Int.reduceToNat, qAZ 0 .i64 a n (by omega), h, hw, oneOf]
 ·rw [if_neg h]
  simp (maxSteps := 9999999) +contextual only [exa, ne_eq, not_false_eq_true, reduceAdd, reduceMul, reduceLT, reduceLeDiff, reduceEqDiff, Int.reduceLT, Int.reduceLE, Int.reduceEq, Int.reduceToNat, qAZ 0 .i64 a n (by omega), h, oneOf]
theorem u79 {β : Type} {k : TVal → Heap → Option β} {h : Heap} {d : Nat} (a n : Int) (hn : 0 < n) (hs : n < 1000000) : vcall Om (.v (.c (.func 79 []))) [kI a, kI n] h d k = k (kI (withinM a n)) h := qAB 79 _ _ rfl (qIN a n hn hs) rfl
def leadM (key : List UInt8) : List (List UInt8) → Nat
 | [] => 0
 | a :: l => if bless a key then leadM key l + 1 else 0
theorem qEn (key : List UInt8) : ∀ l : List (List UInt8), leadM key l ≤ l.length
 | [] => Nat.le_refl _
 | a :: l => by
  unfold leadM
  split
  ·have := qEn key l; simp; omega
  ·exact Nat.zero_le _
def putM (v : VT) (key : List UInt8) (x : VT) : VT :=
 if v.keys.list[leadM key v.keys.list]? = some key then v else
  .mk v.kind v.b v.n v.s (.mk false (v.keys.list.take (leadM key v.keys.list) ++ [key] ++ v.keys.list.drop (leadM key v.keys.list))) (.mk false (v.l.list.take (leadM key v.keys.list) ++ [x] ++ v.l.list.drop (leadM key v.keys.list)))
abbrev p3 : TVal := .v (.c (.ptr (.own 3 1) 0))
abbrev p5 : TVal := .v (.c (.ptr (.own 5 1) 0))
abbrev p6 : TVal := .v (.c (.ptr (.own 6 1) 0))
theorem qOt (v : VT) (key : List UInt8) (x5 x6 : TVal) (h : Heap) (hv : h.get (.own 3 1) = some (.cells (pcells v.row) 0)) (hl : v.keys.len ≤ 1000) :
  ∀ i : Nat, lim tab.get S 81 0 1 [kS key, p3, x5, x6, kI (i : Int)] h = lim tab.get S 81 0 2 [kS key, p3, x5, x6, kI ((i + leadM key (v.keys.list.drop i) : Nat) : Int)] h := by
 refine qAj v.keys.len (fun i hi => ?_) (fun i hi ih => ?_) <;> rw [w81_1, b81_1]
 ·have h1 : ¬ (i : Int) < (v.keys.len : Int) := by omega
  simp (maxSteps := 9999999) +contextual only [exa, ne_eq, not_false_eq_true, reduceAdd, reduceMul, reduceLT, reduceLeDiff, reduceEqDiff, Int.reduceLT, Int.reduceLE, Int.reduceEq, Int.reduceToNat, hv, h1, qA3 hi, leadM]
 ·have h1 : (i : Int) < (v.keys.len : Int) := by omega
  obtain ⟨s, hs, h2, _⟩ := qAS hi
  cases h3 : bless s key
  ·simp (maxSteps := 9999999) +contextual only [exa, ne_eq, not_false_eq_true, reduceAdd, reduceMul, reduceLT, reduceLeDiff, reduceEqDiff, Int.reduceLT, Int.reduceLE, Int.reduceEq, Int.reduceToNat, hv, h1, h2, hs, h3, leadM, Bool.false_eq_true, if_false]
  ·simp (maxSteps := 9999999) +contextual only [exa, ne_eq, not_false_eq_true, reduceAdd, reduceMul, reduceLT, reduceLeDiff, reduceEqDiff, Int.reduceLT, Int.reduceLE, Int.reduceEq, Int.reduceToNat, hv, h1, h2, hs, h3, leadM, if_true, qA5 i (by omega), ih]
   rw [show i + 1 + leadM key (v.keys.list.drop (i + 1)) = i + (leadM key (v.keys.list.drop (i + 1)) + 1) by omega]
def putK (v : VT) (key : List UInt8) (x : VT) (k : Nat) : VT :=
 if v.keys.list[k]? = some key then v else .mk v.kind v.b v.n v.s (.mk false (v.keys.list.take k ++ [key] ++ v.keys.list.drop k)) (.mk false (v.l.list.take k ++ [x] ++ v.l.list.drop k))
theorem qCt {β : Type} {O : Oracle} {h : Heap} {d : Nat} {op : AOp} {v' : TVal} {h' : Heap} {t : AI.Touch} (e : ∀ (β : Type) (O : Oracle) (kt : TVal → Heap → AI.Touch → Option β), vtouch O op h d kt = kt v' h' t) (k : TVal → Heap → Option β) : vop O op h d k = k v' h' := by
 rw [qGT, e]
theorem qQt (v x : VT) (key : List UInt8) (k : Nat) (h : Heap) (hv : h.get (.own 3 1) = some (.cells (pcells v.row) 0)) (hx : h.get (.own 5 1) = some (.cells (pcells x.row) 0)) (h6 : ∃ cs, cs.length = 6 ∧ h.get (.own 6 1) = some (.cells cs 0))
  (hk : k ≤ v.keys.len) (hk2 : k ≤ v.l.len) (hl : v.keys.len ≤ 1000) (hl2 : v.l.len ≤ 1000) :
  lim tab.get S 81 0 2 [kS key, p3, p5, p6, kI (k : Int)] h = some (kA (putK v key x k).row, []) := by
 obtain ⟨cs, hcs, h6⟩ := h6
 rw [w81_2, b81_2]
 by_cases hkey : v.keys.list[k]? = some key
 ·have h1 : (k : Int) < (v.keys.len : Int) := by
   have := (List.getElem?_eq_some_iff.1 hkey).1
   unfold Sl.len; omega
  simp (maxSteps := 9999999) +contextual only [exa, ne_eq, not_false_eq_true, reduceAdd, reduceMul, reduceLT, reduceLeDiff, reduceEqDiff, Int.reduceLT, Int.reduceLE, Int.reduceEq, Int.reduceToNat, hv, hx, h6, h1, hkey, hcs, BEq.rfl, putK, if_true, oneOf]
 ·obtain ⟨bk, hbk, pk⟩ := qJo 1 sRow v.keys k hk
  obtain ⟨dk, hdk, qk⟩ := qJg 1 sRow v.keys k hk
  obtain ⟨bl, hbl, pl⟩ := qJo 6 VT.row v.l k hk2
  obtain ⟨dl, hdl, ql⟩ := qJg 6 VT.row v.l k hk2
  have r1 : ∀ l : List (List UInt8), ∀ r ∈ l.map sRow, r.length = 1 := fun l r hr => by obtain ⟨_, _, rfl⟩ := List.mem_map.1 hr; rfl
  have r6 : ∀ l : List VT, ∀ r ∈ l.map VT.row, r.length = 6 := fun l r hr => by obtain ⟨a, _, rfl⟩ := List.mem_map.1 hr; exact VT.row_len a
  have n1 : v.keys.list.length ≤ 1000 := hl
  have n2 : v.l.list.length ≤ 1000 := hl2
  have m1 : ∀ l : List VT, (l.map VT.row).length = l.length := fun l => List.length_map _
  have m2 : ∀ l : List (List UInt8), (l.map sRow).length = l.length := fun l => List.length_map _
  obtain ⟨c1, h1, t1, G1, e1, T1, K1, I1, X1⟩ := qCg (h := h) (d := 46) (D := [46, 56, 61]) (sz := 1) (by' := 16) (v := .p (.slice 1 true [])) (rows := []) hbk (.inr (.inl rfl)) (by decide) (r1 _) (by simp [m2]; omega) (by decide)
  obtain ⟨c2, h2, t2, G2, e2, T2, K2, I2, X2⟩ := qCg (h := h1) (d := 52) (D := [52, 65, 70]) (sz := 6) (by' := 88) (v := .p (.slice 6 true [])) (rows := []) hbl (.inr (.inl rfl)) (by decide) (r6 _) (by simp [m1]; omega) (by decide)
  have G1' : GS [46, 56, 61] 1 c1 ([] ++ (v.keys.list.take k).map sRow) h2 := G1.keep fun e he g hh => K2 e g _ (by revert he; simp; omega) hh
  obtain ⟨c3, h3, t3, G3, e3, T3, K3, I3, X3⟩ := qCg (h := h2) (d := 56) (sz := 1) (by' := 16) (new := [[.str key]]) (b := .slice 1 true [[.str key]]) (.inr ⟨_, rfl⟩) G1' (by decide) (fun r hr => by simp at hr; rw [hr]; rfl) (by simp [m2]; omega) (by decide)
  obtain ⟨c4, h4, t4, G4, e4, T4, K4, I4, X4⟩ := qCg (d := 61) (by' := 16) hdk G3 (by decide) (r1 _) (by simp [m2]; omega) (by decide)
  have G2' : GS [52, 65, 70] 6 c2 ([] ++ (v.l.list.take k).map VT.row) h4 := G2.keep fun e he g hh => K4 e g _ (by revert he; simp; omega) (K3 e g _ (by revert he; simp; omega) hh)
  obtain ⟨c5, h5, t5, G5, e5, T5, K5, I5, X5⟩ := qCg (d := 65) (by' := 88) (new := [x.row]) (b := .slice 6 true [x.row]) (.inr ⟨_, rfl⟩) G2' (by decide) (fun r hr => by simp at hr; rw [hr]; exact VT.row_len x) (by simp [m1]; omega) (by decide)
  obtain ⟨c6, h6', t6, G6, e6, T6, K6, I6, X6⟩ := qCg (d := 70) (by' := 88) hdl G5 (by decide) (r6 _) (by simp [m1]; omega) (by decide)
  obtain ⟨ra, ea⟩ := X4 (.inr (X3 (.inl (by simp))))
  obtain ⟨rb, eb⟩ := X6 (.inr (X5 (.inl (by simp))))
  have keep : ∀ e o, e ∉ [46, 56, 61, 52, 65, 70] → h.get (.own e 1) = some o → (h1.get (.own e 1) = some o ∧ h2.get (.own e 1) = some o) ∧ (h3.get (.own e 1) = some o ∧ h4.get (.own e 1) = some o) ∧ h5.get (.own e 1) = some o ∧ h6'.get (.own e 1) = some o := by
   intro e o he ho
   have a1 := K1 e 1 o (by revert he; simp <;> omega) ho
   have a2 := K2 e 1 o (by revert he; simp <;> omega) a1
   have a3 := K3 e 1 o (by revert he; simp <;> omega) a2
   have a4 := K4 e 1 o (by revert he; simp <;> omega) a3
   have a5 := K5 e 1 o (by revert he; simp <;> omega) a4
   exact ⟨⟨a1, a2⟩, ⟨a3, a4⟩, a5, K6 e 1 o (by revert he; simp <;> omega) a5⟩
  obtain ⟨⟨v1, v2⟩, ⟨v3, v4⟩, v5, v6⟩ := keep 3 _ (by decide) hv
  obtain ⟨⟨x1, x2⟩, ⟨x3, x4⟩, x5, x6⟩ := keep 5 _ (by decide) hx
  obtain ⟨⟨y1, y2⟩, ⟨y3, y4⟩, y5, y6⟩ := keep 6 _ (by decide) h6
  have A1 : AI.Touch.apart t3 ⟨[(Ref.own 5 1).site], [], false⟩ = true := qBT T3 5 (by decide)
  have A2 : AI.Touch.apart t4 ⟨[(Ref.own 5 1).site], [], false⟩ = true := qBT T4 5 (by decide)
  have A3 : AI.Touch.apart t3 ⟨[(Ref.own 3 1).site], [], false⟩ = true := qBT T3 3 (by decide)
  have A4 : AI.Touch.apart t4 ⟨[(Ref.own 3 1).site], [], false⟩ = true := qBT T4 3 (by decide)
  have A5 : AI.Touch.apart t5 ⟨[(Ref.own 3 1).site], [], false⟩ = true := qBT T5 3 (by decide)
  have P1 : put1 (pcells v.row) 4 [c4] = [.p (.int .i64 v.kind), .p (.bool v.b), .p (.int .i64 v.n), .p (.str v.s), c4, .p (slP 6 VT.row v.l)] := by rw [VT.row_eq]; rfl
  have P2 : ∀ a b c d f : Cell, put1 [a, b, c, d, c4, f] 5 [c6] = [a, b, c, d, c4, c6] := fun _ _ _ _ _ => rfl
  have P3 : ∀ a b c d f g : Cell, put1 cs 0 [a, b, c, d, f, g] = [a, b, c, d, f, g] := fun _ _ _ _ _ _ => qBQ _ _ (by rw [hcs]; rfl)
  have F : ∀ h, vfin true 0 [.agg [.p (.int .i64 v.kind), .p (.bool v.b), .p (.int .i64 v.n), .p (.str v.s), c4, c6]] h = some (kA (putK v key x k).row, []) := by
   intro h
   rw [ea, eb, qDl _ rfl, putK, if_neg hkey, VT.row_eq (VT.mk _ _ _ _ _ _)]
   show _ = some (kA [.int .i64 v.kind, .bool v.b, .int .i64 v.n, .str v.s, slP 1 sRow (.mk false (v.keys.list.take k ++ [key] ++ v.keys.list.drop k)), slP 6 VT.row (.mk false (v.l.list.take k ++ [x] ++ v.l.list.drop k))], [])
   simp only [oneOf, slP, pcells, Comp.strip, Cell.strip, List.map_append, List.map_cons, List.map_nil, List.nil_append]
   rfl
  have B1 : ∀ {β : Type} {O : Oracle} {h : Heap} {d : Nat} {kt : TVal → Heap → AI.Touch → Option β}, vtouch O (.bslice 1 1 [.p (.str [])] [(0, .k (kS key))] false) h d kt = kt (kSl 1 true [[.str key]]) h noTouch := qGZ _ _ rfl
  have B2 : ∀ {β : Type} {O : Oracle} {h : Heap} {d : Nat} {kt : TVal → Heap → AI.Touch → Option β}, vtouch O (.bslice 6 1 [.p (.int .i64 0), .p (.bool false), .p (.int .i64 0), .p (.str []), .p .nilslice, .p .nilslice] [(0, .k (.v (.agg (pcells x.row))))] false) h d kt = kt (kSl 6 true [x.row]) h noTouch := qDG 6 _ _ rfl (VT.row_len x)
  by_cases hlt : (k : Int) < (v.keys.len : Int)
  ·obtain ⟨s, hs, _, _⟩ := qAS (l := v.keys.list) (i := k) (by unfold Sl.len at hlt; omega)
   have hne : ¬ s = key := fun e => hkey (by rw [hs, e])
   simp (maxSteps := 9999999) +contextual only [exa, ne_eq, not_false_eq_true, reduceAdd, reduceMul, reduceLT, reduceLeDiff, reduceEqDiff, Int.reduceLT, Int.reduceLE, Int.reduceEq, Int.reduceToNat, exY, hv, hx, h6, hlt, hs, hne, hcs, hkey, qAa _ _ pk, qAa _ _ pl, qA0 _ _ qk, qA0 _ _ ql, qCt e1, qCt e2, e3, e4, e5, e6, v1, v2, v3, v4, v5, v6, x1, x2, x3, x4, x5, x6, y6, B1, B2, qBW, A1, A2, A3, A4, A5, P1, P2, P3]
   exact F _
  ·simp (maxSteps := 9999999) +contextual only [exa, ne_eq, not_false_eq_true, reduceAdd, reduceMul, reduceLT, reduceLeDiff, reduceEqDiff, Int.reduceLT, Int.reduceLE, Int.reduceEq, Int.reduceToNat, exY, hv, hx, h6, hlt, hcs, hkey, qAa _ _ pk, qAa _ _ pl, qA0 _ _ qk, qA0 _ _ ql, qCt e1, qCt e2, e3, e4, e5, e6, v1, v2, v3, v4, v5, v6, x1, x2, x3, x4, x5, x6, y6, B1, B2, qBW, A1, A2, A3, A4, A5, P1, P2, P3]
   exact F _
def evenT (n : Nat) (v : VT) : Prop := v.keys.len = v.l.len ∧ v.keys.len ≤ n
theorem qDw (v x : VT) (key : List UInt8) (hv : evenT 1000 v) : Om 81 [kA v.row, kS key, kA x.row] [] = some (kA (putM v key x).row, []) := by
 obtain ⟨e, hl⟩ := hv
 refine (qAA rfl).trans ?_
 show lim tab.get S 81 0 0 [kA v.row, kS key, kA x.row] h0 = _
 rw [w81_0, b81_0]
 have hk : leadM key v.keys.list ≤ v.keys.len := qEn _ _
 simp (maxSteps := 9999999) +contextual only [exa, ne_eq, not_false_eq_true, reduceAdd, reduceMul, reduceLT, reduceLeDiff, reduceEqDiff, Int.reduceLT, Int.reduceLE, Int.reduceEq, Int.reduceToNat]
 refine (qOt v key _ _ _ ?_ hl 0).trans ?_
 ·rfl
 rw [List.drop_zero, Nat.zero_add]
 exact qQt v x key _ _ rfl rfl ⟨_, rfl, rfl⟩ hk (e ▸ hk) hl (by omega)
theorem qMY (n : Nat) (k c : Int) (b : Bool) (s : List UInt8) (p : List (List UInt8)) (l : List VT) (x : VT) (key : List UInt8) (m : Nat) (hm : m ≤ p.length) (e : p.length = l.length) (hl : p.length ≤ n) : evenT (n + 1) (.mk k b c s (.mk false (p.take m ++ [key] ++ p.drop m)) (.mk false (l.take m ++ [x] ++ l.drop m))) := by
 have h1 : (p.take m ++ [key] ++ p.drop m).length = p.length + 1 := by simp; omega
 have h2 : (l.take m ++ [x] ++ l.drop m).length = l.length + 1 := by simp; omega
 constructor
 ·show (p.take m ++ [key] ++ p.drop m).length = (l.take m ++ [x] ++ l.drop m).length
  omega
 ·show (p.take m ++ [key] ++ p.drop m).length ≤ n + 1
  omega
theorem qEx (n : Nat) (v x : VT) (key : List UInt8) (hv : evenT n v) : evenT (n + 1) (putM v key x) := by
 obtain ⟨e, hl⟩ := hv
 unfold putM
 split
 ·exact ⟨e, by omega⟩
 ·exact qMY n _ _ _ _ _ _ _ _ _ (qEn _ _) e hl
open Go Go.AI
def kindM (k deep : Int) : Int := if deep ≤ 1 ∧ 4 ≤ withinM k 6 then 2 else withinM k 6
def keyL : List (List UInt8) := [[97], [98], [99], [110, 97, 109, 101], [110], [], [120, 34, 121], [10]]
def keyM (n : Int) : List UInt8 := keyL.getD (withinM n 8).toNat []
def tabM : VT → List Int → List VT → VT
 | v, _, [] => v
 | v, ks, g :: gs => tabM (putM v (keyM (ks.headD 0)) g) ks.tail gs
def v0 (k : Int) : VT := .mk k false 0 [] .nil .nil
def goodK (k n : Int) (s : Sl UInt8) (ks : List Int) (g : List VT) : VT :=
 if k = 1 then .mk 1 (decide (n.tmod 2 = 0)) 0 [] .nil .nil else if k = 2 then .mk 2 false n [] .nil .nil else if k = 3 then .mk 3 false 0 (textM s.list) .nil .nil else
 if k = 4 then .mk 4 false 0 [] .nil (grown g) else if k = 5 then tabM (v0 5) ks g else v0 k
mutual
def goodR : RT → Int → VT
 | .mk k n s ks l, deep => goodK (kindM k deep) n s ks.list (goodS l (IntKind.i64.wrap (deep - 1)))
def goodS : Sl RT → Int → List VT
 | .nil, _ => []
 | .mk _ l, d => goodL l d
def goodL : List RT → Int → List VT
 | [], _ => []
 | r :: rs, d => goodR r d :: goodL rs d
end
theorem qOW (l : Sl RT) (d : Int) : goodS l d = goodL l.list d := by cases l <;> simp [goodS, goodL, Sl.list]
theorem qEu (r : RT) (d : Int) : goodR r d = goodK (kindM r.kind d) r.n r.s r.keys.list (goodL r.kids.list (IntKind.i64.wrap (d - 1))) := by
 cases r with
 | mk k n s ks l => rw [goodR, qOW]; rfl
theorem qGx (d : Int) : ∀ l : List RT, (goodL l d).length = l.length
 | [] => rfl
 | r :: l => by rw [goodL, List.length_cons, qGx d l, List.length_cons]
mutual
def smR : RT → Prop
 | .mk k n s ks l => l.len ≤ 12 ∧ s.len ≤ 50 ∧ ks.len ≤ 12 ∧ smS l
def smS : Sl RT → Prop
 | .nil => True
 | .mk _ l => smL l
def smL : List RT → Prop
 | [] => True
 | r :: rs => smR r ∧ smL rs
end
theorem qMS : ∀ l : List RT, smL l ↔ ∀ x ∈ l, smR x
 | [] => by simp [smL]
 | r :: l => by simp [smL, qMS l]
theorem qFw (r : RT) : smR r ↔ r.kids.len ≤ 12 ∧ r.s.len ≤ 50 ∧ r.keys.len ≤ 12 ∧ ∀ x ∈ r.kids.list, smR x := by
 cases r with
 | mk k n s ks l =>
  rw [smR, ← qMS]
  cases l <;> simp [smS, smL, Sl.list, RT.kids, RT.s, RT.keys]
theorem qSO : ∀ (n : Nat) (r : RT), SizeOf.sizeOf r < n → ∀ m : Int, m ≤ 1000 → 0 ≤ fewR r m ∧ (fewR r m ≤ m ∨ m < 0) ∧ (fewR r m ≠ 0 → smR r) := by
 intro n
 induction n with
 | zero => intro r h; omega
 | succ n ih =>
  intro r hs m hm
  have hl : ∀ l : List RT, (∀ x ∈ l, SizeOf.sizeOf x < n) → ∀ m : Int, 0 ≤ m → m ≤ 1000 → 0 ≤ fewL l m ∧ fewL l m ≤ m ∧ (fewL l m ≠ 0 → ∀ x ∈ l, smR x) := by
   intro l
   induction l with
   | nil => intro _ m h0 _; exact ⟨h0, Int.le_refl _, fun _ x hx => by cases hx⟩
   | cons x l ihl =>
    intro hx m h0 h1
    unfold fewL
    by_cases hp : 0 < m
    ·rw [if_pos hp]
     obtain ⟨a1, a2, a3⟩ := ih x (hx x (by simp)) m h1
     have a2' : fewR x m ≤ m := by rcases a2 with a | a <;> omega
     obtain ⟨b1, b2, b3⟩ := ihl (fun y hy => hx y (by simp [hy])) (fewR x m) a1 (by omega)
     refine ⟨b1, by omega, fun hz y hy => ?_⟩
     rcases List.mem_cons.1 hy with rfl | hy
     ·exact a3 (by omega)
     ·exact b3 hz y hy
    ·rw [if_neg hp]
     exact ⟨h0, Int.le_refl _, fun hz => by omega⟩
  rw [qJq]
  cases hb : bigR r m
  ·simp only [Bool.false_eq_true, if_false]
   have hb' := hb
   simp only [bigR, Bool.or_eq_false_iff, decide_eq_false_iff_not, Bool.not_eq_false', decide_eq_true_eq] at hb'
   obtain ⟨⟨⟨h1, h2⟩, h3⟩, h4⟩ := hb'
   rw [qAI (m - 1) (by omega) (by omega)]
   obtain ⟨c1, c2, c3⟩ := hl r.kids.list (fun x hx => by have := RT.mem_size hx; omega) (m - 1) (by omega) (by omega)
   exact ⟨c1, by omega, fun hz => (qFw r).2 ⟨by omega, by omega, by omega, c3 hz⟩⟩
  ·simp only [if_true]
   exact ⟨Int.le_refl _, by omega, fun hz => absurd rfl hz⟩
theorem qNK {r : RT} {m : Int} (hm : m ≤ 1000) (h : fewR r m ≠ 0) : smR r := (qSO _ r (Nat.lt_succ_self _) m hm).2.2 h
open Go Go.AI
abbrev q2 : TVal := .v (.c (.ptr (.own 2 1) 0))
abbrev q4 : TVal := .v (.c (.ptr (.own 4 1) 0))
abbrev q6 : TVal := .v (.c (.ptr (.own 6 1) 0))
abbrev z6 : List Cell := [.p (.int .i64 0), .p (.bool false), .p (.int .i64 0), .p (.str []), .p .nilslice, .p .nilslice]
structure GoodH (r : RT) (cs : List Cell) (h : Heap) : Prop where
 a2 : h.get (.own 2 1) = some (.cells (pcells r.row) 0)
 a4 : h.get (.own 4 1) = some (.cells z6 0)
 a6 : h.get (.own 6 1) = some (.cells cs 0)
theorem GoodH.put {r : RT} {cs : List Cell} {h : Heap} (H : GoodH r cs h) (cs' : List Cell) : GoodH r cs' (h.own 6 1 (.cells cs' 0)) :=
 ⟨(Heap.own_get_ne h 6 1 _ 2 1 (by decide)).trans H.a2, (Heap.own_get_ne h 6 1 _ 4 1 (by decide)).trans H.a4, qBP h 6 1 _ 0 (by decide)⟩
theorem qEl (r : RT) (cs : List Cell) (h : Heap) (H : GoodH r cs h) (hc : cs.length = 6) (hp : cs.all isPT = true) : lim tab.get S 31 0 5 [q4, q6] h = some (.v (.agg (cs.map Cell.strip)), []) := by
 rw [w31_5, b31_5]
 have ht : cs.take 6 = cs := List.take_of_length_le (by omega)
 have hz : put1 z6 0 cs = cs := qBQ _ _ hc
 simp (maxSteps := 9999999) +contextual only [exa, ne_eq, not_false_eq_true, reduceAdd, reduceMul, reduceLT, reduceLeDiff, reduceEqDiff, Int.reduceLT, Int.reduceLE, Int.reduceEq, Int.reduceToNat, H.a4, H.a6, ht, hz, hc]
 exact qDl _ (by show (cs.all isPT && true) = true; rw [hp]; rfl)
def GoodOK (x : RT) : Prop := ∀ d : Int, Om 31 [kA x.row, kI d] [] = some (kA (goodR x d).row, [])
theorem y31 {β : Type} {kt : TVal → Heap → AI.Touch → Option β} {h : Heap} {d : Nat} {x : RT} (ok : GoodOK x) (n : Int) : vtouch Om (.call (.k (.v (.c (.func 31 [])))) [.k (kA x.row), .k (kI n)]) h d kt = kt (kA (goodR x n).row) h noTouch :=
 qBv 31 [kA x.row, kI n] _ (by simp only [exP]) (ok n) (by simp only [exP])
theorem qMD (r : RT) (deep : Int) (hl : r.kids.len ≤ 12) (ih : ∀ x ∈ r.kids.list, GoodOK x) :
  ∀ (i : Nat) (acc : List VT) (c : Cell) (h : Heap), acc.length ≤ i → GoodH r [.p (.int .i64 4), .p (.bool false), .p (.int .i64 0), .p (.str []), .p .nilslice, c] h → GS [60] 6 c (acc.map VT.row) h → (acc = [] → c = .p .nilslice) → (acc ≠ [] → ∃ q, c = .tsl 6 (acc.map VT.row) q) →
  lim tab.get S 31 0 2 [kI deep, q2, q4, q6, kI (i : Int)] h = some (kA (VT.mk 4 false 0 [] .nil (grown (acc ++ goodL (r.kids.list.drop i) (IntKind.i64.wrap (deep - 1))))).row, []) := by
 refine qAj r.kids.len (fun i hi acc c h ha H G c0 c1 => ?_) (fun i hi ihl acc c h ha H G c0 c1 => ?_) <;> rw [w31_2, b31_2]
 ·have h1 : ¬ (i : Int) < (r.kids.len : Int) := by omega
  simp (maxSteps := 9999999) +contextual only [exa, ne_eq, not_false_eq_true, reduceAdd, reduceMul, reduceLT, reduceLeDiff, reduceEqDiff, Int.reduceLT, Int.reduceLE, Int.reduceEq, Int.reduceToNat, exW, exY, H.a2, h1, qA3 hi, goodL]
  refine (qEl r _ h H rfl (by simp only [List.all_cons, List.all_nil, G.pt, Bool.and_true]; rfl)).trans ?_
  rw [VT.row_eq]
  cases acc with
  | nil => rw [c0 rfl]; rfl
  | cons a acc =>
   obtain ⟨q, e⟩ := c1 (by simp)
   rw [e, List.append_nil]; rfl
 ·have h1 : (i : Int) < (r.kids.len : Int) := by omega
  obtain ⟨x, hs, h2, hx⟩ := qAS hi
  have B2 : ∀ {β : Type} {O : Oracle} {h : Heap} {d : Nat} {kt : TVal → Heap → AI.Touch → Option β} (y : VT), vtouch O (.bslice 6 1 z6 [(0, .k (.v (.agg (pcells y.row))))] false) h d kt = kt (kSl 6 true [y.row]) h noTouch := fun y => qDG 6 _ _ rfl (VT.row_len y)
  obtain ⟨c', h', t', G', e', T', K', I', X'⟩ := qCg (d := 60) (by' := 88) (new := [(goodR x (IntKind.i64.wrap (deep - 1))).row]) (b := .slice 6 true [(goodR x (IntKind.i64.wrap (deep - 1))).row]) (.inr ⟨_, rfl⟩) G (by decide) (fun r hr => by simp at hr; rw [hr]; exact VT.row_len _) (by simp <;> omega) (by decide)
  have H' : GoodH r [.p (.int .i64 4), .p (.bool false), .p (.int .i64 0), .p (.str []), .p .nilslice, c] h' := ⟨K' 2 1 _ (by decide) H.a2, K' 4 1 _ (by decide) H.a4, K' 6 1 _ (by decide) H.a6⟩
  have P1 : ∀ a b c d f g : Cell, put1 [a, b, c, d, f, g] 5 [c'] = [a, b, c, d, f, c'] := fun _ _ _ _ _ _ => rfl
  obtain ⟨q, eq⟩ := X' (.inl (by simp))
  simp (maxSteps := 9999999) +contextual only [exa, ne_eq, not_false_eq_true, reduceAdd, reduceMul, reduceLT, reduceLeDiff, reduceEqDiff, Int.reduceLT, Int.reduceLE, Int.reduceEq, Int.reduceToNat, exW, exY, H.a2, H.a4, H.a6, H'.a2, H'.a4, H'.a6, h1, hs, y31 (ih x hx), B2, e', P1, qBW, qA5 i (by omega)]
  have G2 : GS [60] 6 c' ((acc ++ [goodR x (IntKind.i64.wrap (deep - 1))]).map VT.row) h' := by rw [List.map_append]; exact G'
  have := ihl (acc ++ [goodR x (IntKind.i64.wrap (deep - 1))]) c' _ (by simp; omega) (H'.put _) (G2.own 1 _ (by decide)) (fun e => absurd e (by simp)) (fun _ => ⟨q, by rw [eq, List.map_append]; rfl⟩)
  rw [List.append_assoc] at this
  rw [h2, goodL]
  exact this
theorem y81 {β : Type} {kt : TVal → Heap → AI.Touch → Option β} {h : Heap} {d : Nat} (v x : VT) (key : List UInt8) (hv : evenT 1000 v) : vtouch Om (.call (.k (.v (.c (.func 81 [])))) [.k (kA v.row), .k (kS key), .k (kA x.row)]) h d kt = kt (kA (putM v key x).row) h noTouch :=
 qBv 81 [kA v.row, kS key, kA x.row] _ (by simp only [exP]) (qDw v x key hv) (by simp only [exP])
theorem y79 {β : Type} {kt : TVal → Heap → AI.Touch → Option β} {h : Heap} {d : Nat} (a n : Int) (hn : 0 < n) (hs : n < 1000000) : vtouch Om (.call (.k (.v (.c (.func 79 [])))) [.k (kI a), .k (kI n)]) h d kt = kt (kI (withinM a n)) h noTouch :=
 qBv 79 [kI a, kI n] _ (by simp only [exP]) (qIN a n hn hs) (by simp only [exP])
theorem qSN (n : Int) : (keyL.map sRow)[(withinM n 8).toNat]? = some (sRow (keyM n)) := by
 have h := qBo n 8 (by decide)
 have h1 : (withinM n 8).toNat < keyL.length := by show _ < 8; omega
 rw [List.getElem?_map, List.getElem?_eq_getElem h1]
 unfold keyM
 rw [List.getD_eq_getElem?_getD, List.getElem?_eq_getElem h1]; rfl
theorem qO8 (r : RT) (deep : Int) (hl : r.kids.len ≤ 12) (hk : r.keys.len ≤ 12) (ih : ∀ x ∈ r.kids.list, GoodOK x) :
  ∀ (i : Nat) (v : VT) (h : Heap), evenT i v → GoodH r (pcells v.row) h →
  lim tab.get S 31 0 3 [kI deep, q2, q4, q6, kI (i : Int)] h = some (kA (tabM v (r.keys.list.drop i) (goodL (r.kids.list.drop i) (IntKind.i64.wrap (deep - 1)))).row, []) := by
 refine qAj r.kids.len (fun i hi v h ev H => ?_) (fun i hi ihl v h ev H => ?_) <;> rw [w31_3, b31_3]
 ·have h1 : ¬ (i : Int) < (r.kids.len : Int) := by omega
  simp (maxSteps := 9999999) +contextual only [exa, ne_eq, not_false_eq_true, reduceAdd, reduceMul, reduceLT, reduceLeDiff, reduceEqDiff, Int.reduceLT, Int.reduceLE, Int.reduceEq, Int.reduceToNat, exW, exY, H.a2, h1, qA3 hi, goodL, tabM]
  refine (qEl r _ h H (by rw [qAn, VT.row_len]) ?_).trans ?_
  ·show (pcells v.row).all isPT = true
   unfold pcells; rw [List.all_map, List.all_eq_true]; intro x _; rfl
  ·unfold pcells; rw [List.map_map]; rfl
 ·have h1 : (i : Int) < (r.kids.len : Int) := by omega
  obtain ⟨x, hs, h2, hx⟩ := qAS hi
  have B1 : ∀ {β : Type} {O : Oracle} {h : Heap} {d : Nat} {kt : TVal → Heap → AI.Touch → Option β}, vtouch O (.bslice 1 8 [.p (.str [])] [(0, .k (kS [97])), (1, .k (kS [98])), (2, .k (kS [99])), (3, .k (kS [110, 97, 109, 101])), (4, .k (kS [110])), (5, .k (kS [])), (6, .k (kS [120, 34, 121])), (7, .k (kS [10]))] false) h d kt = kt (kSl 1 true (keyL.map sRow)) h noTouch := qA0 _ _ rfl
  have step : ∀ n : Int, (r.keys.list.drop i).headD 0 = n → lim tab.get S 31 0 4 [kI deep, q2, q4, q6, kI (i : Int), kI n] h = some (kA (tabM v (r.keys.list.drop i) (goodL (r.kids.list.drop i) (IntKind.i64.wrap (deep - 1)))).row, []) := by
   intro n hn
   have wb := qBo n 8 (by decide)
   rw [w31_4, b31_4, h2, goodL, tabM, hn]
   have P : put1 (pcells v.row) 0 (pcells (putM v (keyM n) (goodR x (IntKind.i64.wrap (deep - 1)))).row) = pcells (putM v (keyM n) (goodR x (IntKind.i64.wrap (deep - 1)))).row := qBQ _ _ (by rw [qAn, qAn, VT.row_len, VT.row_len])
   have ev' : evenT 1000 v := ⟨ev.1, by have := ev.2; omega⟩
   simp (maxSteps := 9999999) +contextual only [exa, ne_eq, not_false_eq_true, reduceAdd, reduceMul, reduceLT, reduceLeDiff, reduceEqDiff, Int.reduceLT, Int.reduceLE, Int.reduceEq, Int.reduceToNat, exW, exY, H.a2, H.a4, H.a6, h1, hs, y31 (ih x hx), y79 n 8 (by decide) (by decide), y81 v _ _ ev', qSN, wb.1, B1, P, qBW, qA5 i (by omega)]
   have := ihl _ _ (qEx i v (goodR x (IntKind.i64.wrap (deep - 1))) (keyM n) ev) (H.put _)
   rw [← List.tail_drop] at this
   exact this
  by_cases h3 : (i : Int) < (r.keys.len : Int)
  ·obtain ⟨n, hn, h4, _⟩ := qAS (l := r.keys.list) (i := i) (by unfold Sl.len at h3; omega)
   simp (maxSteps := 9999999) +contextual only [exa, ne_eq, not_false_eq_true, reduceAdd, reduceMul, reduceLT, reduceLeDiff, reduceEqDiff, Int.reduceLT, Int.reduceLE, Int.reduceEq, Int.reduceToNat, exW, exY, H.a2, h1, h3, hn]
   exact step n (by rw [h4]; rfl)
  ·simp (maxSteps := 9999999) +contextual only [exa, ne_eq, not_false_eq_true, reduceAdd, reduceMul, reduceLT, reduceLeDiff, reduceEqDiff, Int.reduceLT, Int.reduceLE, Int.reduceEq, Int.reduceToNat, exW, exY, H.a2, h1, h3]
   exact step 0 (by rw [qA3 (l := r.keys.list) (i := i) (by unfold Sl.len at h3; omega)]; rfl)
theorem qPe (r : List PVal) : (pcells r).map Cell.strip = pcells r := by unfold pcells; rw [List.map_map]; rfl
theorem qT9 (r : List PVal) : (pcells r).all isPT = true := by unfold pcells; rw [List.all_map, List.all_eq_true]; intro x _; rfl
theorem qD2 (r : RT) (deep kk : Int) (hs : smR r) (hk : kk = kindM r.kind deep) (ih : ∀ x ∈ r.kids.list, GoodOK x) (h : Heap) (a2 : h.get (.own 2 1) = some (.cells (pcells r.row) 0)) (a4 : h.get (.own 4 1) = some (.cells z6 0)) (hg : h.gen 6 = 0) :
  lim tab.get S 31 0 1 [kI deep, q2, q4, kI kk] h = some (kA (goodR r deep).row, []) := by
 obtain ⟨s1, s2, s3, _⟩ := (qFw r).1 hs
 rw [w31_1, b31_1, qEu, ← hk]
 have H : ∀ cs, GoodH r cs (h.own 6 1 (.cells cs 0)) := fun cs => ⟨(Heap.own_get_ne h 6 1 _ 2 1 (by decide)).trans a2, (Heap.own_get_ne h 6 1 _ 4 1 (by decide)).trans a4, qBP h 6 1 _ 0 (by decide)⟩
 have H2 : ∀ cs cs', GoodH r cs' ((h.own 6 1 (.cells cs 0)).own 6 1 (.cells cs' 0)) := fun cs cs' => (H cs).put cs'
 have H3 : ∀ cs cs' cs'', GoodH r cs'' (((h.own 6 1 (.cells cs 0)).own 6 1 (.cells cs' 0)).own 6 1 (.cells cs'' 0)) := fun cs cs' cs'' => (H2 cs cs').put cs''
 have F : ∀ (cs : List Cell) (h : Heap) (v : VT), GoodH r cs h → cs = pcells v.row → lim tab.get S 31 0 5 [q4, q6] h = some (kA v.row, []) := by
  intro cs h v H e
  subst e
  refine (qEl r _ h H (by rw [qAn, VT.row_len]) (qT9 _)).trans ?_
  rw [qPe]
 by_cases k1 : kk = 1
 ·rw [k1]
  simp (maxSteps := 9999999) +contextual only [exa, ne_eq, not_false_eq_true, reduceAdd, reduceMul, reduceLT, reduceLeDiff, reduceEqDiff, Int.reduceLT, Int.reduceLE, Int.reduceEq, Int.reduceToNat, exW, exY, a2, a4, hg, goodK, if_true, qAZ 0 .i64 r.n 2 (by decide)]
  exact F _ _ _ (H3 _ _ _) rfl
 by_cases k2 : kk = 2
 ·rw [k2]
  simp (maxSteps := 9999999) +contextual only [exa, ne_eq, not_false_eq_true, reduceAdd, reduceMul, reduceLT, reduceLeDiff, reduceEqDiff, Int.reduceLT, Int.reduceLE, Int.reduceEq, Int.reduceToNat, exW, exY, a2, a4, hg, goodK, if_true, if_false]
  exact F _ _ _ (H3 _ _ _) rfl
 by_cases k3 : kk = 3
 ·rw [k3]
  simp (maxSteps := 9999999) +contextual only [exa, ne_eq, not_false_eq_true, reduceAdd, reduceMul, reduceLT, reduceLeDiff, reduceEqDiff, Int.reduceLT, Int.reduceLE, Int.reduceEq, Int.reduceToNat, exW, exY, a2, a4, hg, goodK, if_true, if_false, u80 r.s (by omega)]
  exact F _ _ _ (H3 _ _ _) rfl
 by_cases k4 : kk = 4
 ·rw [k4]
  simp (maxSteps := 9999999) +contextual only [exa, ne_eq, not_false_eq_true, reduceAdd, reduceMul, reduceLT, reduceLeDiff, reduceEqDiff, Int.reduceLT, Int.reduceLE, Int.reduceEq, Int.reduceToNat, exW, exY, a2, a4, hg, goodK, if_true, if_false]
  exact qMD r deep s1 ih 0 [] _ _ (Nat.le_refl _) (H2 _ _) (.inl ⟨rfl, rfl⟩) (fun _ => rfl) (fun e => absurd rfl e)
 by_cases k5 : kk = 5
 ·rw [k5]
  simp (maxSteps := 9999999) +contextual only [exa, ne_eq, not_false_eq_true, reduceAdd, reduceMul, reduceLT, reduceLeDiff, reduceEqDiff, Int.reduceLT, Int.reduceLE, Int.reduceEq, Int.reduceToNat, exW, exY, a2, a4, hg, goodK, if_true, if_false]
  refine (qO8 r deep s1 s3 ih 0 (v0 5) _ ⟨rfl, Nat.le_refl _⟩ (H2 _ _)).trans ?_
  rw [List.drop_zero, List.drop_zero]
 ·simp (maxSteps := 9999999) +contextual only [exa, ne_eq, not_false_eq_true, reduceAdd, reduceMul, reduceLT, reduceLeDiff, reduceEqDiff, Int.reduceLT, Int.reduceLE, Int.reduceEq, Int.reduceToNat, exW, exY, a2, a4, hg, k1, k2, k3, k4, k5, goodK, if_false]
  exact F _ _ _ (H2 _ _) rfl
theorem qQG : ∀ (n : Nat) (r : RT), SizeOf.sizeOf r < n → smR r → GoodOK r := by
 intro n
 induction n with
 | zero => intro r h; omega
 | succ n ihn =>
  intro r hs sm deep
  have ih : ∀ x ∈ r.kids.list, GoodOK x := fun x hx => ihn x (by have := RT.mem_size hx; omega) (((qFw r).1 sm).2.2.2 x hx)
  refine (qAA rfl).trans ?_
  show lim tab.get S 31 0 0 [kA r.row, kI deep] h0 = _
  rw [w31_0, b31_0]
  by_cases h1 : deep ≤ 1
  ·have h1' : ¬ (1 : Int) < deep := by omega
   by_cases h2 : 4 ≤ withinM r.kind 6
   ·have h2' : ¬ withinM r.kind 6 < 4 := by omega
    simp (maxSteps := 9999999) +contextual only [exa, ne_eq, not_false_eq_true, reduceAdd, reduceMul, reduceLT, reduceLeDiff, reduceEqDiff, Int.reduceLT, Int.reduceLE, Int.reduceEq, Int.reduceToNat, exW, exY, u79 r.kind 6 (by decide) (by decide), h1, h1', h2, h2']
    exact qD2 r deep 2 sm (by unfold kindM; rw [if_pos ⟨h1, h2⟩]) ih _ rfl rfl rfl
   ·have h2' : withinM r.kind 6 < 4 := by omega
    simp (maxSteps := 9999999) +contextual only [exa, ne_eq, not_false_eq_true, reduceAdd, reduceMul, reduceLT, reduceLeDiff, reduceEqDiff, Int.reduceLT, Int.reduceLE, Int.reduceEq, Int.reduceToNat, exW, exY, u79 r.kind 6 (by decide) (by decide), h1, h1', h2, h2']
    exact qD2 r deep _ sm (by unfold kindM; rw [if_neg (fun x => h2 x.2)]) ih _ rfl rfl rfl
  ·have h1' : (1 : Int) < deep := by omega
   simp (maxSteps := 9999999) +contextual only [exa, ne_eq, not_false_eq_true, reduceAdd, reduceMul, reduceLT, reduceLeDiff, reduceEqDiff, Int.reduceLT, Int.reduceLE, Int.reduceEq, Int.reduceToNat, exW, exY, u79 r.kind 6 (by decide) (by decide), h1, h1']
   exact qD2 r deep _ sm (by unfold kindM; rw [if_neg (fun x => h1 x.1)]) ih _ rfl rfl rfl
theorem u31 {β : Type} {k : TVal → Heap → Option β} {h : Heap} {d : Nat} (r : RT) (sm : smR r) (n : Int) : vcall Om (.v (.c (.func 31 []))) [kA r.row, kI n] h d k = k (kA (goodR r n).row) h := qAB 31 _ _ (by simp only [exP]) (qQG _ r (Nat.lt_succ_self _) sm n) (by simp only [exP])
open Go Go.AI
def cloneS {α : Type} : Sl α → Sl α
 | .nil => .nil
 | .mk _ [] => .mk true []
 | .mk _ (a :: l) => .mk false (a :: l)
theorem qEP {α : Type} (s : Sl α) : (cloneS s).list = s.list := by
 match s with
 | .nil => rfl
 | .mk _ [] => rfl
 | .mk _ (a :: l) => rfl
theorem qGV {β : Type} {h : Heap} {k : TVal → Heap → Option β} : vbin .eql 2 kNil (.v (.c (.p .nilslice))) h k = k (kB true) h := qAT _ _ _ _ _ rfl
theorem qC4 {β : Type} {h : Heap} {k : TVal → Heap → Option β} (sz : Nat) (t : Bool) (rows : List (List PVal)) : vbin .eql 2 (kSl sz t rows) (.v (.c (.p .nilslice))) h k = k (kB false) h := qAT _ _ _ _ _ rfl
theorem qUQ {β : Type} {O : Oracle} {h : Heap} {d : Nat} {k : TVal → Heap → Option β} (t : Bool) : vop O (.append 1 16 false (.k (kSl 1 true [])) (.k (kSl 1 t []))) h d k = k (kSl 1 true []) h := by
 show opK O _ .nil h d k = _
 rw [qAg]; rfl
theorem qOn (s : Sl (List UInt8)) (hl : s.len ≤ 1000000) : Om 132 [.v (.c (.p (slP 1 sRow s)))] [] = some (.v (.c (.p (slP 1 sRow (cloneS s)))), []) := by
 refine (qAA rfl).trans ?_
 show lim tab.get S 132 0 0 [.v (.c (.p (slP 1 sRow s)))] h0 = _
 rw [w132_0, b132_0]
 match s, hl with
 | .nil, _ =>
  simp (maxSteps := 9999999) +contextual only [exa, ne_eq, not_false_eq_true, reduceAdd, reduceMul, reduceLT, reduceLeDiff, reduceEqDiff, Int.reduceLT, Int.reduceLE, Int.reduceEq, Int.reduceToNat, slP, qGV, cloneS, oneOf]
 | .mk t [], _ =>
  simp (maxSteps := 9999999) +contextual only [exa, ne_eq, not_false_eq_true, reduceAdd, reduceMul, reduceLT, reduceLeDiff, reduceEqDiff, Int.reduceLT, Int.reduceLE, Int.reduceEq, Int.reduceToNat, slP, qC4, cloneS, oneOf, List.map_nil, qNB, qUQ]
 | .mk t (a :: l), hl =>
  obtain ⟨c', h', t', G', e', T', K', I', X'⟩ := qCg (h := h0) (d := 7) (D := [7]) (sz := 1) (by' := 16) (v := .p (.slice 1 true [])) (rows := []) (new := (a :: l).map sRow) (b := .slice 1 t ((a :: l).map sRow)) (.inr ⟨_, rfl⟩) (.inr (.inl rfl)) (by decide) (fun r hr => by obtain ⟨x, _, rfl⟩ := List.mem_map.1 hr; rfl) (by simp [Sl.len, Sl.list] at hl ⊢; omega) (by decide)
  obtain ⟨q, eq⟩ := X' (.inl (by simp))
  simp (maxSteps := 9999999) +contextual only [exa, ne_eq, not_false_eq_true, reduceAdd, reduceMul, reduceLT, reduceLeDiff, reduceEqDiff, Int.reduceLT, Int.reduceLE, Int.reduceEq, Int.reduceToNat, slP, qC4, cloneS, oneOf, qCt e']
  rw [eq, qDl _ rfl]
  rfl
theorem y132 {β : Type} {kt : TVal → Heap → AI.Touch → Option β} {h : Heap} {d : Nat} (s : Sl (List UInt8)) (hl : s.len ≤ 1000000) : vtouch Om (.call (.k (.v (.c (.func 132 [])))) [.k (.v (.c (.p (slP 1 sRow s))))]) h d kt = kt (.v (.c (.p (slP 1 sRow (cloneS s))))) h noTouch :=
 qBv 132 [.v (.c (.p (slP 1 sRow s)))] _ (by simp only [exP]) (qOn s hl) (by simp only [exP])
def capO {α : Type} (l : List α) : Option Nat := match l with
 | [] => some 0
 | _ => none
theorem qH0 : Om 105 [kNil] [] = some (kNil, []) := by
 refine (qAA rfl).trans ?_
 show lim tab.get S 105 0 0 [kNil] h0 = _
 rw [w105_0, b105_0]
 simp (maxSteps := 9999999) +contextual only [exa, ne_eq, not_false_eq_true, reduceAdd, reduceMul, reduceLT, reduceLeDiff, reduceEqDiff, Int.reduceLT, Int.reduceLE, Int.reduceEq, Int.reduceToNat, qGV]
theorem qPR (t : Bool) (l : List VT) (hl : l.length ≤ 1000000) : Om 105 [kSl 6 t (l.map VT.row)] [] = some (.v (.c (.sref (.im 0) 0 l.length (capO l) 6)), [.cells (pcells (l.map VT.row).flatten) 0]) := by
 refine (qAA rfl).trans ?_
 show lim tab.get S 105 0 0 [kSl 6 t (l.map VT.row)] h0 = _
 rw [w105_0, b105_0]
 have g0 : (h0.push (.cells [] 0)).get (.im h0.ims.length) = some (.cells [] 0) := Heap.get_push_eq h0 (fun e => by cases e)
 cases l with
 | nil =>
  have A : ∀ {β : Type} {k : TVal → Heap → Option β} {d : Nat}, vop Om (.append 6 88 true (.k (.v (.c (.sref (.im h0.ims.length) 0 0 (some 0) 6)))) (.k (kSl 6 t []))) (h0.push (.cells [] 0)) d k = k (.v (.c (.sref (.im h0.ims.length) 0 0 (some 0) 6))) (h0.push (.cells [] 0)) := qLU (.inr ⟨_, rfl⟩) g0
  simp (maxSteps := 9999999) +contextual only [exa, ne_eq, not_false_eq_true, reduceAdd, reduceMul, reduceLT, reduceLeDiff, reduceEqDiff, Int.reduceLT, Int.reduceLE, Int.reduceEq, Int.reduceToNat, qC4, List.map_nil, qDo, A]
  exact qJ3 0 0 6 (some 0) [] rfl
 | cons a l =>
  have A : ∀ {β : Type} {k : TVal → Heap → Option β} {d : Nat}, vop Om (.append 6 88 true (.k (.v (.c (.sref (.im h0.ims.length) 0 0 (some 0) 6)))) (.k (kSl 6 t ((a :: l).map VT.row)))) (h0.push (.cells [] 0)) d k = k (.v (.c (.sref (.im (h0.push (.cells [] 0)).ims.length) 0 ((a :: l).map VT.row).length none 6))) ((h0.push (.cells [] 0)).push (.cells (pcells ((a :: l).map VT.row).flatten) 0)) :=
   qGY (.inr ⟨_, rfl⟩) (by simp) (by rw [List.length_map]; omega) g0
  simp (maxSteps := 9999999) +contextual only [exa, ne_eq, not_false_eq_true, reduceAdd, reduceMul, reduceLT, reduceLeDiff, reduceEqDiff, Int.reduceLT, Int.reduceLE, Int.reduceEq, Int.reduceToNat, qC4, qDo, A]
  rw [List.length_map]
  exact qJ3 1 _ 6 none _ rfl
mutual
def ownV : VT → VT
 | .mk k b n s ks l => .mk k b n s (cloneS ks) (ownS l)
def ownS : Sl VT → Sl VT
 | .nil => .nil
 | .mk _ [] => .mk true []
 | .mk _ (v :: l) => .mk false (ownV v :: ownL l)
def ownL : List VT → List VT
 | [] => []
 | v :: l => ownV v :: ownL l
end
theorem qJ0 : ∀ l : List VT, ownL l = l.map ownV
 | [] => by simp [ownL]
 | v :: l => by simp [ownL, qJ0 l]
theorem qJl (t : Bool) (l : List VT) : ownS (.mk t l) = .mk (capO l == some l.length) (l.map ownV) := by
 cases l with
 | nil => simp [ownS, capO]
 | cons a l => simp [ownS, capO, qJ0]
theorem qBb (v : VT) : ownV v = .mk v.kind v.b v.n v.s (cloneS v.keys) (ownS v.l) := by cases v; rfl
mutual
def smV : VT → Prop
 | .mk k b n s ks l => s.length ≤ 100000 ∧ ks.len ≤ 1000 ∧ l.len ≤ 1000 ∧ smVS l
def smVS : Sl VT → Prop
 | .nil => True
 | .mk _ l => smVL l
def smVL : List VT → Prop
 | [] => True
 | r :: rs => smV r ∧ smVL rs
end
theorem qJe : ∀ l : List VT, smVL l ↔ ∀ x ∈ l, smV x
 | [] => by simp [smVL]
 | r :: l => by simp [smVL, qJe l]
theorem qAp (r : VT) : smV r ↔ r.s.length ≤ 100000 ∧ r.keys.len ≤ 1000 ∧ r.l.len ≤ 1000 ∧ ∀ x ∈ r.l.list, smV x := by
 cases r with
 | mk k b n s ks l =>
  rw [smV, ← qJe]
  cases l <;> simp [smVS, smVL, Sl.list, VT.keys, VT.s, VT.l]
def OwnOK (x : VT) : Prop := Om 156 [kA x.row] [] = some (kA (ownV x).row, [])
theorem y156 {β : Type} {kt : TVal → Heap → AI.Touch → Option β} {h : Heap} {d : Nat} {x : VT} (ok : OwnOK x) : vtouch Om (.call (.k (.v (.c (.func 156 [])))) [.k (kA x.row)]) h d kt = kt (kA (ownV x).row) h noTouch :=
 qBv 156 [kA x.row] _ (by simp only [exP]) ok (by simp only [exP])
abbrev o1 : TVal := .v (.c (.ptr (.own 1 1) 0))
abbrev o2 : TVal := .v (.c (.ptr (.own 2 1) 0))
theorem qKA (v : VT) (cs : List Cell) (h : Heap) (hc : cs.length = 6) (X : Option (TVal × List AObj)) (a1 : h.get (.own 1 1) = some (.cells cs 0)) (a2 : h.get (.own 2 1) = some (.cells [.p (.int .i64 0), .p (.bool false), .p (.int .i64 0), .p (.str []), .p .nilslice, .p .nilslice] 0)) (hx : ∀ h', (∀ i, h'.get (.im i) = h.get (.im i)) → vfin true 0 [.agg cs] h' = X) : lim tab.get S 156 0 2 [o1, o2] h = X := by
 rw [w156_2, b156_2]
 have ht : cs.take 6 = cs := List.take_of_length_le (by omega)
 have hz : put1 [.p (.int .i64 0), .p (.bool false), .p (.int .i64 0), .p (.str []), .p .nilslice, .p .nilslice] 0 cs = cs := qBQ _ _ hc
 simp (maxSteps := 9999999) +contextual only [exa, ne_eq, not_false_eq_true, reduceAdd, reduceMul, reduceLT, reduceLeDiff, reduceEqDiff, Int.reduceLT, Int.reduceLE, Int.reduceEq, Int.reduceToNat, a1, a2, ht, hz, hc]
 exact hx _ (fun i => rfl)
def rowsAt (l : List VT) (i : Nat) : List (List PVal) := (l.take i).map (fun v => (ownV v).row) ++ (l.drop i).map VT.row
theorem qDE (l : List VT) (i : Nat) : (rowsAt l i).length = l.length := by unfold rowsAt; rw [List.length_append, List.length_map, List.length_map, List.length_take, List.length_drop]; omega
theorem qCN (l : List VT) (i : Nat) : ∀ r ∈ rowsAt l i, r.length = 6 := by
 intro r hr
 rcases List.mem_append.1 hr with h | h
 ·obtain ⟨a, _, rfl⟩ := List.mem_map.1 h; exact VT.row_len _
 ·obtain ⟨a, _, rfl⟩ := List.mem_map.1 h; exact VT.row_len _
theorem qLA (l : List VT) (i : Nat) (x : VT) (hx : l[i]? = some x) : (rowsAt l i)[i]? = some x.row := by
 obtain ⟨hi, e⟩ := List.getElem?_eq_some_iff.1 hx
 unfold rowsAt
 rw [List.getElem?_append_right (by simp; omega), List.length_map, List.length_take, Nat.min_eq_left (by omega), Nat.sub_self, List.getElem?_map, List.getElem?_drop, Nat.add_zero, hx]; rfl
theorem qLe (l : List VT) (i : Nat) (x : VT) (hx : l[i]? = some x) : (rowsAt l i).set i (ownV x).row = rowsAt l (i + 1) := by
 obtain ⟨hi, e⟩ := List.getElem?_eq_some_iff.1 hx
 unfold rowsAt
 have h1 : ((l.take i).map (fun v => (ownV v).row)).length = i := by rw [List.length_map, List.length_take]; omega
 rw [List.set_append_right _ _ (by omega), h1, Nat.sub_self, List.drop_eq_getElem_cons hi, List.map_cons, List.set_cons_zero, List.take_succ_eq_append_getElem hi, List.map_append, e]
 simp
theorem qLV (l : List VT) : rowsAt l l.length = (l.map ownV).map VT.row := by unfold rowsAt; simp
abbrev ownC (v : VT) (n : Nat) (cap : Option Nat) : List Cell := [.p (.int .i64 v.kind), .p (.bool v.b), .p (.int .i64 v.n), .p (.str v.s), .p (slP 1 sRow (cloneS v.keys)), .sref (.im 0) 0 n cap 6]
theorem qOH (v : VT) (l : List VT) (hl : l.length ≤ 1000) (ih : ∀ x ∈ l, OwnOK x) : ∀ (i : Nat) (h : Heap), i ≤ l.length → h.get (.own 1 1) = some (.cells (ownC v l.length (capO l)) 0) → h.get (.own 2 1) = some (.cells [.p (.int .i64 0), .p (.bool false), .p (.int .i64 0), .p (.str []), .p .nilslice, .p .nilslice] 0) → h.get (.im 0) = some (.cells (pcells (rowsAt l i).flatten) 0) →
  lim tab.get S 156 0 1 [o1, o2, .v (.c (.sref (.im 0) 0 l.length (capO l) 6)), kI (l.length : Int), kI (i : Int)] h = some (kA [.int .i64 v.kind, .bool v.b, .int .i64 v.n, .str v.s, slP 1 sRow (cloneS v.keys), .slice 6 (capO l == some l.length) ((l.map ownV).map VT.row)], []) := by
 refine qAj l.length (fun i hi h hle a1 a2 a3 => ?_) (fun i hi ihl h hle a1 a2 a3 => ?_) <;> rw [w156_1, b156_1]
 ·have h1 : ¬ (i : Int) < (l.length : Int) := by omega
  have hil : i = l.length := by omega
  subst hil
  simp (maxSteps := 9999999) +contextual only [exa, ne_eq, not_false_eq_true, reduceAdd, reduceMul, reduceLT, reduceLeDiff, reduceEqDiff, Int.reduceLT, Int.reduceLE, Int.reduceEq, Int.reduceToNat, h1]
  refine qKA v _ h rfl _ a1 a2 (fun h' him => ?_)
  have e := qOh (h := h') 0 6 (capO l) [.int .i64 v.kind, .bool v.b, .int .i64 v.n, .str v.s, slP 1 sRow (cloneS v.keys)] (rowsAt l l.length) (qCN l _) ((him 0).trans a3)
  rw [qDE, qLV] at e
  exact e
 ·have h1 : (i : Int) < (l.length : Int) := by omega
  obtain ⟨x, hs, h2, hx⟩ := qAS hi
  have f1 := qQL (qCN l i) i _ (qLA l i x hs)
  have f2 := qPC (qCN l i) i (by rw [qDE]; exact hi) _ (VT.row_len (ownV x))
  rw [qLe l i x hs] at f2
  have hlen : (pcells (rowsAt l i).flatten).length = l.length * 6 := by rw [qEk (qCN l i), qDE]
  have g1 : i * 6 + 6 ≤ l.length * 6 := by omega
  have z1 : 0 + i * 6 = i * 6 := by omega
  have P0 : ∀ xs : List PVal, xs.length = 6 → put1 [.p (.int .i64 0), .p (.bool false), .p (.int .i64 0), .p (.str []), .p .nilslice, .p .nilslice] 0 (pcells xs) = pcells xs := fun xs hx => qBQ _ _ (by rw [qAn, hx]; rfl)
  have a3' : ∀ g o, (h.own 4 g o).get (.im 0) = some (.cells (pcells (rowsAt l i).flatten) 0) := fun _ _ => a3
  simp (maxSteps := 9999999) +contextual only [exa, ne_eq, not_false_eq_true, reduceAdd, reduceMul, reduceLT, reduceLeDiff, reduceEqDiff, Int.reduceLT, Int.reduceLE, Int.reduceEq, Int.reduceToNat, exY, h1, hi, a1, a2, a3, f1, f2, hlen, g1, z1, Nat.zero_le, P0 _ (VT.row_len x), y156 (ih x hx), qBW, qA5 i (by omega)]
  exact ihl _ (by omega) ((Heap.own_get_ne _ 4 _ _ 1 1 (by decide)).trans ((Heap.own_get_ne h 4 _ _ 1 1 (by decide)).trans a1)) ((Heap.own_get_ne _ 4 _ _ 2 1 (by decide)).trans ((Heap.own_get_ne h 4 _ _ 2 1 (by decide)).trans a2)) (qAW _ 0 _ _ (by show (h.get (.im 0)).isSome = true; rw [a3]; rfl))
theorem qFN : ∀ (m : Nat) (v : VT), SizeOf.sizeOf v < m → smV v → OwnOK v := by
 intro m
 induction m with
 | zero => intro v h; omega
 | succ m ihm =>
  intro v hs sm
  obtain ⟨s1, s2, s3, s4⟩ := (qAp v).1 sm
  have ih : ∀ x ∈ v.l.list, OwnOK x := fun x hx => ihm x (by have := VT.mem_size hx; omega) (s4 x hx)
  refine (qAA rfl).trans ?_
  show lim tab.get S 156 0 0 [kA v.row] h0 = _
  rw [w156_0, b156_0, qBb]
  have P1 : put1 (pcells v.row) 4 [.p (slP 1 sRow (cloneS v.keys))] = [.p (.int .i64 v.kind), .p (.bool v.b), .p (.int .i64 v.n), .p (.str v.s), .p (slP 1 sRow (cloneS v.keys)), .p (slP 6 VT.row v.l)] := by rw [VT.row_eq]; rfl
  have P2 : ∀ a b c d f g x : Cell, put1 [a, b, c, d, f, g] 5 [x] = [a, b, c, d, f, x] := fun _ _ _ _ _ _ _ => rfl
  cases hl : v.l with
  | nil =>
   have Y : ∀ {β : Type} {kt : TVal → Heap → AI.Touch → Option β} {h : Heap} {d : Nat}, vtouch Om (.call (.k (.v (.c (.func 105 [])))) [.k (.v (.c (.p (slP 6 VT.row v.l))))]) h d kt = kt kNil h noTouch := fun {β kt h d} => by rw [hl]; exact qBv 105 [kNil] _ rfl qH0 rfl
   simp (maxSteps := 9999999) +contextual only [exa, ne_eq, not_false_eq_true, reduceAdd, reduceMul, reduceLT, reduceLeDiff, reduceEqDiff, Int.reduceLT, Int.reduceLE, Int.reduceEq, Int.reduceToNat, exY, y132 v.keys (by omega), Y, P1, P2, qBW]
   rw [w156_1, b156_1]
   simp (maxSteps := 9999999) +contextual only [exa, ne_eq, not_false_eq_true, reduceAdd, reduceMul, reduceLT, reduceLeDiff, reduceEqDiff, Int.reduceLT, Int.reduceLE, Int.reduceEq, Int.reduceToNat]
   refine qKA v _ _ rfl _ rfl rfl (fun h' _ => ?_)
   refine (qDl _ rfl).trans ?_
   rw [VT.row_eq]; rfl
  | mk t l =>
   have hll : l.length ≤ 1000 := by rw [hl] at s3; exact s3
   have ih' : ∀ x ∈ l, OwnOK x := fun x hx => ih x (by rw [hl]; exact hx)
   have Y : ∀ {β : Type} {kt : TVal → Heap → AI.Touch → Option β} {h : Heap} {d : Nat}, vtouch Om (.call (.k (.v (.c (.func 105 [])))) [.k (.v (.c (.p (slP 6 VT.row v.l))))]) h d kt = kt (.v (.c (.sref (.im h.ims.length) 0 l.length (capO l) 6))) (h.push (.cells (pcells (l.map VT.row).flatten) 0)) ⟨[], [.im h.ims.length], true⟩ := fun {β kt h d} => by rw [hl]; exact qNM 105 [kSl 6 t (l.map VT.row)] _ _ _ _ rfl (qPR t l (by omega))
   simp (maxSteps := 9999999) +contextual only [exa, ne_eq, not_false_eq_true, reduceAdd, reduceMul, reduceLT, reduceLeDiff, reduceEqDiff, Int.reduceLT, Int.reduceLE, Int.reduceEq, Int.reduceToNat, exY, exU, y132 v.keys (by omega), Y, P1, P2, qBW]
   refine (qOH v l hll ih' 0 _ (Nat.zero_le _) rfl rfl ?_).trans ?_
   ·show _ = some (AObj.cells (pcells (l.map VT.row).flatten) 0)
    rfl
   ·rw [qJl, VT.row_eq]; rfl
theorem qUH {β : Type} {k : TVal → Heap → Option β} {h : Heap} {d : Nat} (v : VT) (sm : smV v) : vcall Om (.v (.c (.func 156 []))) [kA v.row] h d k = k (kA (ownV v).row) h := qAB 156 _ _ (by simp only [exP]) (qFN _ v (Nat.lt_succ_self _) sm) (by simp only [exP])
open Go Go.AI
def getM (v : VT) (key : List UInt8) : Option VT := if v.kind = 5 then (idxM key v.keys.list).bind fun i => v.l.list[i]? else none
def ansG (o : Option VT) : TVal := match o with
 | none => .tup [.agg (pcells VT.nul.row), .c (.p (.bool false))]
 | some x => .tup [.agg (pcells x.row), .c (.p (.bool true))]
theorem qAC (r : List PVal) (hr : r.length = 6) : put1 [.p (.int .i64 0), .p (.bool false), .p (.int .i64 0), .p (.str []), .p .nilslice, .p .nilslice] 0 (pcells r) = pcells r := qBQ _ _ (by rw [qAn, hr]; rfl)
theorem qMb (v : VT) (key : List UInt8) (sm : smV v) : Om 93 [kA v.row, kS key] [] = some (ansG ((getM v key).map ownV), []) := by
 obtain ⟨s1, s2, s3, s4⟩ := (qAp v).1 sm
 refine (qAA rfl).trans ?_
 show lim tab.get S 93 0 0 [kA v.row, kS key] h0 = _
 rw [w93_0, b93_0]
 by_cases hk : v.kind = 5
 ·unfold getM
  rw [if_pos hk]
  cases hi : idxM key v.keys.list with
  | none =>
   have e1 : idxI (none : Option Nat) 0 < 0 := by decide
   simp (maxSteps := 9999999) +contextual only [exa, ne_eq, not_false_eq_true, reduceAdd, reduceMul, reduceLT, reduceLeDiff, reduceEqDiff, Int.reduceLT, Int.reduceLE, Int.reduceEq, Int.reduceToNat, exY, qKW v.keys key (by omega), hk, hi, e1]
   rfl
  | some i =>
   have e1 : ¬ ((i : Int) < 0) := by omega
   have e2 : idxI (some i) 0 = (i : Int) := by show ((0 + i : Nat) : Int) = _; omega
   by_cases hl : i < v.l.len
   ·have hl' : (i : Int) < (v.l.len : Int) := by omega
    obtain ⟨x, hs, _, hx⟩ := qAS (l := v.l.list) (i := i) hl
    simp (maxSteps := 9999999) +contextual only [exa, ne_eq, not_false_eq_true, reduceAdd, reduceMul, reduceLT, reduceLeDiff, reduceEqDiff, Int.reduceLT, Int.reduceLE, Int.reduceEq, Int.reduceToNat, exY, qKW v.keys key (by omega), hk, hi, e1, e2, hl', hs, qUH x (s4 x hx), qAC _ (VT.row_len (ownV x))]
    show _ = some (ansG (Option.map ownV (v.l.list[i]?)), [])
    rw [hs]; rfl
   ·have hl' : ¬ (i : Int) < (v.l.len : Int) := by omega
    have hn : v.l.list[i]? = none := List.getElem?_eq_none (by unfold Sl.len at hl; omega)
    simp (maxSteps := 9999999) +contextual only [exa, ne_eq, not_false_eq_true, reduceAdd, reduceMul, reduceLT, reduceLeDiff, reduceEqDiff, Int.reduceLT, Int.reduceLE, Int.reduceEq, Int.reduceToNat, exY, qKW v.keys key (by omega), hk, hi, e1, e2, hl', hn]
    show _ = some (ansG (Option.map ownV (v.l.list[i]?)), [])
    rw [hn]; rfl
 ·unfold getM
  rw [if_neg hk]
  simp (maxSteps := 9999999) +contextual only [exa, ne_eq, not_false_eq_true, reduceAdd, reduceMul, reduceLT, reduceLeDiff, reduceEqDiff, Int.reduceLT, Int.reduceLE, Int.reduceEq, Int.reduceToNat, exY, qKW v.keys key (by omega), hk]
  rfl
theorem y93 {β : Type} {kt : TVal → Heap → AI.Touch → Option β} {h : Heap} {d : Nat} (v : VT) (key : List UInt8) (sm : smV v) : vtouch Om (.call (.k (.v (.c (.func 93 [])))) [.k (kA v.row), .k (kS key)]) h d kt = kt (ansG ((getM v key).map ownV)) h noTouch :=
 qBv 93 [kA v.row, kS key] _ (by simp only [exP]) (qMb v key sm) (by cases (getM v key).map ownV <;> simp only [ansG, exP])
theorem u93 {β : Type} {k : TVal → Heap → Option β} {h : Heap} {d : Nat} (v : VT) (key : List UInt8) (sm : smV v) : vcall Om (.v (.c (.func 93 []))) [kA v.row, kS key] h d k = k (ansG ((getM v key).map ownV)) h :=
 qAB 93 _ _ (by simp only [exP]) (qMb v key sm) (by cases (getM v key).map ownV <;> simp only [ansG, exP])
theorem qMt {β : Type} {O : Oracle} {h : Heap} {d : Nat} {k : TVal → Heap → Option β} (r : List PVal) (hr : r.length = 6) : vop O (.bslice 6 1 [.p (.int .i64 0), .p (.bool false), .p (.int .i64 0), .p (.str []), .p .nilslice, .p .nilslice] [(0, .k (.v (.agg (pcells r))))] false) h d k = k (kSl 6 true [r]) h := by
 rw [qGT, qDG 6 _ r rfl hr]
def boxT (v : VT) : VT := .mk 5 false 0 [] (.mk true [[]]) (.mk true [v])
theorem qPX (v : VT) : getM (boxT v) [] = some v := rfl
theorem qQr (v : VT) (sm : smV v) : smV (boxT v) := (qAp _).2 ⟨by show 0 ≤ 100000; decide, by show 1 ≤ 1000; decide, by show 1 ≤ 1000; decide, fun x hx => by
 have : x ∈ [v] := hx
 rw [List.mem_singleton.1 this]; exact sm⟩
theorem qRN (v : VT) (sm : smV v) : Om 95 [kA v.row] [] = some (kA (ownV v).row, []) := by
 refine (qAA rfl).trans ?_
 show lim tab.get S 95 0 0 [kA v.row] h0 = _
 rw [w95_0, b95_0]
 have U : CAL 93 [.v (.agg [.p (.int .i64 5), .p (.bool false), .p (.int .i64 0), .p (.str []), .p (.slice 1 true [[.str []]]), .p (.slice 6 true [v.row])]), kS []] (.tup [.agg (pcells (ownV v).row), .c (.p (.bool true))]) := fun {β k h d} => by
  have e := u93 (k := k) (h := h) (d := d) (boxT v) [] (qQr v sm)
  rw [qPX] at e
  have er : (boxT v).row = [.int .i64 5, .bool false, .int .i64 0, .str [], .slice 1 true [[.str []]], .slice 6 true [v.row]] := by rw [VT.row_eq]; rfl
  rw [er] at e
  exact e
 simp (maxSteps := 9999999) +contextual only [exa, ne_eq, not_false_eq_true, reduceAdd, reduceMul, reduceLT, reduceLeDiff, reduceEqDiff, Int.reduceLT, Int.reduceLE, Int.reduceEq, Int.reduceToNat, exY, U, qMt _ (VT.row_len v), qAC _ (VT.row_len (ownV v)), qGZ]
theorem u95 {β : Type} {k : TVal → Heap → Option β} {h : Heap} {d : Nat} (v : VT) (sm : smV v) : vcall Om (.v (.c (.func 95 []))) [kA v.row] h d k = k (kA (ownV v).row) h := qAB 95 _ _ (by simp only [exP]) (qRN v sm) (by simp only [exP])
mutual
def sameV : VT → VT → Bool
 | .mk k b n s ks l, w => (decide (k = w.kind) && (b == w.b) && decide (n = w.n) && decide (s = w.s) && decide (ks.list = w.keys.list)) && sameS l w.l.list
def sameS : Sl VT → List VT → Bool
 | .nil, m => m.isEmpty
 | .mk _ l, m => sameL l m
def sameL : List VT → List VT → Bool
 | [], [] => true
 | x :: l, y :: m => sameV x y && sameL l m
 | _, _ => false
end
theorem qGw : ∀ m : List VT, sameL [] m = m.isEmpty
 | [] => by simp [sameL]
 | _ :: _ => by simp [sameL]
theorem qEp (v w : VT) : sameV v w = ((decide (v.kind = w.kind) && (v.b == w.b) && decide (v.n = w.n) && decide (v.s = w.s) && decide (v.keys.list = w.keys.list)) && sameL v.l.list w.l.list) := by
 cases v with
 | mk k b n s ks l =>
  cases l with
  | nil => rw [sameV, sameS]; show _ = (_ && sameL [] _); rw [qGw]; rfl
  | mk t l => rw [sameV, sameS]; rfl
def diffV (v w : VT) : Bool := !decide (v.kind = w.kind) || !v.b == w.b || !decide (v.n = w.n) || !decide (v.s = w.s) || !decide ((v.keys.len : Int) = (w.keys.len : Int)) || !decide ((v.l.len : Int) = (w.l.len : Int))
def SameOK (x : VT) : Prop := ∀ y, Om 24 [kA x.row, kA y.row] [] = some (kB (sameV x y), [])
abbrev s2 : TVal := .v (.c (.ptr (.own 2 1) 0))
abbrev s3 : TVal := .v (.c (.ptr (.own 3 1) 0))
theorem qL8 (v w : VT) (h : Heap) (a2 : h.get (.own 2 1) = some (.cells (pcells v.row) 0)) (a3 : h.get (.own 3 1) = some (.cells (pcells w.row) 0)) (hl : v.keys.len = w.keys.len) (hb : v.keys.len ≤ 1000) :
  ∀ i : Nat, lim tab.get S 24 0 1 [s2, s3, kI (i : Int)] h = if v.keys.list.drop i = w.keys.list.drop i then lim tab.get S 24 0 2 [s2, s3] h else some (kB false, []) := by
 refine qAj v.keys.len (fun i hi => ?_) (fun i hi ih => ?_) <;> rw [w24_1, b24_1]
 ·have h1 : ¬ (i : Int) < (v.keys.len : Int) := by omega
  rw [qA3 (l := w.keys.list) (i := i) (by unfold Sl.len at hl hi; omega)]
  simp (maxSteps := 9999999) +contextual only [exa, ne_eq, not_false_eq_true, reduceAdd, reduceMul, reduceLT, reduceLeDiff, reduceEqDiff, Int.reduceLT, Int.reduceLE, Int.reduceEq, Int.reduceToNat, a2, a3, h1, qA3 hi, if_true]
 ·have h1 : (i : Int) < (v.keys.len : Int) := by omega
  obtain ⟨x, hx, e1, _⟩ := qAS hi
  obtain ⟨y, hy, e2, _⟩ := qAS (l := w.keys.list) (i := i) (by unfold Sl.len at hl hi; omega)
  rw [e1, e2]
  by_cases hxy : x = y
  ·subst hxy
   simp (maxSteps := 9999999) +contextual only [exa, ne_eq, not_false_eq_true, reduceAdd, reduceMul, reduceLT, reduceLeDiff, reduceEqDiff, Int.reduceLT, Int.reduceLE, Int.reduceEq, Int.reduceToNat, a2, a3, h1, hx, hy, qA5 i (by omega), ih, List.cons.injEq, true_and]
  ·simp (maxSteps := 9999999) +contextual only [exa, ne_eq, not_false_eq_true, reduceAdd, reduceMul, reduceLT, reduceLeDiff, reduceEqDiff, Int.reduceLT, Int.reduceLE, Int.reduceEq, Int.reduceToNat, a2, a3, h1, hx, hy, hxy, List.cons.injEq, false_and, if_false, oneOf]
theorem qMC (v w : VT) (h : Heap) (a2 : h.get (.own 2 1) = some (.cells (pcells v.row) 0)) (a3 : h.get (.own 3 1) = some (.cells (pcells w.row) 0)) (hl : v.l.len = w.l.len) (hb : v.l.len ≤ 1000) (ok : ∀ x ∈ v.l.list, SameOK x) :
  ∀ i : Nat, lim tab.get S 24 0 3 [s2, s3, kI (i : Int)] h = some (kB (sameL (v.l.list.drop i) (w.l.list.drop i)), []) := by
 refine qAj v.l.len (fun i hi => ?_) (fun i hi ih => ?_) <;> rw [w24_3, b24_3]
 ·have h1 : ¬ (i : Int) < (v.l.len : Int) := by omega
  rw [qA3 (l := w.l.list) (i := i) (by unfold Sl.len at hl hi; omega)]
  simp (maxSteps := 9999999) +contextual only [exa, ne_eq, not_false_eq_true, reduceAdd, reduceMul, reduceLT, reduceLeDiff, reduceEqDiff, Int.reduceLT, Int.reduceLE, Int.reduceEq, Int.reduceToNat, a2, a3, h1, qA3 hi, sameL, oneOf]
 ·have h1 : (i : Int) < (v.l.len : Int) := by omega
  obtain ⟨x, hx, e1, mx⟩ := qAS hi
  obtain ⟨y, hy, e2, _⟩ := qAS (l := w.l.list) (i := i) (by unfold Sl.len at hl hi; omega)
  have cc : CAL 24 [kA x.row, kA y.row] (kB (sameV x y)) := qAB 24 _ _ (by simp only [exP]) (ok x mx y) rfl
  rw [e1, e2]
  cases hs : sameV x y
  ·simp (maxSteps := 9999999) +contextual only [exa, ne_eq, not_false_eq_true, reduceAdd, reduceMul, reduceLT, reduceLeDiff, reduceEqDiff, Int.reduceLT, Int.reduceLE, Int.reduceEq, Int.reduceToNat, a2, a3, h1, hx, hy, cc, hs, sameL, oneOf]
  ·simp (maxSteps := 9999999) +contextual only [exa, ne_eq, not_false_eq_true, reduceAdd, reduceMul, reduceLT, reduceLeDiff, reduceEqDiff, Int.reduceLT, Int.reduceLE, Int.reduceEq, Int.reduceToNat, a2, a3, h1, hx, hy, cc, hs, sameL, qA5 i (by omega), ih]
theorem qRB : ∀ (m : Nat) (v : VT), SizeOf.sizeOf v < m → smV v → SameOK v := by
 intro m
 induction m with
 | zero => intro v h; omega
 | succ m ihm =>
  intro v hs sm w
  obtain ⟨t1, t2, t3, t4⟩ := (qAp v).1 sm
  refine (qAA rfl).trans ?_
  show lim tab.get S 24 0 0 [kA v.row, kA w.row] h0 = _
  rw [w24_0, b24_0, qEp]
  cases hd : diffV v w
  ·have hd' := hd
   simp only [diffV, Bool.or_eq_false_iff, Bool.not_eq_false', decide_eq_true_eq] at hd'
   obtain ⟨⟨⟨⟨⟨d1, d2⟩, d3⟩, d4⟩, d5⟩, d6⟩ := hd'
   have d2' : v.b = w.b := by revert d2; cases v.b <;> cases w.b <;> simp
   unfold diffV at hd
   simp (maxSteps := 9999999) +contextual only [exa, ne_eq, not_false_eq_true, reduceAdd, reduceMul, reduceLT, reduceLeDiff, reduceEqDiff, Int.reduceLT, Int.reduceLE, Int.reduceEq, Int.reduceToNat, exY, hd]
   refine (qL8 v w _ rfl rfl (by omega) t2 0).trans ?_
   rw [List.drop_zero, List.drop_zero, w24_2, b24_2, d1, d2', d3, d4]
   by_cases hk : v.keys.list = w.keys.list
   ·rw [if_pos hk]
    refine (qMC v w _ rfl rfl (by omega) t3 (fun x hx => ihm x (by have := VT.mem_size hx; omega) (t4 x hx)) 0).trans ?_
    rw [List.drop_zero, List.drop_zero, hk]
    simp
   ·rw [if_neg hk]
    simp [hk]
  ·have hd' := hd
   unfold diffV at hd
   simp (maxSteps := 9999999) +contextual only [exa, ne_eq, not_false_eq_true, reduceAdd, reduceMul, reduceLT, reduceLeDiff, reduceEqDiff, Int.reduceLT, Int.reduceLE, Int.reduceEq, Int.reduceToNat, exY, hd, oneOf]
   have : (decide (v.kind = w.kind) && (v.b == w.b) && decide (v.n = w.n) && decide (v.s = w.s) && decide (v.keys.list = w.keys.list) && sameL v.l.list w.l.list) = false := by
    refine Bool.eq_false_iff.2 fun e => ?_
    simp only [Bool.and_eq_true, decide_eq_true_eq, beq_iff_eq] at e
    obtain ⟨⟨⟨⟨⟨e1, e2⟩, e3⟩, e4⟩, e5⟩, e6⟩ := e
    have l1 : v.keys.len = w.keys.len := by unfold Sl.len; rw [e5]
    have l2 : v.l.list.length = w.l.list.length := by
     clear hd hd' e5
     revert e6
     generalize w.l.list = b
     induction v.l.list generalizing b with
     | nil => intro e; cases b with | nil => rfl | cons _ _ => rw [qGw] at e; cases e
     | cons x l ih => intro e; cases b with
      | nil => simp [sameL] at e
      | cons y b =>
       rw [sameL, Bool.and_eq_true] at e
       rw [List.length_cons, List.length_cons, ih b e.2]
    have l2' : v.l.len = w.l.len := l2
    have : diffV v w = false := by
     unfold diffV
     rw [e1, e2, e3, e4, l1, l2']
     cases w.b <;> simp
    rw [this] at hd'; cases hd'
   rw [this]
theorem u24 {β : Type} {k : TVal → Heap → Option β} {h : Heap} {d : Nat} (v w : VT) (sm : smV v) : vcall Om (.v (.c (.func 24 []))) [kA v.row, kA w.row] h d k = k (kB (sameV v w)) h := qAB 24 _ _ (by simp only [exP]) (qRB _ v (Nat.lt_succ_self _) sm w) rfl
open Go Go.AI
def getF (v : VT) (key : List UInt8) (i : Nat) : Option VT := if v.kind = 5 then (idxM key (v.keys.list.drop i)).bind fun j => (v.l.list.drop i)[j]? else none
theorem qNG (v : VT) (key : List UInt8) : getF v key 0 = getM v key := by unfold getF getM; rw [List.drop_zero, List.drop_zero]
theorem qDa (h : Heap) (a4 : h.get (.own 4 1) = some (.cells [.p (.int .i64 0), .p (.bool false), .p (.int .i64 0), .p (.str []), .p .nilslice, .p .nilslice] 0)) : lim tab.get S 39 0 2 [.v (.c (.ptr (.own 4 1) 0))] h = some (ansG none, []) := by
 rw [w39_2, b39_2]
 simp (maxSteps := 9999999) +contextual only [exa, ne_eq, not_false_eq_true, reduceAdd, reduceMul, reduceLT, reduceLeDiff, reduceEqDiff, Int.reduceLT, Int.reduceLE, Int.reduceEq, Int.reduceToNat, a4]
 rfl
theorem qL1 (v : VT) (key : List UInt8) (h : Heap) (a2 : h.get (.own 2 1) = some (.cells (pcells v.row) 0)) (a4 : h.get (.own 4 1) = some (.cells [.p (.int .i64 0), .p (.bool false), .p (.int .i64 0), .p (.str []), .p .nilslice, .p .nilslice] 0)) (hb : v.keys.len ≤ 1000) :
  ∀ i : Nat, lim tab.get S 39 0 1 [kS key, s2, .v (.c (.ptr (.own 4 1) 0)), kI (i : Int)] h = some (ansG (getF v key i), []) := by
 refine qAj v.keys.len (fun i hi => ?_) (fun i hi ih => ?_) <;> rw [w39_1, b39_1]
 ·have h1 : ¬ (i : Int) < (v.keys.len : Int) := by omega
  have : getF v key i = none := by unfold getF; rw [qA3 hi]; split <;> rfl
  rw [this]
  simp (maxSteps := 9999999) +contextual only [exa, ne_eq, not_false_eq_true, reduceAdd, reduceMul, reduceLT, reduceLeDiff, reduceEqDiff, Int.reduceLT, Int.reduceLE, Int.reduceEq, Int.reduceToNat, a2, a4, h1]
  exact qDa h a4
 ·have h1 : (i : Int) < (v.keys.len : Int) := by omega
  obtain ⟨x, hx, e1, _⟩ := qAS hi
  by_cases hl : i < v.l.len
  ·have hl' : (i : Int) < (v.l.len : Int) := by omega
   obtain ⟨y, hy, e2, _⟩ := qAS (l := v.l.list) (i := i) hl
   by_cases hk : v.kind = 5
   ·by_cases hxy : x = key
    ·have : getF v key i = some y := by unfold getF; rw [if_pos hk, e1, e2, idxM, if_pos hxy.symm]; rfl
     rw [this]
     simp (maxSteps := 9999999) +contextual only [exa, ne_eq, not_false_eq_true, reduceAdd, reduceMul, reduceLT, reduceLeDiff, reduceEqDiff, Int.reduceLT, Int.reduceLE, Int.reduceEq, Int.reduceToNat, a2, a4, h1, hl', hk, hx, hy, hxy, qAC _ (VT.row_len y)]
     rfl
    ·have : getF v key i = getF v key (i + 1) := by
      unfold getF
      rw [if_pos hk, if_pos hk, e1, e2, idxM, if_neg (fun e => hxy e.symm)]
      cases idxM key (v.keys.list.drop (i + 1)) <;> rfl
     rw [this]
     simp (maxSteps := 9999999) +contextual only [exa, ne_eq, not_false_eq_true, reduceAdd, reduceMul, reduceLT, reduceLeDiff, reduceEqDiff, Int.reduceLT, Int.reduceLE, Int.reduceEq, Int.reduceToNat, a2, a4, h1, hl', hk, hx, hy, hxy, qA5 i (by omega), ih]
   ·have : getF v key i = none := by unfold getF; rw [if_neg hk]
    rw [this]
    simp (maxSteps := 9999999) +contextual only [exa, ne_eq, not_false_eq_true, reduceAdd, reduceMul, reduceLT, reduceLeDiff, reduceEqDiff, Int.reduceLT, Int.reduceLE, Int.reduceEq, Int.reduceToNat, a2, a4, h1, hl', hk]
    exact qDa h a4
  ·have hl' : ¬ (i : Int) < (v.l.len : Int) := by omega
   have : getF v key i = none := by
    unfold getF
    rw [qA3 (l := v.l.list) (i := i) (by unfold Sl.len at hl; omega)]
    split
    ·cases idxM key (v.keys.list.drop i) <;> rfl
    ·rfl
   rw [this]
   simp (maxSteps := 9999999) +contextual only [exa, ne_eq, not_false_eq_true, reduceAdd, reduceMul, reduceLT, reduceLeDiff, reduceEqDiff, Int.reduceLT, Int.reduceLE, Int.reduceEq, Int.reduceToNat, a2, a4, h1, hl']
   exact qDa h a4
theorem qQx (v : VT) (key : List UInt8) (hb : v.keys.len ≤ 1000) : Om 39 [kA v.row, kS key] [] = some (ansG (getM v key), []) := by
 refine (qAA rfl).trans ?_
 show lim tab.get S 39 0 0 [kA v.row, kS key] h0 = _
 rw [w39_0, b39_0]
 simp (maxSteps := 9999999) +contextual only [exa, ne_eq, not_false_eq_true, reduceAdd, reduceMul, reduceLT, reduceLeDiff, reduceEqDiff, Int.reduceLT, Int.reduceLE, Int.reduceEq, Int.reduceToNat]
 rw [← qNG]
 exact qL1 v key _ rfl rfl hb 0
theorem u39 {β : Type} {k : TVal → Heap → Option β} {h : Heap} {d : Nat} (v : VT) (key : List UInt8) (hb : v.keys.len ≤ 1000) : vcall Om (.v (.c (.func 39 []))) [kA v.row, kS key] h d k = k (ansG (getM v key)) h :=
 qAB 39 _ _ (by simp only [exP]) (qQx v key hb) (by cases getM v key <;> simp only [ansG, exP])
def areM : List VT → List Int → Bool
 | v :: l, k :: ks => if v.kind = k then areM l ks else false
 | _, _ => true
theorem qN9 (t : Bool) (l : List VT) (ks : List Int) (hl : ks.length ≤ l.length) (hb : l.length ≤ 1000) (h : Heap) :
  ∀ i : Nat, lim tab.get S 92 0 1 [kSl 6 t (l.map VT.row), kSl 1 true (ks.map iRow), kI (ks.length : Int), kI (i : Int)] h = some (kB (areM (l.drop i) (ks.drop i)), []) := by
 refine qAj ks.length (fun i hi => ?_) (fun i hi ih => ?_) <;> rw [w92_1, b92_1]
 ·have h1 : ¬ (i : Int) < (ks.length : Int) := by omega
  rw [qA3 hi]
  simp (maxSteps := 9999999) +contextual only [exa, ne_eq, not_false_eq_true, reduceAdd, reduceMul, reduceLT, reduceLeDiff, reduceEqDiff, Int.reduceLT, Int.reduceLE, Int.reduceEq, Int.reduceToNat, h1, oneOf]
  cases l.drop i <;> rfl
 ·have h1 : (i : Int) < (ks.length : Int) := by omega
  obtain ⟨c, hc, e1, _⟩ := qAS hi
  obtain ⟨v, hv, e2, _⟩ := qAS (l := l) (i := i) (by omega)
  have m1 : (l.map VT.row)[i]? = some v.row := by rw [List.getElem?_map, hv]; rfl
  have m2 : (ks.map iRow)[i]? = some (iRow c) := by rw [List.getElem?_map, hc]; rfl
  rw [e1, e2, areM]
  by_cases hk : v.kind = c
  ·simp (maxSteps := 9999999) +contextual only [exa, ne_eq, not_false_eq_true, reduceAdd, reduceMul, reduceLT, reduceLeDiff, reduceEqDiff, Int.reduceLT, Int.reduceLE, Int.reduceEq, Int.reduceToNat, h1, m1, m2, hk, qA5 i (by omega), ih, if_true]
  ·simp (maxSteps := 9999999) +contextual only [exa, ne_eq, not_false_eq_true, reduceAdd, reduceMul, reduceLT, reduceLeDiff, reduceEqDiff, Int.reduceLT, Int.reduceLE, Int.reduceEq, Int.reduceToNat, h1, m1, m2, hk, oneOf, if_false]
theorem qTN (t : Bool) (l : List VT) (ks : List Int) (hl : ks.length ≤ l.length) (hb : l.length ≤ 1000) : Om 92 [kSl 6 t (l.map VT.row), kSl 1 true (ks.map iRow)] [] = some (kB (areM l ks), []) := by
 refine (qAA rfl).trans ?_
 show lim tab.get S 92 0 0 [kSl 6 t (l.map VT.row), kSl 1 true (ks.map iRow)] h0 = _
 rw [w92_0, b92_0]
 simp (maxSteps := 9999999) +contextual only [exa, ne_eq, not_false_eq_true, reduceAdd, reduceMul, reduceLT, reduceLeDiff, reduceEqDiff, Int.reduceLT, Int.reduceLE, Int.reduceEq, Int.reduceToNat, List.length_map]
 exact qN9 t l ks hl hb h0 0
theorem qDI {β : Type} {k : TVal → Heap → Option β} {h : Heap} {d : Nat} (t : Bool) (a b : VT) (p q : Int) : vcall Om (.v (.c (.func 92 []))) [kSl 6 t [a.row, b.row], kSl 1 true [[.int .i64 p], [.int .i64 q]]] h d k = k (kB (decide (a.kind = p) && decide (b.kind = q))) h := by
 refine (qAB 92 [kSl 6 t [a.row, b.row], kSl 1 true [[.int .i64 p], [.int .i64 q]]] _ rfl (qTN t [a, b] [p, q] (Nat.le_refl _) (by show 2 ≤ 1000; decide)) rfl).trans ?_
 by_cases h1 : a.kind = p <;> by_cases h2 : b.kind = q <;> simp [areM, h1, h2]
def ansE (p : VT × Int) : TVal := .tup [.agg (pcells p.1.row), .c (.p (.int .i64 p.2))]
theorem qQc (p : VT × Int) : pT (ansE p) = true := by simp only [ansE, exP]
def atM (v w : VT) : VT × Int := if (decide (v.kind = 4) && decide (w.kind = 2)) = false then (VT.nul, 17) else
 if w.n < 0 then (VT.nul, 32) else match v.l.list[w.n.toNat]? with
 | none => (VT.nul, 32)
 | some x => (ownV x, 0)
theorem qUg (t : Bool) (v w : VT) (sm : smV v) : Om 91 [kSl 6 t [v.row, w.row]] [] = some (ansE (atM v w), []) := by
 obtain ⟨t1, t2, t3, t4⟩ := (qAp v).1 sm
 refine (qAA rfl).trans ?_
 show lim tab.get S 91 0 0 [kSl 6 t [v.row, w.row]] h0 = _
 rw [w91_0, b91_0]
 unfold atM
 have e01 : ∀ (a b : List PVal), [a, b][(1 : Int).toNat]? = some b := fun _ _ => rfl
 have e00 : ∀ (a b : List PVal), [a, b][(0 : Int).toNat]? = some a := fun _ _ => rfl
 cases hk : (decide (v.kind = 4) && decide (w.kind = 2))
 ·simp (maxSteps := 9999999) +contextual only [exa, ne_eq, not_false_eq_true, reduceAdd, reduceMul, reduceLT, reduceLeDiff, reduceEqDiff, Int.reduceLT, Int.reduceLE, Int.reduceEq, Int.reduceToNat, qDI, hk, qAs]
  rfl
 ·rw [if_neg (by simp)]
  by_cases h1 : w.n < 0
  ·rw [if_pos h1]
   simp (maxSteps := 9999999) +contextual only [exa, ne_eq, not_false_eq_true, reduceAdd, reduceMul, reduceLT, reduceLeDiff, reduceEqDiff, Int.reduceLT, Int.reduceLE, Int.reduceEq, Int.reduceToNat, qDI, hk, qAs, h1, e00, e01]
   rfl
  ·rw [if_neg h1]
   by_cases h2 : w.n < (v.l.len : Int)
   ·obtain ⟨x, hx, _, mx⟩ := qAS (l := v.l.list) (i := w.n.toNat) (by unfold Sl.len at h2; omega)
    have h3 : (0 : Int) ≤ w.n := by omega
    rw [hx]
    simp (maxSteps := 9999999) +contextual only [exa, ne_eq, not_false_eq_true, reduceAdd, reduceMul, reduceLT, reduceLeDiff, reduceEqDiff, Int.reduceLT, Int.reduceLE, Int.reduceEq, Int.reduceToNat, qDI, hk, qAs, h1, h2, h3, e00, e01, hx, u95 x (t4 x mx), qAC _ (VT.row_len (ownV x))]
    rfl
   ·have hn : v.l.list[w.n.toNat]? = none := List.getElem?_eq_none (by unfold Sl.len at h2; omega)
    rw [hn]
    simp (maxSteps := 9999999) +contextual only [exa, ne_eq, not_false_eq_true, reduceAdd, reduceMul, reduceLT, reduceLeDiff, reduceEqDiff, Int.reduceLT, Int.reduceLE, Int.reduceEq, Int.reduceToNat, qDI, hk, qAs, h1, h2, e00, e01]
    rfl
theorem u91 {β : Type} {k : TVal → Heap → Option β} {h : Heap} {d : Nat} (t : Bool) (v w : VT) (sm : smV v) : vcall Om (.v (.c (.func 91 []))) [kSl 6 t [v.row, w.row]] h d k = k (ansE (atM v w)) h := qAB 91 _ _ rfl (qUg t v w sm) (qQc _)
def truthV (b : Bool) : VT := .mk 1 b 0 [] .nil .nil
theorem qPp (b : Bool) : Om 94 [kB b] [] = some (kA (truthV b).row, []) := by
 refine (qAA rfl).trans ?_
 show lim tab.get S 94 0 0 [kB b] h0 = _
 rw [w94_0, b94_0]
 simp (maxSteps := 9999999) +contextual only [exa, ne_eq, not_false_eq_true, reduceAdd, reduceMul, reduceLT, reduceLeDiff, reduceEqDiff, Int.reduceLT, Int.reduceLE, Int.reduceEq, Int.reduceToNat]
 rfl
theorem u94 {β : Type} {k : TVal → Heap → Option β} {h : Heap} {d : Nat} (b : Bool) : vcall Om (.v (.c (.func 94 []))) [kB b] h d k = k (kA (truthV b).row) h := qAB 94 _ _ rfl (qPp b) (by simp only [exP])
theorem qAU : ((1 : Nat) : Int) = 1 := rfl
theorem qAX : ((2 : Nat) : Int) = 2 := rfl
abbrev n_len : List UInt8 := [108, 101, 110]
abbrev n_not : List UInt8 := [110, 111, 116]
abbrev n_and : List UInt8 := [97, 110, 100]
abbrev n_or : List UInt8 := [111, 114]
abbrev n_eq : List UInt8 := [101, 113]
abbrev n_lt : List UInt8 := [108, 116]
abbrev n_add : List UInt8 := [97, 100, 100]
abbrev n_sub : List UInt8 := [115, 117, 98]
abbrev n_mul : List UInt8 := [109, 117, 108]
abbrev n_shl : List UInt8 := [115, 104, 108]
abbrev n_shr : List UInt8 := [115, 104, 114]
abbrev n_i8 : List UInt8 := [105, 56]
abbrev n_i16 : List UInt8 := [105, 49, 54]
abbrev n_i32 : List UInt8 := [105, 51, 50]
abbrev n_u8 : List UInt8 := [117, 56]
abbrev n_u16 : List UInt8 := [117, 49, 54]
abbrev n_u32 : List UInt8 := [117, 51, 50]
abbrev n_cat : List UInt8 := [99, 97, 116]
abbrev n_text : List UInt8 := [116, 101, 120, 116]
abbrev n_at : List UInt8 := [97, 116]
abbrev n_get : List UInt8 := [103, 101, 116]
abbrev n_has : List UInt8 := [104, 97, 115]
abbrev n_orelse : List UInt8 := [111, 114, 101, 108, 115, 101]
theorem qIg : (decide (n_at = [108, 101, 110]) = false) ∧ (decide (n_at = [110, 111, 116]) = false) ∧ (decide (n_at = [97, 110, 100]) = false) ∧ (decide (n_at = [111, 114]) = false) ∧ (decide (n_at = [101, 113]) = false) ∧ (decide (n_at = [99, 97, 116]) = false) ∧ (decide (n_at = [116, 101, 120, 116]) = false) ∧ (decide (n_at = [97, 116]) = true) ∧ (decide (n_at = [103, 101, 116]) = false) ∧ (decide (n_at = [104, 97, 115]) = false) ∧ (decide (n_at = [111, 114, 101, 108, 115, 101]) = false) := ⟨id rfl, id rfl, id rfl, id rfl, id rfl, id rfl, id rfl, id rfl, id rfl, id rfl, id rfl⟩
theorem qT8 {β : Type} {k : TVal → Heap → Option β} {h : Heap} {d : Nat} : vcall Om (.v (.c (.func 84 []))) [kS n_at] h d k = k (kB true) h := qAB 84 _ _ rfl ((qAA rfl).trans (qAD blks_ok 500 84 0 0 _ _ _ (by kernel_rfl))) rfl
theorem qUk {β : Type} {k : TVal → Heap → Option β} {h : Heap} {d : Nat} : vcall Om (.v (.c (.func 85 []))) [kS n_at] h d k = k (kI 2) h := qAB 85 _ _ rfl ((qAA rfl).trans (qAD blks_ok 500 85 0 0 _ _ _ (by kernel_rfl))) rfl
theorem qD9 : (decide (n_get = [108, 101, 110]) = false) ∧ (decide (n_get = [110, 111, 116]) = false) ∧ (decide (n_get = [97, 110, 100]) = false) ∧ (decide (n_get = [111, 114]) = false) ∧ (decide (n_get = [101, 113]) = false) ∧ (decide (n_get = [99, 97, 116]) = false) ∧ (decide (n_get = [116, 101, 120, 116]) = false) ∧ (decide (n_get = [97, 116]) = false) ∧ (decide (n_get = [103, 101, 116]) = true) ∧ (decide (n_get = [104, 97, 115]) = false) ∧ (decide (n_get = [111, 114, 101, 108, 115, 101]) = false) := ⟨id rfl, id rfl, id rfl, id rfl, id rfl, id rfl, id rfl, id rfl, id rfl, id rfl, id rfl⟩
theorem qSe {β : Type} {k : TVal → Heap → Option β} {h : Heap} {d : Nat} : vcall Om (.v (.c (.func 84 []))) [kS n_get] h d k = k (kB true) h := qAB 84 _ _ rfl ((qAA rfl).trans (qAD blks_ok 500 84 0 0 _ _ _ (by kernel_rfl))) rfl
theorem qTh {β : Type} {k : TVal → Heap → Option β} {h : Heap} {d : Nat} : vcall Om (.v (.c (.func 85 []))) [kS n_get] h d k = k (kI 2) h := qAB 85 _ _ rfl ((qAA rfl).trans (qAD blks_ok 500 85 0 0 _ _ _ (by kernel_rfl))) rfl
theorem qFu : (decide (n_has = [108, 101, 110]) = false) ∧ (decide (n_has = [110, 111, 116]) = false) ∧ (decide (n_has = [97, 110, 100]) = false) ∧ (decide (n_has = [111, 114]) = false) ∧ (decide (n_has = [101, 113]) = false) ∧ (decide (n_has = [99, 97, 116]) = false) ∧ (decide (n_has = [116, 101, 120, 116]) = false) ∧ (decide (n_has = [97, 116]) = false) ∧ (decide (n_has = [103, 101, 116]) = false) ∧ (decide (n_has = [104, 97, 115]) = true) ∧ (decide (n_has = [111, 114, 101, 108, 115, 101]) = false) := ⟨id rfl, id rfl, id rfl, id rfl, id rfl, id rfl, id rfl, id rfl, id rfl, id rfl, id rfl⟩
theorem qS3 {β : Type} {k : TVal → Heap → Option β} {h : Heap} {d : Nat} : vcall Om (.v (.c (.func 84 []))) [kS n_has] h d k = k (kB true) h := qAB 84 _ _ rfl ((qAA rfl).trans (qAD blks_ok 500 84 0 0 _ _ _ (by kernel_rfl))) rfl
theorem qSf {β : Type} {k : TVal → Heap → Option β} {h : Heap} {d : Nat} : vcall Om (.v (.c (.func 85 []))) [kS n_has] h d k = k (kI 1) h := qAB 85 _ _ rfl ((qAA rfl).trans (qAD blks_ok 500 85 0 0 _ _ _ (by kernel_rfl))) rfl
theorem qB2 : (decide (n_orelse = [108, 101, 110]) = false) ∧ (decide (n_orelse = [110, 111, 116]) = false) ∧ (decide (n_orelse = [97, 110, 100]) = false) ∧ (decide (n_orelse = [111, 114]) = false) ∧ (decide (n_orelse = [101, 113]) = false) ∧ (decide (n_orelse = [99, 97, 116]) = false) ∧ (decide (n_orelse = [116, 101, 120, 116]) = false) ∧ (decide (n_orelse = [97, 116]) = false) ∧ (decide (n_orelse = [103, 101, 116]) = false) ∧ (decide (n_orelse = [104, 97, 115]) = false) ∧ (decide (n_orelse = [111, 114, 101, 108, 115, 101]) = true) := ⟨id rfl, id rfl, id rfl, id rfl, id rfl, id rfl, id rfl, id rfl, id rfl, id rfl, id rfl⟩
theorem qNp {β : Type} {k : TVal → Heap → Option β} {h : Heap} {d : Nat} : vcall Om (.v (.c (.func 84 []))) [kS n_orelse] h d k = k (kB true) h := qAB 84 _ _ rfl ((qAA rfl).trans (qAD blks_ok 500 84 0 0 _ _ _ (by kernel_rfl))) rfl
theorem qNQ {β : Type} {k : TVal → Heap → Option β} {h : Heap} {d : Nat} : vcall Om (.v (.c (.func 85 []))) [kS n_orelse] h d k = k (kI 2) h := qAB 85 _ _ rfl ((qAA rfl).trans (qAD blks_ok 500 85 0 0 _ _ _ (by kernel_rfl))) rfl
theorem qQl (t : Bool) (v w : VT) (sm : smV v) : Om 38 [kS n_at, kSl 6 t [v.row, w.row]] [] = some (ansE (atM v w), []) := by
 refine (qAA rfl).trans ?_
 show lim tab.get S 38 0 0 [kS n_at, kSl 6 t [v.row, w.row]] h0 = _
 rw [w38_0, b38_0]
 simp (maxSteps := 9999999) +contextual only [exa, ne_eq, not_false_eq_true, reduceAdd, reduceMul, reduceLT, reduceLeDiff, reduceEqDiff, Int.reduceLT, Int.reduceLE, Int.reduceEq, Int.reduceToNat, qT8, qUk, qIg, qAU, qAX]
 rw [w38_1, b38_1]
 simp (maxSteps := 9999999) +contextual only [exa, ne_eq, not_false_eq_true, reduceAdd, reduceMul, reduceLT, reduceLeDiff, reduceEqDiff, Int.reduceLT, Int.reduceLE, Int.reduceEq, Int.reduceToNat, qIg]
 refine (u91 t v w sm).trans ?_
 generalize atM v w = p
 simp (maxSteps := 9999999) +contextual only [exa, ne_eq, not_false_eq_true, reduceAdd, reduceMul, reduceLT, reduceLeDiff, reduceEqDiff, Int.reduceLT, Int.reduceLE, Int.reduceEq, Int.reduceToNat, ansE, qAC _ (VT.row_len p.1)]
def getE (v w : VT) : VT × Int := if (decide (v.kind = 5) && decide (w.kind = 3)) = false then (VT.nul, 17) else match getM v w.s with
 | none => (VT.nul, 0)
 | some x => (ownV x, 0)
theorem qOj (t : Bool) (v w : VT) (sm : smV v) : Om 38 [kS n_get, kSl 6 t [v.row, w.row]] [] = some (ansE (getE v w), []) := by
 refine (qAA rfl).trans ?_
 show lim tab.get S 38 0 0 [kS n_get, kSl 6 t [v.row, w.row]] h0 = _
 rw [w38_0, b38_0]
 simp (maxSteps := 9999999) +contextual only [exa, ne_eq, not_false_eq_true, reduceAdd, reduceMul, reduceLT, reduceLeDiff, reduceEqDiff, Int.reduceLT, Int.reduceLE, Int.reduceEq, Int.reduceToNat, qSe, qTh, qD9, qAU, qAX]
 rw [w38_1, b38_1]
 have e01 : ∀ (a b : List PVal), [a, b][(1 : Int).toNat]? = some b := fun _ _ => rfl
 have e00 : ∀ (a b : List PVal), [a, b][(0 : Int).toNat]? = some a := fun _ _ => rfl
 unfold getE
 cases hk : (decide (v.kind = 5) && decide (w.kind = 3))
 ·simp (maxSteps := 9999999) +contextual only [exa, ne_eq, not_false_eq_true, reduceAdd, reduceMul, reduceLT, reduceLeDiff, reduceEqDiff, Int.reduceLT, Int.reduceLE, Int.reduceEq, Int.reduceToNat, qD9, qDI, hk, qAs]
  rfl
 ·simp (maxSteps := 9999999) +contextual only [exa, ne_eq, not_false_eq_true, reduceAdd, reduceMul, reduceLT, reduceLeDiff, reduceEqDiff, Int.reduceLT, Int.reduceLE, Int.reduceEq, Int.reduceToNat, exY, qD9, qDI, hk, qAs, e00, e01, y93 v w.s sm]
  cases hg : getM v w.s with
  | none =>
   simp (maxSteps := 9999999) +contextual only [exa, ne_eq, not_false_eq_true, reduceAdd, reduceMul, reduceLT, reduceLeDiff, reduceEqDiff, Int.reduceLT, Int.reduceLE, Int.reduceEq, Int.reduceToNat, exY, ansG, Option.map_none, qJ2, qBW, qAC _ (VT.row_len VT.nul)]
   rfl
  | some x =>
   simp (maxSteps := 9999999) +contextual only [exa, ne_eq, not_false_eq_true, reduceAdd, reduceMul, reduceLT, reduceLeDiff, reduceEqDiff, Int.reduceLT, Int.reduceLE, Int.reduceEq, Int.reduceToNat, exY, ansG, Option.map_some, qJ2, qBW, qAC _ (VT.row_len (ownV x))]
   rfl
theorem qOc (t : Bool) (v : VT) : Om 38 [kS n_has, kSl 6 t [v.row]] [] = some (ansE (truthV (!decide (v.kind = 0)), 0), []) := by
 refine (qAA rfl).trans ?_
 show lim tab.get S 38 0 0 [kS n_has, kSl 6 t [v.row]] h0 = _
 rw [w38_0, b38_0]
 have e00 : ∀ (a : List PVal), [a][(0 : Int).toNat]? = some a := fun _ => rfl
 simp (maxSteps := 9999999) +contextual only [exa, ne_eq, not_false_eq_true, reduceAdd, reduceMul, reduceLT, reduceLeDiff, reduceEqDiff, Int.reduceLT, Int.reduceLE, Int.reduceEq, Int.reduceToNat, qS3, qSf, qFu, qAU, qAX]
 rw [w38_1, b38_1]
 simp (maxSteps := 9999999) +contextual only [exa, ne_eq, not_false_eq_true, reduceAdd, reduceMul, reduceLT, reduceLeDiff, reduceEqDiff, Int.reduceLT, Int.reduceLE, Int.reduceEq, Int.reduceToNat, qFu, e00, u94, qAC _ (VT.row_len (truthV _))]
 rfl
def orM (v w : VT) : VT := if v.kind = 0 then w else v
theorem qRi (t : Bool) (v w : VT) (sm : smV v) (sn : smV w) : Om 38 [kS n_orelse, kSl 6 t [v.row, w.row]] [] = some (ansE (ownV (orM v w), 0), []) := by
 refine (qAA rfl).trans ?_
 show lim tab.get S 38 0 0 [kS n_orelse, kSl 6 t [v.row, w.row]] h0 = _
 rw [w38_0, b38_0]
 have e01 : ∀ (a b : List PVal), [a, b][(1 : Int).toNat]? = some b := fun _ _ => rfl
 have e00 : ∀ (a b : List PVal), [a, b][(0 : Int).toNat]? = some a := fun _ _ => rfl
 simp (maxSteps := 9999999) +contextual only [exa, ne_eq, not_false_eq_true, reduceAdd, reduceMul, reduceLT, reduceLeDiff, reduceEqDiff, Int.reduceLT, Int.reduceLE, Int.reduceEq, Int.reduceToNat, qNp, qNQ, qB2, qAU, qAX]
 rw [w38_1, b38_1]
 unfold orM
 by_cases hk : v.kind = 0
 ·rw [if_pos hk]
  simp (maxSteps := 9999999) +contextual only [exa, ne_eq, not_false_eq_true, reduceAdd, reduceMul, reduceLT, reduceLeDiff, reduceEqDiff, Int.reduceLT, Int.reduceLE, Int.reduceEq, Int.reduceToNat, qB2, e00, e01, hk, u95 w sn, qAC _ (VT.row_len (ownV w))]
  rfl
 ·rw [if_neg hk]
  simp (maxSteps := 9999999) +contextual only [exa, ne_eq, not_false_eq_true, reduceAdd, reduceMul, reduceLT, reduceLeDiff, reduceEqDiff, Int.reduceLT, Int.reduceLE, Int.reduceEq, Int.reduceToNat, qB2, e00, e01, hk, u95 v sm, qAC _ (VT.row_len (ownV v))]
  rfl
theorem qOx (a n : Int) (hn : 0 < n) (hs : n < 1000000) : Om 37 [kI a, kI n] [] = some (kI (withinM a n), []) := by
 refine (qAA rfl).trans ?_
 show lim tab.get S 37 0 0 [kI a, kI n] h0 = _
 have hb := qBo a n hn
 rw [w37_0, b37_0]
 unfold withinM at hb ⊢
 by_cases h : a.tmod n < 0
 ·rw [if_pos h] at hb ⊢
  have hw : IntKind.i64.wrap (a.tmod n + n) = a.tmod n + n := qAI _ (by omega) (by omega)
  simp (maxSteps := 9999999) +contextual only [exa, ne_eq, not_false_eq_true, reduceAdd, reduceMul, reduceLT, reduceLeDiff, reduceEqDiff, Int.reduceLT, Int.reduceLE, Int.reduceEq, Int.reduceToNat, qAZ 0 .i64 a n (by omega), h, hw, oneOf]
 ·rw [if_neg h]
  simp (maxSteps := 9999999) +contextual only [exa, ne_eq, not_false_eq_true, reduceAdd, reduceMul, reduceLT, reduceLeDiff, reduceEqDiff, Int.reduceLT, Int.reduceLE, Int.reduceEq, Int.reduceToNat, qAZ 0 .i64 a n (by omega), h, oneOf]
theorem u37 {β : Type} {k : TVal → Heap → Option β} {h : Heap} {d : Nat} (a n : Int) (hn : 0 < n) (hs : n < 1000000) : vcall Om (.v (.c (.func 37 []))) [kI a, kI n] h d k = k (kI (withinM a n)) h := qAB 37 _ _ rfl (qOx a n hn hs) rfl
theorem qRh : Om 36 [] [] = some (kB true, []) := (qAA rfl).trans (qAD blks_ok 500 36 0 0 _ _ _ (by kernel_rfl))
open Go Go.AI
theorem qBB : smV VT.nul := (qAp _).2 ⟨by show 0 ≤ 100000; decide, by show 0 ≤ 1000; decide, by show 0 ≤ 1000; decide, fun x hx => by cases hx⟩
theorem qBM (k : Int) (b : Bool) (n : Int) (s : List UInt8) (hs : s.length ≤ 100000) : smV (.mk k b n s .nil .nil) := (qAp _).2 ⟨hs, by show 0 ≤ 1000; decide, by show 0 ≤ 1000; decide, fun x hx => by cases hx⟩
theorem qLS {α : Type} (s : Sl α) : (cloneS s).len = s.len := by unfold Sl.len; rw [qEP]
theorem qD7 (s : Sl VT) : (ownS s).list = s.list.map ownV := by
 cases s with
 | nil => rfl
 | mk t l => rw [qJl]; rfl
theorem qSM : ∀ (m : Nat) (v : VT), SizeOf.sizeOf v < m → smV v → smV (ownV v) := by
 intro m
 induction m with
 | zero => intro v h; omega
 | succ m ih =>
  intro v hs sm
  obtain ⟨t1, t2, t3, t4⟩ := (qAp v).1 sm
  rw [qBb]
  refine (qAp _).2 ⟨t1, by show (cloneS v.keys).len ≤ 1000; rw [qLS]; exact t2, by show (ownS v.l).len ≤ 1000; unfold Sl.len; rw [qD7, List.length_map]; exact t3, fun x hx => ?_⟩
  have hx' : x ∈ (ownS v.l).list := hx
  rw [qD7] at hx'
  obtain ⟨y, hy, rfl⟩ := List.mem_map.1 hx'
  exact ih y (by have := VT.mem_size hy; omega) (t4 y hy)
theorem qH9 : ∀ (m : Nat) (v : VT), SizeOf.sizeOf v < m → sameV (ownV v) v = true ∧ sameV v v = true := by
 intro m
 induction m with
 | zero => intro v h; omega
 | succ m ih =>
  intro v hs
  have hl : ∀ l : List VT, (∀ x ∈ l, SizeOf.sizeOf x < m) → sameL (l.map ownV) l = true ∧ sameL l l = true := by
   intro l
   induction l with
   | nil => intro _; simp [sameL]
   | cons x l ihl =>
    intro hx
    obtain ⟨a, b⟩ := ih x (hx x (by simp))
    obtain ⟨c, d⟩ := ihl (fun y hy => hx y (by simp [hy]))
    rw [List.map_cons, sameL, sameL, a, b, c, d]; simp
  obtain ⟨p, q⟩ := hl v.l.list (fun x hx => by have := VT.mem_size hx; omega)
  rw [qEp, qEp v v, q]
  have e1 : (ownV v).kind = v.kind := by rw [qBb]; rfl
  have e2 : (ownV v).b = v.b := by rw [qBb]; rfl
  have e3 : (ownV v).n = v.n := by rw [qBb]; rfl
  have e4 : (ownV v).s = v.s := by rw [qBb]; rfl
  have e5 : (ownV v).keys.list = v.keys.list := by rw [qBb]; exact qEP _
  have e6 : (ownV v).l.list = v.l.list.map ownV := by rw [qBb]; exact qD7 _
  rw [e1, e2, e3, e4, e5, e6, p]
  simp
theorem qRv {v : VT} (sm : smV v) : smV (ownV v) := qSM _ v (Nat.lt_succ_self _) sm
theorem qUA (v : VT) : sameV (ownV v) v = true := (qH9 _ v (Nat.lt_succ_self _)).1
theorem qT5 (v : VT) : sameV v v = true := (qH9 _ v (Nat.lt_succ_self _)).2
theorem qS1 (n : Nat) (v x : VT) (key : List UInt8) (hn : n < 1000) (ev : evenT n v) (sm : smV v) (sx : smV x) : smV (putM v key x) := by
 have e2 := qEx n v x key ev
 unfold putM at e2 ⊢
 split
 ·exact sm
 ·rename_i hne
  rw [if_neg hne] at e2
  obtain ⟨t1, t2, t3, t4⟩ := (qAp v).1 sm
  obtain ⟨f1, f2⟩ := e2
  refine (qAp _).2 ⟨t1, by omega, by omega, fun y hy => ?_⟩
  have hy' : y ∈ v.l.list.take (leadM key v.keys.list) ++ [x] ++ v.l.list.drop (leadM key v.keys.list) := hy
  simp only [List.mem_append, List.mem_singleton] at hy'
  rcases hy' with (h | h) | h
  ·exact t4 y (List.mem_of_mem_take h)
  ·rw [h]; exact sx
  ·exact t4 y (List.mem_of_mem_drop h)
theorem qNs : ∀ (g : List VT) (n : Nat) (v : VT) (ks : List Int), n + g.length < 1000 → evenT n v → smV v → (∀ x ∈ g, smV x) → smV (tabM v ks g)
 | [], _, _, _, _, _, sm, _ => sm
 | x :: g, n, v, ks, hn, ev, sm, hx => by
  rw [tabM]
  rw [List.length_cons] at hn
  exact qNs g (n + 1) _ _ (by omega) (qEx n v x _ ev) (qS1 n v x _ (by omega) ev sm (hx x (by simp))) (fun y hy => hx y (by simp [hy]))
theorem qQT : ∀ (m : Nat) (r : RT), SizeOf.sizeOf r < m → smR r → ∀ d, smV (goodR r d) := by
 intro m
 induction m with
 | zero => intro r h; omega
 | succ m ih =>
  intro r hs sm d
  obtain ⟨t1, t2, t3, t4⟩ := (qFw r).1 sm
  rw [qEu]
  have hg : ∀ x ∈ goodL r.kids.list (IntKind.i64.wrap (d - 1)), smV x := by
   have : ∀ (l : List RT), (∀ x ∈ l, x ∈ r.kids.list) → ∀ x ∈ goodL l (IntKind.i64.wrap (d - 1)), smV x := by
    intro l
    induction l with
    | nil => intro _ x hx; cases hx
    | cons y l ihl =>
     intro hl x hx
     rw [goodL] at hx
     rcases List.mem_cons.1 hx with rfl | hx
     ·have hy := hl y (by simp)
      exact ih y (by have := RT.mem_size hy; omega) (t4 y hy) _
     ·exact ihl (fun z hz => hl z (by simp [hz])) x hx
   exact this _ (fun x hx => hx)
  have hlen := qGx (IntKind.i64.wrap (d - 1)) r.kids.list
  have hkl : r.kids.list.length ≤ 12 := t1
  have hsl : r.s.list.length ≤ 50 := t2
  unfold goodK
  split
  ·exact qBM _ _ _ _ (by simp)
  split
  ·exact qBM _ _ _ _ (by simp)
  split
  ·exact qBM _ _ _ _ (by have := qNd r.s.list; omega)
  split
  ·refine (qAp _).2 ⟨by show 0 ≤ 100000; decide, by show 0 ≤ 1000; decide, ?_, fun x hx => ?_⟩
   ·show (grown _).len ≤ 1000
    rw [qNh]; omega
   ·have hx' : x ∈ (grown (goodL r.kids.list (IntKind.i64.wrap (d - 1)))).list := hx
    rw [qKT] at hx'
    exact hg x hx'
  split
  ·exact qNs _ 0 _ _ (by omega) ⟨rfl, Nat.le_refl _⟩ (qBM _ _ _ _ (by simp)) hg
  ·exact qBM _ _ _ _ (by simp)
theorem qQX {r : RT} (sm : smR r) (d : Int) : smV (goodR r d) := qQT _ r (Nat.lt_succ_self _) sm d
open Go Go.AI
def numV (n : Int) : VT := .mk 2 false n [] .nil .nil
def txtV (s : List UInt8) : VT := .mk 3 false 0 s .nil .nil
theorem qAR (a : List PVal) : [a][(0 : Int).toNat]? = some a := rfl
theorem qAO (a b : List PVal) : [a, b][(0 : Int).toNat]? = some a := rfl
theorem qAN (a b : List PVal) : [a, b][(1 : Int).toNat]? = some b := rfl
theorem qM4 (n : Int) : Om 150 [kI n] [] = some (kA (numV n).row, []) := by
 refine (qAA rfl).trans ?_
 show lim tab.get S 150 0 0 [kI n] h0 = _
 rw [w150_0, b150_0]
 simp (maxSteps := 9999999) +contextual only [exa, ne_eq, not_false_eq_true, reduceAdd, reduceMul, reduceLT, reduceLeDiff, reduceEqDiff, Int.reduceLT, Int.reduceLE, Int.reduceEq, Int.reduceToNat]
 rfl
theorem qBq {β : Type} {k : TVal → Heap → Option β} {h : Heap} {d : Nat} (n : Int) : vcall Om (.v (.c (.func 150 []))) [kI n] h d k = k (kA (numV n).row) h := qAB 150 _ _ rfl (qM4 n) (by simp only [exP])
theorem qQN (s : List UInt8) : Om 153 [kS s] [] = some (kA (txtV s).row, []) := by
 refine (qAA rfl).trans ?_
 show lim tab.get S 153 0 0 [kS s] h0 = _
 rw [w153_0, b153_0]
 simp (maxSteps := 9999999) +contextual only [exa, ne_eq, not_false_eq_true, reduceAdd, reduceMul, reduceLT, reduceLeDiff, reduceEqDiff, Int.reduceLT, Int.reduceLE, Int.reduceEq, Int.reduceToNat]
 rfl
theorem qOB {β : Type} {k : TVal → Heap → Option β} {h : Heap} {d : Nat} (s : List UInt8) : vcall Om (.v (.c (.func 153 []))) [kS s] h d k = k (kA (txtV s).row) h := qAB 153 _ _ rfl (qQN s) (by simp only [exP])
def lenM (v : VT) : VT × Int := if v.kind = 3 then (numV v.s.length, 0) else if v.kind = 4 then (numV v.l.len, 0) else if v.kind = 5 then (numV v.l.len, 0) else (VT.nul, 17)
theorem qQW (v : VT) : Om 86 [kA v.row] [] = some (ansE (lenM v), []) := by
 refine (qAA rfl).trans ?_
 show lim tab.get S 86 0 0 [kA v.row] h0 = _
 rw [w86_0, b86_0]
 unfold lenM
 by_cases h3 : v.kind = 3
 ·rw [if_pos h3]
  simp (maxSteps := 9999999) +contextual only [exa, ne_eq, not_false_eq_true, reduceAdd, reduceMul, reduceLT, reduceLeDiff, reduceEqDiff, Int.reduceLT, Int.reduceLE, Int.reduceEq, Int.reduceToNat, h3, qBq, qAC _ (VT.row_len (numV _))]
  rfl
 rw [if_neg h3]
 by_cases h4 : v.kind = 4
 ·rw [if_pos h4]
  simp (maxSteps := 9999999) +contextual only [exa, ne_eq, not_false_eq_true, reduceAdd, reduceMul, reduceLT, reduceLeDiff, reduceEqDiff, Int.reduceLT, Int.reduceLE, Int.reduceEq, Int.reduceToNat, h3, h4]
  rw [w86_1, b86_1]
  simp (maxSteps := 9999999) +contextual only [exa, ne_eq, not_false_eq_true, reduceAdd, reduceMul, reduceLT, reduceLeDiff, reduceEqDiff, Int.reduceLT, Int.reduceLE, Int.reduceEq, Int.reduceToNat, h3, h4, qBq, qAC _ (VT.row_len (numV _))]
  rfl
 rw [if_neg h4]
 by_cases h5 : v.kind = 5
 ·rw [if_pos h5]
  simp (maxSteps := 9999999) +contextual only [exa, ne_eq, not_false_eq_true, reduceAdd, reduceMul, reduceLT, reduceLeDiff, reduceEqDiff, Int.reduceLT, Int.reduceLE, Int.reduceEq, Int.reduceToNat, h3, h4, h5]
  rw [w86_1, b86_1]
  simp (maxSteps := 9999999) +contextual only [exa, ne_eq, not_false_eq_true, reduceAdd, reduceMul, reduceLT, reduceLeDiff, reduceEqDiff, Int.reduceLT, Int.reduceLE, Int.reduceEq, Int.reduceToNat, h3, h4, h5, qBq, qAC _ (VT.row_len (numV _))]
  rfl
 rw [if_neg h5]
 simp (maxSteps := 9999999) +contextual only [exa, ne_eq, not_false_eq_true, reduceAdd, reduceMul, reduceLT, reduceLeDiff, reduceEqDiff, Int.reduceLT, Int.reduceLE, Int.reduceEq, Int.reduceToNat, h3, h4, h5]
 rw [w86_1, b86_1]
 simp (maxSteps := 9999999) +contextual only [exa, ne_eq, not_false_eq_true, reduceAdd, reduceMul, reduceLT, reduceLeDiff, reduceEqDiff, Int.reduceLT, Int.reduceLE, Int.reduceEq, Int.reduceToNat]
 rfl
theorem qT7 (v : VT) : Om 152 [kA v.row] [] = some (kB (!decide (v.kind = 1)), []) := by
 refine (qAA rfl).trans ?_
 show lim tab.get S 152 0 0 [kA v.row] h0 = _
 rw [w152_0, b152_0]
 simp (maxSteps := 9999999) +contextual only [exa, ne_eq, not_false_eq_true, reduceAdd, reduceMul, reduceLT, reduceLeDiff, reduceEqDiff, Int.reduceLT, Int.reduceLE, Int.reduceEq, Int.reduceToNat, oneOf]
theorem qUt (v : VT) : Om 157 [kA v.row] [] = some (kB (!decide (v.kind = 2)), []) := by
 refine (qAA rfl).trans ?_
 show lim tab.get S 157 0 0 [kA v.row] h0 = _
 rw [w157_0, b157_0]
 simp (maxSteps := 9999999) +contextual only [exa, ne_eq, not_false_eq_true, reduceAdd, reduceMul, reduceLT, reduceLeDiff, reduceEqDiff, Int.reduceLT, Int.reduceLE, Int.reduceEq, Int.reduceToNat, oneOf]
def idxK (c : Int) : List VT → Nat → Int
 | [], _ => -1
 | v :: l, i => if v.kind = c then idxK c l (i + 1) else i
theorem qNj (g : FuncId) (c : Int) (hg : ∀ v : VT, Om g [kA v.row] [] = some (kB (!decide (v.kind = c)), [])) (t : Bool) (l : List VT) (hb : l.length ≤ 1000) (h : Heap) :
  ∀ i : Nat, lim tab.get S 177 0 1 [kSl 6 t (l.map VT.row), .v (.c (.func g [])), kI (l.length : Int), kI (i : Int)] h = some (kI (idxK c (l.drop i) i), []) := by
 refine qAj l.length (fun i hi => ?_) (fun i hi ih => ?_) <;> rw [w177_1, b177_1]
 ·have h1 : ¬ (i : Int) < (l.length : Int) := by omega
  rw [qA3 hi]
  simp (maxSteps := 9999999) +contextual only [exa, ne_eq, not_false_eq_true, reduceAdd, reduceMul, reduceLT, reduceLeDiff, reduceEqDiff, Int.reduceLT, Int.reduceLE, Int.reduceEq, Int.reduceToNat, h1, idxK, oneOf]
 ·have h1 : (i : Int) < (l.length : Int) := by omega
  obtain ⟨v, hv, e1, _⟩ := qAS hi
  have m1 : (l.map VT.row)[i]? = some v.row := by rw [List.getElem?_map, hv]; rfl
  have cc : ∀ {β : Type} {k : TVal → Heap → Option β} {h : Heap} {d : Nat}, vcall Om (.v (.c (.func g []))) [kA v.row] h d k = k (kB (!decide (v.kind = c))) h := qAB g _ _ (by simp only [exP]) (hg v) rfl
  rw [e1, idxK]
  by_cases hk : v.kind = c
  ·simp (maxSteps := 9999999) +contextual only [exa, ne_eq, not_false_eq_true, reduceAdd, reduceMul, reduceLT, reduceLeDiff, reduceEqDiff, Int.reduceLT, Int.reduceLE, Int.reduceEq, Int.reduceToNat, h1, m1, cc, hk, qA5 i (by omega), ih, if_true]
  ·simp (maxSteps := 9999999) +contextual only [exa, ne_eq, not_false_eq_true, reduceAdd, reduceMul, reduceLT, reduceLeDiff, reduceEqDiff, Int.reduceLT, Int.reduceLE, Int.reduceEq, Int.reduceToNat, h1, m1, cc, hk, oneOf, if_false]
theorem qPt (g : FuncId) (c : Int) (hg : ∀ v : VT, Om g [kA v.row] [] = some (kB (!decide (v.kind = c)), [])) (t : Bool) (l : List VT) (hb : l.length ≤ 1000) : Om 151 [kSl 6 t (l.map VT.row), .v (.c (.func g []))] [] = some (kB (!l.all fun v => decide (v.kind = c)), []) := by
 have hi : Om 177 [kSl 6 t (l.map VT.row), .v (.c (.func g []))] [] = some (kI (idxK c l 0), []) := by
  refine (qAA rfl).trans ?_
  show lim tab.get S 177 0 0 [kSl 6 t (l.map VT.row), .v (.c (.func g []))] h0 = _
  rw [w177_0, b177_0]
  simp (maxSteps := 9999999) +contextual only [exa, ne_eq, not_false_eq_true, reduceAdd, reduceMul, reduceLT, reduceLeDiff, reduceEqDiff, Int.reduceLT, Int.reduceLE, Int.reduceEq, Int.reduceToNat, List.length_map]
  exact qNj g c hg t l hb h0 0
 refine (qAA rfl).trans ?_
 show lim tab.get S 151 0 0 [kSl 6 t (l.map VT.row), .v (.c (.func g []))] h0 = _
 rw [w151_0, b151_0]
 have cc : CAL 177 [kSl 6 t (l.map VT.row), .v (.c (.func g []))] (kI (idxK c l 0)) := qF6 177 [kSl 6 t (l.map VT.row)] [] g _ rfl rfl rfl hi
 have key : ∀ (l : List VT) (i : Nat), decide (idxK c l i < 0) = l.all fun v => decide (v.kind = c) := by
  intro l
  induction l with
  | nil => intro i; rfl
  | cons v l ih =>
   intro i
   rw [idxK, List.all_cons]
   by_cases hk : v.kind = c
   ·rw [if_pos hk, ih]; simp [hk]
   ·rw [if_neg hk]; simp [hk]
 simp (maxSteps := 9999999) +contextual only [exa, ne_eq, not_false_eq_true, reduceAdd, reduceMul, reduceLT, reduceLeDiff, reduceEqDiff, Int.reduceLT, Int.reduceLE, Int.reduceEq, Int.reduceToNat, cc, oneOf]
 rw [key]
theorem qPv {β : Type} {k : TVal → Heap → Option β} {h : Heap} {d : Nat} (t : Bool) (l : List VT) (hb : l.length ≤ 1000) : vcall Om (.v (.c (.func 151 []))) [kSl 6 t (l.map VT.row), .v (.c (.func 152 []))] h d k = k (kB (!l.all fun v => decide (v.kind = 1))) h := qF6 151 [kSl 6 t (l.map VT.row)] [] 152 _ rfl rfl rfl (qPt 152 1 qT7 t l hb)
theorem qPw {β : Type} {k : TVal → Heap → Option β} {h : Heap} {d : Nat} (t : Bool) (l : List VT) (hb : l.length ≤ 1000) : vcall Om (.v (.c (.func 151 []))) [kSl 6 t (l.map VT.row), .v (.c (.func 157 []))] h d k = k (kB (!l.all fun v => decide (v.kind = 2))) h := qF6 151 [kSl 6 t (l.map VT.row)] [] 157 _ rfl rfl rfl (qPt 157 2 qUt t l hb)
def badS (v w : VT) : Bool := (decide (v.kind < 1) || decide (3 < v.kind)) || !decide (w.kind = v.kind)
def eqM (v w : VT) : VT × Int := if badS v w then (VT.nul, 17) else (truthV (((v.b == w.b) && decide (v.n = w.n)) && decide (v.s = w.s)), 0)
theorem qSz (t : Bool) (v w : VT) : Om 88 [kSl 6 t [v.row, w.row]] [] = some (ansE (eqM v w), []) := by
 refine (qAA rfl).trans ?_
 show lim tab.get S 88 0 0 [kSl 6 t [v.row, w.row]] h0 = _
 rw [w88_0, b88_0]
 unfold eqM
 cases hb : badS v w
 ·have hb' := hb
  unfold badS at hb
  simp (maxSteps := 9999999) +contextual only [exa, ne_eq, not_false_eq_true, reduceAdd, reduceMul, reduceLT, reduceLeDiff, reduceEqDiff, Int.reduceLT, Int.reduceLE, Int.reduceEq, Int.reduceToNat, qAO, qAN, hb, u94, qAC _ (VT.row_len (truthV _))]
  rfl
 ·unfold badS at hb
  simp (maxSteps := 9999999) +contextual only [exa, ne_eq, not_false_eq_true, reduceAdd, reduceMul, reduceLT, reduceLeDiff, reduceEqDiff, Int.reduceLT, Int.reduceLE, Int.reduceEq, Int.reduceToNat, qAO, qAN, hb]
  rfl
def catE (v w : VT) : VT × Int := if (decide (v.kind = 3) && decide (w.kind = 3)) = false then (VT.nul, 17) else if 65536 < v.s.length + w.s.length then (VT.nul, 34) else (txtV (v.s ++ w.s), 0)
theorem qUa (t : Bool) (v w : VT) (hw : w.s.length < 4611686018427387904) : Om 89 [kSl 6 t [v.row, w.row]] [] = some (ansE (catE v w), []) := by
 refine (qAA rfl).trans ?_
 show lim tab.get S 89 0 0 [kSl 6 t [v.row, w.row]] h0 = _
 rw [w89_0, b89_0]
 unfold catE
 have hs : IntKind.i64.wrap (65536 - (w.s.length : Int)) = 65536 - (w.s.length : Int) := qAI _ (by omega) (by omega)
 cases hk : (decide (v.kind = 3) && decide (w.kind = 3))
 ·simp (maxSteps := 9999999) +contextual only [exa, ne_eq, not_false_eq_true, reduceAdd, reduceMul, reduceLT, reduceLeDiff, reduceEqDiff, Int.reduceLT, Int.reduceLE, Int.reduceEq, Int.reduceToNat, qDI, hk, qAs]
  rfl
 ·rw [if_neg (by simp)]
  by_cases h1 : 65536 < v.s.length + w.s.length
  ·have h2 : 65536 - (w.s.length : Int) < (v.s.length : Int) := by omega
   rw [if_pos h1]
   simp (maxSteps := 9999999) +contextual only [exa, ne_eq, not_false_eq_true, reduceAdd, reduceMul, reduceLT, reduceLeDiff, reduceEqDiff, Int.reduceLT, Int.reduceLE, Int.reduceEq, Int.reduceToNat, qDI, hk, qAs, qAO, qAN, hs, h2]
   rfl
  ·have h2 : ¬ 65536 - (w.s.length : Int) < (v.s.length : Int) := by omega
   have h3 : v.s.length + w.s.length ≤ 4611686018427387904 := by omega
   rw [if_neg h1]
   simp (maxSteps := 9999999) +contextual only [exa, ne_eq, not_false_eq_true, reduceAdd, reduceMul, reduceLT, reduceLeDiff, reduceEqDiff, Int.reduceLT, Int.reduceLE, Int.reduceEq, Int.reduceToNat, qDI, hk, qAs, qAO, qAN, hs, h2, h3, qOB, qAC _ (VT.row_len (txtV _))]
   rfl
theorem qCu {β : Type} {k : TVal → Heap → Option β} {h : Heap} {d : Nat} (t : Bool) (v : VT) : vcall Om (.v (.c (.func 151 []))) [kSl 6 t [v.row], .v (.c (.func 152 []))] h d k = k (kB (!decide (v.kind = 1))) h := by
 refine (qPv t [v] (by show 1 ≤ 1000; decide)).trans ?_
 simp
theorem qCi {β : Type} {k : TVal → Heap → Option β} {h : Heap} {d : Nat} (t : Bool) (v w : VT) : vcall Om (.v (.c (.func 151 []))) [kSl 6 t [v.row, w.row], .v (.c (.func 152 []))] h d k = k (kB (!(decide (v.kind = 1) && decide (w.kind = 1)))) h := by
 refine (qPv t [v, w] (by show 2 ≤ 1000; decide)).trans ?_
 simp
theorem qBI {β : Type} {k : TVal → Heap → Option β} {h : Heap} {d : Nat} (t : Bool) (v : VT) : vcall Om (.v (.c (.func 151 []))) [kSl 6 t [v.row], .v (.c (.func 157 []))] h d k = k (kB (!decide (v.kind = 2))) h := by
 refine (qPw t [v] (by show 1 ≤ 1000; decide)).trans ?_
 simp
theorem qBG {β : Type} {k : TVal → Heap → Option β} {h : Heap} {d : Nat} (t : Bool) (v w : VT) : vcall Om (.v (.c (.func 151 []))) [kSl 6 t [v.row, w.row], .v (.c (.func 157 []))] h d k = k (kB (!(decide (v.kind = 2) && decide (w.kind = 2)))) h := by
 refine (qPw t [v, w] (by show 2 ≤ 1000; decide)).trans ?_
 simp
theorem qNX (t : Bool) (v : VT) : Om 87 [kS n_not, kSl 6 t [v.row]] [] = some (ansE (if decide (v.kind = 1) = false then ((VT.nul, 17) : VT × Int) else (truthV (!v.b), 0)), []) := by
 refine (qAA rfl).trans ?_
 show lim tab.get S 87 0 0 [kS n_not, kSl 6 t [v.row]] h0 = _
 rw [w87_0, b87_0]
 cases hk : decide (v.kind = 1)
 ·simp (maxSteps := 9999999) +contextual only [exa, ne_eq, not_false_eq_true, reduceAdd, reduceMul, reduceLT, reduceLeDiff, reduceEqDiff, Int.reduceLT, Int.reduceLE, Int.reduceEq, Int.reduceToNat, qCu, qCi, hk]
  rfl
 ·simp (maxSteps := 9999999) +contextual only [exa, ne_eq, not_false_eq_true, reduceAdd, reduceMul, reduceLT, reduceLeDiff, reduceEqDiff, Int.reduceLT, Int.reduceLE, Int.reduceEq, Int.reduceToNat, qCu, qCi, hk, qAR, qAO, qAN, show (decide (n_not = [110, 111, 116]) = true) from id rfl, show (decide (n_not = [97, 110, 100]) = false) from id rfl, u94, qAC _ (VT.row_len (truthV _))]
  rfl
theorem qMJ (t : Bool) (v w : VT) : Om 87 [kS n_and, kSl 6 t [v.row, w.row]] [] = some (ansE (if (decide (v.kind = 1) && decide (w.kind = 1)) = false then ((VT.nul, 17) : VT × Int) else (truthV (v.b && w.b), 0)), []) := by
 refine (qAA rfl).trans ?_
 show lim tab.get S 87 0 0 [kS n_and, kSl 6 t [v.row, w.row]] h0 = _
 rw [w87_0, b87_0]
 cases hk : (decide (v.kind = 1) && decide (w.kind = 1))
 ·simp (maxSteps := 9999999) +contextual only [exa, ne_eq, not_false_eq_true, reduceAdd, reduceMul, reduceLT, reduceLeDiff, reduceEqDiff, Int.reduceLT, Int.reduceLE, Int.reduceEq, Int.reduceToNat, qCu, qCi, hk]
  rfl
 ·simp (maxSteps := 9999999) +contextual only [exa, ne_eq, not_false_eq_true, reduceAdd, reduceMul, reduceLT, reduceLeDiff, reduceEqDiff, Int.reduceLT, Int.reduceLE, Int.reduceEq, Int.reduceToNat, qCu, qCi, hk, qAR, qAO, qAN, show (decide (n_and = [110, 111, 116]) = false) from id rfl, show (decide (n_and = [97, 110, 100]) = true) from id rfl, u94, qAC _ (VT.row_len (truthV _))]
  rfl
theorem qPs (t : Bool) (v w : VT) : Om 87 [kS n_or, kSl 6 t [v.row, w.row]] [] = some (ansE (if (decide (v.kind = 1) && decide (w.kind = 1)) = false then ((VT.nul, 17) : VT × Int) else (truthV (v.b || w.b), 0)), []) := by
 refine (qAA rfl).trans ?_
 show lim tab.get S 87 0 0 [kS n_or, kSl 6 t [v.row, w.row]] h0 = _
 rw [w87_0, b87_0]
 cases hk : (decide (v.kind = 1) && decide (w.kind = 1))
 ·simp (maxSteps := 9999999) +contextual only [exa, ne_eq, not_false_eq_true, reduceAdd, reduceMul, reduceLT, reduceLeDiff, reduceEqDiff, Int.reduceLT, Int.reduceLE, Int.reduceEq, Int.reduceToNat, qCu, qCi, hk]
  rfl
 ·simp (maxSteps := 9999999) +contextual only [exa, ne_eq, not_false_eq_true, reduceAdd, reduceMul, reduceLT, reduceLeDiff, reduceEqDiff, Int.reduceLT, Int.reduceLE, Int.reduceEq, Int.reduceToNat, qCu, qCi, hk, qAR, qAO, qAN, show (decide (n_or = [110, 111, 116]) = false) from id rfl, show (decide (n_or = [97, 110, 100]) = false) from id rfl, u94, qAC _ (VT.row_len (truthV _))]
  rfl
open Go Go.AI
def sh (b : Int) : Nat := (b % 64).toNat
theorem qA4 (b : Int) : sh b < 64 := by unfold sh; omega
theorem qDd (b : Int) : (IntKind.u64.wrap b).tmod 64 = (sh b : Int) := by
 have e : IntKind.u64.wrap b = b % 18446744073709551616 := rfl
 rw [e, Int.tmod_eq_emod_of_nonneg (by omega)]
 unfold sh
 omega
theorem qNt (n : Int) : Om 158 [kS n_i8, kI n] [] = some (kI (IntKind.i64.wrap (IntKind.i8.wrap n)), []) := by
 refine (qAA rfl).trans ?_
 show lim tab.get S 158 0 0 [kS n_i8, kI n] h0 = _
 rw [w158_0, b158_0]
 simp (maxSteps := 9999999) +contextual only [exa, ne_eq, not_false_eq_true, reduceAdd, reduceMul, reduceLT, reduceLeDiff, reduceEqDiff, Int.reduceLT, Int.reduceLE, Int.reduceEq, Int.reduceToNat, oneOf, show (decide (n_i8 = [105, 56]) = true) from id rfl, show (decide (n_i8 = [105, 49, 54]) = false) from id rfl, show (decide (n_i8 = [105, 51, 50]) = false) from id rfl, show (decide (n_i8 = [117, 56]) = false) from id rfl, show (decide (n_i8 = [117, 49, 54]) = false) from id rfl]
theorem qLa (n : Int) : Om 158 [kS n_i16, kI n] [] = some (kI (IntKind.i64.wrap (IntKind.i16.wrap n)), []) := by
 refine (qAA rfl).trans ?_
 show lim tab.get S 158 0 0 [kS n_i16, kI n] h0 = _
 rw [w158_0, b158_0]
 simp (maxSteps := 9999999) +contextual only [exa, ne_eq, not_false_eq_true, reduceAdd, reduceMul, reduceLT, reduceLeDiff, reduceEqDiff, Int.reduceLT, Int.reduceLE, Int.reduceEq, Int.reduceToNat, oneOf, show (decide (n_i16 = [105, 56]) = false) from id rfl, show (decide (n_i16 = [105, 49, 54]) = true) from id rfl, show (decide (n_i16 = [105, 51, 50]) = false) from id rfl, show (decide (n_i16 = [117, 56]) = false) from id rfl, show (decide (n_i16 = [117, 49, 54]) = false) from id rfl]
theorem qKB (n : Int) : Om 158 [kS n_i32, kI n] [] = some (kI (IntKind.i64.wrap (IntKind.i32.wrap n)), []) := by
 refine (qAA rfl).trans ?_
 show lim tab.get S 158 0 0 [kS n_i32, kI n] h0 = _
 rw [w158_0, b158_0]
 simp (maxSteps := 9999999) +contextual only [exa, ne_eq, not_false_eq_true, reduceAdd, reduceMul, reduceLT, reduceLeDiff, reduceEqDiff, Int.reduceLT, Int.reduceLE, Int.reduceEq, Int.reduceToNat, oneOf, show (decide (n_i32 = [105, 56]) = false) from id rfl, show (decide (n_i32 = [105, 49, 54]) = false) from id rfl, show (decide (n_i32 = [105, 51, 50]) = true) from id rfl, show (decide (n_i32 = [117, 56]) = false) from id rfl, show (decide (n_i32 = [117, 49, 54]) = false) from id rfl]
theorem qNg (n : Int) : Om 158 [kS n_u8, kI n] [] = some (kI (IntKind.i64.wrap (IntKind.u8.wrap n)), []) := by
 refine (qAA rfl).trans ?_
 show lim tab.get S 158 0 0 [kS n_u8, kI n] h0 = _
 rw [w158_0, b158_0]
 simp (maxSteps := 9999999) +contextual only [exa, ne_eq, not_false_eq_true, reduceAdd, reduceMul, reduceLT, reduceLeDiff, reduceEqDiff, Int.reduceLT, Int.reduceLE, Int.reduceEq, Int.reduceToNat, oneOf, show (decide (n_u8 = [105, 56]) = false) from id rfl, show (decide (n_u8 = [105, 49, 54]) = false) from id rfl, show (decide (n_u8 = [105, 51, 50]) = false) from id rfl, show (decide (n_u8 = [117, 56]) = true) from id rfl, show (decide (n_u8 = [117, 49, 54]) = false) from id rfl]
theorem qKH (n : Int) : Om 158 [kS n_u16, kI n] [] = some (kI (IntKind.i64.wrap (IntKind.u16.wrap n)), []) := by
 refine (qAA rfl).trans ?_
 show lim tab.get S 158 0 0 [kS n_u16, kI n] h0 = _
 rw [w158_0, b158_0]
 simp (maxSteps := 9999999) +contextual only [exa, ne_eq, not_false_eq_true, reduceAdd, reduceMul, reduceLT, reduceLeDiff, reduceEqDiff, Int.reduceLT, Int.reduceLE, Int.reduceEq, Int.reduceToNat, oneOf, show (decide (n_u16 = [105, 56]) = false) from id rfl, show (decide (n_u16 = [105, 49, 54]) = false) from id rfl, show (decide (n_u16 = [105, 51, 50]) = false) from id rfl, show (decide (n_u16 = [117, 56]) = false) from id rfl, show (decide (n_u16 = [117, 49, 54]) = true) from id rfl]
theorem qKd (n : Int) : Om 158 [kS n_u32, kI n] [] = some (kI (IntKind.i64.wrap (IntKind.u32.wrap n)), []) := by
 refine (qAA rfl).trans ?_
 show lim tab.get S 158 0 0 [kS n_u32, kI n] h0 = _
 rw [w158_0, b158_0]
 simp (maxSteps := 9999999) +contextual only [exa, ne_eq, not_false_eq_true, reduceAdd, reduceMul, reduceLT, reduceLeDiff, reduceEqDiff, Int.reduceLT, Int.reduceLE, Int.reduceEq, Int.reduceToNat, oneOf, show (decide (n_u32 = [105, 56]) = false) from id rfl, show (decide (n_u32 = [105, 49, 54]) = false) from id rfl, show (decide (n_u32 = [105, 51, 50]) = false) from id rfl, show (decide (n_u32 = [117, 56]) = false) from id rfl, show (decide (n_u32 = [117, 49, 54]) = false) from id rfl]
theorem qKs (a b : Int) : Om 159 [kS n_add, kI a, kI b] [] = some (kI (IntKind.i64.wrap (a + b)), []) := by
 refine (qAA rfl).trans ?_
 show lim tab.get S 159 0 0 [kS n_add, kI a, kI b] h0 = _
 have h64 : min (sh b) 64 = sh b := by have := qA4 b; omega
 rw [w159_0, b159_0]
 simp (maxSteps := 9999999) +contextual only [exa, ne_eq, not_false_eq_true, reduceAdd, reduceMul, reduceLT, reduceLeDiff, reduceEqDiff, Int.reduceLT, Int.reduceLE, Int.reduceEq, Int.reduceToNat, oneOf, show (decide (n_add = [97, 100, 100]) = true) from id rfl, show (decide (n_add = [115, 117, 98]) = false) from id rfl, show (decide (n_add = [109, 117, 108]) = false) from id rfl, show (decide (n_add = [115, 104, 108]) = false) from id rfl, qAZ 0 .u64 (IntKind.u64.wrap b) 64 (by decide), qDd, qAd, qAc, h64]
theorem qLy (a b : Int) : Om 159 [kS n_sub, kI a, kI b] [] = some (kI (IntKind.i64.wrap (a - b)), []) := by
 refine (qAA rfl).trans ?_
 show lim tab.get S 159 0 0 [kS n_sub, kI a, kI b] h0 = _
 have h64 : min (sh b) 64 = sh b := by have := qA4 b; omega
 rw [w159_0, b159_0]
 simp (maxSteps := 9999999) +contextual only [exa, ne_eq, not_false_eq_true, reduceAdd, reduceMul, reduceLT, reduceLeDiff, reduceEqDiff, Int.reduceLT, Int.reduceLE, Int.reduceEq, Int.reduceToNat, oneOf, show (decide (n_sub = [97, 100, 100]) = false) from id rfl, show (decide (n_sub = [115, 117, 98]) = true) from id rfl, show (decide (n_sub = [109, 117, 108]) = false) from id rfl, show (decide (n_sub = [115, 104, 108]) = false) from id rfl, qAZ 0 .u64 (IntKind.u64.wrap b) 64 (by decide), qDd, qAd, qAc, h64]
theorem qKL (a b : Int) : Om 159 [kS n_mul, kI a, kI b] [] = some (kI (IntKind.i64.wrap (a * b)), []) := by
 refine (qAA rfl).trans ?_
 show lim tab.get S 159 0 0 [kS n_mul, kI a, kI b] h0 = _
 have h64 : min (sh b) 64 = sh b := by have := qA4 b; omega
 rw [w159_0, b159_0]
 simp (maxSteps := 9999999) +contextual only [exa, ne_eq, not_false_eq_true, reduceAdd, reduceMul, reduceLT, reduceLeDiff, reduceEqDiff, Int.reduceLT, Int.reduceLE, Int.reduceEq, Int.reduceToNat, oneOf, show (decide (n_mul = [97, 100, 100]) = false) from id rfl, show (decide (n_mul = [115, 117, 98]) = false) from id rfl, show (decide (n_mul = [109, 117, 108]) = true) from id rfl, show (decide (n_mul = [115, 104, 108]) = false) from id rfl, qAZ 0 .u64 (IntKind.u64.wrap b) 64 (by decide), qDd, qAd, qAc, h64]
theorem qLz (a b : Int) : Om 159 [kS n_shl, kI a, kI b] [] = some (kI (IntKind.i64.wrap (a * 2 ^ sh b)), []) := by
 refine (qAA rfl).trans ?_
 show lim tab.get S 159 0 0 [kS n_shl, kI a, kI b] h0 = _
 have h64 : min (sh b) 64 = sh b := by have := qA4 b; omega
 rw [w159_0, b159_0]
 simp (maxSteps := 9999999) +contextual only [exa, ne_eq, not_false_eq_true, reduceAdd, reduceMul, reduceLT, reduceLeDiff, reduceEqDiff, Int.reduceLT, Int.reduceLE, Int.reduceEq, Int.reduceToNat, oneOf, show (decide (n_shl = [97, 100, 100]) = false) from id rfl, show (decide (n_shl = [115, 117, 98]) = false) from id rfl, show (decide (n_shl = [109, 117, 108]) = false) from id rfl, show (decide (n_shl = [115, 104, 108]) = true) from id rfl, qAZ 0 .u64 (IntKind.u64.wrap b) 64 (by decide), qDd, qAd, qAc, h64]
theorem qKQ (a b : Int) : Om 159 [kS n_shr, kI a, kI b] [] = some (kI (a.fdiv (2 ^ sh b)), []) := by
 refine (qAA rfl).trans ?_
 show lim tab.get S 159 0 0 [kS n_shr, kI a, kI b] h0 = _
 have h64 : min (sh b) 64 = sh b := by have := qA4 b; omega
 rw [w159_0, b159_0]
 simp (maxSteps := 9999999) +contextual only [exa, ne_eq, not_false_eq_true, reduceAdd, reduceMul, reduceLT, reduceLeDiff, reduceEqDiff, Int.reduceLT, Int.reduceLE, Int.reduceEq, Int.reduceToNat, oneOf, show (decide (n_shr = [97, 100, 100]) = false) from id rfl, show (decide (n_shr = [115, 117, 98]) = false) from id rfl, show (decide (n_shr = [109, 117, 108]) = false) from id rfl, show (decide (n_shr = [115, 104, 108]) = false) from id rfl, qAZ 0 .u64 (IntKind.u64.wrap b) 64 (by decide), qDd, qAd, qAc, h64]
theorem qKc (t : Bool) (v : VT) : Om 96 [kS n_i8, kSl 6 t [v.row]] [] = some (ansE (if decide (v.kind = 2) = false then ((VT.nul, 17) : VT × Int) else (numV (IntKind.i64.wrap (IntKind.i8.wrap v.n)), 0)), []) := by
 refine (qAA rfl).trans ?_
 show lim tab.get S 96 0 0 [kS n_i8, kSl 6 t [v.row]] h0 = _
 have cc : CAL 158 [kS n_i8, kI v.n] (kI (IntKind.i64.wrap (IntKind.i8.wrap v.n))) := qAB 158 _ _ rfl (qNt v.n) rfl
 rw [w96_0, b96_0]
 cases hk : decide (v.kind = 2)
 ·simp (maxSteps := 9999999) +contextual only [exa, ne_eq, not_false_eq_true, reduceAdd, reduceMul, reduceLT, reduceLeDiff, reduceEqDiff, Int.reduceLT, Int.reduceLE, Int.reduceEq, Int.reduceToNat, qBI, hk]
  rfl
 ·simp (maxSteps := 9999999) +contextual only [exa, ne_eq, not_false_eq_true, reduceAdd, reduceMul, reduceLT, reduceLeDiff, reduceEqDiff, Int.reduceLT, Int.reduceLE, Int.reduceEq, Int.reduceToNat, qBI, hk, qAR, qAU, cc, qBq, qAC _ (VT.row_len (numV _))]
  rfl
theorem qIv (t : Bool) (v : VT) : Om 96 [kS n_i16, kSl 6 t [v.row]] [] = some (ansE (if decide (v.kind = 2) = false then ((VT.nul, 17) : VT × Int) else (numV (IntKind.i64.wrap (IntKind.i16.wrap v.n)), 0)), []) := by
 refine (qAA rfl).trans ?_
 show lim tab.get S 96 0 0 [kS n_i16, kSl 6 t [v.row]] h0 = _
 have cc : CAL 158 [kS n_i16, kI v.n] (kI (IntKind.i64.wrap (IntKind.i16.wrap v.n))) := qAB 158 _ _ rfl (qLa v.n) rfl
 rw [w96_0, b96_0]
 cases hk : decide (v.kind = 2)
 ·simp (maxSteps := 9999999) +contextual only [exa, ne_eq, not_false_eq_true, reduceAdd, reduceMul, reduceLT, reduceLeDiff, reduceEqDiff, Int.reduceLT, Int.reduceLE, Int.reduceEq, Int.reduceToNat, qBI, hk]
  rfl
 ·simp (maxSteps := 9999999) +contextual only [exa, ne_eq, not_false_eq_true, reduceAdd, reduceMul, reduceLT, reduceLeDiff, reduceEqDiff, Int.reduceLT, Int.reduceLE, Int.reduceEq, Int.reduceToNat, qBI, hk, qAR, qAU, cc, qBq, qAC _ (VT.row_len (numV _))]
  rfl
theorem qJE (t : Bool) (v : VT) : Om 96 [kS n_i32, kSl 6 t [v.row]] [] = some (ansE (if decide (v.kind = 2) = false then ((VT.nul, 17) : VT × Int) else (numV (IntKind.i64.wrap (IntKind.i32.wrap v.n)), 0)), []) := by
 refine (qAA rfl).trans ?_
 show lim tab.get S 96 0 0 [kS n_i32, kSl 6 t [v.row]] h0 = _
 have cc : CAL 158 [kS n_i32, kI v.n] (kI (IntKind.i64.wrap (IntKind.i32.wrap v.n))) := qAB 158 _ _ rfl (qKB v.n) rfl
 rw [w96_0, b96_0]
 cases hk : decide (v.kind = 2)
 ·simp (maxSteps := 9999999) +contextual only [exa, ne_eq, not_false_eq_true, reduceAdd, reduceMul, reduceLT, reduceLeDiff, reduceEqDiff, Int.reduceLT, Int.reduceLE, Int.reduceEq, Int.reduceToNat, qBI, hk]
  rfl
 ·simp (maxSteps := 9999999) +contextual only [exa, ne_eq, not_false_eq_true, reduceAdd, reduceMul, reduceLT, reduceLeDiff, reduceEqDiff, Int.reduceLT, Int.reduceLE, Int.reduceEq, Int.reduceToNat, qBI, hk, qAR, qAU, cc, qBq, qAC _ (VT.row_len (numV _))]
  rfl
theorem qLt (t : Bool) (v : VT) : Om 96 [kS n_u8, kSl 6 t [v.row]] [] = some (ansE (if decide (v.kind = 2) = false then ((VT.nul, 17) : VT × Int) else (numV (IntKind.i64.wrap (IntKind.u8.wrap v.n)), 0)), []) := by
 refine (qAA rfl).trans ?_
 show lim tab.get S 96 0 0 [kS n_u8, kSl 6 t [v.row]] h0 = _
 have cc : CAL 158 [kS n_u8, kI v.n] (kI (IntKind.i64.wrap (IntKind.u8.wrap v.n))) := qAB 158 _ _ rfl (qNg v.n) rfl
 rw [w96_0, b96_0]
 cases hk : decide (v.kind = 2)
 ·simp (maxSteps := 9999999) +contextual only [exa, ne_eq, not_false_eq_true, reduceAdd, reduceMul, reduceLT, reduceLeDiff, reduceEqDiff, Int.reduceLT, Int.reduceLE, Int.reduceEq, Int.reduceToNat, qBI, hk]
  rfl
 ·simp (maxSteps := 9999999) +contextual only [exa, ne_eq, not_false_eq_true, reduceAdd, reduceMul, reduceLT, reduceLeDiff, reduceEqDiff, Int.reduceLT, Int.reduceLE, Int.reduceEq, Int.reduceToNat, qBI, hk, qAR, qAU, cc, qBq, qAC _ (VT.row_len (numV _))]
  rfl
theorem qI0 (t : Bool) (v : VT) : Om 96 [kS n_u16, kSl 6 t [v.row]] [] = some (ansE (if decide (v.kind = 2) = false then ((VT.nul, 17) : VT × Int) else (numV (IntKind.i64.wrap (IntKind.u16.wrap v.n)), 0)), []) := by
 refine (qAA rfl).trans ?_
 show lim tab.get S 96 0 0 [kS n_u16, kSl 6 t [v.row]] h0 = _
 have cc : CAL 158 [kS n_u16, kI v.n] (kI (IntKind.i64.wrap (IntKind.u16.wrap v.n))) := qAB 158 _ _ rfl (qKH v.n) rfl
 rw [w96_0, b96_0]
 cases hk : decide (v.kind = 2)
 ·simp (maxSteps := 9999999) +contextual only [exa, ne_eq, not_false_eq_true, reduceAdd, reduceMul, reduceLT, reduceLeDiff, reduceEqDiff, Int.reduceLT, Int.reduceLE, Int.reduceEq, Int.reduceToNat, qBI, hk]
  rfl
 ·simp (maxSteps := 9999999) +contextual only [exa, ne_eq, not_false_eq_true, reduceAdd, reduceMul, reduceLT, reduceLeDiff, reduceEqDiff, Int.reduceLT, Int.reduceLE, Int.reduceEq, Int.reduceToNat, qBI, hk, qAR, qAU, cc, qBq, qAC _ (VT.row_len (numV _))]
  rfl
theorem qJH (t : Bool) (v : VT) : Om 96 [kS n_u32, kSl 6 t [v.row]] [] = some (ansE (if decide (v.kind = 2) = false then ((VT.nul, 17) : VT × Int) else (numV (IntKind.i64.wrap (IntKind.u32.wrap v.n)), 0)), []) := by
 refine (qAA rfl).trans ?_
 show lim tab.get S 96 0 0 [kS n_u32, kSl 6 t [v.row]] h0 = _
 have cc : CAL 158 [kS n_u32, kI v.n] (kI (IntKind.i64.wrap (IntKind.u32.wrap v.n))) := qAB 158 _ _ rfl (qKd v.n) rfl
 rw [w96_0, b96_0]
 cases hk : decide (v.kind = 2)
 ·simp (maxSteps := 9999999) +contextual only [exa, ne_eq, not_false_eq_true, reduceAdd, reduceMul, reduceLT, reduceLeDiff, reduceEqDiff, Int.reduceLT, Int.reduceLE, Int.reduceEq, Int.reduceToNat, qBI, hk]
  rfl
 ·simp (maxSteps := 9999999) +contextual only [exa, ne_eq, not_false_eq_true, reduceAdd, reduceMul, reduceLT, reduceLeDiff, reduceEqDiff, Int.reduceLT, Int.reduceLE, Int.reduceEq, Int.reduceToNat, qBI, hk, qAR, qAU, cc, qBq, qAC _ (VT.row_len (numV _))]
  rfl
theorem qLG (t : Bool) (v w : VT) : Om 96 [kS n_lt, kSl 6 t [v.row, w.row]] [] = some (ansE (if (decide (v.kind = 2) && decide (w.kind = 2)) = false then ((VT.nul, 17) : VT × Int) else (truthV (decide (v.n < w.n)), 0)), []) := by
 refine (qAA rfl).trans ?_
 show lim tab.get S 96 0 0 [kS n_lt, kSl 6 t [v.row, w.row]] h0 = _
 rw [w96_0, b96_0]
 cases hk : (decide (v.kind = 2) && decide (w.kind = 2))
 ·simp (maxSteps := 9999999) +contextual only [exa, ne_eq, not_false_eq_true, reduceAdd, reduceMul, reduceLT, reduceLeDiff, reduceEqDiff, Int.reduceLT, Int.reduceLE, Int.reduceEq, Int.reduceToNat, qBG, hk]
  rfl
 ·simp (maxSteps := 9999999) +contextual only [exa, ne_eq, not_false_eq_true, reduceAdd, reduceMul, reduceLT, reduceLeDiff, reduceEqDiff, Int.reduceLT, Int.reduceLE, Int.reduceEq, Int.reduceToNat, qBG, hk, qAO, qAN, qAX, show (decide (n_lt = [108, 116]) = true) from id rfl, u94, qAC _ (VT.row_len (truthV _))]
  rfl
theorem qJF (t : Bool) (v w : VT) : Om 96 [kS n_add, kSl 6 t [v.row, w.row]] [] = some (ansE (if (decide (v.kind = 2) && decide (w.kind = 2)) = false then ((VT.nul, 17) : VT × Int) else (numV (IntKind.i64.wrap (v.n + w.n)), 0)), []) := by
 refine (qAA rfl).trans ?_
 show lim tab.get S 96 0 0 [kS n_add, kSl 6 t [v.row, w.row]] h0 = _
 have cc : CAL 159 [kS n_add, kI v.n, kI w.n] (kI (IntKind.i64.wrap (v.n + w.n))) := qAB 159 _ _ rfl (qKs v.n w.n) rfl
 rw [w96_0, b96_0]
 cases hk : (decide (v.kind = 2) && decide (w.kind = 2))
 ·simp (maxSteps := 9999999) +contextual only [exa, ne_eq, not_false_eq_true, reduceAdd, reduceMul, reduceLT, reduceLeDiff, reduceEqDiff, Int.reduceLT, Int.reduceLE, Int.reduceEq, Int.reduceToNat, qBG, hk]
  rfl
 ·simp (maxSteps := 9999999) +contextual only [exa, ne_eq, not_false_eq_true, reduceAdd, reduceMul, reduceLT, reduceLeDiff, reduceEqDiff, Int.reduceLT, Int.reduceLE, Int.reduceEq, Int.reduceToNat, qBG, hk, qAO, qAN, qAX, show (decide (n_add = [108, 116]) = false) from id rfl, cc, qBq, qAC _ (VT.row_len (numV _))]
  rfl
theorem qIp (t : Bool) (v w : VT) : Om 96 [kS n_sub, kSl 6 t [v.row, w.row]] [] = some (ansE (if (decide (v.kind = 2) && decide (w.kind = 2)) = false then ((VT.nul, 17) : VT × Int) else (numV (IntKind.i64.wrap (v.n - w.n)), 0)), []) := by
 refine (qAA rfl).trans ?_
 show lim tab.get S 96 0 0 [kS n_sub, kSl 6 t [v.row, w.row]] h0 = _
 have cc : CAL 159 [kS n_sub, kI v.n, kI w.n] (kI (IntKind.i64.wrap (v.n - w.n))) := qAB 159 _ _ rfl (qLy v.n w.n) rfl
 rw [w96_0, b96_0]
 cases hk : (decide (v.kind = 2) && decide (w.kind = 2))
 ·simp (maxSteps := 9999999) +contextual only [exa, ne_eq, not_false_eq_true, reduceAdd, reduceMul, reduceLT, reduceLeDiff, reduceEqDiff, Int.reduceLT, Int.reduceLE, Int.reduceEq, Int.reduceToNat, qBG, hk]
  rfl
 ·simp (maxSteps := 9999999) +contextual only [exa, ne_eq, not_false_eq_true, reduceAdd, reduceMul, reduceLT, reduceLeDiff, reduceEqDiff, Int.reduceLT, Int.reduceLE, Int.reduceEq, Int.reduceToNat, qBG, hk, qAO, qAN, qAX, show (decide (n_sub = [108, 116]) = false) from id rfl, cc, qBq, qAC _ (VT.row_len (numV _))]
  rfl
theorem qJJ (t : Bool) (v w : VT) : Om 96 [kS n_mul, kSl 6 t [v.row, w.row]] [] = some (ansE (if (decide (v.kind = 2) && decide (w.kind = 2)) = false then ((VT.nul, 17) : VT × Int) else (numV (IntKind.i64.wrap (v.n * w.n)), 0)), []) := by
 refine (qAA rfl).trans ?_
 show lim tab.get S 96 0 0 [kS n_mul, kSl 6 t [v.row, w.row]] h0 = _
 have cc : CAL 159 [kS n_mul, kI v.n, kI w.n] (kI (IntKind.i64.wrap (v.n * w.n))) := qAB 159 _ _ rfl (qKL v.n w.n) rfl
 rw [w96_0, b96_0]
 cases hk : (decide (v.kind = 2) && decide (w.kind = 2))
 ·simp (maxSteps := 9999999) +contextual only [exa, ne_eq, not_false_eq_true, reduceAdd, reduceMul, reduceLT, reduceLeDiff, reduceEqDiff, Int.reduceLT, Int.reduceLE, Int.reduceEq, Int.reduceToNat, qBG, hk]
  rfl
 ·simp (maxSteps := 9999999) +contextual only [exa, ne_eq, not_false_eq_true, reduceAdd, reduceMul, reduceLT, reduceLeDiff, reduceEqDiff, Int.reduceLT, Int.reduceLE, Int.reduceEq, Int.reduceToNat, qBG, hk, qAO, qAN, qAX, show (decide (n_mul = [108, 116]) = false) from id rfl, cc, qBq, qAC _ (VT.row_len (numV _))]
  rfl
theorem qJR (t : Bool) (v w : VT) : Om 96 [kS n_shl, kSl 6 t [v.row, w.row]] [] = some (ansE (if (decide (v.kind = 2) && decide (w.kind = 2)) = false then ((VT.nul, 17) : VT × Int) else (numV (IntKind.i64.wrap (v.n * 2 ^ sh w.n)), 0)), []) := by
 refine (qAA rfl).trans ?_
 show lim tab.get S 96 0 0 [kS n_shl, kSl 6 t [v.row, w.row]] h0 = _
 have cc : CAL 159 [kS n_shl, kI v.n, kI w.n] (kI (IntKind.i64.wrap (v.n * 2 ^ sh w.n))) := qAB 159 _ _ rfl (qLz v.n w.n) rfl
 rw [w96_0, b96_0]
 cases hk : (decide (v.kind = 2) && decide (w.kind = 2))
 ·simp (maxSteps := 9999999) +contextual only [exa, ne_eq, not_false_eq_true, reduceAdd, reduceMul, reduceLT, reduceLeDiff, reduceEqDiff, Int.reduceLT, Int.reduceLE, Int.reduceEq, Int.reduceToNat, qBG, hk]
  rfl
 ·simp (maxSteps := 9999999) +contextual only [exa, ne_eq, not_false_eq_true, reduceAdd, reduceMul, reduceLT, reduceLeDiff, reduceEqDiff, Int.reduceLT, Int.reduceLE, Int.reduceEq, Int.reduceToNat, qBG, hk, qAO, qAN, qAX, show (decide (n_shl = [108, 116]) = false) from id rfl, cc, qBq, qAC _ (VT.row_len (numV _))]
  rfl
theorem qJY (t : Bool) (v w : VT) : Om 96 [kS n_shr, kSl 6 t [v.row, w.row]] [] = some (ansE (if (decide (v.kind = 2) && decide (w.kind = 2)) = false then ((VT.nul, 17) : VT × Int) else (numV (v.n.fdiv (2 ^ sh w.n)), 0)), []) := by
 refine (qAA rfl).trans ?_
 show lim tab.get S 96 0 0 [kS n_shr, kSl 6 t [v.row, w.row]] h0 = _
 have cc : CAL 159 [kS n_shr, kI v.n, kI w.n] (kI (v.n.fdiv (2 ^ sh w.n))) := qAB 159 _ _ rfl (qKQ v.n w.n) rfl
 rw [w96_0, b96_0]
 cases hk : (decide (v.kind = 2) && decide (w.kind = 2))
 ·simp (maxSteps := 9999999) +contextual only [exa, ne_eq, not_false_eq_true, reduceAdd, reduceMul, reduceLT, reduceLeDiff, reduceEqDiff, Int.reduceLT, Int.reduceLE, Int.reduceEq, Int.reduceToNat, qBG, hk]
  rfl
 ·simp (maxSteps := 9999999) +contextual only [exa, ne_eq, not_false_eq_true, reduceAdd, reduceMul, reduceLT, reduceLeDiff, reduceEqDiff, Int.reduceLT, Int.reduceLE, Int.reduceEq, Int.reduceToNat, qBG, hk, qAO, qAN, qAX, show (decide (n_shr = [108, 116]) = false) from id rfl, cc, qBq, qAC _ (VT.row_len (numV _))]
  rfl
open Go Go.AI
theorem qPu : (decide (n_len = [108, 101, 110]) = true) ∧ (decide (n_len = [110, 111, 116]) = false) ∧ (decide (n_len = [97, 110, 100]) = false) ∧ (decide (n_len = [111, 114]) = false) ∧ (decide (n_len = [101, 113]) = false) ∧ (decide (n_len = [99, 97, 116]) = false) ∧ (decide (n_len = [116, 101, 120, 116]) = false) ∧ (decide (n_len = [97, 116]) = false) ∧ (decide (n_len = [103, 101, 116]) = false) ∧ (decide (n_len = [104, 97, 115]) = false) ∧ (decide (n_len = [111, 114, 101, 108, 115, 101]) = false) := ⟨id rfl, id rfl, id rfl, id rfl, id rfl, id rfl, id rfl, id rfl, id rfl, id rfl, id rfl⟩
theorem qSa {β : Type} {k : TVal → Heap → Option β} {h : Heap} {d : Nat} : vcall Om (.v (.c (.func 84 []))) [kS n_len] h d k = k (kB true) h := qAB 84 _ _ rfl ((qAA rfl).trans (qAD blks_ok 500 84 0 0 _ _ _ (by kernel_rfl))) rfl
theorem qTO {β : Type} {k : TVal → Heap → Option β} {h : Heap} {d : Nat} : vcall Om (.v (.c (.func 85 []))) [kS n_len] h d k = k (kI 1) h := qAB 85 _ _ rfl ((qAA rfl).trans (qAD blks_ok 500 85 0 0 _ _ _ (by kernel_rfl))) rfl
theorem qHK : (decide (n_not = [108, 101, 110]) = false) ∧ (decide (n_not = [110, 111, 116]) = true) ∧ (decide (n_not = [97, 110, 100]) = false) ∧ (decide (n_not = [111, 114]) = false) ∧ (decide (n_not = [101, 113]) = false) ∧ (decide (n_not = [99, 97, 116]) = false) ∧ (decide (n_not = [116, 101, 120, 116]) = false) ∧ (decide (n_not = [97, 116]) = false) ∧ (decide (n_not = [103, 101, 116]) = false) ∧ (decide (n_not = [104, 97, 115]) = false) ∧ (decide (n_not = [111, 114, 101, 108, 115, 101]) = false) := ⟨id rfl, id rfl, id rfl, id rfl, id rfl, id rfl, id rfl, id rfl, id rfl, id rfl, id rfl⟩
theorem qR9 {β : Type} {k : TVal → Heap → Option β} {h : Heap} {d : Nat} : vcall Om (.v (.c (.func 84 []))) [kS n_not] h d k = k (kB true) h := qAB 84 _ _ rfl ((qAA rfl).trans (qAD blks_ok 500 84 0 0 _ _ _ (by kernel_rfl))) rfl
theorem qRu {β : Type} {k : TVal → Heap → Option β} {h : Heap} {d : Nat} : vcall Om (.v (.c (.func 85 []))) [kS n_not] h d k = k (kI 1) h := qAB 85 _ _ rfl ((qAA rfl).trans (qAD blks_ok 500 85 0 0 _ _ _ (by kernel_rfl))) rfl
theorem qG9 : (decide (n_and = [108, 101, 110]) = false) ∧ (decide (n_and = [110, 111, 116]) = false) ∧ (decide (n_and = [97, 110, 100]) = true) ∧ (decide (n_and = [111, 114]) = false) ∧ (decide (n_and = [101, 113]) = false) ∧ (decide (n_and = [99, 97, 116]) = false) ∧ (decide (n_and = [116, 101, 120, 116]) = false) ∧ (decide (n_and = [97, 116]) = false) ∧ (decide (n_and = [103, 101, 116]) = false) ∧ (decide (n_and = [104, 97, 115]) = false) ∧ (decide (n_and = [111, 114, 101, 108, 115, 101]) = false) := ⟨id rfl, id rfl, id rfl, id rfl, id rfl, id rfl, id rfl, id rfl, id rfl, id rfl, id rfl⟩
theorem qSn {β : Type} {k : TVal → Heap → Option β} {h : Heap} {d : Nat} : vcall Om (.v (.c (.func 84 []))) [kS n_and] h d k = k (kB true) h := qAB 84 _ _ rfl ((qAA rfl).trans (qAD blks_ok 500 84 0 0 _ _ _ (by kernel_rfl))) rfl
theorem qTG {β : Type} {k : TVal → Heap → Option β} {h : Heap} {d : Nat} : vcall Om (.v (.c (.func 85 []))) [kS n_and] h d k = k (kI 2) h := qAB 85 _ _ rfl ((qAA rfl).trans (qAD blks_ok 500 85 0 0 _ _ _ (by kernel_rfl))) rfl
theorem qLR : (decide (n_or = [108, 101, 110]) = false) ∧ (decide (n_or = [110, 111, 116]) = false) ∧ (decide (n_or = [97, 110, 100]) = false) ∧ (decide (n_or = [111, 114]) = true) ∧ (decide (n_or = [101, 113]) = false) ∧ (decide (n_or = [99, 97, 116]) = false) ∧ (decide (n_or = [116, 101, 120, 116]) = false) ∧ (decide (n_or = [97, 116]) = false) ∧ (decide (n_or = [103, 101, 116]) = false) ∧ (decide (n_or = [104, 97, 115]) = false) ∧ (decide (n_or = [111, 114, 101, 108, 115, 101]) = false) := ⟨id rfl, id rfl, id rfl, id rfl, id rfl, id rfl, id rfl, id rfl, id rfl, id rfl, id rfl⟩
theorem qUK {β : Type} {k : TVal → Heap → Option β} {h : Heap} {d : Nat} : vcall Om (.v (.c (.func 84 []))) [kS n_or] h d k = k (kB true) h := qAB 84 _ _ rfl ((qAA rfl).trans (qAD blks_ok 500 84 0 0 _ _ _ (by kernel_rfl))) rfl
theorem qUY {β : Type} {k : TVal → Heap → Option β} {h : Heap} {d : Nat} : vcall Om (.v (.c (.func 85 []))) [kS n_or] h d k = k (kI 2) h := qAB 85 _ _ rfl ((qAA rfl).trans (qAD blks_ok 500 85 0 0 _ _ _ (by kernel_rfl))) rfl
theorem qLj : (decide (n_eq = [108, 101, 110]) = false) ∧ (decide (n_eq = [110, 111, 116]) = false) ∧ (decide (n_eq = [97, 110, 100]) = false) ∧ (decide (n_eq = [111, 114]) = false) ∧ (decide (n_eq = [101, 113]) = true) ∧ (decide (n_eq = [99, 97, 116]) = false) ∧ (decide (n_eq = [116, 101, 120, 116]) = false) ∧ (decide (n_eq = [97, 116]) = false) ∧ (decide (n_eq = [103, 101, 116]) = false) ∧ (decide (n_eq = [104, 97, 115]) = false) ∧ (decide (n_eq = [111, 114, 101, 108, 115, 101]) = false) := ⟨id rfl, id rfl, id rfl, id rfl, id rfl, id rfl, id rfl, id rfl, id rfl, id rfl, id rfl⟩
theorem qUT {β : Type} {k : TVal → Heap → Option β} {h : Heap} {d : Nat} : vcall Om (.v (.c (.func 84 []))) [kS n_eq] h d k = k (kB true) h := qAB 84 _ _ rfl ((qAA rfl).trans (qAD blks_ok 500 84 0 0 _ _ _ (by kernel_rfl))) rfl
theorem qUL {β : Type} {k : TVal → Heap → Option β} {h : Heap} {d : Nat} : vcall Om (.v (.c (.func 85 []))) [kS n_eq] h d k = k (kI 2) h := qAB 85 _ _ rfl ((qAA rfl).trans (qAD blks_ok 500 85 0 0 _ _ _ (by kernel_rfl))) rfl
theorem qLr : (decide (n_lt = [108, 101, 110]) = false) ∧ (decide (n_lt = [110, 111, 116]) = false) ∧ (decide (n_lt = [97, 110, 100]) = false) ∧ (decide (n_lt = [111, 114]) = false) ∧ (decide (n_lt = [101, 113]) = false) ∧ (decide (n_lt = [99, 97, 116]) = false) ∧ (decide (n_lt = [116, 101, 120, 116]) = false) ∧ (decide (n_lt = [97, 116]) = false) ∧ (decide (n_lt = [103, 101, 116]) = false) ∧ (decide (n_lt = [104, 97, 115]) = false) ∧ (decide (n_lt = [111, 114, 101, 108, 115, 101]) = false) := ⟨id rfl, id rfl, id rfl, id rfl, id rfl, id rfl, id rfl, id rfl, id rfl, id rfl, id rfl⟩
theorem qUh {β : Type} {k : TVal → Heap → Option β} {h : Heap} {d : Nat} : vcall Om (.v (.c (.func 84 []))) [kS n_lt] h d k = k (kB true) h := qAB 84 _ _ rfl ((qAA rfl).trans (qAD blks_ok 500 84 0 0 _ _ _ (by kernel_rfl))) rfl
theorem qUf {β : Type} {k : TVal → Heap → Option β} {h : Heap} {d : Nat} : vcall Om (.v (.c (.func 85 []))) [kS n_lt] h d k = k (kI 2) h := qAB 85 _ _ rfl ((qAA rfl).trans (qAD blks_ok 500 85 0 0 _ _ _ (by kernel_rfl))) rfl
theorem qHF : (decide (n_add = [108, 101, 110]) = false) ∧ (decide (n_add = [110, 111, 116]) = false) ∧ (decide (n_add = [97, 110, 100]) = false) ∧ (decide (n_add = [111, 114]) = false) ∧ (decide (n_add = [101, 113]) = false) ∧ (decide (n_add = [99, 97, 116]) = false) ∧ (decide (n_add = [116, 101, 120, 116]) = false) ∧ (decide (n_add = [97, 116]) = false) ∧ (decide (n_add = [103, 101, 116]) = false) ∧ (decide (n_add = [104, 97, 115]) = false) ∧ (decide (n_add = [111, 114, 101, 108, 115, 101]) = false) := ⟨id rfl, id rfl, id rfl, id rfl, id rfl, id rfl, id rfl, id rfl, id rfl, id rfl, id rfl⟩
theorem qTv {β : Type} {k : TVal → Heap → Option β} {h : Heap} {d : Nat} : vcall Om (.v (.c (.func 84 []))) [kS n_add] h d k = k (kB true) h := qAB 84 _ _ rfl ((qAA rfl).trans (qAD blks_ok 500 84 0 0 _ _ _ (by kernel_rfl))) rfl
theorem qSA {β : Type} {k : TVal → Heap → Option β} {h : Heap} {d : Nat} : vcall Om (.v (.c (.func 85 []))) [kS n_add] h d k = k (kI 2) h := qAB 85 _ _ rfl ((qAA rfl).trans (qAD blks_ok 500 85 0 0 _ _ _ (by kernel_rfl))) rfl
theorem qHC : (decide (n_sub = [108, 101, 110]) = false) ∧ (decide (n_sub = [110, 111, 116]) = false) ∧ (decide (n_sub = [97, 110, 100]) = false) ∧ (decide (n_sub = [111, 114]) = false) ∧ (decide (n_sub = [101, 113]) = false) ∧ (decide (n_sub = [99, 97, 116]) = false) ∧ (decide (n_sub = [116, 101, 120, 116]) = false) ∧ (decide (n_sub = [97, 116]) = false) ∧ (decide (n_sub = [103, 101, 116]) = false) ∧ (decide (n_sub = [104, 97, 115]) = false) ∧ (decide (n_sub = [111, 114, 101, 108, 115, 101]) = false) := ⟨id rfl, id rfl, id rfl, id rfl, id rfl, id rfl, id rfl, id rfl, id rfl, id rfl, id rfl⟩
theorem qSR {β : Type} {k : TVal → Heap → Option β} {h : Heap} {d : Nat} : vcall Om (.v (.c (.func 84 []))) [kS n_sub] h d k = k (kB true) h := qAB 84 _ _ rfl ((qAA rfl).trans (qAD blks_ok 500 84 0 0 _ _ _ (by kernel_rfl))) rfl
theorem qTJ {β : Type} {k : TVal → Heap → Option β} {h : Heap} {d : Nat} : vcall Om (.v (.c (.func 85 []))) [kS n_sub] h d k = k (kI 2) h := qAB 85 _ _ rfl ((qAA rfl).trans (qAD blks_ok 500 85 0 0 _ _ _ (by kernel_rfl))) rfl
theorem qHG : (decide (n_mul = [108, 101, 110]) = false) ∧ (decide (n_mul = [110, 111, 116]) = false) ∧ (decide (n_mul = [97, 110, 100]) = false) ∧ (decide (n_mul = [111, 114]) = false) ∧ (decide (n_mul = [101, 113]) = false) ∧ (decide (n_mul = [99, 97, 116]) = false) ∧ (decide (n_mul = [116, 101, 120, 116]) = false) ∧ (decide (n_mul = [97, 116]) = false) ∧ (decide (n_mul = [103, 101, 116]) = false) ∧ (decide (n_mul = [104, 97, 115]) = false) ∧ (decide (n_mul = [111, 114, 101, 108, 115, 101]) = false) := ⟨id rfl, id rfl, id rfl, id rfl, id rfl, id rfl, id rfl, id rfl, id rfl, id rfl, id rfl⟩
theorem qSt {β : Type} {k : TVal → Heap → Option β} {h : Heap} {d : Nat} : vcall Om (.v (.c (.func 84 []))) [kS n_mul] h d k = k (kB true) h := qAB 84 _ _ rfl ((qAA rfl).trans (qAD blks_ok 500 84 0 0 _ _ _ (by kernel_rfl))) rfl
theorem qTb {β : Type} {k : TVal → Heap → Option β} {h : Heap} {d : Nat} : vcall Om (.v (.c (.func 85 []))) [kS n_mul] h d k = k (kI 2) h := qAB 85 _ _ rfl ((qAA rfl).trans (qAD blks_ok 500 85 0 0 _ _ _ (by kernel_rfl))) rfl
theorem qHL : (decide (n_shl = [108, 101, 110]) = false) ∧ (decide (n_shl = [110, 111, 116]) = false) ∧ (decide (n_shl = [97, 110, 100]) = false) ∧ (decide (n_shl = [111, 114]) = false) ∧ (decide (n_shl = [101, 113]) = false) ∧ (decide (n_shl = [99, 97, 116]) = false) ∧ (decide (n_shl = [116, 101, 120, 116]) = false) ∧ (decide (n_shl = [97, 116]) = false) ∧ (decide (n_shl = [103, 101, 116]) = false) ∧ (decide (n_shl = [104, 97, 115]) = false) ∧ (decide (n_shl = [111, 114, 101, 108, 115, 101]) = false) := ⟨id rfl, id rfl, id rfl, id rfl, id rfl, id rfl, id rfl, id rfl, id rfl, id rfl, id rfl⟩
theorem qSr {β : Type} {k : TVal → Heap → Option β} {h : Heap} {d : Nat} : vcall Om (.v (.c (.func 84 []))) [kS n_shl] h d k = k (kB true) h := qAB 84 _ _ rfl ((qAA rfl).trans (qAD blks_ok 500 84 0 0 _ _ _ (by kernel_rfl))) rfl
theorem qTQ {β : Type} {k : TVal → Heap → Option β} {h : Heap} {d : Nat} : vcall Om (.v (.c (.func 85 []))) [kS n_shl] h d k = k (kI 2) h := qAB 85 _ _ rfl ((qAA rfl).trans (qAD blks_ok 500 85 0 0 _ _ _ (by kernel_rfl))) rfl
theorem qG5 : (decide (n_shr = [108, 101, 110]) = false) ∧ (decide (n_shr = [110, 111, 116]) = false) ∧ (decide (n_shr = [97, 110, 100]) = false) ∧ (decide (n_shr = [111, 114]) = false) ∧ (decide (n_shr = [101, 113]) = false) ∧ (decide (n_shr = [99, 97, 116]) = false) ∧ (decide (n_shr = [116, 101, 120, 116]) = false) ∧ (decide (n_shr = [97, 116]) = false) ∧ (decide (n_shr = [103, 101, 116]) = false) ∧ (decide (n_shr = [104, 97, 115]) = false) ∧ (decide (n_shr = [111, 114, 101, 108, 115, 101]) = false) := ⟨id rfl, id rfl, id rfl, id rfl, id rfl, id rfl, id rfl, id rfl, id rfl, id rfl, id rfl⟩
theorem qTk {β : Type} {k : TVal → Heap → Option β} {h : Heap} {d : Nat} : vcall Om (.v (.c (.func 84 []))) [kS n_shr] h d k = k (kB true) h := qAB 84 _ _ rfl ((qAA rfl).trans (qAD blks_ok 500 84 0 0 _ _ _ (by kernel_rfl))) rfl
theorem qTS {β : Type} {k : TVal → Heap → Option β} {h : Heap} {d : Nat} : vcall Om (.v (.c (.func 85 []))) [kS n_shr] h d k = k (kI 2) h := qAB 85 _ _ rfl ((qAA rfl).trans (qAD blks_ok 500 85 0 0 _ _ _ (by kernel_rfl))) rfl
theorem qLT : (decide (n_i8 = [108, 101, 110]) = false) ∧ (decide (n_i8 = [110, 111, 116]) = false) ∧ (decide (n_i8 = [97, 110, 100]) = false) ∧ (decide (n_i8 = [111, 114]) = false) ∧ (decide (n_i8 = [101, 113]) = false) ∧ (decide (n_i8 = [99, 97, 116]) = false) ∧ (decide (n_i8 = [116, 101, 120, 116]) = false) ∧ (decide (n_i8 = [97, 116]) = false) ∧ (decide (n_i8 = [103, 101, 116]) = false) ∧ (decide (n_i8 = [104, 97, 115]) = false) ∧ (decide (n_i8 = [111, 114, 101, 108, 115, 101]) = false) := ⟨id rfl, id rfl, id rfl, id rfl, id rfl, id rfl, id rfl, id rfl, id rfl, id rfl, id rfl⟩
theorem qUM {β : Type} {k : TVal → Heap → Option β} {h : Heap} {d : Nat} : vcall Om (.v (.c (.func 84 []))) [kS n_i8] h d k = k (kB true) h := qAB 84 _ _ rfl ((qAA rfl).trans (qAD blks_ok 500 84 0 0 _ _ _ (by kernel_rfl))) rfl
theorem qUD {β : Type} {k : TVal → Heap → Option β} {h : Heap} {d : Nat} : vcall Om (.v (.c (.func 85 []))) [kS n_i8] h d k = k (kI 1) h := qAB 85 _ _ rfl ((qAA rfl).trans (qAD blks_ok 500 85 0 0 _ _ _ (by kernel_rfl))) rfl
theorem qG7 : (decide (n_i16 = [108, 101, 110]) = false) ∧ (decide (n_i16 = [110, 111, 116]) = false) ∧ (decide (n_i16 = [97, 110, 100]) = false) ∧ (decide (n_i16 = [111, 114]) = false) ∧ (decide (n_i16 = [101, 113]) = false) ∧ (decide (n_i16 = [99, 97, 116]) = false) ∧ (decide (n_i16 = [116, 101, 120, 116]) = false) ∧ (decide (n_i16 = [97, 116]) = false) ∧ (decide (n_i16 = [103, 101, 116]) = false) ∧ (decide (n_i16 = [104, 97, 115]) = false) ∧ (decide (n_i16 = [111, 114, 101, 108, 115, 101]) = false) := ⟨id rfl, id rfl, id rfl, id rfl, id rfl, id rfl, id rfl, id rfl, id rfl, id rfl, id rfl⟩
theorem qTy {β : Type} {k : TVal → Heap → Option β} {h : Heap} {d : Nat} : vcall Om (.v (.c (.func 84 []))) [kS n_i16] h d k = k (kB true) h := qAB 84 _ _ rfl ((qAA rfl).trans (qAD blks_ok 500 84 0 0 _ _ _ (by kernel_rfl))) rfl
theorem qTD {β : Type} {k : TVal → Heap → Option β} {h : Heap} {d : Nat} : vcall Om (.v (.c (.func 85 []))) [kS n_i16] h d k = k (kI 1) h := qAB 85 _ _ rfl ((qAA rfl).trans (qAD blks_ok 500 85 0 0 _ _ _ (by kernel_rfl))) rfl
theorem qG3 : (decide (n_i32 = [108, 101, 110]) = false) ∧ (decide (n_i32 = [110, 111, 116]) = false) ∧ (decide (n_i32 = [97, 110, 100]) = false) ∧ (decide (n_i32 = [111, 114]) = false) ∧ (decide (n_i32 = [101, 113]) = false) ∧ (decide (n_i32 = [99, 97, 116]) = false) ∧ (decide (n_i32 = [116, 101, 120, 116]) = false) ∧ (decide (n_i32 = [97, 116]) = false) ∧ (decide (n_i32 = [103, 101, 116]) = false) ∧ (decide (n_i32 = [104, 97, 115]) = false) ∧ (decide (n_i32 = [111, 114, 101, 108, 115, 101]) = false) := ⟨id rfl, id rfl, id rfl, id rfl, id rfl, id rfl, id rfl, id rfl, id rfl, id rfl, id rfl⟩
theorem qTA {β : Type} {k : TVal → Heap → Option β} {h : Heap} {d : Nat} : vcall Om (.v (.c (.func 84 []))) [kS n_i32] h d k = k (kB true) h := qAB 84 _ _ rfl ((qAA rfl).trans (qAD blks_ok 500 84 0 0 _ _ _ (by kernel_rfl))) rfl
theorem qST {β : Type} {k : TVal → Heap → Option β} {h : Heap} {d : Nat} : vcall Om (.v (.c (.func 85 []))) [kS n_i32] h d k = k (kI 1) h := qAB 85 _ _ rfl ((qAA rfl).trans (qAD blks_ok 500 85 0 0 _ _ _ (by kernel_rfl))) rfl
theorem qKF : (decide (n_u8 = [108, 101, 110]) = false) ∧ (decide (n_u8 = [110, 111, 116]) = false) ∧ (decide (n_u8 = [97, 110, 100]) = false) ∧ (decide (n_u8 = [111, 114]) = false) ∧ (decide (n_u8 = [101, 113]) = false) ∧ (decide (n_u8 = [99, 97, 116]) = false) ∧ (decide (n_u8 = [116, 101, 120, 116]) = false) ∧ (decide (n_u8 = [97, 116]) = false) ∧ (decide (n_u8 = [103, 101, 116]) = false) ∧ (decide (n_u8 = [104, 97, 115]) = false) ∧ (decide (n_u8 = [111, 114, 101, 108, 115, 101]) = false) := ⟨id rfl, id rfl, id rfl, id rfl, id rfl, id rfl, id rfl, id rfl, id rfl, id rfl, id rfl⟩
theorem qUJ {β : Type} {k : TVal → Heap → Option β} {h : Heap} {d : Nat} : vcall Om (.v (.c (.func 84 []))) [kS n_u8] h d k = k (kB true) h := qAB 84 _ _ rfl ((qAA rfl).trans (qAD blks_ok 500 84 0 0 _ _ _ (by kernel_rfl))) rfl
theorem qUj {β : Type} {k : TVal → Heap → Option β} {h : Heap} {d : Nat} : vcall Om (.v (.c (.func 85 []))) [kS n_u8] h d k = k (kI 1) h := qAB 85 _ _ rfl ((qAA rfl).trans (qAD blks_ok 500 85 0 0 _ _ _ (by kernel_rfl))) rfl
theorem qHH : (decide (n_u16 = [108, 101, 110]) = false) ∧ (decide (n_u16 = [110, 111, 116]) = false) ∧ (decide (n_u16 = [97, 110, 100]) = false) ∧ (decide (n_u16 = [111, 114]) = false) ∧ (decide (n_u16 = [101, 113]) = false) ∧ (decide (n_u16 = [99, 97, 116]) = false) ∧ (decide (n_u16 = [116, 101, 120, 116]) = false) ∧ (decide (n_u16 = [97, 116]) = false) ∧ (decide (n_u16 = [103, 101, 116]) = false) ∧ (decide (n_u16 = [104, 97, 115]) = false) ∧ (decide (n_u16 = [111, 114, 101, 108, 115, 101]) = false) := ⟨id rfl, id rfl, id rfl, id rfl, id rfl, id rfl, id rfl, id rfl, id rfl, id rfl, id rfl⟩
theorem qS2 {β : Type} {k : TVal → Heap → Option β} {h : Heap} {d : Nat} : vcall Om (.v (.c (.func 84 []))) [kS n_u16] h d k = k (kB true) h := qAB 84 _ _ rfl ((qAA rfl).trans (qAD blks_ok 500 84 0 0 _ _ _ (by kernel_rfl))) rfl
theorem qT0 {β : Type} {k : TVal → Heap → Option β} {h : Heap} {d : Nat} : vcall Om (.v (.c (.func 85 []))) [kS n_u16] h d k = k (kI 1) h := qAB 85 _ _ rfl ((qAA rfl).trans (qAD blks_ok 500 85 0 0 _ _ _ (by kernel_rfl))) rfl
theorem qHE : (decide (n_u32 = [108, 101, 110]) = false) ∧ (decide (n_u32 = [110, 111, 116]) = false) ∧ (decide (n_u32 = [97, 110, 100]) = false) ∧ (decide (n_u32 = [111, 114]) = false) ∧ (decide (n_u32 = [101, 113]) = false) ∧ (decide (n_u32 = [99, 97, 116]) = false) ∧ (decide (n_u32 = [116, 101, 120, 116]) = false) ∧ (decide (n_u32 = [97, 116]) = false) ∧ (decide (n_u32 = [103, 101, 116]) = false) ∧ (decide (n_u32 = [104, 97, 115]) = false) ∧ (decide (n_u32 = [111, 114, 101, 108, 115, 101]) = false) := ⟨id rfl, id rfl, id rfl, id rfl, id rfl, id rfl, id rfl, id rfl, id rfl, id rfl, id rfl⟩
theorem qTP {β : Type} {k : TVal → Heap → Option β} {h : Heap} {d : Nat} : vcall Om (.v (.c (.func 84 []))) [kS n_u32] h d k = k (kB true) h := qAB 84 _ _ rfl ((qAA rfl).trans (qAD blks_ok 500 84 0 0 _ _ _ (by kernel_rfl))) rfl
theorem qSV {β : Type} {k : TVal → Heap → Option β} {h : Heap} {d : Nat} : vcall Om (.v (.c (.func 85 []))) [kS n_u32] h d k = k (kI 1) h := qAB 85 _ _ rfl ((qAA rfl).trans (qAD blks_ok 500 85 0 0 _ _ _ (by kernel_rfl))) rfl
theorem qDL : (decide (n_cat = [108, 101, 110]) = false) ∧ (decide (n_cat = [110, 111, 116]) = false) ∧ (decide (n_cat = [97, 110, 100]) = false) ∧ (decide (n_cat = [111, 114]) = false) ∧ (decide (n_cat = [101, 113]) = false) ∧ (decide (n_cat = [99, 97, 116]) = true) ∧ (decide (n_cat = [116, 101, 120, 116]) = false) ∧ (decide (n_cat = [97, 116]) = false) ∧ (decide (n_cat = [103, 101, 116]) = false) ∧ (decide (n_cat = [104, 97, 115]) = false) ∧ (decide (n_cat = [111, 114, 101, 108, 115, 101]) = false) := ⟨id rfl, id rfl, id rfl, id rfl, id rfl, id rfl, id rfl, id rfl, id rfl, id rfl, id rfl⟩
theorem qTT {β : Type} {k : TVal → Heap → Option β} {h : Heap} {d : Nat} : vcall Om (.v (.c (.func 84 []))) [kS n_cat] h d k = k (kB true) h := qAB 84 _ _ rfl ((qAA rfl).trans (qAD blks_ok 500 84 0 0 _ _ _ (by kernel_rfl))) rfl
theorem qTE {β : Type} {k : TVal → Heap → Option β} {h : Heap} {d : Nat} : vcall Om (.v (.c (.func 85 []))) [kS n_cat] h d k = k (kI 2) h := qAB 85 _ _ rfl ((qAA rfl).trans (qAD blks_ok 500 85 0 0 _ _ _ (by kernel_rfl))) rfl
theorem qCr : (decide (n_text = [108, 101, 110]) = false) ∧ (decide (n_text = [110, 111, 116]) = false) ∧ (decide (n_text = [97, 110, 100]) = false) ∧ (decide (n_text = [111, 114]) = false) ∧ (decide (n_text = [101, 113]) = false) ∧ (decide (n_text = [99, 97, 116]) = false) ∧ (decide (n_text = [116, 101, 120, 116]) = true) ∧ (decide (n_text = [97, 116]) = false) ∧ (decide (n_text = [103, 101, 116]) = false) ∧ (decide (n_text = [104, 97, 115]) = false) ∧ (decide (n_text = [111, 114, 101, 108, 115, 101]) = false) := ⟨id rfl, id rfl, id rfl, id rfl, id rfl, id rfl, id rfl, id rfl, id rfl, id rfl, id rfl⟩
theorem qJm {β : Type} {k : TVal → Heap → Option β} {h : Heap} {d : Nat} : vcall Om (.v (.c (.func 84 []))) [kS n_text] h d k = k (kB true) h := qAB 84 _ _ rfl ((qAA rfl).trans (qAD blks_ok 500 84 0 0 _ _ _ (by kernel_rfl))) rfl
theorem qJd {β : Type} {k : TVal → Heap → Option β} {h : Heap} {d : Nat} : vcall Om (.v (.c (.func 85 []))) [kS n_text] h d k = k (kI 1) h := qAB 85 _ _ rfl ((qAA rfl).trans (qAD blks_ok 500 85 0 0 _ _ _ (by kernel_rfl))) rfl
theorem qTZ (t : Bool) (v : VT) : Om 38 [kS n_len, kSl 6 t [v.row]] [] = some (ansE (lenM v), []) := by
 refine (qAA rfl).trans ?_
 show lim tab.get S 38 0 0 [kS n_len, kSl 6 t [v.row]] h0 = _
 have hc := qQW v
 generalize (lenM v) = p at hc ⊢
 have cc : CAL 86 [kA v.row] (.tup [.agg (pcells p.1.row), .c (.p (.int .i64 p.2))]) := qAB 86 _ _ (by simp only [exP]) hc (by simp only [exP])
 rw [w38_0, b38_0]
 simp (maxSteps := 9999999) +contextual only [exa, ne_eq, not_false_eq_true, reduceAdd, reduceMul, reduceLT, reduceLeDiff, reduceEqDiff, Int.reduceLT, Int.reduceLE, Int.reduceEq, Int.reduceToNat, qSa, qTO, qPu, qAU, qAX, qAR, qAO, qAN, cc, qAC _ (VT.row_len p.1)]
 rfl
theorem qSQ (t : Bool) (v : VT) : Om 38 [kS n_not, kSl 6 t [v.row]] [] = some (ansE (if decide (v.kind = 1) = false then ((VT.nul, 17) : VT × Int) else (truthV (!v.b), 0)), []) := by
 refine (qAA rfl).trans ?_
 show lim tab.get S 38 0 0 [kS n_not, kSl 6 t [v.row]] h0 = _
 have hc := qNX t v
 generalize (if decide (v.kind = 1) = false then ((VT.nul, 17) : VT × Int) else (truthV (!v.b), 0)) = p at hc ⊢
 have cc : CAL 87 [kS n_not, kSl 6 t [v.row]] (.tup [.agg (pcells p.1.row), .c (.p (.int .i64 p.2))]) := qAB 87 _ _ (by simp only [exP]) hc (by simp only [exP])
 rw [w38_0, b38_0]
 simp (maxSteps := 9999999) +contextual only [exa, ne_eq, not_false_eq_true, reduceAdd, reduceMul, reduceLT, reduceLeDiff, reduceEqDiff, Int.reduceLT, Int.reduceLE, Int.reduceEq, Int.reduceToNat, qR9, qRu, qHK, qAU, qAX, qAR, qAO, qAN, cc, qAC _ (VT.row_len p.1)]
 rw [w38_1, b38_1]
 simp (maxSteps := 9999999) +contextual only [exa, ne_eq, not_false_eq_true, reduceAdd, reduceMul, reduceLT, reduceLeDiff, reduceEqDiff, Int.reduceLT, Int.reduceLE, Int.reduceEq, Int.reduceToNat, qHK, cc, qAC _ (VT.row_len p.1)]
 rfl
theorem qSv (t : Bool) (v w : VT) : Om 38 [kS n_and, kSl 6 t [v.row, w.row]] [] = some (ansE (if (decide (v.kind = 1) && decide (w.kind = 1)) = false then ((VT.nul, 17) : VT × Int) else (truthV (v.b && w.b), 0)), []) := by
 refine (qAA rfl).trans ?_
 show lim tab.get S 38 0 0 [kS n_and, kSl 6 t [v.row, w.row]] h0 = _
 have hc := qMJ t v w
 generalize (if (decide (v.kind = 1) && decide (w.kind = 1)) = false then ((VT.nul, 17) : VT × Int) else (truthV (v.b && w.b), 0)) = p at hc ⊢
 have cc : CAL 87 [kS n_and, kSl 6 t [v.row, w.row]] (.tup [.agg (pcells p.1.row), .c (.p (.int .i64 p.2))]) := qAB 87 _ _ (by simp only [exP]) hc (by simp only [exP])
 rw [w38_0, b38_0]
 simp (maxSteps := 9999999) +contextual only [exa, ne_eq, not_false_eq_true, reduceAdd, reduceMul, reduceLT, reduceLeDiff, reduceEqDiff, Int.reduceLT, Int.reduceLE, Int.reduceEq, Int.reduceToNat, qSn, qTG, qG9, qAU, qAX, qAR, qAO, qAN, cc, qAC _ (VT.row_len p.1)]
 rw [w38_1, b38_1]
 simp (maxSteps := 9999999) +contextual only [exa, ne_eq, not_false_eq_true, reduceAdd, reduceMul, reduceLT, reduceLeDiff, reduceEqDiff, Int.reduceLT, Int.reduceLE, Int.reduceEq, Int.reduceToNat, qG9, cc, qAC _ (VT.row_len p.1)]
 rfl
theorem qT2 (t : Bool) (v w : VT) : Om 38 [kS n_or, kSl 6 t [v.row, w.row]] [] = some (ansE (if (decide (v.kind = 1) && decide (w.kind = 1)) = false then ((VT.nul, 17) : VT × Int) else (truthV (v.b || w.b), 0)), []) := by
 refine (qAA rfl).trans ?_
 show lim tab.get S 38 0 0 [kS n_or, kSl 6 t [v.row, w.row]] h0 = _
 have hc := qPs t v w
 generalize (if (decide (v.kind = 1) && decide (w.kind = 1)) = false then ((VT.nul, 17) : VT × Int) else (truthV (v.b || w.b), 0)) = p at hc ⊢
 have cc : CAL 87 [kS n_or, kSl 6 t [v.row, w.row]] (.tup [.agg (pcells p.1.row), .c (.p (.int .i64 p.2))]) := qAB 87 _ _ (by simp only [exP]) hc (by simp only [exP])
 rw [w38_0, b38_0]
 simp (maxSteps := 9999999) +contextual only [exa, ne_eq, not_false_eq_true, reduceAdd, reduceMul, reduceLT, reduceLeDiff, reduceEqDiff, Int.reduceLT, Int.reduceLE, Int.reduceEq, Int.reduceToNat, qUK, qUY, qLR, qAU, qAX, qAR, qAO, qAN, cc, qAC _ (VT.row_len p.1)]
 rw [w38_1, b38_1]
 simp (maxSteps := 9999999) +contextual only [exa, ne_eq, not_false_eq_true, reduceAdd, reduceMul, reduceLT, reduceLeDiff, reduceEqDiff, Int.reduceLT, Int.reduceLE, Int.reduceEq, Int.reduceToNat, qLR, cc, qAC _ (VT.row_len p.1)]
 rfl
theorem qUI (t : Bool) (v w : VT) : Om 38 [kS n_eq, kSl 6 t [v.row, w.row]] [] = some (ansE (eqM v w), []) := by
 refine (qAA rfl).trans ?_
 show lim tab.get S 38 0 0 [kS n_eq, kSl 6 t [v.row, w.row]] h0 = _
 have hc := qSz t v w
 generalize (eqM v w) = p at hc ⊢
 have cc : CAL 88 [kSl 6 t [v.row, w.row]] (.tup [.agg (pcells p.1.row), .c (.p (.int .i64 p.2))]) := qAB 88 _ _ (by simp only [exP]) hc (by simp only [exP])
 rw [w38_0, b38_0]
 simp (maxSteps := 9999999) +contextual only [exa, ne_eq, not_false_eq_true, reduceAdd, reduceMul, reduceLT, reduceLeDiff, reduceEqDiff, Int.reduceLT, Int.reduceLE, Int.reduceEq, Int.reduceToNat, qUT, qUL, qLj, qAU, qAX, qAR, qAO, qAN, cc, qAC _ (VT.row_len p.1)]
 rw [w38_1, b38_1]
 simp (maxSteps := 9999999) +contextual only [exa, ne_eq, not_false_eq_true, reduceAdd, reduceMul, reduceLT, reduceLeDiff, reduceEqDiff, Int.reduceLT, Int.reduceLE, Int.reduceEq, Int.reduceToNat, qLj, cc, qAC _ (VT.row_len p.1)]
 rfl
theorem qUU (t : Bool) (v w : VT) : Om 38 [kS n_lt, kSl 6 t [v.row, w.row]] [] = some (ansE (if (decide (v.kind = 2) && decide (w.kind = 2)) = false then ((VT.nul, 17) : VT × Int) else (truthV (decide (v.n < w.n)), 0)), []) := by
 refine (qAA rfl).trans ?_
 show lim tab.get S 38 0 0 [kS n_lt, kSl 6 t [v.row, w.row]] h0 = _
 have hc := qLG t v w
 generalize (if (decide (v.kind = 2) && decide (w.kind = 2)) = false then ((VT.nul, 17) : VT × Int) else (truthV (decide (v.n < w.n)), 0)) = p at hc ⊢
 have cc : CAL 96 [kS n_lt, kSl 6 t [v.row, w.row]] (.tup [.agg (pcells p.1.row), .c (.p (.int .i64 p.2))]) := qAB 96 _ _ (by simp only [exP]) hc (by simp only [exP])
 rw [w38_0, b38_0]
 simp (maxSteps := 9999999) +contextual only [exa, ne_eq, not_false_eq_true, reduceAdd, reduceMul, reduceLT, reduceLeDiff, reduceEqDiff, Int.reduceLT, Int.reduceLE, Int.reduceEq, Int.reduceToNat, qUh, qUf, qLr, qAU, qAX, qAR, qAO, qAN, cc, qAC _ (VT.row_len p.1)]
 rw [w38_1, b38_1]
 simp (maxSteps := 9999999) +contextual only [exa, ne_eq, not_false_eq_true, reduceAdd, reduceMul, reduceLT, reduceLeDiff, reduceEqDiff, Int.reduceLT, Int.reduceLE, Int.reduceEq, Int.reduceToNat, qLr, cc, qAC _ (VT.row_len p.1)]
 rfl
theorem qSP (t : Bool) (v w : VT) : Om 38 [kS n_add, kSl 6 t [v.row, w.row]] [] = some (ansE (if (decide (v.kind = 2) && decide (w.kind = 2)) = false then ((VT.nul, 17) : VT × Int) else (numV (IntKind.i64.wrap (v.n + w.n)), 0)), []) := by
 refine (qAA rfl).trans ?_
 show lim tab.get S 38 0 0 [kS n_add, kSl 6 t [v.row, w.row]] h0 = _
 have hc := qJF t v w
 generalize (if (decide (v.kind = 2) && decide (w.kind = 2)) = false then ((VT.nul, 17) : VT × Int) else (numV (IntKind.i64.wrap (v.n + w.n)), 0)) = p at hc ⊢
 have cc : CAL 96 [kS n_add, kSl 6 t [v.row, w.row]] (.tup [.agg (pcells p.1.row), .c (.p (.int .i64 p.2))]) := qAB 96 _ _ (by simp only [exP]) hc (by simp only [exP])
 rw [w38_0, b38_0]
 simp (maxSteps := 9999999) +contextual only [exa, ne_eq, not_false_eq_true, reduceAdd, reduceMul, reduceLT, reduceLeDiff, reduceEqDiff, Int.reduceLT, Int.reduceLE, Int.reduceEq, Int.reduceToNat, qTv, qSA, qHF, qAU, qAX, qAR, qAO, qAN, cc, qAC _ (VT.row_len p.1)]
 rw [w38_1, b38_1]
 simp (maxSteps := 9999999) +contextual only [exa, ne_eq, not_false_eq_true, reduceAdd, reduceMul, reduceLT, reduceLeDiff, reduceEqDiff, Int.reduceLT, Int.reduceLE, Int.reduceEq, Int.reduceToNat, qHF, cc, qAC _ (VT.row_len p.1)]
 rfl
theorem qTV (t : Bool) (v w : VT) : Om 38 [kS n_sub, kSl 6 t [v.row, w.row]] [] = some (ansE (if (decide (v.kind = 2) && decide (w.kind = 2)) = false then ((VT.nul, 17) : VT × Int) else (numV (IntKind.i64.wrap (v.n - w.n)), 0)), []) := by
 refine (qAA rfl).trans ?_
 show lim tab.get S 38 0 0 [kS n_sub, kSl 6 t [v.row, w.row]] h0 = _
 have hc := qIp t v w
 generalize (if (decide (v.kind = 2) && decide (w.kind = 2)) = false then ((VT.nul, 17) : VT × Int) else (numV (IntKind.i64.wrap (v.n - w.n)), 0)) = p at hc ⊢
 have cc : CAL 96 [kS n_sub, kSl 6 t [v.row, w.row]] (.tup [.agg (pcells p.1.row), .c (.p (.int .i64 p.2))]) := qAB 96 _ _ (by simp only [exP]) hc (by simp only [exP])
 rw [w38_0, b38_0]
 simp (maxSteps := 9999999) +contextual only [exa, ne_eq, not_false_eq_true, reduceAdd, reduceMul, reduceLT, reduceLeDiff, reduceEqDiff, Int.reduceLT, Int.reduceLE, Int.reduceEq, Int.reduceToNat, qSR, qTJ, qHC, qAU, qAX, qAR, qAO, qAN, cc, qAC _ (VT.row_len p.1)]
 rw [w38_1, b38_1]
 simp (maxSteps := 9999999) +contextual only [exa, ne_eq, not_false_eq_true, reduceAdd, reduceMul, reduceLT, reduceLeDiff, reduceEqDiff, Int.reduceLT, Int.reduceLE, Int.reduceEq, Int.reduceToNat, qHC, cc, qAC _ (VT.row_len p.1)]
 rfl
theorem qSJ (t : Bool) (v w : VT) : Om 38 [kS n_mul, kSl 6 t [v.row, w.row]] [] = some (ansE (if (decide (v.kind = 2) && decide (w.kind = 2)) = false then ((VT.nul, 17) : VT × Int) else (numV (IntKind.i64.wrap (v.n * w.n)), 0)), []) := by
 refine (qAA rfl).trans ?_
 show lim tab.get S 38 0 0 [kS n_mul, kSl 6 t [v.row, w.row]] h0 = _
 have hc := qJJ t v w
 generalize (if (decide (v.kind = 2) && decide (w.kind = 2)) = false then ((VT.nul, 17) : VT × Int) else (numV (IntKind.i64.wrap (v.n * w.n)), 0)) = p at hc ⊢
 have cc : CAL 96 [kS n_mul, kSl 6 t [v.row, w.row]] (.tup [.agg (pcells p.1.row), .c (.p (.int .i64 p.2))]) := qAB 96 _ _ (by simp only [exP]) hc (by simp only [exP])
 rw [w38_0, b38_0]
 simp (maxSteps := 9999999) +contextual only [exa, ne_eq, not_false_eq_true, reduceAdd, reduceMul, reduceLT, reduceLeDiff, reduceEqDiff, Int.reduceLT, Int.reduceLE, Int.reduceEq, Int.reduceToNat, qSt, qTb, qHG, qAU, qAX, qAR, qAO, qAN, cc, qAC _ (VT.row_len p.1)]
 rw [w38_1, b38_1]
 simp (maxSteps := 9999999) +contextual only [exa, ne_eq, not_false_eq_true, reduceAdd, reduceMul, reduceLT, reduceLeDiff, reduceEqDiff, Int.reduceLT, Int.reduceLE, Int.reduceEq, Int.reduceToNat, qHG, cc, qAC _ (VT.row_len p.1)]
 rfl
theorem qSK (t : Bool) (v w : VT) : Om 38 [kS n_shl, kSl 6 t [v.row, w.row]] [] = some (ansE (if (decide (v.kind = 2) && decide (w.kind = 2)) = false then ((VT.nul, 17) : VT × Int) else (numV (IntKind.i64.wrap (v.n * 2 ^ sh w.n)), 0)), []) := by
 refine (qAA rfl).trans ?_
 show lim tab.get S 38 0 0 [kS n_shl, kSl 6 t [v.row, w.row]] h0 = _
 have hc := qJR t v w
 generalize (if (decide (v.kind = 2) && decide (w.kind = 2)) = false then ((VT.nul, 17) : VT × Int) else (numV (IntKind.i64.wrap (v.n * 2 ^ sh w.n)), 0)) = p at hc ⊢
 have cc : CAL 96 [kS n_shl, kSl 6 t [v.row, w.row]] (.tup [.agg (pcells p.1.row), .c (.p (.int .i64 p.2))]) := qAB 96 _ _ (by simp only [exP]) hc (by simp only [exP])
 rw [w38_0, b38_0]
 simp (maxSteps := 9999999) +contextual only [exa, ne_eq, not_false_eq_true, reduceAdd, reduceMul, reduceLT, reduceLeDiff, reduceEqDiff, Int.reduceLT, Int.reduceLE, Int.reduceEq, Int.reduceToNat, qSr, qTQ, qHL, qAU, qAX, qAR, qAO, qAN, cc, qAC _ (VT.row_len p.1)]
 rw [w38_1, b38_1]
 simp (maxSteps := 9999999) +contextual only [exa, ne_eq, not_false_eq_true, reduceAdd, reduceMul, reduceLT, reduceLeDiff, reduceEqDiff, Int.reduceLT, Int.reduceLE, Int.reduceEq, Int.reduceToNat, qHL, cc, qAC _ (VT.row_len p.1)]
 rfl
theorem qTp (t : Bool) (v w : VT) : Om 38 [kS n_shr, kSl 6 t [v.row, w.row]] [] = some (ansE (if (decide (v.kind = 2) && decide (w.kind = 2)) = false then ((VT.nul, 17) : VT × Int) else (numV (v.n.fdiv (2 ^ sh w.n)), 0)), []) := by
 refine (qAA rfl).trans ?_
 show lim tab.get S 38 0 0 [kS n_shr, kSl 6 t [v.row, w.row]] h0 = _
 have hc := qJY t v w
 generalize (if (decide (v.kind = 2) && decide (w.kind = 2)) = false then ((VT.nul, 17) : VT × Int) else (numV (v.n.fdiv (2 ^ sh w.n)), 0)) = p at hc ⊢
 have cc : CAL 96 [kS n_shr, kSl 6 t [v.row, w.row]] (.tup [.agg (pcells p.1.row), .c (.p (.int .i64 p.2))]) := qAB 96 _ _ (by simp only [exP]) hc (by simp only [exP])
 rw [w38_0, b38_0]
 simp (maxSteps := 9999999) +contextual only [exa, ne_eq, not_false_eq_true, reduceAdd, reduceMul, reduceLT, reduceLeDiff, reduceEqDiff, Int.reduceLT, Int.reduceLE, Int.reduceEq, Int.reduceToNat, qTk, qTS, qG5, qAU, qAX, qAR, qAO, qAN, cc, qAC _ (VT.row_len p.1)]
 rw [w38_1, b38_1]
 simp (maxSteps := 9999999) +contextual only [exa, ne_eq, not_false_eq_true, reduceAdd, reduceMul, reduceLT, reduceLeDiff, reduceEqDiff, Int.reduceLT, Int.reduceLE, Int.reduceEq, Int.reduceToNat, qG5, cc, qAC _ (VT.row_len p.1)]
 rfl
theorem qUE (t : Bool) (v : VT) : Om 38 [kS n_i8, kSl 6 t [v.row]] [] = some (ansE (if decide (v.kind = 2) = false then ((VT.nul, 17) : VT × Int) else (numV (IntKind.i64.wrap (IntKind.i8.wrap v.n)), 0)), []) := by
 refine (qAA rfl).trans ?_
 show lim tab.get S 38 0 0 [kS n_i8, kSl 6 t [v.row]] h0 = _
 have hc := qKc t v
 generalize (if decide (v.kind = 2) = false then ((VT.nul, 17) : VT × Int) else (numV (IntKind.i64.wrap (IntKind.i8.wrap v.n)), 0)) = p at hc ⊢
 have cc : CAL 96 [kS n_i8, kSl 6 t [v.row]] (.tup [.agg (pcells p.1.row), .c (.p (.int .i64 p.2))]) := qAB 96 _ _ (by simp only [exP]) hc (by simp only [exP])
 rw [w38_0, b38_0]
 simp (maxSteps := 9999999) +contextual only [exa, ne_eq, not_false_eq_true, reduceAdd, reduceMul, reduceLT, reduceLeDiff, reduceEqDiff, Int.reduceLT, Int.reduceLE, Int.reduceEq, Int.reduceToNat, qUM, qUD, qLT, qAU, qAX, qAR, qAO, qAN, cc, qAC _ (VT.row_len p.1)]
 rw [w38_1, b38_1]
 simp (maxSteps := 9999999) +contextual only [exa, ne_eq, not_false_eq_true, reduceAdd, reduceMul, reduceLT, reduceLeDiff, reduceEqDiff, Int.reduceLT, Int.reduceLE, Int.reduceEq, Int.reduceToNat, qLT, cc, qAC _ (VT.row_len p.1)]
 rfl
theorem qTL (t : Bool) (v : VT) : Om 38 [kS n_i16, kSl 6 t [v.row]] [] = some (ansE (if decide (v.kind = 2) = false then ((VT.nul, 17) : VT × Int) else (numV (IntKind.i64.wrap (IntKind.i16.wrap v.n)), 0)), []) := by
 refine (qAA rfl).trans ?_
 show lim tab.get S 38 0 0 [kS n_i16, kSl 6 t [v.row]] h0 = _
 have hc := qIv t v
 generalize (if decide (v.kind = 2) = false then ((VT.nul, 17) : VT × Int) else (numV (IntKind.i64.wrap (IntKind.i16.wrap v.n)), 0)) = p at hc ⊢
 have cc : CAL 96 [kS n_i16, kSl 6 t [v.row]] (.tup [.agg (pcells p.1.row), .c (.p (.int .i64 p.2))]) := qAB 96 _ _ (by simp only [exP]) hc (by simp only [exP])
 rw [w38_0, b38_0]
 simp (maxSteps := 9999999) +contextual only [exa, ne_eq, not_false_eq_true, reduceAdd, reduceMul, reduceLT, reduceLeDiff, reduceEqDiff, Int.reduceLT, Int.reduceLE, Int.reduceEq, Int.reduceToNat, qTy, qTD, qG7, qAU, qAX, qAR, qAO, qAN, cc, qAC _ (VT.row_len p.1)]
 rw [w38_1, b38_1]
 simp (maxSteps := 9999999) +contextual only [exa, ne_eq, not_false_eq_true, reduceAdd, reduceMul, reduceLT, reduceLeDiff, reduceEqDiff, Int.reduceLT, Int.reduceLE, Int.reduceEq, Int.reduceToNat, qG7, cc, qAC _ (VT.row_len p.1)]
 rfl
theorem qTx (t : Bool) (v : VT) : Om 38 [kS n_i32, kSl 6 t [v.row]] [] = some (ansE (if decide (v.kind = 2) = false then ((VT.nul, 17) : VT × Int) else (numV (IntKind.i64.wrap (IntKind.i32.wrap v.n)), 0)), []) := by
 refine (qAA rfl).trans ?_
 show lim tab.get S 38 0 0 [kS n_i32, kSl 6 t [v.row]] h0 = _
 have hc := qJE t v
 generalize (if decide (v.kind = 2) = false then ((VT.nul, 17) : VT × Int) else (numV (IntKind.i64.wrap (IntKind.i32.wrap v.n)), 0)) = p at hc ⊢
 have cc : CAL 96 [kS n_i32, kSl 6 t [v.row]] (.tup [.agg (pcells p.1.row), .c (.p (.int .i64 p.2))]) := qAB 96 _ _ (by simp only [exP]) hc (by simp only [exP])
 rw [w38_0, b38_0]
 simp (maxSteps := 9999999) +contextual only [exa, ne_eq, not_false_eq_true, reduceAdd, reduceMul, reduceLT, reduceLeDiff, reduceEqDiff, Int.reduceLT, Int.reduceLE, Int.reduceEq, Int.reduceToNat, qTA, qST, qG3, qAU, qAX, qAR, qAO, qAN, cc, qAC _ (VT.row_len p.1)]
 rw [w38_1, b38_1]
 simp (maxSteps := 9999999) +contextual only [exa, ne_eq, not_false_eq_true, reduceAdd, reduceMul, reduceLT, reduceLeDiff, reduceEqDiff, Int.reduceLT, Int.reduceLE, Int.reduceEq, Int.reduceToNat, qG3, cc, qAC _ (VT.row_len p.1)]
 rfl
theorem qUs (t : Bool) (v : VT) : Om 38 [kS n_u8, kSl 6 t [v.row]] [] = some (ansE (if decide (v.kind = 2) = false then ((VT.nul, 17) : VT × Int) else (numV (IntKind.i64.wrap (IntKind.u8.wrap v.n)), 0)), []) := by
 refine (qAA rfl).trans ?_
 show lim tab.get S 38 0 0 [kS n_u8, kSl 6 t [v.row]] h0 = _
 have hc := qLt t v
 generalize (if decide (v.kind = 2) = false then ((VT.nul, 17) : VT × Int) else (numV (IntKind.i64.wrap (IntKind.u8.wrap v.n)), 0)) = p at hc ⊢
 have cc : CAL 96 [kS n_u8, kSl 6 t [v.row]] (.tup [.agg (pcells p.1.row), .c (.p (.int .i64 p.2))]) := qAB 96 _ _ (by simp only [exP]) hc (by simp only [exP])
 rw [w38_0, b38_0]
 simp (maxSteps := 9999999) +contextual only [exa, ne_eq, not_false_eq_true, reduceAdd, reduceMul, reduceLT, reduceLeDiff, reduceEqDiff, Int.reduceLT, Int.reduceLE, Int.reduceEq, Int.reduceToNat, qUJ, qUj, qKF, qAU, qAX, qAR, qAO, qAN, cc, qAC _ (VT.row_len p.1)]
 rw [w38_1, b38_1]
 simp (maxSteps := 9999999) +contextual only [exa, ne_eq, not_false_eq_true, reduceAdd, reduceMul, reduceLT, reduceLeDiff, reduceEqDiff, Int.reduceLT, Int.reduceLE, Int.reduceEq, Int.reduceToNat, qKF, cc, qAC _ (VT.row_len p.1)]
 rfl
theorem qSX (t : Bool) (v : VT) : Om 38 [kS n_u16, kSl 6 t [v.row]] [] = some (ansE (if decide (v.kind = 2) = false then ((VT.nul, 17) : VT × Int) else (numV (IntKind.i64.wrap (IntKind.u16.wrap v.n)), 0)), []) := by
 refine (qAA rfl).trans ?_
 show lim tab.get S 38 0 0 [kS n_u16, kSl 6 t [v.row]] h0 = _
 have hc := qI0 t v
 generalize (if decide (v.kind = 2) = false then ((VT.nul, 17) : VT × Int) else (numV (IntKind.i64.wrap (IntKind.u16.wrap v.n)), 0)) = p at hc ⊢
 have cc : CAL 96 [kS n_u16, kSl 6 t [v.row]] (.tup [.agg (pcells p.1.row), .c (.p (.int .i64 p.2))]) := qAB 96 _ _ (by simp only [exP]) hc (by simp only [exP])
 rw [w38_0, b38_0]
 simp (maxSteps := 9999999) +contextual only [exa, ne_eq, not_false_eq_true, reduceAdd, reduceMul, reduceLT, reduceLeDiff, reduceEqDiff, Int.reduceLT, Int.reduceLE, Int.reduceEq, Int.reduceToNat, qS2, qT0, qHH, qAU, qAX, qAR, qAO, qAN, cc, qAC _ (VT.row_len p.1)]
 rw [w38_1, b38_1]
 simp (maxSteps := 9999999) +contextual only [exa, ne_eq, not_false_eq_true, reduceAdd, reduceMul, reduceLT, reduceLeDiff, reduceEqDiff, Int.reduceLT, Int.reduceLE, Int.reduceEq, Int.reduceToNat, qHH, cc, qAC _ (VT.row_len p.1)]
 rfl
theorem qTY (t : Bool) (v : VT) : Om 38 [kS n_u32, kSl 6 t [v.row]] [] = some (ansE (if decide (v.kind = 2) = false then ((VT.nul, 17) : VT × Int) else (numV (IntKind.i64.wrap (IntKind.u32.wrap v.n)), 0)), []) := by
 refine (qAA rfl).trans ?_
 show lim tab.get S 38 0 0 [kS n_u32, kSl 6 t [v.row]] h0 = _
 have hc := qJH t v
 generalize (if decide (v.kind = 2) = false then ((VT.nul, 17) : VT × Int) else (numV (IntKind.i64.wrap (IntKind.u32.wrap v.n)), 0)) = p at hc ⊢
 have cc : CAL 96 [kS n_u32, kSl 6 t [v.row]] (.tup [.agg (pcells p.1.row), .c (.p (.int .i64 p.2))]) := qAB 96 _ _ (by simp only [exP]) hc (by simp only [exP])
 rw [w38_0, b38_0]
 simp (maxSteps := 9999999) +contextual only [exa, ne_eq, not_false_eq_true, reduceAdd, reduceMul, reduceLT, reduceLeDiff, reduceEqDiff, Int.reduceLT, Int.reduceLE, Int.reduceEq, Int.reduceToNat, qTP, qSV, qHE, qAU, qAX, qAR, qAO, qAN, cc, qAC _ (VT.row_len p.1)]
 rw [w38_1, b38_1]
 simp (maxSteps := 9999999) +contextual only [exa, ne_eq, not_false_eq_true, reduceAdd, reduceMul, reduceLT, reduceLeDiff, reduceEqDiff, Int.reduceLT, Int.reduceLE, Int.reduceEq, Int.reduceToNat, qHE, cc, qAC _ (VT.row_len p.1)]
 rfl
theorem qTH (t : Bool) (v w : VT) (hw : w.s.length < 4611686018427387904) : Om 38 [kS n_cat, kSl 6 t [v.row, w.row]] [] = some (ansE (catE v w), []) := by
 refine (qAA rfl).trans ?_
 show lim tab.get S 38 0 0 [kS n_cat, kSl 6 t [v.row, w.row]] h0 = _
 have hc := qUa t v w hw
 generalize (catE v w) = p at hc ⊢
 have cc : CAL 89 [kSl 6 t [v.row, w.row]] (.tup [.agg (pcells p.1.row), .c (.p (.int .i64 p.2))]) := qAB 89 _ _ (by simp only [exP]) hc (by simp only [exP])
 rw [w38_0, b38_0]
 simp (maxSteps := 9999999) +contextual only [exa, ne_eq, not_false_eq_true, reduceAdd, reduceMul, reduceLT, reduceLeDiff, reduceEqDiff, Int.reduceLT, Int.reduceLE, Int.reduceEq, Int.reduceToNat, qTT, qTE, qDL, qAU, qAX, qAR, qAO, qAN, cc, qAC _ (VT.row_len p.1)]
 rw [w38_1, b38_1]
 simp (maxSteps := 9999999) +contextual only [exa, ne_eq, not_false_eq_true, reduceAdd, reduceMul, reduceLT, reduceLeDiff, reduceEqDiff, Int.reduceLT, Int.reduceLE, Int.reduceEq, Int.reduceToNat, qDL, cc, qAC _ (VT.row_len p.1)]
 rfl
theorem qLW (nm : List UInt8) (c : Int) (s : Sl VT) (hb : Om 84 [kS nm] [] = some (kB true, [])) (hm : Om 85 [kS nm] [] = some (kI c, [])) (hc : ¬ (s.len : Int) = c) : Om 38 [kS nm, .v (.c (.p (slP 6 VT.row s)))] [] = some (ansE (VT.nul, 18), []) := by
 refine (qAA rfl).trans ?_
 show lim tab.get S 38 0 0 [kS nm, .v (.c (.p (slP 6 VT.row s)))] h0 = _
 have c1 : CAL 84 [kS nm] (kB true) := qAB 84 _ _ rfl hb rfl
 have c2 : CAL 85 [kS nm] (kI c) := qAB 85 _ _ rfl hm rfl
 rw [w38_0, b38_0]
 simp (maxSteps := 9999999) +contextual only [exa, ne_eq, not_false_eq_true, reduceAdd, reduceMul, reduceLT, reduceLeDiff, reduceEqDiff, Int.reduceLT, Int.reduceLE, Int.reduceEq, Int.reduceToNat, c1, c2, hc]
 rfl
theorem qMg (nm : List UInt8) (s : Sl VT) (hb : Om 84 [kS nm] [] = some (kB false, [])) : Om 38 [kS nm, .v (.c (.p (slP 6 VT.row s)))] [] = some (ansE (VT.nul, 15), []) := by
 refine (qAA rfl).trans ?_
 show lim tab.get S 38 0 0 [kS nm, .v (.c (.p (slP 6 VT.row s)))] h0 = _
 have c1 : CAL 84 [kS nm] (kB false) := qAB 84 _ _ rfl hb rfl
 rw [w38_0, b38_0]
 simp (maxSteps := 9999999) +contextual only [exa, ne_eq, not_false_eq_true, reduceAdd, reduceMul, reduceLT, reduceLeDiff, reduceEqDiff, Int.reduceLT, Int.reduceLE, Int.reduceEq, Int.reduceToNat, c1]
 rfl
open Go Go.AI
theorem qR4 (a : Int) : IntKind.u64.wrap (BitVec.ofInt 64 (IntKind.u64.wrap a) &&& BitVec.ofInt 64 255).toNat = a % 256 := by
 have e0 : IntKind.u64.wrap a = a % 18446744073709551616 := rfl
 have e1 : (BitVec.ofInt 64 (IntKind.u64.wrap a) &&& BitVec.ofInt 64 255).toNat = (a % 256).toNat := by
  rw [BitVec.toNat_and]
  have e2 : (BitVec.ofInt 64 255).toNat = 2 ^ 8 - 1 := by decide
  rw [e2, Nat.and_two_pow_sub_one_eq_mod, BitVec.toNat_ofInt, e0]
  omega
 rw [e1, qB1 _ (by omega) (by omega)]
 omega
theorem qIh {β : Type} {h : Heap} {k : TVal → Heap → Option β} (a : Int) : vbin .and 0 (kN .u64 (IntKind.u64.wrap a)) (kN .u64 255) h k = k (kN .u64 (a % 256)) h := qAT _ _ _ _ _ (by
 show some (Cell.p (.int .u64 (IntKind.u64.wrap (BitVec.ofInt 64 (IntKind.u64.wrap a) &&& BitVec.ofInt 64 255).toNat))) = _
 rw [qR4])
theorem qH8 {β : Type} {h : Heap} {k : TVal → Heap → Option β} (a : Int) : vbin .shr 0 (kN .u64 (a % 256)) (kN .u64 7) h k = k (kN .u64 (a % 256 / 128)) h := qAT _ _ _ _ _ (by
 show some (Cell.p (.int .u64 ((a % 256).fdiv (2 ^ (min ((7 : Int).toNat) 64))))) = _
 rw [show (2 : Int) ^ (min ((7 : Int).toNat) 64) = 128 by decide, Int.fdiv_eq_ediv_of_nonneg _ (by decide)])
theorem qIG {β : Type} {h : Heap} {k : TVal → Heap → Option β} : vbin .shl 0 (kN .u64 1) (kN .u64 8) h k = k (kN .u64 256) h := qAT _ _ _ _ _ rfl
theorem qHY {β : Type} {h : Heap} {k : TVal → Heap → Option β} : vbin .shl 0 (kI 1) (kN .u64 8) h k = k (kI 256) h := qAT _ _ _ _ _ rfl
theorem qOw : IntKind.u64.wrap (256 - 1) = 255 := rfl
theorem qPV : IntKind.u64.wrap (8 - 1) = 7 := rfl
theorem qTR (a : Int) : Om 161 [kI a, kN .u64 8, kB true] [] = some (kI (IntKind.i64.wrap (IntKind.i8.wrap a)), []) := by
 refine (qAA rfl).trans ?_
 show lim tab.get S 161 0 0 [kI a, kN .u64 8, kB true] h0 = _
 have w1 : IntKind.i64.wrap (a % 256) = a % 256 := qAI _ (by omega) (by omega)
 rw [w161_0, b161_0]
 have ew : IntKind.i8.wrap a = (a + 128) % 256 - 128 := by
  have e : IntKind.i8.wrap a = if 128 ≤ a % 256 then a % 256 - 256 else a % 256 := by
   simp [IntKind.wrap, IntKind.bits, IntKind.signed]
   try split <;> split <;> omega
  rw [e]; split <;> omega
 have e3 : IntKind.i64.wrap (IntKind.i8.wrap a) = (a + 128) % 256 - 128 := by rw [ew]; exact qAI _ (by omega) (by omega)
 rw [e3]
 by_cases hq : a % 256 / 128 = 1
 ·have w2 : IntKind.i64.wrap (a % 256 - 256) = (a + 128) % 256 - 128 := by rw [qAI _ (by omega) (by omega)]; omega
  simp (maxSteps := 9999999) +contextual only [exa, ne_eq, not_false_eq_true, reduceAdd, reduceMul, reduceLT, reduceLeDiff, reduceEqDiff, Int.reduceLT, Int.reduceLE, Int.reduceEq, Int.reduceToNat, oneOf, qIh, qH8, qIG, qHY, qOw, qPV, hq, w1, w2]
 ·have w2 : a % 256 = (a + 128) % 256 - 128 := by omega
  simp (maxSteps := 9999999) +contextual only [exa, ne_eq, not_false_eq_true, reduceAdd, reduceMul, reduceLT, reduceLeDiff, reduceEqDiff, Int.reduceLT, Int.reduceLE, Int.reduceEq, Int.reduceToNat, oneOf, qIh, qH8, qIG, qHY, qOw, qPV, hq, w1]
  rw [← w2]
theorem qSG (a : Int) : Om 161 [kI a, kN .u64 8, kB false] [] = some (kI (IntKind.i64.wrap (IntKind.u8.wrap a)), []) := by
 refine (qAA rfl).trans ?_
 show lim tab.get S 161 0 0 [kI a, kN .u64 8, kB false] h0 = _
 have w1 : IntKind.i64.wrap (a % 256) = a % 256 := qAI _ (by omega) (by omega)
 rw [w161_0, b161_0]
 have ew : IntKind.u8.wrap a = a % 256 := rfl
 rw [ew]
 simp (maxSteps := 9999999) +contextual only [exa, ne_eq, not_false_eq_true, reduceAdd, reduceMul, reduceLT, reduceLeDiff, reduceEqDiff, Int.reduceLT, Int.reduceLE, Int.reduceEq, Int.reduceToNat, oneOf, qIh, qH8, qIG, qHY, qOw, qPV, w1]
theorem qRT (a : Int) : IntKind.u64.wrap (BitVec.ofInt 64 (IntKind.u64.wrap a) &&& BitVec.ofInt 64 65535).toNat = a % 65536 := by
 have e0 : IntKind.u64.wrap a = a % 18446744073709551616 := rfl
 have e1 : (BitVec.ofInt 64 (IntKind.u64.wrap a) &&& BitVec.ofInt 64 65535).toNat = (a % 65536).toNat := by
  rw [BitVec.toNat_and]
  have e2 : (BitVec.ofInt 64 65535).toNat = 2 ^ 16 - 1 := by decide
  rw [e2, Nat.and_two_pow_sub_one_eq_mod, BitVec.toNat_ofInt, e0]
  omega
 rw [e1, qB1 _ (by omega) (by omega)]
 omega
theorem qGA {β : Type} {h : Heap} {k : TVal → Heap → Option β} (a : Int) : vbin .and 0 (kN .u64 (IntKind.u64.wrap a)) (kN .u64 65535) h k = k (kN .u64 (a % 65536)) h := qAT _ _ _ _ _ (by
 show some (Cell.p (.int .u64 (IntKind.u64.wrap (BitVec.ofInt 64 (IntKind.u64.wrap a) &&& BitVec.ofInt 64 65535).toNat))) = _
 rw [qRT])
theorem qGD {β : Type} {h : Heap} {k : TVal → Heap → Option β} (a : Int) : vbin .shr 0 (kN .u64 (a % 65536)) (kN .u64 15) h k = k (kN .u64 (a % 65536 / 32768)) h := qAT _ _ _ _ _ (by
 show some (Cell.p (.int .u64 ((a % 65536).fdiv (2 ^ (min ((15 : Int).toNat) 64))))) = _
 rw [show (2 : Int) ^ (min ((15 : Int).toNat) 64) = 32768 by decide, Int.fdiv_eq_ediv_of_nonneg _ (by decide)])
theorem qGC {β : Type} {h : Heap} {k : TVal → Heap → Option β} : vbin .shl 0 (kN .u64 1) (kN .u64 16) h k = k (kN .u64 65536) h := qAT _ _ _ _ _ rfl
theorem qGI {β : Type} {h : Heap} {k : TVal → Heap → Option β} : vbin .shl 0 (kI 1) (kN .u64 16) h k = k (kI 65536) h := qAT _ _ _ _ _ rfl
theorem qK1 : IntKind.u64.wrap (65536 - 1) = 65535 := rfl
theorem qK9 : IntKind.u64.wrap (16 - 1) = 15 := rfl
theorem qP6 (a : Int) : Om 161 [kI a, kN .u64 16, kB true] [] = some (kI (IntKind.i64.wrap (IntKind.i16.wrap a)), []) := by
 refine (qAA rfl).trans ?_
 show lim tab.get S 161 0 0 [kI a, kN .u64 16, kB true] h0 = _
 have w1 : IntKind.i64.wrap (a % 65536) = a % 65536 := qAI _ (by omega) (by omega)
 rw [w161_0, b161_0]
 have ew : IntKind.i16.wrap a = (a + 32768) % 65536 - 32768 := by
  have e : IntKind.i16.wrap a = if 32768 ≤ a % 65536 then a % 65536 - 65536 else a % 65536 := by
   simp [IntKind.wrap, IntKind.bits, IntKind.signed]
   try split <;> split <;> omega
  rw [e]; split <;> omega
 have e3 : IntKind.i64.wrap (IntKind.i16.wrap a) = (a + 32768) % 65536 - 32768 := by rw [ew]; exact qAI _ (by omega) (by omega)
 rw [e3]
 by_cases hq : a % 65536 / 32768 = 1
 ·have w2 : IntKind.i64.wrap (a % 65536 - 65536) = (a + 32768) % 65536 - 32768 := by rw [qAI _ (by omega) (by omega)]; omega
  simp (maxSteps := 9999999) +contextual only [exa, ne_eq, not_false_eq_true, reduceAdd, reduceMul, reduceLT, reduceLeDiff, reduceEqDiff, Int.reduceLT, Int.reduceLE, Int.reduceEq, Int.reduceToNat, oneOf, qGA, qGD, qGC, qGI, qK1, qK9, hq, w1, w2]
 ·have w2 : a % 65536 = (a + 32768) % 65536 - 32768 := by omega
  simp (maxSteps := 9999999) +contextual only [exa, ne_eq, not_false_eq_true, reduceAdd, reduceMul, reduceLT, reduceLeDiff, reduceEqDiff, Int.reduceLT, Int.reduceLE, Int.reduceEq, Int.reduceToNat, oneOf, qGA, qGD, qGC, qGI, qK1, qK9, hq, w1]
  rw [← w2]
theorem qRa (a : Int) : Om 161 [kI a, kN .u64 16, kB false] [] = some (kI (IntKind.i64.wrap (IntKind.u16.wrap a)), []) := by
 refine (qAA rfl).trans ?_
 show lim tab.get S 161 0 0 [kI a, kN .u64 16, kB false] h0 = _
 have w1 : IntKind.i64.wrap (a % 65536) = a % 65536 := qAI _ (by omega) (by omega)
 rw [w161_0, b161_0]
 have ew : IntKind.u16.wrap a = a % 65536 := rfl
 rw [ew]
 simp (maxSteps := 9999999) +contextual only [exa, ne_eq, not_false_eq_true, reduceAdd, reduceMul, reduceLT, reduceLeDiff, reduceEqDiff, Int.reduceLT, Int.reduceLE, Int.reduceEq, Int.reduceToNat, oneOf, qGA, qGD, qGC, qGI, qK1, qK9, w1]
theorem qRk (a : Int) : IntKind.u64.wrap (BitVec.ofInt 64 (IntKind.u64.wrap a) &&& BitVec.ofInt 64 4294967295).toNat = a % 4294967296 := by
 have e0 : IntKind.u64.wrap a = a % 18446744073709551616 := rfl
 have e1 : (BitVec.ofInt 64 (IntKind.u64.wrap a) &&& BitVec.ofInt 64 4294967295).toNat = (a % 4294967296).toNat := by
  rw [BitVec.toNat_and]
  have e2 : (BitVec.ofInt 64 4294967295).toNat = 2 ^ 32 - 1 := by decide
  rw [e2, Nat.and_two_pow_sub_one_eq_mod, BitVec.toNat_ofInt, e0]
  omega
 rw [e1, qB1 _ (by omega) (by omega)]
 omega
theorem qGG {β : Type} {h : Heap} {k : TVal → Heap → Option β} (a : Int) : vbin .and 0 (kN .u64 (IntKind.u64.wrap a)) (kN .u64 4294967295) h k = k (kN .u64 (a % 4294967296)) h := qAT _ _ _ _ _ (by
 show some (Cell.p (.int .u64 (IntKind.u64.wrap (BitVec.ofInt 64 (IntKind.u64.wrap a) &&& BitVec.ofInt 64 4294967295).toNat))) = _
 rw [qRk])
theorem qF8 {β : Type} {h : Heap} {k : TVal → Heap → Option β} (a : Int) : vbin .shr 0 (kN .u64 (a % 4294967296)) (kN .u64 31) h k = k (kN .u64 (a % 4294967296 / 2147483648)) h := qAT _ _ _ _ _ (by
 show some (Cell.p (.int .u64 ((a % 4294967296).fdiv (2 ^ (min ((31 : Int).toNat) 64))))) = _
 rw [show (2 : Int) ^ (min ((31 : Int).toNat) 64) = 2147483648 by decide, Int.fdiv_eq_ediv_of_nonneg _ (by decide)])
theorem qGL {β : Type} {h : Heap} {k : TVal → Heap → Option β} : vbin .shl 0 (kN .u64 1) (kN .u64 32) h k = k (kN .u64 4294967296) h := qAT _ _ _ _ _ rfl
theorem qGH {β : Type} {h : Heap} {k : TVal → Heap → Option β} : vbin .shl 0 (kI 1) (kN .u64 32) h k = k (kI 4294967296) h := qAT _ _ _ _ _ rfl
theorem qLH : IntKind.u64.wrap (4294967296 - 1) = 4294967295 := rfl
theorem qKU : IntKind.u64.wrap (32 - 1) = 31 := rfl
theorem qQ3 (a : Int) : Om 161 [kI a, kN .u64 32, kB true] [] = some (kI (IntKind.i64.wrap (IntKind.i32.wrap a)), []) := by
 refine (qAA rfl).trans ?_
 show lim tab.get S 161 0 0 [kI a, kN .u64 32, kB true] h0 = _
 have w1 : IntKind.i64.wrap (a % 4294967296) = a % 4294967296 := qAI _ (by omega) (by omega)
 rw [w161_0, b161_0]
 have ew : IntKind.i32.wrap a = (a + 2147483648) % 4294967296 - 2147483648 := by
  have e : IntKind.i32.wrap a = if 2147483648 ≤ a % 4294967296 then a % 4294967296 - 4294967296 else a % 4294967296 := by
   simp [IntKind.wrap, IntKind.bits, IntKind.signed]
   try split <;> split <;> omega
  rw [e]; split <;> omega
 have e3 : IntKind.i64.wrap (IntKind.i32.wrap a) = (a + 2147483648) % 4294967296 - 2147483648 := by rw [ew]; exact qAI _ (by omega) (by omega)
 rw [e3]
 by_cases hq : a % 4294967296 / 2147483648 = 1
 ·have w2 : IntKind.i64.wrap (a % 4294967296 - 4294967296) = (a + 2147483648) % 4294967296 - 2147483648 := by rw [qAI _ (by omega) (by omega)]; omega
  simp (maxSteps := 9999999) +contextual only [exa, ne_eq, not_false_eq_true, reduceAdd, reduceMul, reduceLT, reduceLeDiff, reduceEqDiff, Int.reduceLT, Int.reduceLE, Int.reduceEq, Int.reduceToNat, oneOf, qGG, qF8, qGL, qGH, qLH, qKU, hq, w1, w2]
 ·have w2 : a % 4294967296 = (a + 2147483648) % 4294967296 - 2147483648 := by omega
  simp (maxSteps := 9999999) +contextual only [exa, ne_eq, not_false_eq_true, reduceAdd, reduceMul, reduceLT, reduceLeDiff, reduceEqDiff, Int.reduceLT, Int.reduceLE, Int.reduceEq, Int.reduceToNat, oneOf, qGG, qF8, qGL, qGH, qLH, qKU, hq, w1]
  rw [← w2]
theorem qRZ (a : Int) : Om 161 [kI a, kN .u64 32, kB false] [] = some (kI (IntKind.i64.wrap (IntKind.u32.wrap a)), []) := by
 refine (qAA rfl).trans ?_
 show lim tab.get S 161 0 0 [kI a, kN .u64 32, kB false] h0 = _
 have w1 : IntKind.i64.wrap (a % 4294967296) = a % 4294967296 := qAI _ (by omega) (by omega)
 rw [w161_0, b161_0]
 have ew : IntKind.u32.wrap a = a % 4294967296 := rfl
 rw [ew]
 simp (maxSteps := 9999999) +contextual only [exa, ne_eq, not_false_eq_true, reduceAdd, reduceMul, reduceLT, reduceLeDiff, reduceEqDiff, Int.reduceLT, Int.reduceLE, Int.reduceEq, Int.reduceToNat, oneOf, qGG, qF8, qGL, qGH, qLH, qKU, w1]
open Go Go.AI
theorem qP2 (e : Int) : Om 97 [kI e] [] = some (ansE (((VT.nul, e) : VT × Int)), []) := by
 refine (qAA rfl).trans ?_
 show lim tab.get S 97 0 0 [kI e] h0 = _
 rw [w97_0, b97_0]
 simp (maxSteps := 9999999) +contextual only [exa, ne_eq, not_false_eq_true, reduceAdd, reduceMul, reduceLT, reduceLeDiff, reduceEqDiff, Int.reduceLT, Int.reduceLE, Int.reduceEq, Int.reduceToNat]
 rfl
theorem u97 {β : Type} {k : TVal → Heap → Option β} {h : Heap} {d : Nat} (e : Int) : vcall Om (.v (.c (.func 97 []))) [kI e] h d k = k (.tup [.agg (pcells (((VT.nul, e) : VT × Int)).1.row), .c (.p (.int .i64 (((VT.nul, e) : VT × Int)).2))]) h := qAB 97 _ _ rfl (qP2 e) (by simp only [exP])
theorem qOq (b : Bool) : Om 100 [kB b] [] = some (ansE (((truthV b, 0) : VT × Int)), []) := by
 refine (qAA rfl).trans ?_
 show lim tab.get S 100 0 0 [kB b] h0 = _
 rw [w100_0, b100_0]
 simp (maxSteps := 9999999) +contextual only [exa, ne_eq, not_false_eq_true, reduceAdd, reduceMul, reduceLT, reduceLeDiff, reduceEqDiff, Int.reduceLT, Int.reduceLE, Int.reduceEq, Int.reduceToNat]
 rfl
theorem qBR {β : Type} {k : TVal → Heap → Option β} {h : Heap} {d : Nat} (b : Bool) : vcall Om (.v (.c (.func 100 []))) [kB b] h d k = k (.tup [.agg (pcells (((truthV b, 0) : VT × Int)).1.row), .c (.p (.int .i64 (((truthV b, 0) : VT × Int)).2))]) h := qAB 100 _ _ rfl (qOq b) (by simp only [exP])
theorem qSY (n : Int) : Om 160 [kI n] [] = some (ansE (((numV n, 0) : VT × Int)), []) := by
 refine (qAA rfl).trans ?_
 show lim tab.get S 160 0 0 [kI n] h0 = _
 rw [w160_0, b160_0]
 simp (maxSteps := 9999999) +contextual only [exa, ne_eq, not_false_eq_true, reduceAdd, reduceMul, reduceLT, reduceLeDiff, reduceEqDiff, Int.reduceLT, Int.reduceLE, Int.reduceEq, Int.reduceToNat]
 rfl
theorem qBa {β : Type} {k : TVal → Heap → Option β} {h : Heap} {d : Nat} (n : Int) : vcall Om (.v (.c (.func 160 []))) [kI n] h d k = k (.tup [.agg (pcells (((numV n, 0) : VT × Int)).1.row), .c (.p (.int .i64 (((numV n, 0) : VT × Int)).2))]) h := qAB 160 _ _ rfl (qSY n) (by simp only [exP])
theorem qRx (s : List UInt8) : Om 102 [kS s] [] = some (ansE (((txtV s, 0) : VT × Int)), []) := by
 refine (qAA rfl).trans ?_
 show lim tab.get S 102 0 0 [kS s] h0 = _
 rw [w102_0, b102_0]
 simp (maxSteps := 9999999) +contextual only [exa, ne_eq, not_false_eq_true, reduceAdd, reduceMul, reduceLT, reduceLeDiff, reduceEqDiff, Int.reduceLT, Int.reduceLE, Int.reduceEq, Int.reduceToNat]
 rfl
theorem qOO {β : Type} {k : TVal → Heap → Option β} {h : Heap} {d : Nat} (s : List UInt8) : vcall Om (.v (.c (.func 102 []))) [kS s] h d k = k (.tup [.agg (pcells (((txtV s, 0) : VT × Int)).1.row), .c (.p (.int .i64 (((txtV s, 0) : VT × Int)).2))]) h := qAB 102 _ _ rfl (qRx s) (by simp only [exP])
theorem qAJ : VT.nul.row.length = 6 := VT.row_len _
theorem qRt (v : VT) : Om 99 [kA v.row] [] = some (ansE (lenM v), []) := by
 refine (qAA rfl).trans ?_
 show lim tab.get S 99 0 0 [kA v.row] h0 = _
 rw [w99_0, b99_0]
 unfold lenM
 by_cases h3 : v.kind = 3
 ·rw [if_pos h3]
  simp (maxSteps := 9999999) +contextual only [exa, ne_eq, not_false_eq_true, reduceAdd, reduceMul, reduceLT, reduceLeDiff, reduceEqDiff, Int.reduceLT, Int.reduceLE, Int.reduceEq, Int.reduceToNat, h3, qBa, qAC _ (VT.row_len (numV _))]
  rfl
 rw [if_neg h3]
 by_cases h4 : v.kind = 4
 ·rw [if_pos h4]
  simp (maxSteps := 9999999) +contextual only [exa, ne_eq, not_false_eq_true, reduceAdd, reduceMul, reduceLT, reduceLeDiff, reduceEqDiff, Int.reduceLT, Int.reduceLE, Int.reduceEq, Int.reduceToNat, h3, h4]
  rw [w99_1, b99_1]
  simp (maxSteps := 9999999) +contextual only [exa, ne_eq, not_false_eq_true, reduceAdd, reduceMul, reduceLT, reduceLeDiff, reduceEqDiff, Int.reduceLT, Int.reduceLE, Int.reduceEq, Int.reduceToNat, h3, h4, qBa, qAC _ (VT.row_len (numV _))]
  rfl
 rw [if_neg h4]
 by_cases h5 : v.kind = 5
 ·rw [if_pos h5]
  simp (maxSteps := 9999999) +contextual only [exa, ne_eq, not_false_eq_true, reduceAdd, reduceMul, reduceLT, reduceLeDiff, reduceEqDiff, Int.reduceLT, Int.reduceLE, Int.reduceEq, Int.reduceToNat, h3, h4, h5]
  rw [w99_1, b99_1]
  simp (maxSteps := 9999999) +contextual only [exa, ne_eq, not_false_eq_true, reduceAdd, reduceMul, reduceLT, reduceLeDiff, reduceEqDiff, Int.reduceLT, Int.reduceLE, Int.reduceEq, Int.reduceToNat, h3, h4, h5, qBa, qAC _ (VT.row_len (numV _))]
  rfl
 rw [if_neg h5]
 simp (maxSteps := 9999999) +contextual only [exa, ne_eq, not_false_eq_true, reduceAdd, reduceMul, reduceLT, reduceLeDiff, reduceEqDiff, Int.reduceLT, Int.reduceLE, Int.reduceEq, Int.reduceToNat, h3, h4, h5]
 rw [w99_1, b99_1]
 simp (maxSteps := 9999999) +contextual only [exa, ne_eq, not_false_eq_true, reduceAdd, reduceMul, reduceLT, reduceLeDiff, reduceEqDiff, Int.reduceLT, Int.reduceLE, Int.reduceEq, Int.reduceToNat, u97, qAC _ qAJ]
 rfl
theorem qLC (v w : VT) : Om 101 [kS n_not, kA v.row, kA w.row] [] = some (ansE (if (decide (v.kind = 1) && decide (w.kind = 1)) = false then ((VT.nul, 17) : VT × Int) else (truthV (!v.b), 0)), []) := by
 refine (qAA rfl).trans ?_
 show lim tab.get S 101 0 0 [kS n_not, kA v.row, kA w.row] h0 = _
 rw [w101_0, b101_0]
 by_cases h1 : v.kind = 1
 ·by_cases h2 : w.kind = 1
  ·rw [if_neg (by simp [h1, h2])]
   simp (maxSteps := 9999999) +contextual only [exa, ne_eq, not_false_eq_true, reduceAdd, reduceMul, reduceLT, reduceLeDiff, reduceEqDiff, Int.reduceLT, Int.reduceLE, Int.reduceEq, Int.reduceToNat, h1, h2, show (decide (n_not = [110, 111, 116]) = true) from id rfl, show (decide (n_not = [97, 110, 100]) = false) from id rfl, qBR, qAC _ (VT.row_len (truthV _))]
   rfl
  ·rw [if_pos (by simp [h2])]
   simp (maxSteps := 9999999) +contextual only [exa, ne_eq, not_false_eq_true, reduceAdd, reduceMul, reduceLT, reduceLeDiff, reduceEqDiff, Int.reduceLT, Int.reduceLE, Int.reduceEq, Int.reduceToNat, h1, h2, u97, qAC _ qAJ]
   rfl
 ·rw [if_pos (by simp [h1])]
  simp (maxSteps := 9999999) +contextual only [exa, ne_eq, not_false_eq_true, reduceAdd, reduceMul, reduceLT, reduceLeDiff, reduceEqDiff, Int.reduceLT, Int.reduceLE, Int.reduceEq, Int.reduceToNat, h1, u97, qAC _ qAJ]
  rfl
theorem qK0 (v w : VT) : Om 101 [kS n_and, kA v.row, kA w.row] [] = some (ansE (if (decide (v.kind = 1) && decide (w.kind = 1)) = false then ((VT.nul, 17) : VT × Int) else (truthV (v.b && w.b), 0)), []) := by
 refine (qAA rfl).trans ?_
 show lim tab.get S 101 0 0 [kS n_and, kA v.row, kA w.row] h0 = _
 rw [w101_0, b101_0]
 by_cases h1 : v.kind = 1
 ·by_cases h2 : w.kind = 1
  ·rw [if_neg (by simp [h1, h2])]
   simp (maxSteps := 9999999) +contextual only [exa, ne_eq, not_false_eq_true, reduceAdd, reduceMul, reduceLT, reduceLeDiff, reduceEqDiff, Int.reduceLT, Int.reduceLE, Int.reduceEq, Int.reduceToNat, h1, h2, show (decide (n_and = [110, 111, 116]) = false) from id rfl, show (decide (n_and = [97, 110, 100]) = true) from id rfl, qBR, qAC _ (VT.row_len (truthV _))]
   rfl
  ·rw [if_pos (by simp [h2])]
   simp (maxSteps := 9999999) +contextual only [exa, ne_eq, not_false_eq_true, reduceAdd, reduceMul, reduceLT, reduceLeDiff, reduceEqDiff, Int.reduceLT, Int.reduceLE, Int.reduceEq, Int.reduceToNat, h1, h2, u97, qAC _ qAJ]
   rfl
 ·rw [if_pos (by simp [h1])]
  simp (maxSteps := 9999999) +contextual only [exa, ne_eq, not_false_eq_true, reduceAdd, reduceMul, reduceLT, reduceLeDiff, reduceEqDiff, Int.reduceLT, Int.reduceLE, Int.reduceEq, Int.reduceToNat, h1, u97, qAC _ qAJ]
  rfl
theorem qNm (v w : VT) : Om 101 [kS n_or, kA v.row, kA w.row] [] = some (ansE (if (decide (v.kind = 1) && decide (w.kind = 1)) = false then ((VT.nul, 17) : VT × Int) else (truthV (v.b || w.b), 0)), []) := by
 refine (qAA rfl).trans ?_
 show lim tab.get S 101 0 0 [kS n_or, kA v.row, kA w.row] h0 = _
 rw [w101_0, b101_0]
 by_cases h1 : v.kind = 1
 ·by_cases h2 : w.kind = 1
  ·rw [if_neg (by simp [h1, h2])]
   simp (maxSteps := 9999999) +contextual only [exa, ne_eq, not_false_eq_true, reduceAdd, reduceMul, reduceLT, reduceLeDiff, reduceEqDiff, Int.reduceLT, Int.reduceLE, Int.reduceEq, Int.reduceToNat, h1, h2, show (decide (n_or = [110, 111, 116]) = false) from id rfl, show (decide (n_or = [97, 110, 100]) = false) from id rfl, qBR, qAC _ (VT.row_len (truthV _))]
   rfl
  ·rw [if_pos (by simp [h2])]
   simp (maxSteps := 9999999) +contextual only [exa, ne_eq, not_false_eq_true, reduceAdd, reduceMul, reduceLT, reduceLeDiff, reduceEqDiff, Int.reduceLT, Int.reduceLE, Int.reduceEq, Int.reduceToNat, h1, h2, u97, qAC _ qAJ]
   rfl
 ·rw [if_pos (by simp [h1])]
  simp (maxSteps := 9999999) +contextual only [exa, ne_eq, not_false_eq_true, reduceAdd, reduceMul, reduceLT, reduceLeDiff, reduceEqDiff, Int.reduceLT, Int.reduceLE, Int.reduceEq, Int.reduceToNat, h1, u97, qAC _ qAJ]
  rfl
theorem qSh (b : Int) : IntKind.u64.wrap (BitVec.ofInt 64 (IntKind.u64.wrap b) &&& BitVec.ofInt 64 63).toNat = (sh b : Int) := by
 have e0 : IntKind.u64.wrap b = b % 18446744073709551616 := rfl
 have e1 : (BitVec.ofInt 64 (IntKind.u64.wrap b) &&& BitVec.ofInt 64 63).toNat = sh b := by
  rw [BitVec.toNat_and]
  have e2 : (BitVec.ofInt 64 63).toNat = 2 ^ 6 - 1 := by decide
  rw [e2, Nat.and_two_pow_sub_one_eq_mod, BitVec.toNat_ofInt, e0]
  unfold sh
  omega
 have := qA4 b
 rw [e1, qB1 _ (by omega) (by omega)]
theorem qBF {β : Type} {h : Heap} {k : TVal → Heap → Option β} (b : Int) : vbin .and 0 (kN .u64 (IntKind.u64.wrap b)) (kN .u64 63) h k = k (kN .u64 (sh b : Int)) h := qAT _ _ _ _ _ (by
 show some (Cell.p (.int .u64 (IntKind.u64.wrap (BitVec.ofInt 64 (IntKind.u64.wrap b) &&& BitVec.ofInt 64 63).toNat))) = _
 rw [qSh])
theorem qK6 (a b : Int) : Om 104 [kS n_lt, kI a, kI b] [] = some (ansE (truthV (decide (a < b)), 0), []) := by
 refine (qAA rfl).trans ?_
 show lim tab.get S 104 0 0 [kS n_lt, kI a, kI b] h0 = _
 have h64 : min (sh b) 64 = sh b := by have := qA4 b; omega
 rw [w104_0, b104_0]
 simp (maxSteps := 9999999) +contextual only [exa, ne_eq, not_false_eq_true, reduceAdd, reduceMul, reduceLT, reduceLeDiff, reduceEqDiff, Int.reduceLT, Int.reduceLE, Int.reduceEq, Int.reduceToNat, qBF, show (decide (n_lt = [108, 116]) = true) from id rfl, show (decide (n_lt = [97, 100, 100]) = false) from id rfl, show (decide (n_lt = [115, 117, 98]) = false) from id rfl, show (decide (n_lt = [109, 117, 108]) = false) from id rfl, show (decide (n_lt = [115, 104, 108]) = false) from id rfl, show (decide (n_lt = [115, 104, 114]) = false) from id rfl, show (decide (n_lt = [105, 56]) = false) from id rfl, show (decide (n_lt = [105, 49, 54]) = false) from id rfl, show (decide (n_lt = [105, 51, 50]) = false) from id rfl, show (decide (n_lt = [117, 56]) = false) from id rfl, show (decide (n_lt = [117, 49, 54]) = false) from id rfl, qAd, qAc, h64, qBR, qBa, qAC _ (VT.row_len (truthV _)), qAC _ (VT.row_len (numV _))]
 rfl
theorem qIx (a b : Int) : Om 104 [kS n_add, kI a, kI b] [] = some (ansE (numV (IntKind.i64.wrap (a + b)), 0), []) := by
 refine (qAA rfl).trans ?_
 show lim tab.get S 104 0 0 [kS n_add, kI a, kI b] h0 = _
 have h64 : min (sh b) 64 = sh b := by have := qA4 b; omega
 rw [w104_0, b104_0]
 simp (maxSteps := 9999999) +contextual only [exa, ne_eq, not_false_eq_true, reduceAdd, reduceMul, reduceLT, reduceLeDiff, reduceEqDiff, Int.reduceLT, Int.reduceLE, Int.reduceEq, Int.reduceToNat, qBF, show (decide (n_add = [108, 116]) = false) from id rfl, show (decide (n_add = [97, 100, 100]) = true) from id rfl, show (decide (n_add = [115, 117, 98]) = false) from id rfl, show (decide (n_add = [109, 117, 108]) = false) from id rfl, show (decide (n_add = [115, 104, 108]) = false) from id rfl, show (decide (n_add = [115, 104, 114]) = false) from id rfl, show (decide (n_add = [105, 56]) = false) from id rfl, show (decide (n_add = [105, 49, 54]) = false) from id rfl, show (decide (n_add = [105, 51, 50]) = false) from id rfl, show (decide (n_add = [117, 56]) = false) from id rfl, show (decide (n_add = [117, 49, 54]) = false) from id rfl, qAd, qAc, h64, qBR, qBa, qAC _ (VT.row_len (truthV _)), qAC _ (VT.row_len (numV _))]
 rfl
theorem qI4 (a b : Int) : Om 104 [kS n_sub, kI a, kI b] [] = some (ansE (numV (IntKind.i64.wrap (a - b)), 0), []) := by
 refine (qAA rfl).trans ?_
 show lim tab.get S 104 0 0 [kS n_sub, kI a, kI b] h0 = _
 have h64 : min (sh b) 64 = sh b := by have := qA4 b; omega
 rw [w104_0, b104_0]
 simp (maxSteps := 9999999) +contextual only [exa, ne_eq, not_false_eq_true, reduceAdd, reduceMul, reduceLT, reduceLeDiff, reduceEqDiff, Int.reduceLT, Int.reduceLE, Int.reduceEq, Int.reduceToNat, qBF, show (decide (n_sub = [108, 116]) = false) from id rfl, show (decide (n_sub = [97, 100, 100]) = false) from id rfl, show (decide (n_sub = [115, 117, 98]) = true) from id rfl, show (decide (n_sub = [109, 117, 108]) = false) from id rfl, show (decide (n_sub = [115, 104, 108]) = false) from id rfl, show (decide (n_sub = [115, 104, 114]) = false) from id rfl, show (decide (n_sub = [105, 56]) = false) from id rfl, show (decide (n_sub = [105, 49, 54]) = false) from id rfl, show (decide (n_sub = [105, 51, 50]) = false) from id rfl, show (decide (n_sub = [117, 56]) = false) from id rfl, show (decide (n_sub = [117, 49, 54]) = false) from id rfl, qAd, qAc, h64, qBR, qBa, qAC _ (VT.row_len (truthV _)), qAC _ (VT.row_len (numV _))]
 rfl
theorem qJO (a b : Int) : Om 104 [kS n_mul, kI a, kI b] [] = some (ansE (numV (IntKind.i64.wrap (a * b)), 0), []) := by
 refine (qAA rfl).trans ?_
 show lim tab.get S 104 0 0 [kS n_mul, kI a, kI b] h0 = _
 have h64 : min (sh b) 64 = sh b := by have := qA4 b; omega
 rw [w104_0, b104_0]
 simp (maxSteps := 9999999) +contextual only [exa, ne_eq, not_false_eq_true, reduceAdd, reduceMul, reduceLT, reduceLeDiff, reduceEqDiff, Int.reduceLT, Int.reduceLE, Int.reduceEq, Int.reduceToNat, qBF, show (decide (n_mul = [108, 116]) = false) from id rfl, show (decide (n_mul = [97, 100, 100]) = false) from id rfl, show (decide (n_mul = [115, 117, 98]) = false) from id rfl, show (decide (n_mul = [109, 117, 108]) = true) from id rfl, show (decide (n_mul = [115, 104, 108]) = false) from id rfl, show (decide (n_mul = [115, 104, 114]) = false) from id rfl, show (decide (n_mul = [105, 56]) = false) from id rfl, show (decide (n_mul = [105, 49, 54]) = false) from id rfl, show (decide (n_mul = [105, 51, 50]) = false) from id rfl, show (decide (n_mul = [117, 56]) = false) from id rfl, show (decide (n_mul = [117, 49, 54]) = false) from id rfl, qAd, qAc, h64, qBR, qBa, qAC _ (VT.row_len (truthV _)), qAC _ (VT.row_len (numV _))]
 rfl
theorem qJa (a b : Int) : Om 104 [kS n_shl, kI a, kI b] [] = some (ansE (numV (IntKind.i64.wrap (a * 2 ^ sh b)), 0), []) := by
 refine (qAA rfl).trans ?_
 show lim tab.get S 104 0 0 [kS n_shl, kI a, kI b] h0 = _
 have h64 : min (sh b) 64 = sh b := by have := qA4 b; omega
 rw [w104_0, b104_0]
 simp (maxSteps := 9999999) +contextual only [exa, ne_eq, not_false_eq_true, reduceAdd, reduceMul, reduceLT, reduceLeDiff, reduceEqDiff, Int.reduceLT, Int.reduceLE, Int.reduceEq, Int.reduceToNat, qBF, show (decide (n_shl = [108, 116]) = false) from id rfl, show (decide (n_shl = [97, 100, 100]) = false) from id rfl, show (decide (n_shl = [115, 117, 98]) = false) from id rfl, show (decide (n_shl = [109, 117, 108]) = false) from id rfl, show (decide (n_shl = [115, 104, 108]) = true) from id rfl, show (decide (n_shl = [115, 104, 114]) = false) from id rfl, show (decide (n_shl = [105, 56]) = false) from id rfl, show (decide (n_shl = [105, 49, 54]) = false) from id rfl, show (decide (n_shl = [105, 51, 50]) = false) from id rfl, show (decide (n_shl = [117, 56]) = false) from id rfl, show (decide (n_shl = [117, 49, 54]) = false) from id rfl, qAd, qAc, h64, qBR, qBa, qAC _ (VT.row_len (truthV _)), qAC _ (VT.row_len (numV _))]
 rfl
theorem qJA (a b : Int) : Om 104 [kS n_shr, kI a, kI b] [] = some (ansE (numV (a.fdiv (2 ^ sh b)), 0), []) := by
 refine (qAA rfl).trans ?_
 show lim tab.get S 104 0 0 [kS n_shr, kI a, kI b] h0 = _
 have h64 : min (sh b) 64 = sh b := by have := qA4 b; omega
 rw [w104_0, b104_0]
 simp (maxSteps := 9999999) +contextual only [exa, ne_eq, not_false_eq_true, reduceAdd, reduceMul, reduceLT, reduceLeDiff, reduceEqDiff, Int.reduceLT, Int.reduceLE, Int.reduceEq, Int.reduceToNat, qBF, show (decide (n_shr = [108, 116]) = false) from id rfl, show (decide (n_shr = [97, 100, 100]) = false) from id rfl, show (decide (n_shr = [115, 117, 98]) = false) from id rfl, show (decide (n_shr = [109, 117, 108]) = false) from id rfl, show (decide (n_shr = [115, 104, 108]) = false) from id rfl, show (decide (n_shr = [115, 104, 114]) = true) from id rfl, show (decide (n_shr = [105, 56]) = false) from id rfl, show (decide (n_shr = [105, 49, 54]) = false) from id rfl, show (decide (n_shr = [105, 51, 50]) = false) from id rfl, show (decide (n_shr = [117, 56]) = false) from id rfl, show (decide (n_shr = [117, 49, 54]) = false) from id rfl, qAd, qAc, h64, qBR, qBa, qAC _ (VT.row_len (truthV _)), qAC _ (VT.row_len (numV _))]
 rfl
theorem qKV (a b : Int) : Om 104 [kS n_i8, kI a, kI b] [] = some (ansE (numV (IntKind.i64.wrap (IntKind.i8.wrap a)), 0), []) := by
 refine (qAA rfl).trans ?_
 show lim tab.get S 104 0 0 [kS n_i8, kI a, kI b] h0 = _
 have h64 : min (sh b) 64 = sh b := by have := qA4 b; omega
 have cc : CAL 161 [kI a, kN .u64 8, kB true] (kI (IntKind.i64.wrap (IntKind.i8.wrap a))) := qAB 161 _ _ rfl (qTR a) rfl
 rw [w104_0, b104_0]
 simp (maxSteps := 9999999) +contextual only [exa, ne_eq, not_false_eq_true, reduceAdd, reduceMul, reduceLT, reduceLeDiff, reduceEqDiff, Int.reduceLT, Int.reduceLE, Int.reduceEq, Int.reduceToNat, qBF, show (decide (n_i8 = [108, 116]) = false) from id rfl, show (decide (n_i8 = [97, 100, 100]) = false) from id rfl, show (decide (n_i8 = [115, 117, 98]) = false) from id rfl, show (decide (n_i8 = [109, 117, 108]) = false) from id rfl, show (decide (n_i8 = [115, 104, 108]) = false) from id rfl, show (decide (n_i8 = [115, 104, 114]) = false) from id rfl, show (decide (n_i8 = [105, 56]) = true) from id rfl, show (decide (n_i8 = [105, 49, 54]) = false) from id rfl, show (decide (n_i8 = [105, 51, 50]) = false) from id rfl, show (decide (n_i8 = [117, 56]) = false) from id rfl, show (decide (n_i8 = [117, 49, 54]) = false) from id rfl, qAd, qAc, h64, cc, qBR, qBa, qAC _ (VT.row_len (truthV _)), qAC _ (VT.row_len (numV _))]
 rfl
theorem qIq (a b : Int) : Om 104 [kS n_i16, kI a, kI b] [] = some (ansE (numV (IntKind.i64.wrap (IntKind.i16.wrap a)), 0), []) := by
 refine (qAA rfl).trans ?_
 show lim tab.get S 104 0 0 [kS n_i16, kI a, kI b] h0 = _
 have h64 : min (sh b) 64 = sh b := by have := qA4 b; omega
 have cc : CAL 161 [kI a, kN .u64 16, kB true] (kI (IntKind.i64.wrap (IntKind.i16.wrap a))) := qAB 161 _ _ rfl (qP6 a) rfl
 rw [w104_0, b104_0]
 simp (maxSteps := 9999999) +contextual only [exa, ne_eq, not_false_eq_true, reduceAdd, reduceMul, reduceLT, reduceLeDiff, reduceEqDiff, Int.reduceLT, Int.reduceLE, Int.reduceEq, Int.reduceToNat, qBF, show (decide (n_i16 = [108, 116]) = false) from id rfl, show (decide (n_i16 = [97, 100, 100]) = false) from id rfl, show (decide (n_i16 = [115, 117, 98]) = false) from id rfl, show (decide (n_i16 = [109, 117, 108]) = false) from id rfl, show (decide (n_i16 = [115, 104, 108]) = false) from id rfl, show (decide (n_i16 = [115, 104, 114]) = false) from id rfl, show (decide (n_i16 = [105, 56]) = false) from id rfl, show (decide (n_i16 = [105, 49, 54]) = true) from id rfl, show (decide (n_i16 = [105, 51, 50]) = false) from id rfl, show (decide (n_i16 = [117, 56]) = false) from id rfl, show (decide (n_i16 = [117, 49, 54]) = false) from id rfl, qAd, qAc, h64, cc, qBR, qBa, qAC _ (VT.row_len (truthV _)), qAC _ (VT.row_len (numV _))]
 rfl
theorem qI3 (a b : Int) : Om 104 [kS n_i32, kI a, kI b] [] = some (ansE (numV (IntKind.i64.wrap (IntKind.i32.wrap a)), 0), []) := by
 refine (qAA rfl).trans ?_
 show lim tab.get S 104 0 0 [kS n_i32, kI a, kI b] h0 = _
 have h64 : min (sh b) 64 = sh b := by have := qA4 b; omega
 have cc : CAL 161 [kI a, kN .u64 32, kB true] (kI (IntKind.i64.wrap (IntKind.i32.wrap a))) := qAB 161 _ _ rfl (qQ3 a) rfl
 rw [w104_0, b104_0]
 simp (maxSteps := 9999999) +contextual only [exa, ne_eq, not_false_eq_true, reduceAdd, reduceMul, reduceLT, reduceLeDiff, reduceEqDiff, Int.reduceLT, Int.reduceLE, Int.reduceEq, Int.reduceToNat, qBF, show (decide (n_i32 = [108, 116]) = false) from id rfl, show (decide (n_i32 = [97, 100, 100]) = false) from id rfl, show (decide (n_i32 = [115, 117, 98]) = false) from id rfl, show (decide (n_i32 = [109, 117, 108]) = false) from id rfl, show (decide (n_i32 = [115, 104, 108]) = false) from id rfl, show (decide (n_i32 = [115, 104, 114]) = false) from id rfl, show (decide (n_i32 = [105, 56]) = false) from id rfl, show (decide (n_i32 = [105, 49, 54]) = false) from id rfl, show (decide (n_i32 = [105, 51, 50]) = true) from id rfl, show (decide (n_i32 = [117, 56]) = false) from id rfl, show (decide (n_i32 = [117, 49, 54]) = false) from id rfl, qAd, qAc, h64, cc, qBR, qBa, qAC _ (VT.row_len (truthV _)), qAC _ (VT.row_len (numV _))]
 rfl
theorem qK3 (a b : Int) : Om 104 [kS n_u8, kI a, kI b] [] = some (ansE (numV (IntKind.i64.wrap (IntKind.u8.wrap a)), 0), []) := by
 refine (qAA rfl).trans ?_
 show lim tab.get S 104 0 0 [kS n_u8, kI a, kI b] h0 = _
 have h64 : min (sh b) 64 = sh b := by have := qA4 b; omega
 have cc : CAL 161 [kI a, kN .u64 8, kB false] (kI (IntKind.i64.wrap (IntKind.u8.wrap a))) := qAB 161 _ _ rfl (qSG a) rfl
 rw [w104_0, b104_0]
 simp (maxSteps := 9999999) +contextual only [exa, ne_eq, not_false_eq_true, reduceAdd, reduceMul, reduceLT, reduceLeDiff, reduceEqDiff, Int.reduceLT, Int.reduceLE, Int.reduceEq, Int.reduceToNat, qBF, show (decide (n_u8 = [108, 116]) = false) from id rfl, show (decide (n_u8 = [97, 100, 100]) = false) from id rfl, show (decide (n_u8 = [115, 117, 98]) = false) from id rfl, show (decide (n_u8 = [109, 117, 108]) = false) from id rfl, show (decide (n_u8 = [115, 104, 108]) = false) from id rfl, show (decide (n_u8 = [115, 104, 114]) = false) from id rfl, show (decide (n_u8 = [105, 56]) = false) from id rfl, show (decide (n_u8 = [105, 49, 54]) = false) from id rfl, show (decide (n_u8 = [105, 51, 50]) = false) from id rfl, show (decide (n_u8 = [117, 56]) = true) from id rfl, show (decide (n_u8 = [117, 49, 54]) = false) from id rfl, qAd, qAc, h64, cc, qBR, qBa, qAC _ (VT.row_len (truthV _)), qAC _ (VT.row_len (numV _))]
 rfl
theorem qJZ (a b : Int) : Om 104 [kS n_u16, kI a, kI b] [] = some (ansE (numV (IntKind.i64.wrap (IntKind.u16.wrap a)), 0), []) := by
 refine (qAA rfl).trans ?_
 show lim tab.get S 104 0 0 [kS n_u16, kI a, kI b] h0 = _
 have h64 : min (sh b) 64 = sh b := by have := qA4 b; omega
 have cc : CAL 161 [kI a, kN .u64 16, kB false] (kI (IntKind.i64.wrap (IntKind.u16.wrap a))) := qAB 161 _ _ rfl (qRa a) rfl
 rw [w104_0, b104_0]
 simp (maxSteps := 9999999) +contextual only [exa, ne_eq, not_false_eq_true, reduceAdd, reduceMul, reduceLT, reduceLeDiff, reduceEqDiff, Int.reduceLT, Int.reduceLE, Int.reduceEq, Int.reduceToNat, qBF, show (decide (n_u16 = [108, 116]) = false) from id rfl, show (decide (n_u16 = [97, 100, 100]) = false) from id rfl, show (decide (n_u16 = [115, 117, 98]) = false) from id rfl, show (decide (n_u16 = [109, 117, 108]) = false) from id rfl, show (decide (n_u16 = [115, 104, 108]) = false) from id rfl, show (decide (n_u16 = [115, 104, 114]) = false) from id rfl, show (decide (n_u16 = [105, 56]) = false) from id rfl, show (decide (n_u16 = [105, 49, 54]) = false) from id rfl, show (decide (n_u16 = [105, 51, 50]) = false) from id rfl, show (decide (n_u16 = [117, 56]) = false) from id rfl, show (decide (n_u16 = [117, 49, 54]) = true) from id rfl, qAd, qAc, h64, cc, qBR, qBa, qAC _ (VT.row_len (truthV _)), qAC _ (VT.row_len (numV _))]
 rfl
theorem qI2 (a b : Int) : Om 104 [kS n_u32, kI a, kI b] [] = some (ansE (numV (IntKind.i64.wrap (IntKind.u32.wrap a)), 0), []) := by
 refine (qAA rfl).trans ?_
 show lim tab.get S 104 0 0 [kS n_u32, kI a, kI b] h0 = _
 have h64 : min (sh b) 64 = sh b := by have := qA4 b; omega
 have cc : CAL 161 [kI a, kN .u64 32, kB false] (kI (IntKind.i64.wrap (IntKind.u32.wrap a))) := qAB 161 _ _ rfl (qRZ a) rfl
 rw [w104_0, b104_0]
 simp (maxSteps := 9999999) +contextual only [exa, ne_eq, not_false_eq_true, reduceAdd, reduceMul, reduceLT, reduceLeDiff, reduceEqDiff, Int.reduceLT, Int.reduceLE, Int.reduceEq, Int.reduceToNat, qBF, show (decide (n_u32 = [108, 116]) = false) from id rfl, show (decide (n_u32 = [97, 100, 100]) = false) from id rfl, show (decide (n_u32 = [115, 117, 98]) = false) from id rfl, show (decide (n_u32 = [109, 117, 108]) = false) from id rfl, show (decide (n_u32 = [115, 104, 108]) = false) from id rfl, show (decide (n_u32 = [115, 104, 114]) = false) from id rfl, show (decide (n_u32 = [105, 56]) = false) from id rfl, show (decide (n_u32 = [105, 49, 54]) = false) from id rfl, show (decide (n_u32 = [105, 51, 50]) = false) from id rfl, show (decide (n_u32 = [117, 56]) = false) from id rfl, show (decide (n_u32 = [117, 49, 54]) = false) from id rfl, qAd, qAc, h64, cc, qBR, qBa, qAC _ (VT.row_len (truthV _)), qAC _ (VT.row_len (numV _))]
 rfl
open Go Go.AI
def atR (v w : VT) : VT × Int := if (decide (v.kind = 4) && decide (w.kind = 2)) = false then (VT.nul, 17) else
 if w.n < 0 then (VT.nul, 32) else match v.l.list[w.n.toNat]? with
 | none => (VT.nul, 32)
 | some x => (x, 0)
def getR (v w : VT) : VT × Int := if (decide (v.kind = 5) && decide (w.kind = 3)) = false then (VT.nul, 17) else match getM v w.s with
 | none => (VT.nul, 0)
 | some x => (x, 0)
theorem qO0 (v w : VT) : Om 103 [kS n_has, kA v.row, kA w.row] [] = some (ansE (truthV (!decide (v.kind = 0)), 0), []) := by
 refine (qAA rfl).trans ?_
 show lim tab.get S 103 0 0 [kS n_has, kA v.row, kA w.row] h0 = _
 rw [w103_0, b103_0]
 simp (maxSteps := 9999999) +contextual only [exa, ne_eq, not_false_eq_true, reduceAdd, reduceMul, reduceLT, reduceLeDiff, reduceEqDiff, Int.reduceLT, Int.reduceLE, Int.reduceEq, Int.reduceToNat, show (decide (n_has = [104, 97, 115]) = true) from id rfl, show (decide (n_has = [111, 114, 101, 108, 115, 101]) = false) from id rfl, show (decide (n_has = [97, 116]) = false) from id rfl, qBR, qAC _ (VT.row_len (truthV _))]
 rfl
theorem qJG (v w : VT) : Om 103 [kS n_orelse, kA v.row, kA w.row] [] = some (ansE (orM v w, 0), []) := by
 refine (qAA rfl).trans ?_
 show lim tab.get S 103 0 0 [kS n_orelse, kA v.row, kA w.row] h0 = _
 rw [w103_0, b103_0]
 unfold orM
 by_cases h0 : v.kind = 0
 ·rw [if_pos h0]
  simp (maxSteps := 9999999) +contextual only [exa, ne_eq, not_false_eq_true, reduceAdd, reduceMul, reduceLT, reduceLeDiff, reduceEqDiff, Int.reduceLT, Int.reduceLE, Int.reduceEq, Int.reduceToNat, show (decide (n_orelse = [104, 97, 115]) = false) from id rfl, show (decide (n_orelse = [111, 114, 101, 108, 115, 101]) = true) from id rfl, show (decide (n_orelse = [97, 116]) = false) from id rfl, h0, qAC _ (VT.row_len w)]
  rfl
 ·rw [if_neg h0]
  simp (maxSteps := 9999999) +contextual only [exa, ne_eq, not_false_eq_true, reduceAdd, reduceMul, reduceLT, reduceLeDiff, reduceEqDiff, Int.reduceLT, Int.reduceLE, Int.reduceEq, Int.reduceToNat, show (decide (n_orelse = [104, 97, 115]) = false) from id rfl, show (decide (n_orelse = [111, 114, 101, 108, 115, 101]) = true) from id rfl, show (decide (n_orelse = [97, 116]) = false) from id rfl, h0, qAC _ (VT.row_len v)]
  rfl
theorem qQH (v w : VT) : Om 103 [kS n_at, kA v.row, kA w.row] [] = some (ansE (atR v w), []) := by
 refine (qAA rfl).trans ?_
 show lim tab.get S 103 0 0 [kS n_at, kA v.row, kA w.row] h0 = _
 rw [w103_0, b103_0]
 unfold atR
 by_cases h4 : v.kind = 4
 ·by_cases h2 : w.kind = 2
  ·rw [if_neg (by simp [h4, h2])]
   by_cases h1 : w.n < 0
   ·rw [if_pos h1]
    simp (maxSteps := 9999999) +contextual only [exa, ne_eq, not_false_eq_true, reduceAdd, reduceMul, reduceLT, reduceLeDiff, reduceEqDiff, Int.reduceLT, Int.reduceLE, Int.reduceEq, Int.reduceToNat, show (decide (n_at = [104, 97, 115]) = false) from id rfl, show (decide (n_at = [111, 114, 101, 108, 115, 101]) = false) from id rfl, show (decide (n_at = [97, 116]) = true) from id rfl, h4, h2, h1, u97, qAC _ qAJ]
    rfl
   ·rw [if_neg h1]
    by_cases h5 : w.n < (v.l.len : Int)
    ·obtain ⟨x, hx, _, mx⟩ := qAS (l := v.l.list) (i := w.n.toNat) (by unfold Sl.len at h5; omega)
     have h3 : (0 : Int) ≤ w.n := by omega
     rw [hx]
     simp (maxSteps := 9999999) +contextual only [exa, ne_eq, not_false_eq_true, reduceAdd, reduceMul, reduceLT, reduceLeDiff, reduceEqDiff, Int.reduceLT, Int.reduceLE, Int.reduceEq, Int.reduceToNat, show (decide (n_at = [104, 97, 115]) = false) from id rfl, show (decide (n_at = [111, 114, 101, 108, 115, 101]) = false) from id rfl, show (decide (n_at = [97, 116]) = true) from id rfl, h4, h2, h1, h5, h3, hx, qAC _ (VT.row_len x)]
     rfl
    ·have hn : v.l.list[w.n.toNat]? = none := List.getElem?_eq_none (by unfold Sl.len at h5; omega)
     rw [hn]
     simp (maxSteps := 9999999) +contextual only [exa, ne_eq, not_false_eq_true, reduceAdd, reduceMul, reduceLT, reduceLeDiff, reduceEqDiff, Int.reduceLT, Int.reduceLE, Int.reduceEq, Int.reduceToNat, show (decide (n_at = [104, 97, 115]) = false) from id rfl, show (decide (n_at = [111, 114, 101, 108, 115, 101]) = false) from id rfl, show (decide (n_at = [97, 116]) = true) from id rfl, h4, h2, h1, h5, u97, qAC _ qAJ]
     rfl
  ·rw [if_pos (by simp [h2])]
   simp (maxSteps := 9999999) +contextual only [exa, ne_eq, not_false_eq_true, reduceAdd, reduceMul, reduceLT, reduceLeDiff, reduceEqDiff, Int.reduceLT, Int.reduceLE, Int.reduceEq, Int.reduceToNat, show (decide (n_at = [104, 97, 115]) = false) from id rfl, show (decide (n_at = [111, 114, 101, 108, 115, 101]) = false) from id rfl, show (decide (n_at = [97, 116]) = true) from id rfl, h4, h2, u97, qAC _ qAJ]
   rfl
 ·rw [if_pos (by simp [h4])]
  simp (maxSteps := 9999999) +contextual only [exa, ne_eq, not_false_eq_true, reduceAdd, reduceMul, reduceLT, reduceLeDiff, reduceEqDiff, Int.reduceLT, Int.reduceLE, Int.reduceEq, Int.reduceToNat, show (decide (n_at = [104, 97, 115]) = false) from id rfl, show (decide (n_at = [111, 114, 101, 108, 115, 101]) = false) from id rfl, show (decide (n_at = [97, 116]) = true) from id rfl, h4, u97, qAC _ qAJ]
  rfl
theorem qPa (v w : VT) (hb : v.keys.len ≤ 1000) : Om 103 [kS n_get, kA v.row, kA w.row] [] = some (ansE (getR v w), []) := by
 refine (qAA rfl).trans ?_
 show lim tab.get S 103 0 0 [kS n_get, kA v.row, kA w.row] h0 = _
 rw [w103_0, b103_0]
 unfold getR
 by_cases h5 : v.kind = 5
 ·by_cases h3 : w.kind = 3
  ·rw [if_neg (by simp [h5, h3])]
   have U := fun {β : Type} {k : TVal → Heap → Option β} {h : Heap} {d : Nat} => u39 (k := k) (h := h) (d := d) v w.s hb
   cases hg : getM v w.s with
   | none =>
    rw [hg] at U
    simp (maxSteps := 9999999) +contextual only [exa, ne_eq, not_false_eq_true, reduceAdd, reduceMul, reduceLT, reduceLeDiff, reduceEqDiff, Int.reduceLT, Int.reduceLE, Int.reduceEq, Int.reduceToNat, show (decide (n_get = [104, 97, 115]) = false) from id rfl, show (decide (n_get = [111, 114, 101, 108, 115, 101]) = false) from id rfl, show (decide (n_get = [97, 116]) = false) from id rfl, h5, h3, U, ansG, qAC _ qAJ]
    rfl
   | some x =>
    rw [hg] at U
    simp (maxSteps := 9999999) +contextual only [exa, ne_eq, not_false_eq_true, reduceAdd, reduceMul, reduceLT, reduceLeDiff, reduceEqDiff, Int.reduceLT, Int.reduceLE, Int.reduceEq, Int.reduceToNat, show (decide (n_get = [104, 97, 115]) = false) from id rfl, show (decide (n_get = [111, 114, 101, 108, 115, 101]) = false) from id rfl, show (decide (n_get = [97, 116]) = false) from id rfl, h5, h3, U, ansG, qAC _ (VT.row_len x)]
    rfl
  ·rw [if_pos (by simp [h3])]
   simp (maxSteps := 9999999) +contextual only [exa, ne_eq, not_false_eq_true, reduceAdd, reduceMul, reduceLT, reduceLeDiff, reduceEqDiff, Int.reduceLT, Int.reduceLE, Int.reduceEq, Int.reduceToNat, show (decide (n_get = [104, 97, 115]) = false) from id rfl, show (decide (n_get = [111, 114, 101, 108, 115, 101]) = false) from id rfl, show (decide (n_get = [97, 116]) = false) from id rfl, h5, h3, u97, qAC _ qAJ]
   rfl
 ·rw [if_pos (by simp [h5])]
  simp (maxSteps := 9999999) +contextual only [exa, ne_eq, not_false_eq_true, reduceAdd, reduceMul, reduceLT, reduceLeDiff, reduceEqDiff, Int.reduceLT, Int.reduceLE, Int.reduceEq, Int.reduceToNat, show (decide (n_get = [104, 97, 115]) = false) from id rfl, show (decide (n_get = [111, 114, 101, 108, 115, 101]) = false) from id rfl, show (decide (n_get = [97, 116]) = false) from id rfl, h5, u97, qAC _ qAJ]
  rfl
open Go Go.AI
abbrev e4 : TVal := .v (.c (.ptr (.own 4 1) 0))
abbrev e6 : TVal := .v (.c (.ptr (.own 6 1) 0))
abbrev e7 : TVal := .v (.c (.ptr (.own 7 1) 0))
structure EvH (v w : VT) (h : Heap) : Prop where
 a4 : h.get (.own 4 1) = some (.cells [.p (.int .i64 0), .p (.bool false), .p (.int .i64 0), .p (.str []), .p .nilslice, .p .nilslice] 0)
 a6 : h.get (.own 6 1) = some (.cells (pcells v.row) 0)
 a7 : h.get (.own 7 1) = some (.cells (pcells w.row) 0)
theorem qQy (v w : VT) : put1 (pcells v.row) 0 (pcells w.row) = pcells w.row := qBQ _ _ (by rw [qAn, qAn, VT.row_len, VT.row_len])
theorem qCh (nm : List UInt8) (hb : Om 52 [kS nm] [] = some (kB true, [])) (hm : Om 98 [kS nm] [] = some (kI 1, [])) (t : Bool) (v : VT) (X : Option (TVal × List AObj)) (hX : ∀ h, EvH v v h → lim tab.get S 41 0 1 [kS nm, e4, e6, e7] h = X) : Om 41 [kS nm, kSl 6 t [v.row]] [] = X := by
 refine (qAA rfl).trans ?_
 show lim tab.get S 41 0 0 [kS nm, kSl 6 t [v.row]] h0 = _
 have c1 : CAL 52 [kS nm] (kB true) := qAB 52 _ _ rfl hb rfl
 have c2 : CAL 98 [kS nm] (kI 1) := qAB 98 _ _ rfl hm rfl
 rw [w41_0, b41_0]
 simp (maxSteps := 9999999) +contextual only [exa, ne_eq, not_false_eq_true, reduceAdd, reduceMul, reduceLT, reduceLeDiff, reduceEqDiff, Int.reduceLT, Int.reduceLE, Int.reduceEq, Int.reduceToNat, c1, c2, qAU, qAR, qAC _ (VT.row_len v)]
 exact hX _ ⟨rfl, rfl, rfl⟩
theorem qBy (nm : List UInt8) (hb : Om 52 [kS nm] [] = some (kB true, [])) (hm : Om 98 [kS nm] [] = some (kI 2, [])) (t : Bool) (v w : VT) (X : Option (TVal × List AObj)) (hX : ∀ h, EvH v w h → lim tab.get S 41 0 1 [kS nm, e4, e6, e7] h = X) : Om 41 [kS nm, kSl 6 t [v.row, w.row]] [] = X := by
 refine (qAA rfl).trans ?_
 show lim tab.get S 41 0 0 [kS nm, kSl 6 t [v.row, w.row]] h0 = _
 have c1 : CAL 52 [kS nm] (kB true) := qAB 52 _ _ rfl hb rfl
 have c2 : CAL 98 [kS nm] (kI 2) := qAB 98 _ _ rfl hm rfl
 rw [w41_0, b41_0]
 simp (maxSteps := 9999999) +contextual only [exa, ne_eq, not_false_eq_true, reduceAdd, reduceMul, reduceLT, reduceLeDiff, reduceEqDiff, Int.reduceLT, Int.reduceLE, Int.reduceEq, Int.reduceToNat, c1, c2, qAX, qAO, qAN, qAC _ (VT.row_len v), qQy]
 exact hX _ ⟨rfl, rfl, rfl⟩
theorem qMU (nm : List UInt8) (c : Int) (s : Sl VT) (hb : Om 52 [kS nm] [] = some (kB true, [])) (hm : Om 98 [kS nm] [] = some (kI c, [])) (hc : ¬ (s.len : Int) = c) : Om 41 [kS nm, .v (.c (.p (slP 6 VT.row s)))] [] = some (ansE (VT.nul, 18), []) := by
 refine (qAA rfl).trans ?_
 show lim tab.get S 41 0 0 [kS nm, .v (.c (.p (slP 6 VT.row s)))] h0 = _
 have c1 : CAL 52 [kS nm] (kB true) := qAB 52 _ _ rfl hb rfl
 have c2 : CAL 98 [kS nm] (kI c) := qAB 98 _ _ rfl hm rfl
 rw [w41_0, b41_0]
 simp (maxSteps := 9999999) +contextual only [exa, ne_eq, not_false_eq_true, reduceAdd, reduceMul, reduceLT, reduceLeDiff, reduceEqDiff, Int.reduceLT, Int.reduceLE, Int.reduceEq, Int.reduceToNat, c1, c2, hc, u97, qAC _ qAJ]
 rfl
theorem qPj (nm : List UInt8) (s : Sl VT) (hb : Om 52 [kS nm] [] = some (kB false, [])) : Om 41 [kS nm, .v (.c (.p (slP 6 VT.row s)))] [] = some (ansE (VT.nul, 15), []) := by
 refine (qAA rfl).trans ?_
 show lim tab.get S 41 0 0 [kS nm, .v (.c (.p (slP 6 VT.row s)))] h0 = _
 have c1 : CAL 52 [kS nm] (kB false) := qAB 52 _ _ rfl hb rfl
 rw [w41_0, b41_0]
 simp (maxSteps := 9999999) +contextual only [exa, ne_eq, not_false_eq_true, reduceAdd, reduceMul, reduceLT, reduceLeDiff, reduceEqDiff, Int.reduceLT, Int.reduceLE, Int.reduceEq, Int.reduceToNat, c1, u97, qAC _ qAJ]
 rfl
theorem qDW : Om 52 [kS n_len] [] = some (kB true, []) := (qAA rfl).trans (qAD blks_ok 2000 52 0 0 _ _ _ (by kernel_rfl))
theorem qFx : Om 98 [kS n_len] [] = some (kI 1, []) := (qAA rfl).trans (qAD blks_ok 500 98 0 0 _ _ _ (by kernel_rfl))
theorem qD4 : Om 52 [kS n_not] [] = some (kB true, []) := (qAA rfl).trans (qAD blks_ok 2000 52 0 0 _ _ _ (by kernel_rfl))
theorem qFI : Om 98 [kS n_not] [] = some (kI 1, []) := (qAA rfl).trans (qAD blks_ok 500 98 0 0 _ _ _ (by kernel_rfl))
theorem qCs : Om 52 [kS n_and] [] = some (kB true, []) := (qAA rfl).trans (qAD blks_ok 2000 52 0 0 _ _ _ (by kernel_rfl))
theorem qDt : Om 98 [kS n_and] [] = some (kI 2, []) := (qAA rfl).trans (qAD blks_ok 500 98 0 0 _ _ _ (by kernel_rfl))
theorem qEL : Om 52 [kS n_or] [] = some (kB true, []) := (qAA rfl).trans (qAD blks_ok 2000 52 0 0 _ _ _ (by kernel_rfl))
theorem qFH : Om 98 [kS n_or] [] = some (kI 2, []) := (qAA rfl).trans (qAD blks_ok 500 98 0 0 _ _ _ (by kernel_rfl))
theorem qEK : Om 52 [kS n_eq] [] = some (kB true, []) := (qAA rfl).trans (qAD blks_ok 2000 52 0 0 _ _ _ (by kernel_rfl))
theorem qFa : Om 98 [kS n_eq] [] = some (kI 2, []) := (qAA rfl).trans (qAD blks_ok 500 98 0 0 _ _ _ (by kernel_rfl))
theorem qEA : Om 52 [kS n_lt] [] = some (kB true, []) := (qAA rfl).trans (qAD blks_ok 2000 52 0 0 _ _ _ (by kernel_rfl))
theorem qE4 : Om 98 [kS n_lt] [] = some (kI 2, []) := (qAA rfl).trans (qAD blks_ok 500 98 0 0 _ _ _ (by kernel_rfl))
theorem qCw : Om 52 [kS n_add] [] = some (kB true, []) := (qAA rfl).trans (qAD blks_ok 2000 52 0 0 _ _ _ (by kernel_rfl))
theorem qD1 : Om 98 [kS n_add] [] = some (kI 2, []) := (qAA rfl).trans (qAD blks_ok 500 98 0 0 _ _ _ (by kernel_rfl))
theorem qCx : Om 52 [kS n_sub] [] = some (kB true, []) := (qAA rfl).trans (qAD blks_ok 2000 52 0 0 _ _ _ (by kernel_rfl))
theorem qDg : Om 98 [kS n_sub] [] = some (kI 2, []) := (qAA rfl).trans (qAD blks_ok 500 98 0 0 _ _ _ (by kernel_rfl))
theorem qCk : Om 52 [kS n_mul] [] = some (kB true, []) := (qAA rfl).trans (qAD blks_ok 2000 52 0 0 _ _ _ (by kernel_rfl))
theorem qDm : Om 98 [kS n_mul] [] = some (kI 2, []) := (qAA rfl).trans (qAD blks_ok 500 98 0 0 _ _ _ (by kernel_rfl))
theorem qCv : Om 52 [kS n_shl] [] = some (kB true, []) := (qAA rfl).trans (qAD blks_ok 2000 52 0 0 _ _ _ (by kernel_rfl))
theorem qDf : Om 98 [kS n_shl] [] = some (kI 2, []) := (qAA rfl).trans (qAD blks_ok 500 98 0 0 _ _ _ (by kernel_rfl))
theorem qC2 : Om 52 [kS n_shr] [] = some (kB true, []) := (qAA rfl).trans (qAD blks_ok 2000 52 0 0 _ _ _ (by kernel_rfl))
theorem qD5 : Om 98 [kS n_shr] [] = some (kI 2, []) := (qAA rfl).trans (qAD blks_ok 500 98 0 0 _ _ _ (by kernel_rfl))
theorem qFr : Om 52 [kS n_i8] [] = some (kB true, []) := (qAA rfl).trans (qAD blks_ok 2000 52 0 0 _ _ _ (by kernel_rfl))
theorem qHD : Om 98 [kS n_i8] [] = some (kI 1, []) := (qAA rfl).trans (qAD blks_ok 500 98 0 0 _ _ _ (by kernel_rfl))
theorem qDS : Om 52 [kS n_i16] [] = some (kB true, []) := (qAA rfl).trans (qAD blks_ok 2000 52 0 0 _ _ _ (by kernel_rfl))
theorem qEy : Om 98 [kS n_i16] [] = some (kI 1, []) := (qAA rfl).trans (qAD blks_ok 500 98 0 0 _ _ _ (by kernel_rfl))
theorem qDr : Om 52 [kS n_i32] [] = some (kB true, []) := (qAA rfl).trans (qAD blks_ok 2000 52 0 0 _ _ _ (by kernel_rfl))
theorem qFF : Om 98 [kS n_i32] [] = some (kI 1, []) := (qAA rfl).trans (qAD blks_ok 500 98 0 0 _ _ _ (by kernel_rfl))
theorem qFm : Om 52 [kS n_u8] [] = some (kB true, []) := (qAA rfl).trans (qAD blks_ok 2000 52 0 0 _ _ _ (by kernel_rfl))
theorem qHI : Om 98 [kS n_u8] [] = some (kI 1, []) := (qAA rfl).trans (qAD blks_ok 500 98 0 0 _ _ _ (by kernel_rfl))
theorem qDc : Om 52 [kS n_u16] [] = some (kB true, []) := (qAA rfl).trans (qAD blks_ok 2000 52 0 0 _ _ _ (by kernel_rfl))
theorem qFW : Om 98 [kS n_u16] [] = some (kI 1, []) := (qAA rfl).trans (qAD blks_ok 500 98 0 0 _ _ _ (by kernel_rfl))
theorem qD3 : Om 52 [kS n_u32] [] = some (kB true, []) := (qAA rfl).trans (qAD blks_ok 2000 52 0 0 _ _ _ (by kernel_rfl))
theorem qE7 : Om 98 [kS n_u32] [] = some (kI 1, []) := (qAA rfl).trans (qAD blks_ok 500 98 0 0 _ _ _ (by kernel_rfl))
theorem qCq : Om 52 [kS n_cat] [] = some (kB true, []) := (qAA rfl).trans (qAD blks_ok 2000 52 0 0 _ _ _ (by kernel_rfl))
theorem qDU : Om 98 [kS n_cat] [] = some (kI 2, []) := (qAA rfl).trans (qAD blks_ok 500 98 0 0 _ _ _ (by kernel_rfl))
theorem qC1 : Om 52 [kS n_text] [] = some (kB true, []) := (qAA rfl).trans (qAD blks_ok 2000 52 0 0 _ _ _ (by kernel_rfl))
theorem qEH : Om 98 [kS n_text] [] = some (kI 1, []) := (qAA rfl).trans (qAD blks_ok 500 98 0 0 _ _ _ (by kernel_rfl))
theorem qEF : Om 52 [kS n_at] [] = some (kB true, []) := (qAA rfl).trans (qAD blks_ok 2000 52 0 0 _ _ _ (by kernel_rfl))
theorem qFX : Om 98 [kS n_at] [] = some (kI 2, []) := (qAA rfl).trans (qAD blks_ok 500 98 0 0 _ _ _ (by kernel_rfl))
theorem qCl : Om 52 [kS n_get] [] = some (kB true, []) := (qAA rfl).trans (qAD blks_ok 2000 52 0 0 _ _ _ (by kernel_rfl))
theorem qDk : Om 98 [kS n_get] [] = some (kI 2, []) := (qAA rfl).trans (qAD blks_ok 500 98 0 0 _ _ _ (by kernel_rfl))
theorem qDu : Om 52 [kS n_has] [] = some (kB true, []) := (qAA rfl).trans (qAD blks_ok 2000 52 0 0 _ _ _ (by kernel_rfl))
theorem qFP : Om 98 [kS n_has] [] = some (kI 1, []) := (qAA rfl).trans (qAD blks_ok 500 98 0 0 _ _ _ (by kernel_rfl))
theorem qBj : Om 52 [kS n_orelse] [] = some (kB true, []) := (qAA rfl).trans (qAD blks_ok 2000 52 0 0 _ _ _ (by kernel_rfl))
theorem qCE : Om 98 [kS n_orelse] [] = some (kI 2, []) := (qAA rfl).trans (qAD blks_ok 500 98 0 0 _ _ _ (by kernel_rfl))
theorem qRr (t : Bool) (v : VT) : Om 41 [kS n_len, kSl 6 t [v.row]] [] = some (ansE (lenM v), []) := by
 refine qCh _ qDW qFx t v _ (fun h H => ?_)
 have hc := qRt v
 generalize (lenM v) = p at hc ⊢
 have cc : CAL 99 [kA v.row] (.tup [.agg (pcells p.1.row), .c (.p (.int .i64 p.2))]) := qAB 99 _ _ (by simp only [exP]) hc (by simp only [exP])
 rw [w41_1, b41_1]
 simp (maxSteps := 9999999) +contextual only [exa, ne_eq, not_false_eq_true, reduceAdd, reduceMul, reduceLT, reduceLeDiff, reduceEqDiff, Int.reduceLT, Int.reduceLE, Int.reduceEq, Int.reduceToNat, qPu, H.a4, H.a6, H.a7, cc, qAC _ (VT.row_len p.1)]
 rfl
theorem qRV (t : Bool) (v : VT) : Om 41 [kS n_not, kSl 6 t [v.row]] [] = some (ansE (if (decide (v.kind = 1) && decide (v.kind = 1)) = false then ((VT.nul, 17) : VT × Int) else (truthV (!v.b), 0)), []) := by
 refine qCh _ qD4 qFI t v _ (fun h H => ?_)
 have hc := qLC v v
 generalize (if (decide (v.kind = 1) && decide (v.kind = 1)) = false then ((VT.nul, 17) : VT × Int) else (truthV (!v.b), 0)) = p at hc ⊢
 have cc : CAL 101 [kS n_not, kA v.row, kA v.row] (.tup [.agg (pcells p.1.row), .c (.p (.int .i64 p.2))]) := qAB 101 _ _ (by simp only [exP]) hc (by simp only [exP])
 rw [w41_1, b41_1]
 simp (maxSteps := 9999999) +contextual only [exa, ne_eq, not_false_eq_true, reduceAdd, reduceMul, reduceLT, reduceLeDiff, reduceEqDiff, Int.reduceLT, Int.reduceLE, Int.reduceEq, Int.reduceToNat, qHK, H.a4, H.a6, H.a7, cc, qAC _ (VT.row_len p.1)]
 rw [w41_2, b41_2]
 simp (maxSteps := 9999999) +contextual only [exa, ne_eq, not_false_eq_true, reduceAdd, reduceMul, reduceLT, reduceLeDiff, reduceEqDiff, Int.reduceLT, Int.reduceLE, Int.reduceEq, Int.reduceToNat, qHK, H.a4, H.a6, H.a7, cc, qAC _ (VT.row_len p.1)]
 rfl
theorem qQ7 (t : Bool) (v w : VT) : Om 41 [kS n_and, kSl 6 t [v.row, w.row]] [] = some (ansE (if (decide (v.kind = 1) && decide (w.kind = 1)) = false then ((VT.nul, 17) : VT × Int) else (truthV (v.b && w.b), 0)), []) := by
 refine qBy _ qCs qDt t v w _ (fun h H => ?_)
 have hc := qK0 v w
 generalize (if (decide (v.kind = 1) && decide (w.kind = 1)) = false then ((VT.nul, 17) : VT × Int) else (truthV (v.b && w.b), 0)) = p at hc ⊢
 have cc : CAL 101 [kS n_and, kA v.row, kA w.row] (.tup [.agg (pcells p.1.row), .c (.p (.int .i64 p.2))]) := qAB 101 _ _ (by simp only [exP]) hc (by simp only [exP])
 rw [w41_1, b41_1]
 simp (maxSteps := 9999999) +contextual only [exa, ne_eq, not_false_eq_true, reduceAdd, reduceMul, reduceLT, reduceLeDiff, reduceEqDiff, Int.reduceLT, Int.reduceLE, Int.reduceEq, Int.reduceToNat, qG9, H.a4, H.a6, H.a7, cc, qAC _ (VT.row_len p.1)]
 rw [w41_2, b41_2]
 simp (maxSteps := 9999999) +contextual only [exa, ne_eq, not_false_eq_true, reduceAdd, reduceMul, reduceLT, reduceLeDiff, reduceEqDiff, Int.reduceLT, Int.reduceLE, Int.reduceEq, Int.reduceToNat, qG9, H.a4, H.a6, H.a7, cc, qAC _ (VT.row_len p.1)]
 rfl
theorem qTd (t : Bool) (v w : VT) : Om 41 [kS n_or, kSl 6 t [v.row, w.row]] [] = some (ansE (if (decide (v.kind = 1) && decide (w.kind = 1)) = false then ((VT.nul, 17) : VT × Int) else (truthV (v.b || w.b), 0)), []) := by
 refine qBy _ qEL qFH t v w _ (fun h H => ?_)
 have hc := qNm v w
 generalize (if (decide (v.kind = 1) && decide (w.kind = 1)) = false then ((VT.nul, 17) : VT × Int) else (truthV (v.b || w.b), 0)) = p at hc ⊢
 have cc : CAL 101 [kS n_or, kA v.row, kA w.row] (.tup [.agg (pcells p.1.row), .c (.p (.int .i64 p.2))]) := qAB 101 _ _ (by simp only [exP]) hc (by simp only [exP])
 rw [w41_1, b41_1]
 simp (maxSteps := 9999999) +contextual only [exa, ne_eq, not_false_eq_true, reduceAdd, reduceMul, reduceLT, reduceLeDiff, reduceEqDiff, Int.reduceLT, Int.reduceLE, Int.reduceEq, Int.reduceToNat, qLR, H.a4, H.a6, H.a7, cc, qAC _ (VT.row_len p.1)]
 rw [w41_2, b41_2]
 simp (maxSteps := 9999999) +contextual only [exa, ne_eq, not_false_eq_true, reduceAdd, reduceMul, reduceLT, reduceLeDiff, reduceEqDiff, Int.reduceLT, Int.reduceLE, Int.reduceEq, Int.reduceToNat, qLR, H.a4, H.a6, H.a7, cc, qAC _ (VT.row_len p.1)]
 rfl
theorem qR7 (t : Bool) (v w : VT) : Om 41 [kS n_at, kSl 6 t [v.row, w.row]] [] = some (ansE (atR v w), []) := by
 refine qBy _ qEF qFX t v w _ (fun h H => ?_)
 have hc := qQH v w
 generalize (atR v w) = p at hc ⊢
 have cc : CAL 103 [kS n_at, kA v.row, kA w.row] (.tup [.agg (pcells p.1.row), .c (.p (.int .i64 p.2))]) := qAB 103 _ _ (by simp only [exP]) hc (by simp only [exP])
 rw [w41_1, b41_1]
 simp (maxSteps := 9999999) +contextual only [exa, ne_eq, not_false_eq_true, reduceAdd, reduceMul, reduceLT, reduceLeDiff, reduceEqDiff, Int.reduceLT, Int.reduceLE, Int.reduceEq, Int.reduceToNat, qIg, H.a4, H.a6, H.a7, cc, qAC _ (VT.row_len p.1)]
 rw [w41_2, b41_2]
 simp (maxSteps := 9999999) +contextual only [exa, ne_eq, not_false_eq_true, reduceAdd, reduceMul, reduceLT, reduceLeDiff, reduceEqDiff, Int.reduceLT, Int.reduceLE, Int.reduceEq, Int.reduceToNat, qIg, H.a4, H.a6, H.a7, cc, qAC _ (VT.row_len p.1)]
 rw [w41_3, b41_3]
 simp (maxSteps := 9999999) +contextual only [exa, ne_eq, not_false_eq_true, reduceAdd, reduceMul, reduceLT, reduceLeDiff, reduceEqDiff, Int.reduceLT, Int.reduceLE, Int.reduceEq, Int.reduceToNat, qIg, H.a4, H.a6, H.a7, cc, qAC _ (VT.row_len p.1)]
 rfl
theorem qQC (t : Bool) (v w : VT) (hb : v.keys.len ≤ 1000) : Om 41 [kS n_get, kSl 6 t [v.row, w.row]] [] = some (ansE (getR v w), []) := by
 refine qBy _ qCl qDk t v w _ (fun h H => ?_)
 have hc := qPa v w hb
 generalize (getR v w) = p at hc ⊢
 have cc : CAL 103 [kS n_get, kA v.row, kA w.row] (.tup [.agg (pcells p.1.row), .c (.p (.int .i64 p.2))]) := qAB 103 _ _ (by simp only [exP]) hc (by simp only [exP])
 rw [w41_1, b41_1]
 simp (maxSteps := 9999999) +contextual only [exa, ne_eq, not_false_eq_true, reduceAdd, reduceMul, reduceLT, reduceLeDiff, reduceEqDiff, Int.reduceLT, Int.reduceLE, Int.reduceEq, Int.reduceToNat, qD9, H.a4, H.a6, H.a7, cc, qAC _ (VT.row_len p.1)]
 rw [w41_2, b41_2]
 simp (maxSteps := 9999999) +contextual only [exa, ne_eq, not_false_eq_true, reduceAdd, reduceMul, reduceLT, reduceLeDiff, reduceEqDiff, Int.reduceLT, Int.reduceLE, Int.reduceEq, Int.reduceToNat, qD9, H.a4, H.a6, H.a7, cc, qAC _ (VT.row_len p.1)]
 rw [w41_3, b41_3]
 simp (maxSteps := 9999999) +contextual only [exa, ne_eq, not_false_eq_true, reduceAdd, reduceMul, reduceLT, reduceLeDiff, reduceEqDiff, Int.reduceLT, Int.reduceLE, Int.reduceEq, Int.reduceToNat, qD9, H.a4, H.a6, H.a7, cc, qAC _ (VT.row_len p.1)]
 rfl
theorem qQD (t : Bool) (v : VT) : Om 41 [kS n_has, kSl 6 t [v.row]] [] = some (ansE (((truthV (!decide (v.kind = 0)), 0) : VT × Int)), []) := by
 refine qCh _ qDu qFP t v _ (fun h H => ?_)
 have hc := qO0 v v
 generalize (((truthV (!decide (v.kind = 0)), 0) : VT × Int)) = p at hc ⊢
 have cc : CAL 103 [kS n_has, kA v.row, kA v.row] (.tup [.agg (pcells p.1.row), .c (.p (.int .i64 p.2))]) := qAB 103 _ _ (by simp only [exP]) hc (by simp only [exP])
 rw [w41_1, b41_1]
 simp (maxSteps := 9999999) +contextual only [exa, ne_eq, not_false_eq_true, reduceAdd, reduceMul, reduceLT, reduceLeDiff, reduceEqDiff, Int.reduceLT, Int.reduceLE, Int.reduceEq, Int.reduceToNat, qFu, H.a4, H.a6, H.a7, cc, qAC _ (VT.row_len p.1)]
 rw [w41_2, b41_2]
 simp (maxSteps := 9999999) +contextual only [exa, ne_eq, not_false_eq_true, reduceAdd, reduceMul, reduceLT, reduceLeDiff, reduceEqDiff, Int.reduceLT, Int.reduceLE, Int.reduceEq, Int.reduceToNat, qFu, H.a4, H.a6, H.a7, cc, qAC _ (VT.row_len p.1)]
 rw [w41_3, b41_3]
 simp (maxSteps := 9999999) +contextual only [exa, ne_eq, not_false_eq_true, reduceAdd, reduceMul, reduceLT, reduceLeDiff, reduceEqDiff, Int.reduceLT, Int.reduceLE, Int.reduceEq, Int.reduceToNat, qFu, H.a4, H.a6, H.a7, cc, qAC _ (VT.row_len p.1)]
 rfl
theorem qLs (t : Bool) (v w : VT) : Om 41 [kS n_orelse, kSl 6 t [v.row, w.row]] [] = some (ansE (((orM v w, 0) : VT × Int)), []) := by
 refine qBy _ qBj qCE t v w _ (fun h H => ?_)
 have hc := qJG v w
 generalize (((orM v w, 0) : VT × Int)) = p at hc ⊢
 have cc : CAL 103 [kS n_orelse, kA v.row, kA w.row] (.tup [.agg (pcells p.1.row), .c (.p (.int .i64 p.2))]) := qAB 103 _ _ (by simp only [exP]) hc (by simp only [exP])
 rw [w41_1, b41_1]
 simp (maxSteps := 9999999) +contextual only [exa, ne_eq, not_false_eq_true, reduceAdd, reduceMul, reduceLT, reduceLeDiff, reduceEqDiff, Int.reduceLT, Int.reduceLE, Int.reduceEq, Int.reduceToNat, qB2, H.a4, H.a6, H.a7, cc, qAC _ (VT.row_len p.1)]
 rw [w41_2, b41_2]
 simp (maxSteps := 9999999) +contextual only [exa, ne_eq, not_false_eq_true, reduceAdd, reduceMul, reduceLT, reduceLeDiff, reduceEqDiff, Int.reduceLT, Int.reduceLE, Int.reduceEq, Int.reduceToNat, qB2, H.a4, H.a6, H.a7, cc, qAC _ (VT.row_len p.1)]
 rw [w41_3, b41_3]
 simp (maxSteps := 9999999) +contextual only [exa, ne_eq, not_false_eq_true, reduceAdd, reduceMul, reduceLT, reduceLeDiff, reduceEqDiff, Int.reduceLT, Int.reduceLE, Int.reduceEq, Int.reduceToNat, qB2, H.a4, H.a6, H.a7, cc, qAC _ (VT.row_len p.1)]
 rfl
theorem qTu (t : Bool) (v w : VT) : Om 41 [kS n_lt, kSl 6 t [v.row, w.row]] [] = some (ansE (if (decide (v.kind = 2) && decide (w.kind = 2)) = false then ((VT.nul, 17) : VT × Int) else (truthV (decide (v.n < w.n)), 0)), []) := by
 refine qBy _ qEA qE4 t v w _ (fun h H => ?_)
 have cc : CAL 104 [kS n_lt, kI v.n, kI w.n] (.tup [.agg (pcells (truthV (decide (v.n < w.n))).row), .c (.p (.int .i64 0))]) := qAB 104 _ _ rfl (qK6 v.n w.n) (by simp only [exP])
 rw [w41_1, b41_1]
 simp (maxSteps := 9999999) +contextual only [exa, ne_eq, not_false_eq_true, reduceAdd, reduceMul, reduceLT, reduceLeDiff, reduceEqDiff, Int.reduceLT, Int.reduceLE, Int.reduceEq, Int.reduceToNat, qLr, H.a4, H.a6, H.a7]
 rw [w41_2, b41_2]
 simp (maxSteps := 9999999) +contextual only [exa, ne_eq, not_false_eq_true, reduceAdd, reduceMul, reduceLT, reduceLeDiff, reduceEqDiff, Int.reduceLT, Int.reduceLE, Int.reduceEq, Int.reduceToNat, qLr, H.a4, H.a6, H.a7]
 rw [w41_3, b41_3]
 by_cases h1 : v.kind = 2
 ·by_cases h2 : w.kind = 2
  ·rw [if_neg (by simp [h1, h2])]
   simp (maxSteps := 9999999) +contextual only [exa, ne_eq, not_false_eq_true, reduceAdd, reduceMul, reduceLT, reduceLeDiff, reduceEqDiff, Int.reduceLT, Int.reduceLE, Int.reduceEq, Int.reduceToNat, H.a4, H.a6, H.a7, h1, h2, cc, qAC _ (VT.row_len (truthV (decide (v.n < w.n))))]
   rfl
  ·rw [if_pos (by simp [h2])]
   simp (maxSteps := 9999999) +contextual only [exa, ne_eq, not_false_eq_true, reduceAdd, reduceMul, reduceLT, reduceLeDiff, reduceEqDiff, Int.reduceLT, Int.reduceLE, Int.reduceEq, Int.reduceToNat, H.a4, H.a6, H.a7, h1, h2, u97, qAC _ qAJ]
   rfl
 ·rw [if_pos (by simp [h1])]
  simp (maxSteps := 9999999) +contextual only [exa, ne_eq, not_false_eq_true, reduceAdd, reduceMul, reduceLT, reduceLeDiff, reduceEqDiff, Int.reduceLT, Int.reduceLE, Int.reduceEq, Int.reduceToNat, H.a4, H.a6, H.a7, h1, u97, qAC _ qAJ]
  rfl
theorem qRP (t : Bool) (v w : VT) : Om 41 [kS n_add, kSl 6 t [v.row, w.row]] [] = some (ansE (if (decide (v.kind = 2) && decide (w.kind = 2)) = false then ((VT.nul, 17) : VT × Int) else (numV (IntKind.i64.wrap (v.n + w.n)), 0)), []) := by
 refine qBy _ qCw qD1 t v w _ (fun h H => ?_)
 have cc : CAL 104 [kS n_add, kI v.n, kI w.n] (.tup [.agg (pcells (numV (IntKind.i64.wrap (v.n + w.n))).row), .c (.p (.int .i64 0))]) := qAB 104 _ _ rfl (qIx v.n w.n) (by simp only [exP])
 rw [w41_1, b41_1]
 simp (maxSteps := 9999999) +contextual only [exa, ne_eq, not_false_eq_true, reduceAdd, reduceMul, reduceLT, reduceLeDiff, reduceEqDiff, Int.reduceLT, Int.reduceLE, Int.reduceEq, Int.reduceToNat, qHF, H.a4, H.a6, H.a7]
 rw [w41_2, b41_2]
 simp (maxSteps := 9999999) +contextual only [exa, ne_eq, not_false_eq_true, reduceAdd, reduceMul, reduceLT, reduceLeDiff, reduceEqDiff, Int.reduceLT, Int.reduceLE, Int.reduceEq, Int.reduceToNat, qHF, H.a4, H.a6, H.a7]
 rw [w41_3, b41_3]
 by_cases h1 : v.kind = 2
 ·by_cases h2 : w.kind = 2
  ·rw [if_neg (by simp [h1, h2])]
   simp (maxSteps := 9999999) +contextual only [exa, ne_eq, not_false_eq_true, reduceAdd, reduceMul, reduceLT, reduceLeDiff, reduceEqDiff, Int.reduceLT, Int.reduceLE, Int.reduceEq, Int.reduceToNat, H.a4, H.a6, H.a7, h1, h2, cc, qAC _ (VT.row_len (numV (IntKind.i64.wrap (v.n + w.n))))]
   rfl
  ·rw [if_pos (by simp [h2])]
   simp (maxSteps := 9999999) +contextual only [exa, ne_eq, not_false_eq_true, reduceAdd, reduceMul, reduceLT, reduceLeDiff, reduceEqDiff, Int.reduceLT, Int.reduceLE, Int.reduceEq, Int.reduceToNat, H.a4, H.a6, H.a7, h1, h2, u97, qAC _ qAJ]
   rfl
 ·rw [if_pos (by simp [h1])]
  simp (maxSteps := 9999999) +contextual only [exa, ne_eq, not_false_eq_true, reduceAdd, reduceMul, reduceLT, reduceLeDiff, reduceEqDiff, Int.reduceLT, Int.reduceLE, Int.reduceEq, Int.reduceToNat, H.a4, H.a6, H.a7, h1, u97, qAC _ qAJ]
  rfl
theorem qP7 (t : Bool) (v w : VT) : Om 41 [kS n_sub, kSl 6 t [v.row, w.row]] [] = some (ansE (if (decide (v.kind = 2) && decide (w.kind = 2)) = false then ((VT.nul, 17) : VT × Int) else (numV (IntKind.i64.wrap (v.n - w.n)), 0)), []) := by
 refine qBy _ qCx qDg t v w _ (fun h H => ?_)
 have cc : CAL 104 [kS n_sub, kI v.n, kI w.n] (.tup [.agg (pcells (numV (IntKind.i64.wrap (v.n - w.n))).row), .c (.p (.int .i64 0))]) := qAB 104 _ _ rfl (qI4 v.n w.n) (by simp only [exP])
 rw [w41_1, b41_1]
 simp (maxSteps := 9999999) +contextual only [exa, ne_eq, not_false_eq_true, reduceAdd, reduceMul, reduceLT, reduceLeDiff, reduceEqDiff, Int.reduceLT, Int.reduceLE, Int.reduceEq, Int.reduceToNat, qHC, H.a4, H.a6, H.a7]
 rw [w41_2, b41_2]
 simp (maxSteps := 9999999) +contextual only [exa, ne_eq, not_false_eq_true, reduceAdd, reduceMul, reduceLT, reduceLeDiff, reduceEqDiff, Int.reduceLT, Int.reduceLE, Int.reduceEq, Int.reduceToNat, qHC, H.a4, H.a6, H.a7]
 rw [w41_3, b41_3]
 by_cases h1 : v.kind = 2
 ·by_cases h2 : w.kind = 2
  ·rw [if_neg (by simp [h1, h2])]
   simp (maxSteps := 9999999) +contextual only [exa, ne_eq, not_false_eq_true, reduceAdd, reduceMul, reduceLT, reduceLeDiff, reduceEqDiff, Int.reduceLT, Int.reduceLE, Int.reduceEq, Int.reduceToNat, H.a4, H.a6, H.a7, h1, h2, cc, qAC _ (VT.row_len (numV (IntKind.i64.wrap (v.n - w.n))))]
   rfl
  ·rw [if_pos (by simp [h2])]
   simp (maxSteps := 9999999) +contextual only [exa, ne_eq, not_false_eq_true, reduceAdd, reduceMul, reduceLT, reduceLeDiff, reduceEqDiff, Int.reduceLT, Int.reduceLE, Int.reduceEq, Int.reduceToNat, H.a4, H.a6, H.a7, h1, h2, u97, qAC _ qAJ]
   rfl
 ·rw [if_pos (by simp [h1])]
  simp (maxSteps := 9999999) +contextual only [exa, ne_eq, not_false_eq_true, reduceAdd, reduceMul, reduceLT, reduceLeDiff, reduceEqDiff, Int.reduceLT, Int.reduceLE, Int.reduceEq, Int.reduceToNat, H.a4, H.a6, H.a7, h1, u97, qAC _ qAJ]
  rfl
theorem qRY (t : Bool) (v w : VT) : Om 41 [kS n_mul, kSl 6 t [v.row, w.row]] [] = some (ansE (if (decide (v.kind = 2) && decide (w.kind = 2)) = false then ((VT.nul, 17) : VT × Int) else (numV (IntKind.i64.wrap (v.n * w.n)), 0)), []) := by
 refine qBy _ qCk qDm t v w _ (fun h H => ?_)
 have cc : CAL 104 [kS n_mul, kI v.n, kI w.n] (.tup [.agg (pcells (numV (IntKind.i64.wrap (v.n * w.n))).row), .c (.p (.int .i64 0))]) := qAB 104 _ _ rfl (qJO v.n w.n) (by simp only [exP])
 rw [w41_1, b41_1]
 simp (maxSteps := 9999999) +contextual only [exa, ne_eq, not_false_eq_true, reduceAdd, reduceMul, reduceLT, reduceLeDiff, reduceEqDiff, Int.reduceLT, Int.reduceLE, Int.reduceEq, Int.reduceToNat, qHG, H.a4, H.a6, H.a7]
 rw [w41_2, b41_2]
 simp (maxSteps := 9999999) +contextual only [exa, ne_eq, not_false_eq_true, reduceAdd, reduceMul, reduceLT, reduceLeDiff, reduceEqDiff, Int.reduceLT, Int.reduceLE, Int.reduceEq, Int.reduceToNat, qHG, H.a4, H.a6, H.a7]
 rw [w41_3, b41_3]
 by_cases h1 : v.kind = 2
 ·by_cases h2 : w.kind = 2
  ·rw [if_neg (by simp [h1, h2])]
   simp (maxSteps := 9999999) +contextual only [exa, ne_eq, not_false_eq_true, reduceAdd, reduceMul, reduceLT, reduceLeDiff, reduceEqDiff, Int.reduceLT, Int.reduceLE, Int.reduceEq, Int.reduceToNat, H.a4, H.a6, H.a7, h1, h2, cc, qAC _ (VT.row_len (numV (IntKind.i64.wrap (v.n * w.n))))]
   rfl
  ·rw [if_pos (by simp [h2])]
   simp (maxSteps := 9999999) +contextual only [exa, ne_eq, not_false_eq_true, reduceAdd, reduceMul, reduceLT, reduceLeDiff, reduceEqDiff, Int.reduceLT, Int.reduceLE, Int.reduceEq, Int.reduceToNat, H.a4, H.a6, H.a7, h1, h2, u97, qAC _ qAJ]
   rfl
 ·rw [if_pos (by simp [h1])]
  simp (maxSteps := 9999999) +contextual only [exa, ne_eq, not_false_eq_true, reduceAdd, reduceMul, reduceLT, reduceLeDiff, reduceEqDiff, Int.reduceLT, Int.reduceLE, Int.reduceEq, Int.reduceToNat, H.a4, H.a6, H.a7, h1, u97, qAC _ qAJ]
  rfl
theorem qQ6 (t : Bool) (v w : VT) : Om 41 [kS n_shl, kSl 6 t [v.row, w.row]] [] = some (ansE (if (decide (v.kind = 2) && decide (w.kind = 2)) = false then ((VT.nul, 17) : VT × Int) else (numV (IntKind.i64.wrap (v.n * 2 ^ sh w.n)), 0)), []) := by
 refine qBy _ qCv qDf t v w _ (fun h H => ?_)
 have cc : CAL 104 [kS n_shl, kI v.n, kI w.n] (.tup [.agg (pcells (numV (IntKind.i64.wrap (v.n * 2 ^ sh w.n))).row), .c (.p (.int .i64 0))]) := qAB 104 _ _ rfl (qJa v.n w.n) (by simp only [exP])
 rw [w41_1, b41_1]
 simp (maxSteps := 9999999) +contextual only [exa, ne_eq, not_false_eq_true, reduceAdd, reduceMul, reduceLT, reduceLeDiff, reduceEqDiff, Int.reduceLT, Int.reduceLE, Int.reduceEq, Int.reduceToNat, qHL, H.a4, H.a6, H.a7]
 rw [w41_2, b41_2]
 simp (maxSteps := 9999999) +contextual only [exa, ne_eq, not_false_eq_true, reduceAdd, reduceMul, reduceLT, reduceLeDiff, reduceEqDiff, Int.reduceLT, Int.reduceLE, Int.reduceEq, Int.reduceToNat, qHL, H.a4, H.a6, H.a7]
 rw [w41_3, b41_3]
 by_cases h1 : v.kind = 2
 ·by_cases h2 : w.kind = 2
  ·rw [if_neg (by simp [h1, h2])]
   simp (maxSteps := 9999999) +contextual only [exa, ne_eq, not_false_eq_true, reduceAdd, reduceMul, reduceLT, reduceLeDiff, reduceEqDiff, Int.reduceLT, Int.reduceLE, Int.reduceEq, Int.reduceToNat, H.a4, H.a6, H.a7, h1, h2, cc, qAC _ (VT.row_len (numV (IntKind.i64.wrap (v.n * 2 ^ sh w.n))))]
   rfl
  ·rw [if_pos (by simp [h2])]
   simp (maxSteps := 9999999) +contextual only [exa, ne_eq, not_false_eq_true, reduceAdd, reduceMul, reduceLT, reduceLeDiff, reduceEqDiff, Int.reduceLT, Int.reduceLE, Int.reduceEq, Int.reduceToNat, H.a4, H.a6, H.a7, h1, h2, u97, qAC _ qAJ]
   rfl
 ·rw [if_pos (by simp [h1])]
  simp (maxSteps := 9999999) +contextual only [exa, ne_eq, not_false_eq_true, reduceAdd, reduceMul, reduceLT, reduceLeDiff, reduceEqDiff, Int.reduceLT, Int.reduceLE, Int.reduceEq, Int.reduceToNat, H.a4, H.a6, H.a7, h1, u97, qAC _ qAJ]
  rfl
theorem qRn (t : Bool) (v w : VT) : Om 41 [kS n_shr, kSl 6 t [v.row, w.row]] [] = some (ansE (if (decide (v.kind = 2) && decide (w.kind = 2)) = false then ((VT.nul, 17) : VT × Int) else (numV (v.n.fdiv (2 ^ sh w.n)), 0)), []) := by
 refine qBy _ qC2 qD5 t v w _ (fun h H => ?_)
 have cc : CAL 104 [kS n_shr, kI v.n, kI w.n] (.tup [.agg (pcells (numV (v.n.fdiv (2 ^ sh w.n))).row), .c (.p (.int .i64 0))]) := qAB 104 _ _ rfl (qJA v.n w.n) (by simp only [exP])
 rw [w41_1, b41_1]
 simp (maxSteps := 9999999) +contextual only [exa, ne_eq, not_false_eq_true, reduceAdd, reduceMul, reduceLT, reduceLeDiff, reduceEqDiff, Int.reduceLT, Int.reduceLE, Int.reduceEq, Int.reduceToNat, qG5, H.a4, H.a6, H.a7]
 rw [w41_2, b41_2]
 simp (maxSteps := 9999999) +contextual only [exa, ne_eq, not_false_eq_true, reduceAdd, reduceMul, reduceLT, reduceLeDiff, reduceEqDiff, Int.reduceLT, Int.reduceLE, Int.reduceEq, Int.reduceToNat, qG5, H.a4, H.a6, H.a7]
 rw [w41_3, b41_3]
 by_cases h1 : v.kind = 2
 ·by_cases h2 : w.kind = 2
  ·rw [if_neg (by simp [h1, h2])]
   simp (maxSteps := 9999999) +contextual only [exa, ne_eq, not_false_eq_true, reduceAdd, reduceMul, reduceLT, reduceLeDiff, reduceEqDiff, Int.reduceLT, Int.reduceLE, Int.reduceEq, Int.reduceToNat, H.a4, H.a6, H.a7, h1, h2, cc, qAC _ (VT.row_len (numV (v.n.fdiv (2 ^ sh w.n))))]
   rfl
  ·rw [if_pos (by simp [h2])]
   simp (maxSteps := 9999999) +contextual only [exa, ne_eq, not_false_eq_true, reduceAdd, reduceMul, reduceLT, reduceLeDiff, reduceEqDiff, Int.reduceLT, Int.reduceLE, Int.reduceEq, Int.reduceToNat, H.a4, H.a6, H.a7, h1, h2, u97, qAC _ qAJ]
   rfl
 ·rw [if_pos (by simp [h1])]
  simp (maxSteps := 9999999) +contextual only [exa, ne_eq, not_false_eq_true, reduceAdd, reduceMul, reduceLT, reduceLeDiff, reduceEqDiff, Int.reduceLT, Int.reduceLE, Int.reduceEq, Int.reduceToNat, H.a4, H.a6, H.a7, h1, u97, qAC _ qAJ]
  rfl
theorem qSc (t : Bool) (v : VT) : Om 41 [kS n_i8, kSl 6 t [v.row]] [] = some (ansE (if (decide (v.kind = 2) && decide (v.kind = 2)) = false then ((VT.nul, 17) : VT × Int) else (numV (IntKind.i64.wrap (IntKind.i8.wrap v.n)), 0)), []) := by
 refine qCh _ qFr qHD t v _ (fun h H => ?_)
 have cc : CAL 104 [kS n_i8, kI v.n, kI v.n] (.tup [.agg (pcells (numV (IntKind.i64.wrap (IntKind.i8.wrap v.n))).row), .c (.p (.int .i64 0))]) := qAB 104 _ _ rfl (qKV v.n v.n) (by simp only [exP])
 rw [w41_1, b41_1]
 simp (maxSteps := 9999999) +contextual only [exa, ne_eq, not_false_eq_true, reduceAdd, reduceMul, reduceLT, reduceLeDiff, reduceEqDiff, Int.reduceLT, Int.reduceLE, Int.reduceEq, Int.reduceToNat, qLT, H.a4, H.a6, H.a7]
 rw [w41_2, b41_2]
 simp (maxSteps := 9999999) +contextual only [exa, ne_eq, not_false_eq_true, reduceAdd, reduceMul, reduceLT, reduceLeDiff, reduceEqDiff, Int.reduceLT, Int.reduceLE, Int.reduceEq, Int.reduceToNat, qLT, H.a4, H.a6, H.a7]
 rw [w41_3, b41_3]
 by_cases h1 : v.kind = 2
 ·by_cases h2 : v.kind = 2
  ·rw [if_neg (by simp [h1, h2])]
   simp (maxSteps := 9999999) +contextual only [exa, ne_eq, not_false_eq_true, reduceAdd, reduceMul, reduceLT, reduceLeDiff, reduceEqDiff, Int.reduceLT, Int.reduceLE, Int.reduceEq, Int.reduceToNat, H.a4, H.a6, H.a7, h1, h2, cc, qAC _ (VT.row_len (numV (IntKind.i64.wrap (IntKind.i8.wrap v.n))))]
   rfl
  ·exact absurd h1 h2


 ·rw [if_pos (by simp [h1])]
  simp (maxSteps := 9999999) +contextual only [exa, ne_eq, not_false_eq_true, reduceAdd, reduceMul, reduceLT, reduceLeDiff, reduceEqDiff, Int.reduceLT, Int.reduceLE, Int.reduceEq, Int.reduceToNat, H.a4, H.a6, H.a7, h1, u97, qAC _ qAJ]
  rfl
theorem qRQ (t : Bool) (v : VT) : Om 41 [kS n_i16, kSl 6 t [v.row]] [] = some (ansE (if (decide (v.kind = 2) && decide (v.kind = 2)) = false then ((VT.nul, 17) : VT × Int) else (numV (IntKind.i64.wrap (IntKind.i16.wrap v.n)), 0)), []) := by
 refine qCh _ qDS qEy t v _ (fun h H => ?_)
 have cc : CAL 104 [kS n_i16, kI v.n, kI v.n] (.tup [.agg (pcells (numV (IntKind.i64.wrap (IntKind.i16.wrap v.n))).row), .c (.p (.int .i64 0))]) := qAB 104 _ _ rfl (qIq v.n v.n) (by simp only [exP])
 rw [w41_1, b41_1]
 simp (maxSteps := 9999999) +contextual only [exa, ne_eq, not_false_eq_true, reduceAdd, reduceMul, reduceLT, reduceLeDiff, reduceEqDiff, Int.reduceLT, Int.reduceLE, Int.reduceEq, Int.reduceToNat, qG7, H.a4, H.a6, H.a7]
 rw [w41_2, b41_2]
 simp (maxSteps := 9999999) +contextual only [exa, ne_eq, not_false_eq_true, reduceAdd, reduceMul, reduceLT, reduceLeDiff, reduceEqDiff, Int.reduceLT, Int.reduceLE, Int.reduceEq, Int.reduceToNat, qG7, H.a4, H.a6, H.a7]
 rw [w41_3, b41_3]
 by_cases h1 : v.kind = 2
 ·by_cases h2 : v.kind = 2
  ·rw [if_neg (by simp [h1, h2])]
   simp (maxSteps := 9999999) +contextual only [exa, ne_eq, not_false_eq_true, reduceAdd, reduceMul, reduceLT, reduceLeDiff, reduceEqDiff, Int.reduceLT, Int.reduceLE, Int.reduceEq, Int.reduceToNat, H.a4, H.a6, H.a7, h1, h2, cc, qAC _ (VT.row_len (numV (IntKind.i64.wrap (IntKind.i16.wrap v.n))))]
   rfl
  ·exact absurd h1 h2


 ·rw [if_pos (by simp [h1])]
  simp (maxSteps := 9999999) +contextual only [exa, ne_eq, not_false_eq_true, reduceAdd, reduceMul, reduceLT, reduceLeDiff, reduceEqDiff, Int.reduceLT, Int.reduceLE, Int.reduceEq, Int.reduceToNat, H.a4, H.a6, H.a7, h1, u97, qAC _ qAJ]
  rfl
theorem qP3 (t : Bool) (v : VT) : Om 41 [kS n_i32, kSl 6 t [v.row]] [] = some (ansE (if (decide (v.kind = 2) && decide (v.kind = 2)) = false then ((VT.nul, 17) : VT × Int) else (numV (IntKind.i64.wrap (IntKind.i32.wrap v.n)), 0)), []) := by
 refine qCh _ qDr qFF t v _ (fun h H => ?_)
 have cc : CAL 104 [kS n_i32, kI v.n, kI v.n] (.tup [.agg (pcells (numV (IntKind.i64.wrap (IntKind.i32.wrap v.n))).row), .c (.p (.int .i64 0))]) := qAB 104 _ _ rfl (qI3 v.n v.n) (by simp only [exP])
 rw [w41_1, b41_1]
 simp (maxSteps := 9999999) +contextual only [exa, ne_eq, not_false_eq_true, reduceAdd, reduceMul, reduceLT, reduceLeDiff, reduceEqDiff, Int.reduceLT, Int.reduceLE, Int.reduceEq, Int.reduceToNat, qG3, H.a4, H.a6, H.a7]
 rw [w41_2, b41_2]
 simp (maxSteps := 9999999) +contextual only [exa, ne_eq, not_false_eq_true, reduceAdd, reduceMul, reduceLT, reduceLeDiff, reduceEqDiff, Int.reduceLT, Int.reduceLE, Int.reduceEq, Int.reduceToNat, qG3, H.a4, H.a6, H.a7]
 rw [w41_3, b41_3]
 by_cases h1 : v.kind = 2
 ·by_cases h2 : v.kind = 2
  ·rw [if_neg (by simp [h1, h2])]
   simp (maxSteps := 9999999) +contextual only [exa, ne_eq, not_false_eq_true, reduceAdd, reduceMul, reduceLT, reduceLeDiff, reduceEqDiff, Int.reduceLT, Int.reduceLE, Int.reduceEq, Int.reduceToNat, H.a4, H.a6, H.a7, h1, h2, cc, qAC _ (VT.row_len (numV (IntKind.i64.wrap (IntKind.i32.wrap v.n))))]
   rfl
  ·exact absurd h1 h2


 ·rw [if_pos (by simp [h1])]
  simp (maxSteps := 9999999) +contextual only [exa, ne_eq, not_false_eq_true, reduceAdd, reduceMul, reduceLT, reduceLeDiff, reduceEqDiff, Int.reduceLT, Int.reduceLE, Int.reduceEq, Int.reduceToNat, H.a4, H.a6, H.a7, h1, u97, qAC _ qAJ]
  rfl
theorem qSi (t : Bool) (v : VT) : Om 41 [kS n_u8, kSl 6 t [v.row]] [] = some (ansE (if (decide (v.kind = 2) && decide (v.kind = 2)) = false then ((VT.nul, 17) : VT × Int) else (numV (IntKind.i64.wrap (IntKind.u8.wrap v.n)), 0)), []) := by
 refine qCh _ qFm qHI t v _ (fun h H => ?_)
 have cc : CAL 104 [kS n_u8, kI v.n, kI v.n] (.tup [.agg (pcells (numV (IntKind.i64.wrap (IntKind.u8.wrap v.n))).row), .c (.p (.int .i64 0))]) := qAB 104 _ _ rfl (qK3 v.n v.n) (by simp only [exP])
 rw [w41_1, b41_1]
 simp (maxSteps := 9999999) +contextual only [exa, ne_eq, not_false_eq_true, reduceAdd, reduceMul, reduceLT, reduceLeDiff, reduceEqDiff, Int.reduceLT, Int.reduceLE, Int.reduceEq, Int.reduceToNat, qKF, H.a4, H.a6, H.a7]
 rw [w41_2, b41_2]
 simp (maxSteps := 9999999) +contextual only [exa, ne_eq, not_false_eq_true, reduceAdd, reduceMul, reduceLT, reduceLeDiff, reduceEqDiff, Int.reduceLT, Int.reduceLE, Int.reduceEq, Int.reduceToNat, qKF, H.a4, H.a6, H.a7]
 rw [w41_3, b41_3]
 by_cases h1 : v.kind = 2
 ·by_cases h2 : v.kind = 2
  ·rw [if_neg (by simp [h1, h2])]
   simp (maxSteps := 9999999) +contextual only [exa, ne_eq, not_false_eq_true, reduceAdd, reduceMul, reduceLT, reduceLeDiff, reduceEqDiff, Int.reduceLT, Int.reduceLE, Int.reduceEq, Int.reduceToNat, H.a4, H.a6, H.a7, h1, h2, cc, qAC _ (VT.row_len (numV (IntKind.i64.wrap (IntKind.u8.wrap v.n))))]
   rfl
  ·exact absurd h1 h2


 ·rw [if_pos (by simp [h1])]
  simp (maxSteps := 9999999) +contextual only [exa, ne_eq, not_false_eq_true, reduceAdd, reduceMul, reduceLT, reduceLeDiff, reduceEqDiff, Int.reduceLT, Int.reduceLE, Int.reduceEq, Int.reduceToNat, H.a4, H.a6, H.a7, h1, u97, qAC _ qAJ]
  rfl
theorem qRW (t : Bool) (v : VT) : Om 41 [kS n_u16, kSl 6 t [v.row]] [] = some (ansE (if (decide (v.kind = 2) && decide (v.kind = 2)) = false then ((VT.nul, 17) : VT × Int) else (numV (IntKind.i64.wrap (IntKind.u16.wrap v.n)), 0)), []) := by
 refine qCh _ qDc qFW t v _ (fun h H => ?_)
 have cc : CAL 104 [kS n_u16, kI v.n, kI v.n] (.tup [.agg (pcells (numV (IntKind.i64.wrap (IntKind.u16.wrap v.n))).row), .c (.p (.int .i64 0))]) := qAB 104 _ _ rfl (qJZ v.n v.n) (by simp only [exP])
 rw [w41_1, b41_1]
 simp (maxSteps := 9999999) +contextual only [exa, ne_eq, not_false_eq_true, reduceAdd, reduceMul, reduceLT, reduceLeDiff, reduceEqDiff, Int.reduceLT, Int.reduceLE, Int.reduceEq, Int.reduceToNat, qHH, H.a4, H.a6, H.a7]
 rw [w41_2, b41_2]
 simp (maxSteps := 9999999) +contextual only [exa, ne_eq, not_false_eq_true, reduceAdd, reduceMul, reduceLT, reduceLeDiff, reduceEqDiff, Int.reduceLT, Int.reduceLE, Int.reduceEq, Int.reduceToNat, qHH, H.a4, H.a6, H.a7]
 rw [w41_3, b41_3]
 by_cases h1 : v.kind = 2
 ·by_cases h2 : v.kind = 2
  ·rw [if_neg (by simp [h1, h2])]
   simp (maxSteps := 9999999) +contextual only [exa, ne_eq, not_false_eq_true, reduceAdd, reduceMul, reduceLT, reduceLeDiff, reduceEqDiff, Int.reduceLT, Int.reduceLE, Int.reduceEq, Int.reduceToNat, H.a4, H.a6, H.a7, h1, h2, cc, qAC _ (VT.row_len (numV (IntKind.i64.wrap (IntKind.u16.wrap v.n))))]
   rfl
  ·exact absurd h1 h2


 ·rw [if_pos (by simp [h1])]
  simp (maxSteps := 9999999) +contextual only [exa, ne_eq, not_false_eq_true, reduceAdd, reduceMul, reduceLT, reduceLeDiff, reduceEqDiff, Int.reduceLT, Int.reduceLE, Int.reduceEq, Int.reduceToNat, H.a4, H.a6, H.a7, h1, u97, qAC _ qAJ]
  rfl
theorem qQo (t : Bool) (v : VT) : Om 41 [kS n_u32, kSl 6 t [v.row]] [] = some (ansE (if (decide (v.kind = 2) && decide (v.kind = 2)) = false then ((VT.nul, 17) : VT × Int) else (numV (IntKind.i64.wrap (IntKind.u32.wrap v.n)), 0)), []) := by
 refine qCh _ qD3 qE7 t v _ (fun h H => ?_)
 have cc : CAL 104 [kS n_u32, kI v.n, kI v.n] (.tup [.agg (pcells (numV (IntKind.i64.wrap (IntKind.u32.wrap v.n))).row), .c (.p (.int .i64 0))]) := qAB 104 _ _ rfl (qI2 v.n v.n) (by simp only [exP])
 rw [w41_1, b41_1]
 simp (maxSteps := 9999999) +contextual only [exa, ne_eq, not_false_eq_true, reduceAdd, reduceMul, reduceLT, reduceLeDiff, reduceEqDiff, Int.reduceLT, Int.reduceLE, Int.reduceEq, Int.reduceToNat, qHE, H.a4, H.a6, H.a7]
 rw [w41_2, b41_2]
 simp (maxSteps := 9999999) +contextual only [exa, ne_eq, not_false_eq_true, reduceAdd, reduceMul, reduceLT, reduceLeDiff, reduceEqDiff, Int.reduceLT, Int.reduceLE, Int.reduceEq, Int.reduceToNat, qHE, H.a4, H.a6, H.a7]
 rw [w41_3, b41_3]
 by_cases h1 : v.kind = 2
 ·by_cases h2 : v.kind = 2
  ·rw [if_neg (by simp [h1, h2])]
   simp (maxSteps := 9999999) +contextual only [exa, ne_eq, not_false_eq_true, reduceAdd, reduceMul, reduceLT, reduceLeDiff, reduceEqDiff, Int.reduceLT, Int.reduceLE, Int.reduceEq, Int.reduceToNat, H.a4, H.a6, H.a7, h1, h2, cc, qAC _ (VT.row_len (numV (IntKind.i64.wrap (IntKind.u32.wrap v.n))))]
   rfl
  ·exact absurd h1 h2


 ·rw [if_pos (by simp [h1])]
  simp (maxSteps := 9999999) +contextual only [exa, ne_eq, not_false_eq_true, reduceAdd, reduceMul, reduceLT, reduceLeDiff, reduceEqDiff, Int.reduceLT, Int.reduceLE, Int.reduceEq, Int.reduceToNat, H.a4, H.a6, H.a7, h1, u97, qAC _ qAJ]
  rfl
def catR (v w : VT) : VT × Int := if (decide (v.kind = 3) && decide (w.kind = 3)) = false then (VT.nul, 17) else if 65536 < v.s.length + w.s.length then (VT.nul, 34) else (txtV (v.s ++ w.s), 0)
theorem qQK (t : Bool) (v w : VT) (hv : v.s.length < 2305843009213693952) (hw : w.s.length < 2305843009213693952) : Om 41 [kS n_cat, kSl 6 t [v.row, w.row]] [] = some (ansE (catR v w), []) := by
 refine qBy _ qCq qDU t v w _ (fun h H => ?_)
 have hs : IntKind.i64.wrap ((v.s.length : Int) + (w.s.length : Int)) = (v.s.length : Int) + (w.s.length : Int) := qAI _ (by omega) (by omega)
 rw [w41_1, b41_1]
 simp (maxSteps := 9999999) +contextual only [exa, ne_eq, not_false_eq_true, reduceAdd, reduceMul, reduceLT, reduceLeDiff, reduceEqDiff, Int.reduceLT, Int.reduceLE, Int.reduceEq, Int.reduceToNat, qDL, H.a4, H.a6, H.a7]
 rw [w41_2, b41_2]
 unfold catR
 by_cases h1 : v.kind = 3
 ·by_cases h2 : w.kind = 3
  ·rw [if_neg (by simp [h1, h2])]
   by_cases h3 : 65536 < v.s.length + w.s.length
   ·have h4 : (65536 : Int) < (v.s.length : Int) + (w.s.length : Int) := by omega
    rw [if_pos h3]
    simp (maxSteps := 9999999) +contextual only [exa, ne_eq, not_false_eq_true, reduceAdd, reduceMul, reduceLT, reduceLeDiff, reduceEqDiff, Int.reduceLT, Int.reduceLE, Int.reduceEq, Int.reduceToNat, qDL, H.a4, H.a6, H.a7, h1, h2, hs, h4, u97, qAC _ qAJ]
    rfl
   ·have h4 : ¬ (65536 : Int) < (v.s.length : Int) + (w.s.length : Int) := by omega
    have h5 : v.s.length + w.s.length ≤ 4611686018427387904 := by omega
    rw [if_neg h3]
    simp (maxSteps := 9999999) +contextual only [exa, ne_eq, not_false_eq_true, reduceAdd, reduceMul, reduceLT, reduceLeDiff, reduceEqDiff, Int.reduceLT, Int.reduceLE, Int.reduceEq, Int.reduceToNat, qDL, H.a4, H.a6, H.a7, h1, h2, hs, h4, h5, qOO, qAC _ (VT.row_len (txtV _))]
    rfl
  ·rw [if_pos (by simp [h2])]
   simp (maxSteps := 9999999) +contextual only [exa, ne_eq, not_false_eq_true, reduceAdd, reduceMul, reduceLT, reduceLeDiff, reduceEqDiff, Int.reduceLT, Int.reduceLE, Int.reduceEq, Int.reduceToNat, qDL, H.a4, H.a6, H.a7, h1, h2, u97, qAC _ qAJ]
   rfl
 ·rw [if_pos (by simp [h1])]
  simp (maxSteps := 9999999) +contextual only [exa, ne_eq, not_false_eq_true, reduceAdd, reduceMul, reduceLT, reduceLeDiff, reduceEqDiff, Int.reduceLT, Int.reduceLE, Int.reduceEq, Int.reduceToNat, qDL, H.a4, H.a6, H.a7, h1, u97, qAC _ qAJ]
  rfl
def badR (v w : VT) : Bool := (!decide (v.kind = w.kind) || decide (v.kind < 1)) || decide (3 < v.kind)
def eqR (v w : VT) : VT × Int := if badR v w then (VT.nul, 17) else (truthV (((v.b == w.b) && decide (v.n = w.n)) && decide (v.s = w.s)), 0)
theorem qTq (t : Bool) (v w : VT) : Om 41 [kS n_eq, kSl 6 t [v.row, w.row]] [] = some (ansE (eqR v w), []) := by
 refine qBy _ qEK qFa t v w _ (fun h H => ?_)
 rw [w41_1, b41_1]
 unfold eqR
 cases hb : badR v w
 ·unfold badR at hb
  simp (maxSteps := 9999999) +contextual only [exa, ne_eq, not_false_eq_true, reduceAdd, reduceMul, reduceLT, reduceLeDiff, reduceEqDiff, Int.reduceLT, Int.reduceLE, Int.reduceEq, Int.reduceToNat, qLj, H.a4, H.a6, H.a7, hb, qBR, qAC _ (VT.row_len (truthV _))]
  rfl
 ·unfold badR at hb
  simp (maxSteps := 9999999) +contextual only [exa, ne_eq, not_false_eq_true, reduceAdd, reduceMul, reduceLT, reduceLeDiff, reduceEqDiff, Int.reduceLT, Int.reduceLE, Int.reduceEq, Int.reduceToNat, qLj, H.a4, H.a6, H.a7, hb, u97, qAC _ qAJ]
  rfl
open Go Go.AI
theorem qM3 (b : UInt8) : Om 174 [kU b] [] = some (kB (isDigit b.toNat), []) := (qAA rfl).trans (qGQ blks_ok (p := isDigit) (N := 20) (by kernel_rfl) b)
theorem qOS (b : UInt8) : Om 181 [kU b] [] = some (kB (isWord b.toNat), []) := (qAA rfl).trans (qGQ blks_ok (p := isWord) (N := 20) (by kernel_rfl) b)
def runLen (p : Nat → Bool) : List UInt8 → Nat
 | [] => 0
 | b :: s => if p b.toNat then runLen p s + 1 else 0
theorem qOf (p : Nat → Bool) (g : FuncId) (hg : ∀ b, Om g [kU b] [] = some (kB (p b.toNat), [])) (hp : ∀ n, p n = true → n < 128) (s : List UInt8) :
  Om 180 [kS s, .v (.c (.func g []))] [] = some (kI (runLen p s : Nat), []) := by
 refine (qAA rfl).trans ?_
 show lim tab.get S 180 0 0 [kS s, .v (.c (.func g []))] h0 = _
 rw [w180_0, b180_0, qQq]
 have loop : ∀ (m pos : Nat) (h : Heap), s.length - pos = m → pos ≤ s.length → h.get (.own 7 1) = some (.siter s pos) →
   lim tab.get S 180 0 1 [kS s, .v (.c (.func g [])), .v (.c (.ptr (.own 7 1) 0))] h = some (kI ((pos + runLen p (s.drop pos) : Nat) : Int), []) := by
  intro m
  induction m with
  | zero =>
   intro pos h hm hl hh
   rw [w180_1, b180_1, qKa s pos _ hh (by omega)]
   rw [qEq _ 0 (.c (.p (.bool false))) rfl, qHc, if_neg (by decide), w180_2, b180_2, qDe, qBd, qAY _ _ rfl]
   have : pos = s.length := by omega
   subst this
   simp [runLen, oneOf]
  | succ m ih =>
   intro pos h hm hl hh
   obtain ⟨b, hb⟩ : ∃ b, s[pos]? = some b := ⟨s[pos]'(by omega), by simp⟩
   have hd : s.drop pos = b :: s.drop (pos + 1) := by
    obtain ⟨h1, h2⟩ := List.getElem?_eq_some_iff.1 hb
    rw [List.drop_eq_getElem_cons h1, h2]
   rw [w180_1, b180_1, qJb s pos _ hh (by omega), qEq _ 0 (.c (.p (.bool true))) rfl, qHc, if_pos rfl, qEq _ 1 (.c (.p (.int .i64 (pos : Int)))) rfl,
    qHu s pos b hb, qAB g _ _ rfl (hg b) rfl, qPn, qHc]
   cases hpb : p b.toNat with
   | false =>
    rw [if_pos (show (!false) = true from rfl), qBd, qAY _ _ rfl, hd]
    simp [runLen, hpb, oneOf]
   | true =>
    rw [if_neg (show ¬ (!true) = true by decide), qLi s pos b hb (hp _ hpb)]
    refine (ih (pos + 1) _ (by omega) (by omega) (Heap.own_get h 7 1 _ (by decide) (fun e => by cases e))).trans ?_
    rw [hd]
    simp [runLen, hpb]
    omega
 have := loop s.length 0 (h0.own 7 1 (.siter s 0)) (by omega) (by omega) (Heap.own_get _ _ _ _ (by decide) (fun e => by cases e))
 rw [qM2]
 refine this.trans ?_
 simp
theorem qNU (n : Nat) (h : isWord n = true) : n < 128 := by
 simp only [isWord, isLetter, isDigit, Bool.or_eq_true, Bool.and_eq_true, Nat.ble_eq, Nat.beq_eq] at h
 omega
theorem qQQ (s : List UInt8) : Om 175 [kS s] [] = some (kI (runLen isWord s : Nat), []) := by
 refine (qAA rfl).trans ?_
 show lim tab.get S 175 0 0 [kS s] h0 = _
 rw [w175_0, b175_0, qEX 180 _ _ rfl rfl (fun _ => rfl) (qOf isWord 181 qOS qNU s) rfl, qBd, qAY _ _ rfl]
 rfl
def sidentM (s : List UInt8) : Bool := match s with
 | [] => false
 | c :: _ => decide (s.length ≤ 16) && !isDigit c.toNat && decide (runLen isWord s = s.length)
theorem qMm (s : List UInt8) : Om 148 [kS s] [] = some (kB (sidentM s), []) := by
 refine (qAA rfl).trans ?_
 show lim tab.get S 148 0 0 [kS s] h0 = _
 rw [w148_0, b148_0, qGp]
 cases s with
 | nil =>
  rw [show (!decide (([] : List UInt8) = [])) = false by rfl]
  simp only [qCb, qEC, qDV, qBd]
  rw [qAY _ _ rfl]; rfl
 | cons c t =>
  rw [show (!decide ((c :: t) = ([] : List UInt8))) = true by simp]
  simp only [qCW, qDe, qH2, qD8]
  by_cases h1 : (c :: t).length ≤ 16
  ·rw [show (!decide ((16 : Int) < ((c :: t).length : Int))) = true by simp; simp at h1; omega]
   simp only [qCW]
   rw [show (kI 0 : TVal) = kI ((0 : Nat) : Int) from rfl, qHu (c :: t) 0 c rfl, qAB 174 _ _ rfl (qM3 c) rfl, qPn, qD8]
   cases hd : isDigit c.toNat with
   | true =>
    simp only [Bool.not_true, qCb, qEC, qBd]
    rw [qAY _ _ rfl]
    simp only [sidentM, hd, Bool.not_true, Bool.and_false, Bool.false_and]; rfl
   | false =>
    simp only [Bool.not_false, qCW, qDe]
    rw [qAB 175 _ _ rfl (qQQ (c :: t)) rfl]
    simp only [qDe, qHz, qD8, qBd]
    rw [qAY _ _ rfl]
    simp only [sidentM, hd, Bool.not_false, Bool.and_true, decide_eq_true h1, Bool.true_and, oneOf]
    congr 6
    apply decide_eq_decide.2
    omega
  ·rw [show (!decide ((16 : Int) < ((c :: t).length : Int))) = false by simp; simp at h1; omega]
   simp only [qCb, qEC, qBd]
   rw [qAY _ _ rfl]
   simp only [sidentM, decide_eq_false h1, Bool.false_and]; rfl
open Go Go.AI
def nmsL : List (List UInt8) := [n_len, n_not, n_and, n_or, n_eq, n_lt, n_add, n_sub, n_mul, n_shl, n_shr, n_i8, n_i16, n_i32, n_u8, n_u16, n_u32, n_cat, n_text, n_at, n_get, n_has, n_orelse]
def listM : List UInt8 := [32] ++ (nmsL.map fun x => x ++ [32]).flatten
theorem qSW (s : List UInt8) : Om 52 [kS s] [] = some (kB (decide (s ∈ nmsL)), []) := by
 by_cases h : s ∈ nmsL
 ·rw [decide_eq_true h]
  simp only [nmsL, List.mem_cons, List.not_mem_nil, or_false] at h
  rcases h with rfl | rfl | rfl | rfl | rfl | rfl | rfl | rfl | rfl | rfl | rfl | rfl | rfl | rfl | rfl | rfl | rfl | rfl | rfl | rfl | rfl | rfl | rfl
  ·exact qDW
  ·exact qD4
  ·exact qCs
  ·exact qEL
  ·exact qEK
  ·exact qEA
  ·exact qCw
  ·exact qCx
  ·exact qCk
  ·exact qCv
  ·exact qC2
  ·exact qFr
  ·exact qDS
  ·exact qDr
  ·exact qFm
  ·exact qDc
  ·exact qD3
  ·exact qCq
  ·exact qC1
  ·exact qEF
  ·exact qCl
  ·exact qDu
  ·exact qBj
 ·rw [decide_eq_false h]
  simp only [nmsL, List.mem_cons, List.not_mem_nil, or_false, not_or] at h
  obtain ⟨g0, g1, g2, g3, g4, g5, g6, g7, g8, g9, g10, g11, g12, g13, g14, g15, g16, g17, g18, g19, g20, g21, g22⟩ := h
  refine (qAA rfl).trans ?_
  show lim tab.get S 52 0 0 [kS s] h0 = _
  rw [w52_0, b52_0]
  simp (maxSteps := 9999999) +contextual only [exa, ne_eq, not_false_eq_true, reduceAdd, reduceMul, reduceLT, reduceLeDiff, reduceEqDiff, Int.reduceLT, Int.reduceLE, Int.reduceEq, Int.reduceToNat, g0, g1, g2, g3, g4, g5, g6, g7, g8, g9, g10, g11, g12, g13, g14, g15, g16, g17, g18, g19, g20, g21, g22]
  rw [w52_1, b52_1]
  simp (maxSteps := 9999999) +contextual only [exa, ne_eq, not_false_eq_true, reduceAdd, reduceMul, reduceLT, reduceLeDiff, reduceEqDiff, Int.reduceLT, Int.reduceLE, Int.reduceEq, Int.reduceToNat, oneOf]
theorem qIk (sub : List UInt8) : ∀ (s : List UInt8) (i : Nat), 0 ≤ idx2F s sub i → ∃ j r, j ≤ s.length ∧ s.drop j = sub ++ r
 | [], i, h => by
  cases sub with
  | nil => exact ⟨0, [], Nat.le_refl _, rfl⟩
  | cons c sub => exact absurd h (by show ¬ (0 : Int) ≤ Int.negSucc 0; decide)
 | b :: s, i, h => by
  have h' : 0 ≤ (bif preB sub (b :: s) then Int.ofNat i else idx2F s sub (i + 1)) := h
  letI : Sym := ⟨fun _ => 0⟩
  rw [qJ9] at h'
  cases hp : sub.isPrefixOf (b :: s) with
  | true =>
   obtain ⟨r, hr⟩ := List.isPrefixOf_iff_prefix.1 hp
   exact ⟨0, r, Nat.zero_le _, hr.symm⟩
  | false =>
   rw [hp] at h'
   obtain ⟨j, r, h1, h2⟩ := qIk sub s (i + 1) h'
   exact ⟨j + 1, r, by simp; omega, h2⟩
theorem qPG : (List.range 200).all (fun j => !(listM[j]? == some 32) || ((listM.drop (j + 1)).takeWhile (fun b => !(b == 32))).isEmpty || nmsL.contains ((listM.drop (j + 1)).takeWhile (fun b => !(b == 32)))) = true := by decide +kernel
theorem qJw (p : Nat → Bool) : ∀ s : List UInt8, runLen p s = s.length → ∀ b ∈ s, p b.toNat = true
 | [], _, b, hb => by cases hb
 | c :: s, h, b, hb => by
  unfold runLen at h
  by_cases hc : p c.toNat = true
  ·rw [if_pos hc, List.length_cons] at h
   rcases List.mem_cons.1 hb with rfl | hb
   ·exact hc
   ·exact qJw p s (by omega) b hb
  ·rw [if_neg hc, List.length_cons] at h; omega
theorem qNE (s r : List UInt8) (h : ∀ b ∈ s, (b == 32) = false) : (s ++ 32 :: r).takeWhile (fun b => !(b == 32)) = s := by
 induction s with
 | nil => rfl
 | cons c s ih =>
  rw [List.cons_append, List.takeWhile_cons, h c (by simp)]
  simp only [Bool.not_false, if_true]
  rw [ih (fun b hb => h b (by simp [hb]))]
theorem named (s : List UInt8) (hi : sidentM s = true) (hx : 0 ≤ idx2F listM ([32] ++ s ++ [32]) 0) : s ∈ nmsL := by
 have hw : s ≠ [] ∧ runLen isWord s = s.length := by
  cases s with
  | nil => cases hi
  | cons c t =>
   simp only [sidentM, Bool.and_eq_true, decide_eq_true_eq] at hi
   exact ⟨by simp, hi.2⟩
 obtain ⟨j, r, h1, h2⟩ := qIk _ _ _ hx
 have hs : ∀ b ∈ s, (b == 32) = false := by
  intro b hb
  have hq := qJw isWord s hw.2 b hb
  refine Bool.eq_false_iff.2 fun e => ?_
  have e' : b = 32 := eq_of_beq e
  rw [e'] at hq
  exact absurd hq (by decide)
 have e1 : listM.drop j = 32 :: (s ++ 32 :: r) := by rw [h2]; simp
 have e2 : listM[j]? = some 32 := by
  have : (listM.drop j)[0]? = some 32 := by rw [e1]; rfl
  rw [List.getElem?_drop, Nat.add_zero] at this; exact this
 have e3 : listM.drop (j + 1) = s ++ 32 :: r := by
  rw [← List.drop_drop, e1]; rfl
 have hj : j < 200 := by
  have : j < listM.length := (List.getElem?_eq_some_iff.1 e2).1
  have hl : listM.length ≤ 200 := by decide +kernel
  omega
 have hk := List.all_eq_true.1 qPG j (List.mem_range.2 hj)
 rw [e2, e3, qNE s r hs] at hk
 simp only [Bool.or_eq_true] at hk
 rcases hk with (hk | hk) | hk
 ·exact absurd hk (by decide)
 ·exact absurd (List.isEmpty_iff.1 hk) hw.1
 ·simpa using hk
open Go Go.AI
theorem qOK (s sub : List UInt8) (hs : s.length < 4294967281) : Om 183 [kS s, kS sub] [] = some (kI (idx2F s sub 0), []) := by
 have e : S 183 [kS s, kS sub] [] = some (kI (idx2F s sub 0), []) := by
  show SI 183 183 [kS s, kS sub] [] = _
  unfold SI
  show (bif Nat.beq 183 183 then (bif Nat.blt (lenF s) 4294967281 then some (TVal.pv (.int .i64 (idx2F s sub 0)), []) else none) else none) = _
  rw [qAQ, qBK, decide_eq_true hs]; rfl
 show Option.rec (motive := fun _ => Res1) _ some (S 183 [kS s, kS sub] []) = _
 rw [e]
theorem qIy (s sub : List UInt8) (hs : s.length < 4294967281) : Om 149 [kS s, kS sub] [] = some (kB (decide (0 ≤ idx2F s sub 0)), []) := by
 have c1 : CAL 183 [kS s, kS sub] (kI (idx2F s sub 0)) := qAB 183 _ _ rfl (qOK s sub hs) rfl
 have e : Om 176 [kS s, kS sub] [] = some (kI (idx2F s sub 0), []) := by
  refine (qAA rfl).trans ?_
  show lim tab.get S 176 0 0 [kS s, kS sub] h0 = _
  rw [w176_0, b176_0]
  simp (maxSteps := 9999999) +contextual only [exa, ne_eq, not_false_eq_true, reduceAdd, reduceMul, reduceLT, reduceLeDiff, reduceEqDiff, Int.reduceLT, Int.reduceLE, Int.reduceEq, Int.reduceToNat, c1, oneOf]
 have c2 : CAL 176 [kS s, kS sub] (kI (idx2F s sub 0)) := qAB 176 _ _ rfl e rfl
 refine (qAA rfl).trans ?_
 show lim tab.get S 149 0 0 [kS s, kS sub] h0 = _
 rw [w149_0, b149_0]
 simp (maxSteps := 9999999) +contextual only [exa, ne_eq, not_false_eq_true, reduceAdd, reduceMul, reduceLT, reduceLeDiff, reduceEqDiff, Int.reduceLT, Int.reduceLE, Int.reduceEq, Int.reduceToNat, c2, oneOf]
 by_cases h : idx2F s sub 0 < 0
 ·rw [decide_eq_true h, decide_eq_false (by omega)]; rfl
 ·rw [decide_eq_false h, decide_eq_true (by omega)]; rfl
theorem qMn : listM = z6c995b20 := by decide +kernel
theorem qAb (s : List UInt8) (hl : s.length ≤ 1000) : Om 84 [kS s] [] = some (kB (decide (s ∈ nmsL)), []) := by
 by_cases h : s ∈ nmsL
 ·rw [decide_eq_true h]
  simp only [nmsL, List.mem_cons, List.not_mem_nil, or_false] at h
  rcases h with rfl | rfl | rfl | rfl | rfl | rfl | rfl | rfl | rfl | rfl | rfl | rfl | rfl | rfl | rfl | rfl | rfl | rfl | rfl | rfl | rfl | rfl | rfl <;> exact (qAA rfl).trans (qAD blks_ok 500 84 0 0 _ _ _ (by kernel_rfl))
 ·rw [decide_eq_false h]
  have c1 : CAL 148 [kS s] (kB (sidentM s)) := qAB 148 _ _ rfl (qMm s) rfl
  refine (qAA rfl).trans ?_
  show lim tab.get S 84 0 0 [kS s] h0 = _
  rw [w84_0, b84_0]
  cases hi : sidentM s
  ·simp (maxSteps := 9999999) +contextual only [exa, ne_eq, not_false_eq_true, reduceAdd, reduceMul, reduceLT, reduceLeDiff, reduceEqDiff, Int.reduceLT, Int.reduceLE, Int.reduceEq, Int.reduceToNat, c1, hi, oneOf]
  ·have hx : ¬ 0 ≤ idx2F listM ([32] ++ s ++ [32]) 0 := fun x => h (named s hi x)
   have c2 : CAL 149 [kS listM, kS ([32] ++ s ++ [32])] (kB (decide (0 ≤ idx2F listM ([32] ++ s ++ [32]) 0))) := qAB 149 _ _ rfl (qIy _ _ (by decide +kernel)) rfl
   rw [decide_eq_false hx] at c2
   have l1 : 0 + 1 + s.length ≤ 4611686018427387904 := by omega
   have l2 : 1 + s.length ≤ 4611686018427387904 := by omega
   have l3 : ([32] ++ s).length + (0 + 1) ≤ 4611686018427387904 := by simp; omega
   have l4 : ([32] ++ s).length + 1 ≤ 4611686018427387904 := by simp; omega
   simp (maxSteps := 9999999) +contextual only [exa, ne_eq, not_false_eq_true, reduceAdd, reduceMul, reduceLT, reduceLeDiff, reduceEqDiff, Int.reduceLT, Int.reduceLE, Int.reduceEq, Int.reduceToNat, c1, hi, l1, l2, l3, l4, ← qMn, c2, oneOf]
end Go.Proofs.YtlkejchbcchecaaDoor.Ab
