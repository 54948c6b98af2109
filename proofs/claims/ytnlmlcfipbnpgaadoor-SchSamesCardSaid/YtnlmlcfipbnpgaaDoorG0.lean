/- The rules, the contracts, the plain laws that lead to the statement. Own work. Condition: what each theorem names. -/
import Derived.Test.YtnlmlcfipbnpgaaDoorTabTW
import Derived.Test.YtnlmlcfipbnpgaaDoorV0
set_option linter.all false
set_option linter.unusedVariables false
set_option linter.unusedSimpArgs false
set_option linter.unusedSectionVars false
set_option maxRecDepth 100000
open Nat (reduceAdd reduceMul reduceLT reduceLeDiff reduceEqDiff)
namespace Go.Proofs.YtnlmlcfipbnpgaaDoor.Ab
open Go Go.AI
noncomputable def S : Oracle := orS (SI 98) (SJ 53)
noncomputable abbrev W : Mach := lim tab.get S
noncomputable abbrev Om : Oracle := orc S W
abbrev CAL (f : FuncId) (l : List TVal) (v : TVal) : Prop := ∀ {β : Type} {k : TVal → Heap → Option β} {h : Heap} {d : Nat}, vcall Om (.v (.c (.func f []))) l h d k = k v h
abbrev kA (r : List PVal) : TVal := .v (.agg (pcells r))
def withinM (a n : Int) : Int := if a.tmod n < 0 then a.tmod n + n else a.tmod n
theorem qAu (a n : Int) (hn : 0 < n) : 0 ≤ withinM a n ∧ withinM a n < n := by
 have h1 := Int.tmod_lt_of_pos a hn
 have h2 : -n < a.tmod n := by
  have := Int.tmod_lt_of_pos (-a) hn
  rw [Int.neg_tmod] at this; omega
 unfold withinM
 split <;> omega
theorem qKb (a n : Int) (hn : 0 < n) (hs : n < 1000000) : Om 19 [kI a, kI n] [] = some (kI (withinM a n), []) := by
 refine (qAL rfl).trans ?_
 show lim tab.get S 19 0 0 [kI a, kI n] h0 = _
 have hb := qAu a n hn
 rw [w19_0, b19_0]
 unfold withinM at hb ⊢
 by_cases h : a.tmod n < 0
 ·rw [if_pos h] at hb ⊢
  have hw : IntKind.i64.wrap (a.tmod n + n) = a.tmod n + n := qBg _ (by omega) (by omega)
  simp (maxSteps := 9999999) +contextual only [exa, ne_eq, not_false_eq_true, reduceAdd, reduceMul, reduceLT, reduceLeDiff, reduceEqDiff, Int.reduceLT, Int.reduceLE, Int.reduceEq, Int.reduceToNat, qDA 0 .i64 a n (by omega), h, hw, oneOf]
 ·rw [if_neg h]
  simp (maxSteps := 9999999) +contextual only [exa, ne_eq, not_false_eq_true, reduceAdd, reduceMul, reduceLT, reduceLeDiff, reduceEqDiff, Int.reduceLT, Int.reduceLE, Int.reduceEq, Int.reduceToNat, qDA 0 .i64 a n (by omega), h, oneOf]
theorem u19 {β : Type} {k : TVal → Heap → Option β} {h : Heap} {d : Nat} (a n : Int) (hn : 0 < n) (hs : n < 1000000) : vcall Om (.v (.c (.func 19 []))) [kI a, kI n] h d k = k (kI (withinM a n)) h := qAJ 19 _ _ rfl (qKb a n hn hs) rfl
theorem qK3 : Om 10 [] [] = some (kB true, []) := (qAL rfl).trans (qEk blks_ok 3000 10 0 0 _ _ _ (by kernel_rfl))
open Go Go.AI
def leadM (key : List UInt8) : List (List UInt8) → Nat
 | [] => 0
 | a :: l => if bless a key then leadM key l + 1 else 0
theorem qB5 (key : List UInt8) : ∀ l : List (List UInt8), leadM key l ≤ l.length
 | [] => Nat.le_refl _
 | a :: l => by
  unfold leadM
  split
  ·have := qB5 key l; simp; omega
  ·exact Nat.zero_le _
def putM (v : TT) (key : List UInt8) (x : TT) : TT :=
 if v.names.list[leadM key v.names.list]? = some key then v else
  .mk v.kind v.name (.mk false (v.names.list.take (leadM key v.names.list) ++ [key] ++ v.names.list.drop (leadM key v.names.list))) (.mk false (v.kids.list.take (leadM key v.names.list) ++ [x] ++ v.kids.list.drop (leadM key v.names.list)))
abbrev p3 : TVal := .v (.c (.ptr (.own 3 1) 0))
abbrev p5 : TVal := .v (.c (.ptr (.own 5 1) 0))
abbrev p6 : TVal := .v (.c (.ptr (.own 6 1) 0))
theorem qJ9 (v : TT) (key : List UInt8) (x5 x6 : TVal) (h : Heap) (hv : h.get (.own 3 1) = some (.cells (pcells v.row) 0)) (hl : v.names.len ≤ 1000) :
  ∀ i : Nat, lim tab.get S 28 0 1 [kS key, p3, x5, x6, kI (i : Int)] h = lim tab.get S 28 0 2 [kS key, p3, x5, x6, kI ((i + leadM key (v.names.list.drop i) : Nat) : Int)] h := by
 refine qBc v.names.len (fun i hi => ?_) (fun i hi ih => ?_) <;> rw [w28_1, b28_1]
 ·have h1 : ¬ (i : Int) < (v.names.len : Int) := by omega
  simp (maxSteps := 9999999) +contextual only [exa, ne_eq, not_false_eq_true, reduceAdd, reduceMul, reduceLT, reduceLeDiff, reduceEqDiff, Int.reduceLT, Int.reduceLE, Int.reduceEq, Int.reduceToNat, hv, h1, qAz hi, leadM]
 ·have h1 : (i : Int) < (v.names.len : Int) := by omega
  obtain ⟨s, hs, h2, _⟩ := qAV hi
  cases h3 : bless s key
  ·simp (maxSteps := 9999999) +contextual only [exa, ne_eq, not_false_eq_true, reduceAdd, reduceMul, reduceLT, reduceLeDiff, reduceEqDiff, Int.reduceLT, Int.reduceLE, Int.reduceEq, Int.reduceToNat, hv, h1, h2, hs, h3, leadM, Bool.false_eq_true, if_false]
  ·simp (maxSteps := 9999999) +contextual only [exa, ne_eq, not_false_eq_true, reduceAdd, reduceMul, reduceLT, reduceLeDiff, reduceEqDiff, Int.reduceLT, Int.reduceLE, Int.reduceEq, Int.reduceToNat, hv, h1, h2, hs, h3, leadM, if_true, qBq i (by omega), ih]
   rw [show i + 1 + leadM key (v.names.list.drop (i + 1)) = i + (leadM key (v.names.list.drop (i + 1)) + 1) by omega]
def putK (v : TT) (key : List UInt8) (x : TT) (k : Nat) : TT :=
 if v.names.list[k]? = some key then v else .mk v.kind v.name (.mk false (v.names.list.take k ++ [key] ++ v.names.list.drop k)) (.mk false (v.kids.list.take k ++ [x] ++ v.kids.list.drop k))
theorem qCj {β : Type} {O : Oracle} {h : Heap} {d : Nat} {op : AOp} {v' : TVal} {h' : Heap} {t : AI.Touch} (e : ∀ (β : Type) (O : Oracle) (kt : TVal → Heap → AI.Touch → Option β), vtouch O op h d kt = kt v' h' t) (k : TVal → Heap → Option β) : vop O op h d k = k v' h' := by
 rw [qIQ, e]
theorem qLC (v x : TT) (key : List UInt8) (k : Nat) (h : Heap) (hv : h.get (.own 3 1) = some (.cells (pcells v.row) 0)) (hx : h.get (.own 5 1) = some (.cells (pcells x.row) 0)) (h6 : ∃ cs, cs.length = 4 ∧ h.get (.own 6 1) = some (.cells cs 0))
  (hk : k ≤ v.names.len) (hk2 : k ≤ v.kids.len) (hl : v.names.len ≤ 1000) (hl2 : v.kids.len ≤ 1000) :
  lim tab.get S 28 0 2 [kS key, p3, p5, p6, kI (k : Int)] h = some (kA (putK v key x k).row, []) := by
 obtain ⟨cs, hcs, h6⟩ := h6
 rw [w28_2, b28_2]
 by_cases hkey : v.names.list[k]? = some key
 ·have h1 : (k : Int) < (v.names.len : Int) := by
   have := (List.getElem?_eq_some_iff.1 hkey).1
   unfold Sl.len; omega
  simp (maxSteps := 9999999) +contextual only [exa, ne_eq, not_false_eq_true, reduceAdd, reduceMul, reduceLT, reduceLeDiff, reduceEqDiff, Int.reduceLT, Int.reduceLE, Int.reduceEq, Int.reduceToNat, hv, hx, h6, h1, hkey, hcs, BEq.rfl, putK, if_true, oneOf]
 ·obtain ⟨bk, hbk, pk⟩ := qGV 1 sRow v.names k hk
  obtain ⟨dk, hdk, qk⟩ := qGc 1 sRow v.names k hk
  obtain ⟨bl, hbl, pl⟩ := qGV 4 TT.row v.kids k hk2
  obtain ⟨dl, hdl, ql⟩ := qGc 4 TT.row v.kids k hk2
  have r1 : ∀ l : List (List UInt8), ∀ r ∈ l.map sRow, r.length = 1 := fun l r hr => by obtain ⟨_, _, rfl⟩ := List.mem_map.1 hr; rfl
  have r6 : ∀ l : List TT, ∀ r ∈ l.map TT.row, r.length = 4 := fun l r hr => by obtain ⟨a, _, rfl⟩ := List.mem_map.1 hr; exact TT.row_len a
  have n1 : v.names.list.length ≤ 1000 := hl
  have n2 : v.kids.list.length ≤ 1000 := hl2
  have m1 : ∀ l : List TT, (l.map TT.row).length = l.length := fun l => List.length_map _
  have m2 : ∀ l : List (List UInt8), (l.map sRow).length = l.length := fun l => List.length_map _
  obtain ⟨c1, h1, t1, G1, e1, T1, K1, I1, X1⟩ := qB3 (h := h) (d := 46) (D := [46, 56, 61]) (sz := 1) (by' := 16) (v := .p (.slice 1 true [])) (rows := []) hbk (.inr (.inl rfl)) (by decide) (r1 _) (by simp [m2]; omega) (by decide)
  obtain ⟨c2, h2, t2, G2, e2, T2, K2, I2, X2⟩ := qB3 (h := h1) (d := 52) (D := [52, 65, 70]) (sz := 4) (by' := 72) (v := .p (.slice 4 true [])) (rows := []) hbl (.inr (.inl rfl)) (by decide) (r6 _) (by simp [m1]; omega) (by decide)
  have G1' : GS [46, 56, 61] 1 c1 ([] ++ (v.names.list.take k).map sRow) h2 := G1.keep fun e he g hh => K2 e g _ (by revert he; simp; omega) hh
  obtain ⟨c3, h3, t3, G3, e3, T3, K3, I3, X3⟩ := qB3 (h := h2) (d := 56) (sz := 1) (by' := 16) (new := [[.str key]]) (b := .slice 1 true [[.str key]]) (.inr ⟨_, rfl⟩) G1' (by decide) (fun r hr => by simp at hr; rw [hr]; rfl) (by simp [m2]; omega) (by decide)
  obtain ⟨c4, h4, t4, G4, e4, T4, K4, I4, X4⟩ := qB3 (d := 61) (by' := 16) hdk G3 (by decide) (r1 _) (by simp [m2]; omega) (by decide)
  have G2' : GS [52, 65, 70] 4 c2 ([] ++ (v.kids.list.take k).map TT.row) h4 := G2.keep fun e he g hh => K4 e g _ (by revert he; simp; omega) (K3 e g _ (by revert he; simp; omega) hh)
  obtain ⟨c5, h5, t5, G5, e5, T5, K5, I5, X5⟩ := qB3 (d := 65) (by' := 72) (new := [x.row]) (b := .slice 4 true [x.row]) (.inr ⟨_, rfl⟩) G2' (by decide) (fun r hr => by simp at hr; rw [hr]; exact TT.row_len x) (by simp [m1]; omega) (by decide)
  obtain ⟨c6, h6', t6, G6, e6, T6, K6, I6, X6⟩ := qB3 (d := 70) (by' := 72) hdl G5 (by decide) (r6 _) (by simp [m1]; omega) (by decide)
  obtain ⟨ra, ea⟩ := X4 (.inr (X3 (.inl (by simp))))
  obtain ⟨rb, eb⟩ := X6 (.inr (X5 (.inl (by simp))))
  have keep : ∀ e o, e ∉ [46, 56, 61, 52, 65, 70] → h.get (.own e 1) = some o → (h1.get (.own e 1) = some o ∧ h2.get (.own e 1) = some o) ∧ (h3.get (.own e 1) = some o ∧ h4.get (.own e 1) = some o) ∧ h5.get (.own e 1) = some o ∧ h6'.get (.own e 1) = some o := by
   intro e o he ho
   have a1 := K1 e 1 o (by revert he; simp <;> omega) ho
   have a2 := K2 e 1 o (by revert he; simp <;> omega) a1
   have a3 := K3 e 1 o (by revert he; simp <;> omega) a2
   have a4 := K4 e 1 o (by revert he; simp <;> omega) a3
   have a5 := K5 e 1 o (by revert he; simp <;> omega) a4
   exact ⟨⟨a1, a2⟩, ⟨a3, a4⟩, a5, K6 e 1 o (by revert he; simp <;> omega) a5⟩
  obtain ⟨⟨v1, v2⟩, ⟨v3, v4⟩, v5, v6⟩ := keep 3 _ (by decide) hv
  obtain ⟨⟨x1, x2⟩, ⟨x3, x4⟩, x5, x6⟩ := keep 5 _ (by decide) hx
  obtain ⟨⟨y1, y2⟩, ⟨y3, y4⟩, y5, y6⟩ := keep 6 _ (by decide) h6
  have A1 : AI.Touch.apart t3 ⟨[(Ref.own 5 1).site], [], false⟩ = true := qAr T3 5 (by decide)
  have A2 : AI.Touch.apart t4 ⟨[(Ref.own 5 1).site], [], false⟩ = true := qAr T4 5 (by decide)
  have A3 : AI.Touch.apart t3 ⟨[(Ref.own 3 1).site], [], false⟩ = true := qAr T3 3 (by decide)
  have A4 : AI.Touch.apart t4 ⟨[(Ref.own 3 1).site], [], false⟩ = true := qAr T4 3 (by decide)
  have A5 : AI.Touch.apart t5 ⟨[(Ref.own 3 1).site], [], false⟩ = true := qAr T5 3 (by decide)
  have P1 : put1 (pcells v.row) 2 [c4] = [.p (.int .i64 v.kind), .p (.str v.name), c4, .p (slP 4 TT.row v.kids)] := by rw [TT.row_eq]; rfl
  have P2 : ∀ a b f : Cell, put1 [a, b, c4, f] 3 [c6] = [a, b, c4, c6] := fun _ _ _ => rfl
  have P3 : ∀ a b c d : Cell, put1 cs 0 [a, b, c, d] = [a, b, c, d] := fun _ _ _ _ => qBj _ _ (by rw [hcs]; rfl)
  have F : ∀ h, vfin true 0 [.agg [.p (.int .i64 v.kind), .p (.str v.name), c4, c6]] h = some (kA (putK v key x k).row, []) := by
   intro h
   rw [ea, eb, qIC _ rfl, putK, if_neg hkey, TT.row_eq (TT.mk _ _ _ _)]
   show _ = some (kA [.int .i64 v.kind, .str v.name, slP 1 sRow (.mk false (v.names.list.take k ++ [key] ++ v.names.list.drop k)), slP 4 TT.row (.mk false (v.kids.list.take k ++ [x] ++ v.kids.list.drop k))], [])
   simp only [oneOf, slP, pcells, Comp.strip, Cell.strip, List.map_append, List.map_cons, List.map_nil, List.nil_append]
   rfl
  have B1 : ∀ {β : Type} {O : Oracle} {h : Heap} {d : Nat} {kt : TVal → Heap → AI.Touch → Option β}, vtouch O (.bslice 1 1 [.p (.str [])] [(0, .k (kS key))] false) h d kt = kt (kSl 1 true [[.str key]]) h noTouch := qEE _ _ rfl
  have B2 : ∀ {β : Type} {O : Oracle} {h : Heap} {d : Nat} {kt : TVal → Heap → AI.Touch → Option β}, vtouch O (.bslice 4 1 [.p (.int .i64 0), .p (.str []), .p .nilslice, .p .nilslice] [(0, .k (.v (.agg (pcells x.row))))] false) h d kt = kt (kSl 4 true [x.row]) h noTouch := qGk 4 _ _ rfl (TT.row_len x)
  by_cases hlt : (k : Int) < (v.names.len : Int)
  ·obtain ⟨s, hs, _, _⟩ := qAV (l := v.names.list) (i := k) (by unfold Sl.len at hlt; omega)
   have hne : ¬ s = key := fun e => hkey (by rw [hs, e])
   simp (maxSteps := 9999999) +contextual only [exa, ne_eq, not_false_eq_true, reduceAdd, reduceMul, reduceLT, reduceLeDiff, reduceEqDiff, Int.reduceLT, Int.reduceLE, Int.reduceEq, Int.reduceToNat, exY, hv, hx, h6, hlt, hs, hne, hcs, hkey, qAR _ _ pk, qAR _ _ pl, qAZ _ _ qk, qAZ _ _ ql, qCj e1, qCj e2, e3, e4, e5, e6, v1, v2, v3, v4, v5, v6, x1, x2, x3, x4, x5, x6, y6, B1, B2, qBb, A1, A2, A3, A4, A5, P1, P2, P3]
   exact F _
  ·simp (maxSteps := 9999999) +contextual only [exa, ne_eq, not_false_eq_true, reduceAdd, reduceMul, reduceLT, reduceLeDiff, reduceEqDiff, Int.reduceLT, Int.reduceLE, Int.reduceEq, Int.reduceToNat, exY, hv, hx, h6, hlt, hcs, hkey, qAR _ _ pk, qAR _ _ pl, qAZ _ _ qk, qAZ _ _ ql, qCj e1, qCj e2, e3, e4, e5, e6, v1, v2, v3, v4, v5, v6, x1, x2, x3, x4, x5, x6, y6, B1, B2, qBb, A1, A2, A3, A4, A5, P1, P2, P3]
   exact F _
def evenT (n : Nat) (v : TT) : Prop := v.names.len = v.kids.len ∧ v.names.len ≤ n
theorem qCT (v x : TT) (key : List UInt8) (hv : evenT 1000 v) : Om 28 [kA v.row, kS key, kA x.row] [] = some (kA (putM v key x).row, []) := by
 obtain ⟨e, hl⟩ := hv
 refine (qAL rfl).trans ?_
 show lim tab.get S 28 0 0 [kA v.row, kS key, kA x.row] h0 = _
 rw [w28_0, b28_0]
 have hk : leadM key v.names.list ≤ v.names.len := qB5 _ _
 simp (maxSteps := 9999999) +contextual only [exa, ne_eq, not_false_eq_true, reduceAdd, reduceMul, reduceLT, reduceLeDiff, reduceEqDiff, Int.reduceLT, Int.reduceLE, Int.reduceEq, Int.reduceToNat]
 refine (qJ9 v key _ _ _ ?_ hl 0).trans ?_
 ·rfl
 rw [List.drop_zero, Nat.zero_add]
 exact qLC v x key _ _ rfl rfl ⟨_, rfl, rfl⟩ hk (e ▸ hk) hl (by omega)
theorem qJD (n : Nat) (k : Int) (s : List UInt8) (p : List (List UInt8)) (l : List TT) (x : TT) (key : List UInt8) (m : Nat) (hm : m ≤ p.length) (e : p.length = l.length) (hl : p.length ≤ n) : evenT (n + 1) (.mk k s (.mk false (p.take m ++ [key] ++ p.drop m)) (.mk false (l.take m ++ [x] ++ l.drop m))) := by
 have h1 : (p.take m ++ [key] ++ p.drop m).length = p.length + 1 := by simp; omega
 have h2 : (l.take m ++ [x] ++ l.drop m).length = l.length + 1 := by simp; omega
 constructor
 ·show (p.take m ++ [key] ++ p.drop m).length = (l.take m ++ [x] ++ l.drop m).length
  omega
 ·show (p.take m ++ [key] ++ p.drop m).length ≤ n + 1
  omega
theorem qEt (n : Nat) (v x : TT) (key : List UInt8) (hv : evenT n v) : evenT (n + 1) (putM v key x) := by
 obtain ⟨e, hl⟩ := hv
 unfold putM
 split
 ·exact ⟨e, by omega⟩
 ·exact qJD n _ _ _ _ _ _ _ (qB5 _ _) e hl
open Go Go.AI
mutual
def fewR : RW → Int → Int
 | .mk k n s l, m => if (((!decide (0 < m)) || decide (10 < (l.len : Int))) || decide (20 < (s.len : Int))) then 0 else fewS l (IntKind.i64.wrap (m - 1))
def fewS : Sl RW → Int → Int
 | .nil, m => m
 | .mk _ l, m => fewL l m
def fewL : List RW → Int → Int
 | [], m => m
 | r :: rs, m => if 0 < m then fewL rs (fewR r m) else m
end
theorem qLr (l : Sl RW) (m : Int) : fewS l m = fewL l.list m := by cases l <;> simp [fewS, fewL, Sl.list]
def bigR (r : RW) (m : Int) : Bool := ((!decide (0 < m)) || decide (10 < (r.kids.len : Int))) || decide (20 < (r.names.len : Int))
theorem qGP (r : RW) (m : Int) : fewR r m = if bigR r m then 0 else fewL r.kids.list (IntKind.i64.wrap (m - 1)) := by
 cases r with
 | mk k n s l => rw [fewR, qLr]; rfl
theorem qKC (r : RW) (g : Nat) (h : Heap) (hv : h.get (.own 2 g) = some (.cells (pcells r.row) 0)) (hl : r.kids.len ≤ 12)
  (ih : ∀ x ∈ r.kids.list, ∀ m, Om 11 [kA x.row, kI m] [] = some (kI (fewR x m), [])) :
  ∀ (i : Nat) (m : Int), lim tab.get S 11 0 1 [kI m, .v (.c (.ptr (.own 2 g) 0)), kI (i : Int)] h = some (kI (fewL (r.kids.list.drop i) m), []) := by
 refine qBc r.kids.len (fun i hi m => ?_) (fun i hi ihl m => ?_) <;> rw [w11_1, b11_1]
 ·have h1 : ¬ (i : Int) < (r.kids.len : Int) := by omega
  simp (maxSteps := 9999999) +contextual only [exa, ne_eq, not_false_eq_true, reduceAdd, reduceMul, reduceLT, reduceLeDiff, reduceEqDiff, Int.reduceLT, Int.reduceLE, Int.reduceEq, Int.reduceToNat, exR, exY, hv, h1, qAz hi, fewL, oneOf]
 ·have h1 : (i : Int) < (r.kids.len : Int) := by omega
  obtain ⟨x, hs, h2, hx⟩ := qAV hi
  by_cases hm : 0 < m
  ·have cc : CAL 11 [kA x.row, kI m] (kI (fewR x m)) := qAJ 11 _ _ (by simp only [exP]) (ih x hx m) rfl
   simp (maxSteps := 9999999) +contextual only [exa, ne_eq, not_false_eq_true, reduceAdd, reduceMul, reduceLT, reduceLeDiff, reduceEqDiff, Int.reduceLT, Int.reduceLE, Int.reduceEq, Int.reduceToNat, exR, exY, hv, h1, hs, hm, cc, qBq i (by omega), ihl, h2, fewL, if_true]
  ·simp (maxSteps := 9999999) +contextual only [exa, ne_eq, not_false_eq_true, reduceAdd, reduceMul, reduceLT, reduceLeDiff, reduceEqDiff, Int.reduceLT, Int.reduceLE, Int.reduceEq, Int.reduceToNat, exR, exY, hv, h1, hs, hm, h2, fewL, if_false, oneOf]
theorem qMI : ∀ (n : Nat) (r : RW), SizeOf.sizeOf r < n → ∀ m, Om 11 [kA r.row, kI m] [] = some (kI (fewR r m), []) := by
 intro n
 induction n with
 | zero => intro r h; omega
 | succ n ih =>
  intro r hs m
  refine (qAL rfl).trans ?_
  show lim tab.get S 11 0 0 [kA r.row, kI m] h0 = _
  rw [w11_0, b11_0, qGP]
  cases hb : bigR r m
  ·unfold bigR at hb
   simp (maxSteps := 9999999) +contextual only [exa, ne_eq, not_false_eq_true, reduceAdd, reduceMul, reduceLT, reduceLeDiff, reduceEqDiff, Int.reduceLT, Int.reduceLE, Int.reduceEq, Int.reduceToNat, exR, exY, hb, if_false]
   have hl : r.kids.len ≤ 12 := by simp only [Bool.or_eq_false_iff, decide_eq_false_iff_not] at hb; omega
   have := qKC r _ _ (qBk h0 2 1 _ 0 (by decide)) hl (fun x hx => ih x (by have := RW.mem_size hx; omega)) 0 (IntKind.i64.wrap (m - 1))
   rw [List.drop_zero] at this
   exact this
  ·unfold bigR at hb
   simp (maxSteps := 9999999) +contextual only [exa, ne_eq, not_false_eq_true, reduceAdd, reduceMul, reduceLT, reduceLeDiff, reduceEqDiff, Int.reduceLT, Int.reduceLE, Int.reduceEq, Int.reduceToNat, exR, exY, hb, if_true, oneOf]
theorem u11 {β : Type} {k : TVal → Heap → Option β} {h : Heap} {d : Nat} (r : RW) (m : Int) : vcall Om (.v (.c (.func 11 []))) [kA r.row, kI m] h d k = k (kI (fewR r m)) h := qAJ 11 _ _ (by simp only [exP]) (qMI _ r (Nat.lt_succ_self _) m) rfl
mutual
def smR : RW → Prop
 | .mk k n s l => l.len ≤ 10 ∧ s.len ≤ 20 ∧ smS l
def smS : Sl RW → Prop
 | .nil => True
 | .mk _ l => smL l
def smL : List RW → Prop
 | [] => True
 | r :: rs => smR r ∧ smL rs
end
theorem qIA : ∀ l : List RW, smL l ↔ ∀ x ∈ l, smR x
 | [] => by simp [smL]
 | r :: l => by simp [smL, qIA l]
theorem qCW (r : RW) : smR r ↔ r.kids.len ≤ 10 ∧ r.names.len ≤ 20 ∧ ∀ x ∈ r.kids.list, smR x := by
 cases r with
 | mk k n s l =>
  rw [smR, ← qIA]
  cases l <;> simp [smS, smL, Sl.list, RW.kids, RW.names]
theorem qMJ : ∀ (n : Nat) (r : RW), SizeOf.sizeOf r < n → ∀ m : Int, m ≤ 1000 → 0 ≤ fewR r m ∧ (fewR r m ≤ m ∨ m < 0) ∧ (fewR r m ≠ 0 → smR r) := by
 intro n
 induction n with
 | zero => intro r h; omega
 | succ n ih =>
  intro r hs m hm
  have hl : ∀ l : List RW, (∀ x ∈ l, SizeOf.sizeOf x < n) → ∀ m : Int, 0 ≤ m → m ≤ 1000 → 0 ≤ fewL l m ∧ fewL l m ≤ m ∧ (fewL l m ≠ 0 → ∀ x ∈ l, smR x) := by
   intro l
   induction l with
   | nil => intro _ m h0 _; exact ⟨h0, Int.le_refl _, fun _ x hx => by cases hx⟩
   | cons x l ihl =>
    intro hx m h0 h1
    unfold fewL
    by_cases hp : 0 < m
    ·rw [if_pos hp]
     obtain ⟨a1, a2, a3⟩ := ih x (hx x (by simp)) m h1
     have a2' : fewR x m ≤ m := by rcases a2 with a | a <;> omega
     obtain ⟨b1, b2, b3⟩ := ihl (fun y hy => hx y (by simp [hy])) (fewR x m) a1 (by omega)
     refine ⟨b1, by omega, fun hz y hy => ?_⟩
     rcases List.mem_cons.1 hy with rfl | hy
     ·exact a3 (by omega)
     ·exact b3 hz y hy
    ·rw [if_neg hp]
     exact ⟨h0, Int.le_refl _, fun hz => by omega⟩
  rw [qGP]
  cases hb : bigR r m
  ·simp only [Bool.false_eq_true, if_false]
   have hb' := hb
   simp only [bigR, Bool.or_eq_false_iff, decide_eq_false_iff_not, Bool.not_eq_false', decide_eq_true_eq] at hb'
   obtain ⟨⟨h1, h2⟩, h3⟩ := hb'
   rw [qBg (m - 1) (by omega) (by omega)]
   obtain ⟨c1, c2, c3⟩ := hl r.kids.list (fun x hx => by have := RW.mem_size hx; omega) (m - 1) (by omega) (by omega)
   exact ⟨c1, by omega, fun hz => (qCW r).2 ⟨by omega, by omega, c3 hz⟩⟩
  ·simp only [if_true]
   exact ⟨Int.le_refl _, by omega, fun hz => absurd rfl hz⟩
theorem qEW {r : RW} {m : Int} (hm : m ≤ 1000) (h : fewR r m ≠ 0) : smR r := (qMJ _ r (Nat.lt_succ_self _) m hm).2.2 h
def kidM (r : RW) (i : Nat) : RW := match r.kids.list[i % r.kids.len]? with
 | some x => x
 | none => .mk (IntKind.i64.wrap (r.n + (i : Int))) r.kind .nil .nil
theorem qDj {r : RW} (sm : smR r) (i : Nat) : smR (kidM r i) := by
 unfold kidM
 cases h : r.kids.list[i % r.kids.len]? with
 | none => exact (qCW _).2 ⟨by show 0 ≤ 10; decide, by show 0 ≤ 20; decide, fun x hx => by cases hx⟩
 | some x => exact ((qCW r).1 sm).2.2 x (List.mem_of_getElem? h)
theorem qIn (r : RW) (i : Nat) (sm : smR r) : Om 27 [kA r.row, kI (i : Int)] [] = some (kA (kidM r i).row, []) := by
 obtain ⟨s1, _, _⟩ := (qCW r).1 sm
 refine (qAL rfl).trans ?_
 show lim tab.get S 27 0 0 [kA r.row, kI (i : Int)] h0 = _
 rw [w27_0, b27_0]
 by_cases hz : r.kids.len = 0
 ·have e : kidM r i = .mk (IntKind.i64.wrap (r.n + (i : Int))) r.kind .nil .nil := by
   unfold kidM
   rw [List.getElem?_eq_none (by show r.kids.len ≤ _; omega)]
  have h1 : ((r.kids.len : Nat) : Int) = 0 := by omega
  have P : ∀ a b c d : Cell, put1 ([.p (.int .i64 0), .p (.int .i64 0), .p .nilslice, .p .nilslice] : List Cell) 0 [a, b, c, d] = [a, b, c, d] := fun _ _ _ _ => rfl
  rw [e]
  simp (maxSteps := 9999999) +contextual only [exa, ne_eq, not_false_eq_true, reduceAdd, reduceMul, reduceLT, reduceLeDiff, reduceEqDiff, Int.reduceLT, Int.reduceLE, Int.reduceEq, Int.reduceToNat, exR, h1, P]
  rw [RW.row_eq]; rfl
 ·have h1 : ¬ ((r.kids.len : Nat) : Int) = 0 := by omega
  have hlt : i % r.kids.len < r.kids.len := Nat.mod_lt _ (by omega)
  obtain ⟨x, hs, _, hx⟩ := qAV (l := r.kids.list) (i := i % r.kids.len) hlt
  have e : kidM r i = x := by unfold kidM; rw [hs]
  have hm : (i : Int).tmod (r.kids.len : Int) = ((i % r.kids.len : Nat) : Int) := by
   rw [Int.tmod_eq_emod_of_nonneg (by omega)]; omega
  have P : put1 ([.p (.int .i64 0), .p (.int .i64 0), .p .nilslice, .p .nilslice] : List Cell) 0 (pcells x.row) = pcells x.row := qBj _ _ (by simp [pcells, RW.row_len])
  rw [e]
  simp (maxSteps := 9999999) +contextual only [exa, ne_eq, not_false_eq_true, reduceAdd, reduceMul, reduceLT, reduceLeDiff, reduceEqDiff, Int.reduceLT, Int.reduceLE, Int.reduceEq, Int.reduceToNat, exR, h1, qDA 0 .i64 (i : Int) (r.kids.len : Int) (by omega), hm, hs, P, oneOf]
theorem u27 {β : Type} {k : TVal → Heap → Option β} {h : Heap} {d : Nat} (r : RW) (i : Nat) (sm : smR r) : vcall Om (.v (.c (.func 27 []))) [kA r.row, kI (i : Int)] h d k = k (kA (kidM r i).row) h := qAJ 27 _ _ (by simp only [exP]) (qIn r i sm) (by simp only [exP])
def nameL : List (List UInt8) := [[97], [98], [99], [110, 97, 109, 101], [110], [73, 110, 116], [116, 121, 112, 101]]
def nameM (n : Int) : List UInt8 := nameL.getD (withinM n 7).toNat []
theorem qEn (n : Int) : nameL[(withinM n 7).toNat]? = some (nameM n) := by
 have h := qAu n 7 (by decide)
 have h1 : (withinM n 7).toNat < nameL.length := by show _ < 7; omega
 unfold nameM
 rw [List.getD_eq_getElem?_getD, List.getElem?_eq_getElem h1]; rfl
theorem qL8 (n : Int) : Om 21 [kI n] [] = some (kS (nameM n), []) := by
 have hw := qAu n 7 (by decide)
 have e : (nameL.map sRow)[(withinM n 7).toNat]? = some (sRow (nameM n)) := by rw [List.getElem?_map, qEn]; rfl
 have w0 : decide (0 ≤ withinM n 7) = true := decide_eq_true hw.1
 have B : ∀ {β : Type} {O : Oracle} {h : Heap} {d : Nat} {k : TVal → Heap → Option β}, vop O (.bslice 1 7 [.p (.str [])] [(0, .k (kS [97])), (1, .k (kS [98])), (2, .k (kS [99])), (3, .k (kS [110, 97, 109, 101])), (4, .k (kS [110])), (5, .k (kS [73, 110, 116])), (6, .k (kS [116, 121, 112, 101]))] false) h d k = k (kSl 1 true (nameL.map sRow)) h := fun {β O h d k} => qAR _ _ rfl
 refine (qAL rfl).trans ?_
 show lim tab.get S 21 0 0 [kI n] h0 = _
 rw [w21_0, b21_0]
 simp (maxSteps := 9999999) +contextual only [exa, ne_eq, not_false_eq_true, reduceAdd, reduceMul, reduceLT, reduceLeDiff, reduceEqDiff, Int.reduceLT, Int.reduceLE, Int.reduceEq, Int.reduceToNat, B, u19 n 7 (by decide) (by decide), e, w0, oneOf]
theorem u21 {β : Type} {k : TVal → Heap → Option β} {h : Heap} {d : Nat} (n : Int) : vcall Om (.v (.c (.func 21 []))) [kI n] h d k = k (kS (nameM n)) h := qAJ 21 _ _ rfl (qL8 n) rfl
open Go Go.AI
def nmM (r : RW) (i : Nat) : List UInt8 := match r.names.list[i]? with
 | some n => nameM n
 | none => [117]
def recM (r : RW) (sub : RW → TT) : Nat → Nat → TT → TT
 | 0, _, t => t
 | c + 1, i, t => recM r sub c (i + 1) (putM t (nmM r i) (sub (kidM r i)))
def cntM (r : RW) (k : Int) : Nat := if r.names.len = 0 then (if k = 8 then 1 else 0) else min r.names.len 4
def treeK (ns : List (List UInt8)) (k : Int) (r : RW) (sub : RW → TT) : TT :=
 if k = 9 then .mk 9 (ns.getD (withinM r.n (ns.length : Int)).toNat []) .nil .nil
 else if k = 4 ∨ k = 5 ∨ k = 6 then (if k = 6 ∧ (sub (kidM r 0)).kind = 6 then sub (kidM r 0) else .mk k [] .nil (.mk true [sub (kidM r 0)]))
 else if k = 7 ∨ k = 8 then recM r sub (cntM r k) 0 (.mk k [] .nil .nil)
 else .mk k [] .nil .nil
def kindT (r : RW) (d : Int) : Int := if d ≤ 1 ∧ 4 ≤ 1 + withinM r.kind 9 ∧ 1 + withinM r.kind 9 ≤ 8 then 2 else 1 + withinM r.kind 9
def treeM (ns : List (List UInt8)) : Nat → RW → TT
 | 0, r => treeK ns (kindT r 0) r fun _ => .mk 0 [] .nil .nil
 | d + 1, r => treeK ns (kindT r ((d : Int) + 1)) r (treeM ns d)
abbrev z4 : List Cell := [.p (.int .i64 0), .p (.str []), .p .nilslice, .p .nilslice]
abbrev t3 : TVal := .v (.c (.ptr (.own 3 1) 0))
abbrev t6 : TVal := .v (.c (.ptr (.own 6 1) 0))
abbrev t8 : TVal := .v (.c (.ptr (.own 8 1) 0))
structure TreeH (r : RW) (t : TT) (h : Heap) : Prop where
 a3 : h.get (.own 3 1) = some (.cells (pcells r.row) 0)
 a6 : h.get (.own 6 1) = some (.cells z4 0)
 a8 : h.get (.own 8 1) = some (.cells (pcells t.row) 0)
theorem TreeH.put {r : RW} {t : TT} {h : Heap} (H : TreeH r t h) (t' : TT) : TreeH r t' (h.own 8 1 (.cells (pcells t'.row) 0)) :=
 ⟨(Heap.own_get_ne h 8 1 _ 3 1 (by decide)).trans H.a3, (Heap.own_get_ne h 8 1 _ 6 1 (by decide)).trans H.a6, qBk h 8 1 _ 0 (by decide)⟩
theorem qA9 (row : List PVal) (h : row.length = 4) : put1 z4 0 (pcells row) = pcells row := qBj _ _ (by simp [pcells, h])
theorem qLN (a row : List PVal) (ha : a.length = 4) (h : row.length = 4) : put1 (pcells a) 0 (pcells row) = pcells row := qBj _ _ (by simp [pcells, h, ha])
theorem qCE (r : RW) (t : TT) (h : Heap) (H : TreeH r t h) : lim tab.get S 12 0 6 [t6, t8] h = some (kA t.row, []) := by
 rw [w12_6, b12_6]
 simp (maxSteps := 9999999) +contextual only [exa, ne_eq, not_false_eq_true, reduceAdd, reduceMul, reduceLT, reduceLeDiff, reduceEqDiff, Int.reduceLT, Int.reduceLE, Int.reduceEq, Int.reduceToNat, H.a6, H.a8, qA9 _ (TT.row_len t), oneOf]
def TreeOK (ns : Sl (List UInt8)) (d : Int) (f : RW → TT) : Prop := ∀ x : RW, smR x → Om 12 [kA x.row, kI d, .v (.c (.p (slP 1 sRow ns)))] [] = some (kA (f x).row, [])
theorem y27 {β : Type} {kt : TVal → Heap → AI.Touch → Option β} {h : Heap} {d : Nat} (r : RW) (i : Nat) (sm : smR r) : vtouch Om (.call (.k (.v (.c (.func 27 [])))) [.k (kA r.row), .k (kI (i : Int))]) h d kt = kt (kA (kidM r i).row) h noTouch :=
 qBL 27 [kA r.row, kI (i : Int)] _ (by simp only [exP]) (qIn r i sm) (by simp only [exP])
theorem y12 {β : Type} {kt : TVal → Heap → AI.Touch → Option β} {h : Heap} {d : Nat} {ns : Sl (List UInt8)} {m : Int} {f : RW → TT} (ok : TreeOK ns m f) (x : RW) (sm : smR x) : vtouch Om (.call (.k (.v (.c (.func 12 [])))) [.k (kA x.row), .k (kI m), .k (.v (.c (.p (slP 1 sRow ns))))]) h d kt = kt (kA (f x).row) h noTouch :=
 qBL 12 [kA x.row, kI m, .v (.c (.p (slP 1 sRow ns)))] _ (by simp only [exP]) (ok x sm) (by simp only [exP])
theorem u12 {β : Type} {k : TVal → Heap → Option β} {h : Heap} {d : Nat} {ns : Sl (List UInt8)} {m : Int} {f : RW → TT} (ok : TreeOK ns m f) (x : RW) (sm : smR x) : vcall Om (.v (.c (.func 12 []))) [kA x.row, kI m, .v (.c (.p (slP 1 sRow ns)))] h d k = k (kA (f x).row) h :=
 qAJ 12 _ _ (by simp only [exP]) (ok x sm) (by simp only [exP])
theorem y28 {β : Type} {kt : TVal → Heap → AI.Touch → Option β} {h : Heap} {d : Nat} (v x : TT) (key : List UInt8) (hv : evenT 1000 v) : vtouch Om (.call (.k (.v (.c (.func 28 [])))) [.k (kA v.row), .k (kS key), .k (kA x.row)]) h d kt = kt (kA (putM v key x).row) h noTouch :=
 qBL 28 [kA v.row, kS key, kA x.row] _ (by simp only [exP]) (qCT v x key hv) (by simp only [exP])
theorem qKl (ns : Sl (List UInt8)) (d k : Int) (f : RW → TT) (ok : TreeOK ns (IntKind.i64.wrap (d - 1)) f) (r : RW) (sm : smR r) (i : Nat) (hi : i ≤ 100) (nm : List UInt8) (t : TT) (ev : evenT 1000 t) (h : Heap) (H : TreeH r t h) :
  ∃ h', TreeH r (putM t nm (f (kidM r i))) h' ∧ lim tab.get S 12 0 5 [kI d, .v (.c (.p (slP 1 sRow ns))), t3, t6, kI k, t8, kI (i : Int), kS nm] h = lim tab.get S 12 0 4 [kI d, .v (.c (.p (slP 1 sRow ns))), t3, t6, kI k, t8, kI ((i + 1 : Nat) : Int)] h' := by
 refine ⟨_, H.put _, ?_⟩
 rw [w12_5, b12_5]
 simp (maxSteps := 9999999) +contextual only [exa, ne_eq, not_false_eq_true, reduceAdd, reduceMul, reduceLT, reduceLeDiff, reduceEqDiff, Int.reduceLT, Int.reduceLE, Int.reduceEq, Int.reduceToNat, exR, exY, H.a3, H.a8, y27 r i sm, y12 ok _ (qDj sm i), y28 _ _ _ ev, qBb, qLN _ _ (TT.row_len t) (TT.row_len _), qBq i (by omega)]
theorem qKm (ns : Sl (List UInt8)) (d k : Int) (hk : k = 7 ∨ k = 8) (f : RW → TT) (ok : TreeOK ns (IntKind.i64.wrap (d - 1)) f) (r : RW) (sm : smR r) :
  ∀ (c i : Nat), i + c = cntM r k → ∀ (t : TT) (h : Heap), evenT (i + 1) t → TreeH r t h → lim tab.get S 12 0 4 [kI d, .v (.c (.p (slP 1 sRow ns))), t3, t6, kI k, t8, kI (i : Int)] h = some (kA (recM r f c i t).row, []) := by
 obtain ⟨_, s2, _⟩ := (qCW r).1 sm
 have hc4 : cntM r k ≤ 4 := by unfold cntM; split <;> (try split) <;> omega
 intro c
 induction c with
 | zero =>
  intro i hi t h ev H
  rw [w12_4, b12_4]
  have q : ¬ (((i : Int) < (r.names.len : Int) ∧ (i : Int) < 4) ∨ ((i : Int) = 0 ∧ k = 8)) := by
   unfold cntM at hi
   split at hi
   ·split at hi <;> omega
   ·omega
  by_cases h1 : (i : Int) < (r.names.len : Int)
  ·have h2 : ¬ (i : Int) < 4 := by omega
   have h3 : ¬ (i : Int) = 0 := by omega
   simp (maxSteps := 9999999) +contextual only [exa, ne_eq, not_false_eq_true, reduceAdd, reduceMul, reduceLT, reduceLeDiff, reduceEqDiff, Int.reduceLT, Int.reduceLE, Int.reduceEq, Int.reduceToNat, exR, H.a3, h1, h2, h3]
   exact qCE r t h H
  ·by_cases h3 : (i : Int) = 0
   ·have h4 : ¬ k = 8 := by omega
    have h1' : ¬ (0 : Int) < (r.names.len : Int) := by rw [← h3]; exact h1
    simp (maxSteps := 9999999) +contextual only [exa, ne_eq, not_false_eq_true, reduceAdd, reduceMul, reduceLT, reduceLeDiff, reduceEqDiff, Int.reduceLT, Int.reduceLE, Int.reduceEq, Int.reduceToNat, exR, H.a3, h1', h3, h4]
    exact qCE r t h H
   ·simp (maxSteps := 9999999) +contextual only [exa, ne_eq, not_false_eq_true, reduceAdd, reduceMul, reduceLT, reduceLeDiff, reduceEqDiff, Int.reduceLT, Int.reduceLE, Int.reduceEq, Int.reduceToNat, exR, H.a3, h1, h3]
    exact qCE r t h H
 | succ c ih =>
  intro i hi t h ev H
  rw [w12_4, b12_4]
  have ev' : evenT 1000 t := ⟨ev.1, by have := ev.2; omega⟩
  by_cases h1 : (i : Int) < (r.names.len : Int)
  ·have h2 : (i : Int) < 4 := by omega
   obtain ⟨n, hn, _, _⟩ := qAV (l := r.names.list) (i := i) (by show i < r.names.len; omega)
   have hnm : nmM r i = nameM n := by unfold nmM; rw [hn]
   obtain ⟨h', H', e'⟩ := qKl ns d k f ok r sm i (by omega) (nameM n) t ev' h H
   simp (maxSteps := 9999999) +contextual only [exa, ne_eq, not_false_eq_true, reduceAdd, reduceMul, reduceLT, reduceLeDiff, reduceEqDiff, Int.reduceLT, Int.reduceLE, Int.reduceEq, Int.reduceToNat, exR, H.a3, h1, h2, hn, u21]
   rw [e', recM, hnm]
   exact ih (i + 1) (by omega) _ h' (qEt _ _ _ _ ev) H'
  ·have h3 : i = 0 := by
    unfold cntM at hi
    split at hi
    ·split at hi <;> omega
    ·omega
   subst h3
   have h4 : k = 8 := by
    unfold cntM at hi
    split at hi
    ·split at hi
     ·assumption
     ·omega
    ·omega
   subst h4
   have hnm : nmM r 0 = [117] := by
    unfold nmM
    rw [List.getElem?_eq_none (by show r.names.len ≤ 0; omega)]
   obtain ⟨h', H', e'⟩ := qKl ns d 8 f ok r sm 0 (by omega) [117] t ev' h H
   have h1' : ¬ (0 : Int) < (r.names.len : Int) := h1
   have i0 : ((0 : Nat) : Int) = 0 := rfl
   rw [i0] at e' ⊢
   simp (maxSteps := 9999999) +contextual only [exa, ne_eq, not_false_eq_true, reduceAdd, reduceMul, reduceLT, reduceLeDiff, reduceEqDiff, Int.reduceLT, Int.reduceLE, Int.reduceEq, Int.reduceToNat, exR, H.a3, h1']
   rw [e', recM, hnm]
   exact ih 1 (by omega) _ h' (qEt _ _ _ _ ev) H'
theorem qCp (a : Int) : 1 ≤ 1 + withinM a 9 ∧ 1 + withinM a 9 ≤ 9 := by
 have := qAu a 9 (by decide); omega
theorem qDN (ns : Sl (List UInt8)) (hns : ns.len ≤ 1000) (d k : Int) (f : RW → TT) (r : RW) (sm : smR r) (hk : 1 ≤ k ∧ k ≤ 9) (h9 : k = 9 → 0 < ns.len) (ok : 4 ≤ k → k ≤ 8 → TreeOK ns (IntKind.i64.wrap (d - 1)) f) (h : Heap) (a3 : h.get (.own 3 1) = some (.cells (pcells r.row) 0)) (a6 : h.get (.own 6 1) = some (.cells z4 0)) (g8 : h.gen 8 = 0) :
  lim tab.get S 12 0 1 [kI d, .v (.c (.p (slP 1 sRow ns))), t3, t6, kI k] h = some (kA (treeK ns.list k r f).row, []) := by
 have H : TreeH r (.mk k [] .nil .nil) ((h.own 8 1 (.cells z4 0)).own 8 1 (.cells (pcells (TT.mk k [] .nil .nil).row) 0)) :=
  ⟨(Heap.own_get_ne _ 8 1 _ 3 1 (by decide)).trans ((Heap.own_get_ne _ 8 1 _ 3 1 (by decide)).trans a3), (Heap.own_get_ne _ 8 1 _ 6 1 (by decide)).trans ((Heap.own_get_ne _ 8 1 _ 6 1 (by decide)).trans a6), qBk _ 8 1 _ 0 (by decide)⟩
 have PZ : ∀ a b c d : Cell, put1 z4 0 [a, b, c, d] = [a, b, c, d] := fun _ _ _ _ => rfl
 rw [w12_1, b12_1]
 unfold treeK
 by_cases k9 : k = 9
 ·rw [if_pos k9]
  have hn := h9 k9
  have hw := qAu r.n (ns.len : Int) (by omega)
  have w0 : decide (0 ≤ withinM r.n (ns.len : Int)) = true := decide_eq_true hw.1
  obtain ⟨s, hs, _, _⟩ := qAV (l := ns.list) (i := (withinM r.n (ns.len : Int)).toNat) (by show _ < ns.len; omega)
  have hd : ns.list.getD (withinM r.n (ns.list.length : Int)).toNat [] = s := by
   rw [List.getD_eq_getElem?_getD]
   show (ns.list[(withinM r.n (ns.len : Int)).toNat]?).getD [] = s
   rw [hs]; rfl
  rw [hd]
  subst k9
  simp (maxSteps := 9999999) +contextual only [exa, ne_eq, not_false_eq_true, reduceAdd, reduceMul, reduceLT, reduceLeDiff, reduceEqDiff, Int.reduceLT, Int.reduceLE, Int.reduceEq, Int.reduceToNat, exR, a3, g8, PZ, u19 r.n (ns.len : Int) (by omega) (by omega), hs, w0]
  exact qCE r (.mk 9 s .nil .nil) _ (H.put (.mk 9 s .nil .nil))
 rw [if_neg k9]
 have one : ∀ (c : Int) (hc : k = c), (c = 4 ∨ c = 5 ∨ c = 6) → lim tab.get S 12 0 2 [kI d, .v (.c (.p (slP 1 sRow ns))), t3, t6, kI k, t8, kI k, kB true] ((h.own 8 1 (.cells z4 0)).own 8 1 (.cells (pcells (TT.mk k [] .nil .nil).row) 0)) = some (kA (if k = 6 ∧ (f (kidM r 0)).kind = 6 then f (kidM r 0) else .mk k [] .nil (.mk true [f (kidM r 0)])).row, []) := by
  intro c hc h456
  have ok' := ok (by omega) (by omega)
  have i0 : ((0 : Nat) : Int) = 0 := rfl
  have k27 : CAL 27 [kA r.row, kI 0] (kA (kidM r 0).row) := u27 r 0 sm
  have B : ∀ {β : Type} {O : Oracle} {h : Heap} {d : Nat} {k : TVal → Heap → Option β} (y : TT), vop O (.bslice 4 1 z4 [(0, .k (.v (.agg (pcells y.row))))] false) h d k = k (kSl 4 true [y.row]) h := fun {β O h d k} y => qDO 4 z4 _ rfl (TT.row_len y)
  have P3 : ∀ x : PVal, put1 (pcells (TT.mk k [] .nil .nil).row) 3 [.p x] = [.p (.int .i64 k), .p (.str []), .p .nilslice, .p x] := fun _ => rfl
  have z0 : ∀ y : TT, ([y.row] : List (List PVal))[(0 : Int).toNat]? = some y.row := fun _ => rfl
  rw [w12_2, b12_2]
  by_cases k6 : k = 6
  ·by_cases kk : (f (kidM r 0)).kind = 6
   ·rw [if_pos ⟨k6, kk⟩]
    subst k6
    simp (maxSteps := 9999999) +contextual only [exa, ne_eq, not_false_eq_true, reduceAdd, reduceMul, reduceLT, reduceLeDiff, reduceEqDiff, Int.reduceLT, Int.reduceLE, Int.reduceEq, Int.reduceToNat, exR, H.a3, H.a6, H.a8, k27, u12 ok' _ (qDj sm 0), B, P3, z0, kk, Int.toNat_zero, qA9 _ (TT.row_len _), TT.row_len, oneOf]
   ·rw [if_neg (fun e => kk e.2)]
    subst k6
    simp (maxSteps := 9999999) +contextual only [exa, ne_eq, not_false_eq_true, reduceAdd, reduceMul, reduceLT, reduceLeDiff, reduceEqDiff, Int.reduceLT, Int.reduceLE, Int.reduceEq, Int.reduceToNat, exR, H.a3, H.a6, H.a8, k27, u12 ok' _ (qDj sm 0), B, P3, z0, kk, Int.toNat_zero]
    exact qCE r (.mk 6 [] .nil (.mk true [f (kidM r 0)])) _ (H.put (.mk 6 [] .nil (.mk true [f (kidM r 0)])))
  ·rw [if_neg (fun e => k6 e.1)]
   simp (maxSteps := 9999999) +contextual only [exa, ne_eq, not_false_eq_true, reduceAdd, reduceMul, reduceLT, reduceLeDiff, reduceEqDiff, Int.reduceLT, Int.reduceLE, Int.reduceEq, Int.reduceToNat, exR, H.a3, H.a6, H.a8, k27, u12 ok' _ (qDj sm 0), B, P3, z0, k6, Int.toNat_zero]
   exact qCE r (.mk k [] .nil (.mk true [f (kidM r 0)])) _ (H.put (.mk k [] .nil (.mk true [f (kidM r 0)])))
 by_cases k4 : k = 4
 ·rw [if_pos (.inl k4)]
  have := one 4 k4 (by omega)
  subst k4
  simp (maxSteps := 9999999) +contextual only [exa, ne_eq, not_false_eq_true, reduceAdd, reduceMul, reduceLT, reduceLeDiff, reduceEqDiff, Int.reduceLT, Int.reduceLE, Int.reduceEq, Int.reduceToNat, exR, a3, g8, PZ]
  exact this
 by_cases k5 : k = 5
 ·rw [if_pos (.inr (.inl k5))]
  have := one 5 k5 (by omega)
  subst k5
  simp (maxSteps := 9999999) +contextual only [exa, ne_eq, not_false_eq_true, reduceAdd, reduceMul, reduceLT, reduceLeDiff, reduceEqDiff, Int.reduceLT, Int.reduceLE, Int.reduceEq, Int.reduceToNat, exR, a3, g8, PZ]
  exact this
 by_cases k6 : k = 6
 ·rw [if_pos (.inr (.inr k6))]
  have := one 6 k6 (by omega)
  subst k6
  generalize (if (6 : Int) = 6 ∧ (f (kidM r 0)).kind = 6 then f (kidM r 0) else TT.mk 6 [] .nil (.mk true [f (kidM r 0)])) = q at this ⊢
  simp (maxSteps := 9999999) +contextual only [exa, ne_eq, not_false_eq_true, reduceAdd, reduceMul, reduceLT, reduceLeDiff, reduceEqDiff, Int.reduceLT, Int.reduceLE, Int.reduceEq, Int.reduceToNat, exR, a3, g8, PZ]
  exact this
 rw [if_neg (by omega)]
 simp (maxSteps := 9999999) +contextual only [exa, ne_eq, not_false_eq_true, reduceAdd, reduceMul, reduceLT, reduceLeDiff, reduceEqDiff, Int.reduceLT, Int.reduceLE, Int.reduceEq, Int.reduceToNat, exR, a3, g8, PZ, k9, k4, k5, k6]
 rw [w12_2, b12_2]
 by_cases k7 : k = 7
 ·rw [if_pos (.inl k7)]
  have := qKm ns d k (.inl k7) f (ok (by omega) (by omega)) r sm (cntM r k) 0 (by omega) (.mk k [] .nil .nil) _ ⟨rfl, by show 0 ≤ _; omega⟩ H
  subst k7
  simp (maxSteps := 9999999) +contextual only [exa, ne_eq, not_false_eq_true, reduceAdd, reduceMul, reduceLT, reduceLeDiff, reduceEqDiff, Int.reduceLT, Int.reduceLE, Int.reduceEq, Int.reduceToNat, exR, a3]
  rw [w12_3, b12_3]
  simp (maxSteps := 9999999) +contextual only [exa, ne_eq, not_false_eq_true, reduceAdd, reduceMul, reduceLT, reduceLeDiff, reduceEqDiff, Int.reduceLT, Int.reduceLE, Int.reduceEq, Int.reduceToNat, exR, a3]
  exact this
 by_cases k8 : k = 8
 ·rw [if_pos (.inr k8)]
  have := qKm ns d k (.inr k8) f (ok (by omega) (by omega)) r sm (cntM r k) 0 (by omega) (.mk k [] .nil .nil) _ ⟨rfl, by show 0 ≤ _; omega⟩ H
  subst k8
  simp (maxSteps := 9999999) +contextual only [exa, ne_eq, not_false_eq_true, reduceAdd, reduceMul, reduceLT, reduceLeDiff, reduceEqDiff, Int.reduceLT, Int.reduceLE, Int.reduceEq, Int.reduceToNat, exR, a3]
  rw [w12_3, b12_3]
  simp (maxSteps := 9999999) +contextual only [exa, ne_eq, not_false_eq_true, reduceAdd, reduceMul, reduceLT, reduceLeDiff, reduceEqDiff, Int.reduceLT, Int.reduceLE, Int.reduceEq, Int.reduceToNat, exR, a3]
  exact this
 rw [if_neg (by omega)]
 simp (maxSteps := 9999999) +contextual only [exa, ne_eq, not_false_eq_true, reduceAdd, reduceMul, reduceLT, reduceLeDiff, reduceEqDiff, Int.reduceLT, Int.reduceLE, Int.reduceEq, Int.reduceToNat, exR, a3, k7, k8]
 rw [w12_3, b12_3]
 simp (maxSteps := 9999999) +contextual only [exa, ne_eq, not_false_eq_true, reduceAdd, reduceMul, reduceLT, reduceLeDiff, reduceEqDiff, Int.reduceLT, Int.reduceLE, Int.reduceEq, Int.reduceToNat, exR, a3]
 exact qCE r (.mk k [] .nil .nil) _ H
theorem qKi (ns : Sl (List UInt8)) (hns : ns.len ≤ 1000) (hn : 0 < ns.len) (d : Int) (f : RW → TT) (r : RW) (sm : smR r) (ok : 1 < d → TreeOK ns (IntKind.i64.wrap (d - 1)) f) : Om 12 [kA r.row, kI d, .v (.c (.p (slP 1 sRow ns)))] [] = some (kA (treeK ns.list (kindT r d) r f).row, []) := by
 refine (qAL rfl).trans ?_
 show lim tab.get S 12 0 0 [kA r.row, kI d, .v (.c (.p (slP 1 sRow ns)))] h0 = _
 rw [w12_0, b12_0]
 have hb := qCp r.kind
 have w : IntKind.i64.wrap (1 + withinM r.kind 9) = 1 + withinM r.kind 9 := qBg _ (by omega) (by omega)
 have n0 : ¬ ((ns.len : Nat) : Int) = 0 := by omega
 unfold kindT
 by_cases h9 : 1 + withinM r.kind 9 = 9
 ·rw [if_neg (by omega)]
  have q8 : ¬ ((9 : Int) ≤ 8) := by decide
  by_cases hd : 1 < d
  ·have hd' : ¬ d < 1 + 1 := by omega
   simp (maxSteps := 9999999) +contextual only [exa, ne_eq, not_false_eq_true, reduceAdd, reduceMul, reduceLT, reduceLeDiff, reduceEqDiff, Int.reduceLT, Int.reduceLE, Int.reduceEq, Int.reduceToNat, exR, u19 r.kind 9 (by decide) (by decide), w, h9, n0, hd]
   exact qDN ns hns d 9 f r sm (by omega) (fun _ => hn) (fun _ h => absurd h (by decide)) _ rfl rfl rfl
  ·simp (maxSteps := 9999999) +contextual only [exa, ne_eq, not_false_eq_true, reduceAdd, reduceMul, reduceLT, reduceLeDiff, reduceEqDiff, Int.reduceLT, Int.reduceLE, Int.reduceEq, Int.reduceToNat, exR, u19 r.kind 9 (by decide) (by decide), w, h9, n0, hd]
   exact qDN ns hns d 9 f r sm (by omega) (fun _ => hn) (fun _ h => absurd h (by decide)) _ rfl rfl rfl
 ·by_cases hd : 1 < d
  ·rw [if_neg (by omega)]
   simp (maxSteps := 9999999) +contextual only [exa, ne_eq, not_false_eq_true, reduceAdd, reduceMul, reduceLT, reduceLeDiff, reduceEqDiff, Int.reduceLT, Int.reduceLE, Int.reduceEq, Int.reduceToNat, exR, u19 r.kind 9 (by decide) (by decide), w, h9, n0, hd]
   exact qDN ns hns d _ f r sm hb (fun e => absurd e h9) (fun _ _ => ok hd) _ rfl rfl rfl
  ·by_cases h4 : 1 + withinM r.kind 9 < 4
   ·rw [if_neg (by omega)]
    simp (maxSteps := 9999999) +contextual only [exa, ne_eq, not_false_eq_true, reduceAdd, reduceMul, reduceLT, reduceLeDiff, reduceEqDiff, Int.reduceLT, Int.reduceLE, Int.reduceEq, Int.reduceToNat, exR, u19 r.kind 9 (by decide) (by decide), w, h9, n0, hd, h4]
    exact qDN ns hns d _ f r sm hb (fun e => absurd e h9) (fun h => absurd h (by omega)) _ rfl rfl rfl
   ·have h8 : ¬ (8 : Int) < 1 + withinM r.kind 9 := by omega
    rw [if_pos (by omega)]
    simp (maxSteps := 9999999) +contextual only [exa, ne_eq, not_false_eq_true, reduceAdd, reduceMul, reduceLT, reduceLeDiff, reduceEqDiff, Int.reduceLT, Int.reduceLE, Int.reduceEq, Int.reduceToNat, exR, u19 r.kind 9 (by decide) (by decide), w, h9, n0, hd, h4, h8]
    exact qDN ns hns d 2 f r sm (by omega) (fun e => absurd e (by decide)) (fun h => absurd h (by decide)) _ rfl rfl rfl
theorem qF5 (ns : Sl (List UInt8)) (hns : ns.len ≤ 1000) (hn : 0 < ns.len) : ∀ (d : Nat), d ≤ 1000 → TreeOK ns (d : Int) (treeM ns.list d)
 | 0, _ => fun r sm => qKi ns hns hn 0 _ r sm (fun h => absurd h (by decide))
 | d + 1, hd => fun r sm => by
  have e : (((d + 1 : Nat) : Int)) = (d : Int) + 1 := by omega
  rw [e]
  refine qKi ns hns hn ((d : Int) + 1) (treeM ns.list d) r sm (fun _ => ?_)
  rw [show (d : Int) + 1 - 1 = (d : Int) by omega, qBg _ (by omega) (by omega)]
  exact qF5 ns hns hn d (by omega)
open Go Go.AI
mutual
def smT : TT → Prop
 | .mk k n ns l => ns.len ≤ 1000 ∧ l.len ≤ 1000 ∧ smTS l
def smTS : Sl TT → Prop
 | .nil => True
 | .mk _ l => smTL l
def smTL : List TT → Prop
 | [] => True
 | r :: rs => smT r ∧ smTL rs
end
theorem qGR : ∀ l : List TT, smTL l ↔ ∀ x ∈ l, smT x
 | [] => by simp [smTL]
 | r :: l => by simp [smTL, qGR l]
theorem qCb (t : TT) : smT t ↔ t.names.len ≤ 1000 ∧ t.kids.len ≤ 1000 ∧ ∀ x ∈ t.kids.list, smT x := by
 cases t with
 | mk k n ns l =>
  rw [smT, ← qGR]
  cases l <;> simp [smTS, smTL, Sl.list, TT.kids, TT.names]
mutual
def sameT : TT → TT → Bool
 | .mk k n ns l, b => ((decide (k = b.kind) && decide (n = b.name)) && decide (ns.list = b.names.list)) && sameS l b.kids.list
def sameS : Sl TT → List TT → Bool
 | .nil, m => m.isEmpty
 | .mk _ l, m => sameL l m
def sameL : List TT → List TT → Bool
 | [], [] => true
 | a :: l, b :: m => sameT a b && sameL l m
 | _, _ => false
end
theorem qJL (l : Sl TT) (m : List TT) : sameS l m = sameL l.list m := by
 cases l with
 | nil => cases m <;> simp [sameS, sameL, Sl.list]
 | mk t l => simp [sameS, Sl.list]
theorem qB6 (a b : TT) : sameT a b = (((decide (a.kind = b.kind) && decide (a.name = b.name)) && decide (a.names.list = b.names.list)) && sameL a.kids.list b.kids.list) := by
 cases a with
 | mk k n ns l => rw [sameT, qJL]; rfl
theorem qEQ : ∀ (l m : List TT), l.length ≠ m.length → sameL l m = false
 | [], [], h => absurd rfl h
 | [], _ :: _, _ => by simp [sameL]
 | _ :: _, [], _ => by simp [sameL]
 | a :: l, b :: m, h => by
  rw [sameL, qEQ l m (fun e => h (by simp [e])), Bool.and_false]
abbrev ssP (s : Sl (List UInt8)) : TVal := .v (.c (.p (slP 1 sRow s)))
abbrev tsP (s : Sl TT) : TVal := .v (.c (.p (slP 4 TT.row s)))
theorem qIZ (a b : Sl (List UInt8)) (hab : a.len = b.len) (hl : a.len ≤ 1000) (h : Heap) : ∀ i : Nat, lim tab.get S 29 0 1 [ssP a, ssP b, kI (a.len : Int), kI (i : Int)] h = some (kB (decide (a.list.drop i = b.list.drop i)), []) := by
 refine qBc a.len (fun i hi => ?_) (fun i hi ihl => ?_) <;> rw [w29_1, b29_1]
 ·have h1 : ¬ (i : Int) < (a.len : Int) := by omega
  have e1 : a.list.drop i = [] := qAz hi
  have e2 : b.list.drop i = [] := qAz (by show b.len ≤ i; omega)
  rw [e1, e2]
  simp (maxSteps := 9999999) +contextual only [exa, ne_eq, not_false_eq_true, reduceAdd, reduceMul, reduceLT, reduceLeDiff, reduceEqDiff, Int.reduceLT, Int.reduceLE, Int.reduceEq, Int.reduceToNat, h1, oneOf]
 ·have h1 : (i : Int) < (a.len : Int) := by omega
  obtain ⟨x, hx, dx, _⟩ := qAV (l := a.list) (i := i) hi
  obtain ⟨y, hy, dy, _⟩ := qAV (l := b.list) (i := i) (by show i < b.len; omega)
  rw [dx, dy]
  by_cases hxy : x = y
  ·have e : decide (x :: a.list.drop (i + 1) = y :: b.list.drop (i + 1)) = decide (a.list.drop (i + 1) = b.list.drop (i + 1)) := by rw [hxy]; simp
   rw [e]
   simp (maxSteps := 9999999) +contextual only [exa, ne_eq, not_false_eq_true, reduceAdd, reduceMul, reduceLT, reduceLeDiff, reduceEqDiff, Int.reduceLT, Int.reduceLE, Int.reduceEq, Int.reduceToNat, h1, hx, hy, hxy, qBq i (by omega), ihl]
  ·have e : decide (x :: a.list.drop (i + 1) = y :: b.list.drop (i + 1)) = false := decide_eq_false (fun e => hxy (List.cons.inj e).1)
   rw [e]
   simp (maxSteps := 9999999) +contextual only [exa, ne_eq, not_false_eq_true, reduceAdd, reduceMul, reduceLT, reduceLeDiff, reduceEqDiff, Int.reduceLT, Int.reduceLE, Int.reduceEq, Int.reduceToNat, h1, hx, hy, hxy, oneOf]
theorem eq29 (a b : Sl (List UInt8)) (ha : a.len ≤ 1000) (hb : b.len ≤ 1000) : Om 29 [ssP a, ssP b] [] = some (kB (decide (a.list = b.list)), []) := by
 refine (qAL rfl).trans ?_
 show lim tab.get S 29 0 0 [ssP a, ssP b] h0 = _
 rw [w29_0, b29_0]
 by_cases hab : a.len = b.len
 ·have h1 : ((a.len : Nat) : Int) = (b.len : Int) := by omega
  simp (maxSteps := 9999999) +contextual only [exa, ne_eq, not_false_eq_true, reduceAdd, reduceMul, reduceLT, reduceLeDiff, reduceEqDiff, Int.reduceLT, Int.reduceLE, Int.reduceEq, Int.reduceToNat, h1]
  have := qIZ a b hab ha h0 0
  rw [List.drop_zero, List.drop_zero, h1] at this
  exact this
 ·have h1 : ¬ ((a.len : Nat) : Int) = (b.len : Int) := by omega
  have e : decide (a.list = b.list) = false := decide_eq_false (fun e => hab (by unfold Sl.len; rw [e]))
  rw [e]
  simp (maxSteps := 9999999) +contextual only [exa, ne_eq, not_false_eq_true, reduceAdd, reduceMul, reduceLT, reduceLeDiff, reduceEqDiff, Int.reduceLT, Int.reduceLE, Int.reduceEq, Int.reduceToNat, h1, oneOf]
theorem u29 {β : Type} {k : TVal → Heap → Option β} {h : Heap} {d : Nat} (a b : Sl (List UInt8)) (ha : a.len ≤ 1000) (hb : b.len ≤ 1000) : vcall Om (.v (.c (.func 29 []))) [ssP a, ssP b] h d k = k (kB (decide (a.list = b.list))) h := qAJ 29 _ _ rfl (eq29 a b ha hb) rfl
def SameOK (a b : TT) : Prop := Om 13 [kA a.row, kA b.row] [] = some (kB (sameT a b), [])
abbrev f13 : TVal := .v (.c (.func 13 []))
theorem qHo (a b : Sl TT) (hab : a.len = b.len) (hl : a.len ≤ 1000) (ok : ∀ x ∈ a.list, ∀ y ∈ b.list, SameOK x y) : ∀ (i : Nat) (h : Heap), lim tab.get S 30 0 1 [tsP b, f13, tsP a, kI (a.len : Int), kI (i : Int)] h = some (kB (sameL (a.list.drop i) (b.list.drop i)), []) := by
 refine qBc a.len (fun i hi h => ?_) (fun i hi ihl h => ?_) <;> rw [w30_1, b30_1]
 ·have h1 : ¬ (i : Int) < (a.len : Int) := by omega
  have e1 : a.list.drop i = [] := qAz hi
  have e2 : b.list.drop i = [] := qAz (by show b.len ≤ i; omega)
  rw [e1, e2]
  simp (maxSteps := 9999999) +contextual only [exa, ne_eq, not_false_eq_true, reduceAdd, reduceMul, reduceLT, reduceLeDiff, reduceEqDiff, Int.reduceLT, Int.reduceLE, Int.reduceEq, Int.reduceToNat, h1, oneOf, sameL]
 ·have h1 : (i : Int) < (a.len : Int) := by omega
  obtain ⟨x, hx, dx, mx⟩ := qAV (l := a.list) (i := i) hi
  obtain ⟨y, hy, dy, my⟩ := qAV (l := b.list) (i := i) (by show i < b.len; omega)
  rw [dx, dy, sameL]
  have cc : CAL 13 [kA x.row, kA y.row] (kB (sameT x y)) := qAJ 13 _ _ (by simp only [exP]) (ok x mx y my) rfl
  cases hs : sameT x y
  ·simp (maxSteps := 9999999) +contextual only [exa, ne_eq, not_false_eq_true, reduceAdd, reduceMul, reduceLT, reduceLeDiff, reduceEqDiff, Int.reduceLT, Int.reduceLE, Int.reduceEq, Int.reduceToNat, exR, h1, hx, hy, cc, hs, qA9 _ (TT.row_len _), oneOf]
  ·simp (maxSteps := 9999999) +contextual only [exa, ne_eq, not_false_eq_true, reduceAdd, reduceMul, reduceLT, reduceLeDiff, reduceEqDiff, Int.reduceLT, Int.reduceLE, Int.reduceEq, Int.reduceToNat, exR, h1, hx, hy, cc, hs, qA9 _ (TT.row_len _), qBq i (by omega), ihl]
theorem eq30 (a b : Sl TT) (ha : a.len ≤ 1000) (hb : b.len ≤ 1000) (ok : ∀ x ∈ a.list, ∀ y ∈ b.list, SameOK x y) : Om 30 [tsP a, tsP b, f13] [] = some (kB (sameL a.list b.list), []) := by
 refine (qAL rfl).trans ?_
 show lim tab.get S 30 0 0 [tsP a, tsP b, f13] h0 = _
 rw [w30_0, b30_0]
 by_cases hab : a.len = b.len
 ·have h1 : ((a.len : Nat) : Int) = (b.len : Int) := by omega
  simp (maxSteps := 9999999) +contextual only [exa, ne_eq, not_false_eq_true, reduceAdd, reduceMul, reduceLT, reduceLeDiff, reduceEqDiff, Int.reduceLT, Int.reduceLE, Int.reduceEq, Int.reduceToNat, h1]
  have := qHo a b hab ha ok 0 h0
  rw [List.drop_zero, List.drop_zero, h1] at this
  exact this
 ·have h1 : ¬ ((a.len : Nat) : Int) = (b.len : Int) := by omega
  rw [qEQ _ _ (fun e => hab e)]
  simp (maxSteps := 9999999) +contextual only [exa, ne_eq, not_false_eq_true, reduceAdd, reduceMul, reduceLT, reduceLeDiff, reduceEqDiff, Int.reduceLT, Int.reduceLE, Int.reduceEq, Int.reduceToNat, h1, oneOf]
theorem qKz : ∀ (n : Nat) (a b : TT), SizeOf.sizeOf a < n → smT a → smT b → SameOK a b := by
 intro n
 induction n with
 | zero => intro a b h; omega
 | succ n ih =>
  intro a b hs sa sb
  obtain ⟨a1, a2, a3⟩ := (qCb a).1 sa
  obtain ⟨b1, b2, b3⟩ := (qCb b).1 sb
  have ok : ∀ x ∈ a.kids.list, ∀ y ∈ b.kids.list, SameOK x y := fun x hx y hy => ih x y (by have := TT.mem_size hx; omega) (a3 x hx) (b3 y hy)
  have c30 : CAL 30 [tsP a.kids, tsP b.kids, .v (.c (.func 13 []))] (kB (sameL a.kids.list b.kids.list)) := fun {β k h d} =>
   qKn 30 [tsP a.kids, tsP b.kids] [] 13 (kB (sameL a.kids.list b.kids.list)) rfl rfl rfl (eq30 a.kids b.kids a2 b2 ok)
  refine (qAL rfl).trans ?_
  show lim tab.get S 13 0 0 [kA a.row, kA b.row] h0 = _
  rw [w13_0, b13_0, qB6]
  by_cases h1 : a.kind = b.kind
  ·by_cases h2 : a.name = b.name
   ·cases h3 : decide (a.names.list = b.names.list)
    ·simp (maxSteps := 9999999) +contextual only [exa, ne_eq, not_false_eq_true, reduceAdd, reduceMul, reduceLT, reduceLeDiff, reduceEqDiff, Int.reduceLT, Int.reduceLE, Int.reduceEq, Int.reduceToNat, h1, h2, u29 _ _ a1 b1, h3, oneOf]
    ·simp (maxSteps := 9999999) +contextual only [exa, ne_eq, not_false_eq_true, reduceAdd, reduceMul, reduceLT, reduceLeDiff, reduceEqDiff, Int.reduceLT, Int.reduceLE, Int.reduceEq, Int.reduceToNat, h1, h2, u29 _ _ a1 b1, h3, c30, oneOf]
   ·simp (maxSteps := 9999999) +contextual only [exa, ne_eq, not_false_eq_true, reduceAdd, reduceMul, reduceLT, reduceLeDiff, reduceEqDiff, Int.reduceLT, Int.reduceLE, Int.reduceEq, Int.reduceToNat, h1, h2, oneOf]
  ·simp (maxSteps := 9999999) +contextual only [exa, ne_eq, not_false_eq_true, reduceAdd, reduceMul, reduceLT, reduceLeDiff, reduceEqDiff, Int.reduceLT, Int.reduceLE, Int.reduceEq, Int.reduceToNat, h1, oneOf]
open Go Go.AI
def sepC : List UInt8 := [44, 32]
def colC : List UInt8 := [58, 32]
def wordM (k : Int) : List UInt8 := if k = 1 then [66, 111, 111, 108] else if k = 2 then [73, 110, 116] else if k = 3 then [84, 101, 120, 116] else if k = 4 then [76, 105, 115, 116] else if k = 5 then [77, 97, 112] else if k = 6 then [79, 112, 116] else if k = 8 then [85, 110, 105, 111, 110] else []
mutual
def txtM : TT → List UInt8
 | .mk k n ns l => if k = 9 then n else if k = 7 then [123] ++ Lib.join (fldS ns.list l) sepC ++ [125] else if k = 8 then [85, 110, 105, 111, 110, 32] ++ ([123] ++ Lib.join (fldS ns.list l) sepC ++ [125]) else wordM k ++ angS l
def fldS : List (List UInt8) → Sl TT → List (List UInt8)
 | _, .nil => []
 | ns, .mk _ l => fldL ns l
def fldL : List (List UInt8) → List TT → List (List UInt8)
 | n :: ns, t :: l => (n ++ colC ++ txtM t) :: fldL ns l
 | _, _ => []
def angS : Sl TT → List UInt8
 | .nil => []
 | .mk _ l => angL l
def angL : List TT → List UInt8
 | [] => []
 | t :: l => [60] ++ txtM t ++ [62] ++ angL l
end
theorem qLA (ns : List (List UInt8)) (l : Sl TT) : fldS ns l = fldL ns l.list := by
 cases l with
 | nil => cases ns <;> simp [fldS, fldL, Sl.list]
 | mk t l => simp [fldS, Sl.list]
theorem qLK (l : Sl TT) : angS l = angL l.list := by cases l <;> simp [angS, angL, Sl.list]
def brM (t : TT) : List UInt8 := [123] ++ Lib.join (fldL t.names.list t.kids.list) sepC ++ [125]
theorem qAv (t : TT) : txtM t = if t.kind = 9 then t.name else if t.kind = 7 then brM t else if t.kind = 8 then [85, 110, 105, 111, 110, 32] ++ brM t else wordM t.kind ++ angL t.kids.list := by
 cases t with
 | mk k n ns l => rw [txtM, qLA, qLK]; rfl
theorem qAs (l : List TT) : fldL [] l = [] := by cases l <;> simp [fldL]
theorem qCL (ns : List (List UInt8)) : fldL ns [] = [] := by cases ns <;> simp [fldL]
theorem qD1 : ∀ (r : List (List UInt8)) (x : List UInt8), x ∈ r → x.length ≤ (Lib.joinTail sepC r).length
 | y :: r, x, h => by
  have e : Lib.joinTail sepC (y :: r) = (sepC ++ y) ++ Lib.joinTail sepC r := by simp [Lib.joinTail]
  rw [e, List.length_append, List.length_append]
  rcases List.mem_cons.1 h with rfl | h
  ·omega
  ·have := qD1 r x h; omega
theorem qKS (l : List (List UInt8)) (x : List UInt8) (h : x ∈ l) : x.length ≤ (Lib.join l sepC).length := by
 cases l with
 | nil => cases h
 | cons y r =>
  rw [Lib.join_cons, List.length_append]
  rcases List.mem_cons.1 h with rfl | h
  ·omega
  ·have := qD1 r x h; omega
theorem qFI : ∀ (ns : List (List UInt8)) (l : List TT) (i : Nat) (n : List UInt8) (t : TT), ns[i]? = some n → l[i]? = some t → (n ++ colC ++ txtM t) ∈ fldL ns l
 | a :: ns, b :: l, 0, n, t, h1, h2 => by
  obtain rfl : a = n := by simpa using h1
  obtain rfl : b = t := by simpa using h2
  rw [fldL]; exact List.mem_cons_self
 | a :: ns, b :: l, i + 1, n, t, h1, h2 => by
  rw [fldL]
  exact List.mem_cons_of_mem _ (qFI ns l i n t (by simpa using h1) (by simpa using h2))
 | [], _, i, n, t, h1, _ => by simp at h1
 | _ :: _, [], i, n, t, _, h2 => by simp at h2
theorem qFA : ∀ (ns : List (List UInt8)) (l : List TT), (fldL ns l).length ≤ l.length
 | [], l => by rw [qAs]; exact Nat.zero_le _
 | _ :: _, [] => by rw [qCL]; exact Nat.le_refl _
 | a :: ns, b :: l => by rw [fldL, List.length_cons, List.length_cons]; have := qFA ns l; omega
theorem qIy (k : Int) (hk : k ≠ 7 ∧ k ≠ 9 ∨ True) : Om 32 [kI k] [] = some (kS (wordM k), []) := by
 refine (qAL rfl).trans ?_
 show lim tab.get S 32 0 0 [kI k] h0 = _
 rw [w32_0, b32_0]
 unfold wordM
 by_cases h1 : k = 1
 ·rw [if_pos h1]; simp (maxSteps := 9999999) +contextual only [exa, ne_eq, not_false_eq_true, reduceAdd, reduceMul, reduceLT, reduceLeDiff, reduceEqDiff, Int.reduceLT, Int.reduceLE, Int.reduceEq, Int.reduceToNat, h1, oneOf]
 rw [if_neg h1]
 by_cases h2 : k = 2
 ·rw [if_pos h2]; simp (maxSteps := 9999999) +contextual only [exa, ne_eq, not_false_eq_true, reduceAdd, reduceMul, reduceLT, reduceLeDiff, reduceEqDiff, Int.reduceLT, Int.reduceLE, Int.reduceEq, Int.reduceToNat, h2, oneOf]
 rw [if_neg h2]
 by_cases h3 : k = 3
 ·rw [if_pos h3]; simp (maxSteps := 9999999) +contextual only [exa, ne_eq, not_false_eq_true, reduceAdd, reduceMul, reduceLT, reduceLeDiff, reduceEqDiff, Int.reduceLT, Int.reduceLE, Int.reduceEq, Int.reduceToNat, h3, oneOf]
 rw [if_neg h3]
 by_cases h4 : k = 4
 ·rw [if_pos h4]; simp (maxSteps := 9999999) +contextual only [exa, ne_eq, not_false_eq_true, reduceAdd, reduceMul, reduceLT, reduceLeDiff, reduceEqDiff, Int.reduceLT, Int.reduceLE, Int.reduceEq, Int.reduceToNat, h4, oneOf]
 rw [if_neg h4]
 by_cases h5 : k = 5
 ·rw [if_pos h5]; simp (maxSteps := 9999999) +contextual only [exa, ne_eq, not_false_eq_true, reduceAdd, reduceMul, reduceLT, reduceLeDiff, reduceEqDiff, Int.reduceLT, Int.reduceLE, Int.reduceEq, Int.reduceToNat, h5, oneOf]
 rw [if_neg h5]
 by_cases h6 : k = 6
 ·rw [if_pos h6]; simp (maxSteps := 9999999) +contextual only [exa, ne_eq, not_false_eq_true, reduceAdd, reduceMul, reduceLT, reduceLeDiff, reduceEqDiff, Int.reduceLT, Int.reduceLE, Int.reduceEq, Int.reduceToNat, h6, oneOf]
 rw [if_neg h6]
 by_cases h8 : k = 8
 ·rw [if_pos h8]; simp (maxSteps := 9999999) +contextual only [exa, ne_eq, not_false_eq_true, reduceAdd, reduceMul, reduceLT, reduceLeDiff, reduceEqDiff, Int.reduceLT, Int.reduceLE, Int.reduceEq, Int.reduceToNat, h8, oneOf]
 rw [if_neg h8]
 simp (maxSteps := 9999999) +contextual only [exa, ne_eq, not_false_eq_true, reduceAdd, reduceMul, reduceLT, reduceLeDiff, reduceEqDiff, Int.reduceLT, Int.reduceLE, Int.reduceEq, Int.reduceToNat, h1, h2, h3, h4, h5, h6, h8, oneOf]
theorem u32 {β : Type} {k : TVal → Heap → Option β} {h : Heap} {d : Nat} (a : Int) : vcall Om (.v (.c (.func 32 []))) [kI a] h d k = k (kS (wordM a)) h := qAJ 32 _ _ rfl (qIy a (.inr trivial)) rfl
theorem y32 {β : Type} {kt : TVal → Heap → AI.Touch → Option β} {h : Heap} {d : Nat} (a : Int) : vtouch Om (.call (.k (.v (.c (.func 32 [])))) [.k (kI a)]) h d kt = kt (kS (wordM a)) h noTouch := qBL 32 [kI a] _ rfl (qIy a (.inr trivial)) rfl
theorem qCn : ∀ xs : List (List UInt8), strRows (xs.map sRow) = some xs
 | [] => rfl
 | x :: xs => by
  show (bnd (strRow (sRow x)) fun s => bnd (strRows (xs.map sRow)) fun t => some (s :: t)) = _
  rw [qCn xs]; rfl
theorem qMO (xs : List (List UInt8)) (sep : List UInt8) (h1 : (Lib.join xs sep).length ≤ 140737488355328) (h2 : xs.length ≤ 140737488355328) : Om 53 [.v (.c (.p (growP 1 (xs.map sRow)))), kS sep] [] = some (kS (Lib.join xs sep), []) := by
 have e : S 53 [.v (.c (.p (growP 1 (xs.map sRow)))), kS sep] [] = some (kS (Lib.join xs sep), []) := by
  show (match (none : Option (TVal × List AObj)) with | some r => some r | none => joinP (growP 1 (xs.map sRow)) sep) = _
  cases xs with
  | nil => rfl
  | cons x xs =>
   show bnd (strRows ((x :: xs).map sRow)) (fun ys => joinO ys sep) = _
   rw [qCn]
   show (bif Nat.ble (lenF (Lib.join (x :: xs) sep)) 140737488355328 && Nat.ble (lenF (x :: xs)) 140737488355328 then _ else none) = _
   rw [qAF, qAF, show Nat.ble (Lib.join (x :: xs) sep).length 140737488355328 = true from Nat.ble_eq_true_of_le h1, show Nat.ble (x :: xs).length 140737488355328 = true from Nat.ble_eq_true_of_le h2]; rfl
 show Option.rec (motive := fun _ => Res1) _ some (S 53 _ []) = _
 rw [e]
def TextOK (t : TT) : Prop := Om 14 [kA t.row] [] = some (kS (txtM t), [])
abbrev q1 : TVal := .v (.c (.ptr (.own 1 1) 0))
theorem qJs (w : List UInt8) (l : Sl TT) (hl : l.len ≤ 1000) (ok : ∀ x ∈ l.list, TextOK x) : ∀ (i : Nat) (acc : List UInt8) (h : Heap), (acc ++ angL (l.list.drop i)).length ≤ 1000000000 → lim tab.get S 14 0 1 [kS acc, tsP l, kI (l.len : Int), kI (i : Int)] h = some (kS (acc ++ angL (l.list.drop i)), []) := by
 refine qBc l.len (fun i hi acc h hs => ?_) (fun i hi ihl acc h hs => ?_) <;> rw [w14_1, b14_1]
 ·have h1 : ¬ (i : Int) < (l.len : Int) := by omega
  have e1 : l.list.drop i = [] := qAz hi
  rw [e1]
  simp (maxSteps := 9999999) +contextual only [exa, ne_eq, not_false_eq_true, reduceAdd, reduceMul, reduceLT, reduceLeDiff, reduceEqDiff, Int.reduceLT, Int.reduceLE, Int.reduceEq, Int.reduceToNat, h1, oneOf, angL, List.append_nil]
 ·have h1 : (i : Int) < (l.len : Int) := by omega
  obtain ⟨x, hx, dx, mx⟩ := qAV (l := l.list) (i := i) hi
  rw [dx, angL] at hs ⊢
  have cc : CAL 14 [kA x.row] (kS (txtM x)) := qAJ 14 _ _ (by simp only [exP]) (ok x mx) rfl
  have hs' := hs
  simp only [List.length_append, List.length_cons, List.length_nil] at hs'
  have s1 : ([60] : List UInt8).length + (txtM x).length ≤ 4611686018427387904 := by simp; omega
  have s2 : ([60] ++ txtM x).length + ([62] : List UInt8).length ≤ 4611686018427387904 := by simp; omega
  have s3 : acc.length + ([60] ++ txtM x ++ [62]).length ≤ 4611686018427387904 := by simp; omega
  have D1 : decide (([60] : List UInt8).length + (txtM x).length ≤ 4611686018427387904) = true := decide_eq_true s1
  have D2 : decide (([60] ++ txtM x).length + ([62] : List UInt8).length ≤ 4611686018427387904) = true := decide_eq_true s2
  have D3 : decide (acc.length + ([60] ++ txtM x ++ [62]).length ≤ 4611686018427387904) = true := decide_eq_true s3
  have A1 : ∀ {β : Type} {h : Heap} {k : TVal → Heap → Option β}, vbin .add 0 (kS [60]) (kS (txtM x)) h k = k (kS ([60] ++ txtM x)) h := fun {β h k} => qAd 0 _ _ s1
  have A2 : ∀ {β : Type} {h : Heap} {k : TVal → Heap → Option β}, vbin .add 0 (kS ([60] ++ txtM x)) (kS [62]) h k = k (kS ([60] ++ txtM x ++ [62])) h := fun {β h k} => qAd 0 _ _ s2
  have A3 : ∀ {β : Type} {h : Heap} {k : TVal → Heap → Option β}, vbin .add 0 (kS acc) (kS ([60] ++ txtM x ++ [62])) h k = k (kS (acc ++ ([60] ++ txtM x ++ [62]))) h := fun {β h k} => qAd 0 _ _ s3
  have := ihl (acc ++ ([60] ++ txtM x ++ [62])) ((h.own 5 (h.gen 5 + 1) (.cells z4 0)).own 5 (h.gen 5 + 1) (.cells (pcells x.row) 0)) (by simp only [List.append_assoc] at hs ⊢; exact hs)
  simp only [List.append_assoc] at this
  simp (maxSteps := 9999999) +contextual only [h1, hx, cc, A1, A2, A3, qBq i (by omega), qA9 _ (TT.row_len _), exa, ne_eq, not_false_eq_true, reduceAdd, reduceMul, reduceLT, reduceLeDiff, reduceEqDiff, Int.reduceLT, Int.reduceLE, Int.reduceEq, Int.reduceToNat]
  simp only [List.append_assoc]
  exact this
open Go Go.AI
theorem y14 {β : Type} {kt : TVal → Heap → AI.Touch → Option β} {h : Heap} {d : Nat} {x : TT} (ok : TextOK x) : vtouch Om (.call (.k (.v (.c (.func 14 [])))) [.k (kA x.row)]) h d kt = kt (kS (txtM x)) h noTouch :=
 qBL 14 [kA x.row] _ (by simp only [exP]) ok (by simp only [exP])
theorem qGz (xs : List (List UInt8)) (c : Cell) (G : Bears 1 c (xs.map sRow)) (h : Heap) (hs : ([123] ++ Lib.join xs sepC ++ [125]).length ≤ 1000000000) (hn : xs.length ≤ 1000) : lim tab.get S 31 0 3 [.v (.c c)] h = some (kS ([123] ++ Lib.join xs sepC ++ [125]), []) := by
 simp only [List.length_append, List.length_cons, List.length_nil] at hs
 have cj : CAL 53 [.v (.c c), kS [44, 32]] (kS (Lib.join xs sepC)) := fun {β k h d} =>
  (G.call1 53 [kS [44, 32]]).trans (qAJ 53 _ _ rfl (qMO xs sepC (by omega) (by omega)) rfl)
 have s1 : ([123] : List UInt8).length + (Lib.join xs sepC).length ≤ 4611686018427387904 := by simp; omega
 have s2 : ([123] ++ Lib.join xs sepC).length + ([125] : List UInt8).length ≤ 4611686018427387904 := by simp; omega
 have A1 : ∀ {β : Type} {h : Heap} {k : TVal → Heap → Option β}, vbin .add 0 (kS [123]) (kS (Lib.join xs sepC)) h k = k (kS ([123] ++ Lib.join xs sepC)) h := fun {β h k} => qAd 0 _ _ s1
 have A2 : ∀ {β : Type} {h : Heap} {k : TVal → Heap → Option β}, vbin .add 0 (kS ([123] ++ Lib.join xs sepC)) (kS [125]) h k = k (kS ([123] ++ Lib.join xs sepC ++ [125])) h := fun {β h k} => qAd 0 _ _ s2
 rw [w31_3, b31_3]
 simp only [cj, A1, A2, qGL, qIh]
structure FldH (t : TT) (h : Heap) : Prop where
 a1 : h.get (.own 1 1) = some (.cells (pcells t.row) 0)
theorem qF0 (t : TT) (sm : smT t) (ok : ∀ x ∈ t.kids.list, TextOK x) (hs : (brM t).length ≤ 1000000000) :
  ∀ (i : Nat) (acc : List (List UInt8)) (c : Cell) (h : Heap), acc.length ≤ i → acc ++ fldL (t.names.list.drop i) (t.kids.list.drop i) = fldL t.names.list t.kids.list → GS [30] 1 c (acc.map sRow) h → (acc = [] → c = .p .nilslice) → (acc ≠ [] → ∃ r, c = .tsl 1 (acc.map sRow) r) → FldH t h →
   lim tab.get S 31 0 1 [q1, .v (.c c), tsP t.kids, kI (t.kids.len : Int), kI (i : Int)] h = some (kS (brM t), []) := by
 obtain ⟨s1, s2, _⟩ := (qCb t).1 sm
 have bears : ∀ (acc : List (List UInt8)) (c : Cell), (acc = [] → c = .p .nilslice) → (acc ≠ [] → ∃ r, c = .tsl 1 (acc.map sRow) r) → Bears 1 c (acc.map sRow) := by
  intro acc c h1 h2
  by_cases h : acc = []
  ·exact .inl ⟨by rw [h]; rfl, h1 h⟩
  ·exact .inr ⟨by simpa using h, h2 h⟩
 have fin : ∀ (acc : List (List UInt8)) (c : Cell) (h : Heap), acc = fldL t.names.list t.kids.list → Bears 1 c (acc.map sRow) → lim tab.get S 31 0 3 [.v (.c c)] h = some (kS (brM t), []) := by
  intro acc c h e G
  have := qGz acc c G h (by rw [e]; exact hs) (by rw [e]; have := qFA t.names.list t.kids.list; have : t.kids.list.length ≤ 1000 := s2; omega)
  rw [this, e]; rfl
 refine qBc t.kids.len (fun i hi acc c h hl he G c0 c1 H => ?_) (fun i hi ihl acc c h hl he G c0 c1 H => ?_) <;> rw [w31_1, b31_1]
 ·have h1 : ¬ (i : Int) < (t.kids.len : Int) := by omega
  have e1 : t.kids.list.drop i = [] := qAz hi
  rw [e1, qCL, List.append_nil] at he
  simp (maxSteps := 9999999) +contextual only [exa, ne_eq, not_false_eq_true, reduceAdd, reduceMul, reduceLT, reduceLeDiff, reduceEqDiff, Int.reduceLT, Int.reduceLE, Int.reduceEq, Int.reduceToNat, h1]
  exact fin acc c h he (bears acc c c0 c1)
 ·have h1 : (i : Int) < (t.kids.len : Int) := by omega
  obtain ⟨x, hx, dx, mx⟩ := qAV (l := t.kids.list) (i := i) hi
  have P4 := qA9 _ (TT.row_len x)
  by_cases h2 : (i : Int) < (t.names.len : Int)
  ·obtain ⟨n, hn, dn, mn⟩ := qAV (l := t.names.list) (i := i) (by show i < t.names.len; omega)
   rw [dx, dn, fldL] at he
   have hm : (n ++ colC ++ txtM x) ∈ fldL t.names.list t.kids.list := qFI _ _ i n x hn hx
   have hj := qKS _ _ hm
   have hs2 : (n ++ colC ++ txtM x).length ≤ 1000000000 := by
    unfold brM at hs
    simp only [List.length_append, List.length_cons, List.length_nil] at hs hj ⊢
    omega
   have hs3 := hs2
   simp only [List.length_append] at hs3
   have a1 : n.length + ([58, 32] : List UInt8).length ≤ 4611686018427387904 := by simp; omega
   have a2 : (n ++ [58, 32]).length + (txtM x).length ≤ 4611686018427387904 := by simp; omega
   have A1 : ∀ {β : Type} {h : Heap} {k : TVal → Heap → Option β}, vbin .add 0 (kS n) (kS [58, 32]) h k = k (kS (n ++ [58, 32])) h := fun {β h k} => qAd 0 _ _ a1
   have A2 : ∀ {β : Type} {h : Heap} {k : TVal → Heap → Option β}, vbin .add 0 (kS (n ++ [58, 32])) (kS (txtM x)) h k = k (kS (n ++ [58, 32] ++ txtM x)) h := fun {β h k} => qAd 0 _ _ a2
   have H5 : FldH t ((h.own 5 (h.gen 5 + 1) (.cells z4 0)).own 5 (h.gen 5 + 1) (.cells (pcells x.row) 0)) := ⟨(Heap.own_get_ne _ 5 _ _ 1 1 (by decide)).trans ((Heap.own_get_ne _ 5 _ _ 1 1 (by decide)).trans H.a1)⟩
   have g5 : ((h.own 5 (h.gen 5 + 1) (.cells z4 0)).own 5 (h.gen 5 + 1) (.cells (pcells x.row) 0)).get (.own 5 (h.gen 5 + 1)) = some (.cells (pcells x.row) 0) := qBk _ 5 _ _ 0 (by decide)
   have G5 : GS [30] 1 c (acc.map sRow) ((h.own 5 (h.gen 5 + 1) (.cells z4 0)).own 5 (h.gen 5 + 1) (.cells (pcells x.row) 0)) := (G.own _ _ (by decide)).own _ _ (by decide)
   have B : ∀ {β : Type} {O : Oracle} {h : Heap} {d : Nat} {kt : TVal → Heap → AI.Touch → Option β}, vtouch O (.bslice 1 1 [.p (.str [])] [(0, .k (kS (n ++ [58, 32] ++ txtM x)))] false) h d kt = kt (kSl 1 true [[.str (n ++ [58, 32] ++ txtM x)]]) h noTouch := qEE _ _ rfl
   obtain ⟨c', h', t', G', e', T', K', I', X'⟩ := qB3 (d := 30) (by' := 16) (new := [[.str (n ++ [58, 32] ++ txtM x)]]) (b := .slice 1 true [[.str (n ++ [58, 32] ++ txtM x)]]) (.inr ⟨_, rfl⟩) G5 (by decide) (fun r hr => by simp at hr; rw [hr]; rfl) (by simp; omega) (by decide)
   have H' : FldH t h' := ⟨K' 1 1 _ (by decide) H5.a1⟩
   simp (maxSteps := 9999999) +contextual only [A1, A2, exa, ne_eq, not_false_eq_true, reduceAdd, reduceMul, reduceLT, reduceLeDiff, reduceEqDiff, Int.reduceLT, Int.reduceLE, Int.reduceEq, Int.reduceToNat, exY, h1, h2, hx, hn, P4, H.a1, H5.a1, g5, y14 (ok x mx), B, e']
   rw [w31_2, b31_2]
   simp (maxSteps := 9999999) +contextual only [exa, ne_eq, not_false_eq_true, reduceAdd, reduceMul, reduceLT, reduceLeDiff, reduceEqDiff, Int.reduceLT, Int.reduceLE, Int.reduceEq, Int.reduceToNat, qBq i (by omega)]
   refine ihl (acc ++ [n ++ [58, 32] ++ txtM x]) c' h' (by simp; omega) (by rw [List.append_assoc]; exact he) (by rw [List.map_append]; exact G') (fun e => absurd e (by simp)) (fun _ => ?_) H'
   obtain ⟨r, e⟩ := X' (.inl (by simp))
   exact ⟨r, by rw [e, List.map_append]; rfl⟩
  ·have e2 : t.names.list.drop i = [] := qAz (by show t.names.len ≤ i; omega)
   have e3 : t.names.list.drop (i + 1) = [] := qAz (by show t.names.len ≤ i + 1; omega)
   rw [e2, qAs, List.append_nil] at he
   have H5 : FldH t ((h.own 5 (h.gen 5 + 1) (.cells z4 0)).own 5 (h.gen 5 + 1) (.cells (pcells x.row) 0)) := ⟨(Heap.own_get_ne _ 5 _ _ 1 1 (by decide)).trans ((Heap.own_get_ne _ 5 _ _ 1 1 (by decide)).trans H.a1)⟩
   simp (maxSteps := 9999999) +contextual only [exa, ne_eq, not_false_eq_true, reduceAdd, reduceMul, reduceLT, reduceLeDiff, reduceEqDiff, Int.reduceLT, Int.reduceLE, Int.reduceEq, Int.reduceToNat, exY, h1, h2, hx, P4, H.a1, H5.a1]
   rw [w31_2, b31_2]
   simp (maxSteps := 9999999) +contextual only [exa, ne_eq, not_false_eq_true, reduceAdd, reduceMul, reduceLT, reduceLeDiff, reduceEqDiff, Int.reduceLT, Int.reduceLE, Int.reduceEq, Int.reduceToNat, qBq i (by omega)]
   exact ihl acc c _ (by omega) (by rw [e3, qAs, List.append_nil]; exact he) ((G.own _ _ (by decide)).own _ _ (by decide)) c0 c1 H5
theorem qEl (t : TT) (sm : smT t) (ok : ∀ x ∈ t.kids.list, TextOK x) (hs : (brM t).length ≤ 1000000000) : Om 31 [kA t.row] [] = some (kS (brM t), []) := by
 refine (qAL rfl).trans ?_
 show lim tab.get S 31 0 0 [kA t.row] h0 = _
 rw [w31_0, b31_0]
 simp (maxSteps := 9999999) +contextual only [exa, ne_eq, not_false_eq_true, reduceAdd, reduceMul, reduceLT, reduceLeDiff, reduceEqDiff, Int.reduceLT, Int.reduceLE, Int.reduceEq, Int.reduceToNat]
 exact qF0 t sm ok hs 0 [] (.p .nilslice) _ (Nat.le_refl _) rfl (.inl ⟨rfl, rfl⟩) (fun _ => rfl) (fun e => absurd rfl e) ⟨rfl⟩
def wrB : Nat → TT → Prop
 | 0, _ => False
 | n + 1, t => (txtM t).length ≤ 1000000000 ∧ (brM t).length ≤ 1000000000 ∧ (angL t.kids.list).length ≤ 1000000000 ∧ ∀ x ∈ t.kids.list, wrB n x
theorem qGF : ∀ (n : Nat) (t : TT), wrB n t → smT t → TextOK t
 | 0, _, h, _ => h.elim
 | n + 1, t, hw, sm => by
  obtain ⟨w1, w2, w3, w4⟩ := hw
  obtain ⟨s1, s2, s3⟩ := (qCb t).1 sm
  have ok : ∀ x ∈ t.kids.list, TextOK x := fun x hx => qGF n x (w4 x hx) (s3 x hx)
  have c31 : CAL 31 [kA t.row] (kS (brM t)) := qAJ 31 _ _ (by simp only [exP]) (qEl t sm ok w2) rfl
  have k31 : ∀ {β : Type} {kt : TVal → Heap → AI.Touch → Option β} {h : Heap} {d : Nat}, vtouch Om (.call (.k (.v (.c (.func 31 [])))) [.k (kA t.row)]) h d kt = kt (kS (brM t)) h noTouch := qBL 31 [kA t.row] _ (by simp only [exP]) (qEl t sm ok w2) rfl
  refine (qAL rfl).trans ?_
  show lim tab.get S 14 0 0 [kA t.row] h0 = _
  rw [w14_0, b14_0, qAv]
  by_cases k9 : t.kind = 9
  ·rw [if_pos k9]
   simp (maxSteps := 9999999) +contextual only [exa, ne_eq, not_false_eq_true, reduceAdd, reduceMul, reduceLT, reduceLeDiff, reduceEqDiff, Int.reduceLT, Int.reduceLE, Int.reduceEq, Int.reduceToNat, k9, oneOf]
  rw [if_neg k9]
  by_cases k7 : t.kind = 7
  ·rw [if_pos k7]
   simp (maxSteps := 9999999) +contextual only [exa, ne_eq, not_false_eq_true, reduceAdd, reduceMul, reduceLT, reduceLeDiff, reduceEqDiff, Int.reduceLT, Int.reduceLE, Int.reduceEq, Int.reduceToNat, k7, c31, oneOf]
  rw [if_neg k7]
  by_cases k8 : t.kind = 8
  ·rw [if_pos k8]
   have u8 : wordM 8 = [85, 110, 105, 111, 110] := rfl
   have A1 : ∀ {β : Type} {h : Heap} {k : TVal → Heap → Option β}, vbin .add 0 (kS [85, 110, 105, 111, 110]) (kS [32]) h k = k (kS [85, 110, 105, 111, 110, 32]) h := fun {β h k} => qAd 0 _ _ (by decide)
   have A2 : ∀ {β : Type} {h : Heap} {k : TVal → Heap → Option β}, vbin .add 0 (kS [85, 110, 105, 111, 110, 32]) (kS (brM t)) h k = k (kS ([85, 110, 105, 111, 110, 32] ++ brM t)) h := fun {β h k} => qAd 0 _ _ (by simp; omega)
   simp (maxSteps := 9999999) +contextual only [A1, A2, exa, ne_eq, not_false_eq_true, reduceAdd, reduceMul, reduceLT, reduceLeDiff, reduceEqDiff, Int.reduceLT, Int.reduceLE, Int.reduceEq, Int.reduceToNat, k8, y32, u8, k31, oneOf]
  rw [if_neg k8]
  simp (maxSteps := 9999999) +contextual only [exa, ne_eq, not_false_eq_true, reduceAdd, reduceMul, reduceLT, reduceLeDiff, reduceEqDiff, Int.reduceLT, Int.reduceLE, Int.reduceEq, Int.reduceToNat, k9, k7, k8, u32]
  have ht : txtM t = wordM t.kind ++ angL t.kids.list := by rw [qAv, if_neg k9, if_neg k7, if_neg k8]
  have := qJs [] t.kids s2 ok 0 (wordM t.kind) ((h0.own 1 1 (.cells (pcells t.row) 0))) (by rw [List.drop_zero, ← ht]; exact w1)
  rw [List.drop_zero] at this
  exact this
open Go Go.AI
def apartB : List UInt8 → List UInt8 → Bool
 | a :: p, b :: q => (!decide (a = b)) || apartB p q
 | _, _ => false
theorem qC0 : ∀ (p q u v : List UInt8), apartB p q = true → p ++ u ≠ q ++ v
 | a :: p, b :: q, u, v, h => by
  intro e
  rw [List.cons_append, List.cons_append] at e
  obtain ⟨e1, e2⟩ := List.cons.inj e
  simp only [apartB, Bool.or_eq_true, Bool.not_eq_true', decide_eq_false_iff_not] at h
  rcases h with h | h
  ·exact h e1
  ·exact qC0 p q u v h e2
 | [], _, _, _, h => by simp [apartB] at h
 | _ :: _, [], _, _, h => by simp [apartB] at h
theorem qEi {L : List (List UInt8)} (hL : (L.all fun p => L.all fun q => decide (p = q) || apartB p q) = true) {p q u v : List UInt8} (hp : p ∈ L) (hq : q ∈ L) (e : p ++ u = q ++ v) : p = q ∧ u = v := by
 have h := List.all_eq_true.1 (List.all_eq_true.1 hL p hp) q hq
 simp only [Bool.or_eq_true, decide_eq_true_eq] at h
 rcases h with rfl | h
 ·exact ⟨rfl, List.append_cancel_left e⟩
 ·exact absurd e (qC0 p q u v h)
def nmS : List (List UInt8) := [[97], [98], [99], [110, 97, 109, 101], [110], [73, 110, 116], [116, 121, 112, 101], [117]]
theorem qLw : ((nmS.map (· ++ colC)).all fun p => (nmS.map (· ++ colC)).all fun q => decide (p = q) || apartB p q) = true := by decide +kernel
theorem qIP {n m u v : List UInt8} (hn : n ∈ nmS) (hm : m ∈ nmS) (e : n ++ colC ++ u = m ++ colC ++ v) : n = m ∧ u = v := by
 obtain ⟨e1, e2⟩ := qEi qLw (List.mem_map_of_mem hn) (List.mem_map_of_mem hm) e
 exact ⟨List.append_cancel_right e1, e2⟩
theorem qGa {n u : List UInt8} (hn : n ∈ nmS) (v : List UInt8) : n ++ colC ++ u ≠ [125] ++ v := by
 have : (nmS.all fun n => apartB (n ++ colC) [125]) = true := by decide +kernel
 exact qC0 _ _ _ _ (List.all_eq_true.1 this n hn)
def WT : Nat → TT → Prop
 | 0, _ => False
 | n + 1, t => t.name.length ≤ 3 ∧ (((t.kind = 1 ∨ t.kind = 2 ∨ t.kind = 3) ∧ t.name = [] ∧ t.names.list = [] ∧ t.kids.list = []) ∨ (t.kind = 9 ∧ (t.name = [65] ∨ t.name = [66, 101, 101]) ∧ t.names.list = [] ∧ t.kids.list = []) ∨
   ((t.kind = 4 ∨ t.kind = 5 ∨ t.kind = 6) ∧ t.name = [] ∧ t.names.list = [] ∧ ∃ x, t.kids.list = [x] ∧ WT n x) ∨
   ((t.kind = 7 ∨ t.kind = 8) ∧ t.name = [] ∧ t.names.list.length = t.kids.list.length ∧ t.names.list.length ≤ 4 ∧ (∀ m ∈ t.names.list, m ∈ nmS) ∧ ∀ x ∈ t.kids.list, WT n x))
theorem qDy : ∀ (n : Nat) (t : TT), WT n t → WT (n + 1) t
 | 0, _, h => h.elim
 | n + 1, t, h => by
  obtain ⟨h0, h | h | ⟨a, b, c, x, d, e⟩ | ⟨a, b, c, c4, d, e⟩⟩ := h
  ·exact ⟨h0, .inl h⟩
  ·exact ⟨h0, .inr (.inl h)⟩
  ·exact ⟨h0, .inr (.inr (.inl ⟨a, b, c, x, d, qDy n x e⟩))⟩
  ·exact ⟨h0, .inr (.inr (.inr ⟨a, b, c, c4, d, fun x hx => qDy n x (e x hx)⟩))⟩
theorem qDm : ∀ (n : Nat) (t : TT), WT n t → sameT t t = true
 | 0, _, h => h.elim
 | n + 1, t, h => by
  have key : ∀ l : List TT, (∀ x ∈ l, WT n x) → sameL l l = true := by
   intro l
   induction l with
   | nil => intro _; simp [sameL]
   | cons a l ih => intro hl; rw [sameL, qDm n a (hl a (by simp)), ih fun x hx => hl x (by simp [hx])]; rfl
  rw [qB6]
  have : sameL t.kids.list t.kids.list = true := by
   obtain ⟨_, ⟨_, _, _, e⟩ | ⟨_, _, _, e⟩ | ⟨_, _, _, x, e, hx⟩ | ⟨_, _, _, _, _, hx⟩⟩ := h
   ·rw [e]; simp [sameL]
   ·rw [e]; simp [sameL]
   ·exact key _ (fun y hy => by rw [e] at hy; obtain rfl := List.mem_singleton.1 hy; exact hx)
   ·exact key _ hx
  rw [this]; simp
theorem qJY : ∀ (n : Nat) (a b : TT), SizeOf.sizeOf a < n → sameT a b = true → txtM a = txtM b := by
 intro n
 induction n with
 | zero => intro a b h; omega
 | succ n ih =>
  intro a b hs h
  rw [qB6] at h
  simp only [Bool.and_eq_true, decide_eq_true_eq] at h
  obtain ⟨⟨⟨h1, h2⟩, h3⟩, h4⟩ := h
  have key : ∀ (l m : List TT), (∀ x ∈ l, SizeOf.sizeOf x < n) → sameL l m = true → (∀ ns, fldL ns l = fldL ns m) ∧ angL l = angL m := by
   intro l
   induction l with
   | nil =>
    intro m _ hm
    cases m with
    | nil => exact ⟨fun _ => rfl, rfl⟩
    | cons b m => simp [sameL] at hm
   | cons x l ihl =>
    intro m hx hm
    cases m with
    | nil => simp [sameL] at hm
    | cons y m =>
     rw [sameL, Bool.and_eq_true] at hm
     have e1 := ih x y (hx x (by simp)) hm.1
     obtain ⟨e2, e3⟩ := ihl m (fun z hz => hx z (by simp [hz])) hm.2
     refine ⟨fun ns => ?_, ?_⟩
     ·cases ns with
      | nil => rw [qAs, qAs]
      | cons n ns => rw [fldL, fldL, e1, e2]
     ·rw [angL, angL, e1, e3]
  obtain ⟨k1, k2⟩ := key a.kids.list b.kids.list (fun x hx => by have := TT.mem_size hx; omega) h4
  rw [qAv, qAv]
  unfold brM
  rw [h1, h2, h3, k1, k2]
def Inj (n : Nat) : Prop := ∀ (a b : TT) (u v : List UInt8), WT n a → WT n b → txtM a ++ u = txtM b ++ v → sameT a b = true ∧ u = v
theorem qEp {n : Nat} (ih : Inj n) : ∀ (ns ms : List (List UInt8)) (l m : List TT) (u v : List UInt8), ns.length = l.length → ms.length = m.length → (∀ x ∈ ns, x ∈ nmS) → (∀ x ∈ ms, x ∈ nmS) → (∀ x ∈ l, WT n x) → (∀ x ∈ m, WT n x) →
  Lib.joinTail sepC (fldL ns l) ++ ([125] ++ u) = Lib.joinTail sepC (fldL ms m) ++ ([125] ++ v) → (ns = ms ∧ sameL l m = true) ∧ u = v
 | [], [], [], [], u, v, _, _, _, _, _, _, e => by
  simp [fldL, Lib.joinTail] at e
  exact ⟨⟨rfl, by simp [sameL]⟩, e⟩
 | [], b :: ms, [], y :: m, u, v, _, _, _, _, _, _, e => by
  exfalso
  have e1 : Lib.joinTail sepC (fldL (b :: ms) (y :: m)) = sepC ++ (b ++ colC ++ txtM y) ++ Lib.joinTail sepC (fldL ms m) := by simp [fldL, Lib.joinTail]
  rw [e1] at e
  simp [fldL, Lib.joinTail, sepC] at e
 | a :: ns, [], x :: l, [], u, v, _, _, _, _, _, _, e => by
  exfalso
  have e1 : Lib.joinTail sepC (fldL (a :: ns) (x :: l)) = sepC ++ (a ++ colC ++ txtM x) ++ Lib.joinTail sepC (fldL ns l) := by simp [fldL, Lib.joinTail]
  rw [e1] at e
  simp [fldL, Lib.joinTail, sepC] at e
 | a :: ns, b :: ms, x :: l, y :: m, u, v, hl, hm, hn, hk, wl, wm, e => by
  have e1 : Lib.joinTail sepC (fldL (a :: ns) (x :: l)) = sepC ++ (a ++ colC ++ txtM x) ++ Lib.joinTail sepC (fldL ns l) := by simp [fldL, Lib.joinTail]
  have e2 : Lib.joinTail sepC (fldL (b :: ms) (y :: m)) = sepC ++ (b ++ colC ++ txtM y) ++ Lib.joinTail sepC (fldL ms m) := by simp [fldL, Lib.joinTail]
  rw [e1, e2] at e
  have e3 : a ++ colC ++ (txtM x ++ (Lib.joinTail sepC (fldL ns l) ++ ([125] ++ u))) = b ++ colC ++ (txtM y ++ (Lib.joinTail sepC (fldL ms m) ++ ([125] ++ v))) := by
   have := e
   simp only [List.append_assoc] at this ⊢
   exact List.append_cancel_left this
  obtain ⟨r1, r2⟩ := qIP (hn a (by simp)) (hk b (by simp)) e3
  obtain ⟨r3, r4⟩ := ih x y _ _ (wl x (by simp)) (wm y (by simp)) r2
  obtain ⟨⟨r5, r6⟩, r7⟩ := qEp ih ns ms l m u v (by simpa using hl) (by simpa using hm) (fun z hz => hn z (by simp [hz])) (fun z hz => hk z (by simp [hz])) (fun z hz => wl z (by simp [hz])) (fun z hz => wm z (by simp [hz])) r4
  exact ⟨⟨by rw [r1, r5], by rw [sameL, r3, r6]; rfl⟩, r7⟩
 | [], _, _ :: _, _, _, _, h, _, _, _, _, _, _ => by simp at h
 | _ :: _, _, [], _, _, _, h, _, _, _, _, _, _ => by simp at h
 | _, [], _, _ :: _, _, _, _, h, _, _, _, _, _ => by simp at h
 | _, _ :: _, _, [], _, _, _, h, _, _, _, _, _ => by simp at h
theorem qMN {n : Nat} (ih : Inj n) (a b : TT) (u v : List UInt8) (ha : a.names.list.length = a.kids.list.length) (hb : b.names.list.length = b.kids.list.length) (na : ∀ x ∈ a.names.list, x ∈ nmS) (nb : ∀ x ∈ b.names.list, x ∈ nmS) (wa : ∀ x ∈ a.kids.list, WT n x) (wb : ∀ x ∈ b.kids.list, WT n x)
  (e : brM a ++ u = brM b ++ v) : (a.names.list = b.names.list ∧ sameL a.kids.list b.kids.list = true) ∧ u = v := by
 unfold brM at e
 generalize a.names.list = ns at *
 generalize a.kids.list = l at *
 generalize b.names.list = ms at *
 generalize b.kids.list = m at *
 simp only [List.append_assoc] at e
 have e := List.append_cancel_left e
 match ns, l, ms, m, ha, hb with
 | [], [], [], [], _, _ =>
  simp [fldL, Lib.join_nil] at e
  exact ⟨⟨rfl, by simp [sameL]⟩, e⟩
 | [], [], q :: ms, y :: m, _, _ =>
  exfalso
  rw [qAs, Lib.join_nil, fldL, Lib.join_cons] at e
  simp only [List.append_assoc, List.nil_append] at e
  exact qGa (n := q) (u := txtM y ++ (Lib.joinTail sepC (fldL ms m) ++ ([125] ++ v))) (nb q (by simp)) u (by rw [List.append_assoc]; exact e.symm)
 | p :: ns, x :: l, [], [], _, _ =>
  exfalso
  rw [qAs, Lib.join_nil, fldL, Lib.join_cons] at e
  simp only [List.append_assoc, List.nil_append] at e
  exact qGa (n := p) (u := txtM x ++ (Lib.joinTail sepC (fldL ns l) ++ ([125] ++ u))) (na p (by simp)) v (by rw [List.append_assoc]; exact e)
 | p :: ns, x :: l, q :: ms, y :: m, ha, hb =>
  rw [fldL, Lib.join_cons, fldL, Lib.join_cons] at e
  have e3 : p ++ colC ++ (txtM x ++ (Lib.joinTail sepC (fldL ns l) ++ ([125] ++ u))) = q ++ colC ++ (txtM y ++ (Lib.joinTail sepC (fldL ms m) ++ ([125] ++ v))) := by
   simp only [List.append_assoc] at e ⊢
   exact e
  obtain ⟨r1, r2⟩ := qIP (na p (by simp)) (nb q (by simp)) e3
  obtain ⟨r3, r4⟩ := ih x y _ _ (wa x (by simp)) (wb y (by simp)) r2
  obtain ⟨⟨r5, r6⟩, r7⟩ := qEp ih ns ms l m u v (by simpa using ha) (by simpa using hb) (fun z hz => na z (by simp [hz])) (fun z hz => nb z (by simp [hz])) (fun z hz => wa z (by simp [hz])) (fun z hz => wb z (by simp [hz])) r4
  exact ⟨⟨by rw [r1, r5], by rw [sameL, r3, r6]; rfl⟩, r7⟩
def preM (t : TT) : List UInt8 := if t.kind = 9 then t.name else if t.kind = 7 then [123] else if t.kind = 8 then [85, 110, 105, 111, 110, 32] else if t.kind = 4 then [76, 105, 115, 116] else if t.kind = 5 then [77, 97, 112] else if t.kind = 6 then [79, 112, 116] else if t.kind = 1 then [66, 111, 111, 108] else if t.kind = 2 then [73, 110, 116] else [84, 101, 120, 116]
def preL : List (List UInt8) := [[65], [66, 101, 101], [123], [85, 110, 105, 111, 110, 32], [76, 105, 115, 116], [77, 97, 112], [79, 112, 116], [66, 111, 111, 108], [73, 110, 116], [84, 101, 120, 116]]
theorem qJr : (preL.all fun p => preL.all fun q => decide (p = q) || apartB p q) = true := by decide +kernel
theorem qGH : ∀ n : Nat, Inj n
 | 0 => fun a b u v h => h.elim
 | n + 1 => by
  have ih := qGH n
  intro a b u v wa wb e
  -- the word, and what follows it
  have form : ∀ t : TT, WT (n + 1) t → ∃ (k : Int), t.kind = k ∧ 1 ≤ k ∧ k ≤ 9 ∧ preM t ∈ preL ∧ ∀ w, txtM t ++ w = preM t ++ ((if k = 7 then Lib.join (fldL t.names.list t.kids.list) sepC ++ [125] else if k = 8 then brM t else if k = 4 ∨ k = 5 ∨ k = 6 then angL t.kids.list else []) ++ w) := by
   intro t ht
   refine ⟨t.kind, rfl, ?_⟩
   obtain ⟨_, ⟨k1, k2, k3, k4⟩ | ⟨k1, k2, k3, k4⟩ | ⟨k1, k2, k3, x, k4, k5⟩ | ⟨k1, k2, k3, k6, k4, k5⟩⟩ := ht
   ·rcases k1 with k1 | k1 | k1 <;> (refine ⟨by omega, by omega, by unfold preM; simp [k1, preL], fun w => ?_⟩; rw [qAv]; unfold preM; simp [k1, wordM, k4, angL])
   ·refine ⟨by omega, by omega, ?_, fun w => ?_⟩
    ·unfold preM; rcases k2 with k2 | k2 <;> simp [k1, k2, preL]
    ·rw [qAv]; unfold preM; simp [k1]
   ·rcases k1 with k1 | k1 | k1 <;> (refine ⟨by omega, by omega, by unfold preM; simp [k1, preL], fun w => ?_⟩; rw [qAv]; unfold preM; simp [k1, wordM])
   ·rcases k1 with k1 | k1 <;> (refine ⟨by omega, by omega, by unfold preM; simp [k1, preL], fun w => ?_⟩; rw [qAv]; unfold preM; simp [k1, brM])
  obtain ⟨ka, ea, a1, a9, pa, fa⟩ := form a wa
  obtain ⟨kb, eb, b1, b9, pb, fb⟩ := form b wb
  rw [fa, fb] at e
  obtain ⟨ep, er⟩ := qEi qJr pa pb e
  obtain ⟨na, wa⟩ := wa
  obtain ⟨nb, wb⟩ := wb
  rw [qB6]
  have key : (a.kind = b.kind ∧ a.name = b.name) ∧ (a.names.list = b.names.list ∧ sameL a.kids.list b.kids.list = true) ∧ u = v → (((decide (a.kind = b.kind) && decide (a.name = b.name)) && decide (a.names.list = b.names.list)) && sameL a.kids.list b.kids.list) = true ∧ u = v := by
   rintro ⟨⟨h1, h2⟩, ⟨h3, h4⟩, h5⟩
   exact ⟨by simp [h1, h2, h3, h4], h5⟩
  refine key ?_
  have nil_same : sameL ([] : List TT) [] = true := by simp [sameL]
  have ang1 : ∀ (x : TT) (w : List UInt8), angL [x] ++ w = [60] ++ (txtM x ++ ([62] ++ w)) := fun x w => by simp [angL]
  rcases wa with ⟨k1, k2, k3, k4⟩ | ⟨k1, k2, k3, k4⟩ | ⟨k1, k2, k3, x, k4, k5⟩ | ⟨k1, k2, k3, k6, k4, k5⟩
  ·rcases wb with ⟨j1, j2, j3, j4⟩ | ⟨j1, j2, j3, j4⟩ | ⟨j1, j2, j3, y, j4, j5⟩ | ⟨j1, j2, j3, j6, j4, j5⟩
   ·rcases k1 with k1 | k1 | k1 <;> rcases j1 with j1 | j1 | j1 <;> first
     | (exfalso; unfold preM at ep; simp [k1, j1] at ep; done)
     | (subst ea; subst eb; simp [k1, j1] at er; exact ⟨⟨by rw [k1, j1], by rw [k2, j2]⟩, ⟨by rw [k3, j3], by rw [k4, j4]; exact nil_same⟩, er⟩)
   ·exfalso; rcases k1 with k1 | k1 | k1 <;> rcases j2 with j2 | j2 <;> (unfold preM at ep; simp [k1, j1, j2] at ep)
   ·exfalso; rcases k1 with k1 | k1 | k1 <;> rcases j1 with j1 | j1 | j1 <;> (unfold preM at ep; simp [k1, j1] at ep)
   ·exfalso; rcases k1 with k1 | k1 | k1 <;> rcases j1 with j1 | j1 <;> (unfold preM at ep; simp [k1, j1] at ep)
  ·rcases wb with ⟨j1, j2, j3, j4⟩ | ⟨j1, j2, j3, j4⟩ | ⟨j1, j2, j3, y, j4, j5⟩ | ⟨j1, j2, j3, j6, j4, j5⟩
   ·exfalso; rcases j1 with j1 | j1 | j1 <;> rcases k2 with k2 | k2 <;> (unfold preM at ep; simp [k1, j1, k2] at ep)
   ·subst ea; subst eb
    simp [k1, j1] at er
    have en : a.name = b.name := by unfold preM at ep; simpa [k1, j1] using ep
    exact ⟨⟨by rw [k1, j1], en⟩, ⟨by rw [k3, j3], by rw [k4, j4]; exact nil_same⟩, er⟩
   ·exfalso; rcases j1 with j1 | j1 | j1 <;> rcases k2 with k2 | k2 <;> (unfold preM at ep; simp [k1, j1, k2] at ep)
   ·exfalso; rcases j1 with j1 | j1 <;> rcases k2 with k2 | k2 <;> (unfold preM at ep; simp [k1, j1, k2] at ep)
  ·rcases wb with ⟨j1, j2, j3, j4⟩ | ⟨j1, j2, j3, j4⟩ | ⟨j1, j2, j3, y, j4, j5⟩ | ⟨j1, j2, j3, j6, j4, j5⟩
   ·exfalso; rcases k1 with k1 | k1 | k1 <;> rcases j1 with j1 | j1 | j1 <;> (unfold preM at ep; simp [k1, j1] at ep)
   ·exfalso; rcases k1 with k1 | k1 | k1 <;> rcases j2 with j2 | j2 <;> (unfold preM at ep; simp [k1, j1, j2] at ep)
   ·have ek : a.kind = b.kind := by
     rcases k1 with k1 | k1 | k1 <;> rcases j1 with j1 | j1 | j1 <;> first
      | (rw [k1, j1]; done)
      | (exfalso; unfold preM at ep; simp [k1, j1] at ep; done)
    subst ea; subst eb
    have er' : angL a.kids.list ++ u = angL b.kids.list ++ v := by
     rw [if_neg (by omega), if_neg (by omega), if_pos k1, if_neg (by omega), if_neg (by omega), if_pos j1] at er
     exact er
    rw [k4, j4, ang1, ang1] at er'
    obtain ⟨s1, s2⟩ := ih x y _ _ k5 j5 (List.append_cancel_left er')
    have s3 := List.append_cancel_left s2
    exact ⟨⟨ek, by rw [k2, j2]⟩, ⟨by rw [k3, j3], by rw [k4, j4, sameL, s1, nil_same]; rfl⟩, s3⟩
   ·exfalso; rcases k1 with k1 | k1 | k1 <;> rcases j1 with j1 | j1 <;> (unfold preM at ep; simp [k1, j1] at ep)
  ·rcases wb with ⟨j1, j2, j3, j4⟩ | ⟨j1, j2, j3, j4⟩ | ⟨j1, j2, j3, y, j4, j5⟩ | ⟨j1, j2, j3, j6, j4, j5⟩
   ·exfalso; rcases k1 with k1 | k1 <;> rcases j1 with j1 | j1 | j1 <;> (unfold preM at ep; simp [k1, j1] at ep)
   ·exfalso; rcases k1 with k1 | k1 <;> rcases j2 with j2 | j2 <;> (unfold preM at ep; simp [k1, j1, j2] at ep)
   ·exfalso; rcases k1 with k1 | k1 <;> rcases j1 with j1 | j1 | j1 <;> (unfold preM at ep; simp [k1, j1] at ep)
   ·have ek : a.kind = b.kind := by
     rcases k1 with k1 | k1 <;> rcases j1 with j1 | j1 <;> first
      | (rw [k1, j1]; done)
      | (exfalso; unfold preM at ep; simp [k1, j1] at ep; done)
    subst ea; subst eb
    have er' : brM a ++ u = brM b ++ v := by
     rcases k1 with k1 | k1
     ·have j1 : b.kind = 7 := by rw [← ek, k1]
      rw [if_pos k1, if_pos j1] at er
      unfold brM
      simp only [List.append_assoc] at er ⊢
      rw [er]
     ·have j1 : b.kind = 8 := by rw [← ek, k1]
      rw [if_neg (by omega), if_pos k1, if_neg (by omega), if_pos j1] at er
      exact er
    obtain ⟨s1, s2⟩ := qMN ih a b u v k3 j3 k4 j4 k5 j5 er'
    exact ⟨⟨ek, by rw [k2, j2]⟩, s1, s2⟩
theorem qKP {n : Nat} {a b : TT} (wa : WT n a) (wb : WT n b) : sameT a b = decide (txtM a = txtM b) := by
 cases h : sameT a b
 ·refine (decide_eq_false fun e => ?_).symm
  have := (qGH n a b [] [] wa wb (by rw [e])).1
  rw [h] at this
  cases this
 ·exact (decide_eq_true (qJY _ a b (Nat.lt_succ_self _) h)).symm
open Go Go.AI
def nsA : List (List UInt8) := [[65], [66, 101, 101]]
theorem qJR (n : Int) : nameM n ∈ nmS := by
 have h := List.mem_of_getElem? (qEn n)
 have : (nameL.all fun x => nmS.contains x) = true := by decide +kernel
 have := List.all_eq_true.1 this _ h
 simpa using this
theorem qL6 (r : RW) (i : Nat) : nmM r i ∈ nmS := by
 unfold nmM
 split
 ·exact qJR _
 ·decide +kernel
structure RecI (n : Nat) (k : Int) (i : Nat) (t : TT) : Prop where
 kd : t.kind = k
 nm : t.name = []
 eq : t.names.list.length = t.kids.list.length
 le : t.names.list.length ≤ i
 ns : ∀ m ∈ t.names.list, m ∈ nmS
 ks : ∀ x ∈ t.kids.list, WT n x
theorem RecI.put {n : Nat} {k : Int} {i : Nat} {t x : TT} {key : List UInt8} (H : RecI n k i t) (hx : WT n x) (hk : key ∈ nmS) : RecI n k (i + 1) (putM t key x) := by
 obtain ⟨h1, h2, h3, h4, h5, h6⟩ := H
 unfold putM
 split
 ·exact ⟨h1, h2, h3, by omega, h5, h6⟩
 ·have hm := qB5 key t.names.list
  generalize leadM key t.names.list = m at hm
  have e1 : (t.names.list.take m ++ [key] ++ t.names.list.drop m).length = t.names.list.length + 1 := by simp; omega
  have e2 : (t.kids.list.take m ++ [x] ++ t.kids.list.drop m).length = t.kids.list.length + 1 := by simp; omega
  refine ⟨h1, h2, ?_, ?_, ?_, ?_⟩
  ·show (t.names.list.take m ++ [key] ++ t.names.list.drop m).length = (t.kids.list.take m ++ [x] ++ t.kids.list.drop m).length
   omega
  ·show (t.names.list.take m ++ [key] ++ t.names.list.drop m).length ≤ i + 1
   omega
  ·intro y hy
   have hy : y ∈ t.names.list.take m ++ [key] ++ t.names.list.drop m := hy
   simp only [List.mem_append, List.mem_singleton] at hy
   rcases hy with (hy | rfl) | hy
   ·exact h5 y (List.mem_of_mem_take hy)
   ·exact hk
   ·exact h5 y (List.mem_of_mem_drop hy)
  ·intro y hy
   have hy : y ∈ t.kids.list.take m ++ [x] ++ t.kids.list.drop m := hy
   simp only [List.mem_append, List.mem_singleton] at hy
   rcases hy with (hy | rfl) | hy
   ·exact h6 y (List.mem_of_mem_take hy)
   ·exact hx
   ·exact h6 y (List.mem_of_mem_drop hy)
theorem qIJ {n : Nat} {k : Int} (r : RW) (sub : RW → TT) (hs : ∀ x, WT n (sub x)) : ∀ (c i : Nat) (t : TT), RecI n k i t → RecI n k (i + c) (recM r sub c i t)
 | 0, i, t, H => H
 | c + 1, i, t, H => by
  have := qIJ r sub hs c (i + 1) _ (H.put (hs (kidM r i)) (qL6 r i))
  rw [recM, show i + (c + 1) = i + 1 + c by omega]
  exact this
theorem qFT (n : Nat) (k : Int) (r : RW) (sub : RW → TT) (hk : 1 ≤ k ∧ k ≤ 9) (hs : 4 ≤ k → k ≤ 8 → ∀ x, WT n (sub x)) : WT (n + 1) (treeK nsA k r sub) := by
 unfold treeK
 by_cases h9 : k = 9
 ·rw [if_pos h9]
  have hw := qAu r.n (nsA.length : Int) (by decide)
  have hl : (nsA.length : Int) = 2 := rfl
  rw [hl] at hw ⊢
  have : (withinM r.n 2).toNat = 0 ∨ (withinM r.n 2).toNat = 1 := by omega
  have hn : nsA.getD (withinM r.n 2).toNat [] = [65] ∨ nsA.getD (withinM r.n 2).toNat [] = [66, 101, 101] := by
   rcases this with h | h
   ·rw [h]; exact .inl rfl
   ·rw [h]; exact .inr rfl
  refine ⟨?_, .inr (.inl ⟨rfl, hn, rfl, rfl⟩)⟩
  show (nsA.getD (withinM r.n 2).toNat []).length ≤ 3
  rcases hn with h | h <;> rw [h] <;> decide
 rw [if_neg h9]
 by_cases h4 : k = 4 ∨ k = 5 ∨ k = 6
 ·rw [if_pos h4]
  have hx := hs (by omega) (by omega) (kidM r 0)
  by_cases h6 : k = 6 ∧ (sub (kidM r 0)).kind = 6
  ·rw [if_pos h6]; exact qDy _ _ hx
  ·rw [if_neg h6]
   exact ⟨by show 0 ≤ 3; decide, .inr (.inr (.inl ⟨h4, rfl, rfl, _, rfl, hx⟩))⟩
 rw [if_neg h4]
 by_cases h7 : k = 7 ∨ k = 8
 ·rw [if_pos h7]
  have hc : cntM r k ≤ 4 := by unfold cntM; split <;> (try split) <;> omega
  have H : RecI n k 0 (TT.mk k [] .nil .nil) := ⟨rfl, rfl, rfl, Nat.le_refl _, (fun m hm => by cases hm), (fun m hm => by cases hm)⟩
  obtain ⟨h1, h2, h3, h4', h5, h6⟩ := qIJ r sub (hs (by omega) (by omega)) (cntM r k) 0 _ H
  refine ⟨?_, .inr (.inr (.inr ⟨by rw [h1]; exact h7, h2, h3, by omega, h5, h6⟩))⟩
  rw [h2]; decide
 rw [if_neg h7]
 exact ⟨by show 0 ≤ 3; decide, .inl ⟨by show k = 1 ∨ k = 2 ∨ k = 3; omega, rfl, rfl, rfl⟩⟩
theorem qF7 (r : RW) (d : Int) : 1 ≤ kindT r d ∧ kindT r d ≤ 9 ∧ (d ≤ 1 → ¬ (4 ≤ kindT r d ∧ kindT r d ≤ 8)) := by
 have := qCp r.kind
 unfold kindT
 split <;> omega
theorem qA5 : ∀ (d : Nat) (r : RW), WT (d + 1) (treeM nsA d r)
 | 0, r => by
  obtain ⟨a, b, c⟩ := qF7 r 0
  exact qFT 0 _ r _ ⟨a, b⟩ fun h1 h2 => absurd ⟨h1, h2⟩ (c (by decide))
 | d + 1, r => by
  obtain ⟨a, b, c⟩ := qF7 r ((d : Int) + 1)
  exact qFT (d + 1) _ r _ ⟨a, b⟩ fun _ _ x => qA5 d x
theorem qGK {n : Nat} {t : TT} (h : WT (n + 1) t) : t.name.length ≤ 3 ∧ t.names.list.length ≤ 4 ∧ t.kids.list.length ≤ 4 ∧ (∀ m ∈ t.names.list, m ∈ nmS) ∧ ∀ x ∈ t.kids.list, WT n x := by
 obtain ⟨h0, ⟨_, _, a, b⟩ | ⟨_, _, a, b⟩ | ⟨_, _, a, x, b, c⟩ | ⟨_, _, a, b, c, e⟩⟩ := h
 ·exact ⟨h0, by rw [a]; decide, by rw [b]; decide, by rw [a]; simp, by rw [b]; simp⟩
 ·exact ⟨h0, by rw [a]; decide, by rw [b]; decide, by rw [a]; simp, by rw [b]; simp⟩
 ·exact ⟨h0, by rw [a]; decide, by rw [b]; show 1 ≤ 4; decide, by rw [a]; simp, by rw [b]; intro y hy; obtain rfl := List.mem_singleton.1 hy; exact c⟩
 ·exact ⟨h0, b, by omega, c, e⟩
theorem qEc : ∀ (n : Nat) (t : TT), WT n t → smT t
 | 0, _, h => h.elim
 | n + 1, t, h => by
  obtain ⟨_, a, b, _, c⟩ := qGK h
  refine (qCb t).2 ⟨?_, ?_, fun x hx => qEc n x (c x hx)⟩
  ·have : t.names.len = t.names.list.length := rfl
   omega
  ·have : t.kids.len = t.kids.list.length := rfl
   omega
theorem qKu {m : List UInt8} (h : m ∈ nmS) : m.length ≤ 4 := by
 have : (nmS.all fun x => decide (x.length ≤ 4)) = true := by decide +kernel
 simpa using List.all_eq_true.1 this _ h
theorem qEs (B : Nat) : ∀ (ns : List (List UInt8)) (l : List TT), (∀ m ∈ ns, m ∈ nmS) → (∀ x ∈ l, (txtM x).length ≤ B) → (Lib.joinTail sepC (fldL ns l)).length ≤ l.length * (B + 8)
 | [], l, _, _ => by rw [qAs]; show 0 ≤ _; omega
 | _ :: _, [], _, _ => by rw [qCL]; show 0 ≤ _; omega
 | a :: ns, x :: l, h1, h2 => by
  have ih := qEs B ns l (fun m hm => h1 m (by simp [hm])) (fun m hm => h2 m (by simp [hm]))
  have e : Lib.joinTail sepC (fldL (a :: ns) (x :: l)) = (sepC ++ (a ++ colC ++ txtM x)) ++ Lib.joinTail sepC (fldL ns l) := by rw [fldL]; simp [Lib.joinTail]
  have n1 := qKu (h1 a (by simp))
  have n2 := h2 x (by simp)
  have c1 : sepC.length = 2 := rfl
  have c2 : colC.length = 2 := rfl
  rw [e, List.length_cons, Nat.succ_mul]
  simp only [List.length_append]
  omega
theorem qJf (B : Nat) (ns : List (List UInt8)) (l : List TT) (h1 : ∀ m ∈ ns, m ∈ nmS) (h2 : ∀ x ∈ l, (txtM x).length ≤ B) (hl : l.length ≤ 4) : (Lib.join (fldL ns l) sepC).length ≤ 4 * (B + 8) := by
 have h := qEs B ns l h1 h2
 have hm : l.length * (B + 8) ≤ 4 * (B + 8) := Nat.mul_le_mul_right _ hl
 have : (Lib.join (fldL ns l) sepC).length ≤ (Lib.joinTail sepC (fldL ns l)).length := by
  cases e : fldL ns l with
  | nil => rw [Lib.join_nil]; exact Nat.zero_le _
  | cons y r =>
   rw [Lib.join_cons]
   have : Lib.joinTail sepC (y :: r) = (sepC ++ y) ++ Lib.joinTail sepC r := by simp [Lib.joinTail]
   rw [this]
   simp only [List.length_append]
   omega
 omega
theorem qGB (B : Nat) : ∀ (l : List TT), (∀ x ∈ l, (txtM x).length ≤ B) → (angL l).length ≤ l.length * (B + 2)
 | [], _ => by simp [angL]
 | x :: l, h => by
  have ih := qGB B l (fun m hm => h m (by simp [hm]))
  have n2 := h x (by simp)
  rw [angL, List.length_cons, Nat.succ_mul]
  simp only [List.length_append, List.length_cons, List.length_nil]
  omega
def bL : Nat → Nat
 | 0 => 0
 | n + 1 => 4 * bL n + 60
theorem qIK : ∀ (n : Nat) (t : TT), WT n t → ((txtM t).length ≤ bL n ∧ (brM t).length ≤ bL n ∧ (angL t.kids.list).length ≤ bL n) ∧ (bL n ≤ 1000000000 → wrB n t)
 | 0, _, h => h.elim
 | n + 1, t, h => by
  obtain ⟨a, b, c, e, f⟩ := qGK h
  have ih := fun x hx => qIK n x (f x hx)
  have h2 : ∀ x ∈ t.kids.list, (txtM x).length ≤ bL n := fun x hx => (ih x hx).1.1
  have j := qJf (bL n) t.names.list t.kids.list e h2 c
  have g := qGB (bL n) t.kids.list h2
  have gm : t.kids.list.length * (bL n + 2) ≤ 4 * (bL n + 2) := Nat.mul_le_mul_right _ c
  have B1 : (brM t).length ≤ 4 * bL n + 40 := by
   unfold brM
   simp only [List.length_append, List.length_cons, List.length_nil]
   omega
  have B2 : (angL t.kids.list).length ≤ 4 * bL n + 8 := by omega
  have W : (wordM t.kind).length ≤ 5 := by
   unfold wordM
   split
   ·decide
   split
   ·decide
   split
   ·decide
   split
   ·decide
   split
   ·decide
   split
   ·decide
   split <;> decide
  have B3 : (txtM t).length ≤ 4 * bL n + 60 := by
   rw [qAv]
   split
   ·omega
   split
   ·omega
   split
   ·simp only [List.length_append, List.length_cons, List.length_nil]; omega
   ·simp only [List.length_append]; omega
  have B0 : bL (n + 1) = 4 * bL n + 60 := rfl
  refine ⟨⟨by omega, by omega, by omega⟩, fun hb => ⟨by omega, by omega, by omega, fun x hx => (ih x hx).2 (by omega)⟩⟩
theorem qEM (r : RW) : TextOK (treeM nsA 6 r) :=
 qGF 7 _ ((qIK 7 _ (qA5 6 r)).2 (by decide)) (qEc 7 _ (qA5 6 r))
theorem qEV (r q : RW) : SameOK (treeM nsA 6 r) (treeM nsA 6 q) :=
 qKz _ _ _ (Nat.lt_succ_self _) (qEc 7 _ (qA5 6 r)) (qEc 7 _ (qA5 6 q))
theorem qJl (r q : RW) : sameT (treeM nsA 6 r) (treeM nsA 6 q) = decide (txtM (treeM nsA 6 r) = txtM (treeM nsA 6 q)) := qKP (qA5 6 r) (qA5 6 q)
theorem qIa (r : RW) : sameT (treeM nsA 6 r) (treeM nsA 6 r) = true := qDm 7 _ (qA5 6 r)
end Go.Proofs.YtnlmlcfipbnpgaaDoor.Ab
set_option maxHeartbeats 4000000
namespace Go.Proofs.YtnlmlcfipbnpgaaDoor.Ab
open Go Go.AI
def nsS : Sl (List UInt8) := .mk true nsA
theorem qF8 : TreeOK nsS 6 (treeM nsA 6) := qF5 nsS (by decide) (by decide) 6 (by decide)
theorem t_ns {β : Type} {kt : TVal → Heap → AI.Touch → Option β} {h : Heap} {d : Nat} {O : Oracle} : vtouch O (.bslice 1 2 [.p (.str [])] [(0, .k (kS [65])), (1, .k (kS [66, 101, 101]))] false) h d kt = kt (.v (.c (.p (slP 1 sRow nsS)))) h noTouch := qAZ _ _ rfl
theorem y13 {β : Type} {kt : TVal → Heap → AI.Touch → Option β} {h : Heap} {d : Nat} {x y : TT} (ok : SameOK x y) : vtouch Om (.call (.k (.v (.c (.func 13 [])))) [.k (kA x.row), .k (kA y.row)]) h d kt = kt (kB (sameT x y)) h noTouch :=
 qBL 13 [kA x.row, kA y.row] _ (by simp only [exP]) ok (by simp only [exP])
theorem u10 {β : Type} {k : TVal → Heap → Option β} {h : Heap} {d : Nat} : vcall Om (.v (.c (.func 10 []))) [] h d k = k (kB true) h := qAJ 10 _ _ rfl qK3 rfl
theorem vgT {β : Type} (f : (TVal → Heap → AI.Touch → Option β) → Option β) (h : Heap) (k : TVal → Heap → AI.Touch → Option β) : vguardT (kB true) true f h k = f k := rfl
theorem t_pk {β : Type} {O : Oracle} {kt : TVal → Heap → AI.Touch → Option β} {h : Heap} {d : Nat} : vtouch O (.pick (.k (kB true)) (.k (kB true)) (.k (kB false))) h d kt = kt (kB true) h noTouch := qAZ _ _ rfl
theorem sames_law (a b : RW) : orc S (lim tab.get S) 3 [kA a.row, kA b.row] [] = some (kB true, []) := by
 refine (qAL rfl).trans ?_
 show lim tab.get S 3 0 0 [kA a.row, kA b.row] h0 = _
 rw [w3_0, b3_0]
 by_cases ha : fewR a 40 = 0
 ·simp (maxSteps := 9999999) +contextual only [exa, ne_eq, not_false_eq_true, reduceAdd, reduceMul, reduceLT, reduceLeDiff, reduceEqDiff, Int.reduceLT, Int.reduceLE, Int.reduceEq, Int.reduceToNat, exR, exY, qBb, u10, u11, ha, oneOf]
 by_cases hb : fewR b 40 = 0
 ·simp (maxSteps := 9999999) +contextual only [exa, ne_eq, not_false_eq_true, reduceAdd, reduceMul, reduceLT, reduceLeDiff, reduceEqDiff, Int.reduceLT, Int.reduceLE, Int.reduceEq, Int.reduceToNat, exR, exY, qBb, u10, u11, ha, hb, oneOf]
 have sa := qEW (by decide) ha
 have sb := qEW (by decide) hb
 have ya : ∀ {β : Type} {kt : TVal → Heap → AI.Touch → Option β} {h : Heap} {d : Nat}, vtouch Om (.call (.k (.v (.c (.func 12 [])))) [.k (kA a.row), .k (kI 6), .k (.v (.c (.p (slP 1 sRow nsS))))]) h d kt = kt (kA (treeM nsA 6 a).row) h noTouch := y12 qF8 a sa
 have yb : ∀ {β : Type} {kt : TVal → Heap → AI.Touch → Option β} {h : Heap} {d : Nat}, vtouch Om (.call (.k (.v (.c (.func 12 [])))) [.k (kA b.row), .k (kI 6), .k (.v (.c (.p (slP 1 sRow nsS))))]) h d kt = kt (kA (treeM nsA 6 b).row) h noTouch := y12 qF8 b sb
 have ls := qJl a b
 have lf := qIa a
 have t1 := qEM a
 have t2 := qEM b
 have s1 := qEV a b
 have s2 := qEV a a
 generalize treeM nsA 6 a = x at *
 generalize treeM nsA 6 b = y at *
 have A1 : AI.Touch.apart ⟨[(Ref.own 2 1).site], [], false⟩ ⟨[], [.own 5], false⟩ = true := rfl
 have A2 : AI.Touch.apart ⟨[(Ref.own 3 1).site], [], false⟩ ⟨[], [.own 5], false⟩ = true := rfl
 have A3 : AI.Touch.apart ⟨[(Ref.own 2 1).site], [], false⟩ ⟨[], [.own 6], false⟩ = true := rfl
 have A4 : AI.Touch.apart ⟨[(Ref.own 3 1).site], [], false⟩ ⟨[], [.own 6], false⟩ = true := rfl
 have A5 : AI.Touch.apart ⟨[], [.own 5], false⟩ ⟨[], [.own 6], false⟩ = true := rfl
 have la := TT.row_len x
 have lb := TT.row_len y
 simp (maxSteps := 9999999) +contextual only [exa, ne_eq, not_false_eq_true, reduceAdd, reduceMul, reduceLT, reduceLeDiff, reduceEqDiff, Int.reduceLT, Int.reduceLE, Int.reduceEq, Int.reduceToNat, exR, exY, qBb, qLu, vgT, t_pk, A1, A2, A3, A4, A5, u10, u11, ha, hb, t_ns, ya, yb, y13 s1, y13 s2, y14 t1, y14 t2, lf, ls, qA9 _ la, qA9 _ lb, beq_self_eq_true, oneOf]
end Go.Proofs.YtnlmlcfipbnpgaaDoor.Ab
