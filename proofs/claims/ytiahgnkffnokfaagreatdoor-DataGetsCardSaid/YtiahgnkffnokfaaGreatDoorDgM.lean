/- A key and a value, put at their place. -/
import Derived.Test.YtiahgnkffnokfaaGreatDoorDgL
set_option linter.all false
set_option linter.unusedVariables false
set_option linter.unusedSimpArgs false
set_option maxRecDepth 100000
namespace Go.Proofs.YtiahgnkffnokfaaGreatDoor.Ab
open Go Go.AI
theorem within79 (a n : Int) (hn : 0 < n) (hs : n < 1000000) : Om 12 [kI a, kI n] [] = some (kI (withinM a n), []) := by
 refine (orc_none rfl).trans ?_
 show lim tab.get S 12 0 0 [kI a, kI n] h0 = _
 have hb := withinM_lt a n hn
 rw [w12_0, b12_0]
 unfold withinM at hb ⊢
 by_cases h : a.tmod n < 0
 ·rw [if_pos h] at hb ⊢
  have hw : IntKind.i64.wrap (a.tmod n + n) = a.tmod n + n := wrap_i64 _ (by omega) (by omega)
  simp (config := { maxSteps := 10000000 }) +contextual only [exa, ne_eq, not_false_eq_true, Nat.reduceAdd, Nat.reduceMul, Nat.reduceLT, Nat.reduceLeDiff, Nat.reduceEqDiff, Int.reduceLT, Int.reduceLE, Int.reduceEq, Int.reduceToNat, vbin_rem 0 .i64 a n (by omega), h, hw, oneOf]
 ·rw [if_neg h]
  simp (config := { maxSteps := 10000000 }) +contextual only [exa, ne_eq, not_false_eq_true, Nat.reduceAdd, Nat.reduceMul, Nat.reduceLT, Nat.reduceLeDiff, Nat.reduceEqDiff, Int.reduceLT, Int.reduceLE, Int.reduceEq, Int.reduceToNat, vbin_rem 0 .i64 a n (by omega), h, oneOf]
theorem u79 {β : Type} {k : TVal → Heap → Option β} {h : Heap} {d : Nat} (a n : Int) (hn : 0 < n) (hs : n < 1000000) : vcall Om (.v (.c (.func 12 []))) [kI a, kI n] h d k = k (kI (withinM a n)) h := vcall_pure 12 _ _ rfl (within79 a n hn hs) rfl
/-- How many keys ahead are less. -/
def leadM (key : List UInt8) : List (List UInt8) → Nat
 | [] => 0
 | a :: l => if bless a key then leadM key l + 1 else 0
theorem leadM_le (key : List UInt8) : ∀ l : List (List UInt8), leadM key l ≤ l.length
 | [] => Nat.le_refl _
 | a :: l => by
  unfold leadM
  split
  ·have := leadM_le key l; simp; omega
  ·exact Nat.zero_le _
def putM (v : VT) (key : List UInt8) (x : VT) : VT :=
 if v.keys.list[leadM key v.keys.list]? = some key then v else
  .mk v.kind v.b v.n v.s (.mk false (v.keys.list.take (leadM key v.keys.list) ++ [key] ++ v.keys.list.drop (leadM key v.keys.list))) (.mk false (v.l.list.take (leadM key v.keys.list) ++ [x] ++ v.l.list.drop (leadM key v.keys.list)))
abbrev p3 : TVal := .v (.c (.ptr (.own 3 1) 0))
abbrev p5 : TVal := .v (.c (.ptr (.own 5 1) 0))
abbrev p6 : TVal := .v (.c (.ptr (.own 6 1) 0))
theorem put_loop (v : VT) (key : List UInt8) (x5 x6 : TVal) (h : Heap) (hv : h.get (.own 3 1) = some (.cells (pcells v.row) 0)) (hl : v.keys.len ≤ 1000) :
  ∀ i : Nat, lim tab.get S 34 0 1 [kS key, p3, x5, x6, kI (i : Int)] h = lim tab.get S 34 0 2 [kS key, p3, x5, x6, kI ((i + leadM key (v.keys.list.drop i) : Nat) : Int)] h := by
 refine loop_up v.keys.len (fun i hi => ?_) (fun i hi ih => ?_) <;> rw [w34_1, b34_1]
 ·have h1 : ¬ (i : Int) < (v.keys.len : Int) := by omega
  simp (config := { maxSteps := 10000000 }) +contextual only [exa, ne_eq, not_false_eq_true, Nat.reduceAdd, Nat.reduceMul, Nat.reduceLT, Nat.reduceLeDiff, Nat.reduceEqDiff, Int.reduceLT, Int.reduceLE, Int.reduceEq, Int.reduceToNat, hv, h1, at_end hi, leadM]
 ·have h1 : (i : Int) < (v.keys.len : Int) := by omega
  obtain ⟨s, hs, h2, _⟩ := at_step hi
  cases h3 : bless s key
  ·simp (config := { maxSteps := 10000000 }) +contextual only [exa, ne_eq, not_false_eq_true, Nat.reduceAdd, Nat.reduceMul, Nat.reduceLT, Nat.reduceLeDiff, Nat.reduceEqDiff, Int.reduceLT, Int.reduceLE, Int.reduceEq, Int.reduceToNat, hv, h1, h2, hs, h3, leadM, Bool.false_eq_true, if_false]
  ·simp (config := { maxSteps := 10000000 }) +contextual only [exa, ne_eq, not_false_eq_true, Nat.reduceAdd, Nat.reduceMul, Nat.reduceLT, Nat.reduceLeDiff, Nat.reduceEqDiff, Int.reduceLT, Int.reduceLE, Int.reduceEq, Int.reduceToNat, hv, h1, h2, hs, h3, leadM, if_true, wrapS i (by omega), ih]
   rw [show i + 1 + leadM key (v.keys.list.drop (i + 1)) = i + (leadM key (v.keys.list.drop (i + 1)) + 1) by omega]
def putK (v : VT) (key : List UInt8) (x : VT) (k : Nat) : VT :=
 if v.keys.list[k]? = some key then v else .mk v.kind v.b v.n v.s (.mk false (v.keys.list.take k ++ [key] ++ v.keys.list.drop k)) (.mk false (v.l.list.take k ++ [x] ++ v.l.list.drop k))
theorem vop_app {β : Type} {O : Oracle} {h : Heap} {d : Nat} {op : AOp} {v' : TVal} {h' : Heap} {t : AI.Touch} (e : ∀ (β : Type) (O : Oracle) (kt : TVal → Heap → AI.Touch → Option β), vtouch O op h d kt = kt v' h' t) (k : TVal → Heap → Option β) : vop O op h d k = k v' h' := by
 rw [vop_touch, e]
theorem put_end (v x : VT) (key : List UInt8) (k : Nat) (h : Heap) (hv : h.get (.own 3 1) = some (.cells (pcells v.row) 0)) (hx : h.get (.own 5 1) = some (.cells (pcells x.row) 0)) (h6 : ∃ cs, cs.length = 6 ∧ h.get (.own 6 1) = some (.cells cs 0))
  (hk : k ≤ v.keys.len) (hk2 : k ≤ v.l.len) (hl : v.keys.len ≤ 1000) (hl2 : v.l.len ≤ 1000) :
  lim tab.get S 34 0 2 [kS key, p3, p5, p6, kI (k : Int)] h = some (kA (putK v key x k).row, []) := by
 obtain ⟨cs, hcs, h6⟩ := h6
 rw [w34_2, b34_2]
 by_cases hkey : v.keys.list[k]? = some key
 ·have h1 : (k : Int) < (v.keys.len : Int) := by
   have := (List.getElem?_eq_some_iff.1 hkey).1
   unfold Sl.len; omega
  simp (config := { maxSteps := 10000000 }) +contextual only [exa, ne_eq, not_false_eq_true, Nat.reduceAdd, Nat.reduceMul, Nat.reduceLT, Nat.reduceLeDiff, Nat.reduceEqDiff, Int.reduceLT, Int.reduceLE, Int.reduceEq, Int.reduceToNat, hv, hx, h6, h1, hkey, hcs, BEq.rfl, putK, if_true, oneOf]
 ·obtain ⟨bk, hbk, pk⟩ := sl_take 1 sRow v.keys k hk
  obtain ⟨dk, hdk, qk⟩ := sl_drop 1 sRow v.keys k hk
  obtain ⟨bl, hbl, pl⟩ := sl_take 6 VT.row v.l k hk2
  obtain ⟨dl, hdl, ql⟩ := sl_drop 6 VT.row v.l k hk2
  have r1 : ∀ l : List (List UInt8), ∀ r ∈ l.map sRow, r.length = 1 := fun l r hr => by obtain ⟨_, _, rfl⟩ := List.mem_map.1 hr; rfl
  have r6 : ∀ l : List VT, ∀ r ∈ l.map VT.row, r.length = 6 := fun l r hr => by obtain ⟨a, _, rfl⟩ := List.mem_map.1 hr; exact VT.row_len a
  have n1 : v.keys.list.length ≤ 1000 := hl
  have n2 : v.l.list.length ≤ 1000 := hl2
  have m1 : ∀ l : List VT, (l.map VT.row).length = l.length := fun l => List.length_map _
  have m2 : ∀ l : List (List UInt8), (l.map sRow).length = l.length := fun l => List.length_map _
  obtain ⟨c1, h1, t1, G1, e1, T1, K1, I1, X1⟩ := gsApp (h := h) (d := 46) (D := [46, 56, 61]) (sz := 1) (by' := 16) (v := .p (.slice 1 true [])) (rows := []) hbk (.inr (.inl rfl)) (by decide) (r1 _) (by simp [m2]; omega) (by decide)
  obtain ⟨c2, h2, t2, G2, e2, T2, K2, I2, X2⟩ := gsApp (h := h1) (d := 52) (D := [52, 65, 70]) (sz := 6) (by' := 88) (v := .p (.slice 6 true [])) (rows := []) hbl (.inr (.inl rfl)) (by decide) (r6 _) (by simp [m1]; omega) (by decide)
  have G1' : GS [46, 56, 61] 1 c1 ([] ++ (v.keys.list.take k).map sRow) h2 := G1.keep fun e he g hh => K2 e g _ (by revert he; simp; omega) hh
  obtain ⟨c3, h3, t3, G3, e3, T3, K3, I3, X3⟩ := gsApp (h := h2) (d := 56) (sz := 1) (by' := 16) (new := [[.str key]]) (b := .slice 1 true [[.str key]]) (.inr ⟨_, rfl⟩) G1' (by decide) (fun r hr => by simp at hr; rw [hr]; rfl) (by simp [m2]; omega) (by decide)
  obtain ⟨c4, h4, t4, G4, e4, T4, K4, I4, X4⟩ := gsApp (d := 61) (by' := 16) hdk G3 (by decide) (r1 _) (by simp [m2]; omega) (by decide)
  have G2' : GS [52, 65, 70] 6 c2 ([] ++ (v.l.list.take k).map VT.row) h4 := G2.keep fun e he g hh => K4 e g _ (by revert he; simp; omega) (K3 e g _ (by revert he; simp; omega) hh)
  obtain ⟨c5, h5, t5, G5, e5, T5, K5, I5, X5⟩ := gsApp (d := 65) (by' := 88) (new := [x.row]) (b := .slice 6 true [x.row]) (.inr ⟨_, rfl⟩) G2' (by decide) (fun r hr => by simp at hr; rw [hr]; exact VT.row_len x) (by simp [m1]; omega) (by decide)
  obtain ⟨c6, h6', t6, G6, e6, T6, K6, I6, X6⟩ := gsApp (d := 70) (by' := 88) hdl G5 (by decide) (r6 _) (by simp [m1]; omega) (by decide)
  obtain ⟨ra, ea⟩ := X4 (.inr (X3 (.inl (by simp))))
  obtain ⟨rb, eb⟩ := X6 (.inr (X5 (.inl (by simp))))
  have keep : ∀ e o, e ∉ [46, 56, 61, 52, 65, 70] → h.get (.own e 1) = some o → (h1.get (.own e 1) = some o ∧ h2.get (.own e 1) = some o) ∧ (h3.get (.own e 1) = some o ∧ h4.get (.own e 1) = some o) ∧ h5.get (.own e 1) = some o ∧ h6'.get (.own e 1) = some o := by
   intro e o he ho
   have a1 := K1 e 1 o (by revert he; simp <;> omega) ho
   have a2 := K2 e 1 o (by revert he; simp <;> omega) a1
   have a3 := K3 e 1 o (by revert he; simp <;> omega) a2
   have a4 := K4 e 1 o (by revert he; simp <;> omega) a3
   have a5 := K5 e 1 o (by revert he; simp <;> omega) a4
   exact ⟨⟨a1, a2⟩, ⟨a3, a4⟩, a5, K6 e 1 o (by revert he; simp <;> omega) a5⟩
  obtain ⟨⟨v1, v2⟩, ⟨v3, v4⟩, v5, v6⟩ := keep 3 _ (by decide) hv
  obtain ⟨⟨x1, x2⟩, ⟨x3, x4⟩, x5, x6⟩ := keep 5 _ (by decide) hx
  obtain ⟨⟨y1, y2⟩, ⟨y3, y4⟩, y5, y6⟩ := keep 6 _ (by decide) h6
  have A1 : AI.Touch.apart t3 ⟨[(Ref.own 5 1).site], [], false⟩ = true := apart_look_r T3 5 (by decide)
  have A2 : AI.Touch.apart t4 ⟨[(Ref.own 5 1).site], [], false⟩ = true := apart_look_r T4 5 (by decide)
  have A3 : AI.Touch.apart t3 ⟨[(Ref.own 3 1).site], [], false⟩ = true := apart_look_r T3 3 (by decide)
  have A4 : AI.Touch.apart t4 ⟨[(Ref.own 3 1).site], [], false⟩ = true := apart_look_r T4 3 (by decide)
  have A5 : AI.Touch.apart t5 ⟨[(Ref.own 3 1).site], [], false⟩ = true := apart_look_r T5 3 (by decide)
  have P1 : put1 (pcells v.row) 4 [c4] = [.p (.int .i64 v.kind), .p (.bool v.b), .p (.int .i64 v.n), .p (.str v.s), c4, .p (slP 6 VT.row v.l)] := by rw [VT.row_eq]; rfl
  have P2 : ∀ a b c d f : Cell, put1 [a, b, c, d, c4, f] 5 [c6] = [a, b, c, d, c4, c6] := fun _ _ _ _ _ => rfl
  have P3 : ∀ a b c d f g : Cell, put1 cs 0 [a, b, c, d, f, g] = [a, b, c, d, f, g] := fun _ _ _ _ _ _ => put1_all _ _ (by rw [hcs]; rfl)
  have F : ∀ h, vfin true 0 [.agg [.p (.int .i64 v.kind), .p (.bool v.b), .p (.int .i64 v.n), .p (.str v.s), c4, c6]] h = some (kA (putK v key x k).row, []) := by
   intro h
   rw [ea, eb, x_finG _ rfl, putK, if_neg hkey, VT.row_eq (VT.mk _ _ _ _ _ _)]
   show _ = some (kA [.int .i64 v.kind, .bool v.b, .int .i64 v.n, .str v.s, slP 1 sRow (.mk false (v.keys.list.take k ++ [key] ++ v.keys.list.drop k)), slP 6 VT.row (.mk false (v.l.list.take k ++ [x] ++ v.l.list.drop k))], [])
   simp only [oneOf, slP, pcells, Comp.strip, Cell.strip, List.map_append, List.map_cons, List.map_nil, List.nil_append]
   rfl
  have B1 : ∀ {β : Type} {O : Oracle} {h : Heap} {d : Nat} {kt : TVal → Heap → AI.Touch → Option β}, vtouch O (.bslice 1 1 [.p (.str [])] [(0, .k (kS key))] false) h d kt = kt (kSl 1 true [[.str key]]) h noTouch := t_bslice1 _ _ rfl
  have B2 : ∀ {β : Type} {O : Oracle} {h : Heap} {d : Nat} {kt : TVal → Heap → AI.Touch → Option β}, vtouch O (.bslice 6 1 [.p (.int .i64 0), .p (.bool false), .p (.int .i64 0), .p (.str []), .p .nilslice, .p .nilslice] [(0, .k (.v (.agg (pcells x.row))))] false) h d kt = kt (kSl 6 true [x.row]) h noTouch := t_bslice1A 6 _ _ rfl (VT.row_len x)
  by_cases hlt : (k : Int) < (v.keys.len : Int)
  ·obtain ⟨s, hs, _, _⟩ := at_step (l := v.keys.list) (i := k) (by unfold Sl.len at hlt; omega)
   have hne : ¬ s = key := fun e => hkey (by rw [hs, e])
   simp (config := { maxSteps := 10000000 }) +contextual only [exa, ne_eq, not_false_eq_true, Nat.reduceAdd, Nat.reduceMul, Nat.reduceLT, Nat.reduceLeDiff, Nat.reduceEqDiff, Int.reduceLT, Int.reduceLE, Int.reduceEq, Int.reduceToNat, exY, hv, hx, h6, hlt, hs, hne, hcs, hkey, vplan _ _ pk, vplan _ _ pl, t_plan _ _ qk, t_plan _ _ ql, vop_app e1, vop_app e2, e3, e4, e5, e6, v1, v2, v3, v4, v5, v6, x1, x2, x3, x4, x5, x6, y6, B1, B2, t_store, A1, A2, A3, A4, A5, P1, P2, P3]
   exact F _
  ·simp (config := { maxSteps := 10000000 }) +contextual only [exa, ne_eq, not_false_eq_true, Nat.reduceAdd, Nat.reduceMul, Nat.reduceLT, Nat.reduceLeDiff, Nat.reduceEqDiff, Int.reduceLT, Int.reduceLE, Int.reduceEq, Int.reduceToNat, exY, hv, hx, h6, hlt, hcs, hkey, vplan _ _ pk, vplan _ _ pl, t_plan _ _ qk, t_plan _ _ ql, vop_app e1, vop_app e2, e3, e4, e5, e6, v1, v2, v3, v4, v5, v6, x1, x2, x3, x4, x5, x6, y6, B1, B2, t_store, A1, A2, A3, A4, A5, P1, P2, P3]
   exact F _
/-- A table whose keys and values are as many, not too many. -/
def evenT (n : Nat) (v : VT) : Prop := v.keys.len = v.l.len ∧ v.keys.len ≤ n
theorem put_ok (v x : VT) (key : List UInt8) (hv : evenT 1000 v) : Om 34 [kA v.row, kS key, kA x.row] [] = some (kA (putM v key x).row, []) := by
 obtain ⟨e, hl⟩ := hv
 refine (orc_none rfl).trans ?_
 show lim tab.get S 34 0 0 [kA v.row, kS key, kA x.row] h0 = _
 rw [w34_0, b34_0]
 have hk : leadM key v.keys.list ≤ v.keys.len := leadM_le _ _
 simp (config := { maxSteps := 10000000 }) +contextual only [exa, ne_eq, not_false_eq_true, Nat.reduceAdd, Nat.reduceMul, Nat.reduceLT, Nat.reduceLeDiff, Nat.reduceEqDiff, Int.reduceLT, Int.reduceLE, Int.reduceEq, Int.reduceToNat]
 refine (put_loop v key _ _ _ ?_ hl 0).trans ?_
 ·rfl
 rw [List.drop_zero, Nat.zero_add]
 exact put_end v x key _ _ rfl rfl ⟨_, rfl, rfl⟩ hk (e ▸ hk) hl (by omega)
theorem put_evenA (n : Nat) (k c : Int) (b : Bool) (s : List UInt8) (p : List (List UInt8)) (l : List VT) (x : VT) (key : List UInt8) (m : Nat) (hm : m ≤ p.length) (e : p.length = l.length) (hl : p.length ≤ n) : evenT (n + 1) (.mk k b c s (.mk false (p.take m ++ [key] ++ p.drop m)) (.mk false (l.take m ++ [x] ++ l.drop m))) := by
 have h1 : (p.take m ++ [key] ++ p.drop m).length = p.length + 1 := by simp; omega
 have h2 : (l.take m ++ [x] ++ l.drop m).length = l.length + 1 := by simp; omega
 constructor
 ·show (p.take m ++ [key] ++ p.drop m).length = (l.take m ++ [x] ++ l.drop m).length
  omega
 ·show (p.take m ++ [key] ++ p.drop m).length ≤ n + 1
  omega
theorem put_even (n : Nat) (v x : VT) (key : List UInt8) (hv : evenT n v) : evenT (n + 1) (putM v key x) := by
 obtain ⟨e, hl⟩ := hv
 unfold putM
 split
 ·exact ⟨e, by omega⟩
 ·exact put_evenA n _ _ _ _ _ _ _ _ _ (leadM_le _ _) e hl
end Go.Proofs.YtiahgnkffnokfaaGreatDoor.Ab
