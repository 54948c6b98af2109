/- Values made of raw ones: the walk. -/
import Derived.Test.YtiahgnkffnokfaaGreatDoorDgN
set_option linter.all false
set_option linter.unusedVariables false
set_option linter.unusedSimpArgs false
set_option maxRecDepth 100000
namespace Go.Proofs.YtiahgnkffnokfaaGreatDoor.Ab
open Go Go.AI
abbrev q2 : TVal := .v (.c (.ptr (.own 2 1) 0))
abbrev q4 : TVal := .v (.c (.ptr (.own 4 1) 0))
abbrev q6 : TVal := .v (.c (.ptr (.own 6 1) 0))
abbrev z6 : List Cell := [.p (.int .i64 0), .p (.bool false), .p (.int .i64 0), .p (.str []), .p .nilslice, .p .nilslice]
/-- Where Good stands. -/
structure GoodH (r : RT) (cs : List Cell) (h : Heap) : Prop where
 a2 : h.get (.own 2 1) = some (.cells (pcells r.row) 0)
 a4 : h.get (.own 4 1) = some (.cells z6 0)
 a6 : h.get (.own 6 1) = some (.cells cs 0)
theorem GoodH.put {r : RT} {cs : List Cell} {h : Heap} (H : GoodH r cs h) (cs' : List Cell) : GoodH r cs' (h.own 6 1 (.cells cs' 0)) :=
 ⟨(Heap.own_get_ne h 6 1 _ 2 1 (by decide)).trans H.a2, (Heap.own_get_ne h 6 1 _ 4 1 (by decide)).trans H.a4, own_getE h 6 1 _ 0 (by decide)⟩
theorem good_fin (r : RT) (cs : List Cell) (h : Heap) (H : GoodH r cs h) (hc : cs.length = 6) (hp : cs.all isPT = true) : lim tab.get S 16 0 5 [q4, q6] h = some (.v (.agg (cs.map Cell.strip)), []) := by
 rw [w16_5, b16_5]
 have ht : cs.take 6 = cs := List.take_of_length_le (by omega)
 have hz : put1 z6 0 cs = cs := put1_all _ _ hc
 simp (config := { maxSteps := 10000000 }) +contextual only [exa, ne_eq, not_false_eq_true, Nat.reduceAdd, Nat.reduceMul, Nat.reduceLT, Nat.reduceLeDiff, Nat.reduceEqDiff, Int.reduceLT, Int.reduceLE, Int.reduceEq, Int.reduceToNat, H.a4, H.a6, ht, hz, hc]
 exact x_finG _ (by show (cs.all isPT && true) = true; rw [hp]; rfl)
def GoodOK (x : RT) : Prop := ∀ d : Int, Om 16 [kA x.row, kI d] [] = some (kA (goodR x d).row, [])
theorem y31 {β : Type} {kt : TVal → Heap → AI.Touch → Option β} {h : Heap} {d : Nat} {x : RT} (ok : GoodOK x) (n : Int) : vtouch Om (.call (.k (.v (.c (.func 16 [])))) [.k (kA x.row), .k (kI n)]) h d kt = kt (kA (goodR x n).row) h noTouch :=
 t_call0 16 [kA x.row, kI n] _ (by simp only [exP]) (ok n) (by simp only [exP])
theorem good_list (r : RT) (deep : Int) (hl : r.kids.len ≤ 12) (ih : ∀ x ∈ r.kids.list, GoodOK x) :
  ∀ (i : Nat) (acc : List VT) (c : Cell) (h : Heap), acc.length ≤ i → GoodH r [.p (.int .i64 4), .p (.bool false), .p (.int .i64 0), .p (.str []), .p .nilslice, c] h → GS [60] 6 c (acc.map VT.row) h → (acc = [] → c = .p .nilslice) → (acc ≠ [] → ∃ q, c = .tsl 6 (acc.map VT.row) q) →
  lim tab.get S 16 0 2 [kI deep, q2, q4, q6, kI (i : Int)] h = some (kA (VT.mk 4 false 0 [] .nil (grown (acc ++ goodL (r.kids.list.drop i) (IntKind.i64.wrap (deep - 1))))).row, []) := by
 refine loop_up r.kids.len (fun i hi acc c h ha H G c0 c1 => ?_) (fun i hi ihl acc c h ha H G c0 c1 => ?_) <;> rw [w16_2, b16_2]
 ·have h1 : ¬ (i : Int) < (r.kids.len : Int) := by omega
  simp (config := { maxSteps := 10000000 }) +contextual only [exa, ne_eq, not_false_eq_true, Nat.reduceAdd, Nat.reduceMul, Nat.reduceLT, Nat.reduceLeDiff, Nat.reduceEqDiff, Int.reduceLT, Int.reduceLE, Int.reduceEq, Int.reduceToNat, exW, exY, H.a2, h1, at_end hi, goodL]
  refine (good_fin r _ h H rfl (by simp only [List.all_cons, List.all_nil, G.pt, Bool.and_true]; rfl)).trans ?_
  rw [VT.row_eq]
  cases acc with
  | nil => rw [c0 rfl]; rfl
  | cons a acc =>
   obtain ⟨q, e⟩ := c1 (by simp)
   rw [e, List.append_nil]; rfl
 ·have h1 : (i : Int) < (r.kids.len : Int) := by omega
  obtain ⟨x, hs, h2, hx⟩ := at_step hi
  have B2 : ∀ {β : Type} {O : Oracle} {h : Heap} {d : Nat} {kt : TVal → Heap → AI.Touch → Option β} (y : VT), vtouch O (.bslice 6 1 z6 [(0, .k (.v (.agg (pcells y.row))))] false) h d kt = kt (kSl 6 true [y.row]) h noTouch := fun y => t_bslice1A 6 _ _ rfl (VT.row_len y)
  obtain ⟨c', h', t', G', e', T', K', I', X'⟩ := gsApp (d := 60) (by' := 88) (new := [(goodR x (IntKind.i64.wrap (deep - 1))).row]) (b := .slice 6 true [(goodR x (IntKind.i64.wrap (deep - 1))).row]) (.inr ⟨_, rfl⟩) G (by decide) (fun r hr => by simp at hr; rw [hr]; exact VT.row_len _) (by simp <;> omega) (by decide)
  have H' : GoodH r [.p (.int .i64 4), .p (.bool false), .p (.int .i64 0), .p (.str []), .p .nilslice, c] h' := ⟨K' 2 1 _ (by decide) H.a2, K' 4 1 _ (by decide) H.a4, K' 6 1 _ (by decide) H.a6⟩
  have P1 : ∀ a b c d f g : Cell, put1 [a, b, c, d, f, g] 5 [c'] = [a, b, c, d, f, c'] := fun _ _ _ _ _ _ => rfl
  obtain ⟨q, eq⟩ := X' (.inl (by simp))
  simp (config := { maxSteps := 10000000 }) +contextual only [exa, ne_eq, not_false_eq_true, Nat.reduceAdd, Nat.reduceMul, Nat.reduceLT, Nat.reduceLeDiff, Nat.reduceEqDiff, Int.reduceLT, Int.reduceLE, Int.reduceEq, Int.reduceToNat, exW, exY, H.a2, H.a4, H.a6, H'.a2, H'.a4, H'.a6, h1, hs, y31 (ih x hx), B2, e', P1, t_store, wrapS i (by omega)]
  have G2 : GS [60] 6 c' ((acc ++ [goodR x (IntKind.i64.wrap (deep - 1))]).map VT.row) h' := by rw [List.map_append]; exact G'
  have := ihl (acc ++ [goodR x (IntKind.i64.wrap (deep - 1))]) c' _ (by simp; omega) (H'.put _) (G2.own 1 _ (by decide)) (fun e => absurd e (by simp)) (fun _ => ⟨q, by rw [eq, List.map_append]; rfl⟩)
  rw [List.append_assoc] at this
  rw [h2, goodL]
  exact this
theorem y81 {β : Type} {kt : TVal → Heap → AI.Touch → Option β} {h : Heap} {d : Nat} (v x : VT) (key : List UInt8) (hv : evenT 1000 v) : vtouch Om (.call (.k (.v (.c (.func 34 [])))) [.k (kA v.row), .k (kS key), .k (kA x.row)]) h d kt = kt (kA (putM v key x).row) h noTouch :=
 t_call0 34 [kA v.row, kS key, kA x.row] _ (by simp only [exP]) (put_ok v x key hv) (by simp only [exP])
theorem y79 {β : Type} {kt : TVal → Heap → AI.Touch → Option β} {h : Heap} {d : Nat} (a n : Int) (hn : 0 < n) (hs : n < 1000000) : vtouch Om (.call (.k (.v (.c (.func 12 [])))) [.k (kI a), .k (kI n)]) h d kt = kt (kI (withinM a n)) h noTouch :=
 t_call0 12 [kI a, kI n] _ (by simp only [exP]) (within79 a n hn hs) (by simp only [exP])
theorem key_at (n : Int) : (keyL.map sRow)[(withinM n 8).toNat]? = some (sRow (keyM n)) := by
 have h := withinM_lt n 8 (by decide)
 have h1 : (withinM n 8).toNat < keyL.length := by show _ < 8; omega
 rw [List.getElem?_map, List.getElem?_eq_getElem h1]
 unfold keyM
 rw [List.getD_eq_getElem?_getD, List.getElem?_eq_getElem h1]; rfl
theorem good_tab (r : RT) (deep : Int) (hl : r.kids.len ≤ 12) (hk : r.keys.len ≤ 12) (ih : ∀ x ∈ r.kids.list, GoodOK x) :
  ∀ (i : Nat) (v : VT) (h : Heap), evenT i v → GoodH r (pcells v.row) h →
  lim tab.get S 16 0 3 [kI deep, q2, q4, q6, kI (i : Int)] h = some (kA (tabM v (r.keys.list.drop i) (goodL (r.kids.list.drop i) (IntKind.i64.wrap (deep - 1)))).row, []) := by
 refine loop_up r.kids.len (fun i hi v h ev H => ?_) (fun i hi ihl v h ev H => ?_) <;> rw [w16_3, b16_3]
 ·have h1 : ¬ (i : Int) < (r.kids.len : Int) := by omega
  simp (config := { maxSteps := 10000000 }) +contextual only [exa, ne_eq, not_false_eq_true, Nat.reduceAdd, Nat.reduceMul, Nat.reduceLT, Nat.reduceLeDiff, Nat.reduceEqDiff, Int.reduceLT, Int.reduceLE, Int.reduceEq, Int.reduceToNat, exW, exY, H.a2, h1, at_end hi, goodL, tabM]
  refine (good_fin r _ h H (by rw [pcells_len, VT.row_len]) ?_).trans ?_
  ·show (pcells v.row).all isPT = true
   unfold pcells; rw [List.all_map, List.all_eq_true]; intro x _; rfl
  ·unfold pcells; rw [List.map_map]; rfl
 ·have h1 : (i : Int) < (r.kids.len : Int) := by omega
  obtain ⟨x, hs, h2, hx⟩ := at_step hi
  have B1 : ∀ {β : Type} {O : Oracle} {h : Heap} {d : Nat} {kt : TVal → Heap → AI.Touch → Option β}, vtouch O (.bslice 1 8 [.p (.str [])] [(0, .k (kS [97])), (1, .k (kS [98])), (2, .k (kS [99])), (3, .k (kS [110, 97, 109, 101])), (4, .k (kS [110])), (5, .k (kS [])), (6, .k (kS [120, 34, 121])), (7, .k (kS [10]))] false) h d kt = kt (kSl 1 true (keyL.map sRow)) h noTouch := t_plan _ _ rfl
  have step : ∀ n : Int, (r.keys.list.drop i).headD 0 = n → lim tab.get S 16 0 4 [kI deep, q2, q4, q6, kI (i : Int), kI n] h = some (kA (tabM v (r.keys.list.drop i) (goodL (r.kids.list.drop i) (IntKind.i64.wrap (deep - 1)))).row, []) := by
   intro n hn
   have wb := withinM_lt n 8 (by decide)
   rw [w16_4, b16_4, h2, goodL, tabM, hn]
   have P : put1 (pcells v.row) 0 (pcells (putM v (keyM n) (goodR x (IntKind.i64.wrap (deep - 1)))).row) = pcells (putM v (keyM n) (goodR x (IntKind.i64.wrap (deep - 1)))).row := put1_all _ _ (by rw [pcells_len, pcells_len, VT.row_len, VT.row_len])
   have ev' : evenT 1000 v := ⟨ev.1, by have := ev.2; omega⟩
   simp (config := { maxSteps := 10000000 }) +contextual only [exa, ne_eq, not_false_eq_true, Nat.reduceAdd, Nat.reduceMul, Nat.reduceLT, Nat.reduceLeDiff, Nat.reduceEqDiff, Int.reduceLT, Int.reduceLE, Int.reduceEq, Int.reduceToNat, exW, exY, H.a2, H.a4, H.a6, h1, hs, y31 (ih x hx), y79 n 8 (by decide) (by decide), y81 v _ _ ev', key_at, wb.1, B1, P, t_store, wrapS i (by omega)]
   have := ihl _ _ (put_even i v (goodR x (IntKind.i64.wrap (deep - 1))) (keyM n) ev) (H.put _)
   rw [← List.tail_drop] at this
   exact this
  by_cases h3 : (i : Int) < (r.keys.len : Int)
  ·obtain ⟨n, hn, h4, _⟩ := at_step (l := r.keys.list) (i := i) (by unfold Sl.len at h3; omega)
   simp (config := { maxSteps := 10000000 }) +contextual only [exa, ne_eq, not_false_eq_true, Nat.reduceAdd, Nat.reduceMul, Nat.reduceLT, Nat.reduceLeDiff, Nat.reduceEqDiff, Int.reduceLT, Int.reduceLE, Int.reduceEq, Int.reduceToNat, exW, exY, H.a2, h1, h3, hn]
   exact step n (by rw [h4]; rfl)
  ·simp (config := { maxSteps := 10000000 }) +contextual only [exa, ne_eq, not_false_eq_true, Nat.reduceAdd, Nat.reduceMul, Nat.reduceLT, Nat.reduceLeDiff, Nat.reduceEqDiff, Int.reduceLT, Int.reduceLE, Int.reduceEq, Int.reduceToNat, exW, exY, H.a2, h1, h3]
   exact step 0 (by rw [at_end (l := r.keys.list) (i := i) (by unfold Sl.len at h3; omega)]; rfl)
theorem pv_strip (r : List PVal) : (pcells r).map Cell.strip = pcells r := by unfold pcells; rw [List.map_map]; rfl
theorem pv_pt (r : List PVal) : (pcells r).all isPT = true := by unfold pcells; rw [List.all_map, List.all_eq_true]; intro x _; rfl
/-- What is made of the kind once it is known. -/
theorem good_kind (r : RT) (deep kk : Int) (hs : smR r) (hk : kk = kindM r.kind deep) (ih : ∀ x ∈ r.kids.list, GoodOK x) (h : Heap) (a2 : h.get (.own 2 1) = some (.cells (pcells r.row) 0)) (a4 : h.get (.own 4 1) = some (.cells z6 0)) (hg : h.gen 6 = 0) :
  lim tab.get S 16 0 1 [kI deep, q2, q4, kI kk] h = some (kA (goodR r deep).row, []) := by
 obtain ⟨s1, s2, s3, _⟩ := (smR_eq r).1 hs
 rw [w16_1, b16_1, goodR_eq, ← hk]
 have H : ∀ cs, GoodH r cs (h.own 6 1 (.cells cs 0)) := fun cs => ⟨(Heap.own_get_ne h 6 1 _ 2 1 (by decide)).trans a2, (Heap.own_get_ne h 6 1 _ 4 1 (by decide)).trans a4, own_getE h 6 1 _ 0 (by decide)⟩
 have H2 : ∀ cs cs', GoodH r cs' ((h.own 6 1 (.cells cs 0)).own 6 1 (.cells cs' 0)) := fun cs cs' => (H cs).put cs'
 have H3 : ∀ cs cs' cs'', GoodH r cs'' (((h.own 6 1 (.cells cs 0)).own 6 1 (.cells cs' 0)).own 6 1 (.cells cs'' 0)) := fun cs cs' cs'' => (H2 cs cs').put cs''
 have F : ∀ (cs : List Cell) (h : Heap) (v : VT), GoodH r cs h → cs = pcells v.row → lim tab.get S 16 0 5 [q4, q6] h = some (kA v.row, []) := by
  intro cs h v H e
  subst e
  refine (good_fin r _ h H (by rw [pcells_len, VT.row_len]) (pv_pt _)).trans ?_
  rw [pv_strip]
 by_cases k1 : kk = 1
 ·rw [k1]
  simp (config := { maxSteps := 10000000 }) +contextual only [exa, ne_eq, not_false_eq_true, Nat.reduceAdd, Nat.reduceMul, Nat.reduceLT, Nat.reduceLeDiff, Nat.reduceEqDiff, Int.reduceLT, Int.reduceLE, Int.reduceEq, Int.reduceToNat, exW, exY, a2, a4, hg, goodK, if_true, vbin_rem 0 .i64 r.n 2 (by decide)]
  exact F _ _ _ (H3 _ _ _) rfl
 by_cases k2 : kk = 2
 ·rw [k2]
  simp (config := { maxSteps := 10000000 }) +contextual only [exa, ne_eq, not_false_eq_true, Nat.reduceAdd, Nat.reduceMul, Nat.reduceLT, Nat.reduceLeDiff, Nat.reduceEqDiff, Int.reduceLT, Int.reduceLE, Int.reduceEq, Int.reduceToNat, exW, exY, a2, a4, hg, goodK, if_true, if_false]
  exact F _ _ _ (H3 _ _ _) rfl
 by_cases k3 : kk = 3
 ·rw [k3]
  simp (config := { maxSteps := 10000000 }) +contextual only [exa, ne_eq, not_false_eq_true, Nat.reduceAdd, Nat.reduceMul, Nat.reduceLT, Nat.reduceLeDiff, Nat.reduceEqDiff, Int.reduceLT, Int.reduceLE, Int.reduceEq, Int.reduceToNat, exW, exY, a2, a4, hg, goodK, if_true, if_false, u80 r.s (by omega)]
  exact F _ _ _ (H3 _ _ _) rfl
 by_cases k4 : kk = 4
 ·rw [k4]
  simp (config := { maxSteps := 10000000 }) +contextual only [exa, ne_eq, not_false_eq_true, Nat.reduceAdd, Nat.reduceMul, Nat.reduceLT, Nat.reduceLeDiff, Nat.reduceEqDiff, Int.reduceLT, Int.reduceLE, Int.reduceEq, Int.reduceToNat, exW, exY, a2, a4, hg, goodK, if_true, if_false]
  exact good_list r deep s1 ih 0 [] _ _ (Nat.le_refl _) (H2 _ _) (.inl ⟨rfl, rfl⟩) (fun _ => rfl) (fun e => absurd rfl e)
 by_cases k5 : kk = 5
 ·rw [k5]
  simp (config := { maxSteps := 10000000 }) +contextual only [exa, ne_eq, not_false_eq_true, Nat.reduceAdd, Nat.reduceMul, Nat.reduceLT, Nat.reduceLeDiff, Nat.reduceEqDiff, Int.reduceLT, Int.reduceLE, Int.reduceEq, Int.reduceToNat, exW, exY, a2, a4, hg, goodK, if_true, if_false]
  refine (good_tab r deep s1 s3 ih 0 (v0 5) _ ⟨rfl, Nat.le_refl _⟩ (H2 _ _)).trans ?_
  rw [List.drop_zero, List.drop_zero]
 ·simp (config := { maxSteps := 10000000 }) +contextual only [exa, ne_eq, not_false_eq_true, Nat.reduceAdd, Nat.reduceMul, Nat.reduceLT, Nat.reduceLeDiff, Nat.reduceEqDiff, Int.reduceLT, Int.reduceLE, Int.reduceEq, Int.reduceToNat, exW, exY, a2, a4, hg, k1, k2, k3, k4, k5, goodK, if_false]
  exact F _ _ _ (H2 _ _) rfl
theorem good_ok : ∀ (n : Nat) (r : RT), SizeOf.sizeOf r < n → smR r → GoodOK r := by
 intro n
 induction n with
 | zero => intro r h; omega
 | succ n ihn =>
  intro r hs sm deep
  have ih : ∀ x ∈ r.kids.list, GoodOK x := fun x hx => ihn x (by have := RT.mem_size hx; omega) (((smR_eq r).1 sm).2.2.2 x hx)
  refine (orc_none rfl).trans ?_
  show lim tab.get S 16 0 0 [kA r.row, kI deep] h0 = _
  rw [w16_0, b16_0]
  by_cases h1 : deep ≤ 1
  ·have h1' : ¬ (1 : Int) < deep := by omega
   by_cases h2 : 4 ≤ withinM r.kind 6
   ·have h2' : ¬ withinM r.kind 6 < 4 := by omega
    simp (config := { maxSteps := 10000000 }) +contextual only [exa, ne_eq, not_false_eq_true, Nat.reduceAdd, Nat.reduceMul, Nat.reduceLT, Nat.reduceLeDiff, Nat.reduceEqDiff, Int.reduceLT, Int.reduceLE, Int.reduceEq, Int.reduceToNat, exW, exY, u79 r.kind 6 (by decide) (by decide), h1, h1', h2, h2']
    exact good_kind r deep 2 sm (by unfold kindM; rw [if_pos ⟨h1, h2⟩]) ih _ rfl rfl rfl
   ·have h2' : withinM r.kind 6 < 4 := by omega
    simp (config := { maxSteps := 10000000 }) +contextual only [exa, ne_eq, not_false_eq_true, Nat.reduceAdd, Nat.reduceMul, Nat.reduceLT, Nat.reduceLeDiff, Nat.reduceEqDiff, Int.reduceLT, Int.reduceLE, Int.reduceEq, Int.reduceToNat, exW, exY, u79 r.kind 6 (by decide) (by decide), h1, h1', h2, h2']
    exact good_kind r deep _ sm (by unfold kindM; rw [if_neg (fun x => h2 x.2)]) ih _ rfl rfl rfl
  ·have h1' : (1 : Int) < deep := by omega
   simp (config := { maxSteps := 10000000 }) +contextual only [exa, ne_eq, not_false_eq_true, Nat.reduceAdd, Nat.reduceMul, Nat.reduceLT, Nat.reduceLeDiff, Nat.reduceEqDiff, Int.reduceLT, Int.reduceLE, Int.reduceEq, Int.reduceToNat, exW, exY, u79 r.kind 6 (by decide) (by decide), h1, h1']
   exact good_kind r deep _ sm (by unfold kindM; rw [if_neg (fun x => h1 x.1)]) ih _ rfl rfl rfl
theorem u31 {β : Type} {k : TVal → Heap → Option β} {h : Heap} {d : Nat} (r : RT) (sm : smR r) (n : Int) : vcall Om (.v (.c (.func 16 []))) [kA r.row, kI n] h d k = k (kA (goodR r n).row) h := vcall_pure 16 _ _ (by simp only [exP]) (good_ok _ r (Nat.lt_succ_self _) sm n) (by simp only [exP])
end Go.Proofs.YtiahgnkffnokfaaGreatDoor.Ab
