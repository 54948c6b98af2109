/- Values of their own. -/
import Derived.Test.YtiahgnkffnokfaaGreatDoorDgM
import Derived.Test.YtiahgnkffnokfaaGreatDoorMaU
set_option linter.all false
set_option linter.unusedVariables false
set_option linter.unusedSimpArgs false
set_option maxRecDepth 100000
namespace Go.Proofs.YtiahgnkffnokfaaGreatDoor.Ab
open Go Go.AI
def cloneS {α : Type} : Sl α → Sl α
 | .nil => .nil
 | .mk _ [] => .mk true []
 | .mk _ (a :: l) => .mk false (a :: l)
theorem cloneS_list {α : Type} (s : Sl α) : (cloneS s).list = s.list := by
 match s with
 | .nil => rfl
 | .mk _ [] => rfl
 | .mk _ (a :: l) => rfl
theorem eqNil_nil {β : Type} {h : Heap} {k : TVal → Heap → Option β} : vbin .eql 2 kNil (.v (.c (.p .nilslice))) h k = k (kB true) h := vbin_of _ _ _ _ _ rfl
theorem eqNil_sl {β : Type} {h : Heap} {k : TVal → Heap → Option β} (sz : Nat) (t : Bool) (rows : List (List PVal)) : vbin .eql 2 (kSl sz t rows) (.v (.c (.p .nilslice))) h k = k (kB false) h := vbin_of _ _ _ _ _ rfl
theorem app00 {β : Type} {O : Oracle} {h : Heap} {d : Nat} {k : TVal → Heap → Option β} (t : Bool) : vop O (.append 1 16 false (.k (kSl 1 true [])) (.k (kSl 1 t []))) h d k = k (kSl 1 true []) h := by
 show opK O _ .nil h d k = _
 rw [opK_eq]; rfl
theorem clone132 (s : Sl (List UInt8)) (hl : s.len ≤ 1000000) : Om 62 [.v (.c (.p (slP 1 sRow s)))] [] = some (.v (.c (.p (slP 1 sRow (cloneS s)))), []) := by
 refine (orc_none rfl).trans ?_
 show lim tab.get S 62 0 0 [.v (.c (.p (slP 1 sRow s)))] h0 = _
 rw [w62_0, b62_0]
 match s, hl with
 | .nil, _ =>
  simp (config := { maxSteps := 10000000 }) +contextual only [exa, ne_eq, not_false_eq_true, Nat.reduceAdd, Nat.reduceMul, Nat.reduceLT, Nat.reduceLeDiff, Nat.reduceEqDiff, Int.reduceLT, Int.reduceLE, Int.reduceEq, Int.reduceToNat, slP, eqNil_nil, cloneS, oneOf]
 | .mk t [], _ =>
  simp (config := { maxSteps := 10000000 }) +contextual only [exa, ne_eq, not_false_eq_true, Nat.reduceAdd, Nat.reduceMul, Nat.reduceLT, Nat.reduceLeDiff, Nat.reduceEqDiff, Int.reduceLT, Int.reduceLE, Int.reduceEq, Int.reduceToNat, slP, eqNil_sl, cloneS, oneOf, List.map_nil, t_bslice0, app00]
 | .mk t (a :: l), hl =>
  obtain ⟨c', h', t', G', e', T', K', I', X'⟩ := gsApp (h := h0) (d := 7) (D := [7]) (sz := 1) (by' := 16) (v := .p (.slice 1 true [])) (rows := []) (new := (a :: l).map sRow) (b := .slice 1 t ((a :: l).map sRow)) (.inr ⟨_, rfl⟩) (.inr (.inl rfl)) (by decide) (fun r hr => by obtain ⟨x, _, rfl⟩ := List.mem_map.1 hr; rfl) (by simp [Sl.len, Sl.list] at hl ⊢; omega) (by decide)
  obtain ⟨q, eq⟩ := X' (.inl (by simp))
  simp (config := { maxSteps := 10000000 }) +contextual only [exa, ne_eq, not_false_eq_true, Nat.reduceAdd, Nat.reduceMul, Nat.reduceLT, Nat.reduceLeDiff, Nat.reduceEqDiff, Int.reduceLT, Int.reduceLE, Int.reduceEq, Int.reduceToNat, slP, eqNil_sl, cloneS, oneOf, vop_app e']
  rw [eq, x_finG _ rfl]
  rfl
theorem y132 {β : Type} {kt : TVal → Heap → AI.Touch → Option β} {h : Heap} {d : Nat} (s : Sl (List UInt8)) (hl : s.len ≤ 1000000) : vtouch Om (.call (.k (.v (.c (.func 62 [])))) [.k (.v (.c (.p (slP 1 sRow s))))]) h d kt = kt (.v (.c (.p (slP 1 sRow (cloneS s))))) h noTouch :=
 t_call0 62 [.v (.c (.p (slP 1 sRow s)))] _ (by simp only [exP]) (clone132 s hl) (by simp only [exP])
def capO {α : Type} (l : List α) : Option Nat := match l with
 | [] => some 0
 | _ => none
theorem clone105_nil : Om 63 [kNil] [] = some (kNil, []) := by
 refine (orc_none rfl).trans ?_
 show lim tab.get S 63 0 0 [kNil] h0 = _
 rw [w63_0, b63_0]
 simp (config := { maxSteps := 10000000 }) +contextual only [exa, ne_eq, not_false_eq_true, Nat.reduceAdd, Nat.reduceMul, Nat.reduceLT, Nat.reduceLeDiff, Nat.reduceEqDiff, Int.reduceLT, Int.reduceLE, Int.reduceEq, Int.reduceToNat, eqNil_nil]
theorem clone105 (t : Bool) (l : List VT) (hl : l.length ≤ 1000000) : Om 63 [kSl 6 t (l.map VT.row)] [] = some (.v (.c (.sref (.im 0) 0 l.length (capO l) 6)), [.cells (pcells (l.map VT.row).flatten) 0]) := by
 refine (orc_none rfl).trans ?_
 show lim tab.get S 63 0 0 [kSl 6 t (l.map VT.row)] h0 = _
 rw [w63_0, b63_0]
 have g0 : (h0.push (.cells [] 0)).get (.im h0.ims.length) = some (.cells [] 0) := Heap.get_push_eq h0 (fun e => by cases e)
 cases l with
 | nil =>
  have A : ∀ {β : Type} {k : TVal → Heap → Option β} {d : Nat}, vop Om (.append 6 88 true (.k (.v (.c (.sref (.im h0.ims.length) 0 0 (some 0) 6)))) (.k (kSl 6 t []))) (h0.push (.cells [] 0)) d k = k (.v (.c (.sref (.im h0.ims.length) 0 0 (some 0) 6))) (h0.push (.cells [] 0)) := x_appendH0 (.inr ⟨_, rfl⟩) g0
  simp (config := { maxSteps := 10000000 }) +contextual only [exa, ne_eq, not_false_eq_true, Nat.reduceAdd, Nat.reduceMul, Nat.reduceLT, Nat.reduceLeDiff, Nat.reduceEqDiff, Int.reduceLT, Int.reduceLE, Int.reduceEq, Int.reduceToNat, eqNil_sl, List.map_nil, x_bsliceH, A]
  exact fin_row 0 0 6 (some 0) [] rfl
 | cons a l =>
  have A : ∀ {β : Type} {k : TVal → Heap → Option β} {d : Nat}, vop Om (.append 6 88 true (.k (.v (.c (.sref (.im h0.ims.length) 0 0 (some 0) 6)))) (.k (kSl 6 t ((a :: l).map VT.row)))) (h0.push (.cells [] 0)) d k = k (.v (.c (.sref (.im (h0.push (.cells [] 0)).ims.length) 0 ((a :: l).map VT.row).length none 6))) ((h0.push (.cells [] 0)).push (.cells (pcells ((a :: l).map VT.row).flatten) 0)) :=
   x_appendH (.inr ⟨_, rfl⟩) (by simp) (by rw [List.length_map]; omega) g0
  simp (config := { maxSteps := 10000000 }) +contextual only [exa, ne_eq, not_false_eq_true, Nat.reduceAdd, Nat.reduceMul, Nat.reduceLT, Nat.reduceLeDiff, Nat.reduceEqDiff, Int.reduceLT, Int.reduceLE, Int.reduceEq, Int.reduceToNat, eqNil_sl, x_bsliceH, A]
  rw [List.length_map]
  exact fin_row 1 _ 6 none _ rfl
mutual
def ownV : VT → VT
 | .mk k b n s ks l => .mk k b n s (cloneS ks) (ownS l)
def ownS : Sl VT → Sl VT
 | .nil => .nil
 | .mk _ [] => .mk true []
 | .mk _ (v :: l) => .mk false (ownV v :: ownL l)
def ownL : List VT → List VT
 | [] => []
 | v :: l => ownV v :: ownL l
end
theorem ownL_eq : ∀ l : List VT, ownL l = l.map ownV
 | [] => by simp [ownL]
 | v :: l => by simp [ownL, ownL_eq l]
theorem ownS_mk (t : Bool) (l : List VT) : ownS (.mk t l) = .mk (capO l == some l.length) (l.map ownV) := by
 cases l with
 | nil => simp [ownS, capO]
 | cons a l => simp [ownS, capO, ownL_eq]
theorem ownV_eq (v : VT) : ownV v = .mk v.kind v.b v.n v.s (cloneS v.keys) (ownS v.l) := by cases v; rfl
mutual
def smV : VT → Prop
 | .mk k b n s ks l => s.length ≤ 100000 ∧ ks.len ≤ 1000 ∧ l.len ≤ 1000 ∧ smVS l
def smVS : Sl VT → Prop
 | .nil => True
 | .mk _ l => smVL l
def smVL : List VT → Prop
 | [] => True
 | r :: rs => smV r ∧ smVL rs
end
theorem smVL_eq : ∀ l : List VT, smVL l ↔ ∀ x ∈ l, smV x
 | [] => by simp [smVL]
 | r :: l => by simp [smVL, smVL_eq l]
theorem smV_eq (r : VT) : smV r ↔ r.s.length ≤ 100000 ∧ r.keys.len ≤ 1000 ∧ r.l.len ≤ 1000 ∧ ∀ x ∈ r.l.list, smV x := by
 cases r with
 | mk k b n s ks l =>
  rw [smV, ← smVL_eq]
  cases l <;> simp [smVS, smVL, Sl.list, VT.keys, VT.s, VT.l]
def OwnOK (x : VT) : Prop := Om 38 [kA x.row] [] = some (kA (ownV x).row, [])
theorem y156 {β : Type} {kt : TVal → Heap → AI.Touch → Option β} {h : Heap} {d : Nat} {x : VT} (ok : OwnOK x) : vtouch Om (.call (.k (.v (.c (.func 38 [])))) [.k (kA x.row)]) h d kt = kt (kA (ownV x).row) h noTouch :=
 t_call0 38 [kA x.row] _ (by simp only [exP]) ok (by simp only [exP])
abbrev o1 : TVal := .v (.c (.ptr (.own 1 1) 0))
abbrev o2 : TVal := .v (.c (.ptr (.own 2 1) 0))
theorem own_fin (v : VT) (cs : List Cell) (h : Heap) (hc : cs.length = 6) (X : Option (TVal × List AObj)) (a1 : h.get (.own 1 1) = some (.cells cs 0)) (a2 : h.get (.own 2 1) = some (.cells [.p (.int .i64 0), .p (.bool false), .p (.int .i64 0), .p (.str []), .p .nilslice, .p .nilslice] 0)) (hx : ∀ h', (∀ i, h'.get (.im i) = h.get (.im i)) → vfin true 0 [.agg cs] h' = X) : lim tab.get S 38 0 2 [o1, o2] h = X := by
 rw [w38_2, b38_2]
 have ht : cs.take 6 = cs := List.take_of_length_le (by omega)
 have hz : put1 [.p (.int .i64 0), .p (.bool false), .p (.int .i64 0), .p (.str []), .p .nilslice, .p .nilslice] 0 cs = cs := put1_all _ _ hc
 simp (config := { maxSteps := 10000000 }) +contextual only [exa, ne_eq, not_false_eq_true, Nat.reduceAdd, Nat.reduceMul, Nat.reduceLT, Nat.reduceLeDiff, Nat.reduceEqDiff, Int.reduceLT, Int.reduceLE, Int.reduceEq, Int.reduceToNat, a1, a2, ht, hz, hc]
 exact hx _ (fun i => rfl)
def rowsAt (l : List VT) (i : Nat) : List (List PVal) := (l.take i).map (fun v => (ownV v).row) ++ (l.drop i).map VT.row
theorem rowsAt_len (l : List VT) (i : Nat) : (rowsAt l i).length = l.length := by unfold rowsAt; rw [List.length_append, List.length_map, List.length_map, List.length_take, List.length_drop]; omega
theorem rowsAt_six (l : List VT) (i : Nat) : ∀ r ∈ rowsAt l i, r.length = 6 := by
 intro r hr
 rcases List.mem_append.1 hr with h | h
 ·obtain ⟨a, _, rfl⟩ := List.mem_map.1 h; exact VT.row_len _
 ·obtain ⟨a, _, rfl⟩ := List.mem_map.1 h; exact VT.row_len _
theorem rowsAt_get (l : List VT) (i : Nat) (x : VT) (hx : l[i]? = some x) : (rowsAt l i)[i]? = some x.row := by
 obtain ⟨hi, e⟩ := List.getElem?_eq_some_iff.1 hx
 unfold rowsAt
 rw [List.getElem?_append_right (by simp; omega), List.length_map, List.length_take, Nat.min_eq_left (by omega), Nat.sub_self, List.getElem?_map, List.getElem?_drop, Nat.add_zero, hx]; rfl
theorem rowsAt_set (l : List VT) (i : Nat) (x : VT) (hx : l[i]? = some x) : (rowsAt l i).set i (ownV x).row = rowsAt l (i + 1) := by
 obtain ⟨hi, e⟩ := List.getElem?_eq_some_iff.1 hx
 unfold rowsAt
 have h1 : ((l.take i).map (fun v => (ownV v).row)).length = i := by rw [List.length_map, List.length_take]; omega
 rw [List.set_append_right _ _ (by omega), h1, Nat.sub_self, List.drop_eq_getElem_cons hi, List.map_cons, List.set_cons_zero, List.take_succ_eq_append_getElem hi, List.map_append, e]
 simp
theorem rowsAt_all (l : List VT) : rowsAt l l.length = (l.map ownV).map VT.row := by unfold rowsAt; simp
abbrev ownC (v : VT) (n : Nat) (cap : Option Nat) : List Cell := [.p (.int .i64 v.kind), .p (.bool v.b), .p (.int .i64 v.n), .p (.str v.s), .p (slP 1 sRow (cloneS v.keys)), .sref (.im 0) 0 n cap 6]
theorem own_loop (v : VT) (l : List VT) (hl : l.length ≤ 1000) (ih : ∀ x ∈ l, OwnOK x) : ∀ (i : Nat) (h : Heap), i ≤ l.length → h.get (.own 1 1) = some (.cells (ownC v l.length (capO l)) 0) → h.get (.own 2 1) = some (.cells [.p (.int .i64 0), .p (.bool false), .p (.int .i64 0), .p (.str []), .p .nilslice, .p .nilslice] 0) → h.get (.im 0) = some (.cells (pcells (rowsAt l i).flatten) 0) →
  lim tab.get S 38 0 1 [o1, o2, .v (.c (.sref (.im 0) 0 l.length (capO l) 6)), kI (l.length : Int), kI (i : Int)] h = some (kA [.int .i64 v.kind, .bool v.b, .int .i64 v.n, .str v.s, slP 1 sRow (cloneS v.keys), .slice 6 (capO l == some l.length) ((l.map ownV).map VT.row)], []) := by
 refine loop_up l.length (fun i hi h hle a1 a2 a3 => ?_) (fun i hi ihl h hle a1 a2 a3 => ?_) <;> rw [w38_1, b38_1]
 ·have h1 : ¬ (i : Int) < (l.length : Int) := by omega
  have hil : i = l.length := by omega
  subst hil
  simp (config := { maxSteps := 10000000 }) +contextual only [exa, ne_eq, not_false_eq_true, Nat.reduceAdd, Nat.reduceMul, Nat.reduceLT, Nat.reduceLeDiff, Nat.reduceEqDiff, Int.reduceLT, Int.reduceLE, Int.reduceEq, Int.reduceToNat, h1]
  refine own_fin v _ h rfl _ a1 a2 (fun h' him => ?_)
  have e := fin_last (h := h') 0 6 (capO l) [.int .i64 v.kind, .bool v.b, .int .i64 v.n, .str v.s, slP 1 sRow (cloneS v.keys)] (rowsAt l l.length) (rowsAt_six l _) ((him 0).trans a3)
  rw [rowsAt_len, rowsAt_all] at e
  exact e
 ·have h1 : (i : Int) < (l.length : Int) := by omega
  obtain ⟨x, hs, h2, hx⟩ := at_step hi
  have f1 := flat_at (rowsAt_six l i) i _ (rowsAt_get l i x hs)
  have f2 := flat_put (rowsAt_six l i) i (by rw [rowsAt_len]; exact hi) _ (VT.row_len (ownV x))
  rw [rowsAt_set l i x hs] at f2
  have hlen : (pcells (rowsAt l i).flatten).length = l.length * 6 := by rw [flat_len (rowsAt_six l i), rowsAt_len]
  have g1 : i * 6 + 6 ≤ l.length * 6 := by omega
  have z1 : 0 + i * 6 = i * 6 := by omega
  have P0 : ∀ xs : List PVal, xs.length = 6 → put1 [.p (.int .i64 0), .p (.bool false), .p (.int .i64 0), .p (.str []), .p .nilslice, .p .nilslice] 0 (pcells xs) = pcells xs := fun xs hx => put1_all _ _ (by rw [pcells_len, hx]; rfl)
  have a3' : ∀ g o, (h.own 4 g o).get (.im 0) = some (.cells (pcells (rowsAt l i).flatten) 0) := fun _ _ => a3
  simp (config := { maxSteps := 10000000 }) +contextual only [exa, ne_eq, not_false_eq_true, Nat.reduceAdd, Nat.reduceMul, Nat.reduceLT, Nat.reduceLeDiff, Nat.reduceEqDiff, Int.reduceLT, Int.reduceLE, Int.reduceEq, Int.reduceToNat, exY, h1, hi, a1, a2, a3, f1, f2, hlen, g1, z1, Nat.zero_le, P0 _ (VT.row_len x), y156 (ih x hx), t_store, wrapS i (by omega)]
  exact ihl _ (by omega) ((Heap.own_get_ne _ 4 _ _ 1 1 (by decide)).trans ((Heap.own_get_ne h 4 _ _ 1 1 (by decide)).trans a1)) ((Heap.own_get_ne _ 4 _ _ 2 1 (by decide)).trans ((Heap.own_get_ne h 4 _ _ 2 1 (by decide)).trans a2)) (get_put_im _ 0 _ _ (by show (h.get (.im 0)).isSome = true; rw [a3]; rfl))
theorem own_ok : ∀ (m : Nat) (v : VT), SizeOf.sizeOf v < m → smV v → OwnOK v := by
 intro m
 induction m with
 | zero => intro v h; omega
 | succ m ihm =>
  intro v hs sm
  obtain ⟨s1, s2, s3, s4⟩ := (smV_eq v).1 sm
  have ih : ∀ x ∈ v.l.list, OwnOK x := fun x hx => ihm x (by have := VT.mem_size hx; omega) (s4 x hx)
  refine (orc_none rfl).trans ?_
  show lim tab.get S 38 0 0 [kA v.row] h0 = _
  rw [w38_0, b38_0, ownV_eq]
  have P1 : put1 (pcells v.row) 4 [.p (slP 1 sRow (cloneS v.keys))] = [.p (.int .i64 v.kind), .p (.bool v.b), .p (.int .i64 v.n), .p (.str v.s), .p (slP 1 sRow (cloneS v.keys)), .p (slP 6 VT.row v.l)] := by rw [VT.row_eq]; rfl
  have P2 : ∀ a b c d f g x : Cell, put1 [a, b, c, d, f, g] 5 [x] = [a, b, c, d, f, x] := fun _ _ _ _ _ _ _ => rfl
  cases hl : v.l with
  | nil =>
   have Y : ∀ {β : Type} {kt : TVal → Heap → AI.Touch → Option β} {h : Heap} {d : Nat}, vtouch Om (.call (.k (.v (.c (.func 63 [])))) [.k (.v (.c (.p (slP 6 VT.row v.l))))]) h d kt = kt kNil h noTouch := fun {β kt h d} => by rw [hl]; exact t_call0 63 [kNil] _ rfl clone105_nil rfl
   simp (config := { maxSteps := 10000000 }) +contextual only [exa, ne_eq, not_false_eq_true, Nat.reduceAdd, Nat.reduceMul, Nat.reduceLT, Nat.reduceLeDiff, Nat.reduceEqDiff, Int.reduceLT, Int.reduceLE, Int.reduceEq, Int.reduceToNat, exY, y132 v.keys (by omega), Y, P1, P2, t_store]
   rw [w38_1, b38_1]
   simp (config := { maxSteps := 10000000 }) +contextual only [exa, ne_eq, not_false_eq_true, Nat.reduceAdd, Nat.reduceMul, Nat.reduceLT, Nat.reduceLeDiff, Nat.reduceEqDiff, Int.reduceLT, Int.reduceLE, Int.reduceEq, Int.reduceToNat]
   refine own_fin v _ _ rfl _ rfl rfl (fun h' _ => ?_)
   refine (x_finG _ rfl).trans ?_
   rw [VT.row_eq]; rfl
  | mk t l =>
   have hll : l.length ≤ 1000 := by rw [hl] at s3; exact s3
   have ih' : ∀ x ∈ l, OwnOK x := fun x hx => ih x (by rw [hl]; exact hx)
   have Y : ∀ {β : Type} {kt : TVal → Heap → AI.Touch → Option β} {h : Heap} {d : Nat}, vtouch Om (.call (.k (.v (.c (.func 63 [])))) [.k (.v (.c (.p (slP 6 VT.row v.l))))]) h d kt = kt (.v (.c (.sref (.im h.ims.length) 0 l.length (capO l) 6))) (h.push (.cells (pcells (l.map VT.row).flatten) 0)) ⟨[], [.im h.ims.length], true⟩ := fun {β kt h d} => by rw [hl]; exact t_callNew 63 [kSl 6 t (l.map VT.row)] _ _ _ _ rfl (clone105 t l (by omega))
   simp (config := { maxSteps := 10000000 }) +contextual only [exa, ne_eq, not_false_eq_true, Nat.reduceAdd, Nat.reduceMul, Nat.reduceLT, Nat.reduceLeDiff, Nat.reduceEqDiff, Int.reduceLT, Int.reduceLE, Int.reduceEq, Int.reduceToNat, exY, exU, y132 v.keys (by omega), Y, P1, P2, t_store]
   refine (own_loop v l hll ih' 0 _ (Nat.zero_le _) rfl rfl ?_).trans ?_
   ·show _ = some (AObj.cells (pcells (l.map VT.row).flatten) 0)
    rfl
   ·rw [ownS_mk, VT.row_eq]; rfl
theorem y156' {β : Type} {k : TVal → Heap → Option β} {h : Heap} {d : Nat} (v : VT) (sm : smV v) : vcall Om (.v (.c (.func 38 []))) [kA v.row] h d k = k (kA (ownV v).row) h := vcall_pure 38 _ _ (by simp only [exP]) (own_ok _ v (Nat.lt_succ_self _) sm) (by simp only [exP])
end Go.Proofs.YtiahgnkffnokfaaGreatDoor.Ab
