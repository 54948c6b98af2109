/- The rules, the contracts, the plain laws that lead to the statement. Own work. Condition: what each theorem names. -/
import Derived.Test.YtlkejchbcchecaaGreatDoorTabRW
import Derived.Test.YtlkejchbcchecaaGreatDoorV0
import Derived.Lib.ItoaNum
set_option linter.all false
set_option linter.unusedVariables false
set_option linter.unusedSimpArgs false
set_option linter.unusedSectionVars false
set_option maxRecDepth 100000
open Nat (reduceAdd reduceMul reduceLT reduceLeDiff reduceEqDiff)
namespace Go.Proofs.YtlkejchbcchecaaGreatDoor.Ab
open Go Go.AI
noncomputable def S : Oracle := SI 132
noncomputable abbrev W : Mach := lim tab.get S
noncomputable abbrev Om : Oracle := orc S W
abbrev CAL (f : FuncId) (l : List TVal) (v : TVal) : Prop := ∀ {β : Type} {k : TVal → Heap → Option β} {h : Heap} {d : Nat}, vcall Om (.v (.c (.func f []))) l h d k = k v h
abbrev kA (r : List PVal) : TVal := .v (.agg (pcells r))
abbrev kP (r : Ref) : TVal := .v (.c (.ptr r 0))
def idxM (x : List UInt8) : List (List UInt8) → Option Nat
 | [] => none
 | a :: l => if x = a then some 0 else (idxM x l).map (· + 1)
def idxI (o : Option Nat) (i : Nat) : Int := match o with
 | none => -1
 | some n => ((i + n : Nat) : Int)
theorem qNf (o : Option Nat) (i : Nat) : idxI (o.map (· + 1)) i = idxI o (i + 1) := by cases o <;> simp [idxI]; omega
theorem qHe (l : Sl (List UInt8)) (x : List UInt8) (hl : l.len < 4611686018427387904) (h : Heap) : ∀ i : Nat, lim tab.get S 63 0 1 [.v (.c (.p (slP 1 sRow l))), kS x, kI (l.len : Int), kI (i : Int)] h = some (kI (idxI (idxM x (l.list.drop i)) i), []) := by
 refine qDF l.len (fun i hi => ?_) (fun i hi ih => ?_) <;> rw [w63_1, b63_1]
 ·have h1 : ¬ (i : Int) < (l.len : Int) := by omega
  simp (maxSteps := 9999999) +contextual only [exa, ne_eq, not_false_eq_true, reduceAdd, reduceMul, reduceLT, reduceLeDiff, reduceEqDiff, Int.reduceLT, Int.reduceLE, Int.reduceEq, Int.reduceToNat, h1, qDr hi, oneOf, idxM, idxI]
 ·have h1 : (i : Int) < (l.len : Int) := by omega
  obtain ⟨b, hs, h2, _⟩ := qCN hi
  by_cases h3 : x = b
  ·simp (maxSteps := 9999999) +contextual only [exa, ne_eq, not_false_eq_true, reduceAdd, reduceMul, reduceLT, reduceLeDiff, reduceEqDiff, Int.reduceLT, Int.reduceLE, Int.reduceEq, Int.reduceToNat, h1, h2, hs, h3, oneOf, idxM, idxI, if_true]
  ·simp (maxSteps := 9999999) +contextual only [exa, ne_eq, not_false_eq_true, reduceAdd, reduceMul, reduceLT, reduceLeDiff, reduceEqDiff, Int.reduceLT, Int.reduceLE, Int.reduceEq, Int.reduceToNat, h1, h2, hs, h3, oneOf, idxM, qCj i (by omega), ih, if_false, qNf]
theorem qK1 (l : Sl (List UInt8)) (x : List UInt8) (hl : l.len < 4611686018427387904) : Om 63 [.v (.c (.p (slP 1 sRow l))), kS x] [] = some (kI (idxI (idxM x l.list) 0), []) := by
 refine (qAE rfl).trans ?_
 show lim tab.get S 63 0 0 [.v (.c (.p (slP 1 sRow l))), kS x] h0 = _
 rw [w63_0, b63_0]
 simp (maxSteps := 9999999) +contextual only [exa, ne_eq, not_false_eq_true, reduceAdd, reduceMul, reduceLT, reduceLeDiff, reduceEqDiff, Int.reduceLT, Int.reduceLE, Int.reduceEq, Int.reduceToNat]
 exact qHe l x hl h0 0
theorem qIY {β : Type} {k : TVal → Heap → Option β} {h : Heap} {d : Nat} (l : Sl (List UInt8)) (x : List UInt8) (hl : l.len < 4611686018427387904) : vcall Om (.v (.c (.func 63 []))) [.v (.c (.p (slP 1 sRow l))), kS x] h d k = k (kI (idxI (idxM x l.list) 0)) h := qAI 63 _ _ rfl (qK1 l x hl) rfl
open Go Go.AI
theorem qEU {β : Type} {O : Oracle} {h : Heap} {d : Nat} {op : AOp} {v' : TVal} {h' : Heap} {t : AI.Touch} (e : ∀ (β : Type) (O : Oracle) (kt : TVal → Heap → AI.Touch → Option β), vtouch O op h d kt = kt v' h' t) (k : TVal → Heap → Option β) : vop O op h d k = k v' h' := by
 rw [qCD, e]
open Go Go.AI
def cloneS {α : Type} : Sl α → Sl α
 | .nil => .nil
 | .mk _ [] => .mk true []
 | .mk _ (a :: l) => .mk false (a :: l)
theorem qE2 {β : Type} {h : Heap} {k : TVal → Heap → Option β} : vbin .eql 2 kNil (.v (.c (.p .nilslice))) h k = k (kB true) h := qA6 _ _ _ _ _ rfl
theorem qCn {β : Type} {h : Heap} {k : TVal → Heap → Option β} (sz : Nat) (t : Bool) (rows : List (List PVal)) : vbin .eql 2 (kSl sz t rows) (.v (.c (.p .nilslice))) h k = k (kB false) h := qA6 _ _ _ _ _ rfl
theorem qOZ {β : Type} {O : Oracle} {h : Heap} {d : Nat} {k : TVal → Heap → Option β} (t : Bool) : vop O (.append 1 16 false (.k (kSl 1 true [])) (.k (kSl 1 t []))) h d k = k (kSl 1 true []) h := by
 show opK O _ .nil h d k = _
 rw [qAn]; rfl
theorem qLg (s : Sl (List UInt8)) (hl : s.len ≤ 1000000) : Om 86 [.v (.c (.p (slP 1 sRow s)))] [] = some (.v (.c (.p (slP 1 sRow (cloneS s)))), []) := by
 refine (qAE rfl).trans ?_
 show lim tab.get S 86 0 0 [.v (.c (.p (slP 1 sRow s)))] h0 = _
 rw [w86_0, b86_0]
 match s, hl with
 | .nil, _ =>
  simp (maxSteps := 9999999) +contextual only [exa, ne_eq, not_false_eq_true, reduceAdd, reduceMul, reduceLT, reduceLeDiff, reduceEqDiff, Int.reduceLT, Int.reduceLE, Int.reduceEq, Int.reduceToNat, slP, qE2, cloneS, oneOf]
 | .mk t [], _ =>
  simp (maxSteps := 9999999) +contextual only [exa, ne_eq, not_false_eq_true, reduceAdd, reduceMul, reduceLT, reduceLeDiff, reduceEqDiff, Int.reduceLT, Int.reduceLE, Int.reduceEq, Int.reduceToNat, slP, qCn, cloneS, oneOf, List.map_nil, qIv, qOZ]
 | .mk t (a :: l), hl =>
  obtain ⟨c', h', t', G', e', T', K', I', X'⟩ := qHv (h := h0) (d := 7) (D := [7]) (sz := 1) (by' := 16) (v := .p (.slice 1 true [])) (rows := []) (new := (a :: l).map sRow) (b := .slice 1 t ((a :: l).map sRow)) (.inr ⟨_, rfl⟩) (.inr (.inl rfl)) (by decide) (fun r hr => by obtain ⟨x, _, rfl⟩ := List.mem_map.1 hr; rfl) (by simp [Sl.len, Sl.list] at hl ⊢; omega) (by decide)
  obtain ⟨q, eq⟩ := X' (.inl (by simp))
  simp (maxSteps := 9999999) +contextual only [exa, ne_eq, not_false_eq_true, reduceAdd, reduceMul, reduceLT, reduceLeDiff, reduceEqDiff, Int.reduceLT, Int.reduceLE, Int.reduceEq, Int.reduceToNat, slP, qCn, cloneS, oneOf, qEU e']
  rw [eq, qFs _ rfl]
  rfl
theorem y132 {β : Type} {kt : TVal → Heap → AI.Touch → Option β} {h : Heap} {d : Nat} (s : Sl (List UInt8)) (hl : s.len ≤ 1000000) : vtouch Om (.call (.k (.v (.c (.func 86 [])))) [.k (.v (.c (.p (slP 1 sRow s))))]) h d kt = kt (.v (.c (.p (slP 1 sRow (cloneS s))))) h noTouch :=
 qBi 86 [.v (.c (.p (slP 1 sRow s)))] _ (by simp only [exP]) (qLg s hl) (by simp only [exP])
def capO {α : Type} (l : List α) : Option Nat := match l with
 | [] => some 0
 | _ => none
theorem qFT : Om 19 [kNil] [] = some (kNil, []) := by
 refine (qAE rfl).trans ?_
 show lim tab.get S 19 0 0 [kNil] h0 = _
 rw [w19_0, b19_0]
 simp (maxSteps := 9999999) +contextual only [exa, ne_eq, not_false_eq_true, reduceAdd, reduceMul, reduceLT, reduceLeDiff, reduceEqDiff, Int.reduceLT, Int.reduceLE, Int.reduceEq, Int.reduceToNat, qE2]
theorem qLf (t : Bool) (l : List VT) (hl : l.length ≤ 1000000) : Om 19 [kSl 6 t (l.map VT.row)] [] = some (.v (.c (.sref (.im 0) 0 l.length (capO l) 6)), [.cells (pcells (l.map VT.row).flatten) 0]) := by
 refine (qAE rfl).trans ?_
 show lim tab.get S 19 0 0 [kSl 6 t (l.map VT.row)] h0 = _
 rw [w19_0, b19_0]
 have g0 : (h0.push (.cells [] 0)).get (.im h0.ims.length) = some (.cells [] 0) := Heap.get_push_eq h0 (fun e => by cases e)
 cases l with
 | nil =>
  have A : ∀ {β : Type} {k : TVal → Heap → Option β} {d : Nat}, vop Om (.append 6 88 true (.k (.v (.c (.sref (.im h0.ims.length) 0 0 (some 0) 6)))) (.k (kSl 6 t []))) (h0.push (.cells [] 0)) d k = k (.v (.c (.sref (.im h0.ims.length) 0 0 (some 0) 6))) (h0.push (.cells [] 0)) := qHo (.inr ⟨_, rfl⟩) g0
  simp (maxSteps := 9999999) +contextual only [exa, ne_eq, not_false_eq_true, reduceAdd, reduceMul, reduceLT, reduceLeDiff, reduceEqDiff, Int.reduceLT, Int.reduceLE, Int.reduceEq, Int.reduceToNat, qCn, List.map_nil, qEc, A]
  exact qG4 0 0 6 (some 0) [] rfl
 | cons a l =>
  have A : ∀ {β : Type} {k : TVal → Heap → Option β} {d : Nat}, vop Om (.append 6 88 true (.k (.v (.c (.sref (.im h0.ims.length) 0 0 (some 0) 6)))) (.k (kSl 6 t ((a :: l).map VT.row)))) (h0.push (.cells [] 0)) d k = k (.v (.c (.sref (.im (h0.push (.cells [] 0)).ims.length) 0 ((a :: l).map VT.row).length none 6))) ((h0.push (.cells [] 0)).push (.cells (pcells ((a :: l).map VT.row).flatten) 0)) :=
   qKF (.inr ⟨_, rfl⟩) (by simp) (by rw [List.length_map]; omega) g0
  simp (maxSteps := 9999999) +contextual only [exa, ne_eq, not_false_eq_true, reduceAdd, reduceMul, reduceLT, reduceLeDiff, reduceEqDiff, Int.reduceLT, Int.reduceLE, Int.reduceEq, Int.reduceToNat, qCn, qEc, A]
  rw [List.length_map]
  exact qG4 1 _ 6 none _ rfl
mutual
def ownV : VT → VT
 | .mk k b n s ks l => .mk k b n s (cloneS ks) (ownS l)
def ownS : Sl VT → Sl VT
 | .nil => .nil
 | .mk _ [] => .mk true []
 | .mk _ (v :: l) => .mk false (ownV v :: ownL l)
def ownL : List VT → List VT
 | [] => []
 | v :: l => ownV v :: ownL l
end
theorem qGq : ∀ l : List VT, ownL l = l.map ownV
 | [] => by simp [ownL]
 | v :: l => by simp [ownL, qGq l]
theorem qHH (t : Bool) (l : List VT) : ownS (.mk t l) = .mk (capO l == some l.length) (l.map ownV) := by
 cases l with
 | nil => simp [ownS, capO]
 | cons a l => simp [ownS, capO, qGq]
theorem qDD (v : VT) : ownV v = .mk v.kind v.b v.n v.s (cloneS v.keys) (ownS v.l) := by cases v; rfl
mutual
def smV : VT → Prop
 | .mk k b n s ks l => s.length ≤ 100000 ∧ ks.len ≤ 1000 ∧ l.len ≤ 1000 ∧ smVS l
def smVS : Sl VT → Prop
 | .nil => True
 | .mk _ l => smVL l
def smVL : List VT → Prop
 | [] => True
 | r :: rs => smV r ∧ smVL rs
end
theorem qG9 : ∀ l : List VT, smVL l ↔ ∀ x ∈ l, smV x
 | [] => by simp [smVL]
 | r :: l => by simp [smVL, qG9 l]
theorem qCy (r : VT) : smV r ↔ r.s.length ≤ 100000 ∧ r.keys.len ≤ 1000 ∧ r.l.len ≤ 1000 ∧ ∀ x ∈ r.l.list, smV x := by
 cases r with
 | mk k b n s ks l =>
  rw [smV, ← qG9]
  cases l <;> simp [smVS, smVL, Sl.list, VT.keys, VT.s, VT.l]
def OwnOK (x : VT) : Prop := Om 64 [kA x.row] [] = some (kA (ownV x).row, [])
theorem y156 {β : Type} {kt : TVal → Heap → AI.Touch → Option β} {h : Heap} {d : Nat} {x : VT} (ok : OwnOK x) : vtouch Om (.call (.k (.v (.c (.func 64 [])))) [.k (kA x.row)]) h d kt = kt (kA (ownV x).row) h noTouch :=
 qBi 64 [kA x.row] _ (by simp only [exP]) ok (by simp only [exP])
abbrev o1 : TVal := .v (.c (.ptr (.own 1 1) 0))
abbrev o2 : TVal := .v (.c (.ptr (.own 2 1) 0))
theorem qHB (v : VT) (cs : List Cell) (h : Heap) (hc : cs.length = 6) (X : Option (TVal × List AObj)) (a1 : h.get (.own 1 1) = some (.cells cs 0)) (a2 : h.get (.own 2 1) = some (.cells [.p (.int .i64 0), .p (.bool false), .p (.int .i64 0), .p (.str []), .p .nilslice, .p .nilslice] 0)) (hx : ∀ h', (∀ i, h'.get (.im i) = h.get (.im i)) → vfin true 0 [.agg cs] h' = X) : lim tab.get S 64 0 2 [o1, o2] h = X := by
 rw [w64_2, b64_2]
 have ht : cs.take 6 = cs := List.take_of_length_le (by omega)
 have hz : put1 [.p (.int .i64 0), .p (.bool false), .p (.int .i64 0), .p (.str []), .p .nilslice, .p .nilslice] 0 cs = cs := qCm _ _ hc
 simp (maxSteps := 9999999) +contextual only [exa, ne_eq, not_false_eq_true, reduceAdd, reduceMul, reduceLT, reduceLeDiff, reduceEqDiff, Int.reduceLT, Int.reduceLE, Int.reduceEq, Int.reduceToNat, a1, a2, ht, hz, hc]
 exact hx _ (fun i => rfl)
def rowsAt (l : List VT) (i : Nat) : List (List PVal) := (l.take i).map (fun v => (ownV v).row) ++ (l.drop i).map VT.row
theorem qCa (l : List VT) (i : Nat) : (rowsAt l i).length = l.length := by unfold rowsAt; rw [List.length_append, List.length_map, List.length_map, List.length_take, List.length_drop]; omega
theorem qBx (l : List VT) (i : Nat) : ∀ r ∈ rowsAt l i, r.length = 6 := by
 intro r hr
 rcases List.mem_append.1 hr with h | h
 ·obtain ⟨a, _, rfl⟩ := List.mem_map.1 h; exact VT.row_len _
 ·obtain ⟨a, _, rfl⟩ := List.mem_map.1 h; exact VT.row_len _
theorem qHa (l : List VT) (i : Nat) (x : VT) (hx : l[i]? = some x) : (rowsAt l i)[i]? = some x.row := by
 obtain ⟨hi, e⟩ := List.getElem?_eq_some_iff.1 hx
 unfold rowsAt
 rw [List.getElem?_append_right (by simp; omega), List.length_map, List.length_take, Nat.min_eq_left (by omega), Nat.sub_self, List.getElem?_map, List.getElem?_drop, Nat.add_zero, hx]; rfl
theorem qHm (l : List VT) (i : Nat) (x : VT) (hx : l[i]? = some x) : (rowsAt l i).set i (ownV x).row = rowsAt l (i + 1) := by
 obtain ⟨hi, e⟩ := List.getElem?_eq_some_iff.1 hx
 unfold rowsAt
 have h1 : ((l.take i).map (fun v => (ownV v).row)).length = i := by rw [List.length_map, List.length_take]; omega
 rw [List.set_append_right _ _ (by omega), h1, Nat.sub_self, List.drop_eq_getElem_cons hi, List.map_cons, List.set_cons_zero, List.take_succ_eq_append_getElem hi, List.map_append, e]
 simp
theorem qHt (l : List VT) : rowsAt l l.length = (l.map ownV).map VT.row := by unfold rowsAt; simp
abbrev ownC (v : VT) (n : Nat) (cap : Option Nat) : List Cell := [.p (.int .i64 v.kind), .p (.bool v.b), .p (.int .i64 v.n), .p (.str v.s), .p (slP 1 sRow (cloneS v.keys)), .sref (.im 0) 0 n cap 6]
theorem qK6 (v : VT) (l : List VT) (hl : l.length ≤ 1000) (ih : ∀ x ∈ l, OwnOK x) : ∀ (i : Nat) (h : Heap), i ≤ l.length → h.get (.own 1 1) = some (.cells (ownC v l.length (capO l)) 0) → h.get (.own 2 1) = some (.cells [.p (.int .i64 0), .p (.bool false), .p (.int .i64 0), .p (.str []), .p .nilslice, .p .nilslice] 0) → h.get (.im 0) = some (.cells (pcells (rowsAt l i).flatten) 0) →
  lim tab.get S 64 0 1 [o1, o2, .v (.c (.sref (.im 0) 0 l.length (capO l) 6)), kI (l.length : Int), kI (i : Int)] h = some (kA [.int .i64 v.kind, .bool v.b, .int .i64 v.n, .str v.s, slP 1 sRow (cloneS v.keys), .slice 6 (capO l == some l.length) ((l.map ownV).map VT.row)], []) := by
 refine qDF l.length (fun i hi h hle a1 a2 a3 => ?_) (fun i hi ihl h hle a1 a2 a3 => ?_) <;> rw [w64_1, b64_1]
 ·have h1 : ¬ (i : Int) < (l.length : Int) := by omega
  have hil : i = l.length := by omega
  subst hil
  simp (maxSteps := 9999999) +contextual only [exa, ne_eq, not_false_eq_true, reduceAdd, reduceMul, reduceLT, reduceLeDiff, reduceEqDiff, Int.reduceLT, Int.reduceLE, Int.reduceEq, Int.reduceToNat, h1]
  refine qHB v _ h rfl _ a1 a2 (fun h' him => ?_)
  have e := qKT (h := h') 0 6 (capO l) [.int .i64 v.kind, .bool v.b, .int .i64 v.n, .str v.s, slP 1 sRow (cloneS v.keys)] (rowsAt l l.length) (qBx l _) ((him 0).trans a3)
  rw [qCa, qHt] at e
  exact e
 ·have h1 : (i : Int) < (l.length : Int) := by omega
  obtain ⟨x, hs, h2, hx⟩ := qCN hi
  have f1 := qM3 (qBx l i) i _ (qHa l i x hs)
  have f2 := qLI (qBx l i) i (by rw [qCa]; exact hi) _ (VT.row_len (ownV x))
  rw [qHm l i x hs] at f2
  have hlen : (pcells (rowsAt l i).flatten).length = l.length * 6 := by rw [qDb (qBx l i), qCa]
  have g1 : i * 6 + 6 ≤ l.length * 6 := by omega
  have z1 : 0 + i * 6 = i * 6 := by omega
  have P0 : ∀ xs : List PVal, xs.length = 6 → put1 [.p (.int .i64 0), .p (.bool false), .p (.int .i64 0), .p (.str []), .p .nilslice, .p .nilslice] 0 (pcells xs) = pcells xs := fun xs hx => qCm _ _ (by rw [qBw, hx]; rfl)
  have a3' : ∀ g o, (h.own 4 g o).get (.im 0) = some (.cells (pcells (rowsAt l i).flatten) 0) := fun _ _ => a3
  simp (maxSteps := 9999999) +contextual only [exa, ne_eq, not_false_eq_true, reduceAdd, reduceMul, reduceLT, reduceLeDiff, reduceEqDiff, Int.reduceLT, Int.reduceLE, Int.reduceEq, Int.reduceToNat, exY, h1, hi, a1, a2, a3, f1, f2, hlen, g1, z1, Nat.zero_le, P0 _ (VT.row_len x), y156 (ih x hx), qDG, qCj i (by omega)]
  exact ihl _ (by omega) ((Heap.own_get_ne _ 4 _ _ 1 1 (by decide)).trans ((Heap.own_get_ne h 4 _ _ 1 1 (by decide)).trans a1)) ((Heap.own_get_ne _ 4 _ _ 2 1 (by decide)).trans ((Heap.own_get_ne h 4 _ _ 2 1 (by decide)).trans a2)) (qAP _ 0 _ _ (by show (h.get (.im 0)).isSome = true; rw [a3]; rfl))
theorem qEH : ∀ (m : Nat) (v : VT), SizeOf.sizeOf v < m → smV v → OwnOK v := by
 intro m
 induction m with
 | zero => intro v h; omega
 | succ m ihm =>
  intro v hs sm
  obtain ⟨s1, s2, s3, s4⟩ := (qCy v).1 sm
  have ih : ∀ x ∈ v.l.list, OwnOK x := fun x hx => ihm x (by have := VT.mem_size hx; omega) (s4 x hx)
  refine (qAE rfl).trans ?_
  show lim tab.get S 64 0 0 [kA v.row] h0 = _
  rw [w64_0, b64_0, qDD]
  have P1 : put1 (pcells v.row) 4 [.p (slP 1 sRow (cloneS v.keys))] = [.p (.int .i64 v.kind), .p (.bool v.b), .p (.int .i64 v.n), .p (.str v.s), .p (slP 1 sRow (cloneS v.keys)), .p (slP 6 VT.row v.l)] := by rw [VT.row_eq]; rfl
  have P2 : ∀ a b c d f g x : Cell, put1 [a, b, c, d, f, g] 5 [x] = [a, b, c, d, f, x] := fun _ _ _ _ _ _ _ => rfl
  cases hl : v.l with
  | nil =>
   have Y : ∀ {β : Type} {kt : TVal → Heap → AI.Touch → Option β} {h : Heap} {d : Nat}, vtouch Om (.call (.k (.v (.c (.func 19 [])))) [.k (.v (.c (.p (slP 6 VT.row v.l))))]) h d kt = kt kNil h noTouch := fun {β kt h d} => by rw [hl]; exact qBi 19 [kNil] _ rfl qFT rfl
   simp (maxSteps := 9999999) +contextual only [exa, ne_eq, not_false_eq_true, reduceAdd, reduceMul, reduceLT, reduceLeDiff, reduceEqDiff, Int.reduceLT, Int.reduceLE, Int.reduceEq, Int.reduceToNat, exY, y132 v.keys (by omega), Y, P1, P2, qDG]
   rw [w64_1, b64_1]
   simp (maxSteps := 9999999) +contextual only [exa, ne_eq, not_false_eq_true, reduceAdd, reduceMul, reduceLT, reduceLeDiff, reduceEqDiff, Int.reduceLT, Int.reduceLE, Int.reduceEq, Int.reduceToNat]
   refine qHB v _ _ rfl _ rfl rfl (fun h' _ => ?_)
   refine (qFs _ rfl).trans ?_
   rw [VT.row_eq]; rfl
  | mk t l =>
   have hll : l.length ≤ 1000 := by rw [hl] at s3; exact s3
   have ih' : ∀ x ∈ l, OwnOK x := fun x hx => ih x (by rw [hl]; exact hx)
   have Y : ∀ {β : Type} {kt : TVal → Heap → AI.Touch → Option β} {h : Heap} {d : Nat}, vtouch Om (.call (.k (.v (.c (.func 19 [])))) [.k (.v (.c (.p (slP 6 VT.row v.l))))]) h d kt = kt (.v (.c (.sref (.im h.ims.length) 0 l.length (capO l) 6))) (h.push (.cells (pcells (l.map VT.row).flatten) 0)) ⟨[], [.im h.ims.length], true⟩ := fun {β kt h d} => by rw [hl]; exact qJi 19 [kSl 6 t (l.map VT.row)] _ _ _ _ rfl (qLf t l (by omega))
   simp (maxSteps := 9999999) +contextual only [exa, ne_eq, not_false_eq_true, reduceAdd, reduceMul, reduceLT, reduceLeDiff, reduceEqDiff, Int.reduceLT, Int.reduceLE, Int.reduceEq, Int.reduceToNat, exY, exU, y132 v.keys (by omega), Y, P1, P2, qDG]
   refine (qK6 v l hll ih' 0 _ (Nat.zero_le _) rfl rfl ?_).trans ?_
   ·show _ = some (AObj.cells (pcells (l.map VT.row).flatten) 0)
    rfl
   ·rw [qHH, VT.row_eq]; rfl
theorem qOQ {β : Type} {k : TVal → Heap → Option β} {h : Heap} {d : Nat} (v : VT) (sm : smV v) : vcall Om (.v (.c (.func 64 []))) [kA v.row] h d k = k (kA (ownV v).row) h := qAI 64 _ _ (by simp only [exP]) (qEH _ v (Nat.lt_succ_self _) sm) (by simp only [exP])
open Go Go.AI
def getM (v : VT) (key : List UInt8) : Option VT := if v.kind = 5 then (idxM key v.keys.list).bind fun i => v.l.list[i]? else none
def ansG (o : Option VT) : TVal := match o with
 | none => .tup [.agg (pcells VT.nul.row), .c (.p (.bool false))]
 | some x => .tup [.agg (pcells x.row), .c (.p (.bool true))]
theorem qGw (r : List PVal) (hr : r.length = 6) : put1 [.p (.int .i64 0), .p (.bool false), .p (.int .i64 0), .p (.str []), .p .nilslice, .p .nilslice] 0 (pcells r) = pcells r := qCm _ _ (by rw [qBw, hr]; rfl)
theorem qNy (v : VT) (key : List UInt8) (sm : smV v) : Om 41 [kA v.row, kS key] [] = some (ansG ((getM v key).map ownV), []) := by
 obtain ⟨s1, s2, s3, s4⟩ := (qCy v).1 sm
 refine (qAE rfl).trans ?_
 show lim tab.get S 41 0 0 [kA v.row, kS key] h0 = _
 rw [w41_0, b41_0]
 by_cases hk : v.kind = 5
 ·unfold getM
  rw [if_pos hk]
  cases hi : idxM key v.keys.list with
  | none =>
   have e1 : idxI (none : Option Nat) 0 < 0 := by decide
   simp (maxSteps := 9999999) +contextual only [exa, ne_eq, not_false_eq_true, reduceAdd, reduceMul, reduceLT, reduceLeDiff, reduceEqDiff, Int.reduceLT, Int.reduceLE, Int.reduceEq, Int.reduceToNat, exY, qIY v.keys key (by omega), hk, hi, e1]
   rfl
  | some i =>
   have e1 : ¬ ((i : Int) < 0) := by omega
   have e2 : idxI (some i) 0 = (i : Int) := by show ((0 + i : Nat) : Int) = _; omega
   by_cases hl : i < v.l.len
   ·have hl' : (i : Int) < (v.l.len : Int) := by omega
    obtain ⟨x, hs, _, hx⟩ := qCN (l := v.l.list) (i := i) hl
    simp (maxSteps := 9999999) +contextual only [exa, ne_eq, not_false_eq_true, reduceAdd, reduceMul, reduceLT, reduceLeDiff, reduceEqDiff, Int.reduceLT, Int.reduceLE, Int.reduceEq, Int.reduceToNat, exY, qIY v.keys key (by omega), hk, hi, e1, e2, hl', hs, qOQ x (s4 x hx), qGw _ (VT.row_len (ownV x))]
    show _ = some (ansG (Option.map ownV (v.l.list[i]?)), [])
    rw [hs]; rfl
   ·have hl' : ¬ (i : Int) < (v.l.len : Int) := by omega
    have hn : v.l.list[i]? = none := List.getElem?_eq_none (by unfold Sl.len at hl; omega)
    simp (maxSteps := 9999999) +contextual only [exa, ne_eq, not_false_eq_true, reduceAdd, reduceMul, reduceLT, reduceLeDiff, reduceEqDiff, Int.reduceLT, Int.reduceLE, Int.reduceEq, Int.reduceToNat, exY, qIY v.keys key (by omega), hk, hi, e1, e2, hl', hn]
    show _ = some (ansG (Option.map ownV (v.l.list[i]?)), [])
    rw [hn]; rfl
 ·unfold getM
  rw [if_neg hk]
  simp (maxSteps := 9999999) +contextual only [exa, ne_eq, not_false_eq_true, reduceAdd, reduceMul, reduceLT, reduceLeDiff, reduceEqDiff, Int.reduceLT, Int.reduceLE, Int.reduceEq, Int.reduceToNat, exY, qIY v.keys key (by omega), hk]
  rfl
theorem u93 {β : Type} {k : TVal → Heap → Option β} {h : Heap} {d : Nat} (v : VT) (key : List UInt8) (sm : smV v) : vcall Om (.v (.c (.func 41 []))) [kA v.row, kS key] h d k = k (ansG ((getM v key).map ownV)) h :=
 qAI 41 _ _ (by simp only [exP]) (qNy v key sm) (by cases (getM v key).map ownV <;> simp only [ansG, exP])
theorem qDC {β : Type} {O : Oracle} {h : Heap} {d : Nat} {k : TVal → Heap → Option β} (r : List PVal) (hr : r.length = 6) : vop O (.bslice 6 1 [.p (.int .i64 0), .p (.bool false), .p (.int .i64 0), .p (.str []), .p .nilslice, .p .nilslice] [(0, .k (.v (.agg (pcells r))))] false) h d k = k (kSl 6 true [r]) h := by
 rw [qCD, qIM 6 _ r rfl hr]
def boxT (v : VT) : VT := .mk 5 false 0 [] (.mk true [[]]) (.mk true [v])
theorem qKq (v : VT) : getM (boxT v) [] = some v := rfl
theorem qL9 (v : VT) (sm : smV v) : smV (boxT v) := (qCy _).2 ⟨by show 0 ≤ 100000; decide, by show 1 ≤ 1000; decide, by show 1 ≤ 1000; decide, fun x hx => by
 have : x ∈ [v] := hx
 rw [List.mem_singleton.1 this]; exact sm⟩
open Go Go.AI
def decM : Nat → Nat → List UInt8
 | 0, _ => []
 | f + 1, n => if 10 ≤ n then decM f (n / 10) ++ [UInt8.ofNat (48 + n % 10)] else [UInt8.ofNat (48 + n)]
theorem qDX : ∀ (f n : Nat), n < 10 ^ f → (decM f n).length ≤ f
 | 0, n, _ => Nat.zero_le _
 | f + 1, n, h => by
  unfold decM
  split
  ·have := qDX f (n / 10) (by rw [Nat.pow_succ] at h; omega)
   simp; omega
  ·simp
theorem qOJ {β : Type} {O : Oracle} {h : Heap} {d : Nat} {k : TVal → Heap → Option β} (x : Int) : vop O (.bslice 1 1 [.p (.int .u8 0)] [(0, .k (kN .u8 x))] false) h d k = k (kSl 1 true [[.int .u8 x]]) h := qAW _ _ rfl
theorem qKK (m : Nat) (hm : m < 10) : Om 65 [kI (m : Int)] [] = some (kS [UInt8.ofNat (48 + m)], []) := by
 refine (qAE rfl).trans ?_
 show lim tab.get S 65 0 0 [kI (m : Int)] h0 = _
 have a1 : ¬ (m : Int) < 0 := by omega
 have a2 : (m : Int) < 10 := by omega
 have w1 : IntKind.i64.wrap (48 + (m : Int)) = 48 + (m : Int) := qAF _ (by omega) (by omega)
 have w2 : IntKind.u8.wrap (48 + (m : Int)) = 48 + (m : Int) := qAJ .u8 _ (by show (0 : Int) ≤ _; omega) (by show _ ≤ (255 : Int); omega)
 have T : plan .nil (.toStr (.k (kSl 1 true [[.int .u8 (48 + (m : Int))]]))) = some (.pure (kS [UInt8.ofNat (48 + m)])) := by
  have : ∀ m : Nat, m < 10 → plan .nil (.toStr (.k (kSl 1 true [[.int .u8 (48 + (m : Int))]]))) = some (.pure (kS [UInt8.ofNat (48 + m)])) := by
   intro m hm
   match m, hm with
   | 0, _ => rfl
   | 1, _ => rfl
   | 2, _ => rfl
   | 3, _ => rfl
   | 4, _ => rfl
   | 5, _ => rfl
   | 6, _ => rfl
   | 7, _ => rfl
   | 8, _ => rfl
   | 9, _ => rfl
  exact this m hm
 rw [w65_0, b65_0]
 simp (maxSteps := 9999999) +contextual only [exa, ne_eq, not_false_eq_true, reduceAdd, reduceMul, reduceLT, reduceLeDiff, reduceEqDiff, Int.reduceLT, Int.reduceLE, Int.reduceEq, Int.reduceToNat, a1, a2, w1, w2, qOJ, qAW _ _ T, oneOf]
theorem decN : ∀ (f n : Nat), n < 10 ^ (f + 1) → (n : Int) ≤ 9223372036854775807 → f ≤ 30 → Om 65 [kI (n : Int)] [] = some (kS (decM (f + 1) n), []) := by
 intro f
 induction f with
 | zero =>
  intro n h _ _
  unfold decM
  rw [if_neg (by omega)]
  exact qKK n (by omega)
 | succ f ih =>
  intro n h hn hf
  unfold decM
  by_cases h10 : 10 ≤ n
  ·rw [if_pos h10]
   have i1 := ih (n / 10) (by rw [Nat.pow_succ] at h; omega) (by omega) (by omega)
   have i2 := qKK (n % 10) (by omega)
   have c1 : CAL 65 [kI ((n / 10 : Nat) : Int)] (kS (decM (f + 1) (n / 10))) := qAI 65 _ _ rfl i1 rfl
   have c2 : CAL 65 [kI ((n % 10 : Nat) : Int)] (kS [UInt8.ofNat (48 + n % 10)]) := qAI 65 _ _ rfl i2 rfl
   have q1 : IntKind.i64.wrap ((n : Int).tdiv 10) = ((n / 10 : Nat) : Int) := by
    rw [Int.tdiv_eq_ediv_of_nonneg (by omega), qAF _ (by omega) (by omega)]; omega
   have q2 : (n : Int).tmod 10 = ((n % 10 : Nat) : Int) := by
    rw [Int.tmod_eq_emod_of_nonneg (by omega)]; omega
   have a1 : ¬ (n : Int) < 0 := by omega
   have a2 : ¬ (n : Int) < 10 := by omega
   have ll := qDX (f + 1) (n / 10) (by rw [Nat.pow_succ] at h; omega)
   have l1 : (decM (f + 1) (n / 10)).length + 1 ≤ 4611686018427387904 := by omega
   refine (qAE rfl).trans ?_
   show lim tab.get S 65 0 0 [kI (n : Int)] h0 = _
   rw [w65_0, b65_0]
   simp (maxSteps := 9999999) +contextual only [exa, ne_eq, not_false_eq_true, reduceAdd, reduceMul, reduceLT, reduceLeDiff, reduceEqDiff, Int.reduceLT, Int.reduceLE, Int.reduceEq, Int.reduceToNat, a1, a2, qA7 0 .i64 (n : Int) 10 (by decide), qA9 0 .i64 (n : Int) 10 (by decide), q1, q2, c1, c2, l1, oneOf]
  ·rw [if_neg h10]
   exact qKK n (by omega)
theorem qCF : ∀ (f n : Nat), n < 10 ^ (f + 1) → Lib.decDigits n = decM (f + 1) n
 | 0, n, h => by
  have : n < 10 := by omega
  rw [Lib.decDigits, dif_pos this, decM, if_neg (by omega)]
 | f + 1, n, h => by
  rw [Lib.decDigits, decM]
  by_cases h10 : 10 ≤ n
  ·rw [dif_neg (by omega), if_pos h10, qCF f (n / 10) (by rw [Nat.pow_succ] at h; omega)]
  ·rw [dif_pos (by omega), if_neg h10]
theorem qHI (n : Nat) (hn : (n : Int) ≤ 9223372036854775807) : Om 65 [kI (n : Int)] [] = some (kS (Lib.decDigits n), []) := by
 have h : n < 10 ^ (19 + 1) := by
  have : (10 : Nat) ^ (19 + 1) = 100000000000000000000 := by decide
  omega
 rw [qCF 19 n h]
 exact decN 19 n h hn (by decide)
theorem qCh (n : Nat) (hn : (n : Int) ≤ 9223372036854775808) : (Lib.decDigits n).length ≤ 20 := by
 have h : n < 10 ^ (19 + 1) := by
  have : (10 : Nat) ^ (19 + 1) = 100000000000000000000 := by decide
  omega
 rw [qCF 19 n h]
 exact qDX _ _ h
theorem qNj (n : Int) (h1 : -9223372036854775808 ≤ n) (h2 : n ≤ 9223372036854775807) : Om 65 [kI n] [] = some (kS (Lib.itoa n), []) := by
 unfold Lib.itoa
 by_cases h0 : n < 0
 ·rw [if_pos h0]
  refine (qAE rfl).trans ?_
  show lim tab.get S 65 0 0 [kI n] Go.AI.h0 = _
  rw [w65_0, b65_0]
  by_cases hm : n = -9223372036854775808
  ·subst hm
   have e : Lib.decDigits (-9223372036854775808 : Int).natAbs = [57, 50, 50, 51, 51, 55, 50, 48, 51, 54, 56, 53, 52, 55, 55, 53, 56, 48, 56] := by
    rw [qCF 19 _ (by decide)]; decide +kernel
   rw [e]
   simp (maxSteps := 9999999) +contextual only [exa, ne_eq, not_false_eq_true, reduceAdd, reduceMul, reduceLT, reduceLeDiff, reduceEqDiff, Int.reduceLT, Int.reduceLE, Int.reduceEq, Int.reduceToNat, h0, oneOf]
  ·have w1 : IntKind.i64.wrap (0 - n) = ((n.natAbs : Nat) : Int) := by rw [qAF _ (by omega) (by omega)]; omega
   have c1 : CAL 65 [kI ((n.natAbs : Nat) : Int)] (kS (Lib.decDigits n.natAbs)) := qAI 65 _ _ rfl (qHI n.natAbs (by omega)) rfl
   have ll := qCh n.natAbs (by omega)
   have l1 : 1 + (Lib.decDigits n.natAbs).length ≤ 4611686018427387904 := by omega
   have l2 : 0 + 1 + (Lib.decDigits n.natAbs).length ≤ 4611686018427387904 := by omega
   simp (maxSteps := 9999999) +contextual only [exa, ne_eq, not_false_eq_true, reduceAdd, reduceMul, reduceLT, reduceLeDiff, reduceEqDiff, Int.reduceLT, Int.reduceLE, Int.reduceEq, Int.reduceToNat, h0, hm, w1, c1, l1, l2, oneOf]
   rfl
 ·rw [if_neg h0]
  have e : n = ((n.toNat : Nat) : Int) := by omega
  have := qHI n.toNat (by omega)
  rw [← e] at this
  exact this
open Go Go.AI
theorem qFF : ((1 : Nat) : Int) = 1 := rfl
def opRow (n : Int) : List PVal := [.int .i64 3, .str [], .nilslice, .str [], .int .i64 n, .bool false, .nilslice]
theorem qDd (n : Int) (h1 : -9223372036854775808 ≤ n) (h2 : n ≤ 9223372036854775807) : (Lib.itoa n).length ≤ 21 := by
 unfold Lib.itoa
 split
 ·have := qCh n.natAbs (by omega); simp; omega
 ·have := qCh n.toNat (by omega); omega
theorem qOc (n : Int) (h1 : -9223372036854775808 ≤ n) (h2 : n ≤ 9223372036854775807) : Om 42 [kA (opRow n)] [] = some (kS (Lib.itoa n), []) := by
 have c1 : CAL 65 [kI n] (kS (Lib.itoa n)) := qAI 65 _ _ rfl (qNj n h1 h2) rfl
 refine (qAE rfl).trans ?_
 show lim tab.get S 42 0 0 [kA (opRow n)] h0 = _
 rw [w42_0, b42_0]
 have p0 : (opRow n)[0]? = some (.int .i64 3) := rfl
 have p4 : (opRow n)[4]? = some (.int .i64 n) := rfl
 simp (maxSteps := 9999999) +contextual only [exa, ne_eq, not_false_eq_true, reduceAdd, reduceMul, reduceLT, reduceLeDiff, reduceEqDiff, Int.reduceLT, Int.reduceLE, Int.reduceEq, Int.reduceToNat, p0, p4, c1, oneOf]
abbrev pipeP (n : Int) : TVal := kSl 1 true [[.slice 7 true [opRow n]]]
theorem qN6 (n : Int) (h1 : -9223372036854775808 ≤ n) (h2 : n ≤ 9223372036854775807) : Om 21 [pipeP n] [] = some (kS (Lib.itoa n), []) := by
 have c1 : CAL 42 [kA (opRow n)] (kS (Lib.itoa n)) := qAI 42 _ _ (by simp only [exP]) (qOc n h1 h2) rfl
 have ll := qDd n h1 h2
 have l1 : (Lib.itoa n).length ≤ 4611686018427387904 := by omega
 have l0 : 0 + (Lib.itoa n).length ≤ 4611686018427387904 := by omega
 have r0 : ∀ a : List PVal, [a][(0 : Int).toNat]? = some a := fun _ => rfl
 have rl : ∀ {β : Type} {h : Heap} {k : TVal → Heap → Option β}, vload true 7 (.v (.c (.p (.pptr (opRow n) 0)))) h k = k (kA (opRow n)) h := qAU 7 _ rfl
 have w1 : IntKind.i64.wrap (0 + 1) = 1 := rfl
 have ff : ∀ h : Heap, vfin true 0 [.c (.p (.str (Lib.itoa n)))] h = some (kS (Lib.itoa n), []) := fun h => qAr _ _ rfl
 refine (qAE rfl).trans ?_
 show lim tab.get S 21 0 0 [pipeP n] h0 = _
 rw [w21_0, b21_0, w21_1, b21_1]
 simp (maxSteps := 9999999) +contextual only [exa, ne_eq, not_false_eq_true, reduceAdd, reduceMul, reduceLT, reduceLeDiff, reduceEqDiff, Int.reduceLT, Int.reduceLE, Int.reduceEq, Int.reduceToNat, qFF]
 rw [w21_2, b21_2, w21_3, b21_3]
 simp (maxSteps := 9999999) +contextual only [exa, ne_eq, not_false_eq_true, reduceAdd, reduceMul, reduceLT, reduceLeDiff, reduceEqDiff, Int.reduceLT, Int.reduceLE, Int.reduceEq, Int.reduceToNat, r0, qFF]
 rw [w21_4, b21_4]
 simp (maxSteps := 9999999) +contextual only [exa, ne_eq, not_false_eq_true, reduceAdd, reduceMul, reduceLT, reduceLeDiff, reduceEqDiff, Int.reduceLT, Int.reduceLE, Int.reduceEq, Int.reduceToNat, r0, rl, c1, l0, l1, List.nil_append, w1]
 rw [w21_3, b21_3]
 simp (maxSteps := 9999999) +contextual only [exa, ne_eq, not_false_eq_true, reduceAdd, reduceMul, reduceLT, reduceLeDiff, reduceEqDiff, Int.reduceLT, Int.reduceLE, Int.reduceEq, Int.reduceToNat, r0, qFF]
 rw [w21_5, b21_5]
 simp (maxSteps := 9999999) +contextual only [exa, ne_eq, not_false_eq_true, reduceAdd, reduceMul, reduceLT, reduceLeDiff, reduceEqDiff, Int.reduceLT, Int.reduceLE, Int.reduceEq, Int.reduceToNat, w1]
 rw [w21_1, b21_1]
 simp (maxSteps := 9999999) +contextual only [exa, ne_eq, not_false_eq_true, reduceAdd, reduceMul, reduceLT, reduceLeDiff, reduceEqDiff, Int.reduceLT, Int.reduceLE, Int.reduceEq, Int.reduceToNat, qFF, oneOf]
theorem qKa (v : VT) (hk : v.kind = 2) (h1 : -9223372036854775808 ≤ v.n) (h2 : v.n ≤ 9223372036854775807) : Om 11 [kA v.row] [] = some (kS (Lib.itoa v.n), []) := by
 have c1 : CAL 21 [pipeP v.n] (kS (Lib.itoa v.n)) := qAI 21 _ _ rfl (qN6 v.n h1 h2) rfl
 have b7 : ∀ {β : Type} {O : Oracle} {h : Heap} {d : Nat} {k : TVal → Heap → Option β}, vop O (.bslice 7 1 [.p (.int .i64 0), .p (.str []), .p .nilslice, .p (.str []), .p (.int .i64 0), .p (.bool false), .p .nilslice] [(0, .k (.v (.agg [.p (.int .i64 3), .p (.str []), .p .nilslice, .p (.str []), .p (.int .i64 v.n), .p (.bool false), .p .nilslice])))] false) h d k = k (kSl 7 true [opRow v.n]) h := qAW _ _ rfl
 have b1 : ∀ {β : Type} {O : Oracle} {h : Heap} {d : Nat} {k : TVal → Heap → Option β}, vop O (.bslice 1 1 [.p .nilslice] [(0, .k (.v (.agg [.p (.slice 7 true [opRow v.n])])))] false) h d k = k (pipeP v.n) h := qAW _ _ rfl
 refine (qAE rfl).trans ?_
 show lim tab.get S 11 0 0 [kA v.row] h0 = _
 rw [w11_0, b11_0]
 simp (maxSteps := 9999999) +contextual only [exa, ne_eq, not_false_eq_true, reduceAdd, reduceMul, reduceLT, reduceLeDiff, reduceEqDiff, Int.reduceLT, Int.reduceLE, Int.reduceEq, Int.reduceToNat, hk, b7, b1, c1, oneOf]
open Go Go.AI
theorem qOS {β : Type} {h : Heap} {k : TVal → Heap → Option β} (a : Int) : vbin .shr 0 (kN .u64 a) (kN .u64 32) h k = k (kN .u64 (a / 4294967296)) h := qA6 _ _ _ _ _ (by
 show some (Cell.p (.int .u64 (a.fdiv (2 ^ (min ((32 : Int).toNat) 64))))) = _
 rw [show (2 : Int) ^ (min ((32 : Int).toNat) 64) = 4294967296 by decide, Int.fdiv_eq_ediv_of_nonneg _ (by decide)])
theorem qOa {β : Type} {h : Heap} {k : TVal → Heap → Option β} (a : Int) : vbin .shr 0 (kN .u64 a) (kN .u64 16) h k = k (kN .u64 (a / 65536)) h := qA6 _ _ _ _ _ (by
 show some (Cell.p (.int .u64 (a.fdiv (2 ^ (min ((16 : Int).toNat) 64))))) = _
 rw [show (2 : Int) ^ (min ((16 : Int).toNat) 64) = 65536 by decide, Int.fdiv_eq_ediv_of_nonneg _ (by decide)])
theorem vsh8 {β : Type} {h : Heap} {k : TVal → Heap → Option β} (a : Int) : vbin .shr 0 (kN .u64 a) (kN .u64 8) h k = k (kN .u64 (a / 256)) h := qA6 _ _ _ _ _ (by
 show some (Cell.p (.int .u64 (a.fdiv (2 ^ (min ((8 : Int).toNat) 64))))) = _
 rw [show (2 : Int) ^ (min ((8 : Int).toNat) 64) = 256 by decide, Int.fdiv_eq_ediv_of_nonneg _ (by decide)])
def len8L : List UInt8 := z0a4518d3
theorem qKH : (List.range 256).all (fun x => match len8L[x]? with | some b => (x == 0 && b == 0) || (decide (1 ≤ b.toNat) && decide (2 ^ (b.toNat - 1) ≤ x) && decide (x < 2 ^ b.toNat) && decide (b.toNat ≤ 8)) | none => false) = true := by decide +kernel
def IsLen (u : Int) (L : Nat) : Prop := (u = 0 ∧ L = 0) ∨ (1 ≤ L ∧ (2 : Int) ^ (L - 1) ≤ u ∧ u < 2 ^ L)
theorem qMl (x : Int) (h0 : 0 ≤ x) (h1 : x < 256) : ∃ b : UInt8, len8L[x.toNat]? = some b ∧ IsLen x b.toNat ∧ b.toNat ≤ 8 := by
 have h := List.all_eq_true.1 qKH x.toNat (List.mem_range.2 (by omega))
 revert h
 cases hb : len8L[x.toNat]? with
 | none => intro h; cases h
 | some b =>
  intro h
  refine ⟨b, rfl, ?_⟩
  simp only [Bool.or_eq_true, Bool.and_eq_true, beq_iff_eq, decide_eq_true_eq] at h
  rcases h with ⟨h2, h3⟩ | ⟨⟨⟨h2, h3⟩, h4⟩, h5⟩
  ·subst h3
   exact ⟨.inl ⟨by omega, rfl⟩, by decide⟩
  ·refine ⟨.inr ⟨h2, ?_, ?_⟩, h5⟩
   ·have : ((2 ^ (b.toNat - 1) : Nat) : Int) ≤ ((x.toNat : Nat) : Int) := by exact_mod_cast h3
    rw [Int.toNat_of_nonneg h0] at this
    simpa using this
   ·have : ((x.toNat : Nat) : Int) < ((2 ^ b.toNat : Nat) : Int) := by exact_mod_cast h4
    rw [Int.toNat_of_nonneg h0] at this
    simpa using this
theorem qLy (x : Int) (n : Nat) (h0 : 0 ≤ x) (h1 : x < 256) (hn : n ≤ 200) (h : Heap) : ∃ L : Nat, L ≤ 8 ∧ IsLen x L ∧ lim tab.get S 125 0 3 [kN .u64 x, kI (n : Int)] h = some (kI ((n + L : Nat) : Int), []) := by
 obtain ⟨b, hb, hl, h8⟩ := qMl x h0 h1
 refine ⟨b.toNat, h8, hl, ?_⟩
 have w1 : IntKind.u8.wrap x = x := qAJ .u8 _ (by show (0 : Int) ≤ _; omega) (by show _ ≤ (255 : Int); omega)
 have w2 : IntKind.i64.wrap ((b.toNat : Nat) : Int) = ((b.toNat : Nat) : Int) := qAF _ (by omega) (by omega)
 have w3 : IntKind.i64.wrap ((n : Int) + ((b.toNat : Nat) : Int)) = ((n + b.toNat : Nat) : Int) := by rw [qAF _ (by omega) (by omega)]; omega
 have hx : ∀ {β : Type} {h : Heap} {k : TVal → Heap → Option β}, vindex (kS z0a4518d3) (kN .u8 x) h k = k (kU b) h := fun {β h k} => by
  obtain ⟨m, hm⟩ : ∃ m : Nat, x = m := ⟨x.toNat, by omega⟩
  subst hm
  show bnd (nthF len8L m) _ = _
  rw [qAY]
  rw [Int.toNat_natCast] at hb
  rw [hb]; rfl
 rw [w125_3, b125_3]
 simp (maxSteps := 9999999) +contextual only [exa, ne_eq, not_false_eq_true, reduceAdd, reduceMul, reduceLT, reduceLeDiff, reduceEqDiff, Int.reduceLT, Int.reduceLE, Int.reduceEq, Int.reduceToNat, w1, hx, w2, w3, oneOf]
theorem qMb {x : Int} {L : Nat} (hx : 256 ≤ x) (h : IsLen (x / 256) L) : IsLen x (L + 8) := by
 rcases h with ⟨h1, _⟩ | ⟨h1, h2, h3⟩
 ·omega
 ·refine .inr ⟨by omega, ?_, ?_⟩
  ·rw [show L + 8 - 1 = (L - 1) + 8 by omega, Int.pow_add, show (2 : Int) ^ 8 = 256 by decide]
   generalize (2 : Int) ^ (L - 1) = y at h2
   omega
  ·rw [Int.pow_add, show (2 : Int) ^ 8 = 256 by decide]
   generalize (2 : Int) ^ L = y at h3
   omega
theorem qLT {x : Int} {L : Nat} (hx : 65536 ≤ x) (h : IsLen (x / 65536) L) : IsLen x (L + 16) := by
 rcases h with ⟨h1, _⟩ | ⟨h1, h2, h3⟩
 ·omega
 ·refine .inr ⟨by omega, ?_, ?_⟩
  ·rw [show L + 16 - 1 = (L - 1) + 16 by omega, Int.pow_add, show (2 : Int) ^ 16 = 65536 by decide]
   generalize (2 : Int) ^ (L - 1) = y at h2
   omega
  ·rw [Int.pow_add, show (2 : Int) ^ 16 = 65536 by decide]
   generalize (2 : Int) ^ L = y at h3
   omega
theorem qKt {x : Int} {L : Nat} (hx : 4294967296 ≤ x) (h : IsLen (x / 4294967296) L) : IsLen x (L + 32) := by
 rcases h with ⟨h1, _⟩ | ⟨h1, h2, h3⟩
 ·omega
 ·refine .inr ⟨by omega, ?_, ?_⟩
  ·rw [show L + 32 - 1 = (L - 1) + 32 by omega, Int.pow_add, show (2 : Int) ^ 32 = 4294967296 by decide]
   generalize (2 : Int) ^ (L - 1) = y at h2
   omega
  ·rw [Int.pow_add, show (2 : Int) ^ 32 = 4294967296 by decide]
   generalize (2 : Int) ^ L = y at h3
   omega
theorem qLz (x : Int) (n : Nat) (h0 : 0 ≤ x) (h1 : x < 65536) (hn : n ≤ 150) (h : Heap) : ∃ L : Nat, L ≤ 16 ∧ IsLen x L ∧ lim tab.get S 125 0 2 [kN .u64 x, kI (n : Int)] h = some (kI ((n + L : Nat) : Int), []) := by
 rw [w125_2, b125_2]
 by_cases hx : 256 ≤ x
 ·have hx' : ¬ x < 256 := by omega
  have w : IntKind.i64.wrap ((n : Int) + 8) = ((n + 8 : Nat) : Int) := by rw [qAF _ (by omega) (by omega)]; omega
  obtain ⟨L, h8, hl, e⟩ := qLy (x / 256) (n + 8) (by omega) (by omega) (by omega) h
  refine ⟨L + 8, by omega, qMb hx hl, ?_⟩
  simp (maxSteps := 9999999) +contextual only [exa, ne_eq, not_false_eq_true, reduceAdd, reduceMul, reduceLT, reduceLeDiff, reduceEqDiff, Int.reduceLT, Int.reduceLE, Int.reduceEq, Int.reduceToNat, hx', vsh8, w]
  refine e.trans ?_
  rw [show n + 8 + L = n + (L + 8) by omega]
 ·have hx' : x < 256 := by omega
  obtain ⟨L, h8, hl, e⟩ := qLy x n h0 hx' (by omega) h
  refine ⟨L, by omega, hl, ?_⟩
  simp (maxSteps := 9999999) +contextual only [exa, ne_eq, not_false_eq_true, reduceAdd, reduceMul, reduceLT, reduceLeDiff, reduceEqDiff, Int.reduceLT, Int.reduceLE, Int.reduceEq, Int.reduceToNat, hx']
  exact e
theorem qLx (x : Int) (n : Nat) (h0 : 0 ≤ x) (h1 : x < 4294967296) (hn : n ≤ 100) (h : Heap) : ∃ L : Nat, L ≤ 32 ∧ IsLen x L ∧ lim tab.get S 125 0 1 [kN .u64 x, kI (n : Int)] h = some (kI ((n + L : Nat) : Int), []) := by
 rw [w125_1, b125_1]
 by_cases hx : 65536 ≤ x
 ·have hx' : ¬ x < 65536 := by omega
  have w : IntKind.i64.wrap ((n : Int) + 16) = ((n + 16 : Nat) : Int) := by rw [qAF _ (by omega) (by omega)]; omega
  obtain ⟨L, h8, hl, e⟩ := qLz (x / 65536) (n + 16) (by omega) (by omega) (by omega) h
  refine ⟨L + 16, by omega, qLT hx hl, ?_⟩
  simp (maxSteps := 9999999) +contextual only [exa, ne_eq, not_false_eq_true, reduceAdd, reduceMul, reduceLT, reduceLeDiff, reduceEqDiff, Int.reduceLT, Int.reduceLE, Int.reduceEq, Int.reduceToNat, hx', qOa, w]
  refine e.trans ?_
  rw [show n + 16 + L = n + (L + 16) by omega]
 ·have hx' : x < 65536 := by omega
  obtain ⟨L, h8, hl, e⟩ := qLz x n h0 hx' (by omega) h
  refine ⟨L, by omega, hl, ?_⟩
  simp (maxSteps := 9999999) +contextual only [exa, ne_eq, not_false_eq_true, reduceAdd, reduceMul, reduceLT, reduceLeDiff, reduceEqDiff, Int.reduceLT, Int.reduceLE, Int.reduceEq, Int.reduceToNat, hx']
  exact e
theorem qOP (x : Int) (h0 : 0 ≤ x) (h1 : x < 18446744073709551616) : ∃ L : Nat, L ≤ 64 ∧ IsLen x L ∧ Om 125 [kN .u64 x] [] = some (kI (L : Int), []) := by
 have hs : Om 125 [kN .u64 x] [] = lim tab.get S 125 0 0 [kN .u64 x] Go.AI.h0 := qAE rfl
 rw [hs, w125_0, b125_0]
 by_cases hx : 4294967296 ≤ x
 ·have hx' : ¬ x < 4294967296 := by omega
  obtain ⟨L, h8, hl, e⟩ := qLx (x / 4294967296) 32 (by omega) (by omega) (by decide) Go.AI.h0
  refine ⟨L + 32, by omega, qKt hx hl, ?_⟩
  simp (maxSteps := 9999999) +contextual only [exa, ne_eq, not_false_eq_true, reduceAdd, reduceMul, reduceLT, reduceLeDiff, reduceEqDiff, Int.reduceLT, Int.reduceLE, Int.reduceEq, Int.reduceToNat, hx', qOS]
  refine e.trans ?_
  rw [Nat.add_comm]
 ·have hx' : x < 4294967296 := by omega
  obtain ⟨L, h8, hl, e⟩ := qLx x 0 h0 hx' (by decide) Go.AI.h0
  refine ⟨L, by omega, hl, ?_⟩
  simp (maxSteps := 9999999) +contextual only [exa, ne_eq, not_false_eq_true, reduceAdd, reduceMul, reduceLT, reduceLeDiff, reduceEqDiff, Int.reduceLT, Int.reduceLE, Int.reduceEq, Int.reduceToNat, hx']
  refine e.trans ?_
  rw [Nat.zero_add]
open Go Go.AI
def tenL (L : Nat) : Nat := L * 78913 / 262144
theorem qL2 : (List.range 65).all (fun L => decide (tenL L < 20) && (decide (L = 0) || (decide (2 ^ L ≤ 10 ^ (tenL L + 1)) && (decide (tenL L = 0) || decide (10 ^ (tenL L - 1) ≤ 2 ^ (L - 1)))))) = true := by decide +kernel
theorem qNb (L : Nat) (hL : L ≤ 64) : Om 124 [kI (L : Int)] [] = some (kI (tenL L : Int), []) := by
 refine (qAE rfl).trans ?_
 show lim tab.get S 124 0 0 [kI (L : Int)] h0 = _
 have w : IntKind.i64.wrap ((L : Int) * 78913) = ((L * 78913 : Nat) : Int) := by rw [qAF _ (by omega) (by omega)]; omega
 have sh : ∀ {β : Type} {h : Heap} {k : TVal → Heap → Option β}, vbin .shr 0 (kI ((L * 78913 : Nat) : Int)) (kN .u64 18) h k = k (kI (tenL L : Int)) h := fun {β h k} => qA6 _ _ _ _ _ (by
  show some (Cell.p (.int .i64 ((((L * 78913 : Nat) : Int)).fdiv (2 ^ (min ((18 : Int).toNat) 64))))) = _
  rw [show (2 : Int) ^ (min ((18 : Int).toNat) 64) = 262144 by decide, Int.fdiv_eq_ediv_of_nonneg _ (by decide)]
  unfold tenL
  rw [Int.natCast_ediv]; rfl)
 rw [w124_0, b124_0]
 simp (maxSteps := 9999999) +contextual only [exa, ne_eq, not_false_eq_true, reduceAdd, reduceMul, reduceLT, reduceLeDiff, reduceEqDiff, Int.reduceLT, Int.reduceLE, Int.reduceEq, Int.reduceToNat, w, sh, oneOf]
theorem qOE (b : Bool) : Om 126 [kB b] [] = some (kI (if b = true then 1 else 0), []) := by
 refine (qAE rfl).trans ?_
 show lim tab.get S 126 0 0 [kB b] h0 = _
 rw [w126_0, b126_0]
 cases b
 ·simp (maxSteps := 9999999) +contextual only [exa, ne_eq, not_false_eq_true, reduceAdd, reduceMul, reduceLT, reduceLeDiff, reduceEqDiff, Int.reduceLT, Int.reduceLE, Int.reduceEq, Int.reduceToNat, oneOf]
  rfl
 ·simp (maxSteps := 9999999) +contextual only [exa, ne_eq, not_false_eq_true, reduceAdd, reduceMul, reduceLT, reduceLeDiff, reduceEqDiff, Int.reduceLT, Int.reduceLE, Int.reduceEq, Int.reduceToNat, oneOf]
  rfl
abbrev powR : List PVal := [.int .u64 1, .int .u64 10, .int .u64 100, .int .u64 1000, .int .u64 10000, .int .u64 100000, .int .u64 1000000, .int .u64 10000000, .int .u64 100000000, .int .u64 1000000000, .int .u64 10000000000, .int .u64 100000000000, .int .u64 1000000000000, .int .u64 10000000000000, .int .u64 100000000000000, .int .u64 1000000000000000, .int .u64 10000000000000000, .int .u64 100000000000000000, .int .u64 1000000000000000000, .int .u64 10000000000000000000]
theorem qNu (t : Nat) (ht : t < 20) : powR[t]? = some (.int .u64 (10 ^ t)) := by
 match t, ht with
 | 0, _ => rfl
 | 1, _ => rfl
 | 2, _ => rfl
 | 3, _ => rfl
 | 4, _ => rfl
 | 5, _ => rfl
 | 6, _ => rfl
 | 7, _ => rfl
 | 8, _ => rfl
 | 9, _ => rfl
 | 10, _ => rfl
 | 11, _ => rfl
 | 12, _ => rfl
 | 13, _ => rfl
 | 14, _ => rfl
 | 15, _ => rfl
 | 16, _ => rfl
 | 17, _ => rfl
 | 18, _ => rfl
 | 19, _ => rfl
 | n + 20, h => exact absurd h (by omega)
theorem qFn {β : Type} {O : Oracle} {h : Heap} {d : Nat} {k : TVal → Heap → Option β} (n : Nat) (row : List PVal) (t : Nat) (ht : t < n) : vop O (.iaddrA n 1 (.k (.v (.c (.p (.pptr row 0))))) (.k (kI (t : Int)))) h d k = k (.v (.c (.p (.pptr row t)))) h := qAW _ _ (by
 show (if t < n then some (Plan.pure (.pv (.pptr row (0 + t * 1)))) else none) = _
 rw [if_pos ht, Nat.mul_one, Nat.zero_add])
theorem qJT (u : Int) (h0 : 0 ≤ u) (h1 : u < 18446744073709551616) : ∃ N : Nat, N ≤ 20 ∧ u < 10 ^ N ∧ (u = 0 ∨ (1 ≤ N ∧ (10 : Int) ^ (N - 1) ≤ u)) ∧ Om 111 [kN .u64 u] [] = some (kI (N : Int), []) := by
 obtain ⟨L, hL, hl, e⟩ := qOP u h0 h1
 have c1 : CAL 125 [kN .u64 u] (kI (L : Int)) := qAI 125 _ _ rfl e rfl
 have c2 : CAL 124 [kI (L : Int)] (kI (tenL L : Int)) := qAI 124 _ _ rfl (qNb L hL) rfl
 have c3 : ∀ {β : Type} {k : TVal → Heap → Option β} {h : Heap} {d : Nat} (b : Bool), vcall Om (.v (.c (.func 126 []))) [kB b] h d k = k (kI (if b = true then 1 else 0)) h := fun b => qAI 126 _ _ rfl (qOE b) rfl
 have hT := List.all_eq_true.1 qL2 L (List.mem_range.2 (by omega))
 simp only [Bool.and_eq_true, Bool.or_eq_true, decide_eq_true_eq] at hT
 obtain ⟨t20, hT⟩ := hT
 have hp := qNu (tenL L) t20
 have hs : Om 111 [kN .u64 u] [] = lim tab.get S 111 0 0 [kN .u64 u] Go.AI.h0 := qAE rfl
 by_cases hq : u < 10 ^ tenL L
 ·refine ⟨tenL L, by omega, hq, ?_, ?_⟩
  ·rcases hl with ⟨hl, _⟩ | ⟨l1, l2, l3⟩
   ·exact .inl hl
   ·refine .inr ?_
    rcases hT with hT | ⟨_, hT | hT⟩
    ·omega
    ·exfalso
     rw [hT] at hq
     have : (0 : Int) < 2 ^ (L - 1) := Int.pow_pos (by decide)
     have : (10 : Int) ^ 0 = 1 := rfl
     omega
    ·refine ⟨?_, ?_⟩
     ·rcases Nat.eq_zero_or_pos (tenL L) with hz | hz
      ·exfalso
       rw [hz] at hq
       have : (0 : Int) < 2 ^ (L - 1) := Int.pow_pos (by decide)
       have : (10 : Int) ^ 0 = 1 := rfl
       omega
      ·exact hz
     ·have : ((10 ^ (tenL L - 1) : Nat) : Int) ≤ ((2 ^ (L - 1) : Nat) : Int) := by exact_mod_cast hT
      rw [Int.natCast_pow, Int.natCast_pow] at this
      exact Int.le_trans this l2
  ·have w : IntKind.i64.wrap ((tenL L : Int) + 0) = (tenL L : Int) := by rw [qAF _ (by omega) (by omega)]; omega
   rw [hs, w111_0, b111_0]
   simp (maxSteps := 9999999) +contextual only [exa, ne_eq, not_false_eq_true, reduceAdd, reduceMul, reduceLT, reduceLeDiff, reduceEqDiff, Int.reduceLT, Int.reduceLE, Int.reduceEq, Int.reduceToNat, c1, c2, qFn 20 _ _ t20, hp, hq, c3, Bool.false_eq_true, if_false, w, oneOf]
 ·refine ⟨tenL L + 1, by omega, ?_, ?_, ?_⟩
  ·rcases hl with ⟨hl, hz⟩ | ⟨l1, l2, l3⟩
   ·rw [hl]; exact Int.pow_pos (by decide)
   ·rcases hT with hT | ⟨hT, _⟩
    ·omega
    ·have : ((2 ^ L : Nat) : Int) ≤ ((10 ^ (tenL L + 1) : Nat) : Int) := by exact_mod_cast hT
     rw [Int.natCast_pow, Int.natCast_pow] at this
     exact Int.lt_of_lt_of_le l3 this
  ·exact .inr ⟨by omega, by rw [Nat.add_sub_cancel]; omega⟩
  ·have w : IntKind.i64.wrap ((tenL L : Int) + 1) = ((tenL L + 1 : Nat) : Int) := by rw [qAF _ (by omega) (by omega)]; omega
   rw [hs, w111_0, b111_0]
   simp (maxSteps := 9999999) +contextual only [exa, ne_eq, not_false_eq_true, reduceAdd, reduceMul, reduceLT, reduceLeDiff, reduceEqDiff, Int.reduceLT, Int.reduceLE, Int.reduceEq, Int.reduceToNat, c1, c2, qFn 20 _ _ t20, hp, hq, c3, if_true, w, oneOf]
open Go Go.AI
def dig (x : Int) : Cell := .p (.int .u8 (48 + x % 10))
def wr : List Cell → Nat → Int → Nat → List Cell
 | cs, _, _, 0 => cs
 | cs, i, u, k + 1 => wr (cs.set i (dig u)) (i - 1) (u / 10) k
theorem qJc : ∀ (k : Nat) (cs : List Cell) (i : Nat) (u : Int), (wr cs i u k).length = cs.length
 | 0, _, _, _ => rfl
 | k + 1, cs, i, u => by rw [wr, qJc k, List.length_set]
theorem qAV (cs : List Cell) (i : Nat) (c : Cell) (hi : i < cs.length) : put1 cs i [c] = cs.set i c := by
 unfold put1 splice
 rw [List.set_eq_take_append_cons_drop, if_pos hi]
 simp
abbrev bufP (N : Nat) : TVal := .v (.c (.sref (.im 0) 1 N (some 23) 1))
def plainC (cs : List Cell) : Prop := ∃ xs, cs = pcells xs
theorem qFq (cs : List Cell) (h : Heap) (hp : plainC cs) (hg : h.get (.im 0) = some (.cells cs 0)) : vfin true 1 [] h = some (.tup [], [.cells cs 0]) := by
 obtain ⟨xs, rfl⟩ := hp
 exact qJv true [] _ rfl hg (qBS xs 0)
theorem fb4 (N i : Nat) (u : Int) (cs : List Cell) (h : Heap) (hp : plainC cs) (hl : cs.length = 24) (hg : h.get (.im 0) = some (.cells cs 0)) (hi : i ≤ 1) (hiN : i ≤ N) (hN : N ≤ 23) (h0 : 0 ≤ u) (h1 : u < 10 ^ i) :
  lim tab.get S 112 1 4 [bufP N, kI (i : Int), kN .u32 u] h = some (.tup [], [.cells (wr cs i u i) 0]) := by
 rw [w112_4, b112_4]
 rcases Nat.le_one_iff_eq_zero_or_eq_one.1 hi with rfl | rfl
 ·have a : ¬ (0 : Int) < ((0 : Nat) : Int) := by omega
  simp (maxSteps := 9999999) +contextual only [exa, ne_eq, not_false_eq_true, reduceAdd, reduceMul, reduceLT, reduceLeDiff, reduceEqDiff, Int.reduceLT, Int.reduceLE, Int.reduceEq, Int.reduceToNat, a]
  exact qFq cs h hp hg
 ·have a : (0 : Int) < ((1 : Nat) : Int) := by omega
  have hu : u < 10 := by simpa using h1
  have w1 : IntKind.u32.wrap (48 + u) = 48 + u := qAJ .u32 _ (by show (0 : Int) ≤ _; omega) (by show _ ≤ (4294967295 : Int); omega)
  have w2 : IntKind.u8.wrap (48 + u) = 48 + u := qAJ .u8 _ (by show (0 : Int) ≤ _; omega) (by show _ ≤ (255 : Int); omega)
  have hN0 : 0 < N := by omega
  have P : put1 cs 1 [.p (.int .u8 (48 + u))] = wr cs 1 u 1 := by
   rw [qAV _ _ _ (by omega)]
   show _ = cs.set 1 (dig u)
   unfold dig
   rw [Int.emod_eq_of_lt h0 hu]
  have hp2 : plainC (wr cs 1 u 1) := by
   obtain ⟨xs, rfl⟩ := hp
   refine ⟨xs.set 1 (.int .u8 (48 + u % 10)), ?_⟩
   show (pcells xs).set 1 (dig u) = _
   unfold pcells dig
   rw [List.map_set]
  simp (maxSteps := 9999999) +contextual only [exa, ne_eq, not_false_eq_true, reduceAdd, reduceMul, reduceLT, reduceLeDiff, reduceEqDiff, Int.reduceLT, Int.reduceLE, Int.reduceEq, Int.reduceToNat, a, w1, w2, hN0, hg, hl, P]
  exact qFq _ _ hp2 (qAP h 0 _ _ (by rw [hg]; rfl))
open Go Go.AI
def pairL : List UInt8 := z53fdd7c2
theorem qF7 : (List.range 100).all (fun q => (pairL[q * 2]? == some (UInt8.ofNat (48 + q / 10))) && (pairL[q * 2 + 1]? == some (UInt8.ofNat (48 + q % 10)))) = true := by decide +kernel
theorem qBf {β : Type} {h : Heap} {k : TVal → Heap → Option β} (K : IntKind) (x : Int) (h0 : 0 ≤ x) (h1 : x < 100) : vindex (kS z53fdd7c2) (kN K (x * 2 + 1)) h k = k (.v (.c (dig x))) h := by
 obtain ⟨q, rfl⟩ : ∃ q : Nat, x = q := ⟨x.toNat, by omega⟩
 have h := List.all_eq_true.1 qF7 q (List.mem_range.2 (by omega))
 simp only [Bool.and_eq_true, beq_iff_eq] at h
 show bnd (nthF pairL (q * 2 + 1)) _ = _
 rw [qAY, h.2]
 show k (kU (UInt8.ofNat (48 + q % 10))) _ = _
 unfold dig
 show k (.v (.c (.p (.int .u8 ((UInt8.ofNat (48 + q % 10)).toNat : Int))))) _ = _
 rw [UInt8.toNat_ofNat', Nat.mod_eq_of_lt (by omega)]
 congr 5
theorem qBg {β : Type} {h : Heap} {k : TVal → Heap → Option β} (K : IntKind) (x : Int) (h0 : 0 ≤ x) (h1 : x < 100) : vindex (kS z53fdd7c2) (kN K (x * 2)) h k = k (.v (.c (dig (x / 10)))) h := by
 obtain ⟨q, rfl⟩ : ∃ q : Nat, x = q := ⟨x.toNat, by omega⟩
 have h := List.all_eq_true.1 qF7 q (List.mem_range.2 (by omega))
 simp only [Bool.and_eq_true, beq_iff_eq] at h
 show bnd (nthF pairL (q * 2)) _ = _
 rw [qAY, h.1]
 show k (.v (.c (.p (.int .u8 ((UInt8.ofNat (48 + q / 10)).toNat : Int))))) _ = _
 rw [UInt8.toNat_ofNat', Nat.mod_eq_of_lt (by omega)]
 unfold dig
 have e : ((48 + q / 10 : Nat) : Int) = 48 + (q : Int) / 10 % 10 := by omega
 rw [e]
theorem qAR {cs : List Cell} (hp : plainC cs) (i : Nat) (x : Int) : plainC (cs.set i (dig x)) := by
 obtain ⟨xs, rfl⟩ := hp
 exact ⟨xs.set i (.int .u8 (48 + x % 10)), by unfold pcells dig; rw [List.map_set]⟩
theorem qFu : ∀ (k : Nat) (cs : List Cell) (i : Nat) (u : Int), plainC cs → plainC (wr cs i u k)
 | 0, _, _, _, h => h
 | k + 1, cs, i, u, h => qFu k _ _ _ (qAR h i u)
theorem qMo (u : Int) (m : Int) (hm : (10 : Int) ∣ m) : dig (u % m) = dig u := by
 unfold dig
 rw [Int.emod_emod_of_dvd _ hm]
theorem fb3 (N i : Nat) (u : Int) (cs : List Cell) (h : Heap) (hp : plainC cs) (hl : cs.length = 24) (hg : h.get (.im 0) = some (.cells cs 0)) (hi : i ≤ 3) (hiN : i ≤ N) (hN : N ≤ 23) (h0 : 0 ≤ u) (h1 : u < 10 ^ i) :
  lim tab.get S 112 1 3 [bufP N, kI (i : Int), kN .u32 u] h = some (.tup [], [.cells (wr cs i u i) 0]) := by
 rw [w112_3, b112_3]
 have hu : u < 1000 := by
  have hi' : i = 0 ∨ i = 1 ∨ i = 2 ∨ i = 3 := by omega
  rcases hi' with rfl | rfl | rfl | rfl <;> simp at h1 <;> omega
 by_cases h2 : 2 ≤ i
 ·have a : ¬ (i : Int) < 2 := by omega
  have e1 : u.tmod 100 = u % 100 := Int.tmod_eq_emod_of_nonneg h0
  have e2 : u.tdiv 100 = u / 100 := Int.tdiv_eq_ediv_of_nonneg h0
  have w1 : IntKind.u32.wrap (u % 100 * 2) = u % 100 * 2 := qAJ .u32 _ (by show (0 : Int) ≤ _; omega) (by show _ ≤ (4294967295 : Int); omega)
  have w2 : IntKind.u32.wrap (u % 100 * 2 + 1) = u % 100 * 2 + 1 := qAJ .u32 _ (by show (0 : Int) ≤ _; omega) (by show _ ≤ (4294967295 : Int); omega)
  have w3 : IntKind.u32.wrap (u / 100) = u / 100 := qAJ .u32 _ (by show (0 : Int) ≤ _; omega) (by show _ ≤ (4294967295 : Int); omega)
  have v1 : IntKind.i64.wrap ((i : Int) - 1) = ((i - 1 : Nat) : Int) := by rw [qAF _ (by omega) (by omega)]; omega
  have v2 : IntKind.i64.wrap ((i : Int) - 2) = ((i - 2 : Nat) : Int) := by rw [qAF _ (by omega) (by omega)]; omega
  have l1 : i - 1 < N := by omega
  have l2 : i - 2 < N := by omega
  have n1 : ((i - 1 : Nat) : Int).toNat = i - 1 := Int.toNat_natCast _
  have n2 : ((i - 2 : Nat) : Int).toNat = i - 2 := Int.toNat_natCast _
  have g1 : (0 : Int) ≤ ((i - 1 : Nat) : Int) := by omega
  have g2 : (0 : Int) ≤ ((i - 2 : Nat) : Int) := by omega
  have P1 : put1 cs (1 + (i - 1)) [dig (u % 100)] = cs.set i (dig u) := by
   rw [qAV _ _ _ (by omega), qMo u 100 (by decide), show 1 + (i - 1) = i by omega]
  have P2 : put1 (cs.set i (dig u)) (1 + (i - 2)) [dig (u % 100 / 10)] = (cs.set i (dig u)).set (i - 1) (dig (u / 10)) := by
   rw [qAV _ _ _ (by rw [List.length_set]; omega), show 1 + (i - 2) = i - 1 by omega]
   congr 1
   unfold dig
   have : u % 100 / 10 % 10 = u / 10 % 10 := by omega
   rw [this]
  have b1 : 1 + (i - 1) + 1 ≤ 24 := by omega
  have b2 : 1 + (i - 2) + 1 ≤ 24 := by omega
  have hgs : ∀ (h : Heap) (c : List Cell), (h.get (.im 0)).isSome = true → (h.put (.im 0) (.cells c 0)).get (.im 0) = some (.cells c 0) := fun h c x => qAP h 0 c 0 x
  have s1 : (h.get (.im 0)).isSome = true := by rw [hg]; rfl
  have q1 : (h.put (.im 0) (.cells (cs.set i (dig u)) 0)).get (.im 0) = some (.cells (cs.set i (dig u)) 0) := hgs _ _ s1
  have q2 : ((h.put (.im 0) (.cells (cs.set i (dig u)) 0)).put (.im 0) (.cells ((cs.set i (dig u)).set (i - 1) (dig (u / 10))) 0)).get (.im 0) = some (.cells ((cs.set i (dig u)).set (i - 1) (dig (u / 10))) 0) := hgs _ _ (by rw [q1]; rfl)
  simp (maxSteps := 9999999) +contextual only [exa, ne_eq, not_false_eq_true, reduceAdd, reduceMul, reduceLT, reduceLeDiff, reduceEqDiff, Int.reduceLT, Int.reduceLE, Int.reduceEq, Int.reduceToNat, a, qA9 0 .u32 u 100 (by decide), qA7 0 .u32 u 100 (by decide), e1, e2, w1, w2, w3, v1, v2, qBf .u32 (u % 100) (by omega) (by omega), qBg .u32 (u % 100) (by omega) (by omega), l1, l2, n1, n2, g1, g2, hg, hl, List.length_set, Nat.mul_one, Nat.zero_le, P1, P2, b1, b2, q1]
  have r : wr cs i u i = wr ((cs.set i (dig u)).set (i - 1) (dig (u / 10))) (i - 2) (u / 100) (i - 2) := by
   obtain ⟨m, rfl⟩ : ∃ m, i = m + 2 := ⟨i - 2, by omega⟩
   rw [wr, wr, Int.ediv_ediv_of_nonneg (by decide)]
   rfl
  rw [r]
  refine fb4 N (i - 2) (u / 100) _ _ (qAR (qAR hp _ _) _ _) (by rw [List.length_set, List.length_set]; exact hl) q2 (by omega) (by omega) hN (by omega) ?_
  have hi' : i = 2 ∨ i = 3 := by omega
  rcases hi' with rfl | rfl
  ·simp at h1 ⊢; omega
  ·simp at h1 ⊢; omega
 ·have a : (i : Int) < 2 := by omega
  simp (maxSteps := 9999999) +contextual only [exa, ne_eq, not_false_eq_true, reduceAdd, reduceMul, reduceLT, reduceLeDiff, reduceEqDiff, Int.reduceLT, Int.reduceLE, Int.reduceEq, Int.reduceToNat, a]
  exact fb4 N i u cs h hp hl hg (by omega) hiN hN h0 h1
open Go Go.AI
theorem qBD {x y : Int} (h : x % 10 = y % 10) : dig x = dig y := by unfold dig; rw [h]
theorem fb2 (N i : Nat) (u : Int) (cs : List Cell) (h : Heap) (hp : plainC cs) (hl : cs.length = 24) (hg : h.get (.im 0) = some (.cells cs 0)) (hi : i ≤ 7) (hiN : i ≤ N) (hN : N ≤ 23) (h0 : 0 ≤ u) (h1 : u < 10 ^ i) :
  lim tab.get S 112 1 2 [bufP N, kN .u64 u, kI (i : Int)] h = some (.tup [], [.cells (wr cs i u i) 0]) := by
 rw [w112_2, b112_2]
 have hu : u < 10000000 := by
  have hi' : i = 0 ∨ i = 1 ∨ i = 2 ∨ i = 3 ∨ i = 4 ∨ i = 5 ∨ i = 6 ∨ i = 7 := by omega
  rcases hi' with rfl | rfl | rfl | rfl | rfl | rfl | rfl | rfl <;> simp at h1 <;> omega
 have w0 : IntKind.u32.wrap u = u := qAJ .u32 _ (by show (0 : Int) ≤ _; omega) (by show _ ≤ (4294967295 : Int); omega)
 by_cases h2 : 4 ≤ i
 ·have a : ¬ (i : Int) < 4 := by omega
  have e1 : u.tmod 10000 = u % 10000 := Int.tmod_eq_emod_of_nonneg h0
  have e2 : u.tdiv 10000 = u / 10000 := Int.tdiv_eq_ediv_of_nonneg h0
  have e3 : (u % 10000).tdiv 100 = u % 10000 / 100 := Int.tdiv_eq_ediv_of_nonneg (by omega)
  have e4 : (u % 10000).tmod 100 = u % 10000 % 100 := Int.tmod_eq_emod_of_nonneg (by omega)
  have w1 : IntKind.u32.wrap (u / 10000) = u / 10000 := qAJ .u32 _ (by show (0 : Int) ≤ _; omega) (by show _ ≤ (4294967295 : Int); omega)
  have w2 : IntKind.u32.wrap (u % 10000 / 100) = u % 10000 / 100 := qAJ .u32 _ (by show (0 : Int) ≤ _; omega) (by show _ ≤ (4294967295 : Int); omega)
  have w3 : IntKind.u32.wrap (u % 10000 / 100 * 2) = u % 10000 / 100 * 2 := qAJ .u32 _ (by show (0 : Int) ≤ _; omega) (by show _ ≤ (4294967295 : Int); omega)
  have w4 : IntKind.u32.wrap (u % 10000 / 100 * 2 + 1) = u % 10000 / 100 * 2 + 1 := qAJ .u32 _ (by show (0 : Int) ≤ _; omega) (by show _ ≤ (4294967295 : Int); omega)
  have w5 : IntKind.u32.wrap (u % 10000 % 100 * 2) = u % 10000 % 100 * 2 := qAJ .u32 _ (by show (0 : Int) ≤ _; omega) (by show _ ≤ (4294967295 : Int); omega)
  have w6 : IntKind.u32.wrap (u % 10000 % 100 * 2 + 1) = u % 10000 % 100 * 2 + 1 := qAJ .u32 _ (by show (0 : Int) ≤ _; omega) (by show _ ≤ (4294967295 : Int); omega)
  have v1 : IntKind.i64.wrap ((i : Int) - 1) = ((i - 1 : Nat) : Int) := by rw [qAF _ (by omega) (by omega)]; omega
  have l1 : i - 1 < N := by omega
  have n1 : ((i - 1 : Nat) : Int).toNat = i - 1 := Int.toNat_natCast _
  have g1 : (0 : Int) ≤ ((i - 1 : Nat) : Int) := by omega
  have b1 : 1 + (i - 1) + 1 ≤ 24 := by omega
  have v2 : IntKind.i64.wrap ((i : Int) - 2) = ((i - 2 : Nat) : Int) := by rw [qAF _ (by omega) (by omega)]; omega
  have l2 : i - 2 < N := by omega
  have n2 : ((i - 2 : Nat) : Int).toNat = i - 2 := Int.toNat_natCast _
  have g2 : (0 : Int) ≤ ((i - 2 : Nat) : Int) := by omega
  have b2 : 1 + (i - 2) + 1 ≤ 24 := by omega
  have v3 : IntKind.i64.wrap ((i : Int) - 3) = ((i - 3 : Nat) : Int) := by rw [qAF _ (by omega) (by omega)]; omega
  have l3 : i - 3 < N := by omega
  have n3 : ((i - 3 : Nat) : Int).toNat = i - 3 := Int.toNat_natCast _
  have g3 : (0 : Int) ≤ ((i - 3 : Nat) : Int) := by omega
  have b3 : 1 + (i - 3) + 1 ≤ 24 := by omega
  have v4 : IntKind.i64.wrap ((i : Int) - 4) = ((i - 4 : Nat) : Int) := by rw [qAF _ (by omega) (by omega)]; omega
  have l4 : i - 4 < N := by omega
  have n4 : ((i - 4 : Nat) : Int).toNat = i - 4 := Int.toNat_natCast _
  have g4 : (0 : Int) ≤ ((i - 4 : Nat) : Int) := by omega
  have b4 : 1 + (i - 4) + 1 ≤ 24 := by omega
  have P1 : put1 cs (1 + (i - 1)) [dig (u % 10000 % 100)] = (cs.set i (dig (u))) := by
   rw [qAV _ _ _ (by omega), show 1 + (i - 1) = i by omega, qBD (show (u % 10000 % 100) % 10 = (u) % 10 by omega)]
  have P2 : put1 (cs.set i (dig (u))) (1 + (i - 2)) [dig (u % 10000 % 100 / 10)] = ((cs.set i (dig (u))).set (i - 1) (dig (u / 10))) := by
   rw [qAV _ _ _ (by simp only [List.length_set]; omega), show 1 + (i - 2) = (i - 1) by omega, qBD (show (u % 10000 % 100 / 10) % 10 = (u / 10) % 10 by omega)]
  have P3 : put1 ((cs.set i (dig (u))).set (i - 1) (dig (u / 10))) (1 + (i - 3)) [dig (u % 10000 / 100)] = (((cs.set i (dig (u))).set (i - 1) (dig (u / 10))).set (i - 2) (dig (u / 10 / 10))) := by
   rw [qAV _ _ _ (by simp only [List.length_set]; omega), show 1 + (i - 3) = (i - 2) by omega, qBD (show (u % 10000 / 100) % 10 = (u / 10 / 10) % 10 by omega)]
  have P4 : put1 (((cs.set i (dig (u))).set (i - 1) (dig (u / 10))).set (i - 2) (dig (u / 10 / 10))) (1 + (i - 4)) [dig (u % 10000 / 100 / 10)] = ((((cs.set i (dig (u))).set (i - 1) (dig (u / 10))).set (i - 2) (dig (u / 10 / 10))).set (i - 3) (dig (u / 10 / 10 / 10))) := by
   rw [qAV _ _ _ (by simp only [List.length_set]; omega), show 1 + (i - 4) = (i - 3) by omega, qBD (show (u % 10000 / 100 / 10) % 10 = (u / 10 / 10 / 10) % 10 by omega)]
  have q1 : (h.put (.im 0) (.cells (cs.set i (dig (u))) 0)).get (.im 0) = some (.cells (cs.set i (dig (u))) 0) := qAP h 0 _ _ (by rw [hg]; rfl)
  have q2 : ((h.put (.im 0) (.cells (cs.set i (dig (u))) 0)).put (.im 0) (.cells ((cs.set i (dig (u))).set (i - 1) (dig (u / 10))) 0)).get (.im 0) = some (.cells ((cs.set i (dig (u))).set (i - 1) (dig (u / 10))) 0) := qAP (h.put (.im 0) (.cells (cs.set i (dig (u))) 0)) 0 _ _ (by rw [q1]; rfl)
  have q3 : (((h.put (.im 0) (.cells (cs.set i (dig (u))) 0)).put (.im 0) (.cells ((cs.set i (dig (u))).set (i - 1) (dig (u / 10))) 0)).put (.im 0) (.cells (((cs.set i (dig (u))).set (i - 1) (dig (u / 10))).set (i - 2) (dig (u / 10 / 10))) 0)).get (.im 0) = some (.cells (((cs.set i (dig (u))).set (i - 1) (dig (u / 10))).set (i - 2) (dig (u / 10 / 10))) 0) := qAP ((h.put (.im 0) (.cells (cs.set i (dig (u))) 0)).put (.im 0) (.cells ((cs.set i (dig (u))).set (i - 1) (dig (u / 10))) 0)) 0 _ _ (by rw [q2]; rfl)
  have q4 : ((((h.put (.im 0) (.cells (cs.set i (dig (u))) 0)).put (.im 0) (.cells ((cs.set i (dig (u))).set (i - 1) (dig (u / 10))) 0)).put (.im 0) (.cells (((cs.set i (dig (u))).set (i - 1) (dig (u / 10))).set (i - 2) (dig (u / 10 / 10))) 0)).put (.im 0) (.cells ((((cs.set i (dig (u))).set (i - 1) (dig (u / 10))).set (i - 2) (dig (u / 10 / 10))).set (i - 3) (dig (u / 10 / 10 / 10))) 0)).get (.im 0) = some (.cells ((((cs.set i (dig (u))).set (i - 1) (dig (u / 10))).set (i - 2) (dig (u / 10 / 10))).set (i - 3) (dig (u / 10 / 10 / 10))) 0) := qAP (((h.put (.im 0) (.cells (cs.set i (dig (u))) 0)).put (.im 0) (.cells ((cs.set i (dig (u))).set (i - 1) (dig (u / 10))) 0)).put (.im 0) (.cells (((cs.set i (dig (u))).set (i - 1) (dig (u / 10))).set (i - 2) (dig (u / 10 / 10))) 0)) 0 _ _ (by rw [q3]; rfl)
  simp (maxSteps := 9999999) +contextual only [exa, ne_eq, not_false_eq_true, reduceAdd, reduceMul, reduceLT, reduceLeDiff, reduceEqDiff, Int.reduceLT, Int.reduceLE, Int.reduceEq, Int.reduceToNat, a, w0, qA9 0 .u32 u 10000 (by decide), qA7 0 .u32 u 10000 (by decide), qA9 0 .u32 (u % 10000) 100 (by decide), qA7 0 .u32 (u % 10000) 100 (by decide), e1, e2, e3, e4, w1, w2, w3, w4, w5, w6, v1, v2, v3, v4, qBf .u32 (u % 10000 % 100) (by omega) (by omega), qBg .u32 (u % 10000 % 100) (by omega) (by omega), qBf .u32 (u % 10000 / 100) (by omega) (by omega), qBg .u32 (u % 10000 / 100) (by omega) (by omega), l1, l2, l3, l4, n1, n2, n3, n4, g1, g2, g3, g4, hg, hl, List.length_set, Nat.mul_one, Nat.zero_le, P1, P2, P3, P4, b1, b2, b3, b4, q1, q2, q3]
  have r : wr cs i u i = wr ((((cs.set i (dig (u))).set (i - 1) (dig (u / 10))).set (i - 2) (dig (u / 10 / 10))).set (i - 3) (dig (u / 10 / 10 / 10))) (i - 4) (u / 10000) (i - 4) := by
   obtain ⟨m, rfl⟩ : ∃ m, i = m + 4 := ⟨i - 4, by omega⟩
   rw [wr, wr, wr, wr]
   have : u / 10 / 10 / 10 / 10 = u / 10000 := by omega
   rw [this]
   rfl
  rw [r]
  refine fb3 N (i - 4) (u / 10000) _ _ (qAR (qAR (qAR (qAR hp _ _) _ _) _ _) _ _) (by simp only [List.length_set]; exact hl) q4 (by omega) (by omega) hN (by omega) ?_
  have hi' : i = 4 ∨ i = 5 ∨ i = 6 ∨ i = 7 := by omega
  rcases hi' with rfl | rfl | rfl | rfl
  ·simp at h1 ⊢; omega
  ·simp at h1 ⊢; omega
  ·simp at h1 ⊢; omega
  ·simp at h1 ⊢; omega
 ·have a : (i : Int) < 4 := by omega
  simp (maxSteps := 9999999) +contextual only [exa, ne_eq, not_false_eq_true, reduceAdd, reduceMul, reduceLT, reduceLeDiff, reduceEqDiff, Int.reduceLT, Int.reduceLE, Int.reduceEq, Int.reduceToNat, a, w0]
  exact fb3 N i u cs h hp hl hg (by omega) hiN hN h0 h1
open Go Go.AI
set_option maxHeartbeats 4000000 in
theorem fb1 (N : Nat) (hN : N ≤ 23) : ∀ (m i : Nat), i < m → ∀ (u : Int) (cs : List Cell) (h : Heap), plainC cs → cs.length = 24 → h.get (.im 0) = some (.cells cs 0) → i ≤ N → 0 ≤ u → u < 18446744073709551616 → u < 10 ^ i →
  lim tab.get S 112 1 1 [bufP N, kN .u64 u, kI (i : Int)] h = some (.tup [], [.cells (wr cs i u i) 0]) := by
 intro m
 induction m with
 | zero => intro i h; omega
 | succ m ih =>
 intro i him u cs h hp hl hg hiN h0 hu h1
 rw [w112_1, b112_1]
 by_cases h2 : 8 ≤ i
 ·have a : ¬ (i : Int) < 8 := by omega
  have e1 : u.tmod 100000000 = u % 100000000 := Int.tmod_eq_emod_of_nonneg h0
  have e2 : u.tdiv 100000000 = u / 100000000 := Int.tdiv_eq_ediv_of_nonneg h0
  have e3 : (u % 100000000).tdiv 10000 = u % 100000000 / 10000 := Int.tdiv_eq_ediv_of_nonneg (by omega)
  have e4 : (u % 100000000).tmod 10000 = u % 100000000 % 10000 := Int.tmod_eq_emod_of_nonneg (by omega)
  have e5 : (u % 100000000 % 10000).tdiv 100 = u % 100000000 % 10000 / 100 := Int.tdiv_eq_ediv_of_nonneg (by omega)
  have e6 : (u % 100000000 % 10000).tmod 100 = u % 100000000 % 10000 % 100 := Int.tmod_eq_emod_of_nonneg (by omega)
  have e7 : (u % 100000000 / 10000).tdiv 100 = u % 100000000 / 10000 / 100 := Int.tdiv_eq_ediv_of_nonneg (by omega)
  have e8 : (u % 100000000 / 10000).tmod 100 = u % 100000000 / 10000 % 100 := Int.tmod_eq_emod_of_nonneg (by omega)
  have w0 : IntKind.u64.wrap (u / 100000000) = u / 100000000 := qFO _ (by omega) (by omega)
  have w1 : IntKind.u32.wrap (u % 100000000) = u % 100000000 := qAJ .u32 _ (by show (0 : Int) ≤ _; omega) (by show _ ≤ (4294967295 : Int); omega)
  have w2 : IntKind.u32.wrap (u % 100000000 / 10000) = u % 100000000 / 10000 := qAJ .u32 _ (by show (0 : Int) ≤ _; omega) (by show _ ≤ (4294967295 : Int); omega)
  have w3 : IntKind.u32.wrap (u % 100000000 % 10000 / 100) = u % 100000000 % 10000 / 100 := qAJ .u32 _ (by show (0 : Int) ≤ _; omega) (by show _ ≤ (4294967295 : Int); omega)
  have w4 : IntKind.u32.wrap (u % 100000000 / 10000 / 100) = u % 100000000 / 10000 / 100 := qAJ .u32 _ (by show (0 : Int) ≤ _; omega) (by show _ ≤ (4294967295 : Int); omega)
  have w5 : IntKind.u32.wrap (u % 100000000 % 10000 % 100 * 2) = u % 100000000 % 10000 % 100 * 2 := qAJ .u32 _ (by show (0 : Int) ≤ _; omega) (by show _ ≤ (4294967295 : Int); omega)
  have w6 : IntKind.u32.wrap (u % 100000000 % 10000 % 100 * 2 + 1) = u % 100000000 % 10000 % 100 * 2 + 1 := qAJ .u32 _ (by show (0 : Int) ≤ _; omega) (by show _ ≤ (4294967295 : Int); omega)
  have w7 : IntKind.u32.wrap (u % 100000000 % 10000 / 100 * 2) = u % 100000000 % 10000 / 100 * 2 := qAJ .u32 _ (by show (0 : Int) ≤ _; omega) (by show _ ≤ (4294967295 : Int); omega)
  have w8 : IntKind.u32.wrap (u % 100000000 % 10000 / 100 * 2 + 1) = u % 100000000 % 10000 / 100 * 2 + 1 := qAJ .u32 _ (by show (0 : Int) ≤ _; omega) (by show _ ≤ (4294967295 : Int); omega)
  have w9 : IntKind.u32.wrap (u % 100000000 / 10000 % 100 * 2) = u % 100000000 / 10000 % 100 * 2 := qAJ .u32 _ (by show (0 : Int) ≤ _; omega) (by show _ ≤ (4294967295 : Int); omega)
  have w10 : IntKind.u32.wrap (u % 100000000 / 10000 % 100 * 2 + 1) = u % 100000000 / 10000 % 100 * 2 + 1 := qAJ .u32 _ (by show (0 : Int) ≤ _; omega) (by show _ ≤ (4294967295 : Int); omega)
  have w11 : IntKind.u32.wrap (u % 100000000 / 10000 / 100 * 2) = u % 100000000 / 10000 / 100 * 2 := qAJ .u32 _ (by show (0 : Int) ≤ _; omega) (by show _ ≤ (4294967295 : Int); omega)
  have w12 : IntKind.u32.wrap (u % 100000000 / 10000 / 100 * 2 + 1) = u % 100000000 / 10000 / 100 * 2 + 1 := qAJ .u32 _ (by show (0 : Int) ≤ _; omega) (by show _ ≤ (4294967295 : Int); omega)
  have v1 : IntKind.i64.wrap ((i : Int) - 1) = ((i - 1 : Nat) : Int) := by rw [qAF _ (by omega) (by omega)]; omega
  have l1 : i - 1 < N := by omega
  have n1 : ((i - 1 : Nat) : Int).toNat = i - 1 := Int.toNat_natCast _
  have g1 : (0 : Int) ≤ ((i - 1 : Nat) : Int) := by omega
  have b1 : 1 + (i - 1) + 1 ≤ 24 := by omega
  have v2 : IntKind.i64.wrap ((i : Int) - 2) = ((i - 2 : Nat) : Int) := by rw [qAF _ (by omega) (by omega)]; omega
  have l2 : i - 2 < N := by omega
  have n2 : ((i - 2 : Nat) : Int).toNat = i - 2 := Int.toNat_natCast _
  have g2 : (0 : Int) ≤ ((i - 2 : Nat) : Int) := by omega
  have b2 : 1 + (i - 2) + 1 ≤ 24 := by omega
  have v3 : IntKind.i64.wrap ((i : Int) - 3) = ((i - 3 : Nat) : Int) := by rw [qAF _ (by omega) (by omega)]; omega
  have l3 : i - 3 < N := by omega
  have n3 : ((i - 3 : Nat) : Int).toNat = i - 3 := Int.toNat_natCast _
  have g3 : (0 : Int) ≤ ((i - 3 : Nat) : Int) := by omega
  have b3 : 1 + (i - 3) + 1 ≤ 24 := by omega
  have v4 : IntKind.i64.wrap ((i : Int) - 4) = ((i - 4 : Nat) : Int) := by rw [qAF _ (by omega) (by omega)]; omega
  have l4 : i - 4 < N := by omega
  have n4 : ((i - 4 : Nat) : Int).toNat = i - 4 := Int.toNat_natCast _
  have g4 : (0 : Int) ≤ ((i - 4 : Nat) : Int) := by omega
  have b4 : 1 + (i - 4) + 1 ≤ 24 := by omega
  have v5 : IntKind.i64.wrap ((i : Int) - 5) = ((i - 5 : Nat) : Int) := by rw [qAF _ (by omega) (by omega)]; omega
  have l5 : i - 5 < N := by omega
  have n5 : ((i - 5 : Nat) : Int).toNat = i - 5 := Int.toNat_natCast _
  have g5 : (0 : Int) ≤ ((i - 5 : Nat) : Int) := by omega
  have b5 : 1 + (i - 5) + 1 ≤ 24 := by omega
  have v6 : IntKind.i64.wrap ((i : Int) - 6) = ((i - 6 : Nat) : Int) := by rw [qAF _ (by omega) (by omega)]; omega
  have l6 : i - 6 < N := by omega
  have n6 : ((i - 6 : Nat) : Int).toNat = i - 6 := Int.toNat_natCast _
  have g6 : (0 : Int) ≤ ((i - 6 : Nat) : Int) := by omega
  have b6 : 1 + (i - 6) + 1 ≤ 24 := by omega
  have v7 : IntKind.i64.wrap ((i : Int) - 7) = ((i - 7 : Nat) : Int) := by rw [qAF _ (by omega) (by omega)]; omega
  have l7 : i - 7 < N := by omega
  have n7 : ((i - 7 : Nat) : Int).toNat = i - 7 := Int.toNat_natCast _
  have g7 : (0 : Int) ≤ ((i - 7 : Nat) : Int) := by omega
  have b7 : 1 + (i - 7) + 1 ≤ 24 := by omega
  have v8 : IntKind.i64.wrap ((i : Int) - 8) = ((i - 8 : Nat) : Int) := by rw [qAF _ (by omega) (by omega)]; omega
  have l8 : i - 8 < N := by omega
  have n8 : ((i - 8 : Nat) : Int).toNat = i - 8 := Int.toNat_natCast _
  have g8 : (0 : Int) ≤ ((i - 8 : Nat) : Int) := by omega
  have b8 : 1 + (i - 8) + 1 ≤ 24 := by omega
  have P1 : put1 cs (1 + (i - 1)) [dig (u % 100000000 % 10000 % 100)] = (cs.set i (dig (u))) := by
   rw [qAV _ _ _ (by omega), show 1 + (i - 1) = i by omega, qBD (show (u % 100000000 % 10000 % 100) % 10 = (u) % 10 by omega)]
  have P2 : put1 (cs.set i (dig (u))) (1 + (i - 2)) [dig (u % 100000000 % 10000 % 100 / 10)] = ((cs.set i (dig (u))).set (i - 1) (dig (u / 10))) := by
   rw [qAV _ _ _ (by simp only [List.length_set]; omega), show 1 + (i - 2) = (i - 1) by omega, qBD (show (u % 100000000 % 10000 % 100 / 10) % 10 = (u / 10) % 10 by omega)]
  have P3 : put1 ((cs.set i (dig (u))).set (i - 1) (dig (u / 10))) (1 + (i - 3)) [dig (u % 100000000 % 10000 / 100)] = (((cs.set i (dig (u))).set (i - 1) (dig (u / 10))).set (i - 2) (dig (u / 10 / 10))) := by
   rw [qAV _ _ _ (by simp only [List.length_set]; omega), show 1 + (i - 3) = (i - 2) by omega, qBD (show (u % 100000000 % 10000 / 100) % 10 = (u / 10 / 10) % 10 by omega)]
  have P4 : put1 (((cs.set i (dig (u))).set (i - 1) (dig (u / 10))).set (i - 2) (dig (u / 10 / 10))) (1 + (i - 4)) [dig (u % 100000000 % 10000 / 100 / 10)] = ((((cs.set i (dig (u))).set (i - 1) (dig (u / 10))).set (i - 2) (dig (u / 10 / 10))).set (i - 3) (dig (u / 10 / 10 / 10))) := by
   rw [qAV _ _ _ (by simp only [List.length_set]; omega), show 1 + (i - 4) = (i - 3) by omega, qBD (show (u % 100000000 % 10000 / 100 / 10) % 10 = (u / 10 / 10 / 10) % 10 by omega)]
  have P5 : put1 ((((cs.set i (dig (u))).set (i - 1) (dig (u / 10))).set (i - 2) (dig (u / 10 / 10))).set (i - 3) (dig (u / 10 / 10 / 10))) (1 + (i - 5)) [dig (u % 100000000 / 10000 % 100)] = (((((cs.set i (dig (u))).set (i - 1) (dig (u / 10))).set (i - 2) (dig (u / 10 / 10))).set (i - 3) (dig (u / 10 / 10 / 10))).set (i - 4) (dig (u / 10 / 10 / 10 / 10))) := by
   rw [qAV _ _ _ (by simp only [List.length_set]; omega), show 1 + (i - 5) = (i - 4) by omega, qBD (show (u % 100000000 / 10000 % 100) % 10 = (u / 10 / 10 / 10 / 10) % 10 by omega)]
  have P6 : put1 (((((cs.set i (dig (u))).set (i - 1) (dig (u / 10))).set (i - 2) (dig (u / 10 / 10))).set (i - 3) (dig (u / 10 / 10 / 10))).set (i - 4) (dig (u / 10 / 10 / 10 / 10))) (1 + (i - 6)) [dig (u % 100000000 / 10000 % 100 / 10)] = ((((((cs.set i (dig (u))).set (i - 1) (dig (u / 10))).set (i - 2) (dig (u / 10 / 10))).set (i - 3) (dig (u / 10 / 10 / 10))).set (i - 4) (dig (u / 10 / 10 / 10 / 10))).set (i - 5) (dig (u / 10 / 10 / 10 / 10 / 10))) := by
   rw [qAV _ _ _ (by simp only [List.length_set]; omega), show 1 + (i - 6) = (i - 5) by omega, qBD (show (u % 100000000 / 10000 % 100 / 10) % 10 = (u / 10 / 10 / 10 / 10 / 10) % 10 by omega)]
  have P7 : put1 ((((((cs.set i (dig (u))).set (i - 1) (dig (u / 10))).set (i - 2) (dig (u / 10 / 10))).set (i - 3) (dig (u / 10 / 10 / 10))).set (i - 4) (dig (u / 10 / 10 / 10 / 10))).set (i - 5) (dig (u / 10 / 10 / 10 / 10 / 10))) (1 + (i - 7)) [dig (u % 100000000 / 10000 / 100)] = (((((((cs.set i (dig (u))).set (i - 1) (dig (u / 10))).set (i - 2) (dig (u / 10 / 10))).set (i - 3) (dig (u / 10 / 10 / 10))).set (i - 4) (dig (u / 10 / 10 / 10 / 10))).set (i - 5) (dig (u / 10 / 10 / 10 / 10 / 10))).set (i - 6) (dig (u / 10 / 10 / 10 / 10 / 10 / 10))) := by
   rw [qAV _ _ _ (by simp only [List.length_set]; omega), show 1 + (i - 7) = (i - 6) by omega, qBD (show (u % 100000000 / 10000 / 100) % 10 = (u / 10 / 10 / 10 / 10 / 10 / 10) % 10 by omega)]
  have P8 : put1 (((((((cs.set i (dig (u))).set (i - 1) (dig (u / 10))).set (i - 2) (dig (u / 10 / 10))).set (i - 3) (dig (u / 10 / 10 / 10))).set (i - 4) (dig (u / 10 / 10 / 10 / 10))).set (i - 5) (dig (u / 10 / 10 / 10 / 10 / 10))).set (i - 6) (dig (u / 10 / 10 / 10 / 10 / 10 / 10))) (1 + (i - 8)) [dig (u % 100000000 / 10000 / 100 / 10)] = ((((((((cs.set i (dig (u))).set (i - 1) (dig (u / 10))).set (i - 2) (dig (u / 10 / 10))).set (i - 3) (dig (u / 10 / 10 / 10))).set (i - 4) (dig (u / 10 / 10 / 10 / 10))).set (i - 5) (dig (u / 10 / 10 / 10 / 10 / 10))).set (i - 6) (dig (u / 10 / 10 / 10 / 10 / 10 / 10))).set (i - 7) (dig (u / 10 / 10 / 10 / 10 / 10 / 10 / 10))) := by
   rw [qAV _ _ _ (by simp only [List.length_set]; omega), show 1 + (i - 8) = (i - 7) by omega, qBD (show (u % 100000000 / 10000 / 100 / 10) % 10 = (u / 10 / 10 / 10 / 10 / 10 / 10 / 10) % 10 by omega)]
  have q1 : (h.put (.im 0) (.cells (cs.set i (dig (u))) 0)).get (.im 0) = some (.cells (cs.set i (dig (u))) 0) := qAP h 0 _ _ (by rw [hg]; rfl)
  have q2 : ((h.put (.im 0) (.cells (cs.set i (dig (u))) 0)).put (.im 0) (.cells ((cs.set i (dig (u))).set (i - 1) (dig (u / 10))) 0)).get (.im 0) = some (.cells ((cs.set i (dig (u))).set (i - 1) (dig (u / 10))) 0) := qAP (h.put (.im 0) (.cells (cs.set i (dig (u))) 0)) 0 _ _ (by rw [q1]; rfl)
  have q3 : (((h.put (.im 0) (.cells (cs.set i (dig (u))) 0)).put (.im 0) (.cells ((cs.set i (dig (u))).set (i - 1) (dig (u / 10))) 0)).put (.im 0) (.cells (((cs.set i (dig (u))).set (i - 1) (dig (u / 10))).set (i - 2) (dig (u / 10 / 10))) 0)).get (.im 0) = some (.cells (((cs.set i (dig (u))).set (i - 1) (dig (u / 10))).set (i - 2) (dig (u / 10 / 10))) 0) := qAP ((h.put (.im 0) (.cells (cs.set i (dig (u))) 0)).put (.im 0) (.cells ((cs.set i (dig (u))).set (i - 1) (dig (u / 10))) 0)) 0 _ _ (by rw [q2]; rfl)
  have q4 : ((((h.put (.im 0) (.cells (cs.set i (dig (u))) 0)).put (.im 0) (.cells ((cs.set i (dig (u))).set (i - 1) (dig (u / 10))) 0)).put (.im 0) (.cells (((cs.set i (dig (u))).set (i - 1) (dig (u / 10))).set (i - 2) (dig (u / 10 / 10))) 0)).put (.im 0) (.cells ((((cs.set i (dig (u))).set (i - 1) (dig (u / 10))).set (i - 2) (dig (u / 10 / 10))).set (i - 3) (dig (u / 10 / 10 / 10))) 0)).get (.im 0) = some (.cells ((((cs.set i (dig (u))).set (i - 1) (dig (u / 10))).set (i - 2) (dig (u / 10 / 10))).set (i - 3) (dig (u / 10 / 10 / 10))) 0) := qAP (((h.put (.im 0) (.cells (cs.set i (dig (u))) 0)).put (.im 0) (.cells ((cs.set i (dig (u))).set (i - 1) (dig (u / 10))) 0)).put (.im 0) (.cells (((cs.set i (dig (u))).set (i - 1) (dig (u / 10))).set (i - 2) (dig (u / 10 / 10))) 0)) 0 _ _ (by rw [q3]; rfl)
  have q5 : (((((h.put (.im 0) (.cells (cs.set i (dig (u))) 0)).put (.im 0) (.cells ((cs.set i (dig (u))).set (i - 1) (dig (u / 10))) 0)).put (.im 0) (.cells (((cs.set i (dig (u))).set (i - 1) (dig (u / 10))).set (i - 2) (dig (u / 10 / 10))) 0)).put (.im 0) (.cells ((((cs.set i (dig (u))).set (i - 1) (dig (u / 10))).set (i - 2) (dig (u / 10 / 10))).set (i - 3) (dig (u / 10 / 10 / 10))) 0)).put (.im 0) (.cells (((((cs.set i (dig (u))).set (i - 1) (dig (u / 10))).set (i - 2) (dig (u / 10 / 10))).set (i - 3) (dig (u / 10 / 10 / 10))).set (i - 4) (dig (u / 10 / 10 / 10 / 10))) 0)).get (.im 0) = some (.cells (((((cs.set i (dig (u))).set (i - 1) (dig (u / 10))).set (i - 2) (dig (u / 10 / 10))).set (i - 3) (dig (u / 10 / 10 / 10))).set (i - 4) (dig (u / 10 / 10 / 10 / 10))) 0) := qAP ((((h.put (.im 0) (.cells (cs.set i (dig (u))) 0)).put (.im 0) (.cells ((cs.set i (dig (u))).set (i - 1) (dig (u / 10))) 0)).put (.im 0) (.cells (((cs.set i (dig (u))).set (i - 1) (dig (u / 10))).set (i - 2) (dig (u / 10 / 10))) 0)).put (.im 0) (.cells ((((cs.set i (dig (u))).set (i - 1) (dig (u / 10))).set (i - 2) (dig (u / 10 / 10))).set (i - 3) (dig (u / 10 / 10 / 10))) 0)) 0 _ _ (by rw [q4]; rfl)
  have q6 : ((((((h.put (.im 0) (.cells (cs.set i (dig (u))) 0)).put (.im 0) (.cells ((cs.set i (dig (u))).set (i - 1) (dig (u / 10))) 0)).put (.im 0) (.cells (((cs.set i (dig (u))).set (i - 1) (dig (u / 10))).set (i - 2) (dig (u / 10 / 10))) 0)).put (.im 0) (.cells ((((cs.set i (dig (u))).set (i - 1) (dig (u / 10))).set (i - 2) (dig (u / 10 / 10))).set (i - 3) (dig (u / 10 / 10 / 10))) 0)).put (.im 0) (.cells (((((cs.set i (dig (u))).set (i - 1) (dig (u / 10))).set (i - 2) (dig (u / 10 / 10))).set (i - 3) (dig (u / 10 / 10 / 10))).set (i - 4) (dig (u / 10 / 10 / 10 / 10))) 0)).put (.im 0) (.cells ((((((cs.set i (dig (u))).set (i - 1) (dig (u / 10))).set (i - 2) (dig (u / 10 / 10))).set (i - 3) (dig (u / 10 / 10 / 10))).set (i - 4) (dig (u / 10 / 10 / 10 / 10))).set (i - 5) (dig (u / 10 / 10 / 10 / 10 / 10))) 0)).get (.im 0) = some (.cells ((((((cs.set i (dig (u))).set (i - 1) (dig (u / 10))).set (i - 2) (dig (u / 10 / 10))).set (i - 3) (dig (u / 10 / 10 / 10))).set (i - 4) (dig (u / 10 / 10 / 10 / 10))).set (i - 5) (dig (u / 10 / 10 / 10 / 10 / 10))) 0) := qAP (((((h.put (.im 0) (.cells (cs.set i (dig (u))) 0)).put (.im 0) (.cells ((cs.set i (dig (u))).set (i - 1) (dig (u / 10))) 0)).put (.im 0) (.cells (((cs.set i (dig (u))).set (i - 1) (dig (u / 10))).set (i - 2) (dig (u / 10 / 10))) 0)).put (.im 0) (.cells ((((cs.set i (dig (u))).set (i - 1) (dig (u / 10))).set (i - 2) (dig (u / 10 / 10))).set (i - 3) (dig (u / 10 / 10 / 10))) 0)).put (.im 0) (.cells (((((cs.set i (dig (u))).set (i - 1) (dig (u / 10))).set (i - 2) (dig (u / 10 / 10))).set (i - 3) (dig (u / 10 / 10 / 10))).set (i - 4) (dig (u / 10 / 10 / 10 / 10))) 0)) 0 _ _ (by rw [q5]; rfl)
  have q7 : (((((((h.put (.im 0) (.cells (cs.set i (dig (u))) 0)).put (.im 0) (.cells ((cs.set i (dig (u))).set (i - 1) (dig (u / 10))) 0)).put (.im 0) (.cells (((cs.set i (dig (u))).set (i - 1) (dig (u / 10))).set (i - 2) (dig (u / 10 / 10))) 0)).put (.im 0) (.cells ((((cs.set i (dig (u))).set (i - 1) (dig (u / 10))).set (i - 2) (dig (u / 10 / 10))).set (i - 3) (dig (u / 10 / 10 / 10))) 0)).put (.im 0) (.cells (((((cs.set i (dig (u))).set (i - 1) (dig (u / 10))).set (i - 2) (dig (u / 10 / 10))).set (i - 3) (dig (u / 10 / 10 / 10))).set (i - 4) (dig (u / 10 / 10 / 10 / 10))) 0)).put (.im 0) (.cells ((((((cs.set i (dig (u))).set (i - 1) (dig (u / 10))).set (i - 2) (dig (u / 10 / 10))).set (i - 3) (dig (u / 10 / 10 / 10))).set (i - 4) (dig (u / 10 / 10 / 10 / 10))).set (i - 5) (dig (u / 10 / 10 / 10 / 10 / 10))) 0)).put (.im 0) (.cells (((((((cs.set i (dig (u))).set (i - 1) (dig (u / 10))).set (i - 2) (dig (u / 10 / 10))).set (i - 3) (dig (u / 10 / 10 / 10))).set (i - 4) (dig (u / 10 / 10 / 10 / 10))).set (i - 5) (dig (u / 10 / 10 / 10 / 10 / 10))).set (i - 6) (dig (u / 10 / 10 / 10 / 10 / 10 / 10))) 0)).get (.im 0) = some (.cells (((((((cs.set i (dig (u))).set (i - 1) (dig (u / 10))).set (i - 2) (dig (u / 10 / 10))).set (i - 3) (dig (u / 10 / 10 / 10))).set (i - 4) (dig (u / 10 / 10 / 10 / 10))).set (i - 5) (dig (u / 10 / 10 / 10 / 10 / 10))).set (i - 6) (dig (u / 10 / 10 / 10 / 10 / 10 / 10))) 0) := qAP ((((((h.put (.im 0) (.cells (cs.set i (dig (u))) 0)).put (.im 0) (.cells ((cs.set i (dig (u))).set (i - 1) (dig (u / 10))) 0)).put (.im 0) (.cells (((cs.set i (dig (u))).set (i - 1) (dig (u / 10))).set (i - 2) (dig (u / 10 / 10))) 0)).put (.im 0) (.cells ((((cs.set i (dig (u))).set (i - 1) (dig (u / 10))).set (i - 2) (dig (u / 10 / 10))).set (i - 3) (dig (u / 10 / 10 / 10))) 0)).put (.im 0) (.cells (((((cs.set i (dig (u))).set (i - 1) (dig (u / 10))).set (i - 2) (dig (u / 10 / 10))).set (i - 3) (dig (u / 10 / 10 / 10))).set (i - 4) (dig (u / 10 / 10 / 10 / 10))) 0)).put (.im 0) (.cells ((((((cs.set i (dig (u))).set (i - 1) (dig (u / 10))).set (i - 2) (dig (u / 10 / 10))).set (i - 3) (dig (u / 10 / 10 / 10))).set (i - 4) (dig (u / 10 / 10 / 10 / 10))).set (i - 5) (dig (u / 10 / 10 / 10 / 10 / 10))) 0)) 0 _ _ (by rw [q6]; rfl)
  have q8 : ((((((((h.put (.im 0) (.cells (cs.set i (dig (u))) 0)).put (.im 0) (.cells ((cs.set i (dig (u))).set (i - 1) (dig (u / 10))) 0)).put (.im 0) (.cells (((cs.set i (dig (u))).set (i - 1) (dig (u / 10))).set (i - 2) (dig (u / 10 / 10))) 0)).put (.im 0) (.cells ((((cs.set i (dig (u))).set (i - 1) (dig (u / 10))).set (i - 2) (dig (u / 10 / 10))).set (i - 3) (dig (u / 10 / 10 / 10))) 0)).put (.im 0) (.cells (((((cs.set i (dig (u))).set (i - 1) (dig (u / 10))).set (i - 2) (dig (u / 10 / 10))).set (i - 3) (dig (u / 10 / 10 / 10))).set (i - 4) (dig (u / 10 / 10 / 10 / 10))) 0)).put (.im 0) (.cells ((((((cs.set i (dig (u))).set (i - 1) (dig (u / 10))).set (i - 2) (dig (u / 10 / 10))).set (i - 3) (dig (u / 10 / 10 / 10))).set (i - 4) (dig (u / 10 / 10 / 10 / 10))).set (i - 5) (dig (u / 10 / 10 / 10 / 10 / 10))) 0)).put (.im 0) (.cells (((((((cs.set i (dig (u))).set (i - 1) (dig (u / 10))).set (i - 2) (dig (u / 10 / 10))).set (i - 3) (dig (u / 10 / 10 / 10))).set (i - 4) (dig (u / 10 / 10 / 10 / 10))).set (i - 5) (dig (u / 10 / 10 / 10 / 10 / 10))).set (i - 6) (dig (u / 10 / 10 / 10 / 10 / 10 / 10))) 0)).put (.im 0) (.cells ((((((((cs.set i (dig (u))).set (i - 1) (dig (u / 10))).set (i - 2) (dig (u / 10 / 10))).set (i - 3) (dig (u / 10 / 10 / 10))).set (i - 4) (dig (u / 10 / 10 / 10 / 10))).set (i - 5) (dig (u / 10 / 10 / 10 / 10 / 10))).set (i - 6) (dig (u / 10 / 10 / 10 / 10 / 10 / 10))).set (i - 7) (dig (u / 10 / 10 / 10 / 10 / 10 / 10 / 10))) 0)).get (.im 0) = some (.cells ((((((((cs.set i (dig (u))).set (i - 1) (dig (u / 10))).set (i - 2) (dig (u / 10 / 10))).set (i - 3) (dig (u / 10 / 10 / 10))).set (i - 4) (dig (u / 10 / 10 / 10 / 10))).set (i - 5) (dig (u / 10 / 10 / 10 / 10 / 10))).set (i - 6) (dig (u / 10 / 10 / 10 / 10 / 10 / 10))).set (i - 7) (dig (u / 10 / 10 / 10 / 10 / 10 / 10 / 10))) 0) := qAP (((((((h.put (.im 0) (.cells (cs.set i (dig (u))) 0)).put (.im 0) (.cells ((cs.set i (dig (u))).set (i - 1) (dig (u / 10))) 0)).put (.im 0) (.cells (((cs.set i (dig (u))).set (i - 1) (dig (u / 10))).set (i - 2) (dig (u / 10 / 10))) 0)).put (.im 0) (.cells ((((cs.set i (dig (u))).set (i - 1) (dig (u / 10))).set (i - 2) (dig (u / 10 / 10))).set (i - 3) (dig (u / 10 / 10 / 10))) 0)).put (.im 0) (.cells (((((cs.set i (dig (u))).set (i - 1) (dig (u / 10))).set (i - 2) (dig (u / 10 / 10))).set (i - 3) (dig (u / 10 / 10 / 10))).set (i - 4) (dig (u / 10 / 10 / 10 / 10))) 0)).put (.im 0) (.cells ((((((cs.set i (dig (u))).set (i - 1) (dig (u / 10))).set (i - 2) (dig (u / 10 / 10))).set (i - 3) (dig (u / 10 / 10 / 10))).set (i - 4) (dig (u / 10 / 10 / 10 / 10))).set (i - 5) (dig (u / 10 / 10 / 10 / 10 / 10))) 0)).put (.im 0) (.cells (((((((cs.set i (dig (u))).set (i - 1) (dig (u / 10))).set (i - 2) (dig (u / 10 / 10))).set (i - 3) (dig (u / 10 / 10 / 10))).set (i - 4) (dig (u / 10 / 10 / 10 / 10))).set (i - 5) (dig (u / 10 / 10 / 10 / 10 / 10))).set (i - 6) (dig (u / 10 / 10 / 10 / 10 / 10 / 10))) 0)) 0 _ _ (by rw [q7]; rfl)
  simp (maxSteps := 9999999) +contextual only [exa, ne_eq, not_false_eq_true, reduceAdd, reduceMul, reduceLT, reduceLeDiff, reduceEqDiff, Int.reduceLT, Int.reduceLE, Int.reduceEq, Int.reduceToNat, a, qA9 0 .u64 u 100000000 (by decide), qA7 0 .u64 u 100000000 (by decide), qA9 0 .u32 (u % 100000000) 10000 (by decide), qA7 0 .u32 (u % 100000000) 10000 (by decide), qA9 0 .u32 (u % 100000000 % 10000) 100 (by decide), qA7 0 .u32 (u % 100000000 % 10000) 100 (by decide), qA9 0 .u32 (u % 100000000 / 10000) 100 (by decide), qA7 0 .u32 (u % 100000000 / 10000) 100 (by decide), e1, e2, e3, e4, e5, e6, e7, e8, w0, w1, w2, w3, w4, w5, w6, w7, w8, w9, w10, w11, w12, v1, v2, v3, v4, v5, v6, v7, v8, qBf .u32 (u % 100000000 % 10000 % 100) (by omega) (by omega), qBg .u32 (u % 100000000 % 10000 % 100) (by omega) (by omega), qBf .u32 (u % 100000000 % 10000 / 100) (by omega) (by omega), qBg .u32 (u % 100000000 % 10000 / 100) (by omega) (by omega), qBf .u32 (u % 100000000 / 10000 % 100) (by omega) (by omega), qBg .u32 (u % 100000000 / 10000 % 100) (by omega) (by omega), qBf .u32 (u % 100000000 / 10000 / 100) (by omega) (by omega), qBg .u32 (u % 100000000 / 10000 / 100) (by omega) (by omega), l1, l2, l3, l4, l5, l6, l7, l8, n1, n2, n3, n4, n5, n6, n7, n8, g1, g2, g3, g4, g5, g6, g7, g8, hg, hl, List.length_set, Nat.mul_one, Nat.zero_le, P1, P2, P3, P4, P5, P6, P7, P8, b1, b2, b3, b4, b5, b6, b7, b8, q1, q2, q3, q4, q5, q6, q7]
  have r : wr cs i u i = wr ((((((((cs.set i (dig (u))).set (i - 1) (dig (u / 10))).set (i - 2) (dig (u / 10 / 10))).set (i - 3) (dig (u / 10 / 10 / 10))).set (i - 4) (dig (u / 10 / 10 / 10 / 10))).set (i - 5) (dig (u / 10 / 10 / 10 / 10 / 10))).set (i - 6) (dig (u / 10 / 10 / 10 / 10 / 10 / 10))).set (i - 7) (dig (u / 10 / 10 / 10 / 10 / 10 / 10 / 10))) (i - 8) (u / 100000000) (i - 8) := by
   obtain ⟨m, rfl⟩ : ∃ m, i = m + 8 := ⟨i - 8, by omega⟩
   rw [wr, wr, wr, wr, wr, wr, wr, wr]
   have : u / 10 / 10 / 10 / 10 / 10 / 10 / 10 / 10 = u / 100000000 := by omega
   rw [this]
   rfl
  rw [r]
  refine ih (i - 8) (by omega) (u / 100000000) _ _ (qAR (qAR (qAR (qAR (qAR (qAR (qAR (qAR (hp) _ _) _ _) _ _) _ _) _ _) _ _) _ _) _ _) (by simp only [List.length_set]; exact hl) q8 (by omega) (by omega) (by omega) ?_
  obtain ⟨m, rfl⟩ : ∃ m, i = m + 8 := ⟨i - 8, by omega⟩
  rw [Int.pow_add, show (10 : Int) ^ 8 = 100000000 by decide] at h1
  rw [Nat.add_sub_cancel]
  generalize (10 : Int) ^ m = y at h1
  omega
 ·have a : (i : Int) < 8 := by omega
  simp (maxSteps := 9999999) +contextual only [exa, ne_eq, not_false_eq_true, reduceAdd, reduceMul, reduceLT, reduceLeDiff, reduceEqDiff, Int.reduceLT, Int.reduceLE, Int.reduceEq, Int.reduceToNat, a]
  exact fb2 N i u cs h hp hl hg (by omega) hiN hN h0 h1
open Go Go.AI
theorem qOd (N : Nat) (u : Int) (cs : List Cell) (hp : plainC cs) (hl : cs.length = 24) (hN : N ≤ 23) (h0 : 0 ≤ u) (hu : u < 18446744073709551616) (h1 : u < 10 ^ N) :
  Om 112 [bufP N, kN .u64 u] [.cells cs 0] = some (.tup [], [.cells (wr cs N u N) 0]) := by
 refine (qAE rfl).trans ?_
 show lim tab.get S 112 1 0 [bufP N, kN .u64 u] { ims := [.cells cs 0], owns := .nil } = _
 rw [w112_0, b112_0]
 simp (maxSteps := 9999999) +contextual only [exa, ne_eq, not_false_eq_true, reduceAdd, reduceMul, reduceLT, reduceLeDiff, reduceEqDiff, Int.reduceLT, Int.reduceLE, Int.reduceEq, Int.reduceToNat, exU]
 exact fb1 N hN (N + 1) N (Nat.lt_succ_self _) u cs _ hp hl rfl (Nat.le_refl _) h0 hu h1
theorem qJt : ∀ (k : Nat) (cs : List Cell) (i : Nat) (u : Int) (j : Nat), k ≤ i → i < cs.length → (wr cs i u k)[j]? = if i < j + k ∧ j ≤ i then some (dig (u / 10 ^ (i - j))) else cs[j]?
 | 0, cs, i, u, j, _, _ => by
  rw [wr, if_neg (by omega)]
 | k + 1, cs, i, u, j, hk, hi => by
  rw [wr, qJt k _ _ _ _ (by omega) (by rw [List.length_set]; omega), List.getElem?_set]
  by_cases h1 : j = i
  ·subst h1
   rw [if_neg (by omega), if_pos rfl, if_pos hi, if_pos ⟨by omega, Nat.le_refl _⟩, Nat.sub_self]
   simp
  ·by_cases h2 : i - 1 < j + k ∧ j ≤ i - 1
   ·rw [if_pos h2, if_pos ⟨by omega, by omega⟩, Int.ediv_ediv_of_nonneg (by decide)]
    rw [show i - j = (i - 1 - j) + 1 by omega, Int.pow_succ, Int.mul_comm]
   ·rw [if_neg h2, if_neg (fun e => h1 e.symm), if_neg (by omega)]
theorem qEL : ∀ (N u : Nat), u < 10 ^ (N + 1) → (10 ^ N ≤ u ∨ N = 0) → Lib.decDigits u = (List.range (N + 1)).map fun j => UInt8.ofNat (48 + u / 10 ^ (N - j) % 10)
 | 0, u, h, _ => by
  have hu : u < 10 := by simpa using h
  rw [Lib.decDigits, dif_pos hu]
  simp [Nat.mod_eq_of_lt hu]
 | N + 1, u, h, h2 => by
  have h3 : 10 ^ (N + 1) ≤ u := by rcases h2 with h2 | h2; exact h2; omega
  have h4 : 10 ≤ u := by
   have : 10 ^ 1 ≤ 10 ^ (N + 1) := Nat.pow_le_pow_right (by decide) (by omega)
   omega
  rw [Lib.decDigits, dif_neg (by omega), qEL N (u / 10) (by rw [Nat.pow_succ] at h; omega) (.inl (by rw [Nat.pow_succ] at h3; omega)), List.range_succ (n := N + 1), List.map_append]
  congr 1
  ·refine List.map_congr_left fun j hj => ?_
   have hj' := List.mem_range.1 hj
   rw [Nat.div_div_eq_div_mul, Nat.mul_comm, ← Nat.pow_succ, show (N - j).succ = N + 1 - j by omega]
  ·simp
open Go Go.AI
theorem qLU (u m : Nat) : dig ((u : Int) / 10 ^ m) = .p (.int .u8 ((UInt8.ofNat (48 + u / 10 ^ m % 10)).toNat : Int)) := by
 unfold dig
 rw [UInt8.toNat_ofNat', Nat.mod_eq_of_lt (by omega)]
 have : ((48 + u / 10 ^ m % 10 : Nat) : Int) = 48 + (u : Int) / 10 ^ m % 10 := by
  rw [Int.natCast_add, Int.natCast_emod, Int.natCast_ediv, Int.natCast_pow]; rfl
 rw [this]
theorem qOF (n u : Nat) (cs : List Cell) (hl : cs.length = 24) (hN : n + 1 ≤ 23) (h1 : u < 10 ^ (n + 1)) (h2 : 10 ^ n ≤ u ∨ n = 0) :
  ((wr cs (n + 1) (u : Int) (n + 1)).drop 1).take (n + 1) = (Lib.decDigits u).map fun b => Cell.p (.int .u8 (b.toNat : Int)) := by
 rw [qEL n u h1 h2, List.map_map]
 refine List.ext_getElem? fun j => ?_
 rw [List.getElem?_take, List.getElem?_map]
 by_cases hj : j < n + 1
 ·rw [if_pos hj, List.getElem?_drop, qJt _ _ _ _ _ (Nat.le_refl _) (by omega), if_pos ⟨by omega, by omega⟩, List.getElem?_range hj]
  show some (dig _) = some _
  rw [show n + 1 - (1 + j) = n - j by omega, qLU]; rfl
 ·rw [if_neg hj]
  rw [List.getElem?_eq_none (by simpa using hj)]; rfl
open Go Go.AI
def isStrR (r : Res1) (x : List UInt8) : Bool := match r with
 | some (.v (.c (.p (.str y))), []) => y == x
 | _ => false
theorem qHU {r : Res1} {x : List UInt8} (h : isStrR r x = true) : r = some (kS x, []) := by
 unfold isStrR at h
 split at h
 ·simp only [beq_iff_eq] at h; subst h; rfl
 ·cases h
def smallL (n : Nat) : List UInt8 := bif Nat.blt n 10 then [UInt8.ofNat (48 + n)] else [UInt8.ofNat (48 + n / 10), UInt8.ofNat (48 + n % 10)]
theorem qJS (n : Nat) (hn : n < 100) : smallL n = Lib.decDigits n := by
 unfold smallL
 by_cases h : n < 10
 ·rw [Lib.decDigits, dif_pos h, show Nat.blt n 10 = true from Nat.ble_eq_true_of_le h]; rfl
 ·have : Nat.blt n 10 = false := Bool.eq_false_iff.2 fun e => h (Nat.le_of_ble_eq_true e)
  rw [Lib.decDigits, dif_neg h, Lib.decDigits, dif_pos (by omega), this]
  rfl
theorem qJB : ((List.range 100).all fun n => isStrR (machU blks.get S 500 110 0 0 [kN .i64 (.ofNat n)] h0) (smallL n)) = true := by kernel_rfl
theorem qKu (n : Nat) (hn : n < 100) : Om 110 [kI (n : Int)] [] = some (kS (Lib.decDigits n), []) := by
 refine (qAE rfl).trans ?_
 rw [← qJS n hn]
 exact qBF blks_ok 500 110 0 0 _ _ _ (qHU (List.all_eq_true.1 qJB n (List.mem_range.2 hn)))
theorem qJY (n : Int) (u g : Nat) (h : Heap) (cs : List Cell) (hp : plainC cs) (hl : cs.length = 24) (hg : h.get (.own 5 g) = some (.cells cs 0)) (hu : 1 ≤ u) (hu2 : u < 18446744073709551616) :
  lim tab.get S 96 0 1 [kI n, .v (.c (.ptr (.own 5 g) 0)), kN .u64 (u : Int)] h = some (kS (if n < 0 then 45 :: Lib.decDigits u else Lib.decDigits u), []) := by
 obtain ⟨N, hN, l1, l2, e185⟩ := qJT (u : Int) (by omega) (by omega)
 have l2 : 1 ≤ N ∧ (10 : Int) ^ (N - 1) ≤ u := by rcases l2 with l2 | l2; exact absurd l2 (by omega); exact l2
 obtain ⟨m, rfl⟩ : ∃ m, N = m + 1 := ⟨N - 1, by omega⟩
 have l1' : u < 10 ^ (m + 1) := by
  have : ((u : Nat) : Int) < ((10 ^ (m + 1) : Nat) : Int) := by rw [Int.natCast_pow]; exact l1
  omega
 have l2' : 10 ^ m ≤ u := by
  have : ((10 ^ m : Nat) : Int) ≤ ((u : Nat) : Int) := by rw [Int.natCast_pow]; exact l2.2
  omega
 have hw := qOF m u cs hl (by omega) l1' (.inl l2')
 have hwl : (wr cs (m + 1) (u : Int) (m + 1)).length = 24 := by rw [qJc, hl]
 have c1 : CAL 111 [kN .u64 (u : Int)] (kI ((m + 1 : Nat) : Int)) := qAI 111 _ _ rfl e185 rfl
 have w1 : IntKind.i64.wrap (1 + ((m + 1 : Nat) : Int)) = ((m + 2 : Nat) : Int) := by rw [qAF _ (by omega) (by omega)]; omega
 have s1 : ∀ {β : Type} {k : TVal → Heap → Option β} {d : Nat}, vop Om (.sliceA 24 1 (.k (.v (.c (.ptr (.own 5 g) 0)))) (some (.k (kI 1))) (some (.k (kI ((m + 2 : Nat) : Int))))) h d k = k (.v (.c (.sref (.own 5 g) 1 (m + 1) (some 23) 1))) h :=
  fun {β k d} => (qFw 24 1 (.own 5 g) 0 1 (m + 2) cs 0 (by omega) (by omega) (by omega) hg (by omega)).trans (by rw [show m + 2 - 1 = m + 1 by omega])
 have e186 := qOd (m + 1) (u : Int) cs hp hl (by omega) (by omega) (by omega) l1
 obtain ⟨xs, hxs⟩ := hp
 obtain ⟨ys, hys⟩ := qFu (m + 1) cs (m + 1) (u : Int) ⟨xs, hxs⟩
 have hin : (TVal.v (.c (.sref (.own 5 g) 1 (m + 1) (some 23) 1))).ren (inn [.own 5 g]) = bufP (m + 1) := by
  show TVal.v (.c (match inn [Ref.own 5 g] (.own 5 g) with | some s => Cell.sref s 1 (m + 1) (some 23) 1 | none => .junk)) = _
  have : inn [Ref.own 5 g] (.own 5 g) = some (.im 0) := by simp [inn, idx]
  rw [this]
 have c2 : ∀ {β : Type} {k : TVal → Heap → Option β} {d : Nat}, vcall Om (.v (.c (.func 112 []))) [.v (.c (.sref (.own 5 g) 1 (m + 1) (some 23) 1)), kN .u64 (u : Int)] h d k = k (.tup []) (h.own 5 g (.cells (wr cs (m + 1) (u : Int) (m + 1)) 0)) :=
  fun {β k d} => qLq 112 (.own 5 g) (.v (.c (.sref (.own 5 g) 1 (m + 1) (some 23) 1))) (bufP (m + 1)) [] [kN .u64 (u : Int)] _ (.cells (wr cs (m + 1) (u : Int) (m + 1)) 0) (.tup []) rfl rfl
   hin rfl rfl hg (by rw [hxs]; exact qBS xs 0) (by rw [hys]; exact qBS ys 0) rfl e186
 have hg2 : (h.own 5 g (.cells (wr cs (m + 1) (u : Int) (m + 1)) 0)).get (.own 5 g) = some (.cells (wr cs (m + 1) (u : Int) (m + 1)) 0) := qB3 _ _ _ _ _ (by omega)
 rw [w96_1, b96_1]
 by_cases hn : n < 0
 ·have i1 : ∀ {β : Type} {k : TVal → Heap → Option β} {h : Heap} {d : Nat}, vop Om (.iaddrA 24 1 (.k (.v (.c (.ptr (.own 5 g) 0)))) (.k (kI 0))) h d k = k (.v (.c (.ptr (.own 5 g) 0))) h := fun {β k h d} => qFp 24 1 _ 0 0 (by omega)
  have hp2 : put1 (wr cs (m + 1) (u : Int) (m + 1)) 0 [.p (.int .u8 45)] = .p (.int .u8 45) :: (wr cs (m + 1) (u : Int) (m + 1)).drop 1 := by
   unfold put1 splice; simp
  have hg3 : ((h.own 5 g (.cells (wr cs (m + 1) (u : Int) (m + 1)) 0)).own 5 g (.cells (.p (.int .u8 45) :: (wr cs (m + 1) (u : Int) (m + 1)).drop 1) 0)).get (.own 5 g) = some (.cells (.p (.int .u8 45) :: (wr cs (m + 1) (u : Int) (m + 1)).drop 1) 0) := qB3 _ _ _ _ _ (by omega)
  have s2 : ∀ {β : Type} {k : TVal → Heap → Option β} {d : Nat}, vop Om (.sliceA 24 1 (.k (.v (.c (.ptr (.own 5 g) 0)))) none (some (.k (kI ((m + 2 : Nat) : Int))))) ((h.own 5 g (.cells (wr cs (m + 1) (u : Int) (m + 1)) 0)).own 5 g (.cells (.p (.int .u8 45) :: (wr cs (m + 1) (u : Int) (m + 1)).drop 1) 0)) d k = k (.v (.c (.sref (.own 5 g) 0 (m + 2) (some 24) 1))) ((h.own 5 g (.cells (wr cs (m + 1) (u : Int) (m + 1)) 0)).own 5 g (.cells (.p (.int .u8 45) :: (wr cs (m + 1) (u : Int) (m + 1)).drop 1) 0)) := fun {β k d} => by
   refine qDf _ (.own 5 g) (fun
    | .cells cs _ => if 0 + 24 * 1 ≤ cs.length then some (.v (.c (.sref (.own 5 g) (0 + 0 * 1) (m + 2 - 0) (some (24 - 0)) 1))) else none
    | _ => none) _ _ ?_ hg3 ?_
   ·show (if 0 ≤ m + 2 ∧ m + 2 ≤ 24 ∧ 0 < 24 then some (Plan.read _ _) else none) = _
    rw [if_pos ⟨by omega, by omega, by omega⟩]
    rfl
   ·show (if _ then _ else _) = _
    rw [if_pos (by simp; omega)]
    rfl
  have t2 : ∀ {β : Type} {k : TVal → Heap → Option β} {d : Nat}, vop Om (.toStr (.k (.v (.c (.sref (.own 5 g) 0 (m + 2) (some 24) 1))))) ((h.own 5 g (.cells (wr cs (m + 1) (u : Int) (m + 1)) 0)).own 5 g (.cells (.p (.int .u8 45) :: (wr cs (m + 1) (u : Int) (m + 1)).drop 1) 0)) d k = k (kS (45 :: Lib.decDigits u)) ((h.own 5 g (.cells (wr cs (m + 1) (u : Int) (m + 1)) 0)).own 5 g (.cells (.p (.int .u8 45) :: (wr cs (m + 1) (u : Int) (m + 1)).drop 1) 0)) :=
   fun {β k d} => qDS (.own 5 g) 0 (m + 2) (some 24) _ 0 _ hg3 (by simp; omega) (by
    rw [List.drop_zero, List.take_succ_cons, hw]
    exact qDO (45 :: Lib.decDigits u))
  have q1 : 0 + 1 ≤ (wr cs (m + 1) (u : Int) (m + 1)).length := by omega
  simp (maxSteps := 9999999) +contextual only [exa, ne_eq, not_false_eq_true, reduceAdd, reduceMul, reduceLT, reduceLeDiff, reduceEqDiff, Int.reduceLT, Int.reduceLE, Int.reduceEq, Int.reduceToNat, c1, w1, s1, c2, hn, i1, hg2, q1, hp2, s2, t2, oneOf, if_true]
 ·have s2 : ∀ {β : Type} {k : TVal → Heap → Option β} {d : Nat}, vop Om (.sliceA 24 1 (.k (.v (.c (.ptr (.own 5 g) 0)))) (some (.k (kI 1))) (some (.k (kI ((m + 2 : Nat) : Int))))) (h.own 5 g (.cells (wr cs (m + 1) (u : Int) (m + 1)) 0)) d k = k (.v (.c (.sref (.own 5 g) 1 (m + 1) (some 23) 1))) (h.own 5 g (.cells (wr cs (m + 1) (u : Int) (m + 1)) 0)) :=
   fun {β k d} => (qFw 24 1 (.own 5 g) 0 1 (m + 2) _ 0 (by omega) (by omega) (by omega) hg2 (by omega)).trans (by rw [show m + 2 - 1 = m + 1 by omega])
  have t2 : ∀ {β : Type} {k : TVal → Heap → Option β} {d : Nat}, vop Om (.toStr (.k (.v (.c (.sref (.own 5 g) 1 (m + 1) (some 23) 1))))) (h.own 5 g (.cells (wr cs (m + 1) (u : Int) (m + 1)) 0)) d k = k (kS (Lib.decDigits u)) (h.own 5 g (.cells (wr cs (m + 1) (u : Int) (m + 1)) 0)) :=
   fun {β k d} => qDS (.own 5 g) 1 (m + 1) (some 23) _ 0 _ hg2 (by omega) (by rw [hw]; exact qDO _)
  simp (maxSteps := 9999999) +contextual only [exa, ne_eq, not_false_eq_true, reduceAdd, reduceMul, reduceLT, reduceLeDiff, reduceEqDiff, Int.reduceLT, Int.reduceLE, Int.reduceEq, Int.reduceToNat, c1, w1, s1, c2, hn, s2, t2, oneOf, if_false]
theorem qGr : plainC (List.replicate 24 (.p (.int .u8 0))) := ⟨List.replicate 24 (.int .u8 0), by unfold pcells; rw [List.map_replicate]⟩
theorem qN0 (n : Int) (h1 : -9223372036854775808 ≤ n) (h2 : n ≤ 9223372036854775807) : Om 96 [kI n, kI 10] [] = some (kS (Lib.itoa n), []) := by
 refine (qAE rfl).trans ?_
 show lim tab.get S 96 0 0 [kI n, kI 10] h0 = _
 rw [w96_0, b96_0]
 by_cases hn : n < 0
 ·have e1 : IntKind.u64.wrap (0 - IntKind.u64.wrap n) = ((n.natAbs : Nat) : Int) := by
   have w : ∀ z : Int, IntKind.u64.wrap z = z % 18446744073709551616 := fun z => rfl
   rw [w, w]
   omega
  have hx : ¬ (0 : Int) ≤ n := by omega
  simp (maxSteps := 9999999) +contextual only [exa, ne_eq, not_false_eq_true, reduceAdd, reduceMul, reduceLT, reduceLeDiff, reduceEqDiff, Int.reduceLT, Int.reduceLE, Int.reduceEq, Int.reduceToNat, hn, hx, e1]
  refine (qJY n n.natAbs 1 _ (List.replicate 24 (.p (.int .u8 0))) qGr rfl (qB3 h0 5 1 _ 0 (by decide)) (by omega) (by omega)).trans ?_
  rw [if_pos hn]
  unfold Lib.itoa
  rw [if_pos hn]
 ·by_cases hs : n < 100
  ·obtain ⟨m, rfl⟩ : ∃ m : Nat, n = m := ⟨n.toNat, by omega⟩
   have c1 : CAL 110 [kI (m : Int)] (kS (Lib.decDigits m)) := qAI 110 _ _ rfl (qKu m (by omega)) rfl
   simp (maxSteps := 9999999) +contextual only [exa, ne_eq, not_false_eq_true, reduceAdd, reduceMul, reduceLT, reduceLeDiff, reduceEqDiff, Int.reduceLT, Int.reduceLE, Int.reduceEq, Int.reduceToNat, hn, hs, c1, oneOf]
   unfold Lib.itoa
   rw [if_neg hn, Int.toNat_natCast]
  ·obtain ⟨m, rfl⟩ : ∃ m : Nat, n = m := ⟨n.toNat, by omega⟩
   have e1 : IntKind.u64.wrap (m : Int) = (m : Int) := qFO _ (by omega) (by omega)
   simp (maxSteps := 9999999) +contextual only [exa, ne_eq, not_false_eq_true, reduceAdd, reduceMul, reduceLT, reduceLeDiff, reduceEqDiff, Int.reduceLT, Int.reduceLE, Int.reduceEq, Int.reduceToNat, hn, hs, e1]
   refine (qJY (m : Int) m 1 _ (List.replicate 24 (.p (.int .u8 0))) qGr rfl (qB3 h0 5 1 _ 0 (by decide)) (by omega) (by omega)).trans ?_
   rw [if_neg hn]
   unfold Lib.itoa
   rw [if_neg hn, Int.toNat_natCast]
theorem qNp (n : Int) (h1 : -9223372036854775808 ≤ n) (h2 : n ≤ 9223372036854775807) : Om 82 [kI n, kI 10] [] = some (kS (Lib.itoa n), []) := by
 have c1 : CAL 96 [kI n, kI 10] (kS (Lib.itoa n)) := qAI 96 _ _ rfl (qN0 n h1 h2) rfl
 refine (qAE rfl).trans ?_
 show lim tab.get S 82 0 0 [kI n, kI 10] h0 = _
 rw [w82_0, b82_0]
 simp (maxSteps := 9999999) +contextual only [exa, ne_eq, not_false_eq_true, reduceAdd, reduceMul, reduceLT, reduceLeDiff, reduceEqDiff, Int.reduceLT, Int.reduceLE, Int.reduceEq, Int.reduceToNat, c1, oneOf]
end Go.Proofs.YtlkejchbcchecaaGreatDoor.Ab
set_option maxHeartbeats 4000000
namespace Go.Proofs.YtlkejchbcchecaaGreatDoor.Ab
open Go Go.AI
theorem qNr : Om 5 [] [] = some (kB true, []) := (qAE rfl).trans (qBF blks_ok 3000 5 0 0 _ _ _ (by kernel_rfl))
end Go.Proofs.YtlkejchbcchecaaGreatDoor.Ab
namespace Go.AI
def outR (ρ : List Ref) : Ref → Option Ref
 | .im i => ρ[i]?
 | .own .. => none
structure At (h : Heap) (ρ : List Ref) (C : List AObj) : Prop where
 nodup : ρ.Nodup
 len : ρ.length = C.length
 get : ∀ (i : Nat) (r : Ref) (o : AObj), ρ[i]? = some r → C[i]? = some o → h.get r = some (o.ren (outR ρ))
def Closed (C : List AObj) : Prop := ∀ o ∈ C, o ≠ .dead ∧ ∀ r ∈ o.refs, ∃ i, r = .im i ∧ i < C.length
theorem Cell.ren_ren {σ τ υ : Ref → Option Ref} (c : Cell) (h : ∀ r ∈ c.refs, ∃ s t, σ r = some s ∧ τ s = some t ∧ υ r = some t) : (c.ren σ).ren τ = c.ren υ := by
 cases c with
 | ptr r off => obtain ⟨s, t, h1, h2, h3⟩ := h r (by simp [Cell.refs]); simp only [Cell.ren, h1, h2, h3]
 | sref r off len cap sz => obtain ⟨s, t, h1, h2, h3⟩ := h r (by simp [Cell.refs]); simp only [Cell.ren, h1, h2, h3]
 | mref r => obtain ⟨s, t, h1, h2, h3⟩ := h r (by simp [Cell.refs]); simp only [Cell.ren, h1, h2, h3]
 | tsl sz rows r => obtain ⟨s, t, h1, h2, h3⟩ := h r (by simp [Cell.refs]); simp only [Cell.ren, h1, h2, h3]
 | func f caps =>
  have : ∀ caps : List Ref, (∀ r ∈ caps, ∃ s t, σ r = some s ∧ τ s = some t ∧ υ r = some t) → ∃ l m, caps.mapM σ = some l ∧ l.mapM τ = some m ∧ caps.mapM υ = some m := by
   intro caps
   induction caps with
   | nil => intro _; exact ⟨[], [], rfl, rfl, rfl⟩
   | cons r rs ih =>
    intro hh
    obtain ⟨s, t, h1, h2, h3⟩ := hh r (by simp)
    obtain ⟨l, m, j1, j2, j3⟩ := ih fun x hx => hh x (by simp [hx])
    exact ⟨s :: l, t :: m, by simp [h1, j1], by simp [h2, j2], by simp [h3, j3]⟩
  obtain ⟨l, m, j1, j2, j3⟩ := this caps (fun r hr => h r (by simpa [Cell.refs] using hr))
  simp only [Cell.ren, j1, j2, j3]
 | _ => rfl
theorem AObj.ren_ren {σ τ υ : Ref → Option Ref} (o : AObj) (h : ∀ r ∈ o.refs, ∃ s t, σ r = some s ∧ τ s = some t ∧ υ r = some t) : (o.ren σ).ren τ = o.ren υ := by
 have hc : ∀ cs : List Cell, (∀ r ∈ cs.flatMap Cell.refs, ∃ s t, σ r = some s ∧ τ s = some t ∧ υ r = some t) → (cs.map (Cell.ren σ)).map (Cell.ren τ) = cs.map (Cell.ren υ) := by
  intro cs hh
  rw [List.map_map]
  refine List.map_congr_left fun c hm => Cell.ren_ren c fun r hr => hh r (List.mem_flatMap.2 ⟨c, hm, hr⟩)
 cases o with
 | cells cs imm => simp only [AObj.ren]; rw [hc cs (fun r hr => h r (by simpa [AObj.refs] using hr))]
 | map es clock =>
  simp only [AObj.ren, List.map_map]
  congr 1
  refine List.map_congr_left fun e hm => ?_
  have he : ∀ r ∈ e.2.1.refs, ∃ s t, σ r = some s ∧ τ s = some t ∧ υ r = some t := fun r hr => h r (by simp only [AObj.refs]; exact List.mem_flatMap.2 ⟨e, hm, hr⟩)
  obtain ⟨a, b, c⟩ := e
  simp only [Function.comp]
  cases b with
  | c x => simp only [Comp.ren]; rw [Cell.ren_ren x he]
  | agg cs => simp only [Comp.ren]; rw [hc cs he]
 | _ => rfl
theorem Cell.ren_id {σ : Ref → Option Ref} (c : Cell) (h : ∀ r ∈ c.refs, σ r = some r) : c.ren σ = c := by
 cases c with
 | ptr r off => simp only [Cell.ren, h r (by simp [Cell.refs])]
 | sref r off len cap sz => simp only [Cell.ren, h r (by simp [Cell.refs])]
 | mref r => simp only [Cell.ren, h r (by simp [Cell.refs])]
 | tsl sz rows r => simp only [Cell.ren, h r (by simp [Cell.refs])]
 | func f caps =>
  have : ∀ caps : List Ref, (∀ r ∈ caps, σ r = some r) → caps.mapM σ = some caps := by
   intro caps
   induction caps with
   | nil => intro _; rfl
   | cons r rs ih => intro hh; simp [hh r (by simp), ih fun x hx => hh x (by simp [hx])]
  simp only [Cell.ren, this caps (fun r hr => h r (by simpa [Cell.refs] using hr))]
 | _ => rfl
theorem AObj.ren_id {σ : Ref → Option Ref} (o : AObj) (h : ∀ r ∈ o.refs, σ r = some r) : o.ren σ = o := by
 have hc : ∀ cs : List Cell, (∀ r ∈ cs.flatMap Cell.refs, σ r = some r) → cs.map (Cell.ren σ) = cs := by
  intro cs hh
  refine (List.map_congr_left fun c hm => Cell.ren_id c fun r hr => hh r (List.mem_flatMap.2 ⟨c, hm, hr⟩)).trans (List.map_id _)
 cases o with
 | cells cs imm => simp only [AObj.ren]; rw [hc cs (fun r hr => h r (by simpa [AObj.refs] using hr))]
 | map es clock =>
  simp only [AObj.ren]
  congr 1
  refine (List.map_congr_left fun e hm => ?_).trans (List.map_id _)
  have he : ∀ r ∈ e.2.1.refs, σ r = some r := fun r hr => h r (by simp only [AObj.refs]; exact List.mem_flatMap.2 ⟨e, hm, hr⟩)
  obtain ⟨a, b, c⟩ := e
  cases b with
  | c x => simp only [Comp.ren, id]; rw [Cell.ren_id x he]
  | agg cs => simp only [Comp.ren, id]; rw [hc cs he]
 | _ => rfl
theorem Cell.refs_ren {σ : Ref → Option Ref} {f : Ref → Ref} (c : Cell) (h : ∀ r ∈ c.refs, σ r = some (f r)) : (c.ren σ).refs = c.refs.map f := by
 cases c with
 | ptr r off => simp only [Cell.ren, h r (by simp [Cell.refs]), Cell.refs, List.map]
 | sref r off len cap sz => simp only [Cell.ren, h r (by simp [Cell.refs]), Cell.refs, List.map]
 | mref r => simp only [Cell.ren, h r (by simp [Cell.refs]), Cell.refs, List.map]
 | tsl sz rows r => simp only [Cell.ren, h r (by simp [Cell.refs]), Cell.refs, List.map]
 | func g caps =>
  have : ∀ caps : List Ref, (∀ r ∈ caps, σ r = some (f r)) → caps.mapM σ = some (caps.map f) := by
   intro caps
   induction caps with
   | nil => intro _; rfl
   | cons r rs ih => intro hh; simp [hh r (by simp), ih fun x hx => hh x (by simp [hx])]
  simp only [Cell.ren, this caps (fun r hr => h r (by simpa [Cell.refs] using hr)), Cell.refs]
 | _ => rfl
theorem AObj.refs_ren {σ : Ref → Option Ref} {f : Ref → Ref} (o : AObj) (h : ∀ r ∈ o.refs, σ r = some (f r)) : (o.ren σ).refs = o.refs.map f := by
 have hc : ∀ cs : List Cell, (∀ r ∈ cs.flatMap Cell.refs, σ r = some (f r)) → (cs.map (Cell.ren σ)).flatMap Cell.refs = (cs.flatMap Cell.refs).map f := by
  intro cs
  induction cs with
  | nil => intro _; rfl
  | cons c cs ih =>
   intro hh
   simp only [List.map_cons, List.flatMap_cons, List.map_append]
   rw [Cell.refs_ren c (fun r hr => hh r (by simp [hr])), ih (fun r hr => hh r (by simp only [List.flatMap_cons, List.mem_append]; exact Or.inr hr))]
 cases o with
 | cells cs imm => simp only [AObj.ren, AObj.refs]; exact hc cs (fun r hr => h r (by simpa [AObj.refs] using hr))
 | map es clock =>
  simp only [AObj.ren, AObj.refs] at h ⊢
  induction es with
  | nil => rfl
  | cons e es ih =>
   simp only [List.map_cons, List.flatMap_cons, List.map_append]
   rw [ih (fun r hr => h r (by simp only [List.flatMap_cons, List.mem_append]; exact Or.inr hr))]
   congr 1
   have he : ∀ r ∈ e.2.1.refs, σ r = some (f r) := fun r hr => h r (by simp only [List.flatMap_cons, List.mem_append]; exact Or.inl hr)
   obtain ⟨a, b, c⟩ := e
   cases b with
   | c x => simp only [Comp.ren, Comp.refs]; exact Cell.refs_ren x he
   | agg cs => simp only [Comp.ren, Comp.refs]; exact hc cs he
 | _ => rfl
theorem qBY : ∀ (rs : List Ref) (i k : Nat) (r : Ref), rs.Nodup → rs[i]? = some r → idx r rs k = some (k + i)
 | [], i, k, r, _, e => by simp at e
 | s :: rs, 0, k, r, _, e => by
  simp only [List.getElem?_cons_zero, Option.some.injEq] at e
  subst e
  simp [idx]
 | s :: rs, i + 1, k, r, hn, e => by
  simp only [List.getElem?_cons_succ] at e
  obtain ⟨h1, h2⟩ := List.nodup_cons.1 hn
  have hne : r ≠ s := fun e' => h1 (by rw [← e']; exact List.mem_of_getElem? e)
  simp only [idx, decide_eq_false hne, cond_false]
  rw [qBY rs i (k + 1) r h2 e]
  congr 1; omega
theorem qA0 {ρ : List Ref} {i : Nat} {r : Ref} (hn : ρ.Nodup) (e : ρ[i]? = some r) : inn ρ r = some (.im i) := by
 unfold inn
 rw [qBY ρ i 0 r hn e, Nat.zero_add]
 rfl
def outF (ρ : List Ref) (r : Ref) : Ref := (outR ρ r).getD r
theorem qAM {ρ : List Ref} {i : Nat} (hi : i < ρ.length) : outR ρ (.im i) = some (outF ρ (.im i)) ∧ ρ[i]? = some (outF ρ (.im i)) := by
 have : ρ[i]? = some ρ[i] := List.getElem?_eq_getElem hi
 simp only [outF, outR, this, Option.getD_some, and_self]
theorem qLV {ρ : List Ref} (hn : ρ.Nodup) {i j : Nat} (hi : i < ρ.length) (hj : j < ρ.length) (e : outF ρ (.im i) = outF ρ (.im j)) : i = j := by
 have h1 := (qAM hi).2
 have h2 := (qAM hj).2
 rw [← e] at h2
 exact (List.nodup_iff_injective_getElem?' hn) h1 h2
where
 List.nodup_iff_injective_getElem?' {ρ : List Ref} (hn : ρ.Nodup) {i j : Nat} {r : Ref} (h1 : ρ[i]? = some r) (h2 : ρ[j]? = some r) : i = j := by
  have := qBY ρ i 0 r hn h1
  rw [qBY ρ j 0 r hn h2] at this
  simp only [Nat.zero_add, Option.some.injEq] at this
  exact this.symm
theorem qBG {h : Heap} {ρ : List Ref} {C : List AObj} (A : At h ρ C) (K : Closed C) : ∀ (n : Nat) (todo seen : List Ref),
  (∀ r ∈ todo, ∃ i, r = .im i ∧ i < C.length) → (∀ r ∈ seen, ∃ i, r = .im i ∧ i < C.length) →
  reach h n (todo.map (outF ρ)) (seen.map (outF ρ)) = (reach ⟨C, .nil⟩ n todo seen).map (outF ρ)
 | 0, todo, seen, _, _ => rfl
 | n + 1, [], seen, _, _ => rfl
 | n + 1, r :: todo, seen, ht, hs => by
  obtain ⟨i, rfl, hi⟩ := ht r (by simp)
  have hiρ : i < ρ.length := by rw [A.len]; exact hi
  have hc : (seen.map (outF ρ)).contains (outF ρ (.im i)) = seen.contains (.im i) := by
   rw [Bool.eq_iff_iff, List.contains_iff_mem, List.contains_iff_mem]
   constructor
   ·intro hm
    obtain ⟨s, h1, h2⟩ := List.mem_map.1 hm
    obtain ⟨j, rfl, hj⟩ := hs s h1
    rw [qLV A.nodup (by rw [A.len]; exact hj) hiρ h2] at h1
    exact h1
   ·intro hm
    exact List.mem_map.2 ⟨_, hm, rfl⟩
  rw [List.map_cons]
  conv => lhs; unfold reach
  conv => rhs; unfold reach
  rw [hc]
  cases hb : seen.contains (.im i) with
  | true =>
   rw [cond_true, cond_true]
   exact qBG A K n todo seen (fun r hr => ht r (by simp [hr])) hs
  | false =>
   rw [cond_false, cond_false]
   have hCi : C[i]? = some C[i] := List.getElem?_eq_getElem hi
   have hmem : C[i] ∈ C := List.getElem_mem hi
   obtain ⟨hd, hr⟩ := K _ hmem
   rw [A.get i _ _ (qAM hiρ).2 hCi, Heap.get_im_of (h := ⟨C, .nil⟩) hCi hd]
   dsimp only
   rw [AObj.refs_ren (f := outF ρ) C[i] (fun r hr' => by
    obtain ⟨j, rfl, hj⟩ := hr r hr'
    exact (qAM (by rw [A.len]; exact hj)).1)]
   rw [← List.map_append, show seen.map (outF ρ) ++ [outF ρ (.im i)] = (seen ++ [Ref.im i]).map (outF ρ) by simp]
   refine qBG A K n _ _ (fun r hr' => ?_) (fun r hr' => ?_)
   ·rcases List.mem_append.1 hr' with hm | hm
    ·exact hr r hm
    ·exact ht r (by simp [hm])
   ·rcases List.mem_append.1 hr' with hm | hm
    ·exact hs r hm
    ·rw [List.mem_singleton.1 hm]; exact ⟨i, rfl, hi⟩
def Rooted (C : List AObj) : Prop := Closed C ∧ reach ⟨C, .nil⟩ fuelReach [.im 0] [] = (List.range C.length).map Ref.im
theorem qB9 {ρ : List Ref} : ((List.range ρ.length).map Ref.im).map (outF ρ) = ρ := by
 refine List.ext_getElem? fun i => ?_
 rw [List.getElem?_map, List.getElem?_map]
 by_cases hi : i < ρ.length
 ·rw [List.getElem?_range hi, (qAM hi).2]; rfl
 ·rw [List.getElem?_eq_none (by simpa using hi), List.getElem?_eq_none (by simpa using hi)]; rfl
theorem At.mapM {h : Heap} {ρ : List Ref} {C : List AObj} (A : At h ρ C) : ρ.mapM h.get = some (C.map (AObj.ren (outR ρ))) := by
 have : ∀ (l : List Ref) (D : List AObj), l.length = D.length → (∀ (i : Nat) (r : Ref) (o : AObj), l[i]? = some r → D[i]? = some o → h.get r = some (o.ren (outR ρ))) → l.mapM h.get = some (D.map (AObj.ren (outR ρ))) := by
  intro l
  induction l with
  | nil => intro D hl _; cases D with
   | nil => rfl
   | cons _ _ => simp at hl
  | cons r l ih => intro D hl hg; cases D with
   | nil => simp at hl
   | cons o D =>
    have h0 := hg 0 r o rfl rfl
    have h1 := ih D (by simpa using hl) (fun i s q e1 e2 => hg (i + 1) s q (by simpa using e1) (by simpa using e2))
    simp [h0, h1]
 exact this ρ C A.len A.get
def backF (h : Heap) (ρ : List Ref) : Ref → Ref
 | .im i => match ρ[i]? with | some r => r | none => .im (h.ims.length + (i - ρ.length))
 | r => r
theorem qGu {h h' : Heap} {ρ ρ' : List Ref} {C C' qs : List AObj} (A : At h ρ C) (hl : C.length ≤ qs.length) (B : Behind h ρ qs h') (A' : At ⟨qs, .nil⟩ ρ' C') (K' : Closed C') :
  At h' (ρ'.map (backF h ρ)) C' ∧ ∀ r, r ∉ ρ → (∃ o, h.get r = some o) → r ∉ ρ'.map (backF h ρ) := by
 have him : ∀ r ∈ ρ', ∃ i, r = .im i ∧ i < qs.length ∧ ∃ o, o ∈ C' ∧ qs[i]? = some (o.ren (outR ρ')) ∧ o.ren (outR ρ') ≠ .dead := by
  intro r hr
  obtain ⟨k, hk, e⟩ := List.getElem_of_mem hr
  have hkC : k < C'.length := by rw [← A'.len]; exact hk
  have hg := A'.get k r C'[k] (by rw [← e]; exact List.getElem?_eq_getElem hk) (List.getElem?_eq_getElem hkC)
  cases r with
  | im i =>
   obtain ⟨h1, h2⟩ := Heap.get_im_some hg
   exact ⟨i, rfl, (List.getElem?_eq_some_iff.1 h1).1, _, List.getElem_mem hkC, h1, h2⟩
  | own d g =>
   exfalso
   obtain ⟨h1, _⟩ := Heap.get_own_some hg
   simp [TM.get] at h1
 have hρh : ∀ r ∈ ρ, ∃ o, h.get r = some o := by
  intro r hr
  obtain ⟨k, hk, e⟩ := List.getElem_of_mem hr
  have hkC : k < C.length := by rw [← A.len]; exact hk
  exact ⟨_, A.get k r C[k] (by rw [← e]; exact List.getElem?_eq_getElem hk) (List.getElem?_eq_getElem hkC)⟩
 have hnew : ∀ j, Ref.im (h.ims.length + j) ∉ ρ := by
  intro j hm
  obtain ⟨o, ho⟩ := hρh _ hm
  have := (List.getElem?_eq_some_iff.1 (Heap.get_im_some ho).1).1
  omega
 have hinj : ∀ i j, backF h ρ (.im i) = backF h ρ (.im j) → i = j := by
  intro i j e
  simp only [backF] at e
  cases h1 : ρ[i]? with
  | some r =>
   cases h2 : ρ[j]? with
   | some s =>
    rw [h1, h2] at e
    dsimp only at e
    subst e
    have e1 := qBY ρ i 0 r A.nodup h1
    rw [qBY ρ j 0 r A.nodup h2] at e1
    simp only [Nat.zero_add, Option.some.injEq] at e1
    exact e1.symm
   | none =>
    rw [h1, h2] at e
    dsimp only at e
    exact absurd (by rw [← e]; exact List.mem_of_getElem? h1) (hnew _)
  | none =>
   cases h2 : ρ[j]? with
   | some s =>
    rw [h1, h2] at e
    dsimp only at e
    exact absurd (by rw [e]; exact List.mem_of_getElem? h2) (hnew _)
   | none =>
    rw [h1, h2] at e
    simp only [Ref.im.injEq] at e
    have a1 := List.getElem?_eq_none_iff.1 h1
    have a2 := List.getElem?_eq_none_iff.1 h2
    omega
 have hback : ∀ i, i < qs.length → back ρ qs.length (newRef h.ims.length) (.im i) = some (backF h ρ (.im i)) := by
  intro i hi
  simp only [back, backF]
  cases h1 : ρ[i]? with
  | some r => rfl
  | none =>
   have : Nat.blt i qs.length = true := by rw [Nat.blt_eq]; exact hi
   simp only [this, cond_true, newRef]
 refine ⟨⟨?_, by rw [List.length_map, A'.len], ?_⟩, ?_⟩
 ·refine List.pairwise_map.2 (A'.nodup.imp_of_mem ?_)
  intro r s hr hs hne e
  refine hne ?_
  obtain ⟨i, rfl, _⟩ := him r hr
  obtain ⟨j, rfl, _⟩ := him s hs
  rw [hinj i j e]
 ·intro k r o e1 e2
  rw [List.getElem?_map] at e1
  obtain ⟨s, h1, h2⟩ := Option.map_eq_some_iff.1 e1
  obtain ⟨i, rfl, hi, _⟩ := him s (List.mem_of_getElem? h1)
  have hg := A'.get k _ o h1 e2
  obtain ⟨g1, g2⟩ := Heap.get_im_some hg
  have hK := K' o (List.mem_of_getElem? e2)
  have hren : (o.ren (outR ρ')).ren (back ρ qs.length (newRef h.ims.length)) = o.ren (outR (ρ'.map (backF h ρ))) := by
   refine AObj.ren_ren o fun r hr => ?_
   obtain ⟨j, rfl, hj⟩ := hK.2 r hr
   have hj' : j < ρ'.length := by rw [A'.len]; exact hj
   obtain ⟨j1, j2⟩ := qAM hj'
   obtain ⟨i', hi', hlt, _⟩ := him _ (List.mem_of_getElem? j2)
   refine ⟨_, _, j1, by rw [hi']; exact hback i' hlt, ?_⟩
   simp only [outR, List.getElem?_map, j2, hi', Option.map_some]
  have hq : (qs.map (AObj.ren (back ρ qs.length (newRef h.ims.length))))[i]? = some (o.ren (outR (ρ'.map (backF h ρ)))) := by
   rw [List.getElem?_map, g1, Option.map_some, hren]
  have hnd : o.ren (outR (ρ'.map (backF h ρ))) ≠ .dead := by
   have := hK.1
   cases o <;> simp [AObj.ren] at this ⊢
  rw [← h2]
  by_cases hi2 : i < ρ.length
  ·have hb : backF h ρ (.im i) = ρ[i] := by simp only [backF, List.getElem?_eq_getElem hi2]
   rw [hb]
   exact B.own i _ _ (List.getElem?_eq_getElem hi2) hq hnd
  ·have hb : backF h ρ (.im i) = .im (h.ims.length + (i - ρ.length)) := by simp only [backF, List.getElem?_eq_none (Nat.not_lt.1 hi2)]
   rw [hb]
   refine B.new (i - ρ.length) _ ?_ hnd
   rw [show ρ.length + (i - ρ.length) = i by omega]
   exact hq
 ·intro r hr ⟨o, ho⟩ hm
  obtain ⟨s, h1, h2⟩ := List.mem_map.1 hm
  obtain ⟨i, rfl, hi, _⟩ := him s h1
  simp only [backF] at h2
  cases h3 : ρ[i]? with
  | some q => rw [h3] at h2; dsimp only at h2; exact hr (by rw [← h2]; exact List.mem_of_getElem? h3)
  | none =>
   rw [h3] at h2
   dsimp only at h2
   rw [← h2] at ho
   have := (List.getElem?_eq_some_iff.1 (Heap.get_im_some ho).1).1
   omega
theorem qGy : ∀ (rs : List Ref) (k : Nat) (r : Ref), r ∈ rs → ∃ i : Nat, idx r rs k = some (k + i) ∧ rs[i]? = some r
 | [], k, r, h => by cases h
 | s :: rs, k, r, h => by
  by_cases e : r = s
  ·exact ⟨0, by simp [idx, e], by simp [e]⟩
  ·obtain ⟨i, h1, h2⟩ := qGy rs (k + 1) r (by rcases List.mem_cons.1 h with h | h; exact absurd h e; exact h)
   refine ⟨i + 1, ?_, by simpa using h2⟩
   simp only [idx, decide_eq_false e, cond_false]
   rw [h1]; congr 1; omega
def innF (rs : List Ref) (r : Ref) : Ref := (inn rs r).getD r
theorem qCP {rs : List Ref} {r : Ref} (h : r ∈ rs) : ∃ i : Nat, inn rs r = some (.im i) ∧ innF rs r = .im i ∧ rs[i]? = some r := by
 obtain ⟨i, h1, h2⟩ := qGy rs 0 r h
 have : inn rs r = some (.im i) := by unfold inn; rw [h1, Nat.zero_add]; rfl
 exact ⟨i, this, by unfold innF; rw [this]; rfl, h2⟩
theorem qJb {h : Heap} {ρ F : List Ref} {C : List AObj} (A : At h ρ C) (K : Closed C) (hF : ∀ r ∈ ρ, r ∈ F) (hn : F.Nodup) :
  At ⟨F.map fun r => match h.get r with | some o => o.ren (inn F) | none => .dead, .nil⟩ (ρ.map (innF F)) C := by
 refine ⟨?_, by rw [List.length_map, A.len], ?_⟩
 ·refine List.pairwise_map.2 (A.nodup.imp_of_mem ?_)
  intro r s hr hs hne e
  obtain ⟨i, _, h2, h3⟩ := qCP (hF r hr)
  obtain ⟨j, _, k2, k3⟩ := qCP (hF s hs)
  rw [h2, k2, Ref.im.injEq] at e
  subst e
  rw [h3] at k3
  exact hne (Option.some.inj k3)
 ·intro k r o e1 e2
  rw [List.getElem?_map] at e1
  obtain ⟨s, h1, h2⟩ := Option.map_eq_some_iff.1 e1
  obtain ⟨i, i1, i2, i3⟩ := qCP (hF s (List.mem_of_getElem? h1))
  have hg := A.get k s o h1 e2
  have hK := K o (List.mem_of_getElem? e2)
  rw [← h2, i2]
  have hren : (o.ren (outR ρ)).ren (inn F) = o.ren (outR (ρ.map (innF F))) := by
   refine AObj.ren_ren o fun r hr => ?_
   obtain ⟨j, rfl, hj⟩ := hK.2 r hr
   obtain ⟨j1, j2⟩ := qAM (ρ := ρ) (i := j) (by rw [A.len]; exact hj)
   obtain ⟨i', i1', i2', _⟩ := qCP (hF _ (List.mem_of_getElem? j2))
   refine ⟨_, _, j1, i1', ?_⟩
   simp only [outR, List.getElem?_map, j2, Option.map_some, i2']
  refine Heap.get_im_of ?_ ?_
  ·show (F.map _)[i]? = _
   rw [List.getElem?_map, i3, Option.map_some]
   simp only [hg]
   rw [hren]
  ·have := hK.1
   cases o <;> simp [AObj.ren] at this ⊢
theorem qER (k i : Nat) : Ref.im i ∈ ims k ↔ i < k := by unfold ims; simp
theorem qC0 (k : Nat) : (ims k).Nodup := by
 unfold ims
 refine List.pairwise_map.2 (List.nodup_range.imp ?_)
 intro a b h e
 exact h (Ref.im.inj e)
section
variable {β : Type} {O : Oracle} {h : Heap} {d : Nat} {k : TVal → Heap → Option β}
end
theorem At.root {h : Heap} {ρ : List Ref} {root : AObj} {leaves : List AObj} (A : At h ρ (root :: leaves)) {r : Ref} (e : ρ[0]? = some r) : h.get r = some (root.ren (outR ρ)) := A.get 0 r root e rfl
theorem qBh {k i : Nat} (hi : i < k) : (ims k)[i]? = some (.im i) := by unfold ims; rw [List.getElem?_map, List.getElem?_range hi]; rfl
def HI (h : Heap) (C : List AObj) : Prop := ∀ (i : Nat) (o : AObj), C[i]? = some o → h.get (.im i) = some o
theorem HI.own {h : Heap} {C : List AObj} (H : HI h C) (d g : Nat) (o : AObj) : HI (h.own d g o) C := fun i q e => H i q e
theorem HI.of {h h' : Heap} {C : List AObj} (H : HI h C) (I : ∀ i, h'.get (.im i) = h.get (.im i)) : HI h' C := fun i q e => (I i).trans (H i q e)
theorem HI.start {C : List AObj} (K : Closed C) : HI ⟨C, .nil⟩ C := fun i o e => Heap.get_im_of e (K o (List.mem_of_getElem? e)).1
theorem qJm {h : Heap} {i : Nat} {o : AObj} (hg : h.get (.im i) = some o) : h.put (.im i) o = h := by
 obtain ⟨h1, _⟩ := Heap.get_im_some hg
 show ({ h with ims := h.ims.set i o } : Heap) = h
 have : h.ims.set i o = h.ims := by
  refine List.ext_getElem? fun j => ?_
  rw [List.getElem?_set]
  split
  ·rename_i e; subst e
   rw [if_pos (List.getElem?_eq_some_iff.1 h1).1, h1]
  ·rfl
 rw [this]
theorem qEx {h : Heap} : ∀ (rs : List Ref) (os : List AObj), (∀ (i : Nat) (r : Ref) (o : AObj), rs[i]? = some r → os[i]? = some o → h.get r = some o) → (∀ r ∈ rs, ∃ i, r = .im i) → putAll h rs os = h
 | [], os, _, _ => by cases os <;> rfl
 | r :: rs, [], _, _ => rfl
 | r :: rs, o :: os, hg, him => by
  obtain ⟨i, rfl⟩ := him r (by simp)
  show putAll (h.put (.im i) o) rs os = h
  rw [qJm (hg 0 _ _ rfl rfl)]
  exact qEx rs os (fun j s q e1 e2 => hg (j + 1) s q (by simpa using e1) (by simpa using e2)) fun s hs => him s (by simp [hs])
theorem qLM {h : Heap} {ρ : List Ref} {C : List AObj} (A : At h ρ C) (K : Closed C) (n : Nat) (hn : C.length ≤ n) : C.map (AObj.ren (back ρ n (newRef h.ims.length))) = C.map (AObj.ren (outR ρ)) := by
 refine List.map_congr_left fun o ho => ?_
 have hid : o.ren (fun r => some r) = o := AObj.ren_id o fun r _ => rfl
 rw [← hid]
 rw [AObj.ren_ren (υ := outR ρ), AObj.ren_ren (υ := outR ρ)]
 ·intro r hr
  obtain ⟨i, rfl, hi⟩ := (K o ho).2 r hr
  have := (qAM (ρ := ρ) (i := i) (by rw [A.len]; exact hi)).1
  exact ⟨_, _, rfl, this, this⟩
 ·intro r hr
  obtain ⟨i, rfl, hi⟩ := (K o ho).2 r hr
  have h1 := (qAM (ρ := ρ) (i := i) (by rw [A.len]; exact hi)).1
  have h2 := (qAM (ρ := ρ) (i := i) (by rw [A.len]; exact hi)).2
  refine ⟨_, _, rfl, ?_, h1⟩
  simp only [back, h2]
theorem qHO {h : Heap} {ρ : List Ref} {C : List AObj} (A : At h ρ C) (K : Closed C) (him : ∀ r ∈ ρ, ∃ i, r = .im i) : hAfter h ρ C = h := by
 rw [qC9, qLM A K C.length (Nat.le_refl _)]
 have hl : (C.map (AObj.ren (outR ρ))).length = ρ.length := by rw [List.length_map, A.len]
 have e1 : (C.map (AObj.ren (outR ρ))).take ρ.length = C.map (AObj.ren (outR ρ)) := by rw [← hl, List.take_length]
 have e2 : (C.map (AObj.ren (outR ρ))).drop ρ.length = [] := by rw [← hl, List.drop_length]
 rw [e1, e2, List.append_nil, qEx ρ _ (fun i r o h1 h2 => ?_) him]
 rw [List.getElem?_map] at h2
 obtain ⟨q, q1, q2⟩ := Option.map_eq_some_iff.1 h2
 rw [← q2]
 exact A.get i r q h1 q1
structure TouchIm (t : Touch) : Prop where
 rd : ∀ s ∈ t.rd, ∃ i, s = .im i
 wr : ∀ s ∈ t.wr, ∃ i, s = .im i
 wild : t.wild = false
theorem qEY {a b : List Site} (ha : ∀ s ∈ a, ∃ i, s = Site.im i) (hb : ∀ s ∈ b, ∃ d, s = Site.own d) : disj a b = true := by
 unfold disj
 rw [List.all_eq_true]
 intro x hx
 obtain ⟨i, rfl⟩ := ha x hx
 simp only [Bool.not_eq_true', List.contains_eq_mem, decide_eq_false_iff_not]
 intro hm
 obtain ⟨d, e⟩ := hb _ hm
 cases e
theorem qLL {a b : List Site} (ha : ∀ s ∈ a, ∃ d, s = Site.own d) (hb : ∀ s ∈ b, ∃ i, s = Site.im i) : disj a b = true := by
 unfold disj
 rw [List.all_eq_true]
 intro x hx
 obtain ⟨i, rfl⟩ := ha x hx
 simp only [Bool.not_eq_true', List.contains_eq_mem, decide_eq_false_iff_not]
 intro hm
 obtain ⟨d, e⟩ := hb _ hm
 cases e
theorem TouchIm.own_r {t : Touch} (T : TouchIm t) (rd wr : List Site) (h1 : ∀ s ∈ rd, ∃ d, s = Site.own d) (h2 : ∀ s ∈ wr, ∃ d, s = Site.own d) (w : Bool) : Touch.apart t ⟨rd, wr, w⟩ = true := by
 unfold Touch.apart
 simp [qEY T.wr h1, qEY T.wr h2, qLL h2 T.rd, T.wild]
theorem qMO {h : Heap} {ρ : List Ref} {C : List AObj} (A : At h ρ C) (K : Closed C) (him : ∀ r ∈ ρ, ∃ i, r = .im i) : ∀ r ∈ (C.map (AObj.ren (outR ρ))).flatMap AObj.refs, ∃ i, r = Ref.im i := by
 intro r hr
 obtain ⟨o, ho, hr⟩ := List.mem_flatMap.1 hr
 obtain ⟨o', ho', rfl⟩ := List.mem_map.1 ho
 rw [AObj.refs_ren (f := outF ρ) o' (fun r hr' => by
  obtain ⟨j, rfl, hj⟩ := (K o' ho').2 r hr'
  exact (qAM (by rw [A.len]; exact hj)).1)] at hr
 obtain ⟨s, hs, rfl⟩ := List.mem_map.1 hr
 obtain ⟨j, rfl, hj⟩ := (K o' ho').2 s hs
 have := (qAM (ρ := ρ) (i := j) (by rw [A.len]; exact hj)).2
 exact him _ (List.mem_of_getElem? this)
theorem qMY {O : Oracle} {h : Heap} {ρ : List Ref} {C : List AObj} (A : At h ρ C) (R : Rooted C) (him : ∀ r ∈ ρ, ∃ i, r = .im i) (g : FuncId) (args qAO as' : List TVal) (r0 : Ref) (v : TVal)
  (e0 : ρ[0]? = some r0) (e1 : args.map TVal.strip = qAO) (e2 : qAO.flatMap TVal.refs = [r0]) (e4 : qAO.map (TVal.ren (inn ρ)) = as') (hc : O g as' C = some (v, C)) (e7 : ∀ σ, v.ren σ = v) :
  (∀ {β : Type} (d : Nat) (k : TVal → Heap → Option β), vcall O (.v (.c (.func g []))) args h d k = k v h) ∧
  ∃ t, TouchIm t ∧ ∀ d, callOp O g args d h = some (v, h, t) := by
 have h0 : 0 < C.length := by rw [← A.len]; exact (List.getElem?_eq_some_iff.1 e0).1
 have er : r0 = outF ρ (.im 0) := by
  have := (qAM (ρ := ρ) (i := 0) (by rw [A.len]; exact h0)).2
  rw [e0] at this
  exact Option.some.inj this
 have er2 : reach h fuelReach (qAO.flatMap TVal.refs) [] = ρ := by
  rw [e2, er]
  have := qBG A R.1 fuelReach [.im 0] [] (fun r hr => ⟨0, List.mem_singleton.1 hr, h0⟩) (fun r hr => by cases hr)
  simp only [List.map_cons, List.map_nil] at this
  rw [this, R.2, ← A.len, qB9]
 have e5 : (C.map (AObj.ren (outR ρ))).map (AObj.ren (inn ρ)) = C := by
  rw [List.map_map]
  refine (List.map_congr_left fun o ho => ?_).trans (List.map_id _)
  simp only [Function.comp, id]
  have := (R.1 o ho).2
  rw [AObj.ren_ren (υ := fun r => some r) o (fun r hr => by
   obtain ⟨i, rfl, hi⟩ := this r hr
   have hi' := qAM (ρ := ρ) (i := i) (by rw [A.len]; exact hi)
   exact ⟨_, _, hi'.1, qA0 A.nodup hi'.2, rfl⟩)]
  exact AObj.ren_id o fun r _ => rfl
 have hca : ∀ d, callOp O g args d h = some (v, h, gTouch h qAO (C.map (AObj.ren (outR ρ))) ρ C) := fun d => by
  have := qBc (d := d) g args qAO as' ρ (C.map (AObj.ren (outR ρ))) C C v e1 er2 A.mapM e4 e5 hc (by rw [A.len]; exact Nat.le_refl _)
  rw [this, e7, qHO A R.1 him]
 refine ⟨fun d k => ?_, _, ?_, hca⟩
 ·show callF O g args d h k = _
  rw [qAz, hca d]; rfl
 ·have hl : ((C.map (AObj.ren (back ρ C.length (newRef h.ims.length)))).drop ρ.length).length = 0 := by rw [List.length_drop, List.length_map, A.len, Nat.sub_self]
  have hsite : ∀ r ∈ ρ, ∃ i, r.site = Site.im i := fun r hr => by obtain ⟨i, rfl⟩ := him r hr; exact ⟨i, rfl⟩
  refine ⟨fun s hs => ?_, fun s hs => ?_, ?_⟩
  ·obtain ⟨r, hr, rfl⟩ := List.mem_map.1 hs
   rcases List.mem_append.1 hr with hr | hr
   ·rcases List.mem_append.1 hr with hr | hr
    ·rw [e2, List.mem_singleton] at hr
     rw [hr]; exact hsite _ (List.mem_of_getElem? e0)
    ·obtain ⟨i, rfl⟩ := qMO A R.1 him r hr; exact ⟨i, rfl⟩
   ·exact hsite r hr
  ·unfold gTouch at hs
   rw [hl] at hs
   simp only [List.range_zero, List.map_nil, List.append_nil] at hs
   obtain ⟨r, hr, rfl⟩ := List.mem_map.1 hs
   exact hsite r hr
  ·show Nat.blt 0 _ = false
   rw [hl]; rfl
section
variable {β : Type} {O : Oracle} {h : Heap} {d : Nat}
theorem qA1 (g : FuncId) (az : List TVal) (v : TVal) (h' : Heap) (t : Touch) (e : callOp O g az d h = some (v, h', t)) (kt : TVal → Heap → Touch → Option β) : vtouch O (.call (.k (.v (.c (.func g [])))) (az.map .k)) h d kt = kt v h' t := by
 have hb : plan .nil (.call (.k (.v (.c (.func g [])))) (az.map .k)) = some (.call g az) := by
  have hm : (az.map X.k).mapM (fun x => X.ev .nil x) = some az := by
   clear e
   induction az with
   | nil => rfl
   | cons a az ih => rw [List.map_cons, List.mapM_cons, ih]; rfl
  show ((az.map X.k).mapM (fun x => X.ev .nil x)).bind (fun vs => some (Plan.call g (vs ++ []))) = _
  rw [hm]; simp
 show bnd (plan2 (.call (.k (.v (.c (.func g [])))) (az.map .k)) .nil) (fun p => bnd (p.exec O d h) fun x => kt x.1 x.2.1 x.2.2) = _
 rw [qAT, hb]
 show bnd (callOp O g az d h) _ = _
 rw [e]
theorem qCb {ρ : List Ref} {r : Ref} (e0 : ρ[0]? = some r) (hn : ρ.Nodup) {ps : List TVal} (hp : allB pT ps = true) :
  (TVal.v (.c (.ptr r 0)) :: ps).map TVal.strip = TVal.v (.c (.ptr r 0)) :: ps ∧ (TVal.v (.c (.ptr r 0)) :: ps).flatMap TVal.refs = [r] ∧ (TVal.v (.c (.ptr r 0)) :: ps).map (TVal.ren (inn ρ)) = TVal.v (.c (.ptr (.im 0) 0)) :: ps := by
 obtain ⟨a1, a2, a3⟩ := qC2 hp
 refine ⟨by rw [List.map_cons, a1]; rfl, by rw [List.flatMap_cons, a2]; rfl, ?_⟩
 rw [List.map_cons, a3]
 have ir : inn ρ r = some (.im 0) := qA0 hn e0
 show TVal.v (.c (match inn ρ r with | some s => .ptr s 0 | none => .junk)) :: ps = _
 rw [ir]
theorem qH4 {ρ : List Ref} {C : List AObj} (A : At h ρ C) (R : Rooted C) (him : ∀ r ∈ ρ, ∃ i, r = .im i) {r : Ref} (e0 : ρ[0]? = some r) (g : FuncId) (ps : List TVal) (hp : allB pT ps = true) (v : TVal) (hv : pT v = true) (hc : O g (.v (.c (.ptr (.im 0) 0)) :: ps) C = some (v, C)) :
  (∀ {β : Type} (d : Nat) (k : TVal → Heap → Option β), vcall O (.v (.c (.func g []))) (.v (.c (.ptr r 0)) :: ps) h d k = k v h) ∧
  ∃ t, TouchIm t ∧ ∀ {β : Type} (d : Nat) (kt : TVal → Heap → Touch → Option β), vtouch O (.call (.k (.v (.c (.func g [])))) (.k (.v (.c (.ptr r 0))) :: ps.map .k)) h d kt = kt v h t := by
 obtain ⟨a1, a2, a3⟩ := qCb e0 A.nodup hp
 obtain ⟨_, _, q3, _⟩ := qAQ hv
 obtain ⟨c1, t, T, c2⟩ := qMY A R him g _ _ _ r v e0 a1 a2 a3 hc q3
 exact ⟨fun d k => c1 d k, t, T, fun d kt => qA1 g (.v (.c (.ptr r 0)) :: ps) v h t (c2 d) kt⟩
end
def Leafy (h : Heap) (n : Nat) : Prop := ∀ j, 0 < j → j < n → ∀ o, h.get (.im j) = some o → o.refs = []
theorem qKM {h : Heap} {i : Nat} : (h.put (.im i) .dead).get (.im i) = none := by
 show (match (h.ims.set i .dead)[i]? with | some .dead => none | o => o) = none
 rw [List.getElem?_set]
 by_cases hi : i < h.ims.length
 ·rw [if_pos rfl, if_pos hi]
 ·rw [if_pos rfl, if_neg hi]
theorem qDR : ∀ (rs : List Ref) (os : List AObj) (h : Heap), rs.Nodup → (∀ r ∈ rs, ∃ x, h.get r = some x) → (∀ r ∈ rs, ∃ i, r = .im i) →
  ∀ (i : Nat) (r : Ref), rs[i]? = some r → os[i]? = some .dead → (putAll h rs os).get r = none
 | [], os, h, _, _, _, i, r, e, _ => by simp at e
 | r :: rs, [], h, _, _, _, i, s, _, e => by simp at e
 | r :: rs, o :: os, h, hn, hx, him, i, s, e1, e2 => by
  obtain ⟨hn1, hn2⟩ := List.nodup_cons.1 hn
  obtain ⟨x, hr⟩ := hx r (by simp)
  obtain ⟨k, rfl⟩ := him r (by simp)
  have hx' : ∀ s ∈ rs, ∃ x, (h.put (.im k) o).get s = some x := fun s hs => by
   obtain ⟨y, hy⟩ := hx s (by simp [hs])
   exact ⟨y, by rw [Heap.zput_ne hr (fun e => hn1 (by rw [e]; exact hs))]; exact hy⟩
  cases i with
  | zero =>
   simp only [List.getElem?_cons_zero, Option.some.injEq] at e1 e2
   subst e1; subst e2
   exact ((zputAll rs os (h.put (.im k) .dead) hn2 hx').2.1 _ hn1).trans qKM
  | succ i =>
   simp only [List.getElem?_cons_succ] at e1 e2
   exact qDR rs os (h.put (.im k) o) hn2 hx' (fun s hs => him s (by simp [hs])) i s e1 e2
theorem qEo {h : Heap} {l : List AObj} {i : Nat} (hi : i < h.ims.length) : (Heap.mk (h.ims ++ l) h.owns).get (.im i) = h.get (.im i) := by
 show (match (h.ims ++ l)[i]? with | some .dead => none | o => o) = (match h.ims[i]? with | some .dead => none | o => o)
 rw [List.getElem?_append_left hi]
where
 mapM_get' {h : Heap} {ρ : List Ref} {C : List AObj} (A : At h ρ C) : ∀ r ∈ ρ, ∃ x, h.get r = some x := by
  intro r hr
  obtain ⟨k, hk, e⟩ := List.getElem_of_mem hr
  have hkC : k < C.length := by rw [← A.len]; exact hk
  exact ⟨_, A.get k r C[k] (by rw [← e]; exact List.getElem?_eq_getElem hk) (List.getElem?_eq_getElem hkC)⟩
structure StarAt (h : Heap) (r : Nat) (root : AObj) (leaves : List AObj) (n : Nat) : Prop where
 at' : ∃ ρ, At h ρ (root :: leaves) ∧ ρ[0]? = some (.im r) ∧ ∀ x ∈ ρ, ∃ i, x = .im i
 leafy : r = 0 → Leafy h n
 few : n ≤ h.ims.length
theorem StarAt.own {h : Heap} {r : Nat} {root : AObj} {leaves : List AObj} {n : Nat} (X : StarAt h r root leaves n) (d g : Nat) (o : AObj) : StarAt (h.own d g o) r root leaves n := by
 obtain ⟨ρ, A, e0, him⟩ := X.at'
 refine ⟨⟨ρ, ⟨A.nodup, A.len, fun i x q e1 e2 => ?_⟩, e0, him⟩, X.leafy, X.few⟩
 obtain ⟨j, rfl⟩ := him x (List.mem_of_getElem? e1)
 exact A.get i _ q e1 e2
theorem StarAt.of {h h' : Heap} {r : Nat} {root : AObj} {leaves : List AObj} {n : Nat} (X : StarAt h r root leaves n) (I : ∀ i, h'.get (.im i) = h.get (.im i)) (hl : n ≤ h'.ims.length) : StarAt h' r root leaves n := by
 obtain ⟨ρ, A, e0, him⟩ := X.at'
 refine ⟨⟨ρ, ⟨A.nodup, A.len, fun i x q e1 e2 => ?_⟩, e0, him⟩, fun e j h0 hj o ho => X.leafy e j h0 hj o (by rw [← I]; exact ho), hl⟩
 obtain ⟨j, rfl⟩ := him x (List.mem_of_getElem? e1)
 rw [I]; exact A.get i _ q e1 e2
section
variable {β : Type} {O : Oracle} {h : Heap} {d : Nat} {k : TVal → Heap → Option β}
end
theorem qKz {O : Oracle} {g : FuncId} {az : List TVal} {v : TVal} {C : List AObj} (ha : allB pT az = true) (hc : O g az [] = some (v, C)) (K : Closed C) (h : Heap) :
  ∃ h', (∀ {β : Type} (d : Nat) (k : TVal → Heap → Option β), vcall O (.v (.c (.func g []))) az h d k = k (v.ren (back [] C.length (newRef h.ims.length))) h') ∧
   At h' ((List.range C.length).map fun i => Ref.im (h.ims.length + i)) C ∧ (∀ r o, h.get r = some o → h'.get r = some o) ∧ (∀ d, h'.gen d = h.gen d) ∧ h'.ims.length = h.ims.length + C.length := by
 obtain ⟨a1, a2, a3⟩ := qC2 ha
 obtain ⟨h', c1, B⟩ := qL7 (h := h) g az az az [] [] [] C v _ a1 (by rw [a2]; rfl) rfl (a3 _) rfl hc (Nat.zero_le _) List.nodup_nil rfl
 refine ⟨h', fun d k => c1 d k, ⟨?_, by simp, fun i r o e1 e2 => ?_⟩, fun r o ho => B.old r o (by simp) ho, B.gen, by rw [B.len]; rfl⟩
 ·refine List.pairwise_map.2 (List.nodup_range.imp ?_)
  intro a b hab e
  simp at e; exact hab e
 ·have hi : i < C.length := (List.getElem?_eq_some_iff.1 e2).1
  rw [List.getElem?_map, List.getElem?_range hi, Option.map_some, Option.some.injEq] at e1
  subst e1
  have hd := (K o (List.mem_of_getElem? e2)).1
  have hren : o.ren (back [] C.length (newRef h.ims.length)) = o.ren (outR ((List.range C.length).map fun i => Ref.im (h.ims.length + i))) := by
   have hid : o.ren (fun r => some r) = o := AObj.ren_id o fun r _ => rfl
   rw [← hid]
   have hk := (K o (List.mem_of_getElem? e2)).2
   rw [AObj.ren_ren (υ := outR ((List.range C.length).map fun i => Ref.im (h.ims.length + i))), AObj.ren_ren (υ := outR ((List.range C.length).map fun i => Ref.im (h.ims.length + i)))]
   ·intro r hr
    obtain ⟨j, rfl, hj⟩ := hk r hr
    have : outR ((List.range C.length).map fun i => Ref.im (h.ims.length + i)) (.im j) = some (.im (h.ims.length + j)) := by show _[j]? = _; rw [List.getElem?_map, List.getElem?_range hj]; rfl
    exact ⟨_, _, rfl, this, this⟩
   ·intro r hr
    obtain ⟨j, rfl, hj⟩ := hk r hr
    have : outR ((List.range C.length).map fun i => Ref.im (h.ims.length + i)) (.im j) = some (.im (h.ims.length + j)) := by show _[j]? = _; rw [List.getElem?_map, List.getElem?_range hj]; rfl
    refine ⟨_, _, rfl, ?_, this⟩
    have hb : Nat.blt j C.length = true := by rw [Nat.blt_eq]; exact hj
    simp only [back, List.getElem?_nil, hb, cond_true, newRef, List.length_nil, Nat.sub_zero]
  have := B.new i (o.ren (back [] C.length (newRef h.ims.length))) (by
   rw [List.length_nil, Nat.zero_add, List.getElem?_map, e2]; rfl) (by cases o <;> simp [AObj.ren] at hd ⊢)
  rw [this, hren]
theorem qCq {h : Heap} : ∀ (n : Nat) (todo seen : List Ref), (∀ r ∈ todo, r ∈ seen) → reach h n todo seen = seen
 | 0, todo, seen, _ => by cases todo <;> rfl
 | n + 1, [], seen, _ => rfl
 | n + 1, r :: todo, seen, h1 => by
  rw [qEA n r todo seen (h1 r (by simp))]
  exact qCq n todo seen fun x hx => h1 x (by simp [hx])
theorem qNF {h : Heap} {C : List AObj} (K : Closed C) (hi : HI h C) (frz : Bool) (vs : List Comp) (v : TVal) (hv : pT v = true) (e1 : (if frz then freezeT h (oneOf vs) else some (oneOf vs, [])) = some (v, [])) : vfin frz C.length vs h = some (v, C) := by
 letI : Sym := ⟨fun _ => 0⟩
 obtain ⟨q1, q2, q3, q4⟩ := qAQ hv
 have hall : ∀ r ∈ ((ims C.length).flatMap fun r => match h.get r with | some o => o.refs | none => []), r ∈ ims C.length := by
  intro r hr
  obtain ⟨x, hx, hr⟩ := List.mem_flatMap.1 hr
  cases hg : h.get x with
  | none => rw [hg] at hr; cases hr
  | some o =>
   rw [hg] at hr
   unfold ims at hx
   obtain ⟨i, hi', rfl⟩ := List.mem_map.1 hx
   have hil : i < C.length := by simpa using hi'
   have ho := hi i _ (List.getElem?_eq_getElem hil)
   rw [hg] at ho
   obtain ⟨j, rfl, hj⟩ := (K _ (List.getElem_mem hil)).2 r (by cases ho; exact hr)
   rw [qER]; exact hj
 have hreach : reach h fuelReach (((ims C.length).flatMap fun r => match h.get r with | some o => o.refs | none => []) ++ v.refs) (ims C.length) = ims C.length := by
  rw [q1, List.append_nil]; exact qCq _ _ _ hall
 rw [qBe]
 unfold finV
 simp only [e1, settle, q3]
 refine (congrArg (fun F : List Ref => some (v, F.map fun r => match h.get r with | some o => o.ren (inn F) | none => AObj.dead)) hreach).trans ?_
 refine congrArg (fun l => some (v, l)) ?_
 refine List.ext_getElem? fun i => ?_
 rw [List.getElem?_map]
 by_cases hil : i < C.length
 ·rw [qBh hil, Option.map_some, List.getElem?_eq_getElem hil, hi i _ (List.getElem?_eq_getElem hil)]
  dsimp only
  rw [AObj.ren_id]
  intro r hr
  obtain ⟨j, rfl, hj⟩ := (K _ (List.getElem_mem hil)).2 r hr
  exact qA0 (qC0 _) (qBh hj)
 ·rw [List.getElem?_eq_none (by unfold ims; simpa using hil), List.getElem?_eq_none (Nat.le_of_not_lt hil)]; rfl
structure GraphAt (h : Heap) (r : Nat) (C : List AObj) (n : Nat) : Prop where
 at' : ∃ ρ, At h ρ C ∧ ρ[0]? = some (.im r) ∧ (∀ x ∈ ρ, ∃ i, x = .im i) ∧ (r = 0 → ∀ j, j < n → .im j ∈ ρ ∨ ∀ o, h.get (.im j) = some o → o.refs = [])
 few : n ≤ h.ims.length
theorem GraphAt.own {h : Heap} {r : Nat} {C : List AObj} {n : Nat} (X : GraphAt h r C n) (d g : Nat) (o : AObj) : GraphAt (h.own d g o) r C n := by
 obtain ⟨ρ, A, e0, him, hr⟩ := X.at'
 refine ⟨⟨ρ, ⟨A.nodup, A.len, fun i x q e1 e2 => ?_⟩, e0, him, hr⟩, X.few⟩
 obtain ⟨j, rfl⟩ := him x (List.mem_of_getElem? e1)
 exact A.get i _ q e1 e2
theorem GraphAt.of {h h' : Heap} {r : Nat} {C : List AObj} {n : Nat} (X : GraphAt h r C n) (I : ∀ i, h'.get (.im i) = h.get (.im i)) (hl : n ≤ h'.ims.length) : GraphAt h' r C n := by
 obtain ⟨ρ, A, e0, him, hr⟩ := X.at'
 refine ⟨⟨ρ, ⟨A.nodup, A.len, fun i x q e1 e2 => ?_⟩, e0, him, fun e j hj => ?_⟩, hl⟩
 ·obtain ⟨j, rfl⟩ := him x (List.mem_of_getElem? e1)
  rw [I]; exact A.get i _ q e1 e2
 ·rcases hr e j hj with h1 | h1
  ·exact .inl h1
  ·exact .inr fun o ho => h1 o (by rw [← I]; exact ho)
def GraphDo (O : Oracle) (g : FuncId) (ps : List TVal) (C : List AObj) (v : TVal) (C' : List AObj) : Prop :=
 ∃ qs ρ', O g (.v (.c (.ptr (.im 0) 0)) :: ps) C = some (v, qs) ∧ C.length ≤ qs.length ∧ At ⟨qs, .nil⟩ ρ' C' ∧ ρ'[0]? = some (.im 0) ∧ (∀ x ∈ ρ', ∃ i, x = .im i) ∧ ∀ j, j < C.length → .im j ∈ ρ' ∨ ∀ o, qs[j]? = some o → o.refs = []
theorem qGj {C : List AObj} (R : Rooted C) (hC : C ≠ []) : GraphAt ⟨C, .nil⟩ 0 C C.length := by
 refine ⟨⟨ims C.length, ⟨qC0 _, by unfold ims; simp, fun i r o e1 e2 => ?_⟩, qBh (by cases C with | nil => exact absurd rfl hC | cons a l => simp), fun x hx => ?_, fun _ j hj => .inl ((qER _ _).2 hj)⟩, Nat.le_refl _⟩
 ·have hi := (List.getElem?_eq_some_iff.1 e2).1
  rw [qBh hi] at e1
  cases e1
  have hK := R.1 o (List.mem_of_getElem? e2)
  rw [AObj.ren_id o (fun r hr => by
   obtain ⟨k, rfl, hk⟩ := hK.2 r hr
   show (ims C.length)[k]? = some (.im k)
   exact qBh hk)]
  exact Heap.get_im_of e2 hK.1
 ·unfold ims at hx
  obtain ⟨i, _, rfl⟩ := List.mem_map.1 hx
  exact ⟨i, rfl⟩
theorem qHV {O : Oracle} {g : FuncId} {ps : List TVal} {C C' : List AObj} {v : TVal} (M : GraphDo O g ps C v C') (R : Rooted C) (K' : Closed C') (hC : 0 < C.length) (hp : allB pT ps = true) (hv : pT v = true) {h : Heap} {r n : Nat} (X : GraphAt h r C n) :
  ∃ h' t, (∀ {β : Type} (d : Nat) (k : TVal → Heap → Option β), vcall O (.v (.c (.func g []))) (.v (.c (.ptr (.im r) 0)) :: ps) h d k = k v h') ∧
   (∀ {β : Type} (d : Nat) (kt : TVal → Heap → Touch → Option β), vtouch O (.call (.k (.v (.c (.func g [])))) (.k (.v (.c (.ptr (.im r) 0))) :: ps.map .k)) h d kt = kt v h' t) ∧
   GraphAt h' r C' n ∧ (∀ d g o, h.get (.own d g) = some o → h'.get (.own d g) = some o) ∧ (∀ d, h'.gen d = h.gen d) := by
 obtain ⟨ρ, A, e0, him, hrest⟩ := X.at'
 obtain ⟨qs, ρ', hc, hl, A', e0', him', hq⟩ := M
 obtain ⟨a1, a2, a3⟩ := qCb e0 A.nodup hp
 obtain ⟨_, _, q3, _⟩ := qAQ hv
 have er : Ref.im r = outF ρ (.im 0) := by
  have := (qAM (ρ := ρ) (i := 0) (by rw [A.len]; exact hC)).2
  rw [e0] at this
  exact Option.some.inj this
 have er2 : reach h fuelReach ((TVal.v (.c (.ptr (.im r) 0)) :: ps).flatMap TVal.refs) [] = ρ := by
  rw [a2, er]
  have := qBG A R.1 fuelReach [.im 0] [] (fun r hr => ⟨0, List.mem_singleton.1 hr, hC⟩) (fun r hr => by cases hr)
  simp only [List.map_cons, List.map_nil] at this
  rw [this, R.2, ← A.len, qB9]
 have e5 : (C.map (AObj.ren (outR ρ))).map (AObj.ren (inn ρ)) = C := by
  rw [List.map_map]
  refine (List.map_congr_left fun o ho => ?_).trans (List.map_id _)
  simp only [Function.comp, id]
  have := (R.1 o ho).2
  rw [AObj.ren_ren (υ := fun r => some r) o (fun r hr => by
   obtain ⟨i, rfl, hi⟩ := this r hr
   have hi' := qAM (ρ := ρ) (i := i) (by rw [A.len]; exact hi)
   exact ⟨_, _, hi'.1, qA0 A.nodup hi'.2, rfl⟩)]
  exact AObj.ren_id o fun r _ => rfl
 have hl' : ρ.length ≤ qs.length := by rw [A.len]; exact hl
 have hca : ∀ d, callOp O g (.v (.c (.ptr (.im r) 0)) :: ps) d h = some (v, hAfter h ρ qs, gTouch h (.v (.c (.ptr (.im r) 0)) :: ps) (C.map (AObj.ren (outR ρ))) ρ qs) := fun d => by
  have := qBc (d := d) g _ _ _ ρ (C.map (AObj.ren (outR ρ))) C qs v a1 er2 A.mapM a3 e5 hc hl'
  rw [this, q3]
 have B : Behind h ρ qs (hAfter h ρ qs) := behind A.nodup A.mapM hl'
 obtain ⟨A2, _⟩ := qGu A hl B A' K'
 refine ⟨hAfter h ρ qs, _, fun d k => ?_, fun d kt => qA1 g _ v _ _ (hca d) kt, ⟨⟨ρ'.map (backF h ρ), A2, ?_, ?_, fun er0 j hj => ?_⟩, ?_⟩, fun d g o ho => B.old _ o (fun hm => ?_) ho, B.gen⟩
 ·show callF O g (.v (.c (.ptr (.im r) 0)) :: ps) d h k = _
  rw [qAz, hca d]; rfl
 ·rw [List.getElem?_map, e0', Option.map_some]
  show some (backF h ρ (.im 0)) = some (.im r)
  simp only [backF, e0]
 ·intro x hx
  obtain ⟨s, hs, rfl⟩ := List.mem_map.1 hx
  obtain ⟨i, rfl⟩ := him' s hs
  simp only [backF]
  cases hi : ρ[i]? with
  | some q => exact him q (List.mem_of_getElem? hi)
  | none => exact ⟨_, rfl⟩
 ·have hx : ∀ r ∈ ρ, ∃ x, h.get r = some x := by
   intro r hr
   obtain ⟨k, hk, e⟩ := List.getElem_of_mem hr
   have hkC : k < C.length := by rw [← A.len]; exact hk
   exact ⟨_, A.get k r C[k] (by rw [← e]; exact List.getElem?_eq_getElem hk) (List.getElem?_eq_getElem hkC)⟩
  have few := X.few
  rw [qC9]
  generalize hps : qs.map (AObj.ren (back ρ qs.length (newRef h.ims.length))) = ps'
  obtain ⟨i1, i2, i3, i4⟩ := zputAll ρ (ps'.take ρ.length) h A.nodup hx
  have i5 := qDR ρ (ps'.take ρ.length) h A.nodup hx him
  by_cases hm : Ref.im j ∈ ρ
  ·obtain ⟨i, hi, e⟩ := List.getElem_of_mem hm
   have e1 : ρ[i]? = some (.im j) := by rw [← e]; exact List.getElem?_eq_getElem hi
   have hiC : i < C.length := by rw [← A.len]; exact hi
   rcases hq i hiC with h1 | h1
   ·left
    refine List.mem_map.2 ⟨.im i, h1, ?_⟩
    simp only [backF, e1]
   ·right
    intro o ho
    rw [qEo (by rw [i3]; omega)] at ho
    have hiq : i < qs.length := by omega
    have q1 : qs[i]? = some qs[i] := List.getElem?_eq_getElem hiq
    have q2 := h1 _ q1
    have q3 : (ps'.take ρ.length)[i]? = some (qs[i].ren (back ρ qs.length (newRef h.ims.length))) := by
     rw [List.getElem?_take, if_pos hi, ← hps, List.getElem?_map, q1]; rfl
    have q4 : qs[i].ren (back ρ qs.length (newRef h.ims.length)) = qs[i] := AObj.ren_id _ fun r hr => by rw [q2] at hr; cases hr
    rw [q4] at q3
    by_cases hd : qs[i] = .dead
    ·rw [hd] at q3
     rw [i5 i _ e1 q3] at ho; cases ho
    ·rw [i1 i _ _ e1 q3 hd] at ho
     cases ho; exact q2
  ·right
   intro o ho
   rw [qEo (by rw [i3]; omega), i2 _ hm] at ho
   rcases hrest er0 j hj with h1 | h1
   ·exact absurd h1 hm
   ·exact h1 o ho
 ·rw [B.len]; have := X.few; omega
 ·obtain ⟨i, e⟩ := him _ hm; cases e
theorem qCc {h : Heap} {F : List Ref} (hF : ∀ r ∈ F, ∀ o, h.get r = some o → ∀ s ∈ o.refs, s ∈ F) : ∀ (n : Nat) (todo seen : List Ref), (∀ r ∈ todo, r ∈ F) → (∀ r ∈ seen, r ∈ F) → ∀ r ∈ reach h n todo seen, r ∈ F
 | 0, todo, seen, _, hs => by
  intro r hr
  have : reach h 0 todo seen = seen := by cases todo <;> rfl
  rw [this] at hr; exact hs r hr
 | n + 1, [], seen, _, hs => by
  intro r hr
  rw [qE3] at hr; exact hs r hr
 | n + 1, x :: todo, seen, ht, hs => by
  unfold reach
  cases hc : seen.contains x with
  | true => rw [cond_true]; exact qCc hF n todo seen (fun r hr => ht r (List.mem_cons_of_mem _ hr)) hs
  | false =>
   rw [cond_false]
   cases hg : h.get x with
   | none => exact qCc hF n todo seen (fun r hr => ht r (List.mem_cons_of_mem _ hr)) hs
   | some o =>
    have hx := ht x (List.mem_cons_self ..)
    refine qCc hF n (o.refs ++ todo) (seen ++ [x]) (fun r hr => ?_) (fun r hr => ?_)
    ·rcases List.mem_append.1 hr with h1 | h1
     ·exact hF x hx o hg r h1
     ·exact ht r (List.mem_cons_of_mem _ h1)
    ·rcases List.mem_append.1 hr with h1 | h1
     ·exact hs r h1
     ·rw [List.mem_singleton.1 h1]; exact hx
noncomputable def wtR (h : Heap) (seen : List Ref) : List Ref → Nat
 | [] => 0
 | r :: l => (if r ∈ seen then 0 else match h.get r with | some o => o.refs.length | none => 0) + wtR h seen l
theorem qJL (h : Heap) (seen : List Ref) (m : Nat) : ∀ l : List Ref, (∀ r ∈ l, ∀ o, h.get r = some o → o.refs.length ≤ m) → wtR h seen l ≤ l.length * m
 | [], _ => Nat.zero_le _
 | r :: l, hm => by
  have ih := qJL h seen m l (fun x hx => hm x (List.mem_cons_of_mem _ hx))
  have h1 : (if r ∈ seen then 0 else match h.get r with | some o => o.refs.length | none => 0) ≤ m := by
   split
   ·exact Nat.zero_le _
   ·cases hg : h.get r with
    | none => exact Nat.zero_le _
    | some o => exact hm r (List.mem_cons_self ..) o hg
  simp only [wtR, List.length_cons, Nat.succ_mul]
  omega
theorem qFk (h : Heap) (seen : List Ref) (x : Ref) (hx : x ∉ seen) (o : AObj) (hg : h.get x = some o) : ∀ l : List Ref, wtR h (seen ++ [x]) l + (if x ∈ l then o.refs.length else 0) ≤ wtR h seen l
 | [] => by simp [wtR]
 | r :: l => by
  have ih := qFk h seen x hx o hg l
  simp only [wtR]
  by_cases e : r = x
  ·subst e
   rw [if_pos (by simp), if_neg hx, hg, if_pos (List.mem_cons_self ..)]
   dsimp only
   by_cases hl : r ∈ l
   ·rw [if_pos hl] at ih; omega
   ·rw [if_neg hl] at ih; omega
  ·have e1 : (x ∈ r :: l) ↔ x ∈ l := by simp [Ne.symm e]
   by_cases hs : r ∈ seen
   ·rw [if_pos (by simp [hs]), if_pos hs]
    by_cases hl : x ∈ l
    ·rw [if_pos (e1.2 hl)]; rw [if_pos hl] at ih; omega
    ·rw [if_neg (fun h => hl (e1.1 h))]; rw [if_neg hl] at ih; omega
   ·rw [if_neg (by simp [hs, e]), if_neg hs]
    by_cases hl : x ∈ l
    ·rw [if_pos (e1.2 hl)]; rw [if_pos hl] at ih; omega
    ·rw [if_neg (fun h => hl (e1.1 h))]; rw [if_neg hl] at ih; omega
theorem qB7 {h : Heap} {ρ : List Ref} (hρ : ∀ r ∈ ρ, ∃ o, h.get r = some o ∧ ∀ s ∈ o.refs, s ∈ ρ) :
  ∀ (n : Nat) (todo seen : List Ref), todo.length + wtR h seen ρ ≤ n → (∀ r ∈ todo, r ∈ ρ) → (∀ r ∈ seen, r ∈ ρ → ∀ o, h.get r = some o → ∀ s ∈ o.refs, s ∈ seen ∨ s ∈ todo) → seen.Nodup →
   ∃ l, reach h n todo seen = seen ++ l ∧ (seen ++ l).Nodup ∧ (∀ r ∈ l, r ∈ ρ) ∧ (∀ r ∈ todo, r ∈ seen ++ l) ∧ ∀ r ∈ seen ++ l, r ∈ ρ → ∀ o, h.get r = some o → ∀ s ∈ o.refs, s ∈ seen ++ l
 | 0, todo, seen, hn, ht, hs, nd => by
  have : todo = [] := List.eq_nil_of_length_eq_zero (by omega)
  subst this
  refine ⟨[], by rw [List.append_nil]; rfl, by simpa using nd, fun r hr => (by cases hr), fun r hr => (by cases hr), ?_⟩
  intro r hr hm o ho s hso
  rw [List.append_nil] at hr ⊢
  rcases hs r hr hm o ho s hso with h1 | h1
  ·exact h1
  ·cases h1
 | n + 1, [], seen, hn, ht, hs, nd => by
  refine ⟨[], by rw [List.append_nil, qE3], by simpa using nd, fun r hr => (by cases hr), fun r hr => (by cases hr), ?_⟩
  intro r hr hm o ho s hso
  rw [List.append_nil] at hr ⊢
  rcases hs r hr hm o ho s hso with h1 | h1
  ·exact h1
  ·cases h1
 | n + 1, x :: todo, seen, hn, ht, hs, nd => by
  by_cases hc : x ∈ seen
  ·rw [qEA n x todo seen hc]
   obtain ⟨l, e1, e2, e3, e4, e5⟩ := qB7 hρ n todo seen (by simp at hn; omega) (fun r hr => ht r (List.mem_cons_of_mem _ hr)) (fun r hr hm o ho s hso => by
    rcases hs r hr hm o ho s hso with h1 | h1
    ·exact .inl h1
    ·rcases List.mem_cons.1 h1 with h2 | h2
     ·exact .inl (by rw [h2]; exact hc)
     ·exact .inr h2) nd
   refine ⟨l, e1, e2, e3, fun r hr => ?_, e5⟩
   rcases List.mem_cons.1 hr with h1 | h1
   ·rw [h1]; exact List.mem_append_left _ hc
   ·exact e4 r h1
  ·obtain ⟨o, ho, hso⟩ := hρ x (ht x (List.mem_cons_self ..))
   rw [qIK n x todo seen o hc ho]
   have w := qFk h seen x hc o ho ρ
   rw [if_pos (ht x (List.mem_cons_self ..))] at w
   obtain ⟨l, e1, e2, e3, e4, e5⟩ := qB7 hρ n (o.refs ++ todo) (seen ++ [x]) (by simp at hn ⊢; omega) (fun r hr => by
    rcases List.mem_append.1 hr with h1 | h1
    ·exact hso r h1
    ·exact ht r (List.mem_cons_of_mem _ h1)) (fun r hr hm p hp s hsp => by
    rcases List.mem_append.1 hr with h1 | h1
    ·rcases hs r h1 hm p hp s hsp with h2 | h2
     ·exact .inl (List.mem_append_left _ h2)
     ·rcases List.mem_cons.1 h2 with h3 | h3
      ·exact .inl (List.mem_append_right _ (by rw [h3]; exact List.mem_singleton.2 rfl))
      ·exact .inr (List.mem_append_right _ h3)
    ·rw [List.mem_singleton.1 h1, ho] at hp
     cases hp
     exact .inr (List.mem_append_left _ hsp)) (by
    rw [List.nodup_append]
    exact ⟨nd, by simp, fun a ha b hb e => hc (by rw [List.mem_singleton] at hb; rw [← hb, ← e]; exact ha)⟩)
   refine ⟨x :: l, by rw [e1, List.append_assoc]; rfl, by rw [List.append_assoc] at e2; exact e2, fun r hr => ?_, fun r hr => ?_, ?_⟩
   ·rcases List.mem_cons.1 hr with h1 | h1
    ·rw [h1]; exact ht x (List.mem_cons_self ..)
    ·exact e3 r h1
   ·rw [show seen ++ x :: l = seen ++ [x] ++ l by simp]
    rcases List.mem_cons.1 hr with h1 | h1
    ·rw [h1]; simp
    ·exact e4 r (List.mem_append_right _ h1)
   ·rw [show seen ++ x :: l = seen ++ [x] ++ l by simp]
    exact e5
theorem qDV {h : Heap} {ρ : List Ref} {C : List AObj} {n : Nat} (A : At h ρ C) (R : Rooted C) (e0 : ρ[0]? = some (.im 0)) (hn : 0 < n) (hrest : ∀ j, j < n → .im j ∈ ρ ∨ ∀ o, h.get (.im j) = some o → o.refs = [])
  (m : Nat) (hm : ∀ o ∈ C, o.refs.length ≤ m) (hf : n * m + C.length * m ≤ 400) (frz : Bool) (vs : List Comp) (v : TVal) (hv : pT v = true) (e1 : (if frz then freezeT h (oneOf vs) else some (oneOf vs, [])) = some (v, [])) :
  ∃ qs ρ', vfin frz n vs h = some (v, qs) ∧ n ≤ qs.length ∧ At ⟨qs, .nil⟩ ρ' C ∧ ρ'[0]? = some (.im 0) ∧ (∀ x ∈ ρ', ∃ i, x = .im i) ∧ ∀ j, j < n → .im j ∈ ρ' ∨ ∀ o, qs[j]? = some o → o.refs = [] := by
 letI : Sym := ⟨fun _ => 0⟩
 obtain ⟨q1, q2, q3, q4⟩ := qAQ hv
 have hC : 0 < C.length := by rw [← A.len]; exact (List.getElem?_eq_some_iff.1 e0).1
 have hρ : ∀ r ∈ ρ, ∃ o, h.get r = some o ∧ (∀ s ∈ o.refs, s ∈ ρ) ∧ o.refs.length ≤ m := by
  intro r hr
  obtain ⟨k, hk, e⟩ := List.getElem_of_mem hr
  have hkC : k < C.length := by rw [← A.len]; exact hk
  have hg := A.get k r C[k] (by rw [← e]; exact List.getElem?_eq_getElem hk) (List.getElem?_eq_getElem hkC)
  have hK := (R.1 C[k] (List.getElem_mem hkC)).2
  have hr' : (C[k].ren (outR ρ)).refs = C[k].refs.map (outF ρ) := AObj.refs_ren _ (fun s hs => by
   obtain ⟨j, rfl, hj⟩ := hK s hs
   exact (qAM (by rw [A.len]; exact hj)).1)
  refine ⟨_, hg, fun s hs => ?_, ?_⟩
  ·rw [hr'] at hs
   obtain ⟨x, hx, rfl⟩ := List.mem_map.1 hs
   obtain ⟨j, rfl, hj⟩ := hK x hx
   exact List.mem_of_getElem? (qAM (ρ := ρ) (by rw [A.len]; exact hj)).2
  ·rw [hr', List.length_map]; exact hm _ (List.getElem_mem hkC)
 generalize htd : ((ims n).flatMap fun r => match h.get r with | some o => o.refs | none => []) = todo
 have htm : ∀ r ∈ ims n, ∀ o, h.get r = some o → (∀ s ∈ o.refs, s ∈ ρ) ∧ o.refs.length ≤ m := by
  intro r hr o ho
  unfold ims at hr
  obtain ⟨j, hj, rfl⟩ := List.mem_map.1 hr
  rcases hrest j (by simpa using hj) with h1 | h1
  ·obtain ⟨p, hp, hs, hl⟩ := hρ _ h1
   rw [ho] at hp; cases hp
   exact ⟨hs, hl⟩
  ·rw [h1 o ho]; exact ⟨fun s hs => (by cases hs), Nat.zero_le _⟩
 have ht : ∀ r ∈ todo, r ∈ ρ := by
  intro r hr
  rw [← htd] at hr
  obtain ⟨x, hx, hr⟩ := List.mem_flatMap.1 hr
  cases hg : h.get x with
  | none => rw [hg] at hr; cases hr
  | some o => rw [hg] at hr; exact (htm x hx o hg).1 r hr
 have hlen : todo.length ≤ n * m := by
  rw [← htd]
  have : ∀ l : List Ref, (∀ r ∈ l, ∀ o, h.get r = some o → o.refs.length ≤ m) → (l.flatMap fun r => match h.get r with | some o => o.refs | none => []).length ≤ l.length * m := by
   intro l
   induction l with
   | nil => intro _; exact Nat.zero_le _
   | cons a l ih =>
    intro hh
    have := ih fun r hr => hh r (List.mem_cons_of_mem _ hr)
    rw [List.flatMap_cons, List.length_append, List.length_cons, Nat.succ_mul]
    have h2 : (match h.get a with | some o => o.refs | none => ([] : List Ref)).length ≤ m := by
     cases hg : h.get a with
     | none => exact Nat.zero_le _
     | some o => exact hh a (List.mem_cons_self ..) o hg
    omega
  have h2 := this (ims n) fun r hr o ho => (htm r hr o ho).2
  rwa [show (ims n).length = n by unfold ims; simp] at h2
 have hw : wtR h (ims n) ρ ≤ C.length * m := by
  rw [← A.len]
  refine qJL h (ims n) m ρ fun r hr o ho => ?_
  obtain ⟨p, hp, _, hl⟩ := hρ r hr
  rw [ho] at hp; cases hp
  exact hl
 obtain ⟨l, c1, c2, c3, c4, c5⟩ := qB7 (fun r hr => by obtain ⟨o, a, b, _⟩ := hρ r hr; exact ⟨o, a, b⟩) fuelReach todo (ims n) (by show _ ≤ 400; omega) ht (fun r hr hm' o ho s hs => .inr (htd ▸ List.mem_flatMap.2 ⟨r, hr, by rw [ho]; exact hs⟩)) (qC0 n)
 have hF : ∀ r ∈ ρ, r ∈ ims n ++ l := by
  have hcl : ∀ r ∈ ims n ++ l, ∀ o, h.get r = some o → ∀ s ∈ o.refs, s ∈ ims n ++ l := by
   intro r hr o ho s hs
   by_cases hrm : r ∈ ρ
   ·exact c5 r hr hrm o ho s hs
   ·rcases List.mem_append.1 hr with h1 | h1
    ·exfalso
     unfold ims at h1
     obtain ⟨j, hj, rfl⟩ := List.mem_map.1 h1
     rcases hrest j (by simpa using hj) with h2 | h2
     ·exact hrm h2
     ·rw [h2 o ho] at hs; cases hs
    ·exact absurd (c3 r h1) hrm
  have er : Ref.im 0 = outF ρ (.im 0) := by
   have := (qAM (ρ := ρ) (i := 0) (by rw [A.len]; exact hC)).2
   rw [e0] at this
   exact Option.some.inj this
  have hre := qBG A R.1 fuelReach [.im 0] [] (fun r hr => ⟨0, List.mem_singleton.1 hr, hC⟩) (fun r hr => by cases hr)
  simp only [List.map_cons, List.map_nil] at hre
  rw [R.2, ← A.len, qB9, ← er] at hre
  intro r hr
  rw [← hre] at hr
  exact qCc hcl fuelReach [.im 0] [] (fun x hx => by rw [List.mem_singleton.1 hx]; exact List.mem_append_left _ ((qER _ _).2 hn)) (fun x hx => by cases hx) r hr
 have G := qJb A R.1 hF c2
 refine ⟨_, _, ?_, ?_, G, ?_, ?_, ?_⟩
 ·rw [qBe]
  unfold finV
  simp only [e1, settle, q3]
  have hreach : reach h fuelReach (((ims n).flatMap fun r => match h.get r with | some o => o.refs | none => []) ++ v.refs) (ims n) = ims n ++ l := by rw [htd, q1, List.append_nil, c1]
  exact congrArg (fun F : List Ref => some (v, F.map fun r => match h.get r with | some o => o.ren (inn F) | none => AObj.dead)) hreach
 ·rw [List.length_map, List.length_append]
  show n ≤ (ims n).length + _
  unfold ims; simp
 ·rw [List.getElem?_map, e0, Option.map_some]
  have h0 : (ims n ++ l)[0]? = some (.im 0) := by rw [List.getElem?_append_left (by unfold ims; simpa using hn)]; exact qBh hn
  unfold innF
  rw [qA0 c2 h0]; rfl
 ·intro x hx
  obtain ⟨r, hr', rfl⟩ := List.mem_map.1 hx
  obtain ⟨i, _, h2, _⟩ := qCP (hF r hr')
  exact ⟨i, h2⟩
 ·intro j hj
  have hj' : (ims n ++ l)[j]? = some (.im j) := by rw [List.getElem?_append_left (by unfold ims; simpa using hj)]; exact qBh hj
  rcases hrest j hj with h1 | h1
  ·left
   refine List.mem_map.2 ⟨.im j, h1, ?_⟩
   unfold innF
   rw [qA0 c2 hj']; rfl
  ·right
   intro o ho
   rw [List.getElem?_map, hj', Option.map_some] at ho
   cases hg : h.get (.im j) with
   | none => rw [hg] at ho; rw [← Option.some.inj ho]; rfl
   | some p =>
    rw [hg] at ho
    have hp := h1 p hg
    rw [← Option.some.inj ho]
    show (p.ren _).refs = []
    rw [AObj.ren_id p (fun r hr => by rw [hp] at hr; cases hr)]
    exact hp
theorem qIP {h : Heap} {C : List AObj} {n : Nat} (R : Rooted C) (X : GraphAt h 0 C n) (hn : 0 < n) (m : Nat) (hm : ∀ o ∈ C, o.refs.length ≤ m) (hf : n * m + C.length * m ≤ 400) (frz : Bool) (vs : List Comp) (hv : allB pComp vs = true) :
  ∃ qs ρ', vfin frz n vs h = some (oneOf vs, qs) ∧ n ≤ qs.length ∧ At ⟨qs, .nil⟩ ρ' C ∧ ρ'[0]? = some (.im 0) ∧ (∀ x ∈ ρ', ∃ i, x = .im i) ∧ ∀ j, j < n → .im j ∈ ρ' ∨ ∀ o, qs[j]? = some o → o.refs = [] := by
 obtain ⟨ρ, A, e0, him, hrest⟩ := X.at'
 obtain ⟨q1, q2, q3, q4⟩ := qAQ (qBI hv)
 exact qDV A R e0 hn (hrest rfl) m hm hf frz vs _ (qBI hv) (by cases frz <;> simp [q4])
end Go.AI
set_option maxHeartbeats 4000000
namespace Go.Proofs.YtlkejchbcchecaaGreatDoor.Ab
open Go Go.AI
structure RE where
 steps : Int
 depth : Int
 write : Int
 tree : PVal
def byR (b : UInt8) : List PVal := [.int .u8 (b.toNat : Int)]
abbrev runO (e : RE) (c : Cell) (k : Int) : AObj := .cells [.p (.int .i64 e.steps), .p (.int .i64 e.depth), .p (.int .i64 e.write), .p e.tree, .ptr (.im 1) 0, c, .p (.int .i64 k)] 0
abbrev callsO : AObj := .cells [.mref (.im 2), .mref (.im 3)] 0
abbrev mapO : AObj := .map [] 0
abbrev tokO : AObj := .cells [] 0
abbrev outT (out : List UInt8) (t : Ref) : Cell := .tsl 1 (out.map byR) t
def cg (e : RE) (out : List UInt8) (k : Int) : List AObj := match out with
 | [] => [runO e (.p .nilslice) k, callsO, mapO, mapO]
 | b :: l => [runO e (outT (b :: l) (.im 4)) k, callsO, mapO, mapO, tokO]
theorem qAf (e : RE) (out : List UInt8) (k : Int) : Rooted (cg e out k) := by
 cases out with
 | nil =>
  refine ⟨fun o ho => ?_, rfl⟩
  simp only [cg, List.mem_cons, List.not_mem_nil, or_false] at ho
  rcases ho with rfl | rfl | rfl | rfl
  ·exact ⟨fun e => (by cases e), fun r hr => ⟨1, by simpa [AObj.refs, Cell.refs] using hr, by simp [cg]⟩⟩
  ·exact ⟨fun e => (by cases e), fun r hr => by
    have : r = .im 2 ∨ r = .im 3 := by simpa [AObj.refs, Cell.refs] using hr
    rcases this with rfl | rfl
    ·exact ⟨2, rfl, by simp [cg]⟩
    ·exact ⟨3, rfl, by simp [cg]⟩⟩
  ·exact ⟨fun e => (by cases e), fun r hr => by simp [AObj.refs] at hr⟩
  ·exact ⟨fun e => (by cases e), fun r hr => by simp [AObj.refs] at hr⟩
 | cons b l =>
  refine ⟨fun o ho => ?_, rfl⟩
  simp only [cg, List.mem_cons, List.not_mem_nil, or_false] at ho
  rcases ho with rfl | rfl | rfl | rfl | rfl
  ·exact ⟨fun e => (by cases e), fun r hr => by
    have : r = .im 1 ∨ r = .im 4 := by simpa [AObj.refs, Cell.refs] using hr
    rcases this with rfl | rfl
    ·exact ⟨1, rfl, by simp [cg]⟩
    ·exact ⟨4, rfl, by simp [cg]⟩⟩
  ·exact ⟨fun e => (by cases e), fun r hr => by
    have : r = .im 2 ∨ r = .im 3 := by simpa [AObj.refs, Cell.refs] using hr
    rcases this with rfl | rfl
    ·exact ⟨2, rfl, by simp [cg]⟩
    ·exact ⟨3, rfl, by simp [cg]⟩⟩
  ·exact ⟨fun e => (by cases e), fun r hr => by simp [AObj.refs] at hr⟩
  ·exact ⟨fun e => (by cases e), fun r hr => by simp [AObj.refs] at hr⟩
  ·exact ⟨fun e => (by cases e), fun r hr => by simp [AObj.refs] at hr⟩
theorem qB2 (e : RE) (out : List UInt8) (k : Int) : 0 < (cg e out k).length ∧ (cg e out k).length ≤ 5 ∧ cg e out k ≠ [] := by cases out <;> simp [cg]
theorem qG5 (e : RE) (out : List UInt8) (k : Int) : ∀ o ∈ cg e out k, o.refs.length ≤ 2 := by
 intro o ho
 cases out <;> simp only [cg, List.mem_cons, List.not_mem_nil, or_false] at ho
 ·rcases ho with rfl | rfl | rfl | rfl <;> simp [AObj.refs, Cell.refs]
 ·rcases ho with rfl | rfl | rfl | rfl | rfl <;> simp [AObj.refs, Cell.refs]
abbrev RunAt (h : Heap) (e : RE) (out : List UInt8) (k : Int) (n : Nat) : Prop := GraphAt h 0 (cg e out k) n
def RunDo (g : FuncId) (ps : List TVal) (e : RE) (out : List UInt8) (k : Int) (v : TVal) (out' : List UInt8) (k' : Int) : Prop := GraphDo Om g ps (cg e out k) v (cg e out' k')
theorem qAb {g : FuncId} {ps : List TVal} {e : RE} {out out' : List UInt8} {k k' : Int} {v : TVal} (M : RunDo g ps e out k v out' k') (hp : allB pT ps = true) (hv : pT v = true) {h : Heap} {n : Nat} (X : RunAt h e out k n) :
  ∃ h' t, (∀ {β : Type} (d : Nat) (kk : TVal → Heap → Option β), vcall Om (.v (.c (.func g []))) (kP (.im 0) :: ps) h d kk = kk v h') ∧
   (∀ {β : Type} (d : Nat) (kt : TVal → Heap → AI.Touch → Option β), vtouch Om (.call (.k (.v (.c (.func g [])))) (.k (kP (.im 0)) :: ps.map .k)) h d kt = kt v h' t) ∧
   RunAt h' e out' k' n ∧ (∀ d g o, h.get (.own d g) = some o → h'.get (.own d g) = some o) ∧ (∀ d, h'.gen d = h.gen d) :=
 qHV M (qAf e out k) (qAf e out' k').1 (qB2 e out k).1 hp hv X
theorem qLn {h : Heap} {e : RE} {out out' : List UInt8} {k k' : Int} (X : RunAt h e out' k' (cg e out k).length) (frz : Bool) (vs : List Comp) (hv : allB pComp vs = true) :
  ∃ qs ρ', vfin frz (cg e out k).length vs h = some (oneOf vs, qs) ∧ (cg e out k).length ≤ qs.length ∧ At ⟨qs, .nil⟩ ρ' (cg e out' k') ∧ ρ'[0]? = some (.im 0) ∧ (∀ x ∈ ρ', ∃ i, x = .im i) ∧ ∀ j, j < (cg e out k).length → .im j ∈ ρ' ∨ ∀ o, qs[j]? = some o → o.refs = [] := by
 obtain ⟨p1, p2, p3⟩ := qB2 e out k
 obtain ⟨_, p4, _⟩ := qB2 e out' k'
 exact qIP (qAf e out' k') X p1 2 (qG5 e out' k') (by omega) frz vs hv
theorem qAZ (e : RE) (out : List UInt8) (k : Int) : RunAt ⟨cg e out k, .nil⟩ e out k (cg e out k).length := qGj (qAf e out k) (qB2 e out k).2.2
theorem qAt {g : FuncId} {ps : List TVal} {e : RE} {out out' : List UInt8} {k k' : Int} {v : TVal} (q : Nat) (hq : (cg e out k).length = q) (hS : S g (kP (.im 0) :: ps) (cg e out k) = none)
  (H : ∃ h' frz vs, oneOf vs = v ∧ allB pComp vs = true ∧ RunAt h' e out' k' q ∧ lim tab.get S g q 0 (kP (.im 0) :: ps) ⟨cg e out k, .nil⟩ = vfin frz q vs h') : RunDo g ps e out k v out' k' := by
 subst hq
 obtain ⟨h', frz, vs, rfl, hv, X, e1⟩ := H
 obtain ⟨qs, ρ', f1, f2, f3, f4, f5, f6⟩ := qLn X frz vs hv
 exact ⟨qs, ρ', (qAE hS).trans (e1.trans f1), f2, f3, f4, f5, f6⟩
end Go.Proofs.YtlkejchbcchecaaGreatDoor.Ab
set_option maxHeartbeats 4000000
namespace Go.AI
theorem qNG (s : List UInt8) (rows : List (List PVal)) (hr : rows.length = s.length) (hc : byteCells s = pcells rows.flatten) (ob : Option AObj) : srcCells 1 (.v (.c (.p (.str s)))) ob = srcCells 1 (.v (.c (.p (.slice 1 false rows)))) ob := by
 cases ob with
 | none =>
  show (if 1 = 1 then some (byteCells s, s.length) else none) = (if 1 = 1 then some (pcells rows.flatten, rows.length) else none)
  rw [hc, hr]
 | some o => rfl
section
variable {β : Type} {O : Oracle} {h : Heap} {d : Nat} {kt : TVal → Heap → Touch → Option β}
theorem qFl (s : List UInt8) (rows : List (List PVal)) (hr : rows.length = s.length) (hc : byteCells s = pcells rows.flatten) (by' : Nat) (x : TVal) :
  vtouch O (.append 1 by' false (.k x) (.k (.v (.c (.p (.str s)))))) h d kt = vtouch O (.append 1 by' false (.k x) (.k (.v (.c (.p (.slice 1 false rows)))))) h d kt := by
 have e : plan .nil (.append 1 by' false (.k x) (.k (.v (.c (.p (.str s)))))) = plan .nil (.append 1 by' false (.k x) (.k (.v (.c (.p (.slice 1 false rows)))))) := by
  show some (Plan.go (zipNeeds (dstRef x) none) _) = some (Plan.go (zipNeeds (dstRef x) none) _)
  congr 2
  funext os
  show (splitNeeds (dstRef x) none os).bind (fun p => (srcCells 1 (.v (.c (.p (.str s)))) p.2).bind fun q => _) = (splitNeeds (dstRef x) none os).bind (fun p => (srcCells 1 (.v (.c (.p (.slice 1 false rows)))) p.2).bind fun q => _)
  simp only [qNG s rows hr hc]
 show bnd (plan2 (.append 1 by' false (.k x) (.k (.v (.c (.p (.str s)))))) .nil) (fun p => bnd (p.exec O d h) fun x => kt x.1 x.2.1 x.2.2) = bnd (plan2 (.append 1 by' false (.k x) (.k (.v (.c (.p (.slice 1 false rows)))))) .nil) (fun p => bnd (p.exec O d h) fun x => kt x.1 x.2.1 x.2.2)
 rw [qAT, qAT, e]
theorem qMP {sz by' : Nat} {rows new : List (List PVal)} {j : Nat} (hh : h.get (.im j) = some (.cells [] 0)) (t : Bool) (hn : new ≠ []) (hsz : ∀ r ∈ new, r.length = sz) (hb : (rows.length + new.length) * by' ≤ 1099511627776) :
  vtouch O (.append sz by' false (.k (.v (.c (.tsl sz rows (.im j))))) (.k (.v (.c (.p (.slice sz t new)))))) h d kt = kt (.v (.c (.tsl sz (rows ++ new) (.own d (h.gen d + 1))))) ((h.put (.im j) .dead).own d (h.gen d + 1) (.cells [] 0)) ⟨[.im j], .own d :: [.im j], false⟩ := by
 have hnl : new.length ≠ 0 := by simpa using hn
 have hc : srcCells sz (.v (.c (.p (.slice sz t new)))) none = some (pcells new.flatten, new.length) := by
  show (if sz = sz then _ else none) = _
  rw [if_pos rfl]
 have ea : appendTo sz by' false (.v (.c (.tsl sz rows (.im j)))) (some (.cells [] 0)) (pcells new.flatten) new.length = some ⟨fun r => .v (.c (.tsl sz (rows ++ new) r)), [(.im j, .dead)], some (.cells [] 0), false⟩ := by
  unfold appendTo; rw [if_neg hnl]
  show (if sz = sz then growRow sz by' rows (pcells new.flatten) new.length [(.im j, .dead)] else none) = _
  rw [if_pos rfl]
  unfold growRow
  rw [qBy sz new hsz]
  dsimp only
  rw [if_pos (by omega)]
 have hs : srcRef (.v (.c (.p (.slice sz t new)))) = none := rfl
 refine qCE _ [.im j] (fun os => do let (oa, ob) ← splitNeeds (some (.im j)) none os; let (new, n) ← srcCells sz (.v (.c (.p (.slice sz t new)))) ob; appendTo sz by' false (.v (.c (.tsl sz rows (.im j)))) oa new n) _ _ _ ?_ ?_
 ·show some (Plan.go (zipNeeds (dstRef _) (srcRef (.v (.c (.p (.slice sz t new)))))) _) = _
  rw [hs]; rfl
 ·unfold goOp
  simp only [qBk, hh, Option.map_some, hs, dstRef, splitNeeds, Option.bind_eq_bind, Option.bind_some, hc, ea]
  simp
  exact ⟨rfl, rfl⟩
theorem qLp {sz by' : Nat} {new : List (List PVal)} (t : Bool) (hn : new ≠ []) (hsz : ∀ r ∈ new, r.length = sz) (hb : new.length * by' ≤ 1099511627776) :
  vtouch O (.append sz by' false (.k (.v (.c (.p .nilslice)))) (.k (.v (.c (.p (.slice sz t new)))))) h d kt = kt (.v (.c (.tsl sz new (.own d (h.gen d + 1))))) (h.own d (h.gen d + 1) (.cells [] 0)) ⟨[], [.own d], false⟩ := by
 have hnl : new.length ≠ 0 := by simpa using hn
 have hc : srcCells sz (.v (.c (.p (.slice sz t new)))) none = some (pcells new.flatten, new.length) := by
  show (if sz = sz then _ else none) = _
  rw [if_pos rfl]
 have ea : appendTo sz by' false kNil none (pcells new.flatten) new.length = some ⟨fun r => .v (.c (.tsl sz ([] ++ new) r)), [], some (.cells [] 0), false⟩ := by
  unfold appendTo; rw [if_neg hnl]
  show growRow sz by' [] (pcells new.flatten) new.length [] = _
  unfold growRow
  rw [qBy sz new hsz]
  dsimp only
  rw [if_pos (by simp; omega)]
 have hs : srcRef (.v (.c (.p (.slice sz t new)))) = none := rfl
 refine qCE _ [] (fun os => do let (oa, ob) ← splitNeeds none none os; let (new, n) ← srcCells sz (.v (.c (.p (.slice sz t new)))) ob; appendTo sz by' false kNil oa new n) _ _ _ rfl ?_
 unfold goOp
 simp only [List.mapM_nil, Option.pure_def, hs, dstRef, splitNeeds, Option.bind_eq_bind, Option.bind_some, hc, ea]
 simp
 rfl
end
end Go.AI
namespace Go.Proofs.YtlkejchbcchecaaGreatDoor.Ab
open Go Go.AI
theorem qB0 (s : List UInt8) : (s.map byR).length = s.length := List.length_map _
theorem qEf (s : List UInt8) : byteCells s = pcells (s.map byR).flatten := by
 induction s with
 | nil => rfl
 | cons b s ih => rw [List.map_cons, List.flatten_cons]; show _ :: byteCells s = _; rw [ih]; rfl
theorem qG6 (s : List UInt8) : ∀ r ∈ s.map byR, r.length = 1 := fun r hr => by obtain ⟨a, _, rfl⟩ := List.mem_map.1 hr; rfl
theorem qHJ {g : FuncId} {ps : List TVal} {e : RE} {out out' : List UInt8} {k k' : Int} {v : TVal} (q : Nat) (hq : (cg e out k).length = q) (hS : S g (kP (.im 0) :: ps) (cg e out k) = none)
  (H : ∃ h' frz vs ρ, oneOf vs = v ∧ allB pComp vs = true ∧ At h' ρ (cg e out' k') ∧ ρ[0]? = some (.im 0) ∧ (∀ j, j < q → .im j ∈ ρ ∨ ∀ o, h'.get (.im j) = some o → o.refs = []) ∧ lim tab.get S g q 0 (kP (.im 0) :: ps) ⟨cg e out k, .nil⟩ = vfin frz q vs h') : RunDo g ps e out k v out' k' := by
 subst hq
 obtain ⟨h', frz, vs, ρ, rfl, hv, A, e0, hr, e1⟩ := H
 obtain ⟨p1, p2, p3⟩ := qB2 e out k
 obtain ⟨_, p4, _⟩ := qB2 e out' k'
 obtain ⟨q1, q2, q3, q4⟩ := qAQ (qBI hv)
 obtain ⟨qs, ρ', f1, f2, f3, f4, f5, f6⟩ := qDV A (qAf e out' k') e0 p1 hr 2 (qG5 e out' k') (by omega) frz vs _ (qBI hv) (by cases frz <;> simp [q4])
 exact ⟨qs, ρ', (qAE hS).trans (e1.trans f1), f2, f3, f4, f5, f6⟩
theorem qBZ (e : RE) (out : List UInt8) (k : Int) (h0 : 0 ≤ k) (hk : k < e.steps) (hs : e.steps ≤ 1000000) : RunDo 36 [] e out k (kI 0) out (k + 1) := by
 have w : IntKind.i64.wrap (k + 1) = k + 1 := qAF _ (by omega) (by omega)
 cases out with
 | nil =>
  refine qAt 4 rfl rfl ⟨⟨cg e [] (k + 1), .nil⟩, true, [.c (.p (.int .i64 0))], rfl, rfl, qAZ e [] (k + 1), ?_⟩
  show lim tab.get S 36 4 0 [kP (.im 0)] ⟨[runO e (.p .nilslice) k, callsO, mapO, mapO], .nil⟩ = vfin true 4 _ ⟨[runO e (.p .nilslice) (k + 1), callsO, mapO, mapO], .nil⟩
  rw [w36_0, b36_0]
  simp (maxSteps := 9999999) +contextual only [exa, ne_eq, not_false_eq_true, reduceAdd, reduceMul, reduceLT, reduceLeDiff, reduceEqDiff, Int.reduceLT, Int.reduceLE, Int.reduceEq, Int.reduceToNat, hk, w, decide_true, Bool.not_true]
  rfl
 | cons b l =>
  refine qAt 5 rfl rfl ⟨⟨cg e (b :: l) (k + 1), .nil⟩, true, [.c (.p (.int .i64 0))], rfl, rfl, qAZ e (b :: l) (k + 1), ?_⟩
  show lim tab.get S 36 5 0 [kP (.im 0)] ⟨[runO e (outT (b :: l) (.im 4)) k, callsO, mapO, mapO, tokO], .nil⟩ = vfin true 5 _ ⟨[runO e (outT (b :: l) (.im 4)) (k + 1), callsO, mapO, mapO, tokO], .nil⟩
  rw [w36_0, b36_0]
  simp (maxSteps := 9999999) +contextual only [exa, ne_eq, not_false_eq_true, reduceAdd, reduceMul, reduceLT, reduceLeDiff, reduceEqDiff, Int.reduceLT, Int.reduceLE, Int.reduceEq, Int.reduceToNat, hk, w, decide_true, Bool.not_true]
  rfl
theorem qFg (e : RE) (out s : List UInt8) (k : Int) (hs : s ≠ []) (hl : ((out.length + s.length : Nat) : Int) ≤ e.write) (hw : e.write ≤ 1000000) : RunDo 37 [kS s] e out k (kI 0) (out ++ s) k := by
 obtain ⟨c, s', rfl⟩ : ∃ c s', s = c :: s' := by cases s with | nil => exact absurd rfl hs | cons c s' => exact ⟨c, s', rfl⟩
 generalize hS : c :: s' = s at *
 have hns : s.map byR ≠ [] := by rw [← hS]; simp
 have SL := fun (β : Type) (k : TVal → Heap → Option β) (h : Heap) (d : Nat) => qLs (O := Om) (k := k) (h := h) (d := d) s s.length (Nat.le_refl _)
 rw [List.take_length] at SL
 have AE : ∀ {β : Type} {h : Heap} {k : TVal → Heap → Option β}, vop Om (.append 1 1 false (.k (.v (.c (.p .nilslice)))) (.k (kS s))) h 28 k = k (.v (.c (outT s (.own 28 (h.gen 28 + 1))))) (h.own 28 (h.gen 28 + 1) tokO) := fun {β h k} => by
  rw [qCD, qFl s (s.map byR) (qB0 s) (qEf s), qLp false hns (qG6 s) (by rw [qB0]; simp at hl; omega)]
 cases out with
 | nil =>
  have w0 : IntKind.i64.wrap (e.write - 0) = e.write := by rw [Int.sub_zero]; exact qAF _ (by simp at hl; omega) (by omega)
  have n1 : ¬ e.write < (s.length : Int) := by simp at hl; omega
  refine qHJ 4 rfl rfl ⟨((⟨[runO e (.p .nilslice) k, callsO, mapO, mapO], .nil⟩ : Heap).own 28 1 tokO).put (.im 0) (runO e (outT s (.own 28 1)) k), true, [.c (.p (.int .i64 0))], [.im 0, .im 1, .im 2, .im 3, .own 28 1], rfl, rfl, ?_, rfl, ?_, ?_⟩
  ·rw [List.nil_append, ← hS]
   refine ⟨by decide, rfl, fun i r o e1 e2 => ?_⟩
   match i with
   | 0 => cases e1; cases e2; rfl
   | 1 => cases e1; cases e2; rfl
   | 2 => cases e1; cases e2; rfl
   | 3 => cases e1; cases e2; rfl
   | 4 => cases e1; cases e2; rfl
   | i + 5 => simp at e1
  ·intro j hj
   match j, hj with
   | 0, _ => exact .inl (by simp)
   | 1, _ => exact .inl (by simp)
   | 2, _ => exact .inl (by simp)
   | 3, _ => exact .inl (by simp)
  ·show lim tab.get S 37 4 0 [kP (.im 0), kS s] ⟨[runO e (.p .nilslice) k, callsO, mapO, mapO], .nil⟩ = _
   rw [w37_0, b37_0]
   simp (maxSteps := 9999999) +contextual only [exa, ne_eq, not_false_eq_true, reduceAdd, reduceMul, reduceLT, reduceLeDiff, reduceEqDiff, Int.reduceLT, Int.reduceLE, Int.reduceEq, Int.reduceToNat, w0, n1, if_false, SL, AE, Int.lt_irrefl, decide_false]
 | cons b l =>
  have w0 : IntKind.i64.wrap (e.write - (((b :: l).map byR).length : Int)) = e.write - ((l.length : Int) + 1) := by
   rw [qB0, List.length_cons, Int.natCast_add]
   exact qAF _ (by simp at hl; omega) (by omega)
  have n1 : ¬ e.write - ((l.length : Int) + 1) < (s.length : Int) := by simp at hl; omega
  have AC : ∀ {β : Type} {h : Heap} {k : TVal → Heap → Option β}, h.get (.im 4) = some tokO → vop Om (.append 1 1 false (.k (.v (.c (outT (b :: l) (.im 4))))) (.k (kS s))) h 28 k = k (.v (.c (outT (b :: l ++ s) (.own 28 (h.gen 28 + 1))))) ((h.put (.im 4) .dead).own 28 (h.gen 28 + 1) tokO) := fun {β h k} hg => by
   rw [qCD, qFl s (s.map byR) (qB0 s) (qEf s), qMP hg false hns (qG6 s) (by rw [qB0, qB0]; simp at hl ⊢; omega), outT, List.map_append]
  generalize hH : (((⟨[runO e (outT (b :: l) (.im 4)) k, callsO, mapO, mapO, tokO], .nil⟩ : Heap).put (.im 4) .dead).own 28 1 tokO).put (.im 0) (runO e (outT (b :: l ++ s) (.own 28 1)) k) = H
  refine qHJ 5 rfl rfl ⟨H, true, [.c (.p (.int .i64 0))], [.im 0, .im 1, .im 2, .im 3, .own 28 1], rfl, rfl, ?_, rfl, ?_, ?_⟩
  ·rw [List.cons_append, ← hH]
   refine ⟨by decide, rfl, fun i r o e1 e2 => ?_⟩
   match i with
   | 0 => cases e1; cases e2; rfl
   | 1 => cases e1; cases e2; rfl
   | 2 => cases e1; cases e2; rfl
   | 3 => cases e1; cases e2; rfl
   | 4 => cases e1; cases e2; rfl
   | i + 5 => simp at e1
  ·intro j hj
   match j, hj with
   | 0, _ => exact .inl (by simp)
   | 1, _ => exact .inl (by simp)
   | 2, _ => exact .inl (by simp)
   | 3, _ => exact .inl (by simp)
   | 4, _ => exact .inr fun o ho => by rw [← hH] at ho; cases ho
  ·show lim tab.get S 37 5 0 [kP (.im 0), kS s] ⟨[runO e (outT (b :: l) (.im 4)) k, callsO, mapO, mapO, tokO], .nil⟩ = _
   rw [w37_0, b37_0]
   simp (maxSteps := 9999999) +contextual only [exa, ne_eq, not_false_eq_true, reduceAdd, reduceMul, reduceLT, reduceLeDiff, reduceEqDiff, Int.reduceLT, Int.reduceLE, Int.reduceEq, Int.reduceToNat, w0, n1, if_false, SL, Int.lt_irrefl, decide_false]
   refine (AC rfl).trans ?_
   simp (maxSteps := 9999999) +contextual only [exa, ne_eq, not_false_eq_true, reduceAdd, reduceMul, reduceLT, reduceLeDiff, reduceEqDiff, Int.reduceLT, Int.reduceLE, Int.reduceEq, Int.reduceToNat]
   rw [← hH]
   rfl
end Go.Proofs.YtlkejchbcchecaaGreatDoor.Ab
set_option maxHeartbeats 4000000
namespace Go.Proofs.YtlkejchbcchecaaGreatDoor.Ab
open Go Go.AI
abbrev vI (n : Int) : VT := .mk 2 false n [] .nil .nil
def rngI (n : Int) : Prop := -9223372036854775808 ≤ n ∧ n ≤ 9223372036854775807
theorem qN9 : ∀ n : Nat, Lib.decDigits n ≠ [] := by
 intro n
 unfold Lib.decDigits
 split <;> simp
theorem qMN (n : Int) (h : rngI n) : Lib.itoa n ≠ [] := by
 unfold Lib.itoa
 split
 ·simp
 ·exact qN9 _
abbrev vC (v : VT) : List Cell := [.p (.int .i64 v.kind), .p (.bool v.b), .p (.int .i64 v.n), .p (.str v.s), .p (slP 1 sRow v.keys), .p (slP 6 VT.row v.l)]
abbrev scC (v : VT) (d : Int) : List Cell := [.p (.int .i64 v.kind), .p (.bool v.b), .p (.int .i64 v.n), .p (.str v.s), .p (slP 1 sRow v.keys), .p (slP 6 VT.row v.l), .p .nilslice, .p (.int .i64 d)]
abbrev opC : List Cell := [.p (.int .i64 1), .p (.str []), .p .nilslice, .p (.str []), .p (.int .i64 0), .p (.bool false), .p .nilslice]
abbrev opR : List PVal := [.int .i64 1, .str [], .nilslice, .str [], .int .i64 0, .bool false, .nilslice]
abbrev aC (cs : List Cell) : TVal := .v (.agg cs)
theorem qNR (v : VT) : pcells v.row = vC v := by rw [VT.row_eq]; rfl
theorem qKJ (e : RE) (out : List UInt8) (k : Int) (v : VT) (hv : v.kind = 2) (hn : rngI v.n) (hl : ((out.length + (Lib.itoa v.n).length : Nat) : Int) ≤ e.write) (hw : e.write ≤ 1000000) : RunDo 57 [aC (vC v)] e out k (kI 0) (out ++ Lib.itoa v.n) k := by
 have U82 : ∀ (β : Type) (kk : TVal → Heap → Option β) (h : Heap) (d : Nat), vcall Om (.v (.c (.func 82 []))) [kI v.n, kI 10] h d kk = kk (kS (Lib.itoa v.n)) h := fun β kk h d => qAI 82 _ _ rfl (qNp v.n hn.1 hn.2) rfl
 obtain ⟨h', t, c1, c2, X1, ow, gn⟩ := qAb (qFg e out (Lib.itoa v.n) k (qMN v.n hn) hl hw) rfl rfl ((qAZ e out k).own 3 1 (.cells (vC v) 0))
 refine qAt _ rfl rfl ⟨h', true, [.c (.p (.int .i64 0))], rfl, rfl, X1, ?_⟩
 rw [w57_0, b57_0]
 simp (maxSteps := 9999999) +contextual only [exa, ne_eq, not_false_eq_true, reduceAdd, reduceMul, reduceLT, reduceLeDiff, reduceEqDiff, Int.reduceLT, Int.reduceLE, Int.reduceEq, Int.reduceToNat, exW, hv, U82]
 refine (c1 _ _).trans ?_
 simp (maxSteps := 9999999) +contextual only [exa, ne_eq, not_false_eq_true, reduceAdd, reduceMul, reduceLT, reduceLeDiff, reduceEqDiff, Int.reduceLT, Int.reduceLE, Int.reduceEq, Int.reduceToNat, exW]
theorem qMf (v : VT) (d : Int) : Om 94 [aC (scC v d), aC opC] [] = some (.tup [.agg (vC v), .c (.p (.int .i64 0))], []) := by
 refine (qAE rfl).trans ?_
 show lim tab.get S 94 0 0 [aC (scC v d), aC opC] Go.AI.h0 = _
 rw [w94_0, b94_0]
 simp (maxSteps := 9999999) +contextual only [exa, ne_eq, not_false_eq_true, reduceAdd, reduceMul, reduceLT, reduceLeDiff, reduceEqDiff, Int.reduceLT, Int.reduceLE, Int.reduceEq, Int.reduceToNat, exW]
 rw [w94_1, b94_1]
 simp (maxSteps := 9999999) +contextual only [exa, ne_eq, not_false_eq_true, reduceAdd, reduceMul, reduceLT, reduceLeDiff, reduceEqDiff, Int.reduceLT, Int.reduceLE, Int.reduceEq, Int.reduceToNat, exW]
 rw [w94_2, b94_2]
 simp (maxSteps := 9999999) +contextual only [exa, ne_eq, not_false_eq_true, reduceAdd, reduceMul, reduceLT, reduceLeDiff, reduceEqDiff, Int.reduceLT, Int.reduceLE, Int.reduceEq, Int.reduceToNat, exW, Int.lt_irrefl]
 rw [w94_3, b94_3]
 simp (maxSteps := 9999999) +contextual only [exa, ne_eq, not_false_eq_true, reduceAdd, reduceMul, reduceLT, reduceLeDiff, reduceEqDiff, Int.reduceLT, Int.reduceLE, Int.reduceEq, Int.reduceToNat, exW]
 rfl
theorem qKR {g : FuncId} {ps : List TVal} {e : RE} {out : List UInt8} {k : Int} {v : TVal} (hc : Om g (kP (.im 0) :: ps) (cg e out k) = some (v, cg e out k)) (hp : allB pT ps = true) (hv : pT v = true) {h : Heap} {n : Nat} (X : RunAt h e out k n) :
  (∀ {β : Type} (d : Nat) (kk : TVal → Heap → Option β), vcall Om (.v (.c (.func g []))) (kP (.im 0) :: ps) h d kk = kk v h) ∧
  ∃ t, TouchIm t ∧ ∀ {β : Type} (d : Nat) (kt : TVal → Heap → AI.Touch → Option β), vtouch Om (.call (.k (.v (.c (.func g [])))) (.k (kP (.im 0)) :: ps.map .k)) h d kt = kt v h t := by
 obtain ⟨ρ, A, e0, him, _⟩ := X.at'
 exact qH4 A (qAf e out k) him e0 g ps hp v hv hc
theorem qIQ (e : RE) (out : List UInt8) (k : Int) (v : VT) (d : Int) : Om 80 [kP (.im 0), aC (scC v d), aC opC] (cg e out k) = some (.tup [.agg (vC v), .c (.p (.int .i64 0))], cg e out k) := by
 refine (qAE rfl).trans ?_
 show lim tab.get S 80 (cg e out k).length 0 [kP (.im 0), aC (scC v d), aC opC] ⟨cg e out k, .nil⟩ = _
 have U := fun (β : Type) (kk : TVal → Heap → Option β) (h : Heap) (dd : Nat) => qAI (k := kk) (h := h) (d := dd) 94 [aC (scC v d), aC opC] _ rfl (qMf v d) rfl
 have HH : HI ⟨cg e out k, .nil⟩ (cg e out k) := HI.start (qAf e out k).1
 rw [w80_0, b80_0]
 simp (maxSteps := 9999999) +contextual only [exa, ne_eq, not_false_eq_true, reduceAdd, reduceMul, reduceLT, reduceLeDiff, reduceEqDiff, Int.reduceLT, Int.reduceLE, Int.reduceEq, Int.reduceToNat, exW, U]
 refine qNF (qAf e out k).1 ?_ true _ _ rfl rfl
 exact ((((HH.own _ _ _).own _ _ _).own _ _ _).own _ _ _)
end Go.Proofs.YtlkejchbcchecaaGreatDoor.Ab
set_option maxHeartbeats 4000000
namespace Go.Proofs.YtlkejchbcchecaaGreatDoor.Ab
open Go Go.AI
abbrev cmC : List Cell := [.p (.slice 7 true [opR])]
theorem qIC (e : RE) (out : List UInt8) (k : Int) (v : VT) (d : Int) (h0 : 0 ≤ k) (hk : k < e.steps) (hs : e.steps ≤ 1000000) : RunDo 56 [aC (scC v d), aC cmC, kNil] e out k (.tup [.agg (vC v), .c (.p (.int .i64 0))]) out (k + 1) := by
 have z6 : List Cell := [.p (.int .i64 0), .p (.bool false), .p (.int .i64 0), .p (.str []), .p .nilslice, .p .nilslice]
 obtain ⟨h1, t1, c1, _, X1, ow1, gn1⟩ := qAb (qBZ e out k h0 hk hs) rfl rfl ((((qAZ e out k).own 5 1 (.cells (scC v d) 0)).own 6 1 (.cells cmC 0)).own 8 1 (.cells [.p (.int .i64 0), .p (.bool false), .p (.int .i64 0), .p (.str []), .p .nilslice, .p .nilslice] 0))
 have o5 := ow1 5 1 (.cells (scC v d) 0) (by simp only [exa, ne_eq, not_false_eq_true, reduceAdd, reduceMul, reduceLT, reduceLeDiff, reduceEqDiff, Int.reduceLT, Int.reduceLE, Int.reduceEq, Int.reduceToNat])
 have o6 := ow1 6 1 (.cells cmC 0) (by simp only [exa, ne_eq, not_false_eq_true, reduceAdd, reduceMul, reduceLT, reduceLeDiff, reduceEqDiff, Int.reduceLT, Int.reduceLE, Int.reduceEq, Int.reduceToNat])
 have o8 := ow1 8 1 (.cells [.p (.int .i64 0), .p (.bool false), .p (.int .i64 0), .p (.str []), .p .nilslice, .p .nilslice] 0) (by simp only [exa, ne_eq, not_false_eq_true, reduceAdd, reduceMul, reduceLT, reduceLeDiff, reduceEqDiff, Int.reduceLT, Int.reduceLE, Int.reduceEq, Int.reduceToNat])
 obtain ⟨_, t2, T2, c2⟩ := qKR (qIQ e out (k + 1) v d) rfl rfl X1
 have GO : lim tab.get S 56 (cg e out k).length 0 [kP (.im 0), aC (scC v d), aC cmC, kNil] ⟨cg e out k, .nil⟩ = lim tab.get S 56 (cg e out k).length 0 [kP (.im 0), aC (scC v d), aC cmC, kNil] ⟨cg e out k, .nil⟩ := rfl
 conv at GO => rhs; rw [w56_0, b56_0]
 simp (maxSteps := 9999999) +contextual only [exa, ne_eq, not_false_eq_true, reduceAdd, reduceMul, reduceLT, reduceLeDiff, reduceEqDiff, Int.reduceLT, Int.reduceLE, Int.reduceEq, Int.reduceToNat, exW] at GO
 replace GO := GO.trans (c1 _ _)
 have row0 : ∀ r : List PVal, [r][(0 : Int).toNat]? = some r := fun _ => rfl
 have rl : ∀ {β : Type} {h : Heap} {k : TVal → Heap → Option β}, vload true 7 (.v (.c (.p (.pptr opR 0)))) h k = k (aC opC) h := qAU 7 _ rfl
 have c10 : ((1 : Nat) : Int) = 1 := rfl
 have P6 : ∀ a b c d e f : Cell, put1 [.p (.int .i64 0), .p (.bool false), .p (.int .i64 0), .p (.str []), .p .nilslice, .p .nilslice] 0 [a, b, c, d, e, f] = [a, b, c, d, e, f] := fun _ _ _ _ _ _ => rfl
 have C2 := fun (β : Type) (kt : TVal → Heap → AI.Touch → Option β) => c2 44 kt
 simp only [List.map_cons, List.map_nil] at C2
 simp (maxSteps := 9999999) +contextual only [exa, ne_eq, not_false_eq_true, reduceAdd, reduceMul, reduceLT, reduceLeDiff, reduceEqDiff, Int.reduceLT, Int.reduceLE, Int.reduceEq, Int.reduceToNat, exW, exY, o5, o6, o8, row0, rl, c10, C2, qDG, qNE, P6] at GO
 have A1 : AI.Touch.apart t2 ⟨[], [.own 11], false⟩ = true := T2.own_r [] [.own 11] (fun s hs => by cases hs) (fun s hs => ⟨11, List.mem_singleton.1 hs⟩) false
 rw [A1, show AI.Touch.apart ⟨[(Ref.own 5 1).site], [], false⟩ ⟨[], [.own 11], false⟩ = true from rfl, show AI.Touch.apart ⟨[(Ref.own 6 1).site], [], false⟩ ⟨[], [.own 11], false⟩ = true from rfl] at GO
 exact qAt _ rfl rfl ⟨_, true, [.agg (vC v), .c (.p (.int .i64 0))], rfl, rfl, ((X1.own _ _ _).own _ _ _).own _ _ _, GO⟩
abbrev vP (v : VT) : List PVal := [.int .i64 v.kind, .bool v.b, .int .i64 v.n, .str v.s, slP 1 sRow v.keys, slP 6 VT.row v.l]
abbrev pipV : TVal := kSl 1 true [[.slice 7 true [opR]]]
theorem qNO (e : RE) (out : List UInt8) (k : Int) (v : VT) (d : Int) (h0 : 0 ≤ k) (hk : k < e.steps) (hs : e.steps ≤ 1000000) : RunDo 38 [aC (scC v d), pipV] e out k (.tup [.agg (vC v), .c (.p (.int .i64 0))]) out (k + 1) := by
 obtain ⟨h1, t1, c1, _, X1, ow1, gn1⟩ := qAb (qIC e out k v d h0 hk hs) rfl rfl (((((qAZ e out k).own 4 1 (.cells (scC v d) 0)).own 6 1 (.cells [.p (.int .i64 0), .p (.bool false), .p (.int .i64 0), .p (.str []), .p .nilslice, .p .nilslice] 0)).own 10 1 (.cells [.p .nilslice] 0)).own 10 1 (.cells cmC 0))
 have o6 := ow1 6 1 (.cells [.p (.int .i64 0), .p (.bool false), .p (.int .i64 0), .p (.str []), .p .nilslice, .p .nilslice] 0) (by simp only [exa, ne_eq, not_false_eq_true, reduceAdd, reduceMul, reduceLT, reduceLeDiff, reduceEqDiff, Int.reduceLT, Int.reduceLE, Int.reduceEq, Int.reduceToNat])
 have row0 : ∀ r : List PVal, [r][(0 : Int).toNat]? = some r := fun _ => rfl
 have rl : ∀ {β : Type} {h : Heap} {k : TVal → Heap → Option β}, vload true 1 (.v (.c (.p (.pptr [.slice 7 true [opR]] 0)))) h k = k (aC cmC) h := qAU 1 _ rfl
 have c10 : ((1 : Nat) : Int) = 1 := rfl
 have P6 : ∀ a b c d e f : Cell, put1 [.p (.int .i64 0), .p (.bool false), .p (.int .i64 0), .p (.str []), .p .nilslice, .p .nilslice] 0 [a, b, c, d, e, f] = [a, b, c, d, e, f] := fun _ _ _ _ _ _ => rfl
 have P1 : ∀ c : Cell, put1 [.p .nilslice] 0 [c] = [c] := fun _ => rfl
 have GO : lim tab.get S 38 (cg e out k).length 0 [kP (.im 0), aC (scC v d), pipV] ⟨cg e out k, .nil⟩ = lim tab.get S 38 (cg e out k).length 0 [kP (.im 0), aC (scC v d), pipV] ⟨cg e out k, .nil⟩ := rfl
 conv at GO => rhs; rw [w38_0, b38_0]
 simp (maxSteps := 9999999) +contextual only [exa, ne_eq, not_false_eq_true, reduceAdd, reduceMul, reduceLT, reduceLeDiff, reduceEqDiff, Int.reduceLT, Int.reduceLE, Int.reduceEq, Int.reduceToNat, exW] at GO
 rw [w38_1, b38_1] at GO
 simp (maxSteps := 9999999) +contextual only [exa, ne_eq, not_false_eq_true, reduceAdd, reduceMul, reduceLT, reduceLeDiff, reduceEqDiff, Int.reduceLT, Int.reduceLE, Int.reduceEq, Int.reduceToNat, exW, row0, rl, c10, P1] at GO
 replace GO := GO.trans (c1 _ _)
 have BS : ∀ {β : Type} {O : Oracle} {h : Heap} {d : Nat} {k : TVal → Heap → Option β}, vop O (.bslice 6 1 [.p (.int .i64 0), .p (.bool false), .p (.int .i64 0), .p (.str []), .p .nilslice, .p .nilslice] [(0, .k (aC (vC v)))] false) h d k = k (kSl 6 true [vP v]) h := qDC (vP v) rfl
 have rl6 : ∀ {β : Type} {h : Heap} {k : TVal → Heap → Option β}, vload true 6 (.v (.c (.p (.pptr (vP v) 0)))) h k = k (aC (vC v)) h := qAU 6 _ rfl
 have w01 : IntKind.i64.wrap (0 + 1) = 1 := rfl
 simp (maxSteps := 9999999) +contextual only [exa, ne_eq, not_false_eq_true, reduceAdd, reduceMul, reduceLT, reduceLeDiff, reduceEqDiff, Int.reduceLT, Int.reduceLE, Int.reduceEq, Int.reduceToNat, exW, P6, BS, w01] at GO
 rw [w38_1, b38_1] at GO
 simp (maxSteps := 9999999) +contextual only [exa, ne_eq, not_false_eq_true, reduceAdd, reduceMul, reduceLT, reduceLeDiff, reduceEqDiff, Int.reduceLT, Int.reduceLE, Int.reduceEq, Int.reduceToNat, exW, Int.lt_irrefl] at GO
 rw [w38_2, b38_2] at GO
 simp (maxSteps := 9999999) +contextual only [exa, ne_eq, not_false_eq_true, reduceAdd, reduceMul, reduceLT, reduceLeDiff, reduceEqDiff, Int.reduceLT, Int.reduceLE, Int.reduceEq, Int.reduceToNat, exW, c10, row0, rl6, P6, o6] at GO
 exact qAt _ rfl rfl ⟨_, true, [.agg (vC v), .c (.p (.int .i64 0))], rfl, rfl, ((X1.own _ _ _).own _ _ _).own _ _ _, GO⟩
end Go.Proofs.YtlkejchbcchecaaGreatDoor.Ab
set_option maxHeartbeats 4000000
namespace Go.Proofs.YtlkejchbcchecaaGreatDoor.Ab
open Go Go.AI
abbrev pO (d g : Nat) : TVal := .v (.c (.ptr (.own d g) 0))
abbrev z9 : List Cell := [.p (.int .i64 0), .p (.int .i64 0), .p (.str []), .p (.str []), .p .nilslice, .p .nilslice, .p .nilslice, .p (.bool false), .p .nilslice]
abbrev z6 : List Cell := [.p (.int .i64 0), .p (.bool false), .p (.int .i64 0), .p (.str []), .p .nilslice, .p .nilslice]
abbrev pipP : PVal := .slice 1 true [[.slice 7 true [opR]]]
abbrev txR (at' : Int) (s : List UInt8) : List PVal := [.int .i64 1, .int .i64 at', .str s, .str [], .nilslice, .nilslice, .nilslice, .bool false, .nilslice]
abbrev prR (at' : Int) : List PVal := [.int .i64 2, .int .i64 at', .str [], .str [], pipP, .nilslice, .nilslice, .bool false, .nilslice]
abbrev ndR (K at' : Int) (body els : PVal) (has : Bool) : List PVal := [.int .i64 K, .int .i64 at', .str [], .str [], pipP, body, els, .bool has, .nilslice]
abbrev nlV (t : Bool) (rows : List (List PVal)) : TVal := kSl 9 t rows
theorem qJ9 (e : RE) (out : List UInt8) (k : Int) (sv v : VT) (d at' : Int) (hv : v.kind = 2) (hn : rngI v.n) (hl : ((out.length + (Lib.itoa v.n).length : Nat) : Int) ≤ e.write) (hw : e.write ≤ 1000000) :
  RunDo 39 [aC (scC sv d), aC (pcells (prR at')), aC (vC v)] e out k (kI 0) (out ++ Lib.itoa v.n) k := by
 obtain ⟨h', t, c1, c2, X1, ow, gn⟩ := qAb (qKJ e out k v hv hn hl hw) rfl rfl ((((qAZ e out k).own 5 1 (.cells (scC sv d) 0)).own 6 1 (.cells (pcells (prR at')) 0)).own 7 1 (.cells (vC v) 0))
 have GO : lim tab.get S 39 (cg e out k).length 0 [kP (.im 0), aC (scC sv d), aC (pcells (prR at')), aC (vC v)] ⟨cg e out k, .nil⟩ = lim tab.get S 39 (cg e out k).length 0 [kP (.im 0), aC (scC sv d), aC (pcells (prR at')), aC (vC v)] ⟨cg e out k, .nil⟩ := rfl
 conv at GO => rhs; rw [w39_0, b39_0]
 have p0 : (pcells (prR at'))[0]? = some (.p (.int .i64 2)) := rfl
 simp (maxSteps := 9999999) +contextual only [exa, ne_eq, not_false_eq_true, reduceAdd, reduceMul, reduceLT, reduceLeDiff, reduceEqDiff, Int.reduceLT, Int.reduceLE, Int.reduceEq, Int.reduceToNat, exW, p0] at GO
 replace GO := GO.trans (c1 _ _)
 simp (maxSteps := 9999999) +contextual only [exa, ne_eq, not_false_eq_true, reduceAdd, reduceMul, reduceLT, reduceLeDiff, reduceEqDiff, Int.reduceLT, Int.reduceLE, Int.reduceEq, Int.reduceToNat, exW] at GO
 exact qAt _ rfl rfl ⟨_, true, [.c (.p (.int .i64 0))], rfl, rfl, X1, GO⟩
theorem qFG (e : RE) (out s : List UInt8) (k : Int) (sv : VT) (d at' : Int) (n q : Nat) (t : Bool) (rows : List (List PVal)) (L : Int) (i : Nat) (hr : rows[i]? = some (txR at' s)) (hi : (i : Int) < L) (hL : L ≤ 1000) (h0 : 0 ≤ k) (hk : k < e.steps) (hs' : e.steps ≤ 1000000)
  (hs : s ≠ []) (hl : ((out.length + s.length : Nat) : Int) ≤ e.write) (hw : e.write ≤ 1000000) (h : Heap) (X : RunAt h e out k n) (o4 : h.get (.own 4 1) = some (.cells (scC sv d) 0)) :
  ∃ h', RunAt h' e (out ++ s) (k + 1) n ∧ h'.get (.own 4 1) = some (.cells (scC sv d) 0) ∧
   lim tab.get S 17 q 1 [kP (.im 0), pO 4 1, nlV t rows, kI L, kI (i : Int)] h = lim tab.get S 17 q 1 [kP (.im 0), pO 4 1, nlV t rows, kI L, kI ((i + 1 : Nat) : Int)] h' := by
 obtain ⟨h1, t1, c1, _, X1, ow1, gn1⟩ := qAb (qBZ e out k h0 hk hs') rfl rfl ((X.own 8 (h.gen 8 + 1) (.cells z9 0)).own 8 (h.gen 8 + 1) (.cells (pcells (txR at' s)) 0))
 have p4 := ow1 4 1 _ ((Heap.own_get_ne _ 8 _ _ 4 1 (by decide)).trans ((Heap.own_get_ne _ 8 _ _ 4 1 (by decide)).trans o4))
 have p8 := ow1 8 (h.gen 8 + 1) (.cells (pcells (txR at' s)) 0) (by simp only [exa, ne_eq, not_false_eq_true, reduceAdd, reduceMul, reduceLT, reduceLeDiff, reduceEqDiff, Int.reduceLT, Int.reduceLE, Int.reduceEq, Int.reduceToNat])
 obtain ⟨h2, t2, c2, _, X2, ow2, gn2⟩ := qAb (qFg e out s (k + 1) hs hl hw) rfl rfl ((X1.own 10 (h1.gen 10 + 1) (.cells z6 0)).own 10 (h1.gen 10 + 1) (.cells (vC sv) 0))
 have q4 := ow2 4 1 _ ((Heap.own_get_ne _ 10 _ _ 4 1 (by decide)).trans ((Heap.own_get_ne _ 10 _ _ 4 1 (by decide)).trans p4))
 have q8 := ow2 8 (h.gen 8 + 1) _ ((Heap.own_get_ne _ 10 _ _ 8 _ (by decide)).trans ((Heap.own_get_ne _ 10 _ _ 8 _ (by decide)).trans p8))
 refine ⟨h2, X2, q4, ?_⟩
 have rl : ∀ {β : Type} {h : Heap} {k : TVal → Heap → Option β}, vload true 9 (.v (.c (.p (.pptr (txR at' s) 0)))) h k = k (aC (pcells (txR at' s))) h := qAU 9 _ rfl
 have P9 : put1 z9 0 (pcells (txR at' s)) = pcells (txR at' s) := rfl
 have P6 : ∀ a b c d e f : Cell, put1 z6 0 [a, b, c, d, e, f] = [a, b, c, d, e, f] := fun _ _ _ _ _ _ => rfl
 have k0 : (pcells (txR at' s))[0]? = some (.p (.int .i64 1)) := rfl
 have k2 : (pcells (txR at' s))[2]? = some (.p (.str s)) := rfl
 have wi := qCj i (by omega)
 have T9 : (pcells (txR at' s)).take 9 = pcells (txR at' s) := rfl
 have GO : lim tab.get S 17 q 1 [kP (.im 0), pO 4 1, nlV t rows, kI L, kI (i : Int)] h = lim tab.get S 17 q 1 [kP (.im 0), pO 4 1, nlV t rows, kI L, kI (i : Int)] h := rfl
 conv at GO => rhs; rw [w17_1, b17_1]
 simp (maxSteps := 9999999) +contextual only [exa, ne_eq, not_false_eq_true, reduceAdd, reduceMul, reduceLT, reduceLeDiff, reduceEqDiff, Int.reduceLT, Int.reduceLE, Int.reduceEq, Int.reduceToNat, exW, hi, hr, rl, Int.toNat_natCast, P9] at GO
 replace GO := GO.trans (c1 _ _)
 simp (maxSteps := 9999999) +contextual only [exa, ne_eq, not_false_eq_true, reduceAdd, reduceMul, reduceLT, reduceLeDiff, reduceEqDiff, Int.reduceLT, Int.reduceLE, Int.reduceEq, Int.reduceToNat, exW, p4, p8, k0, k2, P6] at GO
 replace GO := GO.trans (c2 _ _)
 rw [w17_5, b17_5] at GO
 simp (maxSteps := 9999999) +contextual only [exa, ne_eq, not_false_eq_true, reduceAdd, reduceMul, reduceLT, reduceLeDiff, reduceEqDiff, Int.reduceLT, Int.reduceLE, Int.reduceEq, Int.reduceToNat, exW, q8, k0] at GO
 rw [w17_6, b17_6] at GO
 simp (maxSteps := 9999999) +contextual only [exa, ne_eq, not_false_eq_true, reduceAdd, reduceMul, reduceLT, reduceLeDiff, reduceEqDiff, Int.reduceLT, Int.reduceLE, Int.reduceEq, Int.reduceToNat, exW, wi] at GO
 exact GO
theorem qFe (e : RE) (out out' : List UInt8) (k k' : Int) (sv : VT) (d K at' : Int) (body els : PVal) (has : Bool) (h1' : K ≠ 1) (h3' : K ≠ 3) (h9' : K ≠ 9) (n q : Nat) (t : Bool) (rows : List (List PVal)) (L : Int) (i : Nat) (hr : rows[i]? = some (ndR K at' body els has)) (hi : (i : Int) < L) (hL : L ≤ 1000) (h0 : 0 ≤ k) (hk : k + 1 < e.steps) (hs' : e.steps ≤ 1000000)
  (M : RunDo 39 [aC (scC sv d), aC (pcells (ndR K at' body els has)), aC (vC sv)] e out (k + 2) (kI 0) out' k') (h : Heap) (X : RunAt h e out k n) (o4 : h.get (.own 4 1) = some (.cells (scC sv d) 0)) :
  ∃ h', RunAt h' e out' k' n ∧ h'.get (.own 4 1) = some (.cells (scC sv d) 0) ∧
   lim tab.get S 17 q 1 [kP (.im 0), pO 4 1, nlV t rows, kI L, kI (i : Int)] h = lim tab.get S 17 q 1 [kP (.im 0), pO 4 1, nlV t rows, kI L, kI ((i + 1 : Nat) : Int)] h' := by
 have hpT : allB pT [aC (scC sv d), aC (pcells (ndR K at' body els has)), aC (vC sv)] = true := rfl
 generalize hR : ndR K at' body els has = R at *
 have R0 : (pcells R)[0]? = some (.p (.int .i64 K)) := by rw [← hR]; rfl
 have R4 : (pcells R)[4]? = some (.p pipP) := by rw [← hR]; rfl
 have RL : (pcells R).length = 9 := by rw [← hR]; rfl
 have T9 : (pcells R).take 9 = pcells R := by rw [← hR]; rfl
 have P9 : put1 z9 0 (pcells R) = pcells R := by rw [← hR]; rfl
 have rl : ∀ {β : Type} {h : Heap} {k : TVal → Heap → Option β}, vload true 9 (.v (.c (.p (.pptr R 0)))) h k = k (aC (pcells R)) h := by rw [← hR]; exact qAU 9 _ rfl
 obtain ⟨h1, t1, c1, _, X1, ow1, gn1⟩ := qAb (qBZ e out k h0 (by omega) hs') rfl rfl ((X.own 8 (h.gen 8 + 1) (.cells z9 0)).own 8 (h.gen 8 + 1) (.cells (pcells R) 0))
 have p4 := ow1 4 1 _ ((Heap.own_get_ne _ 8 _ _ 4 1 (by decide)).trans ((Heap.own_get_ne _ 8 _ _ 4 1 (by decide)).trans o4))
 have p8 := ow1 8 (h.gen 8 + 1) (.cells (pcells R) 0) (by simp only [exa, ne_eq, not_false_eq_true, reduceAdd, reduceMul, reduceLT, reduceLeDiff, reduceEqDiff, Int.reduceLT, Int.reduceLE, Int.reduceEq, Int.reduceToNat])
 obtain ⟨h2, t2, c2, _, X2, ow2, gn2⟩ := qAb (qNO e out (k + 1) sv d (by omega) (by omega) hs') rfl rfl ((X1.own 10 (h1.gen 10 + 1) (.cells z6 0)).own 10 (h1.gen 10 + 1) (.cells (vC sv) 0))
 have q4 := ow2 4 1 _ ((Heap.own_get_ne _ 10 _ _ 4 1 (by decide)).trans ((Heap.own_get_ne _ 10 _ _ 4 1 (by decide)).trans p4))
 have q8 := ow2 8 (h.gen 8 + 1) _ ((Heap.own_get_ne _ 10 _ _ 8 _ (by decide)).trans ((Heap.own_get_ne _ 10 _ _ 8 _ (by decide)).trans p8))
 have q10 := ow2 10 (h1.gen 10 + 1) (.cells (vC sv) 0) (by simp only [exa, ne_eq, not_false_eq_true, reduceAdd, reduceMul, reduceLT, reduceLeDiff, reduceEqDiff, Int.reduceLT, Int.reduceLE, Int.reduceEq, Int.reduceToNat])
 rw [show k + 1 + 1 = k + 2 by omega] at X2
 obtain ⟨h3, t3, c3, _, X3, ow3, gn3⟩ := qAb M hpT rfl (X2.own 10 (h1.gen 10 + 1) (.cells (vC sv) 0))
 have r4 := ow3 4 1 _ ((Heap.own_get_ne _ 10 _ _ 4 1 (by decide)).trans q4)
 have r8 := ow3 8 (h.gen 8 + 1) _ ((Heap.own_get_ne _ 10 _ _ 8 _ (by decide)).trans q8)
 refine ⟨h3, X3, r4, ?_⟩
 have P6 : ∀ a b c d e f : Cell, put1 z6 0 [a, b, c, d, e, f] = [a, b, c, d, e, f] := fun _ _ _ _ _ _ => rfl
 have P6' : put1 (vC sv) 0 (vC sv) = vC sv := rfl
 have wi := qCj i (by omega)
 have GO : lim tab.get S 17 q 1 [kP (.im 0), pO 4 1, nlV t rows, kI L, kI (i : Int)] h = lim tab.get S 17 q 1 [kP (.im 0), pO 4 1, nlV t rows, kI L, kI (i : Int)] h := rfl
 conv at GO => rhs; rw [w17_1, b17_1]
 simp (maxSteps := 9999999) +contextual only [exa, ne_eq, not_false_eq_true, reduceAdd, reduceMul, reduceLT, reduceLeDiff, reduceEqDiff, Int.reduceLT, Int.reduceLE, Int.reduceEq, Int.reduceToNat, exW, hi, hr, rl, Int.toNat_natCast, P9, RL] at GO
 replace GO := GO.trans (c1 _ _)
 simp (maxSteps := 9999999) +contextual only [exa, ne_eq, not_false_eq_true, reduceAdd, reduceMul, reduceLT, reduceLeDiff, reduceEqDiff, Int.reduceLT, Int.reduceLE, Int.reduceEq, Int.reduceToNat, exW, p4, p8, R0, P6, h1', h9'] at GO
 rw [w17_2, b17_2] at GO
 simp (maxSteps := 9999999) +contextual only [exa, ne_eq, not_false_eq_true, reduceAdd, reduceMul, reduceLT, reduceLeDiff, reduceEqDiff, Int.reduceLT, Int.reduceLE, Int.reduceEq, Int.reduceToNat, exW, p4, p8, R0, R4, P6, h9'] at GO
 replace GO := GO.trans (c2 _ _)
 simp (maxSteps := 9999999) +contextual only [exa, ne_eq, not_false_eq_true, reduceAdd, reduceMul, reduceLT, reduceLeDiff, reduceEqDiff, Int.reduceLT, Int.reduceLE, Int.reduceEq, Int.reduceToNat, exW, q4, q8, q10, P6'] at GO
 rw [w17_3, b17_3] at GO
 simp (maxSteps := 9999999) +contextual only [exa, ne_eq, not_false_eq_true, reduceAdd, reduceMul, reduceLT, reduceLeDiff, reduceEqDiff, Int.reduceLT, Int.reduceLE, Int.reduceEq, Int.reduceToNat, exW, q4, q8, q10, T9, RL] at GO
 replace GO := GO.trans (c3 _ _)
 rw [w17_4, b17_4, w17_5, b17_5] at GO
 simp (maxSteps := 9999999) +contextual only [exa, ne_eq, not_false_eq_true, reduceAdd, reduceMul, reduceLT, reduceLeDiff, reduceEqDiff, Int.reduceLT, Int.reduceLE, Int.reduceEq, Int.reduceToNat, exW, r8, R0, h3'] at GO
 rw [w17_6, b17_6] at GO
 simp (maxSteps := 9999999) +contextual only [exa, ne_eq, not_false_eq_true, reduceAdd, reduceMul, reduceLT, reduceLeDiff, reduceEqDiff, Int.reduceLT, Int.reduceLE, Int.reduceEq, Int.reduceToNat, exW, wi] at GO
 exact GO
end Go.Proofs.YtlkejchbcchecaaGreatDoor.Ab
set_option maxHeartbeats 4000000
namespace Go.Proofs.YtlkejchbcchecaaGreatDoor.Ab
open Go Go.AI
theorem qMD (w x : VT) (d : Int) : Om 59 [aC (scC w d), aC (vC x)] [] = some (aC (scC x d), []) := by
 refine (qAE rfl).trans ?_
 show lim tab.get S 59 0 0 [aC (scC w d), aC (vC x)] Go.AI.h0 = _
 rw [w59_0, b59_0]
 have P6 : put1 (scC w d) 0 (vC x) = scC x d := rfl
 have P8 : ∀ cs : List Cell, cs.length = 8 → put1 [.p (.int .i64 0), .p (.bool false), .p (.int .i64 0), .p (.str []), .p .nilslice, .p .nilslice, .p .nilslice, .p (.int .i64 0)] 0 cs = cs := fun cs h => by
  match cs, h with
  | [a, b, c, d, e, f, g, i], _ => rfl
 simp (maxSteps := 9999999) +contextual only [exa, ne_eq, not_false_eq_true, reduceAdd, reduceMul, reduceLT, reduceLeDiff, reduceEqDiff, Int.reduceLT, Int.reduceLE, Int.reduceEq, Int.reduceToNat, exW, P6, P8]
 rfl
abbrev bodyRs : List (List PVal) := [ndR 2 11 .nilslice .nilslice false, txR 16 [59]]
abbrev bodyP : PVal := .slice 9 false bodyRs
theorem qMC (e : RE) (out : List UInt8) (k : Int) (v : VT) (d : Int) (hv : v.kind = 2) (hn : rngI v.n) (hl : ((out.length + (Lib.itoa v.n).length + 1 : Nat) : Int) ≤ e.write) (hw : e.write ≤ 1000000) (h0 : 0 ≤ k) (hk : k + 2 < e.steps) (hs : e.steps ≤ 1000000) :
  RunDo 17 [aC (scC v d), nlV false bodyRs] e out k (kI 0) (out ++ Lib.itoa v.n ++ [59]) (k + 3) := by
 have X0 := (qAZ e out k).own 4 1 (.cells (scC v d) 0)
 obtain ⟨h1, X1, o1, g1⟩ := qFe e out (out ++ Lib.itoa v.n) k (k + 2) v d 2 11 .nilslice .nilslice false (by decide) (by decide) (by decide) _ (cg e out k).length false bodyRs 2 0 rfl (by decide) (by decide) h0 (by omega) hs (qJ9 e out (k + 2) v v d 11 hv hn (by simp at hl ⊢; omega) hw) _ X0 (by simp only [exa, ne_eq, not_false_eq_true, reduceAdd, reduceMul, reduceLT, reduceLeDiff, reduceEqDiff, Int.reduceLT, Int.reduceLE, Int.reduceEq, Int.reduceToNat])
 obtain ⟨h2, X2, o2, g2⟩ := qFG e (out ++ Lib.itoa v.n) [59] (k + 2) v d 16 _ (cg e out k).length false bodyRs 2 1 rfl (by decide) (by decide) (by omega) hk hs (by simp) (by simp at hl ⊢; omega) hw h1 X1 o1
 rw [show k + 2 + 1 = k + 3 by omega] at X2
 have c0 : ((0 : Nat) : Int) = 0 := rfl
 have c2 : ((1 + 1 : Nat) : Int) = 2 := rfl
 have GO : lim tab.get S 17 (cg e out k).length 0 [kP (.im 0), aC (scC v d), nlV false bodyRs] ⟨cg e out k, .nil⟩ = lim tab.get S 17 (cg e out k).length 0 [kP (.im 0), aC (scC v d), nlV false bodyRs] ⟨cg e out k, .nil⟩ := rfl
 conv at GO => rhs; rw [w17_0, b17_0]
 simp (maxSteps := 9999999) +contextual only [exa, ne_eq, not_false_eq_true, reduceAdd, reduceMul, reduceLT, reduceLeDiff, reduceEqDiff, Int.reduceLT, Int.reduceLE, Int.reduceEq, Int.reduceToNat, exW] at GO
 replace GO := GO.trans (g1.trans g2)
 rw [w17_1, b17_1, c2] at GO
 simp (maxSteps := 9999999) +contextual only [exa, ne_eq, not_false_eq_true, reduceAdd, reduceMul, reduceLT, reduceLeDiff, reduceEqDiff, Int.reduceLT, Int.reduceLE, Int.reduceEq, Int.reduceToNat, exW, Int.lt_irrefl] at GO
 exact qAt _ rfl rfl ⟨h2, true, [.c (.p (.int .i64 0))], rfl, rfl, X2, GO⟩
def outsL : List VT → List UInt8
 | [] => []
 | x :: l => Lib.itoa x.n ++ [59] ++ outsL l
abbrev raN (els : PVal) (has : Bool) : List PVal := ndR 7 0 bodyP els has
theorem qKD (e : RE) (hw : e.write ≤ 1000000) (hs : e.steps ≤ 1000000) (lv : VT) (d : Int) (l : Sl VT) (hl6 : l.len ≤ 1000) (hx : ∀ x ∈ l.list, x.kind = 2 ∧ rngI x.n) (els : PVal) (has : Bool) (n q : Nat) :
  ∀ (i : Nat) (h : Heap) (out : List UInt8) (k : Int), RunAt h e out k n → h.get (.own 5 1) = some (.cells (scC lv d) 0) → h.get (.own 6 1) = some (.cells (pcells (raN els has)) 0) →
   ((out.length + (outsL (l.list.drop i)).length : Nat) : Int) ≤ e.write → 0 ≤ k → k + 4 * ((l.len - i : Nat) : Int) ≤ e.steps →
   ∃ h', RunAt h' e (out ++ outsL (l.list.drop i)) (k + 4 * ((l.len - i : Nat) : Int)) n ∧ lim tab.get S 60 q 2 [kP (.im 0), pO 5 1, pO 6 1, .v (.c (.p (slP 6 VT.row l))), kI (l.len : Int), kI (i : Int)] h = vfin true q [.c (.p (.int .i64 0))] h' := by
 refine qDF l.len (fun i hi h out k X o5 o6 hl h0 hk => ?_) (fun i hi ih h out k X o5 o6 hl h0 hk => ?_)
 ·have h1 : ¬ (i : Int) < (l.len : Int) := by omega
  refine ⟨h, by rw [qDr hi, show l.len - i = 0 by omega]; simpa [outsL] using X, ?_⟩
  rw [w60_2, b60_2]
  simp (maxSteps := 9999999) +contextual only [exa, ne_eq, not_false_eq_true, reduceAdd, reduceMul, reduceLT, reduceLeDiff, reduceEqDiff, Int.reduceLT, Int.reduceLE, Int.reduceEq, Int.reduceToNat, h1]
 ·have h1 : (i : Int) < (l.len : Int) := by omega
  obtain ⟨x, hr, h2, hm⟩ := qCN hi
  obtain ⟨xk, xn⟩ := hx x hm
  rw [h2] at hl ⊢
  have rl : ∀ {β : Type} {h : Heap} {k : TVal → Heap → Option β}, vload true 6 (.v (.c (.p (.pptr (VT.row x) 0)))) h k = k (aC (vC x)) h := fun {β h k} => by
   have := qAU (h := h) (k := k) 6 (VT.row x) (VT.row_len x)
   rw [qNR] at this; exact this
  have P6 : put1 z6 0 (vC x) = vC x := rfl
  obtain ⟨h1', t1, c1, _, X1, ow1, gn1⟩ := qAb (qBZ e out k h0 (by omega) hs) rfl rfl ((X.own 10 (h.gen 10 + 1) (.cells z6 0)).own 10 (h.gen 10 + 1) (.cells (vC x) 0))
  have p5 := ow1 5 1 _ ((Heap.own_get_ne _ 10 _ _ 5 1 (by decide)).trans ((Heap.own_get_ne _ 10 _ _ 5 1 (by decide)).trans o5))
  have p6 := ow1 6 1 _ ((Heap.own_get_ne _ 10 _ _ 6 1 (by decide)).trans ((Heap.own_get_ne _ 10 _ _ 6 1 (by decide)).trans o6))
  have p10 := ow1 10 (h.gen 10 + 1) (.cells (vC x) 0) (by simp only [exa, ne_eq, not_false_eq_true, reduceAdd, reduceMul, reduceLT, reduceLeDiff, reduceEqDiff, Int.reduceLT, Int.reduceLE, Int.reduceEq, Int.reduceToNat])
  have U59 : ∀ {β : Type} {kt : TVal → Heap → AI.Touch → Option β} {h : Heap} {dd : Nat}, vtouch Om (.call (.k (.v (.c (.func 59 [])))) [.k (aC (scC lv d)), .k (aC (vC x))]) h dd kt = kt (aC (scC x d)) h noTouch := fun {β kt h dd} => qBi 59 [aC (scC lv d), aC (vC x)] _ rfl (qMD lv x d) rfl
  obtain ⟨h2', t2, _, c2, X2, ow2, gn2⟩ := qAb (qMC e out (k + 1) x d xk xn (by simp [outsL] at hl ⊢; omega) hw (by omega) (by omega) hs) rfl rfl X1
  have r5 := ow2 5 1 _ p5
  have r6 := ow2 6 1 _ p6
  rw [show k + 1 + 3 = k + 4 by omega] at X2
  have e4 : k + 4 + 4 * ((l.len - (i + 1) : Nat) : Int) = k + 4 * ((l.len - i : Nat) : Int) := by omega
  obtain ⟨h3, X3, g3⟩ := ih h2' (out ++ Lib.itoa x.n ++ [59]) (k + 4) X2 r5 r6 (by simp [outsL] at hl ⊢; omega) (by omega) (by omega)
  refine ⟨h3, by rw [← e4]; simpa [outsL] using X3, ?_⟩
  have wi := qCj i (by omega)
  have GO : lim tab.get S 60 q 2 [kP (.im 0), pO 5 1, pO 6 1, .v (.c (.p (slP 6 VT.row l))), kI (l.len : Int), kI (i : Int)] h = lim tab.get S 60 q 2 [kP (.im 0), pO 5 1, pO 6 1, .v (.c (.p (slP 6 VT.row l))), kI (l.len : Int), kI (i : Int)] h := rfl
  conv at GO => rhs; rw [w60_2, b60_2]
  simp (maxSteps := 9999999) +contextual only [exa, ne_eq, not_false_eq_true, reduceAdd, reduceMul, reduceLT, reduceLeDiff, reduceEqDiff, Int.reduceLT, Int.reduceLE, Int.reduceEq, Int.reduceToNat, exW, h1, hr, rl, P6] at GO
  replace GO := GO.trans (c1 _ _)
  have k5 : (pcells (raN els has))[5]? = some (.p bodyP) := rfl
  have C2 := fun (β : Type) (kt : TVal → Heap → AI.Touch → Option β) => c2 45 kt
  simp only [List.map_cons, List.map_nil] at C2
  simp (maxSteps := 9999999) +contextual only [exa, ne_eq, not_false_eq_true, reduceAdd, reduceMul, reduceLT, reduceLeDiff, reduceEqDiff, Int.reduceLT, Int.reduceLE, Int.reduceEq, Int.reduceToNat, exW, exY, p5, p6, p10, U59, k5, C2] at GO
  rw [wi] at GO
  exact GO.trans g3
theorem qMw (e : RE) (out : List UInt8) (k : Int) (hw : e.write ≤ 1000000) (hs : e.steps ≤ 1000000) (lv sv : VT) (d : Int) (hk : lv.kind = 4 ∨ lv.kind = 5) (hl6 : lv.l.len ≤ 1000) (hne : lv.l.len ≠ 0) (hx : ∀ x ∈ lv.l.list, x.kind = 2 ∧ rngI x.n) (els : PVal) (has : Bool)
  (hl : ((out.length + (outsL lv.l.list).length : Nat) : Int) ≤ e.write) (h0 : 0 ≤ k) (hk' : k + 4 * (lv.l.len : Int) ≤ e.steps) :
  RunDo 60 [aC (scC sv d), aC (pcells (raN els has)), aC (vC lv)] e out k (kI 0) (out ++ outsL lv.l.list) (k + 4 * (lv.l.len : Int)) := by
 have X0 := (((qAZ e out k).own 5 1 (.cells (scC sv d) 0)).own 6 1 (.cells (pcells (raN els has)) 0)).own 7 1 (.cells (vC lv) 0)
 obtain ⟨h1, X1, g1⟩ := qKD e hw hs sv d lv.l hl6 hx els has _ (cg e out k).length 0 _ out k X0 (by simp only [exa, ne_eq, not_false_eq_true, reduceAdd, reduceMul, reduceLT, reduceLeDiff, reduceEqDiff, Int.reduceLT, Int.reduceLE, Int.reduceEq, Int.reduceToNat]) (by simp only [exa, ne_eq, not_false_eq_true, reduceAdd, reduceMul, reduceLT, reduceLeDiff, reduceEqDiff, Int.reduceLT, Int.reduceLE, Int.reduceEq, Int.reduceToNat]) (by rw [List.drop_zero]; exact hl) h0 (by rw [Nat.sub_zero]; exact hk')
 rw [List.drop_zero, Nat.sub_zero] at X1
 have hn : ¬ (lv.l.len : Int) = 0 := by omega
 have GO : lim tab.get S 60 (cg e out k).length 0 [kP (.im 0), aC (scC sv d), aC (pcells (raN els has)), aC (vC lv)] ⟨cg e out k, .nil⟩ = lim tab.get S 60 (cg e out k).length 0 [kP (.im 0), aC (scC sv d), aC (pcells (raN els has)), aC (vC lv)] ⟨cg e out k, .nil⟩ := rfl
 conv at GO => rhs; rw [w60_0, b60_0]
 have n54 : ¬ (5 : Int) = 4 := by decide
 rcases hk with h4 | h4
 ·simp (maxSteps := 9999999) +contextual only [exa, ne_eq, not_false_eq_true, reduceAdd, reduceMul, reduceLT, reduceLeDiff, reduceEqDiff, Int.reduceLT, Int.reduceLE, Int.reduceEq, Int.reduceToNat, exW, h4] at GO
  rw [w60_1, b60_1] at GO
  simp (maxSteps := 9999999) +contextual only [exa, ne_eq, not_false_eq_true, reduceAdd, reduceMul, reduceLT, reduceLeDiff, reduceEqDiff, Int.reduceLT, Int.reduceLE, Int.reduceEq, Int.reduceToNat, exW, hn, h4] at GO
  exact qAt _ rfl rfl ⟨h1, true, [.c (.p (.int .i64 0))], rfl, rfl, X1, GO.trans g1⟩
 ·simp (maxSteps := 9999999) +contextual only [exa, ne_eq, not_false_eq_true, reduceAdd, reduceMul, reduceLT, reduceLeDiff, reduceEqDiff, Int.reduceLT, Int.reduceLE, Int.reduceEq, Int.reduceToNat, exW, h4, n54] at GO
  rw [w60_1, b60_1] at GO
  simp (maxSteps := 9999999) +contextual only [exa, ne_eq, not_false_eq_true, reduceAdd, reduceMul, reduceLT, reduceLeDiff, reduceEqDiff, Int.reduceLT, Int.reduceLE, Int.reduceEq, Int.reduceToNat, exW, hn, h4] at GO
  exact qAt _ rfl rfl ⟨h1, true, [.c (.p (.int .i64 0))], rfl, rfl, X1, GO.trans g1⟩
abbrev elsP : PVal := .slice 9 false [txR 25 [110, 111, 110, 101]]
theorem qL5 (e : RE) (out : List UInt8) (k : Int) (v : VT) (d : Int) (hl : ((out.length + 4 : Nat) : Int) ≤ e.write) (hw : e.write ≤ 1000000) (h0 : 0 ≤ k) (hk : k < e.steps) (hs : e.steps ≤ 1000000) :
  RunDo 17 [aC (scC v d), nlV false [txR 25 [110, 111, 110, 101]]] e out k (kI 0) (out ++ [110, 111, 110, 101]) (k + 1) := by
 have X0 := (qAZ e out k).own 4 1 (.cells (scC v d) 0)
 obtain ⟨h2, X2, o2, g2⟩ := qFG e out [110, 111, 110, 101] k v d 25 _ (cg e out k).length false [txR 25 [110, 111, 110, 101]] 1 0 rfl (by decide) (by decide) h0 hk hs (by simp) (by simpa using hl) hw _ X0 (by simp only [exa, ne_eq, not_false_eq_true, reduceAdd, reduceMul, reduceLT, reduceLeDiff, reduceEqDiff, Int.reduceLT, Int.reduceLE, Int.reduceEq, Int.reduceToNat])
 have c2 : ((0 + 1 : Nat) : Int) = 1 := rfl
 have c1 : ((1 : Nat) : Int) = 1 := rfl
 have GO : lim tab.get S 17 (cg e out k).length 0 [kP (.im 0), aC (scC v d), nlV false [txR 25 [110, 111, 110, 101]]] ⟨cg e out k, .nil⟩ = lim tab.get S 17 (cg e out k).length 0 [kP (.im 0), aC (scC v d), nlV false [txR 25 [110, 111, 110, 101]]] ⟨cg e out k, .nil⟩ := rfl
 conv at GO => rhs; rw [w17_0, b17_0]
 simp (maxSteps := 9999999) +contextual only [exa, ne_eq, not_false_eq_true, reduceAdd, reduceMul, reduceLT, reduceLeDiff, reduceEqDiff, Int.reduceLT, Int.reduceLE, Int.reduceEq, Int.reduceToNat, exW, c1] at GO
 replace GO := GO.trans g2
 rw [w17_1, b17_1, c2] at GO
 simp (maxSteps := 9999999) +contextual only [exa, ne_eq, not_false_eq_true, reduceAdd, reduceMul, reduceLT, reduceLeDiff, reduceEqDiff, Int.reduceLT, Int.reduceLE, Int.reduceEq, Int.reduceToNat, exW, Int.lt_irrefl] at GO
 exact qAt _ rfl rfl ⟨h2, true, [.c (.p (.int .i64 0))], rfl, rfl, X2, GO⟩
theorem qJs (e : RE) (out : List UInt8) (k : Int) (hw : e.write ≤ 1000000) (hs : e.steps ≤ 1000000) (lv sv : VT) (d : Int) (hk : lv.kind = 4 ∨ lv.kind = 5) (hne : lv.l.len = 0) (has : Bool)
  (hl : ((out.length + 4 : Nat) : Int) ≤ e.write) (h0 : 0 ≤ k) (hk' : k < e.steps) :
  RunDo 60 [aC (scC sv d), aC (pcells (raN elsP has)), aC (vC lv)] e out k (kI 0) (out ++ [110, 111, 110, 101]) (k + 1) := by
 obtain ⟨h1, t1, c1, _, X1, ow1, gn1⟩ := qAb (qL5 e out k sv d hl hw h0 hk' hs) rfl rfl ((((qAZ e out k).own 5 1 (.cells (scC sv d) 0)).own 6 1 (.cells (pcells (raN elsP has)) 0)).own 7 1 (.cells (vC lv) 0))
 have hn : (lv.l.len : Int) = 0 := by omega
 have k6 : (pcells (raN elsP has))[6]? = some (.p elsP) := rfl
 have GO : lim tab.get S 60 (cg e out k).length 0 [kP (.im 0), aC (scC sv d), aC (pcells (raN elsP has)), aC (vC lv)] ⟨cg e out k, .nil⟩ = lim tab.get S 60 (cg e out k).length 0 [kP (.im 0), aC (scC sv d), aC (pcells (raN elsP has)), aC (vC lv)] ⟨cg e out k, .nil⟩ := rfl
 conv at GO => rhs; rw [w60_0, b60_0]
 have n54 : ¬ (5 : Int) = 4 := by decide
 rcases hk with h4 | h4
 ·simp (maxSteps := 9999999) +contextual only [exa, ne_eq, not_false_eq_true, reduceAdd, reduceMul, reduceLT, reduceLeDiff, reduceEqDiff, Int.reduceLT, Int.reduceLE, Int.reduceEq, Int.reduceToNat, exW, h4] at GO
  rw [w60_1, b60_1] at GO
  simp (maxSteps := 9999999) +contextual only [exa, ne_eq, not_false_eq_true, reduceAdd, reduceMul, reduceLT, reduceLeDiff, reduceEqDiff, Int.reduceLT, Int.reduceLE, Int.reduceEq, Int.reduceToNat, exW, hn, h4, k6] at GO
  replace GO := GO.trans (c1 _ _)
  simp (maxSteps := 9999999) +contextual only [exa, ne_eq, not_false_eq_true, reduceAdd, reduceMul, reduceLT, reduceLeDiff, reduceEqDiff, Int.reduceLT, Int.reduceLE, Int.reduceEq, Int.reduceToNat, exW] at GO
  exact qAt _ rfl rfl ⟨h1, true, [.c (.p (.int .i64 0))], rfl, rfl, X1, GO⟩
 ·simp (maxSteps := 9999999) +contextual only [exa, ne_eq, not_false_eq_true, reduceAdd, reduceMul, reduceLT, reduceLeDiff, reduceEqDiff, Int.reduceLT, Int.reduceLE, Int.reduceEq, Int.reduceToNat, exW, h4, n54] at GO
  rw [w60_1, b60_1] at GO
  simp (maxSteps := 9999999) +contextual only [exa, ne_eq, not_false_eq_true, reduceAdd, reduceMul, reduceLT, reduceLeDiff, reduceEqDiff, Int.reduceLT, Int.reduceLE, Int.reduceEq, Int.reduceToNat, exW, hn, h4, k6] at GO
  replace GO := GO.trans (c1 _ _)
  simp (maxSteps := 9999999) +contextual only [exa, ne_eq, not_false_eq_true, reduceAdd, reduceMul, reduceLT, reduceLeDiff, reduceEqDiff, Int.reduceLT, Int.reduceLE, Int.reduceEq, Int.reduceToNat, exW] at GO
  exact qAt _ rfl rfl ⟨h1, true, [.c (.p (.int .i64 0))], rfl, rfl, X1, GO⟩
theorem qJD (e : RE) (out out' : List UInt8) (k k' : Int) (sv v : VT) (d : Int) (els : PVal) (has : Bool) (M : RunDo 60 [aC (scC sv d), aC (pcells (raN els has)), aC (vC v)] e out k (kI 0) out' k') :
  RunDo 39 [aC (scC sv d), aC (pcells (raN els has)), aC (vC v)] e out k (kI 0) out' k' := by
 obtain ⟨h', t, c1, c2, X1, ow, gn⟩ := qAb M rfl rfl ((((qAZ e out k).own 5 1 (.cells (scC sv d) 0)).own 6 1 (.cells (pcells (raN els has)) 0)).own 7 1 (.cells (vC v) 0))
 have p0 : (pcells (raN els has))[0]? = some (.p (.int .i64 7)) := rfl
 have RL : (pcells (raN els has)).length = 9 := rfl
 have T9 : (pcells (raN els has)).take 9 = pcells (raN els has) := rfl
 have GO : lim tab.get S 39 (cg e out k).length 0 [kP (.im 0), aC (scC sv d), aC (pcells (raN els has)), aC (vC v)] ⟨cg e out k, .nil⟩ = lim tab.get S 39 (cg e out k).length 0 [kP (.im 0), aC (scC sv d), aC (pcells (raN els has)), aC (vC v)] ⟨cg e out k, .nil⟩ := rfl
 conv at GO => rhs; rw [w39_0, b39_0]
 generalize pcells (raN els has) = R at *
 simp (maxSteps := 9999999) +contextual only [exa, ne_eq, not_false_eq_true, reduceAdd, reduceMul, reduceLT, reduceLeDiff, reduceEqDiff, Int.reduceLT, Int.reduceLE, Int.reduceEq, Int.reduceToNat, exW, p0, RL, T9] at GO
 replace GO := GO.trans (c1 _ _)
 simp (maxSteps := 9999999) +contextual only [exa, ne_eq, not_false_eq_true, reduceAdd, reduceMul, reduceLT, reduceLeDiff, reduceEqDiff, Int.reduceLT, Int.reduceLE, Int.reduceEq, Int.reduceToNat, exW] at GO
 exact qAt _ rfl rfl ⟨_, true, [.c (.p (.int .i64 0))], rfl, rfl, X1, GO⟩
theorem qI4 (e : RE) (out out' : List UInt8) (k k' : Int) (v : VT) (d : Int) (els : PVal) (has : Bool) (h0 : 0 ≤ k) (hk : k + 1 < e.steps) (hs : e.steps ≤ 1000000) (M : RunDo 60 [aC (scC v d), aC (pcells (raN els has)), aC (vC v)] e out (k + 2) (kI 0) out' k') :
  RunDo 17 [aC (scC v d), nlV false [raN els has]] e out k (kI 0) out' k' := by
 have X0 := (qAZ e out k).own 4 1 (.cells (scC v d) 0)
 obtain ⟨h1, X1, o1, g1⟩ := qFe e out out' k k' v d 7 0 bodyP els has (by decide) (by decide) (by decide) _ (cg e out k).length false [raN els has] 1 0 rfl (by decide) (by decide) h0 hk hs (qJD e out out' (k + 2) k' v v d els has M) _ X0 (by simp only [exa, ne_eq, not_false_eq_true, reduceAdd, reduceMul, reduceLT, reduceLeDiff, reduceEqDiff, Int.reduceLT, Int.reduceLE, Int.reduceEq, Int.reduceToNat])
 have c2 : ((0 + 1 : Nat) : Int) = 1 := rfl
 have c1 : ((1 : Nat) : Int) = 1 := rfl
 have GO : lim tab.get S 17 (cg e out k).length 0 [kP (.im 0), aC (scC v d), nlV false [raN els has]] ⟨cg e out k, .nil⟩ = lim tab.get S 17 (cg e out k).length 0 [kP (.im 0), aC (scC v d), nlV false [raN els has]] ⟨cg e out k, .nil⟩ := rfl
 conv at GO => rhs; rw [w17_0, b17_0]
 simp (maxSteps := 9999999) +contextual only [exa, ne_eq, not_false_eq_true, reduceAdd, reduceMul, reduceLT, reduceLeDiff, reduceEqDiff, Int.reduceLT, Int.reduceLE, Int.reduceEq, Int.reduceToNat, exW, c1] at GO
 replace GO := GO.trans g1
 rw [w17_1, b17_1, c2] at GO
 simp (maxSteps := 9999999) +contextual only [exa, ne_eq, not_false_eq_true, reduceAdd, reduceMul, reduceLT, reduceLeDiff, reduceEqDiff, Int.reduceLT, Int.reduceLE, Int.reduceEq, Int.reduceToNat, exW, Int.lt_irrefl] at GO
 exact qAt _ rfl rfl ⟨h1, true, [.c (.p (.int .i64 0))], rfl, rfl, X1, GO⟩
end Go.Proofs.YtlkejchbcchecaaGreatDoor.Ab
namespace Go.AI
theorem qGg {O : Oracle} {g : FuncId} {ps : List TVal} {C C' : List AObj} {v : TVal} (M : GraphDo O g ps C v C') (R : Rooted C) (K' : Closed C') (hC : 0 < C.length) (hp : allB pT ps = true) (hv : pT v = true) {h : Heap} {ρ : List Ref} {r : Ref} (A : At h ρ C) (e0 : ρ[0]? = some r) :
  ∃ h' t ρ'', (∀ {β : Type} (d : Nat) (k : TVal → Heap → Option β), vcall O (.v (.c (.func g []))) (.v (.c (.ptr r 0)) :: ps) h d k = k v h') ∧
   (∀ {β : Type} (d : Nat) (kt : TVal → Heap → Touch → Option β), vtouch O (.call (.k (.v (.c (.func g [])))) (.k (.v (.c (.ptr r 0))) :: ps.map .k)) h d kt = kt v h' t) ∧
   At h' ρ'' C' ∧ ρ''[0]? = some r ∧ (∀ d g o, .own d g ∉ ρ → h.get (.own d g) = some o → h'.get (.own d g) = some o) ∧ (∀ d, h'.gen d = h.gen d) ∧ h.ims.length ≤ h'.ims.length := by
 obtain ⟨qs, ρ', hc, hl, A', e0', him', hq⟩ := M
 obtain ⟨a1, a2, a3⟩ := qCb e0 A.nodup hp
 obtain ⟨_, _, q3, _⟩ := qAQ hv
 have er : r = outF ρ (.im 0) := by
  have := (qAM (ρ := ρ) (i := 0) (by rw [A.len]; exact hC)).2
  rw [e0] at this
  exact Option.some.inj this
 have er2 : reach h fuelReach ((TVal.v (.c (.ptr r 0)) :: ps).flatMap TVal.refs) [] = ρ := by
  rw [a2, er]
  have := qBG A R.1 fuelReach [.im 0] [] (fun r hr => ⟨0, List.mem_singleton.1 hr, hC⟩) (fun r hr => by cases hr)
  simp only [List.map_cons, List.map_nil] at this
  rw [this, R.2, ← A.len, qB9]
 have e5 : (C.map (AObj.ren (outR ρ))).map (AObj.ren (inn ρ)) = C := by
  rw [List.map_map]
  refine (List.map_congr_left fun o ho => ?_).trans (List.map_id _)
  simp only [Function.comp, id]
  have := (R.1 o ho).2
  rw [AObj.ren_ren (υ := fun r => some r) o (fun r hr => by
   obtain ⟨i, rfl, hi⟩ := this r hr
   have hi' := qAM (ρ := ρ) (i := i) (by rw [A.len]; exact hi)
   exact ⟨_, _, hi'.1, qA0 A.nodup hi'.2, rfl⟩)]
  exact AObj.ren_id o fun r _ => rfl
 have hl' : ρ.length ≤ qs.length := by rw [A.len]; exact hl
 have hca : ∀ d, callOp O g (.v (.c (.ptr r 0)) :: ps) d h = some (v, hAfter h ρ qs, gTouch h (.v (.c (.ptr r 0)) :: ps) (C.map (AObj.ren (outR ρ))) ρ qs) := fun d => by
  have := qBc (d := d) g _ _ _ ρ (C.map (AObj.ren (outR ρ))) C qs v a1 er2 A.mapM a3 e5 hc hl'
  rw [this, q3]
 have B : Behind h ρ qs (hAfter h ρ qs) := behind A.nodup A.mapM hl'
 obtain ⟨A2, _⟩ := qGu A hl B A' K'
 refine ⟨hAfter h ρ qs, _, _, fun d k => ?_, fun d kt => qA1 g _ v _ _ (hca d) kt, A2, ?_, fun d g o hm ho => B.old _ o hm ho, B.gen, by rw [B.len]; omega⟩
 ·show callF O g (.v (.c (.ptr r 0)) :: ps) d h k = _
  rw [qAz, hca d]; rfl
 ·rw [List.getElem?_map, e0', Option.map_some]
  show some (backF h ρ (.im 0)) = some r
  simp only [backF, e0]
theorem qCC {h : Heap} : ∀ (n : Nat) (todo seen : List Ref), ∃ l, reach h n todo seen = seen ++ l
 | 0, todo, seen => ⟨[], by rw [List.append_nil]; cases todo <;> rfl⟩
 | n + 1, [], seen => ⟨[], by rw [List.append_nil]; rfl⟩
 | n + 1, x :: todo, seen => by
  unfold reach
  cases seen.contains x with
  | true => exact qCC n todo seen
  | false =>
   rw [cond_false]
   cases h.get x with
   | none => exact qCC n todo seen
   | some o =>
    obtain ⟨l, hl⟩ := qCC n (o.refs ++ todo) (seen ++ [x])
    exact ⟨x :: l, by dsimp only; rw [hl, List.append_assoc]; rfl⟩
theorem qMr {h : Heap} (frz : Bool) (q : Nat) (vs : List Comp) (v : TVal) (hv : pT v = true) (e1 : (if frz then freezeT h (oneOf vs) else some (oneOf vs, [])) = some (v, [])) : ∃ qs, vfin frz q vs h = some (v, qs) ∧ q ≤ qs.length := by
 letI : Sym := ⟨fun _ => 0⟩
 obtain ⟨q1, q2, q3, q4⟩ := qAQ hv
 obtain ⟨l, hl⟩ := qCC (h := h) fuelReach (((ims q).flatMap fun r => match h.get r with | some o => o.refs | none => []) ++ v.refs) (ims q)
 refine ⟨(ims q ++ l).map fun r => match h.get r with | some o => o.ren (inn (ims q ++ l)) | none => AObj.dead, ?_, ?_⟩
 ·rw [qBe]
  unfold finV
  simp only [e1, settle, q3]
  exact congrArg (fun F : List Ref => some (v, F.map fun r => match h.get r with | some o => o.ren (inn F) | none => AObj.dead)) hl
 ·rw [List.length_map, List.length_append]
  show q ≤ (ims q).length + _
  unfold ims; simp
end Go.AI
set_option maxHeartbeats 4000000
namespace Go.Proofs.YtlkejchbcchecaaGreatDoor.Ab
open Go Go.AI
theorem qNo : Om 16 [kI 5000, kI 5000] [] = some (kI 5000, []) := (qAE rfl).trans (qBF blks_ok 50 16 0 0 _ _ _ (by kernel_rfl))
theorem qNl : Om 16 [kI 0, kI 12] [] = some (kI 0, []) := (qAE rfl).trans (qBF blks_ok 50 16 0 0 _ _ _ (by kernel_rfl))
theorem qMe (v : VT) (sm : smV v) : Om 18 [kA v.row] [] = some (kA (ownV v).row, []) := by
 refine (qAE rfl).trans ?_
 show lim tab.get S 18 0 0 [kA v.row] Go.AI.h0 = _
 rw [w18_0, b18_0]
 have U : CAL 41 [.v (.agg [.p (.int .i64 5), .p (.bool false), .p (.int .i64 0), .p (.str []), .p (.slice 1 true [[.str []]]), .p (.slice 6 true [v.row])]), kS []] (.tup [.agg (pcells (ownV v).row), .c (.p (.bool true))]) := fun {β k h d} => by
  have e := u93 (k := k) (h := h) (d := d) (boxT v) [] (qL9 v sm)
  rw [qKq] at e
  exact e
 simp (maxSteps := 9999999) +contextual only [exa, ne_eq, not_false_eq_true, reduceAdd, reduceMul, reduceLT, reduceLeDiff, reduceEqDiff, Int.reduceLT, Int.reduceLE, Int.reduceEq, Int.reduceToNat, exY, U, qDC _ (VT.row_len v), qGw _ (VT.row_len (ownV v)), qIi]
abbrev callsQ : AObj := .cells [.mref (.im 1), .mref (.im 2)] 0
abbrev reT (tree : PVal) : RE := ⟨5000, 0, 65536, tree⟩
abbrev limC : List Cell := [.p (.int .i64 5000), .p (.int .i64 0), .p (.int .i64 (-1))]
abbrev treeP (els : PVal) (has : Bool) : PVal := .slice 2 true [[.str [], .slice 9 false [raN els has]]]
end Go.Proofs.YtlkejchbcchecaaGreatDoor.Ab
namespace Go.AI
theorem qJe {O : Oracle} {g : FuncId} {ps qs' : List TVal} {r : Ref} {C qs : List AObj} {v : TVal} {h : Heap} {ρ : List Ref} (args qAO as' : List TVal)
  (a1 : args.map TVal.strip = qAO) (a2 : qAO.flatMap TVal.refs = [r]) (a3 : qAO.map (TVal.ren (inn ρ)) = as') (hc : O g as' C = some (v, qs)) (R : Rooted C) (hC : 0 < C.length) (hl : C.length ≤ qs.length) (hv : pT v = true) (A : At h ρ C) (e0 : ρ[0]? = some r) :
  ∃ h' t, (∀ {β : Type} (d : Nat) (k : TVal → Heap → Option β), vcall O (.v (.c (.func g []))) args h d k = k v h') ∧
   (∀ {β : Type} (d : Nat) (kt : TVal → Heap → Touch → Option β), vtouch O (.call (.k (.v (.c (.func g [])))) (args.map .k)) h d kt = kt v h' t) ∧
   (∀ d g o, .own d g ∉ ρ → h.get (.own d g) = some o → h'.get (.own d g) = some o) ∧ (∀ d, h'.gen d = h.gen d) ∧ h.ims.length ≤ h'.ims.length := by
 obtain ⟨_, _, q3, _⟩ := qAQ hv
 have er : r = outF ρ (.im 0) := by
  have := (qAM (ρ := ρ) (i := 0) (by rw [A.len]; exact hC)).2
  rw [e0] at this
  exact Option.some.inj this
 have er2 : reach h fuelReach (qAO.flatMap TVal.refs) [] = ρ := by
  rw [a2, er]
  have := qBG A R.1 fuelReach [.im 0] [] (fun r hr => ⟨0, List.mem_singleton.1 hr, hC⟩) (fun r hr => by cases hr)
  simp only [List.map_cons, List.map_nil] at this
  rw [this, R.2, ← A.len, qB9]
 have e5 : (C.map (AObj.ren (outR ρ))).map (AObj.ren (inn ρ)) = C := by
  rw [List.map_map]
  refine (List.map_congr_left fun o ho => ?_).trans (List.map_id _)
  simp only [Function.comp, id]
  have := (R.1 o ho).2
  rw [AObj.ren_ren (υ := fun r => some r) o (fun r hr => by
   obtain ⟨i, rfl, hi⟩ := this r hr
   have hi' := qAM (ρ := ρ) (i := i) (by rw [A.len]; exact hi)
   exact ⟨_, _, hi'.1, qA0 A.nodup hi'.2, rfl⟩)]
  exact AObj.ren_id o fun r _ => rfl
 have hl' : ρ.length ≤ qs.length := by rw [A.len]; exact hl
 have hca : ∀ d, callOp O g args d h = some (v, hAfter h ρ qs, gTouch h qAO (C.map (AObj.ren (outR ρ))) ρ qs) := fun d => by
  have := qBc (d := d) g args qAO as' ρ (C.map (AObj.ren (outR ρ))) C qs v a1 er2 A.mapM a3 e5 hc hl'
  rw [this, q3]
 have B : Behind h ρ qs (hAfter h ρ qs) := behind A.nodup A.mapM hl'
 refine ⟨hAfter h ρ qs, _, fun d k => ?_, fun d kt => qA1 g _ v _ _ (hca d) kt, fun d g o hm ho => B.old _ o hm ho, B.gen, by rw [B.len]; omega⟩
 show callF O g args d h k = _
 rw [qAz, hca d]; rfl
theorem qKE {O : Oracle} {g : FuncId} {pl : List TVal} {v : TVal} {C : List AObj} (ha : allB pT pl = true) (hc : O g pl [] = some (v, C)) (K : Closed C) (h : Heap) :
  ∃ h' t, (∀ {β : Type} (d : Nat) (k : TVal → Heap → Option β), vcall O (.v (.c (.func g []))) pl h d k = k (v.ren (back [] C.length (newRef h.ims.length))) h') ∧
   (∀ {β : Type} (d : Nat) (kt : TVal → Heap → Touch → Option β), vtouch O (.call (.k (.v (.c (.func g [])))) (pl.map .k)) h d kt = kt (v.ren (back [] C.length (newRef h.ims.length))) h' t) ∧
   At h' ((List.range C.length).map fun i => Ref.im (h.ims.length + i)) C ∧ (∀ r o, h.get r = some o → h'.get r = some o) ∧ (∀ d, h'.gen d = h.gen d) ∧ h'.ims.length = h.ims.length + C.length ∧ t.rd = [] ∧ ∀ s ∈ t.wr, ∃ i, s = .im i := by
 obtain ⟨h', c1, A, K1, G1, L1⟩ := qKz ha hc K h
 obtain ⟨a1, a2, a3⟩ := qC2 ha
 have hca : ∀ d, callOp O g pl d h = some (v.ren (back [] C.length (newRef h.ims.length)), hAfter h [] C, gTouch h pl [] [] C) := fun d =>
  qBc (d := d) g pl pl pl [] [] [] C v a1 (by rw [a2]; rfl) rfl (a3 _) rfl hc (Nat.zero_le _)
 have e := c1 0 (fun v h => some (v, h))
 change callF O g pl 0 h (fun v h => some (v, h)) = _ at e
 rw [qAz, hca 0] at e
 have e' : hAfter h [] C = h' := by cases e; rfl
 rw [e'] at hca
 refine ⟨h', _, fun d k => c1 d k, fun d kt => qA1 g _ _ _ _ (hca d) kt, A, K1, G1, L1, ?_, fun s hs => ?_⟩
 ·unfold gTouch
  simp only [a2, List.flatMap_nil, List.append_nil, List.map_nil]
 ·unfold gTouch at hs
  simp only [List.map_nil, List.nil_append] at hs
  obtain ⟨j, _, rfl⟩ := List.mem_map.1 hs
  exact ⟨_, rfl⟩
theorem qJH {t : Touch} (h1 : t.rd = []) (h2 : ∀ s ∈ t.wr, ∃ i, s = Site.im i) (e g : Nat) : Touch.apart ⟨[(Ref.own e g).site], [], false⟩ t = true := by
 unfold Touch.apart
 have h3 : disj t.wr [(Ref.own e g).site] = true := qEY h2 (fun s hs => ⟨e, List.mem_singleton.1 hs⟩)
 show (disj ([] : List Site) t.wr && disj ([] : List Site) t.rd && disj t.wr [(Ref.own e g).site] && !(false && t.wild)) = true
 rw [h3]; rfl
end Go.AI
set_option maxHeartbeats 4000000
namespace Go.Proofs.YtlkejchbcchecaaGreatDoor.Ab
open Go Go.AI
abbrev clC : List AObj := [callsQ, mapO, mapO]
theorem qEj : Rooted clC := by
 refine ⟨fun o ho => ?_, rfl⟩
 simp only [List.mem_cons, List.not_mem_nil, or_false] at ho
 rcases ho with rfl | rfl | rfl
 ·exact ⟨fun e => (by cases e), fun r hr => by
   have : r = .im 1 ∨ r = .im 2 := by simpa [AObj.refs, Cell.refs] using hr
   rcases this with rfl | rfl
   ·exact ⟨1, rfl, by simp⟩
   ·exact ⟨2, rfl, by simp⟩⟩
 ·exact ⟨fun e => (by cases e), fun r hr => by simp [AObj.refs] at hr⟩
 ·exact ⟨fun e => (by cases e), fun r hr => by simp [AObj.refs] at hr⟩
theorem qBp : Om 9 [kNil] [] = some (kP (.im 0), clC) := (qAE rfl).trans (qBF blks_ok 500 9 0 0 _ _ _ (by kernel_rfl))
abbrev textQ : List UInt8 := [123, 123, 114, 97, 110, 103, 101, 32, 46, 125, 125, 123, 123, 46, 125, 125, 59, 123, 123, 101, 108, 115, 101, 125, 125, 110, 111, 110, 101, 123, 123, 101, 110, 100, 125, 125]
theorem qKi : Om 7 [kS textQ] [] = some (.tup [.c (.p (treeP elsP true)), .c (.p (.int .i64 0)), .c (.p (.int .i64 0))], []) := (qAE rfl).trans (qBF blks_ok 3000 7 0 0 _ _ _ (by kernel_rfl))
theorem qMX (n : Int) (hn : rngI n) : Om 6 [kA (vI n).row] [] = some (.tup [.c (.p (.str (Lib.itoa n))), .c (.p (.bool true))], []) := by
 refine (qAE rfl).trans ?_
 show lim tab.get S 6 0 0 [kA (vI n).row] Go.AI.h0 = _
 have U := fun (β : Type) (k : TVal → Heap → Option β) (h : Heap) (d : Nat) => qAI (k := k) (h := h) (d := d) 11 [kA (vI n).row] _ rfl (qKa (vI n) rfl hn.1 hn.2) rfl
 have e : (vI n).row = [.int .i64 2, .bool false, .int .i64 n, .str [], .nilslice, .nilslice] := rfl
 rw [e] at U ⊢
 rw [w6_0, b6_0]
 simp (maxSteps := 9999999) +contextual only [exa, ne_eq, not_false_eq_true, reduceAdd, reduceMul, reduceLT, reduceLeDiff, reduceEqDiff, Int.reduceLT, Int.reduceLE, Int.reduceEq, Int.reduceToNat, exW]
 rw [w6_1, b6_1]
 simp (maxSteps := 9999999) +contextual only [exa, ne_eq, not_false_eq_true, reduceAdd, reduceMul, reduceLT, reduceLeDiff, reduceEqDiff, Int.reduceLT, Int.reduceLE, Int.reduceEq, Int.reduceToNat, exW, U]
 rfl
end Go.Proofs.YtlkejchbcchecaaGreatDoor.Ab
set_option maxHeartbeats 4000000
namespace Go.Proofs.YtlkejchbcchecaaGreatDoor.Ab
open Go Go.AI
theorem qFz (v : VT) (sm : smV v) (b : UInt8) (l : List UInt8) (k : Int) (tree : PVal) (t2 : Bool) (rows : List (List PVal)) (name : List UInt8) (body : PVal) (hrows : tree = .slice 2 t2 rows) (h0r : rows[0]? = some [.str name, body]) (M : RunDo 17 [aC (scC (ownV v) 0), .v (.c (.p body))] (reT tree) [] 0 (kI 0) (b :: l) k) :
  ∃ qs, Om 8 [.v (.c (.p tree)), aC (vC v), kP (.im 0), aC limC] clC = some (.tup [.c (.p (.slice 1 false ((b :: l).map byR))), .c (.p (.int .i64 k)), .c (.p (.int .i64 0))], qs) ∧ 3 ≤ qs.length := by
 have U1 := fun (β : Type) (kt : TVal → Heap → AI.Touch → Option β) (h : Heap) (d : Nat) => qBi (kt := kt) (h := h) (d := d) 16 [kI 5000, kI 5000] _ rfl qNo rfl
 have U2 := fun (β : Type) (kt : TVal → Heap → AI.Touch → Option β) (h : Heap) (d : Nat) => qBi (kt := kt) (h := h) (d := d) 16 [kI 0, kI 12] _ rfl qNl rfl
 have U18 := fun (β : Type) (kt : TVal → Heap → AI.Touch → Option β) (h : Heap) (d : Nat) => qBi (kt := kt) (h := h) (d := d) 18 [kA v.row] _ (by simp only [exP]) (qMe v sm) (by simp only [exP])
 have ev : kA v.row = aC (vC v) := by rw [VT.row_eq]; rfl
 have eo : kA (ownV v).row = aC (vC (ownV v)) := by rw [VT.row_eq]; rfl
 rw [ev, eo] at U18
 simp only [List.map_cons, List.map_nil] at U1 U2 U18
 have hlr : (rows.length : Int) ≠ 0 ∧ (0 : Int) < (rows.length : Int) := by
  have := (List.getElem?_eq_some_iff.1 h0r).1
  omega
 have hO : Om 8 [.v (.c (.p tree)), aC (vC v), kP (.im 0), aC limC] clC = lim tab.get S 8 3 0 [.v (.c (.p tree)), aC (vC v), kP (.im 0), aC limC] ⟨clC, .nil⟩ := qAE rfl
 rw [hO, w8_0, b8_0]
 have B1 : ∀ (β : Type) (kt : TVal → Heap → AI.Touch → Option β) (h : Heap), vtouch Om (.build [.p (.int .i64 0), .p (.int .i64 0), .p (.int .i64 0)] [(0, 1, .k (kI 5000)), (1, 1, .k (kI 0)), (2, 1, .k (.v (.c (.p (.int .i64 (-1))))))]) h 20 kt = kt (aC [.p (.int .i64 5000), .p (.int .i64 0), .p (.int .i64 (-1))]) h noTouch := fun _ _ _ => rfl
 have B2 : ∀ (β : Type) (kt : TVal → Heap → AI.Touch → Option β) (h : Heap), vtouch Om (.build [.p (.int .i64 0), .p (.int .i64 0), .p (.int .i64 0), .p .nilslice, .p .nilptr, .p .nilslice, .p (.int .i64 0)] [(0, 3, .k (aC [.p (.int .i64 5000), .p (.int .i64 0), .p (.int .i64 (-1))])), (3, 1, .k (.v (.c (.p tree)))), (4, 1, .k (kP (.im 0)))]) h 23 kt =
  kt (aC [.p (.int .i64 5000), .p (.int .i64 0), .p (.int .i64 (-1)), .p tree, .ptr (.im 0) 0, .p .nilslice, .p (.int .i64 0)]) h noTouch := fun _ _ _ => rfl
 have B3 : ∀ (β : Type) (kt : TVal → Heap → AI.Touch → Option β) (h : Heap) (cs : List Cell), vtouch Om (.box (.k (aC cs)) false) h 24 kt = kt (.v (.c (.ptr (.own 24 (h.gen 24 + 1)) 0))) (h.own 24 (h.gen 24 + 1) (.cells cs 0)) ⟨[], [.own 24], false⟩ := fun _ _ _ _ => rfl
 simp (maxSteps := 9999999) +contextual only [exa, ne_eq, not_false_eq_true, reduceAdd, reduceMul, reduceLT, reduceLeDiff, reduceEqDiff, Int.reduceLT, Int.reduceLE, Int.reduceEq, Int.reduceToNat, exW, exY, U1, U2, B1, B2, B3]
 generalize hH : (((({ ims := clC, owns := TM.nil } : Heap).own 5 1 (AObj.cells (vC v) 0)).own 7 1 (AObj.cells limC 0)).own 24 1 (.cells [.p (.int .i64 5000), .p (.int .i64 0), .p (.int .i64 (-1)), .p tree, .ptr (.im 0) 0, .p .nilslice, .p (.int .i64 0)] 0)).own 24 1 (.cells [.p (.int .i64 5000), .p (.int .i64 0), .p (.int .i64 65536), .p tree, .ptr (.im 0) 0, .p .nilslice, .p (.int .i64 0)] 0) = H
 have g24 : H.get (.own 24 1) = some (.cells [.p (.int .i64 5000), .p (.int .i64 0), .p (.int .i64 65536), .p tree, .ptr (.im 0) 0, .p .nilslice, .p (.int .i64 0)] 0) := by rw [← hH]; simp only [exa, ne_eq, not_false_eq_true, reduceAdd, reduceMul, reduceLT, reduceLeDiff, reduceEqDiff, Int.reduceLT, Int.reduceLE, Int.reduceEq, Int.reduceToNat]
 have g5 : H.get (.own 5 1) = some (.cells (vC v) 0) := by rw [← hH]; simp only [exa, ne_eq, not_false_eq_true, reduceAdd, reduceMul, reduceLT, reduceLeDiff, reduceEqDiff, Int.reduceLT, Int.reduceLE, Int.reduceEq, Int.reduceToNat]
 have i0 : H.get (.im 0) = some callsQ := by rw [← hH]; rfl
 have i1 : H.get (.im 1) = some mapO := by rw [← hH]; rfl
 have i2 : H.get (.im 2) = some mapO := by rw [← hH]; rfl
 have A : At H [.own 24 1, .im 0, .im 1, .im 2] (cg (reT tree) [] 0) := by
  refine ⟨by decide, rfl, fun i r o e1 e2 => ?_⟩
  match i with
  | 0 => cases e1; cases e2; exact g24
  | 1 => cases e1; cases e2; exact i0
  | 2 => cases e1; cases e2; exact i1
  | 3 => cases e1; cases e2; exact i2
  | i + 4 => simp at e1
 obtain ⟨h2, t2', ρ, _, c2, A2, e2, K2, G2, L2⟩ := qGg M (qAf _ _ _) (qAf _ _ _).1 (qB2 _ _ _).1 (by rfl) (by rfl) A rfl
 have C2 := fun (β : Type) (kt : TVal → Heap → AI.Touch → Option β) => c2 (β := β) 48 kt
 simp only [List.map_cons, List.map_nil] at C2
 have T1 : AI.Touch.apart noTouch noTouch = true := rfl
 have IA : ∀ (β : Type) (k : TVal → Heap → Option β) (h : Heap), viaddr 2 (.v (.c (.p tree))) (kI 0) h k = k (.v (.c (.p (.pptr [.str name, body] 0)))) h := fun β k h => by
  rw [hrows]
  simp (maxSteps := 9999999) +contextual only [exa, ne_eq, not_false_eq_true, reduceAdd, reduceMul, reduceLT, reduceLeDiff, reduceEqDiff, Int.reduceLT, Int.reduceLE, Int.reduceEq, Int.reduceToNat, h0r, Int.toNat_zero]
 have FA : ∀ (β : Type) (kt : TVal → Heap → AI.Touch → Option β) (h : Heap), vtouch Om (.faddr 1 (.k (.v (.c (.p (.pptr [.str name, body] 0)))))) h 46 kt = kt (.v (.c (.p (.pptr [.str name, body] 1)))) h noTouch := fun _ _ _ => rfl
 have LA : ∀ (β : Type) (kt : TVal → Heap → AI.Touch → Option β) (h : Heap), vtouch Om (.load false 1 (.k (.v (.c (.p (.pptr [.str name, body] 1)))))) h 47 kt = kt (.v (.c (.p body))) h noTouch := fun _ _ _ => rfl
 have B4 : ∀ (β : Type) (kt : TVal → Heap → AI.Touch → Option β) (h : Heap), vtouch Om (.build [.p (.int .i64 0), .p (.bool false), .p (.int .i64 0), .p (.str []), .p .nilslice, .p .nilslice, .p .nilslice, .p (.int .i64 0)] [(0, 6, .k (aC (vC (ownV v))))]) h 43 kt = kt (aC (scC (ownV v) 0)) h noTouch := fun _ _ _ => rfl
 have LN : ∀ (β : Type) (k : TVal → Heap → Option β) (h : Heap), vlen Om 2 (.v (.c (.p tree))) h 38 k = k (kI (rows.length : Int)) h := fun β k h => by rw [hrows]; simp (maxSteps := 9999999) +contextual only [exa, ne_eq, not_false_eq_true, reduceAdd, reduceMul, reduceLT, reduceLeDiff, reduceEqDiff, Int.reduceLT, Int.reduceLE, Int.reduceEq, Int.reduceToNat]
 rw [w8_1, b8_1]
 simp (maxSteps := 9999999) +contextual only [exa, ne_eq, not_false_eq_true, reduceAdd, reduceMul, reduceLT, reduceLeDiff, reduceEqDiff, Int.reduceLT, Int.reduceLE, Int.reduceEq, Int.reduceToNat, exW, exY, LN, hlr.2, g5, U18, B4, IA, FA, LA, C2, T1]
 rw [w8_2, b8_2]
 have g24' : h2.get (.own 24 1) = some ((runO (reT tree) (outT (b :: l) (.im 4)) k).ren (outR ρ)) := A2.get 0 _ _ e2 rfl
 obtain ⟨r4, hr4⟩ : ∃ r4, outR ρ (.im 4) = some r4 := by
  have := (qAM (ρ := ρ) (i := 4) (by rw [A2.len]; exact Nat.lt_succ_self 4)).1
  exact ⟨_, this⟩
 obtain ⟨r1, hr1⟩ : ∃ r1, outR ρ (.im 1) = some r1 := by
  have := (qAM (ρ := ρ) (i := 1) (by rw [A2.len]; show 1 < 5; decide)).1
  exact ⟨_, this⟩
 have g24'' : h2.get (.own 24 1) = some (.cells [.p (.int .i64 5000), .p (.int .i64 0), .p (.int .i64 65536), .p tree, .ptr r1 0, outT (b :: l) r4, .p (.int .i64 k)] 0) := by
  rw [g24']
  simp only [AObj.ren, List.map_cons, List.map_nil, Cell.ren, hr1, hr4]
  rfl
 simp (maxSteps := 9999999) +contextual only [exa, ne_eq, not_false_eq_true, reduceAdd, reduceMul, reduceLT, reduceLeDiff, reduceEqDiff, Int.reduceLT, Int.reduceLE, Int.reduceEq, Int.reduceToNat, exW, g24'']
 obtain ⟨qs, q1, q2⟩ := qMr (h := h2) true 3 [.c (outT (b :: l) r4), .c (.p (.int .i64 k)), .c (.p (.int .i64 0))] (.tup [.c (.p (.slice 1 false ((b :: l).map byR))), .c (.p (.int .i64 k)), .c (.p (.int .i64 0))]) rfl rfl
 exact ⟨qs, q1, q2⟩
end Go.Proofs.YtlkejchbcchecaaGreatDoor.Ab
set_option maxHeartbeats 4000000
namespace Go.Proofs.YtlkejchbcchecaaGreatDoor.Ab
open Go Go.AI
theorem vadd {β : Type} {h : Heap} {k : TVal → Heap → Option β} (a b : List UInt8) (hl : a.length + b.length ≤ 4611686018427387904) : vbin .add 0 (kS a) (kS b) h k = k (kS (a ++ b)) h := by
 simp (config := { maxSteps := 10000000 }) only [exa, ne_eq, not_false_eq_true, reduceAdd, reduceMul, reduceLT, reduceLeDiff, reduceEqDiff, Int.reduceLT, Int.reduceLE, Int.reduceEq, Int.reduceToNat, decide_eq_true hl]
def fargI (o : Option (List Int)) : Sl Int := match o with
 | none => .nil
 | some l => .mk false l
theorem qKY (o : Option (List Int)) : intsP .i64 o = slP 1 iRow (fargI o) := by cases o <;> rfl
abbrev FS4 (s : Sl Int) : TVal := .v (.c (.p (slP 1 iRow s)))
structure VH (tb : Bool) (acc : List Int) (ks : List (List UInt8)) (K L : Cell) (h : Heap) : Prop where
 v5 : h.get (.own 5 1) = some (.cells [.p (.int .i64 (if tb = true ∧ acc ≠ [] then 5 else 4)), .p (.bool false), .p (.int .i64 0), .p (.str []), K, L] 0)
 bk : Bears 1 K (ks.map sRow)
 gk : GS [60] 1 K (ks.map sRow) h
 bl : Bears 6 L (acc.map fun n => (vI n).row)
 gl : GS [48] 6 L (acc.map fun n => (vI n).row) h
def wantL : List Int → List UInt8
 | [] => []
 | x :: l => Lib.itoa x ++ [59] ++ wantL l
abbrev r6 (n : Int) : List Cell := [.p (.int .i64 2), .p (.bool false), .p (.int .i64 n), .p (.str []), .p .nilslice, .p .nilslice]
theorem qOY {β : Type} {O : Oracle} {h : Heap} {d : Nat} {k : TVal → Heap → Option β} (x : Int) : vop O (.bslice 1 1 [.p (.int .u8 0)] [(0, .k (kN .u8 x))] false) h d k = k (kSl 1 true [[.int .u8 x]]) h := qAW _ _ rfl
theorem qNd {β : Type} {O : Oracle} {h : Heap} {d : Nat} {k : TVal → Heap → Option β} (n : Int) : vop O (.toStr (.k (kSl 1 true [[.int .u8 n]]))) h d k = k (kS [UInt8.ofNat n.toNat]) h := qAW _ _ rfl
theorem strC {β : Type} {O : Oracle} {h : Heap} {d : Nat} {k : TVal → Heap → Option β} (s : List UInt8) : vop O (.bslice 1 1 [.p (.str [])] [(0, .k (kS s))] false) h d k = k (kSl 1 true [sRow s]) h := qAW _ _ rfl
theorem qLo (tb : Bool) (s : Sl Int) (hs : s.len ≤ 20) (hr : ∀ n ∈ s.list, rngI n) :
  ∀ (i : Nat) (h : Heap) (acc : List Int) (ks : List (List UInt8)) (K L : Cell) (w : List UInt8), acc.length = i → ks.length ≤ i → w.length ≤ 100 * i → VH tb acc ks K L h →
   ∃ h' ks' K' L', ks'.length ≤ max i s.len ∧ VH tb (acc ++ s.list.drop i) ks' K' L' h' ∧ lim tab.get S 3 0 1 [FS4 s, kB tb, pO 5 1, kS w, kI (i : Int)] h = lim tab.get S 3 0 3 [FS4 s, pO 5 1, kS (w ++ wantL (s.list.drop i))] h' := by
 refine qDF s.len (fun i hi h acc ks K L w ha hk hw H => ?_) (fun i hi ih h acc ks K L w ha hk hw H => ?_)
 ·have h1 : ¬ (i : Int) < (s.len : Int) := by omega
  refine ⟨h, ks, K, L, by omega, by rw [qDr hi, List.append_nil]; exact H, ?_⟩
  rw [qDr hi, w3_1, b3_1]
  simp (maxSteps := 9999999) +contextual only [exa, ne_eq, not_false_eq_true, reduceAdd, reduceMul, reduceLT, reduceLeDiff, reduceEqDiff, Int.reduceLT, Int.reduceLE, Int.reduceEq, Int.reduceToNat, h1, wantL, List.append_nil]
 ·have h1 : (i : Int) < (s.len : Int) := by omega
  obtain ⟨x, hx, h2, hm⟩ := qCN hi
  have rx := hr x hm
  have lx : (Lib.itoa x).length ≤ 21 := qDd x rx.1 rx.2
  have U6 := fun (β : Type) (k : TVal → Heap → Option β) (h : Heap) (d : Nat) => qAI (k := k) (h := h) (d := d) 6 [kA (vI x).row] _ (by simp only [exP]) (qMX x rx) (by simp only [exP])
  have e6 : kA (vI x).row = aC (r6 x) := rfl
  rw [e6] at U6
  have BB : ∀ (β : Type) (k : TVal → Heap → Option β) (h : Heap), vop Om (.build [.p (.int .i64 0), .p (.bool false), .p (.int .i64 0), .p (.str []), .p .nilslice, .p .nilslice] [(0, 1, .k (kI 2)), (2, 1, .k (kI x))]) h 34 k = k (aC (r6 x)) h := fun _ _ _ => rfl
  have V1 : ∀ (β : Type) (k : TVal → Heap → Option β) (h : Heap), vbin .add 0 (kS w) (kS (Lib.itoa x)) h k = k (kS (w ++ Lib.itoa x)) h := fun β k h => vadd _ _ (by omega)
  have V2 : ∀ (β : Type) (k : TVal → Heap → Option β) (h : Heap), vbin .add 0 (kS (w ++ Lib.itoa x)) (kS [59]) h k = k (kS (w ++ Lib.itoa x ++ [59])) h := fun β k h => vadd _ _ (by simp; omega)
  have P8 : put1 [.p (.int .i64 0), .p (.bool false), .p (.int .i64 0), .p (.str []), .p .nilslice, .p .nilslice] 0 (r6 x) = r6 x := rfl
  have B6 : ∀ (β : Type) (k : TVal → Heap → Option β) (h : Heap), vop Om (.bslice 6 1 [.p (.int .i64 0), .p (.bool false), .p (.int .i64 0), .p (.str []), .p .nilslice, .p .nilslice] [(0, .k (aC (r6 x)))] false) h 47 k = k (kSl 6 true [(vI x).row]) h := fun β k h => qDC (vI x).row rfl
  generalize hh1 : (h.own 8 (h.gen 8 + 1) (.cells [.p (.int .i64 0), .p (.bool false), .p (.int .i64 0), .p (.str []), .p .nilslice, .p .nilslice] 0)).own 8 (h.gen 8 + 1) (.cells (r6 x) 0) = h1'
  have v5h := H.v5
  have v5 : h1'.get (.own 5 1) = some (.cells [.p (.int .i64 (if tb = true ∧ acc ≠ [] then 5 else 4)), .p (.bool false), .p (.int .i64 0), .p (.str []), K, L] 0) := by rw [← hh1]; exact (Heap.own_get_ne _ 8 _ _ 5 1 (by decide)).trans ((Heap.own_get_ne _ 8 _ _ 5 1 (by decide)).trans H.v5)
  have v8 : h1'.get (.own 8 (h.gen 8 + 1)) = some (.cells (r6 x) 0) := by rw [← hh1]; simp only [exa, ne_eq, not_false_eq_true, reduceAdd, reduceMul, reduceLT, reduceLeDiff, reduceEqDiff, Int.reduceLT, Int.reduceLE, Int.reduceEq, Int.reduceToNat]
  have GL : GS [48] 6 L (acc.map fun n => (vI n).row) h1' := by rw [← hh1]; exact (H.gl.own _ _ (by decide)).own _ _ (by decide)
  have GK : GS [60] 1 K (ks.map sRow) h1' := by rw [← hh1]; exact (H.gk.own _ _ (by decide)).own _ _ (by decide)
  obtain ⟨L1, h2', u1, G2, e1, T1, K1, I1, X1⟩ := qHv (d := 48) (by' := 88) (new := [(vI x).row]) (b := .slice 6 true [(vI x).row]) (.inr ⟨_, rfl⟩) GL (by decide) (fun r hr => by simp at hr; rw [hr]; rfl) (by simp; omega) (by decide)
  have A1 := fun (β : Type) (k : TVal → Heap → Option β) => qEU (O := Om) e1 k
  obtain ⟨ra, ea⟩ := X1 (.inl (by simp))
  have v5' := K1 5 1 _ (by decide) v5
  have GK2 : GS [60] 1 K (ks.map sRow) h2' := GK.keep fun e he g hh => K1 e g _ (by revert he; simp; omega) hh
  cases tb with
  | false =>
   rw [if_neg (by simp)] at v5 v5' v5h
   have H2 : VH false (acc ++ [x]) ks K L1 (h2'.own 5 1 (.cells [.p (.int .i64 4), .p (.bool false), .p (.int .i64 0), .p (.str []), K, L1] 0)) := by
    refine ⟨by rw [if_neg (by simp)]; simp only [exa, ne_eq, not_false_eq_true, reduceAdd, reduceMul, reduceLT, reduceLeDiff, reduceEqDiff, Int.reduceLT, Int.reduceLE, Int.reduceEq, Int.reduceToNat], H.bk, GK2.own _ _ (by decide), .inr ⟨by simp, ra, by rw [ea]; simp⟩, ?_⟩
    rw [List.map_append]; exact G2.own _ _ (by decide)
   obtain ⟨h', ks', K', L', q0, q1, q2⟩ := ih _ (acc ++ [x]) ks K L1 (w ++ Lib.itoa x ++ [59]) (by simp; omega) (by omega) (by simp; omega) H2
   refine ⟨h', ks', K', L', by omega, by rw [h2]; simpa using q1, ?_⟩
   rw [h2]
   refine Eq.trans ?_ (q2.trans (by simp only [wantL, List.append_assoc]))
   rw [w3_1, b3_1]
   simp (maxSteps := 9999999) +contextual only [V1, V2, h1, hx, BB, P8, U6, hh1, v5, v5h, v8, v5', B6, A1, exa, ne_eq, not_false_eq_true, reduceAdd, reduceMul, reduceLT, reduceLeDiff, reduceEqDiff, Int.reduceLT, Int.reduceLE, Int.reduceEq, Int.reduceToNat, exW]
   rw [w3_2, b3_2]
   simp (maxSteps := 9999999) +contextual only [exa, ne_eq, not_false_eq_true, reduceAdd, reduceMul, reduceLT, reduceLeDiff, reduceEqDiff, Int.reduceLT, Int.reduceLE, Int.reduceEq, Int.reduceToNat, qCj i (by omega)]
  | true =>
   generalize hz : (if (true = true ∧ acc ≠ []) then (5 : Int) else 4) = z at v5 v5' v5h
   generalize hh3 : (h2'.own 5 1 (.cells [.p (.int .i64 z), .p (.bool false), .p (.int .i64 0), .p (.str []), K, L1] 0)).own 5 1 (.cells [.p (.int .i64 5), .p (.bool false), .p (.int .i64 0), .p (.str []), K, L1] 0) = h3
   have v53 : h3.get (.own 5 1) = some (.cells [.p (.int .i64 5), .p (.bool false), .p (.int .i64 0), .p (.str []), K, L1] 0) := by rw [← hh3]; simp only [exa, ne_eq, not_false_eq_true, reduceAdd, reduceMul, reduceLT, reduceLeDiff, reduceEqDiff, Int.reduceLT, Int.reduceLE, Int.reduceEq, Int.reduceToNat]
   have GK3 : GS [60] 1 K (ks.map sRow) h3 := by rw [← hh3]; exact (GK2.own _ _ (by decide)).own _ _ (by decide)
   have GL3 : GS [48] 6 L1 ((acc.map fun n => (vI n).row) ++ [(vI x).row]) h3 := by rw [← hh3]; exact (G2.own _ _ (by decide)).own _ _ (by decide)
   generalize hky : [UInt8.ofNat (IntKind.u8.wrap (IntKind.i64.wrap (97 + (i : Int)))).toNat] = ky
   obtain ⟨K1', h4', u4, G4, e4, T4, K4, I4, X4⟩ := qHv (d := 60) (by' := 16) (new := [sRow ky]) (b := .slice 1 true [sRow ky]) (.inr ⟨_, rfl⟩) GK3 (by decide) (fun r hr => by simp at hr; rw [hr]; rfl) (by simp; omega) (by decide)
   have A4 : ∀ (β : Type) (k : TVal → Heap → Option β), vop Om (.append 1 16 false (.k (.v (.c K))) (.k (kSl 1 true [[.str ky]]))) h3 60 k = k (.v (.c K1')) h4' := fun β k => qEU (O := Om) e4 k
   obtain ⟨rb, eb⟩ := X4 (.inl (by simp))
   have v54 := K4 5 1 _ (by decide) v53
   have GL4 : GS [48] 6 L1 ((acc.map fun n => (vI n).row) ++ [(vI x).row]) h4' := GL3.keep fun e he g hh => K4 e g _ (by revert he; simp; omega) hh
   have H2 : VH true (acc ++ [x]) (ks ++ [ky]) K1' L1 (h4'.own 5 1 (.cells [.p (.int .i64 5), .p (.bool false), .p (.int .i64 0), .p (.str []), K1', L1] 0)) := by
    refine ⟨by rw [if_pos (by simp)]; simp only [exa, ne_eq, not_false_eq_true, reduceAdd, reduceMul, reduceLT, reduceLeDiff, reduceEqDiff, Int.reduceLT, Int.reduceLE, Int.reduceEq, Int.reduceToNat], .inr ⟨by simp, rb, by rw [eb]; simp⟩, by rw [List.map_append]; exact G4.own _ _ (by decide), .inr ⟨by simp, ra, by rw [ea]; simp⟩, ?_⟩
    rw [List.map_append]; exact GL4.own _ _ (by decide)
   obtain ⟨h', ks', K', L', q0, q1, q2⟩ := ih _ (acc ++ [x]) (ks ++ [ky]) K1' L1 (w ++ Lib.itoa x ++ [59]) (by simp; omega) (by simp; omega) (by simp; omega) H2
   refine ⟨h', ks', K', L', by omega, by rw [h2]; simpa using q1, ?_⟩
   rw [h2]
   refine Eq.trans ?_ (q2.trans (by simp only [wantL, List.append_assoc]))
   rw [w3_1, b3_1]
   simp (maxSteps := 9999999) +contextual only [V1, V2, h1, hx, BB, P8, U6, hh1, v5, v5h, v8, v5', B6, A1, hh3, v53, qOY, qNd, hky, strC, A4, v54, exa, ne_eq, not_false_eq_true, reduceAdd, reduceMul, reduceLT, reduceLeDiff, reduceEqDiff, Int.reduceLT, Int.reduceLE, Int.reduceEq, Int.reduceToNat, exW]
   rw [w3_2, b3_2]
   simp (maxSteps := 9999999) +contextual only [exa, ne_eq, not_false_eq_true, reduceAdd, reduceMul, reduceLT, reduceLeDiff, reduceEqDiff, Int.reduceLT, Int.reduceLE, Int.reduceEq, Int.reduceToNat, qCj i (by omega)]
end Go.Proofs.YtlkejchbcchecaaGreatDoor.Ab
set_option maxHeartbeats 4000000
namespace Go.Proofs.YtlkejchbcchecaaGreatDoor.Ab
open Go Go.AI
theorem qEX : ∀ l : List Int, outsL (l.map vI) = wantL l
 | [] => rfl
 | x :: l => by show Lib.itoa x ++ [59] ++ outsL (l.map vI) = Lib.itoa x ++ [59] ++ wantL l; rw [qEX l]
theorem qFi : ∀ (l : List Int), (∀ n ∈ l, rngI n) → (wantL l).length ≤ 100 * l.length
 | [], _ => Nat.zero_le _
 | x :: l, h => by
  have h1 := qFi l fun n hn => h n (List.mem_cons_of_mem _ hn)
  have hx := h x (List.mem_cons_self ..)
  have h2 : (Lib.itoa x).length ≤ 21 := qDd x hx.1 hx.2
  simp [wantL]; omega
theorem qK4 (l : List Int) : (l.map vI).map ownV = l.map vI := by
 rw [List.map_map]; exact List.map_congr_left fun n _ => by show ownV (vI n) = vI n; rw [qDD]; rfl
theorem qNV {ks : List (List UInt8)} {K : Cell} (B : Bears 1 K (ks.map sRow)) : ∃ a : Sl (List UInt8), K.strip = .p (slP 1 sRow a) ∧ a.list = ks ∧ K.strip.refs = [] := by
 rcases B with ⟨h1, rfl⟩ | ⟨h1, r, rfl⟩
 ·refine ⟨.nil, rfl, ?_, rfl⟩
  have : ks = [] := by simpa using h1
  rw [this]; rfl
 ·exact ⟨.mk false ks, rfl, rfl, rfl⟩
theorem qNw {ns : List Int} {L : Cell} (B : Bears 6 L (ns.map fun n => (vI n).row)) : ∃ a : Sl VT, L.strip = .p (slP 6 VT.row a) ∧ a.list = ns.map vI ∧ L.strip.refs = [] := by
 rcases B with ⟨h1, rfl⟩ | ⟨h1, r, rfl⟩
 ·refine ⟨.nil, rfl, ?_, rfl⟩
  have : ns = [] := by simpa using h1
  rw [this]; rfl
 ·exact ⟨.mk false (ns.map vI), by show Cell.p (.slice 6 false (ns.map fun n => (vI n).row)) = .p (.slice 6 false ((ns.map vI).map VT.row)); rw [List.map_map]; rfl, rfl, rfl⟩
theorem qNL (ns : List Int) (hr : ∀ n ∈ ns, rngI n) (hn : ns.length ≤ 20) (v : VT) (hk : v.kind = 4 ∨ v.kind = 5) (hb : v.b = false) (hs : v.s = []) (hkl : v.keys.len ≤ 1000) (hl : v.l.list = ns.map vI) :
  ∃ qs, Om 8 [.v (.c (.p (treeP elsP true))), aC (vC v), kP (.im 0), aC limC] clC = some (.tup [.c (.p (.slice 1 false ((if ns = [] then [110, 111, 110, 101] else wantL ns).map byR))), .c (.p (.int .i64 (if ns = [] then 3 else 2 + 4 * (ns.length : Int)))), .c (.p (.int .i64 0))], qs) ∧ 3 ≤ qs.length := by
 have hlen : v.l.len = ns.length := by unfold Sl.len; rw [hl, List.length_map]
 have smI : ∀ n, smV (vI n) := fun n => (qCy _).2 ⟨by show 0 ≤ 100000; decide, by show 0 ≤ 1000; decide, by show 0 ≤ 1000; decide, fun x hx => by cases hx⟩
 have sm : smV v := (qCy _).2 ⟨by rw [hs]; show 0 ≤ 100000; decide, hkl, by omega, fun x hx => by rw [hl] at hx; obtain ⟨n, _, rfl⟩ := List.mem_map.1 hx; exact smI n⟩
 have hol : (ownV v).l.list = ns.map vI := by
  rw [qDD]
  show (ownS v.l).list = _
  cases hvl : v.l with
  | nil => rw [hvl] at hl; rw [← hl]; rfl
  | mk t l => rw [hvl] at hl; rw [qHH]; show l.map ownV = _; rw [show l = ns.map vI from hl, qK4]
 have hok : (ownV v).kind = 4 ∨ (ownV v).kind = 5 := by rw [qDD]; exact hk
 have holen : (ownV v).l.len = ns.length := by unfold Sl.len; rw [hol, List.length_map]
 have R0 : (bodyP : PVal) = bodyP := rfl
 by_cases h0 : ns = []
 ·rw [if_pos h0, if_pos h0]
  have M := qI4 (reT (treeP elsP true)) [] ([] ++ [110, 111, 110, 101]) 0 3 (ownV v) 0 elsP true (by decide) (by show (0 : Int) + 1 < 5000; decide) (by show (5000 : Int) ≤ 1000000; decide) (qJs (reT (treeP elsP true)) [] 2 (by show (65536 : Int) ≤ 1000000; decide) (by show (5000 : Int) ≤ 1000000; decide) (ownV v) (ownV v) 0 hok (by rw [holen, h0]; rfl) true (by show ((0 + 4 : Nat) : Int) ≤ 65536; decide) (by decide) (by show (2 : Int) < 5000; decide))
  exact qFz v sm 110 [111, 110, 101] 3 (treeP elsP true) true _ [] (.slice 9 false [raN elsP true]) rfl rfl M
 ·rw [if_neg h0, if_neg h0]
  have wl := qFi ns hr
  have hln : 0 < ns.length := List.length_pos_iff.2 h0
  have E := qMw (reT (treeP elsP true)) [] 2 (by show (65536 : Int) ≤ 1000000; decide) (by show (5000 : Int) ≤ 1000000; decide) (ownV v) (ownV v) 0 hok (by omega) (by omega) (fun x hx => by rw [hol] at hx; obtain ⟨n, hn', rfl⟩ := List.mem_map.1 hx; exact ⟨rfl, hr n hn'⟩) elsP true
   (by rw [hol, qEX]; show ((0 + (wantL ns).length : Nat) : Int) ≤ 65536; omega) (by decide) (by rw [holen]; show 2 + 4 * (ns.length : Int) ≤ 5000; omega)
  rw [hol, qEX, holen, List.nil_append] at E
  obtain ⟨b, l, hbl⟩ : ∃ b l, wantL ns = b :: l := by
   cases hw : wantL ns with
   | cons b l => exact ⟨b, l, rfl⟩
   | nil =>
    exfalso
    cases ns with
    | nil => exact h0 rfl
    | cons x l => simp [wantL] at hw
  rw [hbl] at E ⊢
  have M := qI4 (reT (treeP elsP true)) [] (b :: l) 0 (2 + 4 * (ns.length : Int)) (ownV v) 0 elsP true (by decide) (by show (0 : Int) + 1 < 5000; decide) (by show (5000 : Int) ≤ 1000000; decide) E
  exact qFz v sm b l _ (treeP elsP true) true _ [] (.slice 9 false [raN elsP true]) rfl rfl M
end Go.Proofs.YtlkejchbcchecaaGreatDoor.Ab
set_option maxHeartbeats 4000000
namespace Go.Proofs.YtlkejchbcchecaaGreatDoor.Ab
open Go Go.AI
theorem qD6 : ∀ s : List UInt8, bytesOfRows (s.map byR) = some s
 | [] => rfl
 | b :: s => by
  show (bytesOfRows (s.map byR)).map (UInt8.ofNat (b.toNat : Int).toNat :: ·) = _
  rw [qD6 s, Int.toNat_natCast]
  simp
theorem qIJ {β : Type} {O : Oracle} {h : Heap} {d : Nat} {k : TVal → Heap → Option β} (s : List UInt8) : vop O (.toStr (.k (.v (.c (.p (.slice 1 false (s.map byR))))))) h d k = k (kS s) h := by
 refine qAW _ _ ?_
 show (bytesOfRows (s.map byR)).map _ = _
 rw [qD6]; rfl
theorem qEN (s : Sl Int) (hs : s.len ≤ 20) (hr : ∀ n ∈ s.list, rngI n) (tb : Bool) (ks : List (List UInt8)) (hk : ks.length ≤ 20) (K L : Cell) (h : Heap) (H : VH tb s.list ks K L h) (w : List UInt8) (hw : w = if s.list = [] then [110, 111, 110, 101] else wantL s.list) :
  lim tab.get S 3 0 4 [FS4 s, pO 5 1, kS w] h = some (kB true, []) := by
 obtain ⟨ak, k1, k2, k3⟩ := qNV H.bk
 obtain ⟨al, l1, l2, l3⟩ := qNw H.bl
 have UP := fun (β : Type) (k : TVal → Heap → Option β) (h : Heap) (d : Nat) => qAI (k := k) (h := h) (d := d) 7 [kS textQ] _ rfl qKi rfl
 obtain ⟨h1, t1, c1, c2, A1, K1, G1, L1, T1, T2⟩ := qKE (pl := [kNil]) rfl qBp qEj.1 h
 have e0 : (kP (.im 0)).ren (back [] clC.length (newRef h.ims.length)) = .v (.c (.ptr (.im (h.ims.length + 0)) 0)) := rfl
 rw [e0] at c1 c2
 generalize hρ : ((List.range clC.length).map fun i => Ref.im (h.ims.length + i)) = ρ at A1
 have r0 : ρ[0]? = some (.im (h.ims.length + 0)) := by rw [← hρ]; rfl
 generalize hr0 : Ref.im (h.ims.length + 0) = r at c1 c2 r0
 obtain ⟨qs, hq, hql⟩ := qNL s.list hr hs (.mk (if tb = true ∧ s.list ≠ [] then 5 else 4) false 0 [] ak al) (by show (if _ then (5 : Int) else 4) = 4 ∨ (if _ then (5 : Int) else 4) = 5; split <;> simp) rfl rfl (by show ak.list.length ≤ 1000; rw [k2]; omega) l2
 generalize hkd : (if tb = true ∧ s.list ≠ [] then (5 : Int) else 4) = kd at hq
 have v5 := H.v5
 rw [hkd] at v5
 have hin : inn ρ r = some (.im 0) := qA0 A1.nodup r0
 obtain ⟨h2, t2, d1, d2, _⟩ := qJe (O := Om) (g := 8) (ps := []) (qs' := []) [.v (.c (.p (treeP elsP true))), aC [.p (.int .i64 kd), .p (.bool false), .p (.int .i64 0), .p (.str []), K, L], .v (.c (.ptr r 0)), aC limC]
  [.v (.c (.p (treeP elsP true))), aC [.p (.int .i64 kd), .p (.bool false), .p (.int .i64 0), .p (.str []), .p (slP 1 sRow ak), .p (slP 6 VT.row al)], .v (.c (.ptr r 0)), aC limC] _
  (by
   show [_, TVal.v (.agg [.p (.int .i64 kd), .p (.bool false), .p (.int .i64 0), .p (.str []), K.strip, L.strip]), _, _] = _
   rw [k1, l1]; rfl) rfl (by
   simp only [List.map_cons, List.map_nil, TVal.ren, Comp.ren, Cell.ren, hin]
   rfl) hq qEj (by decide) hql rfl A1 r0
 have C1 := fun (β : Type) (kt : TVal → Heap → AI.Touch → Option β) => c2 (β := β) 73 kt
 have D1 := fun (β : Type) (kt : TVal → Heap → AI.Touch → Option β) => d2 (β := β) 75 kt
 simp only [List.map_cons, List.map_nil] at C1 D1
 have B1 : ∀ (β : Type) (kt : TVal → Heap → AI.Touch → Option β) (h : Heap), vtouch Om (.build [.p (.int .i64 0), .p (.int .i64 0), .p (.int .i64 0)] [(0, 1, .k (kI 5000)), (2, 1, .k (kI (-1)))]) h 74 kt = kt (aC limC) h noTouch := fun _ _ _ => rfl
 have TA := qJH T1 T2 5 1
 rw [w3_4, b3_4]
 simp (maxSteps := 9999999) +contextual only [exa, ne_eq, not_false_eq_true, reduceAdd, reduceMul, reduceLT, reduceLeDiff, reduceEqDiff, Int.reduceLT, Int.reduceLE, Int.reduceEq, Int.reduceToNat, exW, exY, UP, v5, C1, D1, B1, TA]
 have fin : ∀ (u : List UInt8) (n : Int), lim tab.get S 3 0 5 [kS u, kI 0, .v (.c (.p (.slice 1 false (u.map byR)))), kI n, kI 0, kI n] h2 = some (kB true, []) := fun u n => by
  rw [w3_5, b3_5]
  simp (maxSteps := 9999999) +contextual only [exa, ne_eq, not_false_eq_true, reduceAdd, reduceMul, reduceLT, reduceLeDiff, reduceEqDiff, Int.reduceLT, Int.reduceLE, Int.reduceEq, Int.reduceToNat, qIJ, BEq.rfl]
 by_cases h0 : s.list = []
 ·have hl : (s.len : Int) = 0 := by unfold Sl.len; rw [h0]; rfl
  rw [if_pos h0] at hw
  rw [if_pos h0, if_pos h0, hw]
  simp (maxSteps := 9999999) +contextual only [exa, ne_eq, not_false_eq_true, reduceAdd, reduceMul, reduceLT, reduceLeDiff, reduceEqDiff, Int.reduceLT, Int.reduceLE, Int.reduceEq, Int.reduceToNat, hl]
  exact fin _ 3
 ·have hl : ¬ (s.len : Int) = 0 := by
   have := List.length_pos_iff.2 h0
   unfold Sl.len; omega
  have w1 : IntKind.i64.wrap (4 * (s.len : Int)) = 4 * (s.len : Int) := qAF _ (by omega) (by omega)
  have w2 : IntKind.i64.wrap (2 + 4 * (s.len : Int)) = 2 + 4 * (s.len : Int) := qAF _ (by omega) (by omega)
  rw [if_neg h0] at hw
  rw [if_neg h0, if_neg h0, hw, w1, w2]
  simp (maxSteps := 9999999) +contextual only [exa, ne_eq, not_false_eq_true, reduceAdd, reduceMul, reduceLT, reduceLeDiff, reduceEqDiff, Int.reduceLT, Int.reduceLE, Int.reduceEq, Int.reduceToNat, hl]
  exact fin _ _
theorem ranges_law (o : Option (List Int)) (tb : Bool) (g : ∀ n ∈ intsL o, -9223372036854775808 ≤ n ∧ n ≤ 9223372036854775807) (b : (intsL o).length ≤ 140737488351232) :
  orc S (lim tab.get S) 3 [.pv (intsP .i64 o), .pv (.bool tb)] [] = some (kB true, []) := by
 rw [qKY]
 have hg : ∀ n ∈ (fargI o).list, rngI n := by cases o <;> exact g
 have hb : (fargI o).len ≤ 140737488351232 := by cases o <;> exact b
 generalize fargI o = s at *
 refine (qAE rfl).trans ?_
 show lim tab.get S 3 0 0 [FS4 s, kB tb] Go.AI.h0 = _
 have U5 := fun (β : Type) (k : TVal → Heap → Option β) (h : Heap) (d : Nat) => qAI (k := k) (h := h) (d := d) 5 [] _ rfl qNr rfl
 rw [w3_0, b3_0]
 by_cases h20 : (20 : Int) < (s.len : Int)
 ·simp (maxSteps := 9999999) +contextual only [exa, ne_eq, not_false_eq_true, reduceAdd, reduceMul, reduceLT, reduceLeDiff, reduceEqDiff, Int.reduceLT, Int.reduceLE, Int.reduceEq, Int.reduceToNat, U5, h20]
 ·have BB : ∀ (β : Type) (k : TVal → Heap → Option β) (h : Heap), vop Om (.build [.p (.int .i64 0), .p (.bool false), .p (.int .i64 0), .p (.str []), .p .nilslice, .p .nilslice] [(0, 1, .k (kI 4))]) h 23 k = k (aC [.p (.int .i64 4), .p (.bool false), .p (.int .i64 0), .p (.str []), .p .nilslice, .p .nilslice]) h := fun _ _ _ => rfl
  have P6 : ∀ a b c d e f : Cell, put1 [.p (.int .i64 0), .p (.bool false), .p (.int .i64 0), .p (.str []), .p .nilslice, .p .nilslice] 0 [a, b, c, d, e, f] = [a, b, c, d, e, f] := fun _ _ _ _ _ _ => rfl
  simp (maxSteps := 9999999) +contextual only [exa, ne_eq, not_false_eq_true, reduceAdd, reduceMul, reduceLT, reduceLeDiff, reduceEqDiff, Int.reduceLT, Int.reduceLE, Int.reduceEq, Int.reduceToNat, U5, h20, BB, P6]
  generalize hh : ((Go.AI.h0.own 5 1 _).own 5 1 _) = h1
  have H : VH tb [] [] (.p .nilslice) (.p .nilslice) h1 := by
   refine ⟨by rw [← hh, if_neg (by simp)]; simp only [exa, ne_eq, not_false_eq_true, reduceAdd, reduceMul, reduceLT, reduceLeDiff, reduceEqDiff, Int.reduceLT, Int.reduceLE, Int.reduceEq, Int.reduceToNat], .inl ⟨rfl, rfl⟩, .inl ⟨rfl, rfl⟩, .inl ⟨rfl, rfl⟩, .inl ⟨rfl, rfl⟩⟩
  obtain ⟨h2, ks, K, L, k1, H2, e2⟩ := qLo tb s (by omega) hg 0 h1 [] [] _ _ [] rfl (Nat.zero_le _) (Nat.zero_le _) H
  rw [List.drop_zero, List.nil_append] at H2
  rw [List.drop_zero, List.nil_append] at e2
  refine e2.trans ?_
  rw [w3_3, b3_3]
  by_cases h0 : s.list = []
  ·have hl : (s.len : Int) = 0 := by unfold Sl.len; rw [h0]; rfl
   simp (maxSteps := 9999999) +contextual only [exa, ne_eq, not_false_eq_true, reduceAdd, reduceMul, reduceLT, reduceLeDiff, reduceEqDiff, Int.reduceLT, Int.reduceLE, Int.reduceEq, Int.reduceToNat, hl]
   exact qEN s (by omega) hg tb ks (by omega) K L h2 H2 _ (by rw [if_pos h0])
  ·have hl : ¬ (s.len : Int) = 0 := by
    have := List.length_pos_iff.2 h0
    unfold Sl.len; omega
   simp (maxSteps := 9999999) +contextual only [exa, ne_eq, not_false_eq_true, reduceAdd, reduceMul, reduceLT, reduceLeDiff, reduceEqDiff, Int.reduceLT, Int.reduceLE, Int.reduceEq, Int.reduceToNat, hl]
   exact qEN s (by omega) hg tb ks (by omega) K L h2 H2 _ (by rw [if_neg h0])
end Go.Proofs.YtlkejchbcchecaaGreatDoor.Ab
