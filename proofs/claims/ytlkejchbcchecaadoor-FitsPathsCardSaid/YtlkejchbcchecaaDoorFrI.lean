/- Values that are of a type: the walk of fits. -/
import Derived.Test.YtlkejchbcchecaaDoorFrH
set_option linter.all false
set_option linter.unusedVariables false
set_option linter.unusedSimpArgs false
set_option maxRecDepth 100000
namespace Go.Proofs.YtlkejchbcchecaaDoor.Ab
open Go Go.AI
def catM (a b : List UInt8) : Option (List UInt8) := if a.length + b.length ≤ 4611686018427387904 then some (a ++ b) else none
theorem catM_some {a b c : List UInt8} (h : catM a b = some c) : decide (a.length + b.length ≤ 4611686018427387904) = true ∧ c = a ++ b := by
 unfold catM at h
 by_cases h1 : a.length + b.length ≤ 4611686018427387904
 ·rw [if_pos h1] at h; exact ⟨decide_eq_true h1, (Option.some.inj h).symm⟩
 ·rw [if_neg h1] at h; cases h
abbrev FitR := Option (List UInt8 × Bool)
def eachL (F : TT → VT → FitR) (place : Nat → Option (List UInt8)) (t : TT) : List VT → Nat → FitR
 | [], _ => some ([], true)
 | x :: l, i => (F t x).bind fun r => if r.2 = true then eachL F place t l (i + 1) else (place i).bind fun s => (catM s r.1).map fun p => (p, false)
def eachF (F : TT → VT → FitR) (place : Nat → Option (List UInt8)) (t : TT) (v : VT) (kd : Int) : FitR :=
 if (!decide (v.kind = kd) || !decide ((t.kids.len : Int) = 1)) = true then some ([], false) else eachL F place (t.kids.list.headD nulT) v.l.list 0
def recN (F : TT → VT → FitR) (m : TyM) (t : TT) (v : VT) : List (List UInt8) → Nat → Option (Option (List UInt8))
 | [], _ => some none
 | a :: l, i => match t.kids.list[i]? with
  | none => (catM [46] a).map some
  | some kt => match (idxM a v.keys.list).bind fun k => v.l.list[k]? with
   | none => if (fopen m kt).kind = 6 then recN F m t v l (i + 1) else (catM [46] a).map some
   | some x => (F kt x).bind fun r => if r.2 = true then recN F m t v l (i + 1) else (catM [46] a).bind fun q => (catM q r.1).map some
def keysF (t : TT) : List (List UInt8) → Option (Option (List UInt8))
 | [] => some none
 | k :: l => if (idxM k t.names.list).isSome = true then keysF t l else (catM [46] k).map some
def recF (F : TT → VT → FitR) (m : TyM) (t : TT) (v : VT) : FitR :=
 if v.kind = 5 then (recN F m t v t.names.list 0).bind fun o => match o with
  | some p => some (p, false)
  | none => (keysF t v.keys.list).map fun o => match o with
   | some p => (p, false)
   | none => ([], true)
 else some ([], false)
def unionF (F : TT → VT → FitR) (t : TT) (v : VT) : FitR :=
 if ((!decide (v.kind = 5) || !decide ((v.keys.len : Int) = 1)) || !decide ((v.l.len : Int) = 1)) = true then some ([], false) else
 match (idxM (v.keys.list.headD []) t.names.list).bind fun i => t.kids.list[i]? with
 | none => some ([], false)
 | some kt => (F kt (v.l.list.headD .nul)).bind fun r => if r.2 = true then some r else (catM [46] (v.keys.list.headD [])).bind fun q => (catM q r.1).map fun p => (p, false)
def bigB (t : TT) (v : VT) : Bool := decide (4611686018427387904 ≤ t.names.len) || decide (4611686018427387904 ≤ t.kids.len) || decide (4611686018427387904 ≤ v.keys.len) || decide (4611686018427387904 ≤ v.l.len)
def fitF (m : TyM) : Nat → TT → VT → FitR
 | 0, _, _ => none
 | n + 1, t0, v => if bigB (fopen m t0) v = true then none else
  if (fopen m t0).kind = 1 then some ([], decide (v.kind = 1)) else if (fopen m t0).kind = 2 then some ([], decide (v.kind = 2)) else if (fopen m t0).kind = 3 then some ([], decide (v.kind = 3)) else
  if (fopen m t0).kind = 4 then eachF (fitF m n) placeL (fopen m t0) v 4 else if (fopen m t0).kind = 5 then eachF (fitF m n) (placeM v) (fopen m t0) v 5 else
  if (fopen m t0).kind = 6 then (if (decide (v.kind = 0) || !decide (((fopen m t0).kids.len : Int) = 1)) = true then some ([], decide (v.kind = 0)) else fitF m n ((fopen m t0).kids.list.headD nulT) v) else
  if (fopen m t0).kind = 7 then recF (fitF m n) m (fopen m t0) v else if (fopen m t0).kind = 8 then unionF (fitF m n) (fopen m t0) v else some ([], false)
abbrev fitV' (r : List UInt8 × Bool) : TVal := .tup [.c (.p (.str r.1)), .c (.p (.bool r.2))]
def FitOK (m : TyM) (F : TT → VT → FitR) : Prop := ∀ t v r, F t v = some r → Om 58 [fmV m, kA t.row, kA v.row] [] = some (fitV' r, [])
theorem FitOK.u {m : TyM} {F : TT → VT → FitR} (H : FitOK m F) {β : Type} {k : TVal → Heap → Option β} {h : Heap} {d : Nat} {t : TT} {v : VT} {r : List UInt8 × Bool} (e : F t v = some r) : vcall Om (.v (.c (.func 58 []))) [fmV m, kA t.row, kA v.row] h d k = k (fitV' r) h := vcall_pure 58 _ _ (by simp only [exP]) (H t v r e) (by simp only [exP])
theorem each_loop {m : TyM} {F : TT → VT → FitR} (H : FitOK m F) (t kt : TT) (v : VT) (hk : t.kids.list[0]? = some kt) (hl : v.l.len < 4611686018427387904) (q : Nat) (clo : TVal) (objs : List AObj) (P : Heap → Prop) (place : Nat → Option (List UInt8))
  (hP : ∀ h d g o, P h → P (h.own d g o)) (hplace : ∀ (i : Nat) (s : List UInt8) (h : Heap) (d : Nat) (β : Type) (k : TVal → Heap → Option β), P h → place i = some s → vcall Om clo [kI (i : Int)] h d k = k (kS s) h)
  (hfin : ∀ (h : Heap) (x y : PVal), P h → vfin true q [.c (.p x), .c (.p y)] h = some (.tup [.c (.p x), .c (.p y)], objs)) :
  ∀ (i : Nat) (h : Heap) (r : List UInt8 × Bool), P h → h.get (.own 6 1) = some (.cells (pcells t.row) 0) → eachL F place kt (v.l.list.drop i) i = some r →
   lim tab.get S 114 q 1 [fmV m, clo, pO 6 1, .v (.c (.p (slP 6 VT.row v.l))), kI (v.l.len : Int), kI (i : Int)] h = some (fitV' r, objs) := by
 refine loop_up v.l.len (fun i hi h r hp ht he => ?_) (fun i hi ih h r hp ht he => ?_) <;> rw [w114_1, b114_1]
 ·have h1 : ¬ (i : Int) < (v.l.len : Int) := by omega
  rw [at_end hi] at he
  cases he
  simp (config := { maxSteps := 10000000 }) +contextual only [exa, ne_eq, not_false_eq_true, Nat.reduceAdd, Nat.reduceMul, Nat.reduceLT, Nat.reduceLeDiff, Nat.reduceEqDiff, Int.reduceLT, Int.reduceLE, Int.reduceEq, Int.reduceToNat, h1]
  exact hfin _ _ _ hp
 ·have h1 : (i : Int) < (v.l.len : Int) := by omega
  obtain ⟨x, hx, h2, _⟩ := at_step hi
  rw [h2] at he
  unfold eachL at he
  obtain ⟨r1, e1, e2⟩ := Option.bind_eq_some_iff.1 he
  obtain ⟨p, b⟩ := r1
  cases b
  ·simp only [Bool.false_eq_true, if_false] at e2
   obtain ⟨s, s1, s2⟩ := Option.bind_eq_some_iff.1 e2
   obtain ⟨c, c1, c2⟩ := Option.map_eq_some_iff.1 s2
   obtain ⟨c3, c4⟩ := catM_some c1
   subst c2; subst c4
   simp (config := { maxSteps := 10000000 }) +contextual only [exa, ne_eq, not_false_eq_true, Nat.reduceAdd, Nat.reduceMul, Nat.reduceLT, Nat.reduceLeDiff, Nat.reduceEqDiff, Int.reduceLT, Int.reduceLE, Int.reduceEq, Int.reduceToNat, h1, hx, ht, hk, H.u e1]
   refine (hplace i s _ 48 _ _ (hP _ _ _ _ (hP _ _ _ _ hp)) s1).trans ?_
   simp (config := { maxSteps := 10000000 }) +contextual only [exa, ne_eq, not_false_eq_true, Nat.reduceAdd, Nat.reduceMul, Nat.reduceLT, Nat.reduceLeDiff, Nat.reduceEqDiff, Int.reduceLT, Int.reduceLE, Int.reduceEq, Int.reduceToNat, c3]
   exact hfin _ _ _ (hP _ _ _ _ (hP _ _ _ _ hp))
  ·simp only [if_true] at e2
   simp (config := { maxSteps := 10000000 }) +contextual only [exa, ne_eq, not_false_eq_true, Nat.reduceAdd, Nat.reduceMul, Nat.reduceLT, Nat.reduceLeDiff, Nat.reduceEqDiff, Int.reduceLT, Int.reduceLE, Int.reduceEq, Int.reduceToNat, h1, hx, ht, hk, H.u e1, wrapS i (by omega)]
   exact ih _ r (hP _ _ _ _ (hP _ _ _ _ hp)) (by simp only [exa, ne_eq, not_false_eq_true, Nat.reduceAdd, Nat.reduceMul, Nat.reduceLT, Nat.reduceLeDiff, Nat.reduceEqDiff, Int.reduceLT, Int.reduceLE, Int.reduceEq, Int.reduceToNat, ht]) e2
theorem each_ok {m : TyM} {F : TT → VT → FitR} (H : FitOK m F) (t : TT) (v : VT) (hl : v.l.len < 4611686018427387904) (q : Nat) (kd : Int) (clo : TVal) (objs : List AObj) (P : Heap → Prop) (place : Nat → Option (List UInt8))
  (hP : ∀ h d g o, P h → P (h.own d g o)) (hplace : ∀ (i : Nat) (s : List UInt8) (h : Heap) (d : Nat) (β : Type) (k : TVal → Heap → Option β), P h → place i = some s → vcall Om clo [kI (i : Int)] h d k = k (kS s) h)
  (hfin : ∀ (h : Heap) (x y : PVal), P h → vfin true q [.c (.p x), .c (.p y)] h = some (.tup [.c (.p x), .c (.p y)], objs)) (hi : P { ims := objs, owns := .nil }) (r : List UInt8 × Bool) (he : eachF F place t v kd = some r) :
  lim tab.get S 114 q 0 [fmV m, kA t.row, kA v.row, kI kd, clo] { ims := objs, owns := .nil } = some (fitV' r, objs) := by
 rw [w114_0, b114_0]
 unfold eachF at he
 cases hc : (!decide (v.kind = kd) || !decide ((t.kids.len : Int) = 1))
 ·rw [hc] at he
  simp only [Bool.false_eq_true, if_false] at he
  obtain ⟨kt, hk⟩ : ∃ kt, t.kids.list = [kt] := by
   simp at hc
   have : t.kids.list.length = 1 := by have := hc.2; unfold Sl.len at this; omega
   exact List.length_eq_one_iff.1 this
  rw [hk] at he
  have := each_loop H t kt v (by rw [hk]; rfl) hl q clo objs P place hP hplace hfin 0 (((({ ims := objs, owns := .nil } : Heap).own 6 1 (.cells (pcells t.row) 0))).own 7 1 (.cells (pcells v.row) 0)) r (hP _ _ _ _ (hP _ _ _ _ hi)) (by simp only [exa, ne_eq, not_false_eq_true, Nat.reduceAdd, Nat.reduceMul, Nat.reduceLT, Nat.reduceLeDiff, Nat.reduceEqDiff, Int.reduceLT, Int.reduceLE, Int.reduceEq, Int.reduceToNat]) he
  simp (config := { maxSteps := 10000000 }) +contextual only [exa, ne_eq, not_false_eq_true, Nat.reduceAdd, Nat.reduceMul, Nat.reduceLT, Nat.reduceLeDiff, Nat.reduceEqDiff, Int.reduceLT, Int.reduceLE, Int.reduceEq, Int.reduceToNat, hc]
  exact this
 ·rw [hc] at he
  cases he
  simp (config := { maxSteps := 10000000 }) +contextual only [exa, ne_eq, not_false_eq_true, Nat.reduceAdd, Nat.reduceMul, Nat.reduceLT, Nat.reduceLeDiff, Nat.reduceEqDiff, Int.reduceLT, Int.reduceLE, Int.reduceEq, Int.reduceToNat, hc]
  exact hfin _ _ _ (hP _ _ _ _ (hP _ _ _ _ hi))
theorem eachL_ok {m : TyM} {F : TT → VT → FitR} (H : FitOK m F) (t : TT) (v : VT) (hl : v.l.len < 4611686018427387904) (r : List UInt8 × Bool) (he : eachF F placeL t v 4 = some r) : Om 114 [fmV m, kA t.row, kA v.row, kI 4, .v (.c (.func 115 []))] [] = some (fitV' r, []) := by
 refine (orc_none rfl).trans ?_
 exact each_ok H t v hl 0 4 _ [] (fun _ => True) placeL (fun _ _ _ _ _ => trivial) (fun i s h d β k _ hs => vcall_pure 115 _ _ rfl (placeL_ok i s hs) rfl) (fun h x y _ => x_fin2 true x y) trivial r he
theorem eachM_ok {m : TyM} {F : TT → VT → FitR} (H : FitOK m F) (t : TT) (v w : VT) (hl : v.l.len < 4611686018427387904) (r : List UInt8 × Bool) (he : eachF F (placeM w) t v 5 = some r) : Om 114 [fmV m, kA t.row, kA v.row, kI 5, .v (.c (.func 117 [.im 0]))] [.cells (pcells w.row) 0] = some (fitV' r, [.cells (pcells w.row) 0]) := by
 refine (orc_none rfl).trans ?_
 refine each_ok H t v hl 1 5 _ [.cells (pcells w.row) 0] (fun h => h.get (.im 0) = some (.cells (pcells w.row) 0)) (placeM w) (fun h d g o hp => hp) (fun i s h d β k hp hs => ?_) (fun h x y hp => ?_) rfl r he
 ·rw [x_clo]
  refine (vcall_p 117 (.im 0) 0 [kI (i : Int)] [] _ _ _ (by simp only [exP]) rfl hp (plainO_cells _ _) (plainO_cells _ _) rfl (placeM_ok w i s hs)).trans ?_
  rw [put_same0 0 _ hp]
 ·simp (config := { maxSteps := 10000000 }) +contextual only [exa, ne_eq, not_false_eq_true, Nat.reduceAdd, Nat.reduceMul, Nat.reduceLT, Nat.reduceLeDiff, Nat.reduceEqDiff, Int.reduceLT, Int.reduceLE, Int.reduceEq, Int.reduceToNat, hp]
theorem idxI_lt {x : List UInt8} {l : List (List UInt8)} {n : Nat} (h : idxM x l = some n) : n < l.length := by
 induction l generalizing n with
 | nil => cases h
 | cons a l ih =>
  unfold idxM at h
  by_cases hx : x = a
  ·rw [if_pos hx] at h; cases h; simp
  ·rw [if_neg hx] at h
   obtain ⟨j, e1, e2⟩ := Option.map_eq_some_iff.1 h
   have := ih e1
   simp; omega
theorem rec_keys (t : TT) (v : VT) (hn : t.names.len < 4611686018427387904) (hl : v.keys.len < 4611686018427387904) (h : Heap) (ht : h.get (.own 4 1) = some (.cells (pcells t.row) 0)) :
  ∀ (i : Nat) (o : Option (List UInt8)), keysF t (v.keys.list.drop i) = some o → lim tab.get S 118 0 4 [pO 4 1, .v (.c (.p (slP 1 sRow v.keys))), kI (v.keys.len : Int), kI (i : Int)] h = some (fitV' (match o with | some p => (p, false) | none => ([], true)), []) := by
 refine loop_up v.keys.len (fun i hi o he => ?_) (fun i hi ih o he => ?_) <;> rw [w118_4, b118_4]
 ·have h1 : ¬ (i : Int) < (v.keys.len : Int) := by omega
  rw [at_end hi] at he
  cases he
  simp (config := { maxSteps := 10000000 }) +contextual only [exa, ne_eq, not_false_eq_true, Nat.reduceAdd, Nat.reduceMul, Nat.reduceLT, Nat.reduceLeDiff, Nat.reduceEqDiff, Int.reduceLT, Int.reduceLE, Int.reduceEq, Int.reduceToNat, h1, oneOf]
 ·have h1 : (i : Int) < (v.keys.len : Int) := by omega
  obtain ⟨x, hx, h2, _⟩ := at_step hi
  rw [h2] at he
  unfold keysF at he
  cases hc : (idxM x t.names.list).isSome
  ·rw [hc] at he
   simp only [Bool.false_eq_true, if_false] at he
   obtain ⟨c, c1, c2⟩ := Option.map_eq_some_iff.1 he
   obtain ⟨c3, c4⟩ := catM_some c1
   subst c2; subst c4
   simp (config := { maxSteps := 10000000 }) +contextual only [ex, exG, exM, exV, exF, Option.map_some, Bool.not_true, Bool.not_false, Int.toNat_natCast, Nat.zero_add, Nat.reduceAdd, ht, decide_true, h1, hx, u139 t.names x hn, hc, c3, oneOf]
  ·rw [hc] at he
   simp only [if_true] at he
   simp (config := { maxSteps := 10000000 }) +contextual only [exa, ne_eq, not_false_eq_true, Nat.reduceAdd, Nat.reduceMul, Nat.reduceLT, Nat.reduceLeDiff, Nat.reduceEqDiff, Int.reduceLT, Int.reduceLE, Int.reduceEq, Int.reduceToNat, h1, ht, hx, u139 t.names x hn, hc, wrapS i (by omega)]
   exact ih o he
theorem rec_names {m : TyM} {F : TT → VT → FitR} (H : FitOK m F) (hm : m.length < 4611686018427387904) (t : TT) (v : VT) (hn : t.names.len < 4611686018427387904) (hl : v.keys.len < 4611686018427387904) (h : Heap) (ht : h.get (.own 4 1) = some (.cells (pcells t.row) 0)) (hv : h.get (.own 5 1) = some (.cells (pcells v.row) 0)) :
  ∀ (i : Nat) (o : Option (List UInt8)), recN F m t v (t.names.list.drop i) i = some o → lim tab.get S 118 0 1 [fmV m, pO 4 1, pO 5 1, .v (.c (.p (slP 1 sRow t.names))), kI (t.names.len : Int), kI (i : Int)] h = match o with | some p => some (fitV' (p, false), []) | none => lim tab.get S 118 0 3 [pO 4 1, pO 5 1] h := by
 refine loop_up t.names.len (fun i hi o he => ?_) (fun i hi ih o he => ?_) <;> rw [w118_1, b118_1]
 ·have h1 : ¬ (i : Int) < (t.names.len : Int) := by omega
  rw [at_end hi] at he
  cases he
  simp (config := { maxSteps := 10000000 }) +contextual only [exa, ne_eq, not_false_eq_true, Nat.reduceAdd, Nat.reduceMul, Nat.reduceLT, Nat.reduceLeDiff, Nat.reduceEqDiff, Int.reduceLT, Int.reduceLE, Int.reduceEq, Int.reduceToNat, h1]
 ·have h1 : (i : Int) < (t.names.len : Int) := by omega
  obtain ⟨a, ha, h2, _⟩ := at_step hi
  rw [h2] at he
  unfold recN at he
  cases hk : t.kids.list[i]? with
  | none =>
   rw [hk] at he
   have h3 : ¬ (i : Int) < (t.kids.len : Int) := by have := List.getElem?_eq_none_iff.1 hk; unfold Sl.len; omega
   obtain ⟨c, c1, c2⟩ := Option.map_eq_some_iff.1 he
   obtain ⟨c3, c4⟩ := catM_some c1
   subst c2; subst c4
   simp (config := { maxSteps := 10000000 }) +contextual only [ex, exG, exM, exV, exF, Option.map_some, Bool.not_true, Bool.not_false, Int.toNat_natCast, Nat.zero_add, Nat.reduceAdd, ht, decide_true, decide_false, h1, h3, ha, c3, oneOf]
  | some kt =>
   rw [hk] at he
   dsimp only at he
   have h3 : (i : Int) < (t.kids.len : Int) := by obtain ⟨q, _⟩ := List.getElem?_eq_some_iff.1 hk; unfold Sl.len; omega
   cases hx : (idxM a v.keys.list).bind fun k => v.l.list[k]? with
   | none =>
    rw [hx] at he
    dsimp only at he
    have hmiss : (decide (idxI (idxM a v.keys.list) 0 < 0) || !decide (idxI (idxM a v.keys.list) 0 < (v.l.len : Int))) = true := by
     cases hi' : idxM a v.keys.list with
     | none => rfl
     | some j =>
      rw [hi'] at hx
      have : v.l.list.length ≤ j := by simpa using hx
      have h4 : ¬ idxI (some j) 0 < (v.l.len : Int) := by unfold idxI Sl.len; simp; omega
      rw [decide_eq_false h4]; simp
    by_cases h6 : (fopen m kt).kind = 6
    ·rw [if_pos h6] at he
     simp (config := { maxSteps := 10000000 }) +contextual only [exa, ne_eq, not_false_eq_true, Nat.reduceAdd, Nat.reduceMul, Nat.reduceLT, Nat.reduceLeDiff, Nat.reduceEqDiff, Int.reduceLT, Int.reduceLE, Int.reduceEq, Int.reduceToNat, h1, h3, ht, hv, ha, u131 v.keys a hl, hmiss, hk, u113 m kt hm, h6, w118_2, b118_2, wrapS i (by omega)]
     exact ih o he
    ·rw [if_neg h6] at he
     obtain ⟨c, c1, c2⟩ := Option.map_eq_some_iff.1 he
     obtain ⟨c3, c4⟩ := catM_some c1
     subst c2; subst c4
     simp (config := { maxSteps := 10000000 }) +contextual only [ex, exG, exM, exV, exF, Option.map_some, Bool.not_true, Bool.not_false, Int.toNat_natCast, Nat.zero_add, Nat.reduceAdd, ht, decide_true, decide_false, h1, h3, hv, ha, u131 v.keys a hl, hmiss, hk, u113 m kt hm, h6, c3, oneOf]
   | some x =>
    rw [hx] at he
    dsimp only at he
    obtain ⟨j, j1, j2⟩ := Option.bind_eq_some_iff.1 hx
    have hjl : j < v.l.len := by obtain ⟨q, _⟩ := List.getElem?_eq_some_iff.1 j2; exact q
    have hj : idxI (idxM a v.keys.list) 0 = (j : Int) := by rw [j1]; unfold idxI; simp
    have hj0 : ¬ (j : Int) < 0 := by omega
    have hj1 : (j : Int) < (v.l.len : Int) := by omega
    obtain ⟨r1, e1, e2⟩ := Option.bind_eq_some_iff.1 he
    obtain ⟨p, b⟩ := r1
    cases b
    ·simp only [Bool.false_eq_true, if_false] at e2
     obtain ⟨s, s1, s2⟩ := Option.bind_eq_some_iff.1 e2
     obtain ⟨c, c1, c2⟩ := Option.map_eq_some_iff.1 s2
     obtain ⟨c3, c4⟩ := catM_some s1
     subst c4
     obtain ⟨c5, c6⟩ := catM_some c1
     subst c2; subst c6
     simp (config := { maxSteps := 10000000 }) +contextual only [ex, exG, exM, exV, exF, List.getElem?_cons_zero, List.getElem?_cons_succ, Option.map_some, Bool.not_true, Bool.not_false, Bool.or_self, Int.toNat_natCast, Nat.zero_add, Nat.reduceAdd, ht, decide_true, decide_false, h1, h3, hv, ha, u131 v.keys a hl, hj, hj0, hj1, hk, j2, H.u e1, c3, c5, oneOf]
    ·simp only [if_true] at e2
     simp (config := { maxSteps := 10000000 }) +contextual only [exa, ne_eq, not_false_eq_true, Nat.reduceAdd, Nat.reduceMul, Nat.reduceLT, Nat.reduceLeDiff, Nat.reduceEqDiff, Int.reduceLT, Int.reduceLE, Int.reduceEq, Int.reduceToNat, h1, h3, ht, hv, ha, u131 v.keys a hl, hj, hj0, hj1, hk, j2, H.u e1, w118_2, b118_2, wrapS i (by omega)]
     exact ih o e2
end Go.Proofs.YtlkejchbcchecaaDoor.Ab
