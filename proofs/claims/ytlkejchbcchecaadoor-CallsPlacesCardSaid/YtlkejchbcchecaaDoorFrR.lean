/- Builtin functions of values: places. -/
import Derived.Test.YtlkejchbcchecaaDoorFrQ
set_option linter.all false
set_option linter.unusedVariables false
set_option linter.unusedSimpArgs false
set_option maxRecDepth 100000
namespace Go.Proofs.YtlkejchbcchecaaDoor.Ab
open Go Go.AI
/-! ### the document's Get -/
def getF (v : VT) (key : List UInt8) (i : Nat) : Option VT := if v.kind = 5 then (idxM key (v.keys.list.drop i)).bind fun j => (v.l.list.drop i)[j]? else none
theorem getF_zero (v : VT) (key : List UInt8) : getF v key 0 = getM v key := by unfold getF getM; rw [List.drop_zero, List.drop_zero]
theorem rget_none (h : Heap) (a4 : h.get (.own 4 1) = some (.cells [.p (.int .i64 0), .p (.bool false), .p (.int .i64 0), .p (.str []), .p .nilslice, .p .nilslice] 0)) : lim tab.get S 39 0 2 [.v (.c (.ptr (.own 4 1) 0))] h = some (ansG none, []) := by
 rw [w39_2, b39_2]
 simp (config := { maxSteps := 10000000 }) +contextual only [exa, ne_eq, not_false_eq_true, Nat.reduceAdd, Nat.reduceMul, Nat.reduceLT, Nat.reduceLeDiff, Nat.reduceEqDiff, Int.reduceLT, Int.reduceLE, Int.reduceEq, Int.reduceToNat, a4]
 rfl
theorem rget_loop (v : VT) (key : List UInt8) (h : Heap) (a2 : h.get (.own 2 1) = some (.cells (pcells v.row) 0)) (a4 : h.get (.own 4 1) = some (.cells [.p (.int .i64 0), .p (.bool false), .p (.int .i64 0), .p (.str []), .p .nilslice, .p .nilslice] 0)) (hb : v.keys.len ≤ 1000) :
  ∀ i : Nat, lim tab.get S 39 0 1 [kS key, s2, .v (.c (.ptr (.own 4 1) 0)), kI (i : Int)] h = some (ansG (getF v key i), []) := by
 refine loop_up v.keys.len (fun i hi => ?_) (fun i hi ih => ?_) <;> rw [w39_1, b39_1]
 ·have h1 : ¬ (i : Int) < (v.keys.len : Int) := by omega
  have : getF v key i = none := by unfold getF; rw [at_end hi]; split <;> rfl
  rw [this]
  simp (config := { maxSteps := 10000000 }) +contextual only [exa, ne_eq, not_false_eq_true, Nat.reduceAdd, Nat.reduceMul, Nat.reduceLT, Nat.reduceLeDiff, Nat.reduceEqDiff, Int.reduceLT, Int.reduceLE, Int.reduceEq, Int.reduceToNat, a2, a4, h1]
  exact rget_none h a4
 ·have h1 : (i : Int) < (v.keys.len : Int) := by omega
  obtain ⟨x, hx, e1, _⟩ := at_step hi
  by_cases hl : i < v.l.len
  ·have hl' : (i : Int) < (v.l.len : Int) := by omega
   obtain ⟨y, hy, e2, _⟩ := at_step (l := v.l.list) (i := i) hl
   by_cases hk : v.kind = 5
   ·by_cases hxy : x = key
    ·have : getF v key i = some y := by unfold getF; rw [if_pos hk, e1, e2, idxM, if_pos hxy.symm]; rfl
     rw [this]
     simp (config := { maxSteps := 10000000 }) +contextual only [exa, ne_eq, not_false_eq_true, Nat.reduceAdd, Nat.reduceMul, Nat.reduceLT, Nat.reduceLeDiff, Nat.reduceEqDiff, Int.reduceLT, Int.reduceLE, Int.reduceEq, Int.reduceToNat, a2, a4, h1, hl', hk, hx, hy, hxy, put1_z6 _ (VT.row_len y)]
     rfl
    ·have : getF v key i = getF v key (i + 1) := by
      unfold getF
      rw [if_pos hk, if_pos hk, e1, e2, idxM, if_neg (fun e => hxy e.symm)]
      cases idxM key (v.keys.list.drop (i + 1)) <;> rfl
     rw [this]
     simp (config := { maxSteps := 10000000 }) +contextual only [exa, ne_eq, not_false_eq_true, Nat.reduceAdd, Nat.reduceMul, Nat.reduceLT, Nat.reduceLeDiff, Nat.reduceEqDiff, Int.reduceLT, Int.reduceLE, Int.reduceEq, Int.reduceToNat, a2, a4, h1, hl', hk, hx, hy, hxy, wrapS i (by omega), ih]
   ·have : getF v key i = none := by unfold getF; rw [if_neg hk]
    rw [this]
    simp (config := { maxSteps := 10000000 }) +contextual only [exa, ne_eq, not_false_eq_true, Nat.reduceAdd, Nat.reduceMul, Nat.reduceLT, Nat.reduceLeDiff, Nat.reduceEqDiff, Int.reduceLT, Int.reduceLE, Int.reduceEq, Int.reduceToNat, a2, a4, h1, hl', hk]
    exact rget_none h a4
  ·have hl' : ¬ (i : Int) < (v.l.len : Int) := by omega
   have : getF v key i = none := by
    unfold getF
    rw [at_end (l := v.l.list) (i := i) (by unfold Sl.len at hl; omega)]
    split
    ·cases idxM key (v.keys.list.drop i) <;> rfl
    ·rfl
   rw [this]
   simp (config := { maxSteps := 10000000 }) +contextual only [exa, ne_eq, not_false_eq_true, Nat.reduceAdd, Nat.reduceMul, Nat.reduceLT, Nat.reduceLeDiff, Nat.reduceEqDiff, Int.reduceLT, Int.reduceLE, Int.reduceEq, Int.reduceToNat, a2, a4, h1, hl']
   exact rget_none h a4
theorem rget_ok (v : VT) (key : List UInt8) (hb : v.keys.len ≤ 1000) : Om 39 [kA v.row, kS key] [] = some (ansG (getM v key), []) := by
 refine (orc_none rfl).trans ?_
 show lim tab.get S 39 0 0 [kA v.row, kS key] h0 = _
 rw [w39_0, b39_0]
 simp (config := { maxSteps := 10000000 }) +contextual only [exa, ne_eq, not_false_eq_true, Nat.reduceAdd, Nat.reduceMul, Nat.reduceLT, Nat.reduceLeDiff, Nat.reduceEqDiff, Int.reduceLT, Int.reduceLE, Int.reduceEq, Int.reduceToNat]
 rw [← getF_zero]
 exact rget_loop v key _ rfl rfl hb 0
theorem u39 {β : Type} {k : TVal → Heap → Option β} {h : Heap} {d : Nat} (v : VT) (key : List UInt8) (hb : v.keys.len ≤ 1000) : vcall Om (.v (.c (.func 39 []))) [kA v.row, kS key] h d k = k (ansG (getM v key)) h :=
 vcall_pure 39 _ _ (by simp only [exP]) (rget_ok v key hb) (by cases getM v key <;> simp only [ansG, exP])
/-! ### kinds -/
def areM : List VT → List Int → Bool
 | v :: l, k :: ks => if v.kind = k then areM l ks else false
 | _, _ => true
theorem are_loop (t : Bool) (l : List VT) (ks : List Int) (hl : ks.length ≤ l.length) (hb : l.length ≤ 1000) (h : Heap) :
  ∀ i : Nat, lim tab.get S 92 0 1 [kSl 6 t (l.map VT.row), kSl 1 true (ks.map iRow), kI (ks.length : Int), kI (i : Int)] h = some (kB (areM (l.drop i) (ks.drop i)), []) := by
 refine loop_up ks.length (fun i hi => ?_) (fun i hi ih => ?_) <;> rw [w92_1, b92_1]
 ·have h1 : ¬ (i : Int) < (ks.length : Int) := by omega
  rw [at_end hi]
  simp (config := { maxSteps := 10000000 }) +contextual only [exa, ne_eq, not_false_eq_true, Nat.reduceAdd, Nat.reduceMul, Nat.reduceLT, Nat.reduceLeDiff, Nat.reduceEqDiff, Int.reduceLT, Int.reduceLE, Int.reduceEq, Int.reduceToNat, h1, oneOf]
  cases l.drop i <;> rfl
 ·have h1 : (i : Int) < (ks.length : Int) := by omega
  obtain ⟨c, hc, e1, _⟩ := at_step hi
  obtain ⟨v, hv, e2, _⟩ := at_step (l := l) (i := i) (by omega)
  have m1 : (l.map VT.row)[i]? = some v.row := by rw [List.getElem?_map, hv]; rfl
  have m2 : (ks.map iRow)[i]? = some (iRow c) := by rw [List.getElem?_map, hc]; rfl
  rw [e1, e2, areM]
  by_cases hk : v.kind = c
  ·simp (config := { maxSteps := 10000000 }) +contextual only [exa, ne_eq, not_false_eq_true, Nat.reduceAdd, Nat.reduceMul, Nat.reduceLT, Nat.reduceLeDiff, Nat.reduceEqDiff, Int.reduceLT, Int.reduceLE, Int.reduceEq, Int.reduceToNat, h1, m1, m2, hk, wrapS i (by omega), ih, if_true]
  ·simp (config := { maxSteps := 10000000 }) +contextual only [exa, ne_eq, not_false_eq_true, Nat.reduceAdd, Nat.reduceMul, Nat.reduceLT, Nat.reduceLeDiff, Nat.reduceEqDiff, Int.reduceLT, Int.reduceLE, Int.reduceEq, Int.reduceToNat, h1, m1, m2, hk, oneOf, if_false]
theorem are_ok (t : Bool) (l : List VT) (ks : List Int) (hl : ks.length ≤ l.length) (hb : l.length ≤ 1000) : Om 92 [kSl 6 t (l.map VT.row), kSl 1 true (ks.map iRow)] [] = some (kB (areM l ks), []) := by
 refine (orc_none rfl).trans ?_
 show lim tab.get S 92 0 0 [kSl 6 t (l.map VT.row), kSl 1 true (ks.map iRow)] h0 = _
 rw [w92_0, b92_0]
 simp (config := { maxSteps := 10000000 }) +contextual only [exa, ne_eq, not_false_eq_true, Nat.reduceAdd, Nat.reduceMul, Nat.reduceLT, Nat.reduceLeDiff, Nat.reduceEqDiff, Int.reduceLT, Int.reduceLE, Int.reduceEq, Int.reduceToNat, List.length_map]
 exact are_loop t l ks hl hb h0 0
theorem are2 {β : Type} {k : TVal → Heap → Option β} {h : Heap} {d : Nat} (t : Bool) (a b : VT) (p q : Int) : vcall Om (.v (.c (.func 92 []))) [kSl 6 t [a.row, b.row], kSl 1 true [[.int .i64 p], [.int .i64 q]]] h d k = k (kB (decide (a.kind = p) && decide (b.kind = q))) h := by
 refine (vcall_pure 92 [kSl 6 t [a.row, b.row], kSl 1 true [[.int .i64 p], [.int .i64 q]]] _ rfl (are_ok t [a, b] [p, q] (Nat.le_refl _) (by show 2 ≤ 1000; decide)) rfl).trans ?_
 by_cases h1 : a.kind = p <;> by_cases h2 : b.kind = q <;> simp [areM, h1, h2]
/-! ### Eval -/
def ansE (p : VT × Int) : TVal := .tup [.agg (pcells p.1.row), .c (.p (.int .i64 p.2))]
theorem ansE_pt (p : VT × Int) : pT (ansE p) = true := by simp only [ansE, exP]
def atM (v w : VT) : VT × Int := if (decide (v.kind = 4) && decide (w.kind = 2)) = false then (VT.nul, 17) else
 if w.n < 0 then (VT.nul, 32) else match v.l.list[w.n.toNat]? with
 | none => (VT.nul, 32)
 | some x => (ownV x, 0)
theorem at_ok (t : Bool) (v w : VT) (sm : smV v) : Om 91 [kSl 6 t [v.row, w.row]] [] = some (ansE (atM v w), []) := by
 obtain ⟨t1, t2, t3, t4⟩ := (smV_eq v).1 sm
 refine (orc_none rfl).trans ?_
 show lim tab.get S 91 0 0 [kSl 6 t [v.row, w.row]] h0 = _
 rw [w91_0, b91_0]
 unfold atM
 have e01 : ∀ (a b : List PVal), [a, b][(1 : Int).toNat]? = some b := fun _ _ => rfl
 have e00 : ∀ (a b : List PVal), [a, b][(0 : Int).toNat]? = some a := fun _ _ => rfl
 cases hk : (decide (v.kind = 4) && decide (w.kind = 2))
 ·simp (config := { maxSteps := 10000000 }) +contextual only [exa, ne_eq, not_false_eq_true, Nat.reduceAdd, Nat.reduceMul, Nat.reduceLT, Nat.reduceLeDiff, Nat.reduceEqDiff, Int.reduceLT, Int.reduceLE, Int.reduceEq, Int.reduceToNat, are2, hk, x_bslice2]
  rfl
 ·rw [if_neg (by simp)]
  by_cases h1 : w.n < 0
  ·rw [if_pos h1]
   simp (config := { maxSteps := 10000000 }) +contextual only [exa, ne_eq, not_false_eq_true, Nat.reduceAdd, Nat.reduceMul, Nat.reduceLT, Nat.reduceLeDiff, Nat.reduceEqDiff, Int.reduceLT, Int.reduceLE, Int.reduceEq, Int.reduceToNat, are2, hk, x_bslice2, h1, e00, e01]
   rfl
  ·rw [if_neg h1]
   by_cases h2 : w.n < (v.l.len : Int)
   ·obtain ⟨x, hx, _, mx⟩ := at_step (l := v.l.list) (i := w.n.toNat) (by unfold Sl.len at h2; omega)
    have h3 : (0 : Int) ≤ w.n := by omega
    rw [hx]
    simp (config := { maxSteps := 10000000 }) +contextual only [exa, ne_eq, not_false_eq_true, Nat.reduceAdd, Nat.reduceMul, Nat.reduceLT, Nat.reduceLeDiff, Nat.reduceEqDiff, Int.reduceLT, Int.reduceLE, Int.reduceEq, Int.reduceToNat, are2, hk, x_bslice2, h1, h2, h3, e00, e01, hx, u95 x (t4 x mx), put1_z6 _ (VT.row_len (ownV x))]
    rfl
   ·have hn : v.l.list[w.n.toNat]? = none := List.getElem?_eq_none (by unfold Sl.len at h2; omega)
    rw [hn]
    simp (config := { maxSteps := 10000000 }) +contextual only [exa, ne_eq, not_false_eq_true, Nat.reduceAdd, Nat.reduceMul, Nat.reduceLT, Nat.reduceLeDiff, Nat.reduceEqDiff, Int.reduceLT, Int.reduceLE, Int.reduceEq, Int.reduceToNat, are2, hk, x_bslice2, h1, h2, e00, e01]
    rfl
theorem u91 {β : Type} {k : TVal → Heap → Option β} {h : Heap} {d : Nat} (t : Bool) (v w : VT) (sm : smV v) : vcall Om (.v (.c (.func 91 []))) [kSl 6 t [v.row, w.row]] h d k = k (ansE (atM v w)) h := vcall_pure 91 _ _ rfl (at_ok t v w sm) (ansE_pt _)
def truthV (b : Bool) : VT := .mk 1 b 0 [] .nil .nil
theorem truth_ok (b : Bool) : Om 94 [kB b] [] = some (kA (truthV b).row, []) := by
 refine (orc_none rfl).trans ?_
 show lim tab.get S 94 0 0 [kB b] h0 = _
 rw [w94_0, b94_0]
 simp (config := { maxSteps := 10000000 }) +contextual only [exa, ne_eq, not_false_eq_true, Nat.reduceAdd, Nat.reduceMul, Nat.reduceLT, Nat.reduceLeDiff, Nat.reduceEqDiff, Int.reduceLT, Int.reduceLE, Int.reduceEq, Int.reduceToNat]
 rfl
theorem u94 {β : Type} {k : TVal → Heap → Option β} {h : Heap} {d : Nat} (b : Bool) : vcall Om (.v (.c (.func 94 []))) [kB b] h d k = k (kA (truthV b).row) h := vcall_pure 94 _ _ rfl (truth_ok b) (by simp only [exP])
theorem cast1 : ((1 : Nat) : Int) = 1 := rfl
theorem cast2 : ((2 : Nat) : Int) = 2 := rfl
abbrev n_len : List UInt8 := [108, 101, 110]
abbrev n_not : List UInt8 := [110, 111, 116]
abbrev n_and : List UInt8 := [97, 110, 100]
abbrev n_or : List UInt8 := [111, 114]
abbrev n_eq : List UInt8 := [101, 113]
abbrev n_lt : List UInt8 := [108, 116]
abbrev n_add : List UInt8 := [97, 100, 100]
abbrev n_sub : List UInt8 := [115, 117, 98]
abbrev n_mul : List UInt8 := [109, 117, 108]
abbrev n_shl : List UInt8 := [115, 104, 108]
abbrev n_shr : List UInt8 := [115, 104, 114]
abbrev n_i8 : List UInt8 := [105, 56]
abbrev n_i16 : List UInt8 := [105, 49, 54]
abbrev n_i32 : List UInt8 := [105, 51, 50]
abbrev n_u8 : List UInt8 := [117, 56]
abbrev n_u16 : List UInt8 := [117, 49, 54]
abbrev n_u32 : List UInt8 := [117, 51, 50]
abbrev n_cat : List UInt8 := [99, 97, 116]
abbrev n_text : List UInt8 := [116, 101, 120, 116]
abbrev n_at : List UInt8 := [97, 116]
abbrev n_get : List UInt8 := [103, 101, 116]
abbrev n_has : List UInt8 := [104, 97, 115]
abbrev n_orelse : List UInt8 := [111, 114, 101, 108, 115, 101]
theorem q_at : (decide (n_at = [108, 101, 110]) = false) ∧ (decide (n_at = [110, 111, 116]) = false) ∧ (decide (n_at = [97, 110, 100]) = false) ∧ (decide (n_at = [111, 114]) = false) ∧ (decide (n_at = [101, 113]) = false) ∧ (decide (n_at = [99, 97, 116]) = false) ∧ (decide (n_at = [116, 101, 120, 116]) = false) ∧ (decide (n_at = [97, 116]) = true) ∧ (decide (n_at = [103, 101, 116]) = false) ∧ (decide (n_at = [104, 97, 115]) = false) ∧ (decide (n_at = [111, 114, 101, 108, 115, 101]) = false) := ⟨id rfl, id rfl, id rfl, id rfl, id rfl, id rfl, id rfl, id rfl, id rfl, id rfl, id rfl⟩
theorem bu_at {β : Type} {k : TVal → Heap → Option β} {h : Heap} {d : Nat} : vcall Om (.v (.c (.func 84 []))) [kS n_at] h d k = k (kB true) h := vcall_pure 84 _ _ rfl ((orc_none rfl).trans (machU_le blks_ok 500 84 0 0 _ _ _ (by kernel_rfl))) rfl
theorem mu_at {β : Type} {k : TVal → Heap → Option β} {h : Heap} {d : Nat} : vcall Om (.v (.c (.func 85 []))) [kS n_at] h d k = k (kI 2) h := vcall_pure 85 _ _ rfl ((orc_none rfl).trans (machU_le blks_ok 500 85 0 0 _ _ _ (by kernel_rfl))) rfl
theorem q_get : (decide (n_get = [108, 101, 110]) = false) ∧ (decide (n_get = [110, 111, 116]) = false) ∧ (decide (n_get = [97, 110, 100]) = false) ∧ (decide (n_get = [111, 114]) = false) ∧ (decide (n_get = [101, 113]) = false) ∧ (decide (n_get = [99, 97, 116]) = false) ∧ (decide (n_get = [116, 101, 120, 116]) = false) ∧ (decide (n_get = [97, 116]) = false) ∧ (decide (n_get = [103, 101, 116]) = true) ∧ (decide (n_get = [104, 97, 115]) = false) ∧ (decide (n_get = [111, 114, 101, 108, 115, 101]) = false) := ⟨id rfl, id rfl, id rfl, id rfl, id rfl, id rfl, id rfl, id rfl, id rfl, id rfl, id rfl⟩
theorem bu_get {β : Type} {k : TVal → Heap → Option β} {h : Heap} {d : Nat} : vcall Om (.v (.c (.func 84 []))) [kS n_get] h d k = k (kB true) h := vcall_pure 84 _ _ rfl ((orc_none rfl).trans (machU_le blks_ok 500 84 0 0 _ _ _ (by kernel_rfl))) rfl
theorem mu_get {β : Type} {k : TVal → Heap → Option β} {h : Heap} {d : Nat} : vcall Om (.v (.c (.func 85 []))) [kS n_get] h d k = k (kI 2) h := vcall_pure 85 _ _ rfl ((orc_none rfl).trans (machU_le blks_ok 500 85 0 0 _ _ _ (by kernel_rfl))) rfl
theorem q_has : (decide (n_has = [108, 101, 110]) = false) ∧ (decide (n_has = [110, 111, 116]) = false) ∧ (decide (n_has = [97, 110, 100]) = false) ∧ (decide (n_has = [111, 114]) = false) ∧ (decide (n_has = [101, 113]) = false) ∧ (decide (n_has = [99, 97, 116]) = false) ∧ (decide (n_has = [116, 101, 120, 116]) = false) ∧ (decide (n_has = [97, 116]) = false) ∧ (decide (n_has = [103, 101, 116]) = false) ∧ (decide (n_has = [104, 97, 115]) = true) ∧ (decide (n_has = [111, 114, 101, 108, 115, 101]) = false) := ⟨id rfl, id rfl, id rfl, id rfl, id rfl, id rfl, id rfl, id rfl, id rfl, id rfl, id rfl⟩
theorem bu_has {β : Type} {k : TVal → Heap → Option β} {h : Heap} {d : Nat} : vcall Om (.v (.c (.func 84 []))) [kS n_has] h d k = k (kB true) h := vcall_pure 84 _ _ rfl ((orc_none rfl).trans (machU_le blks_ok 500 84 0 0 _ _ _ (by kernel_rfl))) rfl
theorem mu_has {β : Type} {k : TVal → Heap → Option β} {h : Heap} {d : Nat} : vcall Om (.v (.c (.func 85 []))) [kS n_has] h d k = k (kI 1) h := vcall_pure 85 _ _ rfl ((orc_none rfl).trans (machU_le blks_ok 500 85 0 0 _ _ _ (by kernel_rfl))) rfl
theorem q_orelse : (decide (n_orelse = [108, 101, 110]) = false) ∧ (decide (n_orelse = [110, 111, 116]) = false) ∧ (decide (n_orelse = [97, 110, 100]) = false) ∧ (decide (n_orelse = [111, 114]) = false) ∧ (decide (n_orelse = [101, 113]) = false) ∧ (decide (n_orelse = [99, 97, 116]) = false) ∧ (decide (n_orelse = [116, 101, 120, 116]) = false) ∧ (decide (n_orelse = [97, 116]) = false) ∧ (decide (n_orelse = [103, 101, 116]) = false) ∧ (decide (n_orelse = [104, 97, 115]) = false) ∧ (decide (n_orelse = [111, 114, 101, 108, 115, 101]) = true) := ⟨id rfl, id rfl, id rfl, id rfl, id rfl, id rfl, id rfl, id rfl, id rfl, id rfl, id rfl⟩
theorem bu_orelse {β : Type} {k : TVal → Heap → Option β} {h : Heap} {d : Nat} : vcall Om (.v (.c (.func 84 []))) [kS n_orelse] h d k = k (kB true) h := vcall_pure 84 _ _ rfl ((orc_none rfl).trans (machU_le blks_ok 500 84 0 0 _ _ _ (by kernel_rfl))) rfl
theorem mu_orelse {β : Type} {k : TVal → Heap → Option β} {h : Heap} {d : Nat} : vcall Om (.v (.c (.func 85 []))) [kS n_orelse] h d k = k (kI 2) h := vcall_pure 85 _ _ rfl ((orc_none rfl).trans (machU_le blks_ok 500 85 0 0 _ _ _ (by kernel_rfl))) rfl
theorem eval_at (t : Bool) (v w : VT) (sm : smV v) : Om 38 [kS n_at, kSl 6 t [v.row, w.row]] [] = some (ansE (atM v w), []) := by
 refine (orc_none rfl).trans ?_
 show lim tab.get S 38 0 0 [kS n_at, kSl 6 t [v.row, w.row]] h0 = _
 rw [w38_0, b38_0]
 simp (config := { maxSteps := 10000000 }) +contextual only [exa, ne_eq, not_false_eq_true, Nat.reduceAdd, Nat.reduceMul, Nat.reduceLT, Nat.reduceLeDiff, Nat.reduceEqDiff, Int.reduceLT, Int.reduceLE, Int.reduceEq, Int.reduceToNat, bu_at, mu_at, q_at, cast1, cast2]
 rw [w38_1, b38_1]
 simp (config := { maxSteps := 10000000 }) +contextual only [exa, ne_eq, not_false_eq_true, Nat.reduceAdd, Nat.reduceMul, Nat.reduceLT, Nat.reduceLeDiff, Nat.reduceEqDiff, Int.reduceLT, Int.reduceLE, Int.reduceEq, Int.reduceToNat, q_at]
 refine (u91 t v w sm).trans ?_
 generalize atM v w = p
 simp (config := { maxSteps := 10000000 }) +contextual only [exa, ne_eq, not_false_eq_true, Nat.reduceAdd, Nat.reduceMul, Nat.reduceLT, Nat.reduceLeDiff, Nat.reduceEqDiff, Int.reduceLT, Int.reduceLE, Int.reduceEq, Int.reduceToNat, ansE, put1_z6 _ (VT.row_len p.1)]
def getE (v w : VT) : VT × Int := if (decide (v.kind = 5) && decide (w.kind = 3)) = false then (VT.nul, 17) else match getM v w.s with
 | none => (VT.nul, 0)
 | some x => (ownV x, 0)
theorem eval_get (t : Bool) (v w : VT) (sm : smV v) : Om 38 [kS n_get, kSl 6 t [v.row, w.row]] [] = some (ansE (getE v w), []) := by
 refine (orc_none rfl).trans ?_
 show lim tab.get S 38 0 0 [kS n_get, kSl 6 t [v.row, w.row]] h0 = _
 rw [w38_0, b38_0]
 simp (config := { maxSteps := 10000000 }) +contextual only [exa, ne_eq, not_false_eq_true, Nat.reduceAdd, Nat.reduceMul, Nat.reduceLT, Nat.reduceLeDiff, Nat.reduceEqDiff, Int.reduceLT, Int.reduceLE, Int.reduceEq, Int.reduceToNat, bu_get, mu_get, q_get, cast1, cast2]
 rw [w38_1, b38_1]
 have e01 : ∀ (a b : List PVal), [a, b][(1 : Int).toNat]? = some b := fun _ _ => rfl
 have e00 : ∀ (a b : List PVal), [a, b][(0 : Int).toNat]? = some a := fun _ _ => rfl
 unfold getE
 cases hk : (decide (v.kind = 5) && decide (w.kind = 3))
 ·simp (config := { maxSteps := 10000000 }) +contextual only [exa, ne_eq, not_false_eq_true, Nat.reduceAdd, Nat.reduceMul, Nat.reduceLT, Nat.reduceLeDiff, Nat.reduceEqDiff, Int.reduceLT, Int.reduceLE, Int.reduceEq, Int.reduceToNat, q_get, are2, hk, x_bslice2]
  rfl
 ·simp (config := { maxSteps := 10000000 }) +contextual only [exa, ne_eq, not_false_eq_true, Nat.reduceAdd, Nat.reduceMul, Nat.reduceLT, Nat.reduceLeDiff, Nat.reduceEqDiff, Int.reduceLT, Int.reduceLE, Int.reduceEq, Int.reduceToNat, exY, q_get, are2, hk, x_bslice2, e00, e01, y93 v w.s sm]
  cases hg : getM v w.s with
  | none =>
   simp (config := { maxSteps := 10000000 }) +contextual only [exa, ne_eq, not_false_eq_true, Nat.reduceAdd, Nat.reduceMul, Nat.reduceLT, Nat.reduceLeDiff, Nat.reduceEqDiff, Int.reduceLT, Int.reduceLE, Int.reduceEq, Int.reduceToNat, exY, ansG, Option.map_none, t_alloc, t_store, put1_z6 _ (VT.row_len VT.nul)]
   rfl
  | some x =>
   simp (config := { maxSteps := 10000000 }) +contextual only [exa, ne_eq, not_false_eq_true, Nat.reduceAdd, Nat.reduceMul, Nat.reduceLT, Nat.reduceLeDiff, Nat.reduceEqDiff, Int.reduceLT, Int.reduceLE, Int.reduceEq, Int.reduceToNat, exY, ansG, Option.map_some, t_alloc, t_store, put1_z6 _ (VT.row_len (ownV x))]
   rfl
theorem eval_has (t : Bool) (v : VT) : Om 38 [kS n_has, kSl 6 t [v.row]] [] = some (ansE (truthV (!decide (v.kind = 0)), 0), []) := by
 refine (orc_none rfl).trans ?_
 show lim tab.get S 38 0 0 [kS n_has, kSl 6 t [v.row]] h0 = _
 rw [w38_0, b38_0]
 have e00 : ∀ (a : List PVal), [a][(0 : Int).toNat]? = some a := fun _ => rfl
 simp (config := { maxSteps := 10000000 }) +contextual only [exa, ne_eq, not_false_eq_true, Nat.reduceAdd, Nat.reduceMul, Nat.reduceLT, Nat.reduceLeDiff, Nat.reduceEqDiff, Int.reduceLT, Int.reduceLE, Int.reduceEq, Int.reduceToNat, bu_has, mu_has, q_has, cast1, cast2]
 rw [w38_1, b38_1]
 simp (config := { maxSteps := 10000000 }) +contextual only [exa, ne_eq, not_false_eq_true, Nat.reduceAdd, Nat.reduceMul, Nat.reduceLT, Nat.reduceLeDiff, Nat.reduceEqDiff, Int.reduceLT, Int.reduceLE, Int.reduceEq, Int.reduceToNat, q_has, e00, u94, put1_z6 _ (VT.row_len (truthV _))]
 rfl
def orM (v w : VT) : VT := if v.kind = 0 then w else v
theorem eval_or (t : Bool) (v w : VT) (sm : smV v) (sn : smV w) : Om 38 [kS n_orelse, kSl 6 t [v.row, w.row]] [] = some (ansE (ownV (orM v w), 0), []) := by
 refine (orc_none rfl).trans ?_
 show lim tab.get S 38 0 0 [kS n_orelse, kSl 6 t [v.row, w.row]] h0 = _
 rw [w38_0, b38_0]
 have e01 : ∀ (a b : List PVal), [a, b][(1 : Int).toNat]? = some b := fun _ _ => rfl
 have e00 : ∀ (a b : List PVal), [a, b][(0 : Int).toNat]? = some a := fun _ _ => rfl
 simp (config := { maxSteps := 10000000 }) +contextual only [exa, ne_eq, not_false_eq_true, Nat.reduceAdd, Nat.reduceMul, Nat.reduceLT, Nat.reduceLeDiff, Nat.reduceEqDiff, Int.reduceLT, Int.reduceLE, Int.reduceEq, Int.reduceToNat, bu_orelse, mu_orelse, q_orelse, cast1, cast2]
 rw [w38_1, b38_1]
 unfold orM
 by_cases hk : v.kind = 0
 ·rw [if_pos hk]
  simp (config := { maxSteps := 10000000 }) +contextual only [exa, ne_eq, not_false_eq_true, Nat.reduceAdd, Nat.reduceMul, Nat.reduceLT, Nat.reduceLeDiff, Nat.reduceEqDiff, Int.reduceLT, Int.reduceLE, Int.reduceEq, Int.reduceToNat, q_orelse, e00, e01, hk, u95 w sn, put1_z6 _ (VT.row_len (ownV w))]
  rfl
 ·rw [if_neg hk]
  simp (config := { maxSteps := 10000000 }) +contextual only [exa, ne_eq, not_false_eq_true, Nat.reduceAdd, Nat.reduceMul, Nat.reduceLT, Nat.reduceLeDiff, Nat.reduceEqDiff, Int.reduceLT, Int.reduceLE, Int.reduceEq, Int.reduceToNat, q_orelse, e00, e01, hk, u95 v sm, put1_z6 _ (VT.row_len (ownV v))]
  rfl
theorem within37 (a n : Int) (hn : 0 < n) (hs : n < 1000000) : Om 37 [kI a, kI n] [] = some (kI (withinM a n), []) := by
 refine (orc_none rfl).trans ?_
 show lim tab.get S 37 0 0 [kI a, kI n] h0 = _
 have hb := withinM_lt a n hn
 rw [w37_0, b37_0]
 unfold withinM at hb ⊢
 by_cases h : a.tmod n < 0
 ·rw [if_pos h] at hb ⊢
  have hw : IntKind.i64.wrap (a.tmod n + n) = a.tmod n + n := wrap_i64 _ (by omega) (by omega)
  simp (config := { maxSteps := 10000000 }) +contextual only [exa, ne_eq, not_false_eq_true, Nat.reduceAdd, Nat.reduceMul, Nat.reduceLT, Nat.reduceLeDiff, Nat.reduceEqDiff, Int.reduceLT, Int.reduceLE, Int.reduceEq, Int.reduceToNat, vbin_rem 0 .i64 a n (by omega), h, hw, oneOf]
 ·rw [if_neg h]
  simp (config := { maxSteps := 10000000 }) +contextual only [exa, ne_eq, not_false_eq_true, Nat.reduceAdd, Nat.reduceMul, Nat.reduceLT, Nat.reduceLeDiff, Nat.reduceEqDiff, Int.reduceLT, Int.reduceLE, Int.reduceEq, Int.reduceToNat, vbin_rem 0 .i64 a n (by omega), h, oneOf]
theorem u37 {β : Type} {k : TVal → Heap → Option β} {h : Heap} {d : Nat} (a n : Int) (hn : 0 < n) (hs : n < 1000000) : vcall Om (.v (.c (.func 37 []))) [kI a, kI n] h d k = k (kI (withinM a n)) h := vcall_pure 37 _ _ rfl (within37 a n hn hs) rfl
theorem known36 : Om 36 [] [] = some (kB true, []) := (orc_none rfl).trans (machU_le blks_ok 500 36 0 0 _ _ _ (by kernel_rfl))
end Go.Proofs.YtlkejchbcchecaaDoor.Ab
