/- Values that are of a type: fits. -/
import Derived.Test.YtlkejchbcchecaaDoorFrG
set_option linter.all false
set_option linter.unusedVariables false
set_option linter.unusedSimpArgs false
set_option maxRecDepth 100000
namespace Go.Proofs.YtlkejchbcchecaaDoor.Ab
open Go Go.AI
abbrev TyM := List (List UInt8 × TT)
def fmR (m : TyM) : List (List UInt8 × List PVal) := m.map fun e => (e.1, e.2.row)
abbrev fmV (m : TyM) : TVal := .v (.c (.p (smP (fmR m))))
theorem lookR_fm (s : List UInt8) : ∀ m : TyM, lookR s (fmR m) = (lookR s m).map TT.row
 | [] => rfl
 | e :: m => by
  show (if s = e.1 then some e.2.row else lookR s (fmR m)) = (if s = e.1 then some e.2 else lookR s m).map TT.row
  rw [lookR_fm s m]; split <;> rfl
def lookT (m : TyM) (s : List UInt8) : TT := (lookR s m).getD nulT
theorem u_look {β : Type} {O : Oracle} {h : Heap} {d : Nat} {k : TVal → Heap → Option β} (m : TyM) (s : List UInt8) : vop O (.lookup 2 (.agg [.p (.int .i64 0), .p (.str []), .p .nilslice, .p .nilslice]) (.k (fmV m)) (.k (kS s)) false) h d k = k (kA (lookT m s).row) h := by
 have e : ([.p (.int .i64 0), .p (.str []), .p .nilslice, .p .nilslice] : List Cell) = pcells (TT.row nulT) := by rw [z4_row]; rfl
 rw [x_lookup, lookR_fm]
 unfold lookT
 cases lookR s m with
 | none => rw [e]; rfl
 | some t => rfl
def fopenN (m : TyM) : Nat → TT → TT
 | 0, t => t
 | n + 1, t => fopenN m n (if t.kind = 9 then lookT m t.name else t)
def fopen (m : TyM) (t : TT) : TT := fopenN m m.length t
theorem fopen_loop (m : TyM) (hl : m.length < 4611686018427387904) : ∀ (i : Nat) (t : TT) (h : Heap), h.get (.own 3 1) = some (.cells (pcells t.row) 0) → h.get (.own 4 1) = some (.cells (pcells (TT.row nulT)) 0) →
  lim tab.get S 113 0 1 [fmV m, pO 3 1, pO 4 1, kI (m.length : Int), kI (i : Int)] h = some (kA (fopenN m (m.length - i) t).row, []) := by
 refine loop_up m.length (fun i hi t h ht hx => ?_) (fun i hi ih t h ht hx => ?_) <;> rw [w113_1, b113_1]
 ·have h1 : ¬ (i : Int) < (m.length : Int) := by omega
  have h2 : m.length - i = 0 := by omega
  simp (config := { maxSteps := 10000000 }) +contextual only [exa, ne_eq, not_false_eq_true, Nat.reduceAdd, Nat.reduceMul, Nat.reduceLT, Nat.reduceLeDiff, Nat.reduceEqDiff, Int.reduceLT, Int.reduceLE, Int.reduceEq, Int.reduceToNat, h1, h2, fopenN, w113_3, b113_3, ht, hx, oneOf]
 ·have h1 : (i : Int) < (m.length : Int) := by omega
  have h2 : m.length - i = (m.length - (i + 1)) + 1 := by omega
  rw [h2, fopenN]
  by_cases h9 : t.kind = 9
  ·simp (config := { maxSteps := 10000000 }) +contextual only [↓u_look, exa, ne_eq, not_false_eq_true, Nat.reduceAdd, Nat.reduceMul, Nat.reduceLT, Nat.reduceLeDiff, Nat.reduceEqDiff, Int.reduceLT, Int.reduceLE, Int.reduceEq, Int.reduceToNat, h1, ht, h9, w113_2, b113_2, wrapS i (by omega), if_true]
   exact ih _ _ (by simp only [exa, ne_eq, not_false_eq_true, Nat.reduceAdd, Nat.reduceMul, Nat.reduceLT, Nat.reduceLeDiff, Nat.reduceEqDiff, Int.reduceLT, Int.reduceLE, Int.reduceEq, Int.reduceToNat]) (by simp only [exa, ne_eq, not_false_eq_true, Nat.reduceAdd, Nat.reduceMul, Nat.reduceLT, Nat.reduceLeDiff, Nat.reduceEqDiff, Int.reduceLT, Int.reduceLE, Int.reduceEq, Int.reduceToNat, hx])
  ·simp (config := { maxSteps := 10000000 }) +contextual only [exa, ne_eq, not_false_eq_true, Nat.reduceAdd, Nat.reduceMul, Nat.reduceLT, Nat.reduceLeDiff, Nat.reduceEqDiff, Int.reduceLT, Int.reduceLE, Int.reduceEq, Int.reduceToNat, h1, ht, h9, w113_2, b113_2, wrapS i (by omega), if_false]
   exact ih _ _ ht hx
theorem fopen_ok (m : TyM) (t : TT) (hl : m.length < 4611686018427387904) : Om 113 [fmV m, kA t.row] [] = some (kA (fopen m t).row, []) := by
 refine (orc_none rfl).trans ?_
 show lim tab.get S 113 0 0 [fmV m, kA t.row] h0 = _
 rw [w113_0, b113_0]
 have e : ([.p (.int .i64 0), .p (.str []), .p .nilslice, .p .nilslice] : List Cell) = pcells (TT.row nulT) := by rw [z4_row]; rfl
 rw [e]
 have hm : (fmR m).length = m.length := by unfold fmR; rw [List.length_map]
 simp (config := { maxSteps := 10000000 }) +contextual only [exa, ne_eq, not_false_eq_true, Nat.reduceAdd, Nat.reduceMul, Nat.reduceLT, Nat.reduceLeDiff, Nat.reduceEqDiff, Int.reduceLT, Int.reduceLE, Int.reduceEq, Int.reduceToNat, hm]
 exact fopen_loop m hl 0 t _ (by simp only [exa, ne_eq, not_false_eq_true, Nat.reduceAdd, Nat.reduceMul, Nat.reduceLT, Nat.reduceLeDiff, Nat.reduceEqDiff, Int.reduceLT, Int.reduceLE, Int.reduceEq, Int.reduceToNat]) (by simp only [exa, ne_eq, not_false_eq_true, Nat.reduceAdd, Nat.reduceMul, Nat.reduceLT, Nat.reduceLeDiff, Nat.reduceEqDiff, Int.reduceLT, Int.reduceLE, Int.reduceEq, Int.reduceToNat])
theorem u113 {β : Type} {k : TVal → Heap → Option β} {h : Heap} {d : Nat} (m : TyM) (t : TT) (hl : m.length < 4611686018427387904) : vcall Om (.v (.c (.func 113 []))) [fmV m, kA t.row] h d k = k (kA (fopen m t).row) h := vcall_pure 113 _ _ (by simp only [exP]) (fopen_ok m t hl) (by simp only [exP])
/-! ### digits -/
def digM (n : Nat) : List UInt8 := if n < 10 then [UInt8.ofNat (48 + n)] else [UInt8.ofNat (48 + n / 10), UInt8.ofNat (48 + n % 10)]
def isStrR (r : Res1) (s : List UInt8) : Bool := match r with
 | some (.v (.c (.p (.str t))), []) => t == s
 | _ => false
theorem isStrR_inv {r : Res1} {s : List UInt8} (h : isStrR r s = true) : r = some (kS s, []) := by
 unfold isStrR at h
 split at h
 ·rw [eq_of_beq h]
 ·cases h
theorem itoa_ok {n : Nat} (hn : n < 100) : Om 116 [kI (n : Int)] [] = some (kS (digM n), []) := by
 have h : ((List.range 100).all fun n => isStrR (machU blks.get S 200 116 0 0 [kI (.ofNat n)] h0) (digM n)) = true := by kernel_rfl
 refine (orc_none rfl).trans ?_
 exact machU_le blks_ok 200 116 0 0 _ _ _ (isStrR_inv (all_range h hn))
theorem u116 {β : Type} {k : TVal → Heap → Option β} {h : Heap} {d : Nat} {n : Nat} (hn : n < 100) : vcall Om (.v (.c (.func 116 []))) [kI (n : Int)] h d k = k (kS (digM n)) h := vcall_pure 116 _ _ rfl (itoa_ok hn) rfl
theorem digM_len (n : Nat) : (digM n).length ≤ 2 := by unfold digM; split <;> simp
/-- Where a list's value stands; where a map's does. -/
def placeL (i : Nat) : Option (List UInt8) := if i < 100 then some ([91] ++ digM i ++ [93]) else none
theorem placeL_ok (i : Nat) (s : List UInt8) (hi : placeL i = some s) : Om 115 [kI (i : Int)] [] = some (kS s, []) := by
 unfold placeL at hi
 by_cases h1 : i < 100
 ·rw [if_pos h1] at hi
  cases hi
  refine (orc_none rfl).trans ?_
  show lim tab.get S 115 0 0 [kI (i : Int)] h0 = _
  have hd := digM_len i
  have l1 : ([91] : List UInt8).length + (digM i).length ≤ 4611686018427387904 := by simp; omega
  have l2 : ([91] ++ digM i : List UInt8).length + ([93] : List UInt8).length ≤ 4611686018427387904 := by simp; omega
  rw [w115_0, b115_0]
  simp (config := { maxSteps := 10000000 }) +contextual only [ex, exM, exF, u116 h1, l1, l2, decide_true, oneOf]
 ·rw [if_neg h1] at hi; cases hi
def placeM (v : VT) (i : Nat) : Option (List UInt8) := match v.keys.list[i]? with
 | none => some []
 | some key => if key.length ≤ 1000000000000 then some ([91, 34] ++ key ++ [34, 93]) else none
theorem placeM_ok (v : VT) (i : Nat) (s : List UInt8) (hi : placeM v i = some s) : Om 117 [kI (i : Int), kP (.im 0)] [.cells (pcells v.row) 0] = some (kS s, [.cells (pcells v.row) 0]) := by
 refine (orc_none rfl).trans ?_
 show lim tab.get S 117 1 0 [kI (i : Int), kP (.im 0)] { ims := [.cells (pcells v.row) 0], owns := .nil } = _
 rw [w117_0, b117_0]
 unfold placeM at hi
 cases hk : v.keys.list[i]? with
 | none =>
  rw [hk] at hi
  cases hi
  have h1 : ¬ (i : Int) < (v.keys.len : Int) := by have := List.getElem?_eq_none_iff.1 hk; unfold Sl.len; omega
  simp (config := { maxSteps := 10000000 }) +contextual only [exa, ne_eq, not_false_eq_true, Nat.reduceAdd, Nat.reduceMul, Nat.reduceLT, Nat.reduceLeDiff, Nat.reduceEqDiff, Int.reduceLT, Int.reduceLE, Int.reduceEq, Int.reduceToNat, h1, oneOf]
 | some key =>
  rw [hk] at hi
  dsimp only at hi
  by_cases hl : key.length ≤ 1000000000000
  ·rw [if_pos hl] at hi
   cases hi
   have h1 : (i : Int) < (v.keys.len : Int) := by obtain ⟨q, _⟩ := List.getElem?_eq_some_iff.1 hk; unfold Sl.len; omega
   have l1 : ([91, 34] : List UInt8).length + key.length ≤ 4611686018427387904 := by simp; omega
   have l2 : ([91, 34] ++ key : List UInt8).length + ([34, 93] : List UInt8).length ≤ 4611686018427387904 := by simp; omega
   simp (config := { maxSteps := 10000000 }) +contextual only [ex, exM, exF, exG, exV, exQ, Option.map_some, Nat.reduceAdd, Nat.zero_add, Int.toNat_natCast, Bool.not_true, Bool.not_false, hk, h1, l1, l2, decide_true, decide_false, oneOf]
  ·rw [if_neg hl] at hi; cases hi
end Go.Proofs.YtlkejchbcchecaaDoor.Ab
