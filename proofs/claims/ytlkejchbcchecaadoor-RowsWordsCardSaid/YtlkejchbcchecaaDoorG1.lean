/- The rules, the contracts, the plain laws that lead to the statement. Own work. Condition: what each theorem names. -/
import Derived.Test.YtlkejchbcchecaaDoorG0
set_option linter.all false
set_option linter.unusedVariables false
set_option linter.unusedSimpArgs false
set_option linter.unusedSectionVars false
set_option maxRecDepth 100000
open Nat (reduceAdd reduceMul reduceLT reduceLeDiff reduceEqDiff)
set_option maxHeartbeats 4000000
namespace Go.Proofs.YtlkejchbcchecaaDoor.Ab
open Go Go.AI
abbrev RsAt (h : Heap) (r : Nat) (V : RS) (m : TyM) (n : Nat) : Prop := StarAt h r (rsRoot V) (rsLeaves V m) n
abbrev RsDo (g : FuncId) (ps : List TVal) (V : RS) (m : TyM) (v : TVal) (V' : RS) : Prop := StarDo Om g ps (rsRoot V) (rsLeaves V m) v (rsRoot V') (rsLeaves V' m)
theorem qGc (g : FuncId) (hg : g < 100000000) (ps : List TVal) (V V' : RS) (m : TyM) (x : PVal) (ho : ∀ W : AI.Mach, True)
  (hO : Om g (kP (.im 0) :: ps) (rsC V m) = lim tab.get S g ((rsLeaves V m).length + 1) 0 (kP (.im 0) :: ps) ⟨rsC V m, .nil⟩)
  (h' : Heap) (X : RsAt h' 0 V' m ((rsLeaves V m).length + 1)) (frz : Bool)
  (e : lim tab.get S g ((rsLeaves V m).length + 1) 0 (kP (.im 0) :: ps) ⟨rsC V m, .nil⟩ = vfin frz ((rsLeaves V m).length + 1) [.c (.p x)] h') : RsDo g ps V m (.v (.c (.p x))) V' := by
 obtain ⟨qs, ρ', h1, h2, h3, h4, h5, h6⟩ := qLL (qAX V' m) X frz [.c (.p x)] rfl
 exact ⟨qs, ρ', hO.trans (e.trans h1), h2, h3, h4, h5, h6⟩
theorem qDL (V : RS) (m : TyM) : RsAt ⟨rsC V m, .nil⟩ 0 V m ((rsLeaves V m).length + 1) := by
 refine ⟨⟨_, qFT (hi0 V m) (qAX V m).closed, qBM (qBB V m), qE6 _⟩, fun _ j h0 hj o ho => ?_, Nat.le_refl _⟩
 obtain ⟨h1, _⟩ := Heap.get_im_some ho
 obtain ⟨j', rfl⟩ : ∃ j', j = j' + 1 := ⟨j - 1, by omega⟩
 have : (rsLeaves V m)[j']? = some o := h1
 exact ((qAX V m).leaf o (List.mem_of_getElem? this)).2
theorem qBf {h : Heap} {cw ct : Cell} {rw rt : List Ref} {b n k : Nat} {V : RS} {m : TyM} (hn : (Ref.im 0 :: (rw ++ (rt ++ [.im b, .im n]))).Nodup) (hr : h.get (.im 0) = some (.cells [cw, ct, .mref (.im b), .mref (.im n)] 0)) (hw : Slot h cw (wR V) rw) (ht : Slot h ct (tR V) rt)
  (hb : h.get (.im b) = some (byO V.T)) (hy : h.get (.im n) = some (tyO m)) (hf : ∀ j, 0 < j → j < k → ∀ o, h.get (.im j) = some o → o.refs = []) (hk : k ≤ h.ims.length) : RsAt h 0 V m k := by
 obtain ⟨A, e0, him⟩ := RSH.at (⟨rfl, hn, hr, hw, ht, hb, hy⟩ : RSH h _ 0 cw ct rw rt b n V m)
 exact ⟨⟨_, A, e0, him⟩, fun _ => hf, hk⟩
theorem qOU {β : Type} {O : Oracle} {h : Heap} {d : Nat} {k : TVal → Heap → Option β} (by' : Nat) (b : PVal) (hb : SrcR 1 b []) : vop O (.append 1 by' true (.k (.v (.c (.p .nilslice)))) (.k (.v (.c (.p b))))) h d k = k (.v (.c (.p .nilslice))) h := by
 show opK O _ .nil h d k = _
 rw [qAU]
 have hs : srcRef (.v (.c (.p b))) = none := by rcases hb with ⟨rfl, _⟩ | ⟨t, rfl⟩ <;> rfl
 have hc := hb.cells
 have : slow O (.append 1 by' true (.k (.v (.c (.p .nilslice)))) (.k (.v (.c (.p b))))) .nil h d = some (.v (.c (.p .nilslice)), h) := by
  unfold slow
  show ((Plan.go (zipNeeds (dstRef (.v (.c (.p .nilslice)))) (srcRef (.v (.c (.p b))))) _).exec O d h).map _ = _
  rw [hs]
  simp only [Plan.exec, goOp, dstRef, zipNeeds, List.mapM_nil, Option.pure_def, splitNeeds, Option.bind_eq_bind, Option.bind_some, hc]
  rfl
 rw [this]; rfl
theorem qO6 {β : Type} {O : Oracle} {h : Heap} {d : Nat} {k : TVal → Heap → Option β} (by' : Nat) (b : PVal) (hb : SrcR 1 b []) (i len : Nat) (o : AObj) (hg : h.get (.im i) = some o) : vop O (.append 1 by' true (.k (.v (.c (.sref (.im i) 0 len none 1)))) (.k (.v (.c (.p b))))) h d k = k (.v (.c (.sref (.im i) 0 len none 1))) h := by
 show opK O _ .nil h d k = _
 rw [qAU]
 have hs : srcRef (.v (.c (.p b))) = none := by rcases hb with ⟨rfl, _⟩ | ⟨t, rfl⟩ <;> rfl
 have hc := hb.cells
 have : slow O (.append 1 by' true (.k (.v (.c (.sref (.im i) 0 len none 1)))) (.k (.v (.c (.p b))))) .nil h d = some (.v (.c (.sref (.im i) 0 len none 1)), h) := by
  unfold slow
  show ((Plan.go (zipNeeds (dstRef (.v (.c (.sref (.im i) 0 len none 1)))) (srcRef (.v (.c (.p b))))) _).exec O d h).map _ = _
  rw [hs]
  simp only [Plan.exec, goOp, dstRef, zipNeeds, qBR, hg, Option.map_some, splitNeeds, Option.bind_eq_bind, Option.bind_some, hc]
  rfl
 rw [this]; rfl
theorem qP3 (l : List Int) : ∀ r ∈ l.map ruRow, r.length = 1 := fun r hr => by obtain ⟨a, _, rfl⟩ := List.mem_map.1 hr; rfl
theorem qAn {h : Heap} {k : Nat} (H : ∀ o ∈ (h.ims.drop 1).take (k - 1), o.refs = []) : ∀ j, 0 < j → j < k → ∀ o, h.get (.im j) = some o → o.refs = [] := by
 intro j h0 hj o ho
 obtain ⟨h1, _⟩ := Heap.get_im_some ho
 refine H o (List.mem_of_getElem? (i := j - 1) ?_)
 rw [List.getElem?_take, if_pos (by omega), List.getElem?_drop, show 1 + (j - 1) = j by omega, h1]
theorem qBE (T : List (List UInt8)) : (byO T).refs = [] := qEn _ _
theorem qBJ (N : TyM) : (tyO N).refs = [] := qEp _
theorem qDq {β : Type} {O : Oracle} {h : Heap} {d : Nat} {k : TVal → Heap → Option β} (r : Ref) (off len : Nat) (cap : Option Nat) (sz : Nat) : vlen O 2 (.v (.c (.sref r off len cap sz))) h d k = k (kI (len : Int)) h := rfl
theorem qHK (V : RS) (m : TyM) (l : List Int) (b : PVal) (hb : SrcR 1 b (l.map ruRow)) (hl : V.W.length + l.length ≤ 1073741824) : RsDo 74 [.v (.c (.p b))] V m (kW (layM l V).1) (layM l V).2 := by
 have hO : Om 74 [kP (.im 0), .v (.c (.p b))] (rsC V m) = lim tab.get S 74 ((rsLeaves V m).length + 1) 0 [kP (.im 0), .v (.c (.p b))] ⟨rsC V m, .nil⟩ := qAE rfl
 have hw' : wR (layM l V).2 = wR V ++ l.map ruRow := by unfold wR layM; simp
 have ht' : tR (layM l V).2 = tR V := rfl
 have hT' : (layM l V).2.T = V.T := rfl
 have hlen := qD6 V
 have W1 := qE3 V.W.length (by omega)
 have g0 := qCM (hi0 V m)
 have key : ∃ h', RsAt h' 0 (layM l V).2 m ((rsLeaves V m).length + 1) ∧ lim tab.get S 74 ((rsLeaves V m).length + 1) 0 [kP (.im 0), .v (.c (.p b))] ⟨rsC V m, .nil⟩ = vfin true ((rsLeaves V m).length + 1) [.c (.p (.int .u64 (V.W.length : Int)))] h' := by
  by_cases hn : l = []
  ·subst hn
   have hV : (layM [] V).2 = V := by unfold layM; simp
   rw [hV]
   refine ⟨_, qDL V m, ?_⟩
   rw [w74_0, b74_0]
   cases hw : wR V with
   | nil =>
    have e0 : V.W.length = 0 := by rw [← hlen, hw]; rfl
    simp (maxSteps := 9999999) +contextual only [exa, ne_eq, not_false_eq_true, reduceAdd, reduceMul, reduceLT, reduceLeDiff, reduceEqDiff, Int.reduceLT, Int.reduceLE, Int.reduceEq, Int.reduceToNat, g0, rsRoot, hw, qG1, qOU 8 b hb]
    rw [e0]
    exact congrArg _ (qDk (by rw [g0]; unfold rsRoot; rw [hw]; rfl))
   | cons a r =>
    have gw := qFi (hi0 V m) (by rw [hw]; simp)
    have e0 : V.W.length = r.length + 1 := by rw [← hlen, hw]; rfl
    rw [e0] at W1
    simp (maxSteps := 9999999) +contextual only [exa, ne_eq, not_false_eq_true, reduceAdd, reduceMul, reduceLT, reduceLeDiff, reduceEqDiff, Int.reduceLT, Int.reduceLE, Int.reduceEq, Int.reduceToNat, g0, rsRoot, hw, qGT, qDq, W1, qO6 8 b hb 1 (r.length + 1) _ gw]
    rw [e0]
    exact congrArg _ (qDk (by rw [g0]; unfold rsRoot; rw [hw]; rfl))
  ·have hne : l.map ruRow ≠ [] := by simpa using hn
   obtain ⟨t, rfl⟩ : ∃ t, b = .slice 1 t (l.map ruRow) := by
    rcases hb with ⟨_, h2⟩ | h2
    ·exact absurd h2 hne
    ·exact h2
   obtain ⟨a, r, har⟩ : ∃ a r, l.map ruRow = a :: r := by cases h : l.map ruRow with | nil => exact absurd h hne | cons a r => exact ⟨a, r, rfl⟩
   have hml : (l.map ruRow).length = l.length := by simp
   cases hw : wR V with
   | nil =>
    have e0 : V.W.length = 0 := by rw [← hlen, hw]; rfl
    have A1 := fun (β : Type) (O : Oracle) (k : TVal → Heap → Option β) (h : Heap) (d : Nat) => qGe (sz := 1) (by' := 8) t hne (by rw [hml]; omega) (d := d) (h := h) β O k
    rw [hw, List.nil_append] at hw'
    refine ⟨(Heap.mk (rsC V m ++ [rowO (l.map ruRow)]) .nil).put (.im 0) (.cells [.sref (.im (rsC V m).length) 0 (l.map ruRow).length none 1, rowC (tR V) (1 + (rowL (wR V)).length), .mref (.im (1 + (rowL (wR V)).length + (rowL (tR V)).length)), .mref (.im (2 + (rowL (wR V)).length + (rowL (tR V)).length))] 0), ?_, ?_⟩
    ·have hne' : wR (layM l V).2 ≠ [] := by rw [hw']; exact hne
     unfold rsC rsLeaves
     rw [hw]
     cases htr : tR V with
     | nil =>
      exact qBf (cw := .sref (.im 3) 0 (l.map ruRow).length none 1) (ct := .p .nilslice) (rw := [.im 3]) (rt := []) (b := 1) (n := 2) (by decide) rfl (.inr ⟨hne', 3, by rw [hw'], rfl, by rw [hw']; rfl⟩) (.inl ⟨by rw [ht', htr], rfl, rfl⟩) rfl rfl
       (qAn (fun o ho => by simp [Heap.put, rowL] at ho; rcases ho with rfl | rfl; exact qBE _; exact qBJ _)) (by simp [Heap.put, rowL])
     | cons x y =>
      exact qBf (cw := .sref (.im 4) 0 (l.map ruRow).length none 1) (ct := .sref (.im 1) 0 (y.length + 1) none 1) (rw := [.im 4]) (rt := [.im 1]) (b := 2) (n := 3) (by decide) rfl (.inr ⟨hne', 4, by rw [hw'], rfl, by rw [hw']; rfl⟩) (.inr ⟨by rw [ht', htr]; simp, 1, by rw [ht', htr]; rfl, rfl, by rw [ht', htr]; rfl⟩) rfl rfl
       (qAn (fun o ho => by simp [Heap.put, rowL] at ho; rcases ho with rfl | rfl | rfl; exact qBk _; exact qBE _; exact qBJ _)) (by simp [Heap.put, rowL])
    ·rw [w74_0, b74_0]
     have g1 : (Heap.mk (rsC V m ++ [.cells (pcells (l.map ruRow).flatten) 0]) .nil).get (.im 0) = some (rsRoot V) := rfl
     simp (maxSteps := 9999999) +contextual only [exa, ne_eq, not_false_eq_true, reduceAdd, reduceMul, reduceLT, reduceLeDiff, reduceEqDiff, Int.reduceLT, Int.reduceLE, Int.reduceEq, Int.reduceToNat, g0, g1, rsRoot, hw, qG1, A1]
     rw [e0]; rfl
   | cons x y =>
    have e0 : V.W.length = y.length + 1 := by rw [← hlen, hw]; rfl
    have gw := qFi (hi0 V m) (by rw [hw]; simp)
    rw [hw] at gw hw'
    have A1 := fun (β : Type) (O : Oracle) (k : TVal → Heap → Option β) (d : Nat) => qGV (sz := 1) (by' := 8) (rows := x :: y) t hne (by decide) (by rw [← hw]; exact qP3 _) (by rw [hml, ← hw, hlen]; omega) (d := d) gw β O k
    have hne' : wR (layM l V).2 ≠ [] := by rw [hw']; simp
    refine ⟨(Heap.mk ((rsC V m).set 1 .dead ++ [rowO (x :: y ++ l.map ruRow)]) .nil).put (.im 0) (.cells [.sref (.im (rsC V m).length) 0 ((x :: y).length + (l.map ruRow).length) none 1, rowC (tR V) (1 + (rowL (wR V)).length), .mref (.im (1 + (rowL (wR V)).length + (rowL (tR V)).length)), .mref (.im (2 + (rowL (wR V)).length + (rowL (tR V)).length))] 0), ?_, ?_⟩
    ·have hlw : ((x :: y).length + (l.map ruRow).length) = (wR (layM l V).2).length := by rw [hw', List.length_append]
     rw [hlw]
     unfold rsC rsLeaves
     rw [hw]
     cases htr : tR V with
     | nil =>
      exact qBf (cw := .sref (.im 4) 0 (wR (layM l V).2).length none 1) (ct := .p .nilslice) (rw := [.im 4]) (rt := []) (b := 2) (n := 3) (by decide) rfl (.inr ⟨hne', 4, rfl, rfl, by rw [hw']; rfl⟩) (.inl ⟨by rw [ht', htr], rfl, rfl⟩) rfl rfl
       (qAn (fun o ho => by simp [Heap.put, rowL] at ho; rcases ho with rfl | rfl | rfl; rfl; exact qBE _; exact qBJ _)) (by simp [Heap.put, rowL])
     | cons x' y' =>
      exact qBf (cw := .sref (.im 5) 0 (wR (layM l V).2).length none 1) (ct := .sref (.im 2) 0 (y'.length + 1) none 1) (rw := [.im 5]) (rt := [.im 2]) (b := 3) (n := 4) (by decide) rfl (.inr ⟨hne', 5, rfl, rfl, by rw [hw']; rfl⟩) (.inr ⟨by rw [ht', htr]; simp, 2, by rw [ht', htr]; rfl, rfl, by rw [ht', htr]; rfl⟩) rfl rfl
       (qAn (fun o ho => by simp [Heap.put, rowL] at ho; rcases ho with rfl | rfl | rfl | rfl; rfl; exact qBk _; exact qBE _; exact qBJ _)) (by simp [Heap.put, rowL])
    ·rw [w74_0, b74_0]
     rw [e0] at W1
     have A2 : ∀ (β : Type) (O : Oracle) (k : TVal → Heap → Option β) (d : Nat), vop O (.append 1 8 true (.k (.v (.c (.sref (.im 1) 0 (y.length + 1) none 1)))) (.k (kSl 1 t (l.map ruRow)))) ⟨rsC V m, .nil⟩ d k = k (.v (.c (.sref (.im (rsC V m).length) 0 ((x :: y).length + (l.map ruRow).length) none 1))) (Heap.mk ((rsC V m).set 1 .dead ++ [rowO (x :: y ++ l.map ruRow)]) .nil) := A1
     have g1 : (Heap.mk ((rsC V m).set 1 .dead ++ [rowO (x :: y ++ l.map ruRow)]) .nil).get (.im 0) = some (rsRoot V) := rfl
     simp (maxSteps := 9999999) +contextual only [exa, ne_eq, not_false_eq_true, reduceAdd, reduceMul, reduceLT, reduceLeDiff, reduceEqDiff, Int.reduceLT, Int.reduceLE, Int.reduceEq, Int.reduceToNat, g0, g1, rsRoot, hw, qGT, qDq, W1, A2]
     rw [e0]
 obtain ⟨h', X, e⟩ := key
 exact qGc 74 (by decide) _ V _ m _ (fun _ => trivial) hO h' X true e
end Go.Proofs.YtlkejchbcchecaaDoor.Ab
set_option maxHeartbeats 4000000
namespace Go.Proofs.YtlkejchbcchecaaDoor.Ab
open Go Go.AI
abbrev litO (s : List UInt8) : AObj := .cells (pcells [.str s]) 0
theorem qLZ {β : Type} {O : Oracle} {h : Heap} {d : Nat} {k : TVal → Heap → Option β} (s : List UInt8) : vop O (.bslice 1 1 [.p (.str [])] [(0, .k (kS s))] true) h d k = k (.v (.c (.sref (.im h.ims.length) 0 1 (some 1) 1))) (h.push (litO s)) :=
 qQg _ (litO s) (fun r => .v (.c (.sref r 0 1 (some 1) 1))) rfl
theorem qCO (h : Heap) (i : Nat) (o : AObj) : (h.put (.im i) o).ims.length = h.ims.length := Heap.put_len h i o
theorem qIy (C : List AObj) (cw : Cell) (iB iN : Nat) (s : List UInt8) (q : Nat) (hC : C[0]? = some (.cells [cw, .p .nilslice, .mref (.im iB), .mref (.im iN)] 0)) (hB : C[iB]? = some (byO [])) (h0 : 0 ≠ iB) :
  lim tab.get S 135 q 0 [kP (.im 0), kS s] ⟨C, .nil⟩ = vfin true q [.c (.p (.int .u64 0))] (((((Heap.mk C .nil).put (.im iB) (byO [s])).push (litO s)).push (litO s)).put (.im 0) (.cells [cw, .sref (.im (C.length + 1)) 0 1 none 1, .mref (.im iB), .mref (.im iN)] 0)) := by
 rw [w135_0, b135_0]
 have g0 : (Heap.mk C .nil).get (.im 0) = some (.cells [cw, .p .nilslice, .mref (.im iB), .mref (.im iN)] 0) := Heap.get_im_of hC (fun e => by cases e)
 have gB : (Heap.mk C .nil).get (.im iB) = some (byO []) := Heap.get_im_of hB (fun e => by cases e)
 have hlt : 0 < C.length := (List.getElem?_eq_some_iff.1 hC).1
 have L := fun (β : Type) (O : Oracle) (k : TVal → Heap → Option β) (d : Nat) => qES (O := O) (k := k) (d := d) .u64 (byF [] 0) 0 (.im iB) s gB
 have M : ∀ (β : Type) (O : Oracle) (k : TVal → Heap → Option β) (d : Nat), vop O (.mapup 2 (.k (.v (.c (.mref (.im iB))))) (.k (kS s)) (.k (kW 0))) (Heap.mk C .nil) d k = k .undef ((Heap.mk C .nil).put (.im iB) (byO [s])) := fun β O k d => qLt (O := O) (k := k) (d := d) .u64 (byF [] 0) (.im iB) s 0 gB rfl
 have W0 : IntKind.u64.wrap 0 = 0 := by decide
 have N0 : lookR s (byF [] 0) = none := rfl
 have g1 : ((Heap.mk C .nil).put (.im iB) (byO [s])).get (.im 0) = some (.cells [cw, .p .nilslice, .mref (.im iB), .mref (.im iN)] 0) := (Heap.get_put_ne _ _ (fun e => h0 e.symm)).trans g0
 have g2 : (((Heap.mk C .nil).put (.im iB) (byO [s])).push (litO s)).get (.im 0) = some (.cells [cw, .p .nilslice, .mref (.im iB), .mref (.im iN)] 0) := (Heap.get_push_lt _ _ (by rw [qCO]; exact hlt)).trans g1
 have g3 : ((((Heap.mk C .nil).put (.im iB) (byO [s])).push (litO s)).push (litO s)).get (.im 0) = some (.cells [cw, .p .nilslice, .mref (.im iB), .mref (.im iN)] 0) := (Heap.get_push_lt _ _ (by rw [Heap.push_len, qCO]; exact Nat.lt_succ_of_lt hlt)).trans g2
 have L1 : ((Heap.mk C .nil).put (.im iB) (byO [s])).ims.length = C.length := qCO _ _ _
 have P1 : ∀ (β : Type) (O : Oracle) (k : TVal → Heap → Option β) (d : Nat), vop O (.bslice 1 1 [.p (.str [])] [(0, .k (kS s))] true) ((Heap.mk C .nil).put (.im iB) (byO [s])) d k = k (.v (.c (.sref (.im C.length) 0 1 (some 1) 1))) (((Heap.mk C .nil).put (.im iB) (byO [s])).push (litO s)) := fun β O k d => by
  rw [qLZ, L1]
 have A1 : ∀ (β : Type) (O : Oracle) (k : TVal → Heap → Option β) (d : Nat), vop O (.append 1 16 true (.k (.v (.c (.p .nilslice)))) (.k (.v (.c (.sref (.im C.length) 0 1 (some 1) 1))))) (((Heap.mk C .nil).put (.im iB) (byO [s])).push (litO s)) d k = k (.v (.c (.sref (.im (C.length + 1)) 0 1 none 1))) ((((Heap.mk C .nil).put (.im iB) (byO [s])).push (litO s)).push (litO s)) := fun β O k d => by
  have gl := Heap.get_push_eq ((Heap.mk C .nil).put (.im iB) (byO [s])) (o := litO s) (fun e => by cases e)
  rw [L1] at gl
  rw [qJA (row := [.str s]) rfl (by decide) C.length gl, Heap.push_len, L1]
 simp (maxSteps := 9999999) +contextual only [exa, ne_eq, not_false_eq_true, reduceAdd, reduceMul, reduceLT, reduceLeDiff, reduceEqDiff, Int.reduceLT, Int.reduceLE, Int.reduceEq, Int.reduceToNat, g0, L, M, W0, N0, Option.isSome_none, g1, g2, g3, P1, A1]
theorem qGf (C : List AObj) (cw : Cell) (iB iN iT : Nat) (s : List UInt8) (T : List (List UInt8)) (q : Nat) (hT : T ≠ []) (hC : C[0]? = some (.cells [cw, .sref (.im iT) 0 T.length none 1, .mref (.im iB), .mref (.im iN)] 0)) (hB : C[iB]? = some (byO T)) (h0 : 0 ≠ iB)
  (hi : C[iT]? = some (rowO (T.map sRow))) (h1 : 0 ≠ iT) (h2 : iB ≠ iT) (hs : idxM s T = none) (hl : T.length < 1073741824) :
  lim tab.get S 135 q 0 [kP (.im 0), kS s] ⟨C, .nil⟩ = vfin true q [.c (.p (.int .u64 (T.length : Int)))] ((((((Heap.mk C .nil).put (.im iB) (byO (T ++ [s]))).push (litO s)).put (.im iT) .dead).push (rowO ((T ++ [s]).map sRow))).put (.im 0) (.cells [cw, .sref (.im (C.length + 1)) 0 (T.length + 1) none 1, .mref (.im iB), .mref (.im iN)] 0)) := by
 rw [w135_0, b135_0]
 have g0 : (Heap.mk C .nil).get (.im 0) = some (.cells [cw, .sref (.im iT) 0 T.length none 1, .mref (.im iB), .mref (.im iN)] 0) := Heap.get_im_of hC (fun e => by cases e)
 have gB : (Heap.mk C .nil).get (.im iB) = some (byO T) := Heap.get_im_of hB (fun e => by cases e)
 have gT : (Heap.mk C .nil).get (.im iT) = some (rowO (T.map sRow)) := Heap.get_im_of hi (fun e => by cases e)
 have hlt : 0 < C.length := (List.getElem?_eq_some_iff.1 hC).1
 have hltT : iT < C.length := (List.getElem?_eq_some_iff.1 hi).1
 have N0 : lookR s (byF T 0) = none := by rw [qEX, hs]; rfl
 have L := fun (β : Type) (O : Oracle) (k : TVal → Heap → Option β) (d : Nat) => qES (O := O) (k := k) (d := d) .u64 (byF T 0) 0 (.im iB) s gB
 have M : ∀ (β : Type) (O : Oracle) (k : TVal → Heap → Option β) (d : Nat), vop O (.mapup 2 (.k (.v (.c (.mref (.im iB))))) (.k (kS s)) (.k (kW (T.length : Int)))) (Heap.mk C .nil) d k = k .undef ((Heap.mk C .nil).put (.im iB) (byO (T ++ [s]))) := fun β O k d => by
  rw [qLt (O := O) (k := k) (d := d) .u64 (byF T 0) (.im iB) s (T.length : Int) gB N0]
  unfold byO
  rw [qHm, Nat.zero_add]
 have W0 := qE3 T.length (by omega)
 generalize hh1 : (Heap.mk C .nil).put (.im iB) (byO (T ++ [s])) = h1' at M ⊢
 have L1 : h1'.ims.length = C.length := by rw [← hh1]; exact qCO _ _ _
 have g1 : h1'.get (.im 0) = some (.cells [cw, .sref (.im iT) 0 T.length none 1, .mref (.im iB), .mref (.im iN)] 0) := by rw [← hh1]; exact (Heap.get_put_ne _ _ (fun e => h0 e.symm)).trans g0
 have t1 : h1'.get (.im iT) = some (rowO (T.map sRow)) := by rw [← hh1]; exact (Heap.get_put_ne _ _ h2).trans gT
 have g2 : (h1'.push (litO s)).get (.im 0) = some (.cells [cw, .sref (.im iT) 0 T.length none 1, .mref (.im iB), .mref (.im iN)] 0) := (Heap.get_push_lt _ _ (by rw [L1]; exact hlt)).trans g1
 have t2 : (h1'.push (litO s)).get (.im iT) = some (rowO (T.map sRow)) := (Heap.get_push_lt _ _ (by rw [L1]; exact hltT)).trans t1
 have g3 : (((h1'.push (litO s)).put (.im iT) .dead).push (rowO ((T ++ [s]).map sRow))).get (.im 0) = some (.cells [cw, .sref (.im iT) 0 T.length none 1, .mref (.im iB), .mref (.im iN)] 0) :=
  (Heap.get_push_lt _ _ (by rw [qCO, Heap.push_len, L1]; exact Nat.lt_succ_of_lt hlt)).trans ((Heap.get_put_ne _ _ (fun e => h1 e.symm)).trans g2)
 have P1 : ∀ (β : Type) (O : Oracle) (k : TVal → Heap → Option β) (d : Nat), vop O (.bslice 1 1 [.p (.str [])] [(0, .k (kS s))] true) h1' d k = k (.v (.c (.sref (.im C.length) 0 1 (some 1) 1))) (h1'.push (litO s)) := fun β O k d => by
  rw [qLZ, L1]
 have A1 : ∀ (β : Type) (O : Oracle) (k : TVal → Heap → Option β) (d : Nat), vop O (.append 1 16 true (.k (.v (.c (.sref (.im iT) 0 T.length none 1)))) (.k (.v (.c (.sref (.im C.length) 0 1 (some 1) 1))))) (h1'.push (litO s)) d k = k (.v (.c (.sref (.im (C.length + 1)) 0 (T.length + 1) none 1))) (((h1'.push (litO s)).put (.im iT) .dead).push (rowO ((T ++ [s]).map sRow))) := fun β O k d => by
  have gl := Heap.get_push_eq h1' (o := litO s) (fun e => by cases e)
  rw [L1] at gl
  have := qIB (O := O) (d := d) (k := k) (by' := 16) (row := [.str s]) (rows := T.map sRow) rfl (fun r hr => by obtain ⟨a, _, rfl⟩ := List.mem_map.1 hr; rfl) (by rw [List.length_map]; omega) iT C.length t2 gl
  rw [List.length_map, Heap.push_len, L1] at this
  rw [this, List.map_append]; rfl
 simp (maxSteps := 9999999) +contextual only [exa, ne_eq, not_false_eq_true, reduceAdd, reduceMul, reduceLT, reduceLeDiff, reduceEqDiff, Int.reduceLT, Int.reduceLE, Int.reduceEq, Int.reduceToNat, g0, L, M, W0, N0, qDq, Option.isSome_none, g1, g2, g3, P1, A1]
theorem qKp (V : RS) (m : TyM) (s : List UInt8) (hl : V.T.length < 1073741824) : RsDo 135 [kS s] V m (kW (numM s V).1) (numM s V).2 := by
 have hO : Om 135 [kP (.im 0), kS s] (rsC V m) = lim tab.get S 135 ((rsLeaves V m).length + 1) 0 [kP (.im 0), kS s] ⟨rsC V m, .nil⟩ := qAE rfl
 have g0 := qCM (hi0 V m)
 have gB := qO5 (hi0 V m)
 have key : ∃ h', RsAt h' 0 (numM s V).2 m ((rsLeaves V m).length + 1) ∧ lim tab.get S 135 ((rsLeaves V m).length + 1) 0 [kP (.im 0), kS s] ⟨rsC V m, .nil⟩ = vfin true ((rsLeaves V m).length + 1) [.c (.p (.int .u64 (numM s V).1))] h' := by
  cases hs : idxM s V.T with
  | some k =>
   have e1 : numM s V = ((k : Int), V) := by unfold numM; rw [hs]
   rw [e1]
   refine ⟨_, qDL V m, ?_⟩
   rw [w135_0, b135_0]
   have N0 : lookR s (byF V.T 0) = some ((k : Nat) : Int) := by rw [qEX, hs, Option.map_some, Nat.zero_add]
   have L := fun (β : Type) (O : Oracle) (k : TVal → Heap → Option β) (d : Nat) => qES (O := O) (k := k) (d := d) .u64 (byF V.T 0) 0 _ s gB
   simp (maxSteps := 9999999) +contextual only [exa, ne_eq, not_false_eq_true, reduceAdd, reduceMul, reduceLT, reduceLeDiff, reduceEqDiff, Int.reduceLT, Int.reduceLE, Int.reduceEq, Int.reduceToNat, g0, rsRoot, L, N0, Option.isSome_some, Option.getD_some]
  | none =>
   have e1 : numM s V = ((V.T.length : Int), ⟨V.W, V.T ++ [s]⟩) := by unfold numM; rw [hs]
   rw [e1]
   have hw' : wR ⟨V.W, V.T ++ [s]⟩ = wR V := rfl
   have ht' : tR ⟨V.W, V.T ++ [s]⟩ = tR V ++ [sRow s] := by unfold tR; simp
   have hlen := qDd V
   cases hw : wR V with
   | nil =>
    cases ht : tR V with
    | nil =>
     have hT : V.T = [] := by rw [← List.length_eq_zero_iff, ← hlen, ht]; rfl
     have hC : rsC V m = [.cells [.p .nilslice, .p .nilslice, .mref (.im 1), .mref (.im 2)] 0, byO [], tyO m] := by unfold rsC rsRoot rsLeaves; rw [hw, ht, hT]; rfl
     have hL : (rsLeaves V m).length + 1 = 3 := by unfold rsLeaves; rw [hw, ht]; rfl
     rw [hL]
     refine ⟨_, ?_, by rw [hC, qIy _ (.p .nilslice) 1 2 s 3 rfl rfl (by decide), hT]; rfl⟩
     exact qBf (cw := .p .nilslice) (ct := .sref (.im 4) 0 1 none 1) (rw := []) (rt := [.im 4]) (b := 1) (n := 2) (by decide) rfl (.inl ⟨by rw [hw', hw], rfl, rfl⟩) (.inr ⟨by rw [ht']; simp, 4, by rw [ht', ht]; rfl, rfl, by rw [ht', ht]; rfl⟩) (by rw [hT]; rfl) rfl
      (qAn (fun o ho => by simp [Heap.put, Heap.push] at ho; rcases ho with rfl | rfl; exact qBE _; exact qBJ _)) (by simp [Heap.put, Heap.push])
    | cons x y =>
     have hne : V.T ≠ [] := fun e => by rw [e] at hlen; rw [ht] at hlen; simp at hlen
     have hyl : y.length + 1 = V.T.length := by rw [← hlen, ht]; rfl
     have hC : rsC V m = [.cells [.p .nilslice, .sref (.im 1) 0 V.T.length none 1, .mref (.im 2), .mref (.im 3)] 0, rowO (V.T.map sRow), byO V.T, tyO m] := by
      unfold rsC rsRoot rsLeaves; rw [hw, ht]; rw [show V.T.map sRow = x :: y from ht, ← hyl]; rfl
     have hL : (rsLeaves V m).length + 1 = 4 := by unfold rsLeaves; rw [hw, ht]; rfl
     rw [hL]
     refine ⟨_, ?_, by rw [hC, qGf _ (.p .nilslice) 2 3 1 s V.T 4 hne rfl rfl (by decide) rfl (by decide) (by decide) hs hl]⟩
     exact qBf (cw := .p .nilslice) (ct := .sref (.im 5) 0 (V.T.length + 1) none 1) (rw := []) (rt := [.im 5]) (b := 2) (n := 3) (by decide) rfl (.inl ⟨by rw [hw', hw], rfl, rfl⟩) (.inr ⟨by rw [ht']; simp, 5, by rw [ht', List.length_append, hlen]; rfl, rfl, rfl⟩) rfl rfl
      (qAn (fun o ho => by simp [Heap.put, Heap.push] at ho; rcases ho with rfl | rfl | rfl; rfl; exact qBE _; exact qBJ _)) (by simp [Heap.put, Heap.push])
   | cons a r =>
    have har : (a :: r).length = (wR V).length := by rw [hw]
    cases ht : tR V with
    | nil =>
     have hT : V.T = [] := by rw [← List.length_eq_zero_iff, ← hlen, ht]; rfl
     have hC : rsC V m = [.cells [.sref (.im 1) 0 (r.length + 1) none 1, .p .nilslice, .mref (.im 2), .mref (.im 3)] 0, rowO (a :: r), byO [], tyO m] := by unfold rsC rsRoot rsLeaves; rw [hw, ht, hT]; rfl
     have hL : (rsLeaves V m).length + 1 = 4 := by unfold rsLeaves; rw [hw, ht]; rfl
     rw [hL]
     refine ⟨_, ?_, by rw [hC, qIy _ (.sref (.im 1) 0 (r.length + 1) none 1) 2 3 s 4 rfl rfl (by decide), hT]; rfl⟩
     exact qBf (cw := .sref (.im 1) 0 (r.length + 1) none 1) (ct := .sref (.im 5) 0 1 none 1) (rw := [.im 1]) (rt := [.im 5]) (b := 2) (n := 3) (by decide) rfl (.inr ⟨by rw [hw', hw]; simp, 1, by rw [hw', hw]; rfl, rfl, by rw [hw', hw]; rfl⟩) (.inr ⟨by rw [ht']; simp, 5, by rw [ht', ht]; rfl, rfl, by rw [ht', ht]; rfl⟩) (by rw [hT]; rfl) rfl
      (qAn (fun o ho => by simp [Heap.put, Heap.push] at ho; rcases ho with rfl | rfl | rfl; exact qBk _; exact qBE _; exact qBJ _)) (by simp [Heap.put, Heap.push])
    | cons x y =>
     have hne : V.T ≠ [] := fun e => by rw [e] at hlen; rw [ht] at hlen; simp at hlen
     have hyl : y.length + 1 = V.T.length := by rw [← hlen, ht]; rfl
     have hC : rsC V m = [.cells [.sref (.im 1) 0 (r.length + 1) none 1, .sref (.im 2) 0 V.T.length none 1, .mref (.im 3), .mref (.im 4)] 0, rowO (a :: r), rowO (V.T.map sRow), byO V.T, tyO m] := by
      unfold rsC rsRoot rsLeaves; rw [hw, ht]; rw [show V.T.map sRow = x :: y from ht, ← hyl]; rfl
     have hL : (rsLeaves V m).length + 1 = 5 := by unfold rsLeaves; rw [hw, ht]; rfl
     rw [hL]
     refine ⟨_, ?_, by rw [hC, qGf _ (.sref (.im 1) 0 (r.length + 1) none 1) 3 4 2 s V.T 5 hne rfl rfl (by decide) rfl (by decide) (by decide) hs hl]⟩
     exact qBf (cw := .sref (.im 1) 0 (r.length + 1) none 1) (ct := .sref (.im 6) 0 (V.T.length + 1) none 1) (rw := [.im 1]) (rt := [.im 6]) (b := 3) (n := 4) (by decide) rfl (.inr ⟨by rw [hw', hw]; simp, 1, by rw [hw', hw]; rfl, rfl, by rw [hw', hw]; rfl⟩) (.inr ⟨by rw [ht']; simp, 6, by rw [ht', List.length_append, hlen]; rfl, rfl, rfl⟩) rfl rfl
      (qAn (fun o ho => by simp [Heap.put, Heap.push] at ho; rcases ho with rfl | rfl | rfl | rfl; exact qBk _; rfl; exact qBE _; exact qBJ _)) (by simp [Heap.put, Heap.push])
 obtain ⟨h', X, e⟩ := key
 exact qGc 135 (by decide) _ V _ m _ (fun _ => trivial) hO h' X true e
end Go.Proofs.YtlkejchbcchecaaDoor.Ab
set_option maxHeartbeats 4000000
namespace Go.Proofs.YtlkejchbcchecaaDoor.Ab
open Go Go.AI
theorem GS.src {D : List Nat} {sz : Nat} {v : Cell} {rows : List (List PVal)} {h : Heap} (G : GS D sz v rows h) : ∃ b, v.strip = .p b ∧ SrcR sz b rows := by
 rcases G with ⟨rfl, rfl⟩ | rfl | ⟨e, g, _, rfl, _⟩
 ·exact ⟨.nilslice, rfl, .inl ⟨rfl, rfl⟩⟩
 ·exact ⟨_, rfl, .inr ⟨_, rfl⟩⟩
 ·exact ⟨.slice sz false rows, rfl, .inr ⟨_, rfl⟩⟩
theorem qOf {h : Heap} {r n : Nat} {V : RS} {m : TyM} (X : RsAt h r V m n) (g : FuncId) (ps : List TVal) (hp : allB pT ps = true) (v : TVal) (hv : pT v = true) (hc : Om g (kP (.im 0) :: ps) (rsC V m) = some (v, rsC V m)) {β : Type} (d : Nat) (k : TVal → Heap → Option β) : vcall Om (.v (.c (.func g []))) (kP (.im r) :: ps) h d k = k v h := by
 obtain ⟨ρ, A, e0, him⟩ := X.at'
 exact (qDS A (qAO V m) him e0 g ps hp v hv hc).1 d k
theorem qA6 {g : FuncId} {ps : List TVal} {V V' : RS} {m : TyM} {v : TVal} (M : RsDo g ps V m v V') (hp : allB pT ps = true) (hv : pT v = true) {h : Heap} {r n : Nat} (X : RsAt h r V m n) :
  ∃ h' t, (∀ {β : Type} (d : Nat) (k : TVal → Heap → Option β), vcall Om (.v (.c (.func g []))) (kP (.im r) :: ps) h d k = k v h') ∧
   (∀ {β : Type} (d : Nat) (kt : TVal → Heap → AI.Touch → Option β), vtouch Om (.call (.k (.v (.c (.func g [])))) (.k (kP (.im r)) :: ps.map .k)) h d kt = kt v h' t) ∧
   RsAt h' r V' m n ∧ (∀ d g o, h.get (.own d g) = some o → h'.get (.own d g) = some o) ∧ (∀ d, h'.gen d = h.gen d) :=
 qKi M (qAX V m) (qAX V' m) hp hv X
theorem qIw {V : RS} {m : TyM} {l : List Int} {D : List Nat} {c : Cell} {h : Heap} {n : Nat} (X : RsAt h 0 V m n) (G : GS D 1 c (l.map ruRow) h) (hl : V.W.length + l.length ≤ 1073741824) :
  ∃ h', RsAt h' 0 (layM l V).2 m n ∧ ∀ (β : Type) (d : Nat) (k : TVal → Heap → Option β), vcall Om (.v (.c (.func 74 []))) [kP (.im 0), .v (.c c)] h d k = k (kW (layM l V).1) h' := by
 obtain ⟨b, hb, hs⟩ := GS.src G
 obtain ⟨h', t, c1, _, X', _, _⟩ := qA6 (qHK V m l b hs hl) rfl rfl X
 refine ⟨h', X', fun β d k => ?_⟩
 rw [qH0]
 show vcall Om _ [kP (.im 0), .v (.c c.strip)] h d k = _
 rw [hb]
 exact c1 d k
def PutC (m : TyM) (n : Nat) : Prop := ∀ (t : TT) (v : VT) (V : RS) (q : Int × RS), wfT t → smV v → putF m n t v V = some q → q.2.W.length ≤ 1073741824 → q.2.T.length < 1073741824 → RsDo 73 [kA t.row, kA v.row] V m (kW q.1) q.2
theorem le_w {A B : RS} (h : A.le B) : A.W.length ≤ B.W.length := by obtain ⟨⟨w, e⟩, _⟩ := h; rw [e, List.length_append]; omega
theorem qHJ {A B : RS} (h : A.le B) : A.T.length ≤ B.T.length := by obtain ⟨_, t, e⟩ := h; rw [e, List.length_append]; omega
abbrev r5 : TVal := .v (.c (.ptr (.own 5 1) 0))
section
variable {m : TyM} {n : Nat} (PC : PutC m n) (t : TT) (ht : wfT t) (v : VT) (sv : smV v) (n0 : Nat)
include PC ht sv
theorem qGx (x : VT) (hx : x ∈ v.l.list) (i g9 : Nat) (acc : List Int) (c' : Cell) (h : Heap) (V1 : RS) (q : Int × RS) (p : List Int × RS)
  (next : ∀ (acc : List Int) (c' : Cell) (h : Heap) (V1 : RS), acc.length ≤ 1 + 2 * (i + 1) → RsAt h 0 V1 m n0 → h.get (.own 4 1) = some (.cells (pcells t.row) 0) → h.get (.own 5 1) = some (.cells (pcells v.row) 0) → GS [42, 50] 1 c' (acc.map ruRow) h →
   listP (putF m n) t v (v.l.list.drop (i + 1)) (i + 1) acc V1 = some p → ∃ h', RsAt h' 0 (layM p.1 p.2).2 m n0 ∧ lim tab.get S 136 n0 1 [kP (.im 0), r4, r5, .v (.c c'), .v (.c (.p (slP 6 VT.row v.l))), kI (v.l.len : Int), kI ((i + 1 : Nat) : Int)] h = vfin true n0 [.c (.p (.int .u64 (layM p.1 p.2).1))] h')
  (hi : i < 1000000) (ha : acc.length ≤ 2 + 2 * i) (X : RsAt h 0 V1 m n0) (a4 : h.get (.own 4 1) = some (.cells (pcells t.row) 0)) (a5 : h.get (.own 5 1) = some (.cells (pcells v.row) 0)) (a9 : h.get (.own 9 g9) = some (.cells (pcells x.row) 0)) (G : GS [42, 50] 1 c' (acc.map ruRow) h)
  (e : putF m n (kidT t 0) x V1 = some q) (e2 : listP (putF m n) t v (v.l.list.drop (i + 1)) (i + 1) (acc ++ [q.1]) q.2 = some p) (bw : p.2.W.length + p.1.length ≤ 1073741824) (bt : p.2.T.length < 1073741824) :
  ∃ h', RsAt h' 0 (layM p.1 p.2).2 m n0 ∧ lim tab.get S 136 n0 3 [kP (.im 0), r4, r5, .v (.c c'), .v (.c (.ptr (.own 9 g9) 0)), .v (.c (.p (slP 6 VT.row v.l))), kI (v.l.len : Int), kI (i : Int)] h = vfin true n0 [.c (.p (.int .u64 (layM p.1 p.2).1))] h' := by
 have hle := (qCY (qBe m n) t v _ _ _ _ _ e2).1
 have M := PC (kidT t 0) x V1 q (qCP ht 0) (((qAq v).1 sv).2.2.2 x hx) e (by have := le_w hle; omega) (by have := qHJ hle; omega)
 obtain ⟨h1, t1, c1, c1t, X1, K1, G1⟩ := qA6 M (by simp only [exP]) rfl X
 have GB : GS [42, 50] 1 c' (acc.map ruRow) h1 := G.keep fun e _ g hg => K1 e g _ hg
 obtain ⟨c2, h2, t2, G2, e5, T2, K2, I2, X2⟩ := qCp (d := 50) (by' := 8) (new := [ruRow q.1]) (b := .slice 1 true [ruRow q.1]) (.inr ⟨_, rfl⟩) GB (by decide) (fun r hr => by simp at hr; rw [hr]; rfl) (by simp <;> omega) (by decide)
 have e5' : ∀ (β : Type) (O : Oracle) (kt : TVal → Heap → AI.Touch → Option β), vtouch O (.append 1 8 false (.k (.v (.c c'))) (.k (kSl 1 true [[.int .u64 q.1]]))) h1 50 kt = kt (.v (.c c2)) h2 t2 := e5
 rw [w136_3, b136_3]
 have Y0 : ∀ (β : Type) (kt : TVal → Heap → AI.Touch → Option β) (h : Heap) (d : Nat), vtouch Om (.call (.k (.v (.c (.func 137 [])))) [.k (kA t.row), .k (kI 0)]) h d kt = kt (kA (kidT t 0).row) h noTouch := fun β kt h d => qFb t 0 (by have := (qBD ht).2.1; omega)
 have Y1 : ∀ (β : Type) (kt : TVal → Heap → AI.Touch → Option β) (d : Nat), vtouch Om (.call (.k (.v (.c (.func 73 [])))) [.k (kP (.im 0)), .k (kA (kidT t 0).row), .k (kA x.row)]) h d kt = kt (kW q.1) h1 t1 := fun β kt d => c1t d kt
 simp (maxSteps := 9999999) +contextual only [exa, ne_eq, not_false_eq_true, reduceAdd, reduceMul, reduceLT, reduceLeDiff, reduceEqDiff, Int.reduceLT, Int.reduceLE, Int.reduceEq, Int.reduceToNat, exW, exY, a4, a9, Y0, Y1, qBI, e5', qAm i (by omega)]
 exact next (acc ++ [q.1]) c2 h2 q.2 (by simp; omega) (X1.of I2 (by rw [qFn e5]; exact X1.few)) (K2 4 1 _ (by decide) (K1 4 1 _ a4)) (K2 5 1 _ (by decide) (K1 5 1 _ a5)) (by rw [List.map_append]; exact G2) e2
theorem qKb (hl : v.l.len ≤ 1000000) (hn0 : 0 < n0) (p : List Int × RS) (bw : p.2.W.length + p.1.length ≤ 1073741824) (bt : p.2.T.length < 1073741824) :
  ∀ (i : Nat) (acc : List Int) (c' : Cell) (h : Heap) (V1 : RS), acc.length ≤ 1 + 2 * i → RsAt h 0 V1 m n0 → h.get (.own 4 1) = some (.cells (pcells t.row) 0) → h.get (.own 5 1) = some (.cells (pcells v.row) 0) → GS [42, 50] 1 c' (acc.map ruRow) h →
   listP (putF m n) t v (v.l.list.drop i) i acc V1 = some p → ∃ h', RsAt h' 0 (layM p.1 p.2).2 m n0 ∧ lim tab.get S 136 n0 1 [kP (.im 0), r4, r5, .v (.c c'), .v (.c (.p (slP 6 VT.row v.l))), kI (v.l.len : Int), kI (i : Int)] h = vfin true n0 [.c (.p (.int .u64 (layM p.1 p.2).1))] h' := by
 refine qAS v.l.len (fun i hi acc c' h V1 ha X a4 a5 G e => ?_) (fun i hi ih acc c' h V1 ha X a4 a5 G e => ?_)
 ·have h1 : ¬ (i : Int) < (v.l.len : Int) := by omega
  rw [qBC hi] at e
  cases e
  obtain ⟨h', X', c1⟩ := qIw X G bw
  refine ⟨h', X', ?_⟩
  rw [w136_1, b136_1]
  simp (maxSteps := 9999999) +contextual only [exa, ne_eq, not_false_eq_true, reduceAdd, reduceMul, reduceLT, reduceLeDiff, reduceEqDiff, Int.reduceLT, Int.reduceLE, Int.reduceEq, Int.reduceToNat, h1, w136_4, b136_4, c1]
 ·have h1 : (i : Int) < (v.l.len : Int) := by omega
  obtain ⟨x, hs, h2, hx⟩ := qAZ hi
  rw [h2] at e
  have hil : i < 1000000 := by omega
  rw [w136_1, b136_1]
  have NX := fun acc c' h V1 ha X a4 a5 G e => ih acc c' h V1 ha X a4 a5 G e
  have hz : put1 zc 0 (pcells x.row) = pcells x.row := qEA _ (VT.row_len x)
  by_cases hk : t.kind = 5
  ·unfold listP at e
   rw [if_pos hk] at e
   obtain ⟨q, e1, e2⟩ := Option.bind_eq_some_iff.1 e
   have hle := (qCY (qBe m n) t v _ _ _ _ _ e2).1
   have hqt := qHJ (RS.le_trans (qBe m n _ _ _ _ e1) hle)
   have hnt := qHJ (qDj (keyT v i) V1)
   have key : ∀ (g9 : Nat) (h : Heap), RsAt h 0 V1 m n0 → h.get (.own 4 1) = some (.cells (pcells t.row) 0) → h.get (.own 5 1) = some (.cells (pcells v.row) 0) → h.get (.own 9 g9) = some (.cells (pcells x.row) 0) → GS [42, 50] 1 c' (acc.map ruRow) h →
     ∃ h', RsAt h' 0 (layM p.1 p.2).2 m n0 ∧ lim tab.get S 136 n0 2 [kP (.im 0), r4, r5, .v (.c c'), .v (.c (.ptr (.own 9 g9) 0)), kS (keyT v i), .v (.c (.p (slP 6 VT.row v.l))), kI (v.l.len : Int), kI (i : Int)] h = vfin true n0 [.c (.p (.int .u64 (layM p.1 p.2).1))] h' := by
    intro g9 h X a4 a5 a9 G
    obtain ⟨h1, t1, c1, _, X1, K1, G1⟩ := qA6 (qKp V1 m (keyT v i) (by omega)) rfl rfl X
    have GB : GS [42, 50] 1 c' (acc.map ruRow) h1 := G.keep fun e _ g hg => K1 e g _ hg
    obtain ⟨c2, h2', t2, G2, e5, T2, K2, I2, X2⟩ := qCp (d := 42) (by' := 8) (new := [ruRow (numM (keyT v i) V1).1]) (b := .slice 1 true [ruRow (numM (keyT v i) V1).1]) (.inr ⟨_, rfl⟩) GB (by decide) (fun r hr => by simp at hr; rw [hr]; rfl) (by simp <;> omega) (by decide)
    have e5' : ∀ (β : Type) (O : Oracle) (k : TVal → Heap → Option β), vop O (.append 1 8 false (.k (.v (.c c'))) (.k (kSl 1 true [[.int .u64 (numM (keyT v i) V1).1]]))) h1 42 k = k (.v (.c c2)) h2' := fun β O k => by
     rw [qB7]; exact e5 β O _
    rw [w136_2, b136_2]
    have C1 : ∀ (β : Type) (k : TVal → Heap → Option β) (d : Nat), vcall Om (.v (.c (.func 135 []))) [kP (.im 0), kS (keyT v i)] h d k = k (kW (numM (keyT v i) V1).1) h1 := fun β k d => c1 d k
    simp (maxSteps := 9999999) +contextual only [exa, ne_eq, not_false_eq_true, reduceAdd, reduceMul, reduceLT, reduceLeDiff, reduceEqDiff, Int.reduceLT, Int.reduceLE, Int.reduceEq, Int.reduceToNat, exW, C1, e5']
    exact qGx PC t ht v sv n0 x hx i g9 (acc ++ [(numM (keyT v i) V1).1]) c2 h2' _ q p (fun acc c' h V1 ha X a4 a5 G e => ih acc c' h V1 ha X a4 a5 G e) hil (by simp; omega) (X1.of I2 (by rw [qFn e5]; exact X1.few)) (K2 4 1 _ (by decide) (K1 4 1 _ a4)) (K2 5 1 _ (by decide) (K1 5 1 _ a5)) (K2 9 g9 _ (by decide) (K1 9 g9 _ a9))
     (by rw [List.map_append]; exact G2) e1 (by rw [List.append_assoc]; exact e2) bw bt
   cases hky : v.keys.list[i]? with
   | none =>
    have hkl : ¬ (i : Int) < (v.keys.len : Int) := by have := List.getElem?_eq_none_iff.1 hky; unfold Sl.len; omega
    have hkt : keyT v i = [] := by unfold keyT; rw [hky]; rfl
    obtain ⟨h', X', e'⟩ := key (h.gen 9 + 1) _ ((X.own 9 (h.gen 9 + 1) (.cells zc 0)).own 9 (h.gen 9 + 1) (.cells (pcells x.row) 0)) (by simp only [exa, ne_eq, not_false_eq_true, reduceAdd, reduceMul, reduceLT, reduceLeDiff, reduceEqDiff, Int.reduceLT, Int.reduceLE, Int.reduceEq, Int.reduceToNat, a4]) (by simp only [exa, ne_eq, not_false_eq_true, reduceAdd, reduceMul, reduceLT, reduceLeDiff, reduceEqDiff, Int.reduceLT, Int.reduceLE, Int.reduceEq, Int.reduceToNat, a5]) (by simp only [exa, ne_eq, not_false_eq_true, reduceAdd, reduceMul, reduceLT, reduceLeDiff, reduceEqDiff, Int.reduceLT, Int.reduceLE, Int.reduceEq, Int.reduceToNat]) ((G.own _ _ (by decide)).own _ _ (by decide))
    refine ⟨h', X', ?_⟩
    rw [hkt] at e'
    simp (maxSteps := 9999999) +contextual only [exa, ne_eq, not_false_eq_true, reduceAdd, reduceMul, reduceLT, reduceLeDiff, reduceEqDiff, Int.reduceLT, Int.reduceLE, Int.reduceEq, Int.reduceToNat, h1, hs, hk, hkl, hz, a4, a5, e']
   | some ky =>
    have hkl : (i : Int) < (v.keys.len : Int) := by have := (List.getElem?_eq_some_iff.1 hky).1; unfold Sl.len; omega
    have hkt : keyT v i = ky := by unfold keyT; rw [hky]; rfl
    obtain ⟨h', X', e'⟩ := key (h.gen 9 + 1) _ ((X.own 9 (h.gen 9 + 1) (.cells zc 0)).own 9 (h.gen 9 + 1) (.cells (pcells x.row) 0)) (by simp only [exa, ne_eq, not_false_eq_true, reduceAdd, reduceMul, reduceLT, reduceLeDiff, reduceEqDiff, Int.reduceLT, Int.reduceLE, Int.reduceEq, Int.reduceToNat, a4]) (by simp only [exa, ne_eq, not_false_eq_true, reduceAdd, reduceMul, reduceLT, reduceLeDiff, reduceEqDiff, Int.reduceLT, Int.reduceLE, Int.reduceEq, Int.reduceToNat, a5]) (by simp only [exa, ne_eq, not_false_eq_true, reduceAdd, reduceMul, reduceLT, reduceLeDiff, reduceEqDiff, Int.reduceLT, Int.reduceLE, Int.reduceEq, Int.reduceToNat]) ((G.own _ _ (by decide)).own _ _ (by decide))
    refine ⟨h', X', ?_⟩
    rw [hkt] at e'
    simp (maxSteps := 9999999) +contextual only [exa, ne_eq, not_false_eq_true, reduceAdd, reduceMul, reduceLT, reduceLeDiff, reduceEqDiff, Int.reduceLT, Int.reduceLE, Int.reduceEq, Int.reduceToNat, h1, hs, hk, hkl, hz, hky, a4, a5, e']
  ·unfold listP at e
   rw [if_neg hk] at e
   obtain ⟨q, e1, e2⟩ := Option.bind_eq_some_iff.1 e
   obtain ⟨h', X', e'⟩ := qGx PC t ht v sv n0 x hx i (h.gen 9 + 1) acc c' _ V1 q p (fun acc c' h V1 ha X a4 a5 G e => ih acc c' h V1 ha X a4 a5 G e) hil (by omega) ((X.own 9 (h.gen 9 + 1) (.cells zc 0)).own 9 (h.gen 9 + 1) (.cells (pcells x.row) 0)) (by simp only [exa, ne_eq, not_false_eq_true, reduceAdd, reduceMul, reduceLT, reduceLeDiff, reduceEqDiff, Int.reduceLT, Int.reduceLE, Int.reduceEq, Int.reduceToNat, a4]) (by simp only [exa, ne_eq, not_false_eq_true, reduceAdd, reduceMul, reduceLT, reduceLeDiff, reduceEqDiff, Int.reduceLT, Int.reduceLE, Int.reduceEq, Int.reduceToNat, a5]) (by simp only [exa, ne_eq, not_false_eq_true, reduceAdd, reduceMul, reduceLT, reduceLeDiff, reduceEqDiff, Int.reduceLT, Int.reduceLE, Int.reduceEq, Int.reduceToNat])
    ((G.own _ _ (by decide)).own _ _ (by decide)) e1 e2 bw bt
   refine ⟨h', X', ?_⟩
   simp (maxSteps := 9999999) +contextual only [exa, ne_eq, not_false_eq_true, reduceAdd, reduceMul, reduceLT, reduceLeDiff, reduceEqDiff, Int.reduceLT, Int.reduceLE, Int.reduceEq, Int.reduceToNat, h1, hs, hk, hz, a4, a5, e']
theorem qOb (V : RS) (p : List Int × RS) (e : listP (putF m n) t v v.l.list 0 [(v.l.len : Int)] V = some p) (bw : p.2.W.length + p.1.length ≤ 1073741824) (bt : p.2.T.length < 1073741824) : RsDo 136 [kA t.row, kA v.row] V m (kW (layM p.1 p.2).1) (layM p.1 p.2).2 := by
 have hl : v.l.len ≤ 1000 := ((qAq v).1 sv).2.2.1
 have hO : Om 136 [kP (.im 0), kA t.row, kA v.row] (rsC V m) = lim tab.get S 136 ((rsLeaves V m).length + 1) 0 [kP (.im 0), kA t.row, kA v.row] ⟨rsC V m, .nil⟩ := qAE rfl
 have W1 := qE3 v.l.len (by omega)
 obtain ⟨h', X', e'⟩ := qKb PC t ht v sv ((rsLeaves V m).length + 1) (by omega) (Nat.succ_pos _) p bw bt 0 [(v.l.len : Int)] (.p (.slice 1 true [ruRow (v.l.len : Int)])) _ V (by simp) (((qDL V m).own 4 1 (.cells (pcells t.row) 0)).own 5 1 (.cells (pcells v.row) 0)) (by simp only [exa, ne_eq, not_false_eq_true, reduceAdd, reduceMul, reduceLT, reduceLeDiff, reduceEqDiff, Int.reduceLT, Int.reduceLE, Int.reduceEq, Int.reduceToNat]) (by simp only [exa, ne_eq, not_false_eq_true, reduceAdd, reduceMul, reduceLT, reduceLeDiff, reduceEqDiff, Int.reduceLT, Int.reduceLE, Int.reduceEq, Int.reduceToNat]) (.inr (.inl rfl)) e
 refine qGc 136 (by decide) _ V _ m _ (fun _ => trivial) hO h' X' true ?_
 rw [w136_0, b136_0]
 have B0 : ∀ (β : Type) (O : Oracle) (h : Heap) (d : Nat) (k : TVal → Heap → Option β), vop O (.bslice 1 1 [.p (.int .u64 0)] [(0, .k (kW (v.l.len : Int)))] false) h d k = k (kSl 1 true [ruRow (v.l.len : Int)]) h := fun β O h d k => by
  rw [qB7, qBI _ _ rfl]; rfl
 simp (maxSteps := 9999999) +contextual only [exa, ne_eq, not_false_eq_true, reduceAdd, reduceMul, reduceLT, reduceLeDiff, reduceEqDiff, Int.reduceLT, Int.reduceLE, Int.reduceEq, Int.reduceToNat, W1, B0]
 exact e'
end
end Go.Proofs.YtlkejchbcchecaaDoor.Ab
set_option maxHeartbeats 4000000
namespace Go.Proofs.YtlkejchbcchecaaDoor.Ab
open Go Go.AI
theorem qPr : smV .nul := (qAq _).2 ⟨by show 0 ≤ 100000; decide, by show 0 ≤ 1000; decide, by show 0 ≤ 1000; decide, fun x hx => by cases hx⟩
theorem qNO {v : VT} (sv : smV v) (a : List UInt8) : smV (fieldM v a) := by
 unfold fieldM
 cases h : (idxM a v.keys.list).bind fun k => v.l.list[k]? with
 | none => exact qPr
 | some x =>
  obtain ⟨k, _, hk⟩ := Option.bind_eq_some_iff.1 h
  exact ((qAq v).1 sv).2.2.2 x (List.mem_of_getElem? hk)
section
variable {m : TyM} {n : Nat} (PC : PutC m n) (t : TT) (ht : wfT t) (v : VT) (sv : smV v) (n0 : Nat)
include PC ht sv
theorem qNe (p : List Int × RS) (bw : p.2.W.length + p.1.length ≤ 1073741824) (bt : p.2.T.length < 1073741824) :
  ∀ (i : Nat) (acc : List Int) (c' : Cell) (h : Heap) (V1 : RS), acc.length ≤ i → RsAt h 0 V1 m n0 → h.get (.own 4 1) = some (.cells (pcells t.row) 0) → h.get (.own 5 1) = some (.cells (pcells v.row) 0) → GS [73] 1 c' (acc.map ruRow) h →
   recP (putF m n) t v (t.names.list.drop i) i acc V1 = some p → ∃ h', RsAt h' 0 (layM p.1 p.2).2 m n0 ∧ lim tab.get S 73 n0 2 [kP (.im 0), r4, r5, .v (.c c'), .v (.c (.p (slP 1 sRow t.names))), kI (t.names.len : Int), kI (i : Int)] h = vfin true n0 [.c (.p (.int .u64 (layM p.1 p.2).1))] h' := by
 have hnl := (qBD ht).1
 refine qAS t.names.len (fun i hi acc c' h V1 ha X a4 a5 G e => ?_) (fun i hi ih acc c' h V1 ha X a4 a5 G e => ?_)
 ·have h1 : ¬ (i : Int) < (t.names.len : Int) := by omega
  rw [qBC hi] at e
  cases e
  obtain ⟨h', X', c1⟩ := qIw X G bw
  refine ⟨h', X', ?_⟩
  rw [w73_2, b73_2]
  simp (maxSteps := 9999999) +contextual only [exa, ne_eq, not_false_eq_true, reduceAdd, reduceMul, reduceLT, reduceLeDiff, reduceEqDiff, Int.reduceLT, Int.reduceLE, Int.reduceEq, Int.reduceToNat, h1, w73_3, b73_3, c1]
 ·have h1 : (i : Int) < (t.names.len : Int) := by omega
  obtain ⟨a, hs, h2, hx⟩ := qAZ hi
  rw [h2] at e
  unfold recP at e
  obtain ⟨q, e1, e2⟩ := Option.bind_eq_some_iff.1 e
  have hle := (qFc (qBe m n) t v _ _ _ _ _ e2).1
  have M := PC (kidT t i) (fieldM v a) V1 q (qCP ht i) (qNO sv a) e1 (by have := le_w hle; omega) (by have := qHJ hle; omega)
  obtain ⟨h1', t1, c1, c1t, X1, K1, G1⟩ := qA6 M (by simp only [exP]) rfl X
  have GB : GS [73] 1 c' (acc.map ruRow) h1' := G.keep fun e _ g hg => K1 e g _ hg
  obtain ⟨c2, h2', t2, G2, e5, T2, K2, I2, X2⟩ := qCp (d := 73) (by' := 8) (new := [ruRow q.1]) (b := .slice 1 true [ruRow q.1]) (.inr ⟨_, rfl⟩) GB (by decide) (fun r hr => by simp at hr; rw [hr]; rfl) (by simp <;> omega) (by decide)
  have e5' : ∀ (β : Type) (O : Oracle) (kt : TVal → Heap → AI.Touch → Option β), vtouch O (.append 1 8 false (.k (.v (.c c'))) (.k (kSl 1 true [[.int .u64 q.1]]))) h1' 73 kt = kt (.v (.c c2)) h2' t2 := e5
  rw [w73_2, b73_2]
  have Y0 := fun (β : Type) (kt : TVal → Heap → AI.Touch → Option β) (h : Heap) (d : Nat) => qFb (kt := kt) (h := h) (d := d) t i (by have := (qBD ht).2.1; omega)
  have Y2 := fun (β : Type) (kt : TVal → Heap → AI.Touch → Option β) (h : Heap) (d : Nat) => y138 (kt := kt) (h := h) (d := d) v a (by have := ((qAq v).1 sv).2.1; omega) (by have := ((qAq v).1 sv).2.2.1; omega)
  have Y1 : ∀ (β : Type) (kt : TVal → Heap → AI.Touch → Option β) (d : Nat), vtouch Om (.call (.k (.v (.c (.func 73 [])))) [.k (kP (.im 0)), .k (kA (kidT t i).row), .k (kA (fieldM v a).row)]) h d kt = kt (kW q.1) h1' t1 := fun β kt d => c1t d kt
  simp (maxSteps := 9999999) +contextual only [exa, ne_eq, not_false_eq_true, reduceAdd, reduceMul, reduceLT, reduceLeDiff, reduceEqDiff, Int.reduceLT, Int.reduceLE, Int.reduceEq, Int.reduceToNat, exW, exY, h1, hs, a4, a5, Y0, Y1, Y2, qBI, e5', qAm i (by omega)]
  exact ih (acc ++ [q.1]) c2 h2' q.2 (by simp; omega) (X1.of I2 (by rw [qFn e5]; exact X1.few)) (K2 4 1 _ (by decide) (K1 4 1 _ a4)) (K2 5 1 _ (by decide) (K1 5 1 _ a5)) (by rw [List.map_append]; exact G2) e2
end
theorem qNt (m : TyM) (hm : m.length < 4611686018427387904) (hty : ∀ e ∈ m, wfT e.2) : ∀ n, PutC m n
 | 0 => fun t v V q _ _ e => by cases e
 | n + 1 => by
  intro t0 v V q ht0 sv e bw bt
  have PC := qNt m hm hty n
  have hO : Om 73 [kP (.im 0), kA t0.row, kA v.row] (rsC V m) = lim tab.get S 73 ((rsLeaves V m).length + 1) 0 [kP (.im 0), kA t0.row, kA v.row] ⟨rsC V m, .nil⟩ := qAE rfl
  have ht : wfT (fopen m t0) := qIr hty ht0
  have hop := qHZ V m t0 hm
  have e' : putT (putF m n) (fopen m t0) v V = some q := e
  clear e
  obtain ⟨s1, s2, s3, s4⟩ := (qAq v).1 sv
  generalize fopen m t0 = t at ht hop e'
  obtain ⟨hn6, hk6, h8, _⟩ := qBD ht
  have key : ∃ h', RsAt h' 0 q.2 m ((rsLeaves V m).length + 1) ∧ lim tab.get S 73 ((rsLeaves V m).length + 1) 0 [kP (.im 0), kA t0.row, kA v.row] ⟨rsC V m, .nil⟩ = vfin true ((rsLeaves V m).length + 1) [.c (.p (.int .u64 q.1))] h' := by
   have X0 := ((qDL V m).own 4 1 (.cells (pcells t0.row) 0)).own 5 1 (.cells (pcells v.row) 0)
   have X := X0.own 4 1 (.cells (pcells t.row) 0)
   have hz : put1 (pcells t0.row) 0 (pcells t.row) = pcells t.row := qBT _ _ (by rw [qAQ, qAQ, TT.row_len, TT.row_len])
   have U := fun (β : Type) (k : TVal → Heap → Option β) (d : Nat) => qOf X0 134 [kA t0.row] (by simp only [exP]) (kA t.row) (by simp only [exP]) hop d k
   unfold putT at e'
   rw [w73_0, b73_0]
   by_cases k1 : t.kind = 1
   ·rw [if_pos k1] at e'; cases e'
    refine ⟨_, X, ?_⟩
    cases hb : v.b <;> simp (maxSteps := 9999999) +contextual only [exa, ne_eq, not_false_eq_true, reduceAdd, reduceMul, reduceLT, reduceLeDiff, reduceEqDiff, Int.reduceLT, Int.reduceLE, Int.reduceEq, Int.reduceToNat, U, hz, k1, hb, if_true, if_false, Bool.false_eq_true]
   rw [if_neg k1] at e'
   by_cases k2 : t.kind = 2
   ·rw [if_pos k2] at e'; cases e'
    refine ⟨_, X, ?_⟩
    simp (maxSteps := 9999999) +contextual only [exa, ne_eq, not_false_eq_true, reduceAdd, reduceMul, reduceLT, reduceLeDiff, reduceEqDiff, Int.reduceLT, Int.reduceLE, Int.reduceEq, Int.reduceToNat, U, hz, k1, k2]
    rfl
   rw [if_neg k2] at e'
   by_cases k3 : t.kind = 3
   ·rw [if_pos k3] at e'; cases e'
    obtain ⟨h1, t1, c1, _, X1, K1, G1⟩ := qA6 (qKp V m v.s (by have := qHJ (qDj v.s V); omega)) rfl rfl X
    refine ⟨h1, X1, ?_⟩
    have C1 := fun (β : Type) (k : TVal → Heap → Option β) (d : Nat) => c1 (β := β) d k
    simp (maxSteps := 9999999) +contextual only [exa, ne_eq, not_false_eq_true, reduceAdd, reduceMul, reduceLT, reduceLeDiff, reduceEqDiff, Int.reduceLT, Int.reduceLE, Int.reduceEq, Int.reduceToNat, U, hz, k1, k2, k3, C1]
   rw [if_neg k3] at e'
   have K45 : t.kind = 4 ∨ t.kind = 5 → ∃ h', RsAt h' 0 q.2 m ((rsLeaves V m).length + 1) ∧ lim tab.get S 73 ((rsLeaves V m).length + 1) 1 [kP (.im 0), r4, r5, kI t.kind, kB true] (((Heap.mk (rsC V m) .nil).own 4 1 (.cells (pcells t0.row) 0)).own 5 1 (.cells (pcells v.row) 0) |>.own 4 1 (.cells (pcells t.row) 0)) = vfin true ((rsLeaves V m).length + 1) [.c (.p (.int .u64 q.1))] h' := by
    intro h45
    rw [if_pos h45] at e'
    obtain ⟨p, e1, e2⟩ := Option.map_eq_some_iff.1 e'
    subst e2
    have hb2 : p.2.W.length + p.1.length ≤ 1073741824 := by have : (layM p.1 p.2).2.W.length = p.2.W.length + p.1.length := List.length_append; omega
    obtain ⟨h1, t1, c1, _, X1, K1, G1⟩ := qA6 (qOb PC t ht v sv V p e1 hb2 bt) (by simp only [exP]) rfl X
    refine ⟨h1, X1, ?_⟩
    have C1 := fun (β : Type) (k : TVal → Heap → Option β) (d : Nat) => c1 (β := β) d k
    rw [w73_1, b73_1]
    simp (maxSteps := 9999999) +contextual only [exa, ne_eq, not_false_eq_true, reduceAdd, reduceMul, reduceLT, reduceLeDiff, reduceEqDiff, Int.reduceLT, Int.reduceLE, Int.reduceEq, Int.reduceToNat, C1]
   by_cases k4 : t.kind = 4
   ·obtain ⟨h1, X1, c1⟩ := K45 (.inl k4)
    refine ⟨h1, X1, ?_⟩
    rw [k4] at c1
    simp (maxSteps := 9999999) +contextual only [exa, ne_eq, not_false_eq_true, reduceAdd, reduceMul, reduceLT, reduceLeDiff, reduceEqDiff, Int.reduceLT, Int.reduceLE, Int.reduceEq, Int.reduceToNat, U, hz, k1, k2, k3, k4]
    exact c1
   by_cases k5 : t.kind = 5
   ·obtain ⟨h1, X1, c1⟩ := K45 (.inr k5)
    refine ⟨h1, X1, ?_⟩
    rw [k5] at c1
    simp (maxSteps := 9999999) +contextual only [exa, ne_eq, not_false_eq_true, reduceAdd, reduceMul, reduceLT, reduceLeDiff, reduceEqDiff, Int.reduceLT, Int.reduceLE, Int.reduceEq, Int.reduceToNat, U, hz, k1, k2, k3, k4, k5]
    exact c1
   rw [if_neg (by omega)] at e'
   by_cases k6 : t.kind = 6
   ·rw [if_pos k6] at e'
    by_cases hv : v.kind = 0
    ·rw [if_pos hv] at e'; cases e'
     refine ⟨_, X, ?_⟩
     simp (maxSteps := 9999999) +contextual only [exa, ne_eq, not_false_eq_true, reduceAdd, reduceMul, reduceLT, reduceLeDiff, reduceEqDiff, Int.reduceLT, Int.reduceLE, Int.reduceEq, Int.reduceToNat, U, hz, k1, k2, k3, k4, k5, k6, hv, w73_1, b73_1]
    ·rw [if_neg hv] at e'
     obtain ⟨p, e1, e2⟩ := Option.map_eq_some_iff.1 e'
     subst e2
     have hb2 : p.2.W.length + 1 ≤ 1073741824 := by have : (layM [p.1] p.2).2.W.length = p.2.W.length + 1 := List.length_append; simp only at bw; omega
     obtain ⟨h1, t1, c1, c1t, X1, K1, G1⟩ := qA6 (PC (kidT t 0) v V p (qCP ht 0) sv e1 (by omega) bt) (by simp only [exP]) rfl X
     obtain ⟨h2, t2, c2, c2t, X2, K2, G2⟩ := qA6 (qHK p.2 m [p.1] (.slice 1 true [[.int .u64 p.1]]) (.inr ⟨_, rfl⟩) hb2) rfl rfl X1
     refine ⟨h2, X2, ?_⟩
     have W1 : IntKind.u64.wrap ((layM [p.1] p.2).1 + 1) = (layM [p.1] p.2).1 + 1 := qAs _ (by unfold layM; simp; omega) (by unfold layM; simp; omega)
     have Y0 : ∀ (β : Type) (kt : TVal → Heap → AI.Touch → Option β) (h : Heap) (d : Nat), vtouch Om (.call (.k (.v (.c (.func 137 [])))) [.k (kA t.row), .k (kI 0)]) h d kt = kt (kA (kidT t 0).row) h noTouch := fun β kt h d => qFb t 0 (by omega)
     have C1 : ∀ (β : Type) (kt : TVal → Heap → AI.Touch → Option β) (d : Nat), vtouch Om (.call (.k (.v (.c (.func 73 [])))) [.k (kP (.im 0)), .k (kA (kidT t 0).row), .k (kA v.row)]) _ d kt = kt (kW p.1) h1 t1 := fun β kt d => c1t d kt
     have C2 : ∀ (β : Type) (kt : TVal → Heap → AI.Touch → Option β) (d : Nat), vtouch Om (.call (.k (.v (.c (.func 74 [])))) [.k (kP (.im 0)), .k (kSl 1 true [[.int .u64 p.1]])]) h1 d kt = kt (kW (layM [p.1] p.2).1) h2 t2 := fun β kt d => c2t d kt
     simp (maxSteps := 9999999) +contextual only [exa, ne_eq, not_false_eq_true, reduceAdd, reduceMul, reduceLT, reduceLeDiff, reduceEqDiff, Int.reduceLT, Int.reduceLE, Int.reduceEq, Int.reduceToNat, exW, exY, U, hz, k1, k2, k3, k4, k5, k6, hv, w73_1, b73_1, Y0, C1, C2, qBI, W1]
   rw [if_neg k6] at e'
   by_cases k7 : t.kind = 7
   ·rw [if_pos k7] at e'
    obtain ⟨p, e1, e2⟩ := Option.map_eq_some_iff.1 e'
    subst e2
    have hb2 : p.2.W.length + p.1.length ≤ 1073741824 := by have : (layM p.1 p.2).2.W.length = p.2.W.length + p.1.length := List.length_append; omega
    obtain ⟨h1, X1, c1⟩ := qNe PC t ht v sv ((rsLeaves V m).length + 1) p hb2 bt 0 [] (.p .nilslice) _ V (Nat.le_refl _) X (by simp only [exa, ne_eq, not_false_eq_true, reduceAdd, reduceMul, reduceLT, reduceLeDiff, reduceEqDiff, Int.reduceLT, Int.reduceLE, Int.reduceEq, Int.reduceToNat]) (by simp only [exa, ne_eq, not_false_eq_true, reduceAdd, reduceMul, reduceLT, reduceLeDiff, reduceEqDiff, Int.reduceLT, Int.reduceLE, Int.reduceEq, Int.reduceToNat]) (.inl ⟨rfl, rfl⟩) e1
    refine ⟨h1, X1, ?_⟩
    simp (maxSteps := 9999999) +contextual only [exa, ne_eq, not_false_eq_true, reduceAdd, reduceMul, reduceLT, reduceLeDiff, reduceEqDiff, Int.reduceLT, Int.reduceLE, Int.reduceEq, Int.reduceToNat, U, hz, k1, k2, k3, k4, k5, k6, k7, w73_1, b73_1]
    exact c1
   rw [if_neg k7, if_neg h8] at e'
   cases e'
   refine ⟨_, X, ?_⟩
   simp (maxSteps := 9999999) +contextual only [exa, ne_eq, not_false_eq_true, reduceAdd, reduceMul, reduceLT, reduceLeDiff, reduceEqDiff, Int.reduceLT, Int.reduceLE, Int.reduceEq, Int.reduceToNat, U, hz, k1, k2, k3, k4, k5, k6, k7, h8, w73_1, b73_1]
  obtain ⟨h', X, e⟩ := key
  exact qGc 73 (by decide) _ V _ m _ (fun _ => trivial) hO h' X true e
end Go.Proofs.YtlkejchbcchecaaDoor.Ab
set_option maxHeartbeats 4000000
namespace Go.Proofs.YtlkejchbcchecaaDoor.Ab
open Go Go.AI
abbrev V0 : RS := ⟨[], []⟩
theorem qKE (s : ST) (hs : s.types = .nil) : Om 72 [kA s.row] [] = some (kP (.im 0), rsC V0 []) := by
 refine (qAE rfl).trans ?_
 show lim tab.get S 72 0 0 [kA s.row] h0 = _
 rw [w72_0, b72_0]
 have h1 : (s.types.len : Int) = 0 := by rw [hs]; rfl
 simp (maxSteps := 9999999) +contextual only [exa, ne_eq, not_false_eq_true, reduceAdd, reduceMul, reduceLT, reduceLeDiff, reduceEqDiff, Int.reduceLT, Int.reduceLE, Int.reduceEq, Int.reduceToNat, h1]
 rw [w72_1, b72_1]
 simp (maxSteps := 9999999) +contextual only [exa, ne_eq, not_false_eq_true, reduceAdd, reduceMul, reduceLT, reduceLeDiff, reduceEqDiff, Int.reduceLT, Int.reduceLE, Int.reduceEq, Int.reduceToNat]
 have A : At ((((h0.own 1 1 (AObj.cells (pcells s.row) 0)).own 6 1 (AObj.map [] 0)).own 7 1 (AObj.map [] 0)).own 9 1 (AObj.cells [Cell.p PVal.nilslice, Cell.p PVal.nilslice, Cell.mref (Ref.own 6 1), Cell.mref (Ref.own 7 1)] 0)) [.own 9 1, .own 6 1, .own 7 1] (rsC V0 []) := by
  refine ⟨by decide, rfl, fun i r o e1 e2 => ?_⟩
  match i, e1, e2 with
  | 0, e1, e2 => cases e1; cases e2; rfl
  | 1, e1, e2 => cases e1; cases e2; rfl
  | 2, e1, e2 => cases e1; cases e2; rfl
 exact qI0 A (qAO V0 []) rfl false [.c (.ptr (.own 9 1) 0)] _ rfl rfl
def blkO (t : TT) (w : Int) : AObj := .cells (.ptr (.im 1) 0 :: (pcells t.row ++ [.p (.int .u64 w)])) 0
abbrev rowsC (V : RS) (m : TyM) (t : TT) (w : Int) : List AObj := blkO t w :: shO (rsRoot V) :: rsLeaves V m
theorem qMr (t : TT) (w : Int) : (blkO t w).refs = [.im 1] := by
 show [Ref.im 1] ++ (pcells t.row ++ [Cell.p (.int .u64 w)]).flatMap Cell.refs = [.im 1]
 rw [List.flatMap_append, qCq]; rfl
theorem qB4 (V : RS) (m : TyM) (t : TT) (w : Int) : Rooted (rowsC V m t w) := qHT (qAX V m) (qMr t w) (fun e => by cases e)
theorem qOD (t : TT) (w : Int) (σ : Ref → Option Ref) (r : Ref) (h : σ (.im 1) = some r) : (blkO t w).ren σ = .cells (.ptr r 0 :: (pcells t.row ++ [.p (.int .u64 w)])) 0 := by
 unfold blkO
 simp only [AObj.ren, List.map_cons, Cell.ren, h]
 congr 2
 have : ∀ l : List PVal, (pcells l).map (Cell.ren σ) = pcells l := fun l => by
  induction l with
  | nil => rfl
  | cons a l ih => exact congrArg _ ih
 rw [List.map_append, this]; rfl
theorem qOM (s : ST) (hs : s.types = .nil) (t : TT) (ht : wfT t) (v : VT) (sv : smV v) (n : Nat) (r : List UInt8 × Bool) (he : fitF [] n t v = some r) (hr : r.2 = true) (n' : Nat) (q : Int × RS) (hq : putF [] n' t v V0 = some q) (bw : q.2.W.length + 1 ≤ 1073741824) (bt : q.2.T.length < 1073741824) :
  Om 23 [kA s.row, kA t.row, kA v.row] [] = some (.tup [.c (.ptr (.im 0) 0), .c (.p (.str [])), .c (.p (.int .i64 0))], rowsC (layM [q.1] q.2).2 [] t q.1) := by
 refine (qAE rfl).trans ?_
 show lim tab.get S 23 0 0 [kA s.row, kA t.row, kA v.row] h0 = _
 rw [w23_0, b23_0]
 have hl0 : s.types.list = [] := by rw [hs]; rfl
 have F17 := qQN s t v n (by unfold Sl.len; rw [hl0]; decide) (fun i j a b _ h => by rw [hl0] at h; simp at h) r (by rw [hl0]; exact he)
 rw [if_pos hr, if_pos hr] at F17
 have U17 := fun (β : Type) (k : TVal → Heap → Option β) (h : Heap) (d : Nat) => qAP (k := k) (h := h) (d := d) 17 [kA s.row, kA t.row, kA v.row] _ (by simp only [exP]) F17 rfl
 generalize hH : (((h0.own 3 1 (.cells (pcells s.row) 0)).own 4 1 (.cells (pcells t.row) 0)).own 5 1 (.cells (pcells v.row) 0)) = H
 have a3 : H.get (.own 3 1) = some (.cells (pcells s.row) 0) := by rw [← hH]; simp only [exa, ne_eq, not_false_eq_true, reduceAdd, reduceMul, reduceLT, reduceLeDiff, reduceEqDiff, Int.reduceLT, Int.reduceLE, Int.reduceEq, Int.reduceToNat]
 have a4 : H.get (.own 4 1) = some (.cells (pcells t.row) 0) := by rw [← hH]; simp only [exa, ne_eq, not_false_eq_true, reduceAdd, reduceMul, reduceLT, reduceLeDiff, reduceEqDiff, Int.reduceLT, Int.reduceLE, Int.reduceEq, Int.reduceToNat]
 have a5 : H.get (.own 5 1) = some (.cells (pcells v.row) 0) := by rw [← hH]; simp only [exa, ne_eq, not_false_eq_true, reduceAdd, reduceMul, reduceLT, reduceLeDiff, reduceEqDiff, Int.reduceLT, Int.reduceLE, Int.reduceEq, Int.reduceToNat]
 have hi : H.ims.length = 0 := by rw [← hH]; rfl
 have hg : H.gen 38 = 0 := by rw [← hH]; rfl
 obtain ⟨h1, c1, A1, K1, G1, L1⟩ := qHV (az := [kA s.row]) (by simp only [exP]) (qKE s hs) (qAO V0 []).1 H
 rw [hi] at c1 A1
 have c1' : ∀ (β : Type) (k : TVal → Heap → Option β) (d : Nat), vcall Om (.v (.c (.func 72 []))) [kA s.row] H d k = k (kP (.im 0)) h1 := fun β k d => c1 d k
 have X1 : RsAt h1 0 V0 [] 0 := ⟨⟨_, A1, rfl, fun x hx => by obtain ⟨i, _, rfl⟩ := List.mem_map.1 hx; exact ⟨_, rfl⟩⟩, fun _ j _ hj => absurd hj (by omega), Nat.zero_le _⟩
 obtain ⟨h2, t2, c2, _, X2, K2, G2⟩ := qA6 (qNt [] (by decide) (fun e he => by cases he) n' t v V0 q ht sv hq (by omega) bt) (by simp only [exP]) rfl X1
 have c2' := fun (β : Type) (k : TVal → Heap → Option β) (d : Nat) => c2 (β := β) d k
 obtain ⟨h3, t3, c3, _, X3, K3, G3⟩ := qA6 (qHK q.2 [] [q.1] (.slice 1 true [[.int .u64 q.1]]) (.inr ⟨_, rfl⟩) bw) rfl rfl X2
 have c3' := fun (β : Type) (k : TVal → Heap → Option β) (d : Nat) => c3 (β := β) d k
 have b4 := K3 4 1 _ (K2 4 1 _ (K1 _ _ a4))
 have g3 : h3.gen 38 = 0 := by rw [G3, G2, G1, hg]
 have B0 : ∀ (β : Type) (O : Oracle) (h : Heap) (d : Nat) (k : TVal → Heap → Option β), vop O (.bslice 1 1 [.p (.int .u64 0)] [(0, .k (kW q.1))] false) h d k = k (kSl 1 true [[.int .u64 q.1]]) h := fun β O h d k => by
  rw [qB7, qBI _ _ rfl]
 have a4' := K1 _ _ a4
 have a5' := K1 _ _ a5
 simp (maxSteps := 9999999) +contextual only [exa, ne_eq, not_false_eq_true, reduceAdd, reduceMul, reduceLT, reduceLeDiff, reduceEqDiff, Int.reduceLT, Int.reduceLE, Int.reduceEq, Int.reduceToNat, U17, hH, a3, a4, a5, c1', a4', a5', c2', B0, c3', b4, g3]
 have e5 : put1 (pcells (t.row ++ [PVal.int .u64 0])) 4 [Cell.p (.int .u64 q.1)] = pcells t.row ++ [Cell.p (.int .u64 q.1)] := by rw [TT.row_eq]; rfl
 have e6 : (t.row ++ [PVal.int IntKind.u64 0]).length = 5 := by rw [List.length_append, TT.row_len]; rfl
 rw [e5, e6]
 obtain ⟨ρ, A3, e0, him⟩ := (X3.own 38 1 (.cells (.ptr (.im 0) 0 :: (pcells t.row ++ [Cell.p (.int .u64 q.1)])) 0)).at'
 have hnm : Ref.own 38 1 ∉ ρ := fun hm => by obtain ⟨i, e⟩ := him _ hm; cases e
 have e01 : outR (Ref.own 38 1 :: ρ) (.im 1) = some (.im 0) := e0
 have A4 := qMP (r := .own 38 1) (blk := blkO t q.1) (qAX _ _) A3 hnm (by rw [qOD t q.1 _ _ e01]; exact Heap.own_get _ _ _ _ (by decide) (fun e => by cases e))
 refine (qI0 A4 (qB4 _ _ t q.1) rfl false [.c (.ptr (.own 38 1) 0), .c (.p (.str [])), .c (.p (.int .i64 0))] _ rfl rfl).trans ?_
 have hin : inn (Ref.own 38 1 :: ρ) (.own 38 1) = some (.im 0) := qA1 A4.nodup rfl
 show some (TVal.tup [.c (match inn (Ref.own 38 1 :: ρ) (.own 38 1) with | some s => .ptr s 0 | none => .junk), _, _], _) = _
 rw [hin]; rfl
theorem qLp (r : List PVal) : (pcells r).map Cell.strip = pcells r := by unfold pcells; rw [List.map_map]; rfl
theorem qPy (r : List PVal) : compPT (.agg (pcells r)) = true := by show (pcells r).all isPT = true; unfold pcells; rw [List.all_map, List.all_eq_true]; intro x _; rfl
theorem qMd (V : RS) (m : TyM) (F : Fine V m) (n : Nat) (t : TT) (ht : wfT t) (w : Int) (h0 : 0 ≤ w) (h1 : w < 18446744073709551616) (x : VT) (e : getF m V n t w = some x) :
  Om 25 [kP (.im 0)] (rowsC V m t w) = some (kA x.row, rowsC V m t w) := by
 have hO : Om 25 [kP (.im 0)] (rowsC V m t w) = lim tab.get S 25 (rowsC V m t w).length 0 [kP (.im 0)] ⟨rowsC V m t w, .nil⟩ := qAE rfl
 rw [hO, w25_0, b25_0]
 have K := (qB4 V m t w).1
 have H0 := HI.start K
 have g0 : (Heap.mk (rowsC V m t w) .nil).get (.im 0) = some (blkO t w) := Heap.get_im_of rfl (fun e => by cases e)
 have A0 := qFT (HI.own H0 2 1 (.cells zc 0)) K
 rw [show (rowsC V m t w).length = ((rsLeaves V m).length + 1) + 1 from rfl, qNo] at A0
 have A1 := qMk (qAX V m) A0
 have U := fun (β : Type) (k : TVal → Heap → Option β) (d : Nat) => (qDS A1 (qAO V m) (fun r hr => by obtain ⟨i, _, rfl⟩ := List.mem_map.1 hr; exact ⟨_, rfl⟩) (r := .im 1) (by rw [List.getElem?_map, List.getElem?_range (Nat.succ_pos _)]; rfl) 75 [kA t.row, kW w] (by simp only [exP]) (kA x.row) (by simp only [exP]) (qIj F n t w x ht h0 h1 e)).1 (β := β) d k
 have P1 : (t.row ++ [PVal.int .u64 w]).length = 5 := by rw [List.length_append, TT.row_len]; rfl
 have P2 : (pcells (t.row ++ [PVal.int .u64 w])).take 4 = pcells t.row := by rw [TT.row_eq]; rfl
 have P3 : (t.row ++ [PVal.int .u64 w])[4]? = some (.int .u64 w) := by rw [TT.row_eq]; rfl
 have P4 : (pcells t.row).length = 4 := by rw [qAQ, TT.row_len]
 simp (maxSteps := 9999999) +contextual only [exa, ne_eq, not_false_eq_true, reduceAdd, reduceMul, reduceLT, reduceLeDiff, reduceEqDiff, Int.reduceLT, Int.reduceLE, Int.reduceEq, Int.reduceToNat, g0, blkO, P2, P3, P4, Option.map_some, U, qEA _ (VT.row_len x)]
 exact qOx K ((HI.own H0 2 1 _).own 2 1 _) true [.agg (pcells x.row)] (kA x.row) (by simp only [exP]) (by
  have := qCI ((Heap.mk (rowsC V m t w) .nil).own 2 1 (.cells zc 0) |>.own 2 1 (.cells (pcells x.row) 0)) (.agg (pcells x.row)) (qPy x.row)
  show (freezeC _ (.agg (pcells x.row))).map (fun y => (TVal.v y.1, y.2)) = _
  rw [this.1]
  show some (TVal.v (.agg ((pcells x.row).map Cell.strip)), ([] : List Ref)) = _
  rw [qLp])
end Go.Proofs.YtlkejchbcchecaaDoor.Ab
set_option maxHeartbeats 4000000
namespace Go.Proofs.YtlkejchbcchecaaDoor.Ab
open Go Go.AI
theorem qO0 : Om 22 [] [] = some (kB true, []) := (qAE rfl).trans (qET blks_ok 500 22 0 0 _ _ _ (by kernel_rfl))
def optT (k : Int) : TT := .mk 6 [] .nil (.mk true [.mk k [] .nil .nil])
open Go Go.AI
end Go.Proofs.YtlkejchbcchecaaDoor.Ab
set_option maxHeartbeats 4000000
namespace Go.Proofs.YtlkejchbcchecaaDoor.Ab
open Go Go.AI
abbrev fitOK (x : VT) : TVal := .tup [.agg (pcells x.row), .c (.p (.str [])), .c (.p (.bool true))]
def OKf (n : Nat) (t : TT) (v : VT) : Prop := (∃ r, fitF [] n t v = some r ∧ r.2 = true) ∨ (t.kind = 6 ∧ v = .nul)
def RF (s : ST) (n : Nat) : Prop := ∀ (t : TT) (v x : VT), wfT t → smV v → OKf n t v → fullF [] (n + 1) t v = some x → Om 76 [kA s.row, kA t.row, kA v.row] [] = some (fitOK x, [])
abbrev r3 : TVal := .v (.c (.ptr (.own 3 1) 0))
section
variable (s : ST) (n : Nat) (R : RF s n) (t : TT) (ht : wfT t) (v : VT) (sv : smV v)
include R ht sv
end
end Go.Proofs.YtlkejchbcchecaaDoor.Ab
set_option maxHeartbeats 4000000
namespace Go.Proofs.YtlkejchbcchecaaDoor.Ab
open Go Go.AI
section
variable (s : ST) (hs : s.types = .nil) (n : Nat) (R : RF s n) (t : TT) (ht : wfT t) (v : VT) (sv : smV v)
include ht sv
include R hs
end
end Go.Proofs.YtlkejchbcchecaaDoor.Ab
set_option maxHeartbeats 4000000
namespace Go.Proofs.YtlkejchbcchecaaDoor.Ab
open Go Go.AI
section
variable (s : ST) (hs : s.types = .nil) (n : Nat) (R : RF s n) (t : TT) (ht : wfT t) (v : VT) (sv : smV v)
include R hs ht sv
end
end Go.Proofs.YtlkejchbcchecaaDoor.Ab
set_option maxHeartbeats 4000000
namespace Go.Proofs.YtlkejchbcchecaaDoor.Ab
open Go Go.AI
abbrev iT (n : Int) : VT := .mk 2 false n [] .nil .nil
abbrev sT (s : List UInt8) : VT := .mk 3 false 0 s .nil .nil
abbrev bT (b : Bool) : VT := .mk 1 b 0 [] .nil .nil
abbrev oP (d : Nat) : TVal := .v (.c (.ptr (.own d 1) 0))
section
variable {β : Type} {O : Oracle} {h : Heap} {d : Nat} {k : TVal → Heap → Option β} {kt : TVal → Heap → AI.Touch → Option β}
end
abbrev R6 (k : Int) (b : Bool) (n : Int) (s : List UInt8) : List Cell := [.p (.int .i64 k), .p (.bool b), .p (.int .i64 n), .p (.str s), .p .nilslice, .p .nilslice]
end Go.Proofs.YtlkejchbcchecaaDoor.Ab
set_option maxHeartbeats 4000000
namespace Go.Proofs.YtlkejchbcchecaaDoor.Ab
open Go Go.AI
abbrev VtK := TVal → Heap → AI.Touch → Option (TVal × List AObj)
open Go Go.AI
def UW (x : Int) : Prop := 0 ≤ x ∧ x < 18446744073709551616
structure POk (c d : Nat) (H : RS) (p : Int × RS) : Prop where
 w : H.W.length ≤ p.2.W.length ∧ p.2.W.length ≤ H.W.length + c
 t : H.T.length ≤ p.2.T.length ∧ p.2.T.length ≤ H.T.length + d
 u : (∀ x ∈ H.W, UW x) → p.2.W.length ≤ 1073741824 → p.2.T.length ≤ 1073741824 → UW p.1 ∧ ∀ x ∈ p.2.W, UW x
abbrev POf (P : PutF) (t : TT) (v : VT) (c d : Nat) : Prop := ∀ H p, P t v H = some p → POk c d H p
theorem qPF (s : List UInt8) (H : RS) : POk 0 1 H (numM s H) := by
 unfold numM
 cases e : idxM s H.T with
 | none => exact ⟨⟨Nat.le_refl _, Nat.le_refl _⟩, ⟨by simp, by simp⟩, fun hu hw ht => ⟨⟨by simp, by simp at ht ⊢; omega⟩, hu⟩⟩
 | some k =>
  have hk := (List.getElem?_eq_some_iff.1 (qD7 e)).1
  exact ⟨⟨Nat.le_refl _, Nat.le_refl _⟩, ⟨Nat.le_refl _, Nat.le_succ _⟩, fun hu hw ht => ⟨⟨by simp, by simp at ht ⊢; omega⟩, hu⟩⟩
theorem POk.lay {c d : Nat} {H : RS} {l : List Int} {H' : RS} (w : H.W.length ≤ H'.W.length ∧ H'.W.length ≤ H.W.length + c) (t : H.T.length ≤ H'.T.length ∧ H'.T.length ≤ H.T.length + d)
  (u : (∀ x ∈ H.W, UW x) → H'.W.length ≤ 1073741824 → H'.T.length ≤ 1073741824 → (∀ x ∈ l, UW x) ∧ ∀ x ∈ H'.W, UW x) : POk (c + l.length) d H (layM l H') := by
 refine ⟨?_, t, fun hu hw ht => ?_⟩
 ·show H.W.length ≤ (H'.W ++ l).length ∧ (H'.W ++ l).length ≤ _
  rw [List.length_append]; omega
 ·have hw' : (H'.W ++ l).length ≤ 1073741824 := hw
  rw [List.length_append] at hw'
  obtain ⟨h1, h2⟩ := u hu (by omega) ht
  refine ⟨⟨by show 0 ≤ (H'.W.length : Int); omega, by show (H'.W.length : Int) < _; omega⟩, fun x hx => ?_⟩
  rcases List.mem_append.1 (show x ∈ H'.W ++ l from hx) with h | h
  ·exact h2 x h
  ·exact h1 x h
structure LOk (c d : Nat) (l : List Int) (H : RS) (p : List Int × RS) : Prop where
 w : H.W.length ≤ p.2.W.length ∧ p.2.W.length ≤ H.W.length + c
 t : H.T.length ≤ p.2.T.length ∧ p.2.T.length ≤ H.T.length + d
 u : (∀ x ∈ l, UW x) → (∀ x ∈ H.W, UW x) → p.2.W.length ≤ 1073741824 → p.2.T.length ≤ 1073741824 → (∀ x ∈ p.1, UW x) ∧ ∀ x ∈ p.2.W, UW x
theorem qHM {P : PutF} {t : TT} {v : VT} {c d : Nat} (hk : t.kind ≠ 5) : ∀ (r : List VT) (i : Nat) (l : List Int) (H : RS) (p : List Int × RS), (∀ x ∈ r, POf P (kidT t 0) x c d) → listP P t v r i l H = some p → LOk (r.length * c) (r.length * d) l H p ∧ p.1.length = l.length + r.length
 | [], i, l, H, p, _, e => by cases e; exact ⟨⟨⟨Nat.le_refl _, by simp⟩, ⟨Nat.le_refl _, by simp⟩, fun h1 h2 _ _ => ⟨h1, h2⟩⟩, by simp⟩
 | x :: r, i, l, H, p, hP, e => by
  unfold listP at e
  rw [if_neg hk] at e
  obtain ⟨q, e1, e2⟩ := Option.bind_eq_some_iff.1 e
  have A := hP x (List.mem_cons_self ..) H q e1
  obtain ⟨B, L⟩ := qHM hk r (i + 1) (l ++ [q.1]) q.2 p (fun y hy => hP y (List.mem_cons_of_mem _ hy)) e2
  obtain ⟨a1, a2⟩ := A.w
  obtain ⟨a3, a4⟩ := A.t
  obtain ⟨b1, b2⟩ := B.w
  obtain ⟨b3, b4⟩ := B.t
  rw [List.length_cons, Nat.succ_mul, Nat.succ_mul]
  refine ⟨⟨⟨by omega, by omega⟩, ⟨by omega, by omega⟩, fun h1 h2 hw ht => ?_⟩, by rw [L]; simp; omega⟩
  obtain ⟨u1, u2⟩ := A.u h2 (by omega) (by omega)
  exact B.u (fun y hy => by
   rcases List.mem_append.1 hy with h | h
   ·exact h1 y h
   ·rw [List.mem_singleton.1 h]; exact u1) u2 hw ht
theorem qIz {P : PutF} {t : TT} {v : VT} {c d : Nat} : ∀ (r : List (List UInt8)) (i : Nat) (l : List Int) (H : RS) (p : List Int × RS), (∀ (j : Nat) (a : List UInt8), r[j]? = some a → POf P (kidT t (i + j)) (fieldM v a) c d) → recP P t v r i l H = some p → LOk (r.length * c) (r.length * d) l H p ∧ p.1.length = l.length + r.length
 | [], i, l, H, p, _, e => by cases e; exact ⟨⟨⟨Nat.le_refl _, by simp⟩, ⟨Nat.le_refl _, by simp⟩, fun h1 h2 _ _ => ⟨h1, h2⟩⟩, by simp⟩
 | x :: r, i, l, H, p, hP, e => by
  unfold recP at e
  obtain ⟨q, e1, e2⟩ := Option.bind_eq_some_iff.1 e
  have A := hP 0 x rfl H q e1
  obtain ⟨B, L⟩ := qIz r (i + 1) (l ++ [q.1]) q.2 p (fun j y hy => by
   have := hP (j + 1) y hy
   rwa [show i + (j + 1) = i + 1 + j by omega] at this) e2
  obtain ⟨a1, a2⟩ := A.w
  obtain ⟨a3, a4⟩ := A.t
  obtain ⟨b1, b2⟩ := B.w
  obtain ⟨b3, b4⟩ := B.t
  rw [List.length_cons, Nat.succ_mul, Nat.succ_mul]
  refine ⟨⟨⟨by omega, by omega⟩, ⟨by omega, by omega⟩, fun h1 h2 hw ht => ?_⟩, by rw [L]; simp; omega⟩
  obtain ⟨u1, u2⟩ := A.u h2 (by omega) (by omega)
  exact B.u (fun y hy => by
   rcases List.mem_append.1 hy with h | h
   ·exact h1 y h
   ·rw [List.mem_singleton.1 h]; exact u1) u2 hw ht
section
variable {m : TyM} {n : Nat} {t0 : TT} {v : VT}
theorem qMR (h : (fopen m t0).kind = 1) : POf (putF m (n + 1)) t0 v 0 0 := fun H p e => by
 have e : putT (putF m n) (fopen m t0) v H = some p := e
 unfold putT at e
 rw [if_pos h] at e
 cases e
 exact ⟨⟨Nat.le_refl _, Nat.le_refl _⟩, ⟨Nat.le_refl _, Nat.le_refl _⟩, fun hu _ _ => ⟨by show UW (if v.b = true then 1 else 0); unfold UW; split <;> decide, hu⟩⟩
theorem qPh (x : Int) : UW (u64 x) := by
 unfold UW u64 IntKind.wrap
 simp [IntKind.bits, IntKind.signed]
 omega
theorem qOi (h : (fopen m t0).kind = 2) : POf (putF m (n + 1)) t0 v 0 0 := fun H p e => by
 have e : putT (putF m n) (fopen m t0) v H = some p := e
 unfold putT at e
 rw [if_neg (by omega), if_pos h] at e
 cases e
 exact ⟨⟨Nat.le_refl _, Nat.le_refl _⟩, ⟨Nat.le_refl _, Nat.le_refl _⟩, fun hu _ _ => ⟨qPh _, hu⟩⟩
theorem qMQ (h : (fopen m t0).kind = 3) : POf (putF m (n + 1)) t0 v 0 1 := fun H p e => by
 have e : putT (putF m n) (fopen m t0) v H = some p := e
 unfold putT at e
 rw [if_neg (by omega), if_neg (by omega), if_pos h] at e
 cases e
 exact qPF v.s H
theorem qOY (h : (fopen m t0).kind = 6) {c d : Nat} (hk : POf (putF m n) (kidT (fopen m t0) 0) v c d) : POf (putF m (n + 1)) t0 v (c + 1) d := fun H p e => by
 have e : putT (putF m n) (fopen m t0) v H = some p := e
 unfold putT at e
 rw [if_neg (by omega), if_neg (by omega), if_neg (by omega), if_neg (by omega), if_pos h] at e
 split at e
 ·cases e
  exact ⟨⟨Nat.le_refl _, by show H.W.length ≤ _; omega⟩, ⟨Nat.le_refl _, by show H.T.length ≤ _; omega⟩, fun hu _ _ => ⟨by show UW 0; unfold UW; decide, hu⟩⟩
 ·obtain ⟨q, e1, rfl⟩ := Option.map_eq_some_iff.1 e
  have A := hk H q e1
  have B := POk.lay (l := [q.1]) A.w A.t (fun hu hw ht => by
   obtain ⟨u1, u2⟩ := A.u hu hw ht
   exact ⟨fun x hx => by rw [List.mem_singleton.1 hx]; exact u1, u2⟩)
  refine ⟨B.w, B.t, fun hu hw ht => ⟨?_, (B.u hu hw ht).2⟩⟩
  have hw' : (q.2.W ++ [q.1]).length ≤ 1073741824 := hw
  rw [List.length_append] at hw'
  show UW ((q.2.W.length : Int) + 1)
  unfold UW
  omega
theorem qG9 (h : (fopen m t0).kind = 4) {c d : Nat} (hl : v.l.len ≤ 1000000) (hk : ∀ x ∈ v.l.list, POf (putF m n) (kidT (fopen m t0) 0) x c d) : POf (putF m (n + 1)) t0 v (v.l.len * c + (v.l.len + 1)) (v.l.len * d) := fun H p e => by
 have e : putT (putF m n) (fopen m t0) v H = some p := e
 unfold putT at e
 rw [if_neg (by omega), if_neg (by omega), if_neg (by omega), if_pos (.inl h)] at e
 obtain ⟨q, e1, rfl⟩ := Option.map_eq_some_iff.1 e
 obtain ⟨A, L⟩ := qHM (by omega) v.l.list 0 [(v.l.len : Int)] H q hk e1
 have hll : v.l.list.length = v.l.len := rfl
 rw [hll] at A L
 have hq : q.1.length = v.l.len + 1 := by rw [L]; simp; omega
 have B := POk.lay (l := q.1) A.w A.t (fun hu hw ht => A.u (fun x hx => by rw [List.mem_singleton.1 hx]; unfold UW; omega) hu hw ht)
 rw [hq] at B
 exact B
theorem qPc (h : (fopen m t0).kind = 7) {c d : Nat} (hk : ∀ (j : Nat) (a : List UInt8), (fopen m t0).names.list[j]? = some a → POf (putF m n) (kidT (fopen m t0) j) (fieldM v a) c d) : POf (putF m (n + 1)) t0 v ((fopen m t0).names.len * c + (fopen m t0).names.len) ((fopen m t0).names.len * d) := fun H p e => by
 have e : putT (putF m n) (fopen m t0) v H = some p := e
 unfold putT at e
 rw [if_neg (by omega), if_neg (by omega), if_neg (by omega), if_neg (by omega), if_neg (by omega), if_pos h] at e
 obtain ⟨q, e1, rfl⟩ := Option.map_eq_some_iff.1 e
 obtain ⟨A, L⟩ := qIz (fopen m t0).names.list 0 [] H q (fun j a hj => by rw [Nat.zero_add]; exact hk j a hj) e1
 have hll : (fopen m t0).names.list.length = (fopen m t0).names.len := rfl
 rw [hll] at A L
 have hq : q.1.length = (fopen m t0).names.len := by rw [L]; simp
 have B := POk.lay (l := q.1) A.w A.t (fun hu hw ht => A.u (fun x hx => by cases hx) hu hw ht)
 rw [hq] at B
 exact B
theorem POf.le {c d c' d' : Nat} {P : PutF} {t : TT} (A : POf P t v c d) (hc : c ≤ c') (hd : d ≤ d') : POf P t v c' d' := fun H p e => by
 have B := A H p e
 exact ⟨⟨B.w.1, by have := B.w.2; omega⟩, ⟨B.t.1, by have := B.t.2; omega⟩, B.u⟩
end
open Go Go.AI
theorem qFl (k : Int) (b : Bool) (n : Int) (s : List UInt8) (hs : s.length ≤ 100000) : smV (.mk k b n s .nil .nil) := (qAq _).2 ⟨hs, by show 0 ≤ 1000; decide, by show 0 ≤ 1000; decide, fun x hx => by cases hx⟩
theorem qK8 : ∀ {l : List VT}, (∀ x ∈ l, okA x) → okL l
 | [], _ => by rw [okL]; trivial
 | x :: l, h => by rw [okL]; exact ⟨h x (List.mem_cons_self ..), qK8 fun y hy => h y (List.mem_cons_of_mem _ hy)⟩
theorem qFf : (-9223372036854775808 : Int) ≤ 0 := by decide
theorem qFa : (0 : Int) < 9223372036854775808 := by decide
theorem z1m : (0 : Nat) ≤ 1000000 := by decide
theorem qCc {k : Int} {b : Bool} {n : Int} {s : List UInt8} {ks : Sl (List UInt8)} {l : Sl VT} (h : okV (.mk k b n s ks l)) (hl : ∀ x ∈ l.list, okA x) : okA (.mk k b n s ks l) := by
 rw [okA]
 refine ⟨h, ?_⟩
 cases l with
 | nil => rw [okS]; trivial
 | mk t l => rw [okS]; exact qK8 hl
theorem qDi (k : Int) (b : Bool) (n : Int) (s : List UInt8) : sameV (.mk k b n s .nil .nil) (.mk k b n s .nil .nil) = true := qA2 rfl rfl rfl rfl (by rw [show (Sl.nil : Sl VT).list = [] from rfl]; exact qBF _)
theorem qHj : ∀ l : List VT, (∀ x ∈ l, sameV x x = true) → sameL l l = true
 | [], _ => qBF _
 | x :: l, h => by rw [sameL, h x (List.mem_cons_self ..), qHj l fun y hy => h y (List.mem_cons_of_mem _ hy)]; rfl
theorem qFR {α : Type} (l : List α) : (grown l).list = l := by cases l <;> rfl
end Go.Proofs.YtlkejchbcchecaaDoor.Ab
set_option maxHeartbeats 4000000
namespace Go.Proofs.YtlkejchbcchecaaDoor.Ab
open Go Go.AI
end Go.Proofs.YtlkejchbcchecaaDoor.Ab
set_option maxHeartbeats 4000000
namespace Go.AI
end Go.AI
namespace Go.Proofs.YtlkejchbcchecaaDoor.Ab
open Go Go.AI
end Go.Proofs.YtlkejchbcchecaaDoor.Ab
set_option maxHeartbeats 4000000
namespace Go.Proofs.YtlkejchbcchecaaDoor.Ab
open Go Go.AI
theorem qPD : ∀ (m : Nat) (v w : VT), SizeOf.sizeOf v < m → sameV v w = true → smV w → smV v := by
 intro m
 induction m with
 | zero => intro v w h; omega
 | succ m ih =>
  intro v w h e sw
  rw [qDP] at e
  simp only [Bool.and_eq_true, decide_eq_true_eq] at e
  obtain ⟨⟨⟨⟨⟨e1, e2⟩, e3⟩, e4⟩, e5⟩, e6⟩ := e
  obtain ⟨s1, s2, s3, s4⟩ := (qAq w).1 sw
  have key : ∀ (l l' : List VT), sameL l l' = true → l.length = l'.length ∧ ∀ x ∈ l, ∃ y ∈ l', sameV x y = true := by
   intro l
   induction l with
   | nil => intro l' h; cases l' with
    | nil => exact ⟨rfl, fun x hx => by cases hx⟩
    | cons a l' => rw [qBF] at h; cases h
   | cons a l ihl => intro l' h; cases l' with
    | nil => rw [sameL] at h; cases h; all_goals (intros; contradiction)
    | cons b l' =>
     rw [sameL, Bool.and_eq_true] at h
     obtain ⟨k1, k2⟩ := ihl l' h.2
     refine ⟨by simp [k1], fun x hx => ?_⟩
     rcases List.mem_cons.1 hx with rfl | hx
     ·exact ⟨b, by simp, h.1⟩
     ·obtain ⟨y, hy, hxy⟩ := k2 x hx
      exact ⟨y, by simp [hy], hxy⟩
  obtain ⟨k1, k2⟩ := key _ _ e6
  refine (qAq v).2 ⟨by rw [e4]; exact s1, by unfold Sl.len at s2 ⊢; rw [e5]; exact s2, by unfold Sl.len at s3 ⊢; rw [k1]; exact s3, fun x hx => ?_⟩
  obtain ⟨y, hy, hxy⟩ := k2 x hx
  exact ih x y (by have := VT.mem_size hx; omega) hxy (s4 y hy)
open Go Go.AI
abbrev ksW : List (List UInt8) := [[98], [110], [115]]
abbrev lB : TT := .mk 4 [] .nil (.mk true [.mk 1 [] .nil .nil])
abbrev lN : TT := .mk 4 [] .nil (.mk true [optT 2])
def tW : TT := .mk 7 [] (.mk true ksW) (.mk true [lB, lN, .mk 3 [] .nil .nil])
abbrev liV (L : Sl VT) : VT := .mk 4 false 0 [] .nil L
def vW (B N : Sl VT) (s : List UInt8) : VT := .mk 5 false 0 [] (.mk true ksW) (.mk true [liV B, liV N, sT s])
abbrev nT (x : Option Int) : VT := match x with | some n => iT n | none => .nul
def smallO (x : Option Int) : Prop := ∀ n, x = some n → -9223372036854775808 ≤ n ∧ n < 9223372036854775808
theorem qIb (n : Nat) (t : TT) : ∀ (l : List VT) (i : Nat), (∀ x ∈ l, fitF [] n t x = some ([], true)) → eachL (fitF [] n) placeL t l i = some ([], true)
 | [], _, _ => rfl
 | x :: l, i, h => by
  rw [eachL, h x (List.mem_cons_self ..)]
  exact qIb n t l (i + 1) fun y hy => h y (List.mem_cons_of_mem _ hy)
theorem qPk (L : Sl VT) (h : L.len ≤ 1000) (kt : TT) : bigB (.mk 4 [] .nil (.mk true [kt])) (liV L) = false := by
 show (decide (4611686018427387904 ≤ 0) || decide (4611686018427387904 ≤ 1) || decide (4611686018427387904 ≤ 0) || decide (4611686018427387904 ≤ L.len)) = false
 simp; omega
theorem qHD (n : Nat) (kt : TT) (L : Sl VT) (h : L.len ≤ 1000) (hx : ∀ x ∈ L.list, fitF [] n kt x = some ([], true)) : fitF [] (n + 1) (.mk 4 [] .nil (.mk true [kt])) (liV L) = some ([], true) := by
 show (if bigB (.mk 4 [] .nil (.mk true [kt])) (liV L) = true then none else eachF (fitF [] n) placeL (.mk 4 [] .nil (.mk true [kt])) (liV L) 4) = _
 rw [qPk L h, if_neg (by decide)]
 exact qIb n kt L.list 0 hx
section
variable {B N : Sl VT} {s : List UInt8} {bs : List Bool} {ns : List (Option Int)}
theorem qP5 (b : Bool) (n : Nat) : fitF [] (n + 1) (.mk 1 [] .nil .nil) (bT b) = some ([], true) := rfl
theorem qPo (x : Option Int) (n : Nat) : fitF [] (n + 2) (optT 2) (nT x) = some ([], true) := by cases x <;> rfl
theorem qP1 (s : List UInt8) (n : Nat) : fitF [] (n + 1) (.mk 3 [] .nil .nil) (sT s) = some ([], true) := rfl
theorem qF9 (hB : B.list = bs.map bT) (hN : N.list = ns.map nT) (lb : bs.length ≤ 30) (ln : ns.length ≤ 30) : fitF [] 4 tW (vW B N s) = some ([], true) := by
 have eB : B.len = bs.length := by unfold Sl.len; rw [hB, List.length_map]
 have eN : N.len = ns.length := by unfold Sl.len; rw [hN, List.length_map]
 have f1 : fitF [] 3 lB (liV B) = some ([], true) := qHD 2 _ B (by omega) fun x hx => by
  rw [hB] at hx; obtain ⟨b, _, rfl⟩ := List.mem_map.1 hx; exact qP5 b 1
 have f2 : fitF [] 3 lN (liV N) = some ([], true) := qHD 2 _ N (by omega) fun x hx => by
  rw [hN] at hx; obtain ⟨b, _, rfl⟩ := List.mem_map.1 hx; exact qPo b 0
 have f3 := qP1 s 2
 show recF (fitF [] 3) [] tW (vW B N s) = _
 generalize fitF [] 3 = F at f1 f2 f3
 show (if (5 : Int) = 5 then _ else _) = _
 rw [if_pos rfl]
 show (Option.bind ((F lB (liV B)).bind _) _) = _
 rw [f1]
 show (Option.bind ((F lN (liV N)).bind _) _) = _
 rw [f2]
 show (Option.bind ((F (.mk 3 [] .nil .nil) (sT s)).bind _) _) = _
 rw [f3]; rfl
theorem qNz (L : Sl VT) (h : L.len ≤ 1000) (hx : ∀ x ∈ L.list, smV x) : smV (liV L) := (qAq _).2 ⟨by show 0 ≤ 100000; decide, by show 0 ≤ 1000; decide, h, hx⟩
theorem qQb (b : Bool) : smV (bT b) := qFl _ _ _ _ (by decide)
theorem qQW (x : Option Int) : smV (nT x) := by cases x <;> exact qFl _ _ _ _ (by decide)
theorem qF6 {x : VT} (hx : x ∈ (vW B N s).l.list) : x = liV B ∨ x = liV N ∨ x = sT s := by
 have : x ∈ [liV B, liV N, sT s] := hx
 simpa using this
theorem qGo (hB : B.list = bs.map bT) (hN : N.list = ns.map nT) (lb : bs.length ≤ 30) (ln : ns.length ≤ 30) (hs : s.length ≤ 1000) : smV (vW B N s) := by
 refine (qAq _).2 ⟨by show 0 ≤ 100000; decide, by show 3 ≤ 1000; decide, by show 3 ≤ 1000; decide, fun x hx => ?_⟩
 rcases qF6 hx with rfl | rfl | rfl
 ·refine qNz B (by unfold Sl.len; rw [hB, List.length_map]; omega) fun x hx => ?_
  rw [hB] at hx; obtain ⟨b, _, rfl⟩ := List.mem_map.1 hx; exact qQb b
 ·refine qNz N (by unfold Sl.len; rw [hN, List.length_map]; omega) fun x hx => ?_
  rw [hN] at hx; obtain ⟨b, _, rfl⟩ := List.mem_map.1 hx; exact qQW b
 ·exact qFl _ _ _ _ (by omega)
theorem qKS (hB : B.list = bs.map bT) (hN : N.list = ns.map nT) (lb : bs.length ≤ 30) (ln : ns.length ≤ 30) (hn : ∀ x ∈ ns, smallO x) : okA (vW B N s) := by
 refine qCc ⟨rfl, qFf, qFa, by show 3 ≤ 1000000; decide⟩ fun x hx => ?_
 rcases qF6 hx with rfl | rfl | rfl
 ·refine qCc ⟨rfl, qFf, qFa, by show B.len ≤ 1000000; unfold Sl.len; rw [hB, List.length_map]; omega⟩ fun x hx => ?_
  rw [hB] at hx; obtain ⟨b, _, rfl⟩ := List.mem_map.1 hx
  exact qCc ⟨rfl, qFf, qFa, z1m⟩ fun x hx => by cases hx
 ·refine qCc ⟨rfl, qFf, qFa, by show N.len ≤ 1000000; unfold Sl.len; rw [hN, List.length_map]; omega⟩ fun x hx => ?_
  rw [hN] at hx; obtain ⟨b, hb, rfl⟩ := List.mem_map.1 hx
  cases b with
  | none => exact qCc ⟨rfl, qFf, qFa, z1m⟩ fun x hx => by cases hx
  | some n =>
   have := hn _ hb n rfl
   exact qCc ⟨rfl, this.1, this.2, z1m⟩ fun x hx => by cases hx
 ·exact qCc ⟨rfl, qFf, qFa, z1m⟩ fun x hx => by cases hx
theorem qN0 : wfT tW := by
 simp [tW, optT, wfT, wfS, wfL, Sl.len, Sl.list]
theorem qEZ (n : Nat) (t : TT) : ∀ l : List VT, (∀ x ∈ l, fullF [] n (kidT t 0) x = some x) → fullL (fullF [] n) t l = some l
 | [], _ => rfl
 | x :: l, h => by rw [fullL, h x (List.mem_cons_self ..), Option.bind_some, qEZ n t l fun y hy => h y (List.mem_cons_of_mem _ hy)]; rfl
theorem qJq (hB : B.list = bs.map bT) (hN : N.list = ns.map nT) : fullF [] 5 tW (vW B N s) = some (.mk 5 false 0 [] (grown ksW) (grown [liV (grown (bs.map bT)), liV (grown (ns.map nT)), sT s])) := by
 have f1 : fullF [] 4 lB (liV B) = some (liV (grown (bs.map bT))) := by
  show (fullL (fullF [] 3) lB B.list).map _ = _
  rw [hB, qEZ 3 lB _ fun x hx => by obtain ⟨b, _, rfl⟩ := List.mem_map.1 hx; rfl]; rfl
 have f2 : fullF [] 4 lN (liV N) = some (liV (grown (ns.map nT))) := by
  show (fullL (fullF [] 3) lN N.list).map _ = _
  rw [hN, qEZ 3 lN _ fun x hx => by obtain ⟨b, _, rfl⟩ := List.mem_map.1 hx; cases b <;> rfl]; rfl
 show (Option.bind (fullF [] 4 lB (liV B)) _).map _ = _
 rw [f1]
 show ((Option.bind (fullF [] 4 lN (liV N)) _).map _).map _ = _
 rw [f2]; rfl
theorem qJC (hB : B.list = bs.map bT) (hN : N.list = ns.map nT) : sameV (.mk 5 false 0 [] (grown ksW) (grown [liV (grown (bs.map bT)), liV (grown (ns.map nT)), sT s])) (vW B N s) = true := by
 have e1 : sameV (liV (grown (bs.map bT))) (liV B) = true := qA2 rfl rfl rfl rfl (by
  rw [qFR, hB]; exact qHj _ fun x hx => by obtain ⟨b, _, rfl⟩ := List.mem_map.1 hx; exact qDi _ _ _ _)
 have e2 : sameV (liV (grown (ns.map nT))) (liV N) = true := qA2 rfl rfl rfl rfl (by
  rw [qFR, hN]; exact qHj _ fun x hx => by obtain ⟨b, _, rfl⟩ := List.mem_map.1 hx; cases b <;> exact qDi _ _ _ _)
 refine qA2 rfl rfl rfl (by rw [qFR]; rfl) ?_
 rw [qFR]
 show sameL [_, _, _] [liV B, liV N, sT s] = true
 rw [sameL, sameL, sameL, e1, e2, qDi, qBF]; rfl
theorem qLH (hB : B.list = bs.map bT) (hN : N.list = ns.map nT) (lb : bs.length ≤ 30) (ln : ns.length ≤ 30) : POf (putF [] 5) tW (vW B N s) 1000 1000 := by
 have eB : (liV B).l.len = bs.length := by show B.len = _; unfold Sl.len; rw [hB, List.length_map]
 have eN : (liV N).l.len = ns.length := by show N.len = _; unfold Sl.len; rw [hN, List.length_map]
 have p1 : POf (putF [] 4) lB (liV B) 100 30 := by
  have A := qG9 (m := []) (n := 3) (t0 := lB) (v := liV B) rfl (c := 0) (d := 0) (by omega) (fun x hx => by
   have hx : x ∈ B.list := hx
   rw [hB] at hx; obtain ⟨b, _, rfl⟩ := List.mem_map.1 hx
   exact qMR (t0 := .mk 1 [] .nil .nil) rfl)
  rw [eB] at A
  exact A.le (by omega) (by omega)
 have p2 : POf (putF [] 4) lN (liV N) 100 30 := by
  have A := qG9 (m := []) (n := 3) (t0 := lN) (v := liV N) rfl (c := 1) (d := 0) (by omega) (fun x hx => by
   have hx : x ∈ N.list := hx
   rw [hN] at hx; obtain ⟨b, _, rfl⟩ := List.mem_map.1 hx
   exact (qOY (t0 := optT 2) rfl (qOi (t0 := .mk 2 [] .nil .nil) rfl)).le (by decide) (by decide))
  rw [eN] at A
  exact A.le (by omega) (by omega)
 have p3 : POf (putF [] 4) (.mk 3 [] .nil .nil) (sT s) 100 30 := (qMQ (m := []) (n := 3) (t0 := .mk 3 [] .nil .nil) (v := sT s) rfl).le (by omega) (by omega)
 have A := qPc (m := []) (n := 4) (t0 := tW) (v := vW B N s) rfl (c := 100) (d := 30) fun j a hj => by
  match j with
  | 0 => cases hj; exact p1
  | 1 => cases hj; exact p2
  | 2 => cases hj; exact p3
  | j + 3 => cases hj
 exact A.le (by decide) (by decide)
end
theorem qJx : ∀ (m : Nat) (x y z : VT), SizeOf.sizeOf y < m → sameV x y = true → sameV y z = true → sameV x z = true := by
 intro m
 induction m with
 | zero => intro x y z h; omega
 | succ m ih =>
  intro x y z h e1 e2
  rw [qDP] at e1 e2 ⊢
  simp only [Bool.and_eq_true, decide_eq_true_eq, beq_iff_eq] at e1 e2 ⊢
  obtain ⟨⟨⟨⟨⟨a1, a2⟩, a3⟩, a4⟩, a5⟩, a6⟩ := e1
  obtain ⟨⟨⟨⟨⟨b1, b2⟩, b3⟩, b4⟩, b5⟩, b6⟩ := e2
  refine ⟨⟨⟨⟨⟨a1.trans b1, a2.trans b2⟩, a3.trans b3⟩, a4.trans b4⟩, a5.trans b5⟩, ?_⟩
  have key : ∀ (k l n : List VT), (∀ u ∈ l, SizeOf.sizeOf u < m) → sameL k l = true → sameL l n = true → sameL k n = true := by
   intro k
   induction k with
   | nil => intro l n _ h1 h2; cases l with
    | nil => exact h2
    | cons _ _ => rw [qBF] at h1; cases h1
   | cons u k ihk => intro l n hl h1 h2; cases l with
    | nil => rw [sameL] at h1; cases h1; all_goals (intros; contradiction)
    | cons v l => cases n with
     | nil => rw [sameL] at h2; cases h2; all_goals (intros; contradiction)
     | cons w n =>
      rw [sameL, Bool.and_eq_true] at h1 h2 ⊢
      exact ⟨ih u v w (hl v (List.mem_cons_self ..)) h1.1 h2.1, ihk l n (fun q hq => hl q (List.mem_cons_of_mem _ hq)) h1.2 h2.2⟩
  exact key _ _ _ (fun u hu => by have := VT.mem_size hu; omega) a6 b6
theorem qIH {B N : Sl VT} {s : List UInt8} {bs : List Bool} {ns : List (Option Int)} (hB : B.list = bs.map bT) (hN : N.list = ns.map nT) (lb : bs.length ≤ 30) (ln : ns.length ≤ 30) (hn : ∀ x ∈ ns, smallO x) (hs : s.length ≤ 1000) :
  ∃ q y, putF [] 5 tW (vW B N s) V0 = some q ∧ q.2.W.length ≤ 1000 ∧ q.2.T.length ≤ 1000 ∧ UW q.1 ∧ (∀ x ∈ q.2.W, UW x) ∧ getF [] (layM [q.1] q.2).2 5 tW q.1 = some y ∧ sameV y (vW B N s) = true ∧ smV y := by
 have sm := qGo (s := s) hB hN lb ln hs
 obtain ⟨q, h1, h2⟩ := qHg [] 4 tW (vW B N s) _ (qF9 hB hN lb ln) rfl (qKS hB hN lb ln hn) V0
 obtain ⟨y, z, h3, h4, h5⟩ := h2 (layM [q.1] q.2).2 (qBP _ _)
 have P := qLH (s := s) hB hN lb ln V0 q h1
 have w1 : q.2.W.length ≤ 1000 := by have := P.w.2; show _ ≤ _; simpa [V0] using this
 have w2 : q.2.T.length ≤ 1000 := by have := P.t.2; show _ ≤ _; simpa [V0] using this
 obtain ⟨u1, u2⟩ := P.u (fun x hx => by cases hx) (by omega) (by omega)
 rw [qJq hB hN] at h4
 cases h4
 have e := qJx _ _ _ _ (Nat.lt_succ_self _) h5 (qJC hB hN)
 exact ⟨q, y, h1, w1, w2, u1, u2, h3, e, qPD _ y _ (Nat.lt_succ_self _) e sm⟩
end Go.Proofs.YtlkejchbcchecaaDoor.Ab
set_option maxHeartbeats 4000000
namespace Go.Proofs.YtlkejchbcchecaaDoor.Ab
open Go Go.AI
abbrev sq6 (j n : Nat) : Cell := .sref (.im j) 0 n none 6
abbrev W3 (cb cn : Cell) (s : List UInt8) : List Cell := [.p (.int .i64 4), .p (.bool false), .p (.int .i64 0), .p (.str []), .p .nilslice, cb, .p (.int .i64 4), .p (.bool false), .p (.int .i64 0), .p (.str []), .p .nilslice, cn, .p (.int .i64 3), .p (.bool false), .p (.int .i64 0), .p (.str s), .p .nilslice, .p .nilslice]
abbrev V6 : List Cell := [.p (.int .i64 5), .p (.bool false), .p (.int .i64 0), .p (.str []), .p (.slice 1 true (ksW.map sRow)), .sref (.im 0) 0 3 (some 3) 6]
structure AtG (rows : List (List PVal)) (c : Cell) (h : Heap) : Prop where
 six : ∀ r ∈ rows, r.length = 6
 at' : (rows = [] ∧ c = .p .nilslice) ∨ (rows ≠ [] ∧ ∃ j, 0 < j ∧ c = sq6 j rows.length ∧ h.get (.im j) = some (.cells (pcells rows.flatten) 0))
structure WH (B N : List (List PVal)) (cb cn : Cell) (s : List UInt8) (h : Heap) : Prop where
 h10 : h.get (.own 10 1) = some (.cells (pcells tW.row) 0)
 h11 : h.get (.own 11 1) = some (.cells V6 0)
 hw : h.get (.im 0) = some (.cells (W3 cb cn s) 0)
 gb : AtG B cb h
 gn : AtG N cn h
 ne : ∀ j n j' n', cb = sq6 j n → cn = sq6 j' n' → j ≠ j'
theorem qBU : ∀ rows : List (List PVal), (∀ r ∈ rows, r.length = 6) → (pcells rows.flatten).length = rows.length * 6
 | [], _ => rfl
 | r :: rows, h => by
  have := qBU rows fun x hx => h x (List.mem_cons_of_mem _ hx)
  unfold pcells at this ⊢
  rw [List.flatten_cons, List.map_append, List.length_append, this, List.length_map, h r (List.mem_cons_self ..), List.length_cons]; omega
theorem qGQ (rows : List (List PVal)) (r : List PVal) : pcells (rows ++ [r]).flatten = pcells rows.flatten ++ pcells r := by
 unfold pcells; simp
theorem qG5 {rows : List (List PVal)} {c : Cell} {h : Heap} (G : AtG rows c h) (hl : rows.length ≤ 1000) (row : List Cell) (hrow : row.length = 6) :
  ∃ h2 T, (∀ (β : Type) (d : Nat) (kt : TVal → Heap → AI.Touch → Option β), vtouch Om (.append 6 88 true (.k (.v (.c c))) (.k (.v (.c (.sref (.im h.ims.length) 0 1 (some 1) 6))))) (h.push (.cells row 0)) d kt = kt (.v (.c (sq6 (h.ims.length + 1) (rows.length + 1)))) h2 T) ∧
   h2.get (.im (h.ims.length + 1)) = some (.cells (pcells rows.flatten ++ row) 0) ∧ h2.ims.length = h.ims.length + 2 ∧ (∀ d g, h2.get (.own d g) = h.get (.own d g)) ∧ (∀ r, r < h.ims.length → (∀ n, c ≠ sq6 r n) → h2.get (.im r) = h.get (.im r)) ∧
   (∀ d g, AI.Touch.apart ⟨[(Ref.own d g).site], [], false⟩ T = true) := by
 have gl : (h.push (.cells row 0)).get (.im h.ims.length) = some (.cells row 0) := Heap.get_push_eq h (fun e => by cases e)
 have L1 : (h.push (.cells row 0)).ims.length = h.ims.length + 1 := Heap.push_len h _
 rcases G.at' with ⟨rfl, rfl⟩ | ⟨hne, j, hj, rfl, ga⟩
 ·refine ⟨(h.push (.cells row 0)).push (.cells row 0), ⟨[.im h.ims.length], [.im (h.ims.length + 1)], true⟩, fun β d kt => ?_, ?_, by rw [Heap.push_len, L1], fun _ _ => rfl, fun r hr _ => ?_, fun d g => rfl⟩
  ·have := qKL (O := Om) (h := h.push (.cells row 0)) (d := d) (kt := kt) (sz := 6) (by' := 88) hrow (by decide) h.ims.length gl
   rw [this, L1]; rfl
  ·have := Heap.get_push_eq (h.push (.cells row 0)) (o := .cells row 0) (fun e => by cases e)
   rw [L1] at this
   exact this
  ·rw [Heap.get_push_lt _ _ (by omega), Heap.get_push_lt _ _ hr]
 ·have ga1 : (h.push (.cells row 0)).get (.im j) = some (.cells (pcells rows.flatten) 0) := (Heap.get_push_lt _ _ (Heap.get_lt ga)).trans ga
  have jl := Heap.get_lt ga
  refine ⟨((h.push (.cells row 0)).put (.im j) .dead).push (.cells (pcells rows.flatten ++ row) 0), ⟨[.im j, .im h.ims.length], [.im (h.ims.length + 1), .im j], true⟩, fun β d kt => ?_, ?_, by rw [Heap.push_len, Heap.put_len, L1], fun _ _ => rfl, fun r hr hn => ?_, fun d g => rfl⟩
  ·have := qHq (O := Om) (h := h.push (.cells row 0)) (d := d) (kt := kt) (sz := 6) (by' := 88) (n := rows.length) (row := row) (cs := pcells rows.flatten) hrow (qBU rows G.six) (by omega) j h.ims.length ga1 gl
   rw [this, L1]
  ·have := Heap.get_push_eq ((h.push (.cells row 0)).put (.im j) .dead) (o := .cells (pcells rows.flatten ++ row) 0) (fun e => by cases e)
   rw [Heap.put_len, L1] at this
   exact this
  ·have hrj : j ≠ r := fun e => hn rows.length (by rw [e])
   rw [Heap.get_push_lt _ _ (by rw [Heap.put_len, L1]; omega), Heap.get_put_ne _ _ hrj, Heap.get_push_lt _ _ hr]
end Go.Proofs.YtlkejchbcchecaaDoor.Ab
set_option maxHeartbeats 4000000
namespace Go.Proofs.YtlkejchbcchecaaDoor.Ab
open Go Go.AI
abbrev zz6 : List Cell := [.p (.int .i64 0), .p (.bool false), .p (.int .i64 0), .p (.str []), .p .nilslice, .p .nilslice]
theorem qEY : ∀ (cs z x : List Cell), z.length = x.length → put1 (cs ++ z) cs.length x = cs ++ x
 | [], z, x, h => by
  show put1 z 0 x = x
  exact qBT _ _ h.symm
 | c :: cs, z, x, h => by
  show put1 (c :: (cs ++ z)) (cs.length + 1) x = c :: (cs ++ x)
  rw [qGP, qEY cs z x h]
theorem WH.own {B N : List (List PVal)} {cb cn : Cell} {s : List UInt8} {h : Heap} (H : WH B N cb cn s h) (d g : Nat) (o : AObj) (h1 : d ≠ 10) (h2 : d ≠ 11) : WH B N cb cn s (h.own d g o) :=
 ⟨(Heap.own_get_ne _ d _ _ 10 1 h1).trans H.h10, (Heap.own_get_ne _ d _ _ 11 1 h2).trans H.h11, H.hw, ⟨H.gb.six, H.gb.at'⟩, ⟨H.gn.six, H.gn.at'⟩, H.ne⟩
theorem AtG.mono {rows : List (List PVal)} {c : Cell} {h h' : Heap} (G : AtG rows c h) (H : ∀ j, c = sq6 j rows.length → 0 < j → h'.get (.im j) = h.get (.im j)) : AtG rows c h' := by
 refine ⟨G.six, ?_⟩
 rcases G.at' with h1 | ⟨hne, j, hj, hc, hg⟩
 ·exact .inl h1
 ·exact .inr ⟨hne, j, hj, hc, (H j hc hj).trans hg⟩
theorem AtG.lt {rows : List (List PVal)} {c : Cell} {h : Heap} (G : AtG rows c h) {j n : Nat} (e : c = sq6 j n) : j < h.ims.length := by
 rcases G.at' with ⟨_, h1⟩ | ⟨_, i, _, hc, hg⟩
 ·rw [h1] at e; cases e
 ·rw [hc] at e; cases e; exact Heap.get_lt hg
theorem AtG.pos {rows : List (List PVal)} {c : Cell} {h : Heap} (G : AtG rows c h) {j n : Nat} (e : c = sq6 j n) : 0 < j := by
 rcases G.at' with ⟨_, h1⟩ | ⟨_, i, hi, hc, hg⟩
 ·rw [h1] at e; cases e
 ·rw [hc] at e; cases e; exact hi
theorem wh_b {B N : List (List PVal)} {cb cn : Cell} {s : List UInt8} {h : Heap} (H : WH B N cb cn s h) (hl : B.length ≤ 1000) (r : List PVal) (hr : r.length = 6) (lit : List Cell) (hlit : lit.length = 6) :
  ∃ h2 T, (∀ (β : Type) (d : Nat) (kt : TVal → Heap → AI.Touch → Option β), vtouch Om (.append 6 88 true (.k (.v (.c cb))) (.k (.v (.c (.sref (.im h.ims.length) 0 1 (some 1) 6))))) (h.push (.cells lit 0)) d kt = kt (.v (.c (sq6 (h.ims.length + 1) (B.length + 1)))) h2 T) ∧
   (∀ d g, AI.Touch.apart ⟨[(Ref.own d g).site], [], false⟩ T = true) ∧ h2.get (.im 0) = some (.cells (W3 cb cn s) 0) ∧ 0 < h.ims.length ∧
   (h2.put (.im 0) (.cells (W3 (sq6 (h.ims.length + 1) (B.length + 1)) cn s) 0)).get (.im (h.ims.length + 1)) = some (.cells (pcells B.flatten ++ lit) 0) ∧ (pcells B.flatten ++ lit).length = B.length * 6 + 6 ∧ put1 (pcells B.flatten ++ lit) (B.length * 6) (pcells r) = pcells B.flatten ++ pcells r ∧
   (lit = pcells r → WH (B ++ [r]) N (sq6 (h.ims.length + 1) (B.length + 1)) cn s (h2.put (.im 0) (.cells (W3 (sq6 (h.ims.length + 1) (B.length + 1)) cn s) 0))) ∧
   WH (B ++ [r]) N (sq6 (h.ims.length + 1) (B.length + 1)) cn s ((h2.put (.im 0) (.cells (W3 (sq6 (h.ims.length + 1) (B.length + 1)) cn s) 0)).put (.im (h.ims.length + 1)) (.cells (pcells B.flatten ++ pcells r) 0)) := by
 obtain ⟨h2, T, ap, g1, L2, ow, low, ta⟩ := qG5 H.gb hl lit hlit
 have M0 : 0 < h.ims.length := Heap.get_lt H.hw
 generalize hM : h.ims.length = M at *
 have z0 : ∀ n, cb ≠ sq6 0 n := fun n e => by have := H.gb.pos e; omega
 have w0 : h2.get (.im 0) = some (.cells (W3 cb cn s) 0) := (low 0 M0 z0).trans H.hw
 have fl := qBU B H.gb.six
 have p1 : put1 (pcells B.flatten ++ lit) (B.length * 6) (pcells r) = pcells B.flatten ++ pcells r := by
  rw [← fl]; exact qEY _ _ _ (by rw [hlit, qAQ, hr])
 have G1 : (h2.put (.im 0) (.cells (W3 (sq6 (M + 1) (B.length + 1)) cn s) 0)).get (.im (M + 1)) = some (.cells (pcells B.flatten ++ lit) 0) := (Heap.get_put_ne _ _ (by omega)).trans g1
 generalize hC : (sq6 (M + 1) (B.length + 1)) = C at *
 generalize hW : (W3 C cn s : List Cell) = WW
 have six : ∀ x ∈ B ++ [r], x.length = 6 := fun x hx => by
  rcases List.mem_append.1 hx with hx | hx
  ·exact H.gb.six x hx
  ·rw [List.mem_singleton.1 hx]; exact hr
 have oth : ∀ j n, cn = sq6 j n → 0 < j → (∀ n', cb ≠ sq6 j n') → j < M → h2.get (.im j) = h.get (.im j) := fun j n e hj hn hjm => low j hjm hn
 have key : ∀ h3 : Heap, h3.get (.im (M + 1)) = some (.cells (pcells B.flatten ++ pcells r) 0) → h3.get (.im 0) = some (.cells WW 0) → (∀ d g, h3.get (.own d g) = h2.get (.own d g)) → (∀ j, 0 < j → j < M → h3.get (.im j) = h2.get (.im j)) → WH (B ++ [r]) N C cn s h3 := fun h3 k1 k2 k3 k4 => by
  have gx : AtG (B ++ [r]) C h3 := ⟨six, .inr ⟨by simp, M + 1, by omega, by rw [← hC, List.length_append]; rfl, by rw [k1, qGQ]⟩⟩
  have gy : AtG N cn h3 := H.gn.mono fun j e hj => by
   have hjm : j < M := by rw [← hM]; exact H.gn.lt e
   rw [k4 j hj hjm]
   refine low j hjm fun n' e' => ?_
   exact H.ne _ _ _ _ e' e rfl
  refine ⟨(k3 10 1).trans ((ow 10 1).trans H.h10), (k3 11 1).trans ((ow 11 1).trans H.h11), by rw [k2, ← hW], gx, gy, fun j n j' n' e1 e2 => ?_⟩
  have hj' : j' < M := by rw [← hM]; exact H.gn.lt e2
  rw [← hC] at e1; cases e1; omega
 have hL3 : (h2.put (.im 0) (.cells WW 0)).ims.length = M + 2 := by rw [Heap.put_len, L2]
 have q0 : (h2.put (.im 0) (.cells WW 0)).get (.im 0) = some (.cells WW 0) := Heap.get_put_eq _ (by omega) (fun e => by cases e)
 rw [hW] at G1
 refine ⟨h2, T, ap, ta, w0, M0, G1, by rw [List.length_append, fl, hlit], p1, fun e => key _ (by rw [G1, e]) q0 (fun _ _ => rfl) (fun j h0 h1 => Heap.get_put_ne _ _ (by omega)), key _ (Heap.get_put_eq _ (by omega) (fun e => by cases e)) ((Heap.get_put_ne _ _ (by omega)).trans q0) (fun _ _ => rfl) (fun j h0 h1 => (Heap.get_put_ne _ _ (by omega)).trans (Heap.get_put_ne _ _ (by omega)))⟩
theorem wh_n {B N : List (List PVal)} {cb cn : Cell} {s : List UInt8} {h : Heap} (H : WH B N cb cn s h) (hl : N.length ≤ 1000) (r : List PVal) (hr : r.length = 6) (lit : List Cell) (hlit : lit.length = 6) :
  ∃ h2 T, (∀ (β : Type) (d : Nat) (kt : TVal → Heap → AI.Touch → Option β), vtouch Om (.append 6 88 true (.k (.v (.c cn))) (.k (.v (.c (.sref (.im h.ims.length) 0 1 (some 1) 6))))) (h.push (.cells lit 0)) d kt = kt (.v (.c (sq6 (h.ims.length + 1) (N.length + 1)))) h2 T) ∧
   (∀ d g, AI.Touch.apart ⟨[(Ref.own d g).site], [], false⟩ T = true) ∧ h2.get (.im 0) = some (.cells (W3 cb cn s) 0) ∧ 0 < h.ims.length ∧
   (h2.put (.im 0) (.cells (W3 cb (sq6 (h.ims.length + 1) (N.length + 1)) s) 0)).get (.im (h.ims.length + 1)) = some (.cells (pcells N.flatten ++ lit) 0) ∧ (pcells N.flatten ++ lit).length = N.length * 6 + 6 ∧ put1 (pcells N.flatten ++ lit) (N.length * 6) (pcells r) = pcells N.flatten ++ pcells r ∧
   (lit = pcells r → WH B (N ++ [r]) cb (sq6 (h.ims.length + 1) (N.length + 1)) s (h2.put (.im 0) (.cells (W3 cb (sq6 (h.ims.length + 1) (N.length + 1)) s) 0))) ∧
   WH B (N ++ [r]) cb (sq6 (h.ims.length + 1) (N.length + 1)) s ((h2.put (.im 0) (.cells (W3 cb (sq6 (h.ims.length + 1) (N.length + 1)) s) 0)).put (.im (h.ims.length + 1)) (.cells (pcells N.flatten ++ pcells r) 0)) := by
 obtain ⟨h2, T, ap, g1, L2, ow, low, ta⟩ := qG5 H.gn hl lit hlit
 have M0 : 0 < h.ims.length := Heap.get_lt H.hw
 generalize hM : h.ims.length = M at *
 have z0 : ∀ n, cn ≠ sq6 0 n := fun n e => by have := H.gn.pos e; omega
 have w0 : h2.get (.im 0) = some (.cells (W3 cb cn s) 0) := (low 0 M0 z0).trans H.hw
 have fl := qBU N H.gn.six
 have p1 : put1 (pcells N.flatten ++ lit) (N.length * 6) (pcells r) = pcells N.flatten ++ pcells r := by
  rw [← fl]; exact qEY _ _ _ (by rw [hlit, qAQ, hr])
 have G1 : (h2.put (.im 0) (.cells (W3 cb (sq6 (M + 1) (N.length + 1)) s) 0)).get (.im (M + 1)) = some (.cells (pcells N.flatten ++ lit) 0) := (Heap.get_put_ne _ _ (by omega)).trans g1
 generalize hC : (sq6 (M + 1) (N.length + 1)) = C at *
 generalize hW : (W3 cb C s : List Cell) = WW
 have six : ∀ x ∈ N ++ [r], x.length = 6 := fun x hx => by
  rcases List.mem_append.1 hx with hx | hx
  ·exact H.gn.six x hx
  ·rw [List.mem_singleton.1 hx]; exact hr
 have oth : ∀ j n, cb = sq6 j n → 0 < j → (∀ n', cn ≠ sq6 j n') → j < M → h2.get (.im j) = h.get (.im j) := fun j n e hj hn hjm => low j hjm hn
 have key : ∀ h3 : Heap, h3.get (.im (M + 1)) = some (.cells (pcells N.flatten ++ pcells r) 0) → h3.get (.im 0) = some (.cells WW 0) → (∀ d g, h3.get (.own d g) = h2.get (.own d g)) → (∀ j, 0 < j → j < M → h3.get (.im j) = h2.get (.im j)) → WH B (N ++ [r]) cb C s h3 := fun h3 k1 k2 k3 k4 => by
  have gx : AtG (N ++ [r]) C h3 := ⟨six, .inr ⟨by simp, M + 1, by omega, by rw [← hC, List.length_append]; rfl, by rw [k1, qGQ]⟩⟩
  have gy : AtG B cb h3 := H.gb.mono fun j e hj => by
   have hjm : j < M := by rw [← hM]; exact H.gb.lt e
   rw [k4 j hj hjm]
   refine low j hjm fun n' e' => ?_
   exact H.ne _ _ _ _ e e' rfl
  refine ⟨(k3 10 1).trans ((ow 10 1).trans H.h10), (k3 11 1).trans ((ow 11 1).trans H.h11), by rw [k2, ← hW], gy, gx, fun j n j' n' e1 e2 => ?_⟩
  have hj' : j < M := by rw [← hM]; exact H.gb.lt e1
  rw [← hC] at e2; cases e2; omega
 have hL3 : (h2.put (.im 0) (.cells WW 0)).ims.length = M + 2 := by rw [Heap.put_len, L2]
 have q0 : (h2.put (.im 0) (.cells WW 0)).get (.im 0) = some (.cells WW 0) := Heap.get_put_eq _ (by omega) (fun e => by cases e)
 rw [hW] at G1
 refine ⟨h2, T, ap, ta, w0, M0, G1, by rw [List.length_append, fl, hlit], p1, fun e => key _ (by rw [G1, e]) q0 (fun _ _ => rfl) (fun j h0 h1 => Heap.get_put_ne _ _ (by omega)), key _ (Heap.get_put_eq _ (by omega) (fun e => by cases e)) ((Heap.get_put_ne _ _ (by omega)).trans q0) (fun _ _ => rfl) (fun j h0 h1 => (Heap.get_put_ne _ _ (by omega)).trans (Heap.get_put_ne _ _ (by omega)))⟩
end Go.Proofs.YtlkejchbcchecaaDoor.Ab
set_option maxHeartbeats 4000000
namespace Go.Proofs.YtlkejchbcchecaaDoor.Ab
open Go Go.AI
abbrev bRw (b : Bool) : List PVal := [.bool b]
abbrev bsP (s : Sl Bool) : TVal := .v (.c (.p (slP 1 bRw s)))
theorem qLQ {rows : List (List PVal)} {c : Cell} {h : Heap} (G : AtG rows c h) (h' : Heap) (d : Nat) (kt : VtK) : vtouch Om (.len 2 (.k (.v (.c c)))) h' d kt = kt (kI (rows.length : Int)) h' noTouch := by
 rcases G.at' with ⟨rfl, rfl⟩ | ⟨_, j, _, rfl, _⟩
 ·exact qAu _ _ rfl
 ·exact qAu _ _ rfl
theorem qKx (sb : Sl Bool) (x0 x3 : TVal) (i : Nat) (hi : i < 30) (b : Bool) (hb : sb.list[i]? = some b) {B N : List (List PVal)} (hB : B.length = i) {cb cn : Cell} {s : List UInt8} {h : Heap} (H : WH B N cb cn s h) :
  ∃ c1 c2 hA hB, WH (B ++ [(bT b).row]) N c1 cn s hA ∧ WH (B ++ [(bT b).row]) N c2 cn s hB ∧ ∀ R : Jump, b5_1 Om R 0 x0 (bsP sb) x3 (oP 10) (oP 11) (kI (i : Int)) h = vboth (R 2 [x0, bsP sb, x3, oP 10, oP 11, kI (i : Int)] hA) (R 2 [x0, bsP sb, x3, oP 10, oP 11, kI (i : Int)] hB) := by
 have h1 : (i : Int) < (sb.len : Int) := by
  have := (List.getElem?_eq_some_iff.1 hb).1
  unfold Sl.len; omega
 generalize hγ : h.gen 60 + 1 = γ
 generalize hS1 : ((h.own 60 γ (.cells [.p (.bool false)] 0)).own 60 γ (.cells [.p (.bool true)] 0)).own 60 γ (.cells [.p (.bool false)] 0) = h1'
 generalize hS2 : ((h.own 60 γ (.cells [.p (.bool false)] 0)).own 60 γ (.cells [.p (.bool false)] 0)).own 60 γ (.cells [.p (.bool true)] 0) = h2'
 have HA : WH B N cb cn s h1' := by rw [← hS1]; exact ((H.own _ _ _ (by decide) (by decide)).own _ _ _ (by decide) (by decide)).own _ _ _ (by decide) (by decide)
 have HB : WH B N cb cn s h2' := by rw [← hS2]; exact ((H.own _ _ _ (by decide) (by decide)).own _ _ _ (by decide) (by decide)).own _ _ _ (by decide) (by decide)
 have gA : h1'.get (.own 60 γ) = some (.cells [.p (.bool false)] 0) := by rw [← hS1]; exact Heap.own_get _ _ _ _ (by decide) (fun e => by cases e)
 have gB : h2'.get (.own 60 γ) = some (.cells [.p (.bool true)] 0) := by rw [← hS2]; exact Heap.own_get _ _ _ _ (by decide) (fun e => by cases e)
 obtain ⟨a2, aT, aApp, aAp, a0, aM, aG, aL, aP, aW, _⟩ := wh_b HA (by omega) (bT b).row rfl (pcells (bT b).row) rfl
 obtain ⟨b2, bT', bApp, bAp, b0, bM, bG, bL, bP, _, bW⟩ := wh_b HB (by omega) (bT b).row rfl zz6 rfl
 have aW := aW rfl
 rw [hB] at aApp aG aL aP aW bApp bG bL bP bW
 generalize hMa : h1'.ims.length = Ma at *
 generalize hMb : h2'.ims.length = Mb at *
 have LA : ∀ kt : VtK, vtouch Om (.bslice 6 1 zz6 [(0, .k (.v (.agg (R6 1 b 0 []))))] true) h1' 90 kt = kt (.v (.c (.sref (.im Ma) 0 1 (some 1) 6))) (h1'.push (.cells (R6 1 b 0 []) 0)) ⟨[], [.im Ma], true⟩ := fun kt => by rw [← hMa]; rfl
 have LB : ∀ kt : VtK, vtouch Om (.bslice 6 1 zz6 [(0, .k (.v (.agg zz6)))] true) h2' 73 kt = kt (.v (.c (.sref (.im Mb) 0 1 (some 1) 6))) (h2'.push (.cells zz6 0)) ⟨[], [.im Mb], true⟩ := fun kt => by rw [← hMb]; rfl
 have BD : ∀ (h : Heap) (d : Nat) (kt : VtK), vtouch Om (.build zz6 [(0, 1, .k (kI 1)), (1, 1, .k (kB b))]) h d kt = kt (.v (.agg (R6 1 b 0 []))) h noTouch := fun _ _ _ => rfl
 have LN := fun (d : Nat) (kt : VtK) => qLQ HB.gb h2' d kt
 rw [hB] at LN
 have PW : ∀ c : Cell, put1 (W3 cb cn s) 5 [c] = W3 c cn s := fun _ => rfl
 have lv : ∀ c : Cell, (W3 c cn s).length = 18 := fun _ => rfl
 have rl : (pcells (bT b).row).length = 6 := rfl
 have er : pcells (bT b).row = R6 1 b 0 [] := rfl
 have T1 : ∀ M : Nat, AI.Touch.apart ⟨[(Ref.own 11 1).site], [], false⟩ ⟨[], [.im M], true⟩ = true := fun _ => rfl
 have T2 : ∀ M : Nat, 0 < M → AI.Touch.apart ⟨[(Ref.im 0).site], [], false⟩ ⟨[], [.im M], true⟩ = true := fun M hM => by
  obtain ⟨M', rfl⟩ : ∃ M', M = M' + 1 := ⟨M - 1, by omega⟩
  rfl
 have T2a := T2 Ma aM
 have T2b := T2 Mb bM
 have T3 : ∀ M : Nat, AI.Touch.apart noTouch ⟨[], [.im M], true⟩ = true := fun _ => rfl
 rw [er] at aApp aG aL aP bP bW
 have zl : decide (0 ≤ i * 6) = true := decide_eq_true (Nat.zero_le _)
 have gWB : (b2.put (.im 0) (.cells (W3 (sq6 (Mb + 1) (i + 1)) cn s) 0)).get (.im (Mb + 1)) = some (.cells (pcells B.flatten ++ zz6) 0) := bG
 have lt : i < i + 1 := by omega
 have hz : i * 6 + 6 ≤ (pcells B.flatten ++ zz6).length := by omega
 refine ⟨_, _, _, _, aW, bW, fun R => ?_⟩
 generalize pcells B.flatten ++ zz6 = Dz at *
 rw [b5_1]
 simp (config := { maxSteps := 10000000, maxDischargeDepth := 12 }) +contextual only [exa, ne_eq, not_false_eq_true, reduceAdd, reduceMul, reduceLT, reduceLeDiff, reduceEqDiff, Int.reduceLT, Int.reduceLE, Int.reduceEq, Int.reduceToNat, exW, exY, h1, hb, hγ, hS1, hS2, gA, gB, H.h11, H.hw, HA.h11, HB.h11, HA.hw, HB.hw, LA, LB, BD, LN, aApp, bApp, aAp, bAp, a0, b0, PW, lv, rl, T1, T2a, T2b, T3, qCv, gWB, lt, hz, bP, er, zl, Nat.zero_add, Nat.mul_one]
theorem qKr (x0 x3 x13 : TVal) (i g : Nat) (hi : i < 30) (r : List PVal) (hr : r.length = 6) {B N : List (List PVal)} (hB : N.length = i) {cb cn : Cell} {s : List UInt8} {h : Heap} (h14 : h.get (.own 14 g) = some (.cells (pcells r) 0)) (H : WH B N cb cn s h) :
  ∃ c1 c2 hA hB, WH B (N ++ [r]) cb c1 s hA ∧ WH B (N ++ [r]) cb c2 s hB ∧ ∀ R : Jump, b5_5 Om R 0 x0 x3 (oP 10) (oP 11) x13 (.v (.c (.ptr (.own 14 g) 0))) h = vboth (R 6 [x0, x3, oP 10, oP 11, x13] hA) (R 6 [x0, x3, oP 10, oP 11, x13] hB) := by
 generalize hγ : h.gen 109 + 1 = γ
 generalize hS1 : ((h.own 109 γ (.cells [.p (.bool false)] 0)).own 109 γ (.cells [.p (.bool true)] 0)).own 109 γ (.cells [.p (.bool false)] 0) = h1'
 generalize hS2 : ((h.own 109 γ (.cells [.p (.bool false)] 0)).own 109 γ (.cells [.p (.bool false)] 0)).own 109 γ (.cells [.p (.bool true)] 0) = h2'
 have HA : WH B N cb cn s h1' := by rw [← hS1]; exact ((H.own _ _ _ (by decide) (by decide)).own _ _ _ (by decide) (by decide)).own _ _ _ (by decide) (by decide)
 have HB : WH B N cb cn s h2' := by rw [← hS2]; exact ((H.own _ _ _ (by decide) (by decide)).own _ _ _ (by decide) (by decide)).own _ _ _ (by decide) (by decide)
 have gA : h1'.get (.own 109 γ) = some (.cells [.p (.bool false)] 0) := by rw [← hS1]; exact Heap.own_get _ _ _ _ (by decide) (fun e => by cases e)
 have gB : h2'.get (.own 109 γ) = some (.cells [.p (.bool true)] 0) := by rw [← hS2]; exact Heap.own_get _ _ _ _ (by decide) (fun e => by cases e)
 have eA : h1'.get (.own 14 g) = some (.cells (pcells r) 0) := by rw [← hS1]; exact (Heap.own_get_ne _ 109 _ _ 14 g (by decide)).trans ((Heap.own_get_ne _ 109 _ _ 14 g (by decide)).trans ((Heap.own_get_ne _ 109 _ _ 14 g (by decide)).trans h14))
 have eB : h2'.get (.own 14 g) = some (.cells (pcells r) 0) := by rw [← hS2]; exact (Heap.own_get_ne _ 109 _ _ 14 g (by decide)).trans ((Heap.own_get_ne _ 109 _ _ 14 g (by decide)).trans ((Heap.own_get_ne _ 109 _ _ 14 g (by decide)).trans h14))
 obtain ⟨a2, aT, aApp, aAp, a0, aM, aG, aL, aP, aW, _⟩ := wh_n HA (by omega) r hr (pcells r) (by rw [qAQ, hr])
 obtain ⟨b2, bT', bApp, bAp, b0, bM, bG, bL, bP, _, bW⟩ := wh_n HB (by omega) r hr zz6 rfl
 have aW := aW rfl
 rw [hB] at aApp aG aL aP aW bApp bG bL bP bW
 generalize hMa : h1'.ims.length = Ma at *
 generalize hMb : h2'.ims.length = Mb at *
 have rl : (pcells r).length = 6 := by rw [qAQ, hr]
 have tr : (pcells r).take 6 = pcells r := List.take_of_length_le (by omega)
 have LA : ∀ kt : VtK, vtouch Om (.bslice 6 1 zz6 [(0, .k (.v (.agg (pcells r))))] true) h1' 131 kt = kt (.v (.c (.sref (.im Ma) 0 1 (some 1) 6))) (h1'.push (.cells (pcells r) 0)) ⟨[], [.im Ma], true⟩ := fun kt => by
  rw [← hMa]
  match r, hr with
  | [a, b, c, d, e, f], _ => rfl
 have LB : ∀ kt : VtK, vtouch Om (.bslice 6 1 zz6 [(0, .k (.v (.agg zz6)))] true) h2' 118 kt = kt (.v (.c (.sref (.im Mb) 0 1 (some 1) 6))) (h2'.push (.cells zz6 0)) ⟨[], [.im Mb], true⟩ := fun kt => by rw [← hMb]; rfl
 have LN := fun (d : Nat) (kt : VtK) => qLQ HB.gn h2' d kt
 rw [hB] at LN
 have PW : ∀ c : Cell, put1 (W3 cb cn s) 11 [c] = W3 cb c s := fun _ => rfl
 have lv : ∀ c : Cell, (W3 cb c s).length = 18 := fun _ => rfl
 have T1 : ∀ M : Nat, AI.Touch.apart ⟨[(Ref.own 11 1).site], [], false⟩ ⟨[], [.im M], true⟩ = true := fun _ => rfl
 have T4 : ∀ M : Nat, AI.Touch.apart ⟨[(Ref.own 14 g).site], [], false⟩ ⟨[], [.im M], true⟩ = true := fun _ => rfl
 have T2 : ∀ M : Nat, 0 < M → AI.Touch.apart ⟨[(Ref.im 0).site], [], false⟩ ⟨[], [.im M], true⟩ = true := fun M hM => by
  obtain ⟨M', rfl⟩ : ∃ M', M = M' + 1 := ⟨M - 1, by omega⟩
  rfl
 have T2a := T2 Ma aM
 have T2b := T2 Mb bM
 have T3 : ∀ M : Nat, AI.Touch.apart noTouch ⟨[], [.im M], true⟩ = true := fun _ => rfl
 have zl : decide (0 ≤ i * 6) = true := decide_eq_true (Nat.zero_le _)
 have gWB : (b2.put (.im 0) (.cells (W3 cb (sq6 (Mb + 1) (i + 1)) s) 0)).get (.im (Mb + 1)) = some (.cells (pcells N.flatten ++ zz6) 0) := bG
 have lt : i < i + 1 := by omega
 have hz : i * 6 + 6 ≤ (pcells N.flatten ++ zz6).length := by omega
 refine ⟨_, _, _, _, aW, bW, fun R => ?_⟩
 generalize pcells N.flatten ++ zz6 = Dz at *
 rw [b5_5]
 simp (config := { maxSteps := 10000000, maxDischargeDepth := 12 }) +contextual only [exa, ne_eq, not_false_eq_true, reduceAdd, reduceMul, reduceLT, reduceLeDiff, reduceEqDiff, Int.reduceLT, Int.reduceLE, Int.reduceEq, Int.reduceToNat, exW, exY, hγ, hS1, hS2, gA, gB, eA, eB, h14, H.h11, H.hw, HA.h11, HB.h11, HA.hw, HB.hw, LA, LB, LN, aApp, bApp, aAp, bAp, a0, b0, PW, lv, rl, tr, T1, T2a, T2b, T3, T4, qCv, gWB, lt, hz, bP, zl, Nat.zero_add, Nat.mul_one]
end Go.Proofs.YtlkejchbcchecaaDoor.Ab
set_option maxHeartbeats 4000000
namespace Go.Proofs.YtlkejchbcchecaaDoor.Ab
open Go Go.AI
noncomputable abbrev Z5 : ZapF := zapB fun l => if l = 7 then some (1, 5) else none
noncomputable abbrev LW : Jump := limZ c5 Om Z5 0
theorem y5_0 (x0 x1 x2 x3 : TVal) (h : Heap) : LW 0 [x0, x1, x2, x3] h = b5_0 Om (jumpZ c5 Om Z5 0) 0 x0 x1 x2 x3 h := (qBb _ _ _).trans (e5_0 ..).symm
theorem y5_1 (x0 x2 x3 x10 x11 x12 : TVal) (h : Heap) : LW 1 [x0, x2, x3, x10, x11, x12] h = b5_1 Om (jumpZ c5 Om Z5 0) 0 x0 x2 x3 x10 x11 x12 h := (qBb _ _ _).trans (e5_1 ..).symm
theorem y5_2 (x0 x2 x3 x10 x11 x12 : TVal) (h : Heap) : LW 2 [x0, x2, x3, x10, x11, x12] h = b5_2 Om (jumpZ c5 Om Z5 0) 0 x0 x2 x3 x10 x11 x12 h := (qBb _ _ _).trans (e5_2 ..).symm
theorem y5_3 (x0 x3 x10 x11 : TVal) (h : Heap) : LW 3 [x0, x3, x10, x11] h = b5_3 Om (jumpZ c5 Om Z5 0) 0 x0 x3 x10 x11 h := (qBb _ _ _).trans (e5_3 ..).symm
theorem y5_4 (x0 x3 x10 x11 x13 : TVal) (h : Heap) : LW 4 [x0, x3, x10, x11, x13] h = b5_4 Om (jumpZ c5 Om Z5 0) 0 x0 x3 x10 x11 x13 h := (qBb _ _ _).trans (e5_4 ..).symm
theorem y5_5 (x0 x3 x10 x11 x13 x14 : TVal) (h : Heap) : LW 5 [x0, x3, x10, x11, x13, x14] h = b5_5 Om (jumpZ c5 Om Z5 0) 0 x0 x3 x10 x11 x13 x14 h := (qBb _ _ _).trans (e5_5 ..).symm
theorem y5_6 (x0 x3 x10 x11 x13 : TVal) (h : Heap) : LW 6 [x0, x3, x10, x11, x13] h = b5_6 Om (jumpZ c5 Om Z5 0) 0 x0 x3 x10 x11 x13 h := (qBb _ _ _).trans (e5_6 ..).symm
theorem y5_7 (x10 x11 : TVal) (h : Heap) : LW 7 [x10, x11] h = b5_7 Om (jumpZ c5 Om Z5 0) 0 x10 x11 h := (qBb _ _ _).trans (e5_7 ..).symm
theorem jw_1 (vs : List TVal) (h : Heap) : jumpZ c5 Om Z5 0 1 vs h = LW 1 vs h := rfl
theorem jw_2 (vs : List TVal) (h : Heap) : jumpZ c5 Om Z5 0 2 vs h = LW 2 vs h := rfl
theorem jw_3 (vs : List TVal) (h : Heap) : jumpZ c5 Om Z5 0 3 vs h = LW 3 vs h := rfl
theorem jw_4 (vs : List TVal) (h : Heap) : jumpZ c5 Om Z5 0 4 vs h = LW 4 vs h := rfl
theorem jw_5 (vs : List TVal) (h : Heap) : jumpZ c5 Om Z5 0 5 vs h = LW 5 vs h := rfl
theorem jw_6 (vs : List TVal) (h : Heap) : jumpZ c5 Om Z5 0 6 vs h = LW 6 vs h := rfl
def slOf (l : List VT) : Sl VT := match l with
 | [] => .nil
 | a :: t => .mk false (a :: t)
theorem qGM (l : List VT) : (slOf l).list = l := by cases l <;> rfl
theorem qGq {l : List VT} {c : Cell} {h : Heap} (G : AtG (l.map VT.row) c h) : ∃ rs, AI.freeze h 29 c = some (slP 6 VT.row (slOf l), rs) ∧ ∀ r ∈ rs, ∃ i, r = .im i := by
 rcases G.at' with ⟨h1, rfl⟩ | ⟨hne, j, hj, rfl, hg⟩
 ·have : l = [] := by simpa using h1
  subst this
  exact ⟨[], rfl, fun r hr => by cases hr⟩
 ·have hs : slP 6 VT.row (slOf l) = .slice 6 false (l.map VT.row) := by
   cases l with
   | nil => simp at hne
   | cons a t => rfl
  exact ⟨[.im j], by rw [hs]; exact qJV 27 j 6 none (l.map VT.row) G.six hg, fun r hr => ⟨j, List.mem_singleton.1 hr⟩⟩
theorem qKW {bs ns : List VT} {cb cn : Cell} {s : List UInt8} {h : Heap} (H : WH (bs.map VT.row) (ns.map VT.row) cb cn s h) :
  ∃ h2 : Heap, h2.get (.own 10 1) = some (.cells (pcells tW.row) 0) ∧ h2.get (.own 11 1) = some (.cells (pcells (vW (slOf bs) (slOf ns) s).row) 0) ∧ jumpZ c5 Om Z5 0 7 [oP 10, oP 11] h = LW 7 [oP 10, oP 11] h2 := by
 obtain ⟨r1, f1, i1⟩ := qGq H.gb
 obtain ⟨r2, f2, i2⟩ := qGq H.gn
 have FZ : AI.freeze h fuelFreeze (.sref (.im 0) 0 3 (some 3) 6) = some (.slice 6 true ([liV (slOf bs), liV (slOf ns), sT s].map VT.row), .im 0 :: (r1 ++ r2)) := by
  show (match h.get (.im 0) with | some (.cells cs _) => _ | _ => none) = _
  rw [H.hw]
  show (do let vs ← (W3 cb cn s).mapM (AI.freeze h 29); let rows ← chunk 6 3 (vs.map fun (x : PVal × List Ref) => Cell.p x.1); pure (PVal.slice 6 (some 3 == some 3) rows, Ref.im 0 :: vs.flatMap fun (x : PVal × List Ref) => x.2)) = _
  have fp : ∀ v : PVal, AI.freeze h 29 (.p v) = some (v, []) := fun _ => rfl
  simp only [List.mapM_cons, List.mapM_nil, fp, f1, f2, Option.bind_eq_bind, Option.bind_some, Option.pure_def, List.map_cons, List.map_nil, VT.row_eq]
  simp [chunk, List.mapM_nil]
  rfl
 have im : ∀ r ∈ (.im 0 :: (r1 ++ r2) : List Ref), ∃ i, r = Ref.im i := fun r hr => by
  rcases List.mem_cons.1 hr with rfl | hr
  ·exact ⟨0, rfl⟩
  ·rcases List.mem_append.1 hr with hr | hr
   ·exact i1 r hr
   ·exact i2 r hr
 obtain ⟨s1, s2, s3⟩ := qDI (.im 0 :: (r1 ++ r2)) h im
 have e11 := (s1 11 1).trans H.h11
 have ev : pcells (vW (slOf bs) (slOf ns) s).row = [.p (.int .i64 5), .p (.bool false), .p (.int .i64 0), .p (.str []), .p (.slice 1 true (ksW.map sRow)), .p (.slice 6 true ([liV (slOf bs), liV (slOf ns), sT s].map VT.row))] := by
  rw [VT.row_eq]; rfl
 refine ⟨(AI.settle h (.im 0 :: (r1 ++ r2))).put (.own 11 1) (.cells (pcells (vW (slOf bs) (slOf ns) s).row) 0), ?_, Heap.own_get _ _ _ _ (by decide) (fun e => by cases e), ?_⟩
 ·exact (Heap.own_get_ne _ 11 _ _ 10 1 (by decide)).trans ((s1 10 1).trans H.h10)
 ·show LW 7 (Z5 7 [oP 10, oP 11] h).1 (Z5 7 [oP 10, oP 11] h).2 = _
  have : Z5 7 [oP 10, oP 11] h = ([oP 10, oP 11], (AI.settle h (.im 0 :: (r1 ++ r2))).put (.own 11 1) (.cells (pcells (vW (slOf bs) (slOf ns) s).row) 0)) := by
   show (match h.get (.own 11 1) with | some (.cells cs _) => _ | _ => _) = _
   rw [H.h11]
   show (match AI.freeze h fuelFreeze (.sref (.im 0) 0 3 (some 3) 6) with | some (p, rs) => _ | none => _) = _
   rw [FZ]
   show (match (AI.settle h (.im 0 :: (r1 ++ r2))).get (.own 11 1) with | some (.cells cs1 imm1) => _ | _ => _) = _
   rw [e11, ev]; rfl
  rw [this]
def schW : ST := ⟨tW, .nil, .nil⟩
theorem qPX : schW.types = .nil := rfl
theorem qLl {B N : Sl VT} {s : List UInt8} {bs : List Bool} {ns : List (Option Int)} (hB : B.list = bs.map bT) (hN : N.list = ns.map nT) (lb : bs.length ≤ 30) (ln : ns.length ≤ 30) (hn : ∀ x ∈ ns, smallO x) (hs : s.length ≤ 1000) (h : Heap)
  (g10 : h.get (.own 10 1) = some (.cells (pcells tW.row) 0)) (g11 : h.get (.own 11 1) = some (.cells (pcells (vW B N s).row) 0)) : LW 7 [oP 10, oP 11] h = some (kB true, []) := by
 obtain ⟨q, y, p1, p2, p3, p4, p5, p6, p8, smy⟩ := qIH (s := s) hB hN lb ln hn hs
 have fit := qF9 (s := s) hB hN lb ln
 have sm := qGo (s := s) hB hN lb ln hs
 generalize vW B N s = V at *
 have P := qOM schW qPX tW qN0 V sm 4 _ fit rfl 5 q p1 (by omega) (by omega)
 obtain ⟨h1, t1, c1, _, A1, K1, G1, L1, _⟩ := qL6 (pl := [kA schW.row, kA tW.row, kA V.row]) (by simp only [exP]) P (qB4 _ _ tW q.1).1 h
 generalize hC : rowsC (layM [q.1] q.2).2 [] tW q.1 = C at A1 L1 c1
 generalize hρ : ((List.range C.length).map fun i => Ref.im (h.ims.length + i)) = ρ at A1
 have hCl : 0 < C.length := by rw [← hC]; exact Nat.succ_pos _
 have r0 : ρ[0]? = some (.im (h.ims.length + 0)) := by rw [← hρ, List.getElem?_map, List.getElem?_range hCl]; rfl
 have him : ∀ r ∈ ρ, ∃ i, r = .im i := fun r hr => by rw [← hρ] at hr; obtain ⟨i, _, rfl⟩ := List.mem_map.1 hr; exact ⟨_, rfl⟩
 have er : (TVal.tup [.c (.ptr (.im 0) 0), .c (.p (.str [])), .c (.p (.int .i64 0))]).ren (back [] C.length (newRef h.ims.length)) = .tup [.c (.ptr (.im (h.ims.length + 0)) 0), .c (.p (.str [])), .c (.p (.int .i64 0))] := by
  have hb : Nat.blt 0 C.length = true := by rw [Nat.blt_eq]; exact hCl
  show TVal.tup [.c (match back [] C.length (newRef h.ims.length) (.im 0) with | some s => .ptr s 0 | none => .junk), _, _] = _
  have : back [] C.length (newRef h.ims.length) (.im 0) = some (.im (h.ims.length + 0)) := by
   simp only [back, List.getElem?_nil, hb, cond_true, newRef, List.length_nil, Nat.sub_zero]
  rw [this]; rfl
 rw [er] at c1
 generalize Ref.im (h.ims.length + 0) = r at c1 r0
 have FI : Fine (layM [q.1] q.2).2 [] := by
  have hw : (layM [q.1] q.2).2.W = q.2.W ++ [q.1] := rfl
  refine ⟨by rw [hw, List.length_append]; simp; omega, by show q.2.T.length ≤ _; omega, by decide, (fun e he => by cases he), fun x hx => ?_⟩
  rw [hw] at hx
  rcases List.mem_append.1 hx with h' | h'
  ·exact p5 x h'
  ·rw [List.mem_singleton.1 h']; exact p4
 have V25 := qMd (layM [q.1] q.2).2 [] FI 5 tW qN0 q.1 p4.1 p4.2 y p6
 rw [hC] at V25
 have RC : Rooted C := by rw [← hC]; exact qB4 _ _ tW q.1
 obtain ⟨_, t25, T25, c25⟩ := qDS A1 RC him r0 25 [] rfl (kA y.row) (by simp only [exP]) V25
 have C25 := fun (β : Type) (kt : TVal → Heap → AI.Touch → Option β) => c25 (β := β) 152 kt
 simp only [List.map_nil] at C25
 have k11 := K1 _ _ g11
 have S1 := qOq _ y (Nat.lt_succ_self _) smy V
 rw [p8] at S1
 have U1 := fun (β : Type) (kt : TVal → Heap → AI.Touch → Option β) (h : Heap) (d : Nat) => qCy (kt := kt) (h := h) (d := d) 24 [kA y.row, kA V.row] _ (by simp only [exP]) S1 rfl
 simp only [List.map_cons, List.map_nil] at U1
 have TL := T25.look_r 11 1
 have lv : (pcells V.row).length = 6 := by rw [qAQ, VT.row_len]
 have m4 : (pcells tW.row).length = 4 := rfl
 have tv : (pcells V.row).take 6 = pcells V.row := List.take_of_length_le (by omega)
 have t4 : (pcells tW.row).take 4 = pcells tW.row := rfl
 have C1 : ∀ (β : Type) (k : TVal → Heap → Option β) (d : Nat), vcall Om (.v (.c (.func 23 []))) [.v (.agg (pcells schW.row)), .v (.agg (pcells tW.row)), .v (.agg (pcells V.row))] h d k = k (.tup [.c (.ptr r 0), .c (.p (.str [])), .c (.p (.int .i64 0))]) h1 := fun β k d => c1 d k
 have U1' : ∀ (β : Type) (kt : TVal → Heap → AI.Touch → Option β) (h : Heap) (d : Nat), vtouch Om (.call (.k (.v (.c (.func 24 [])))) [.k (.v (.agg (pcells y.row))), .k (.v (.agg (pcells V.row)))]) h d kt = kt (kB true) h noTouch := U1
 have BS : ∀ (β : Type) (k : TVal → Heap → Option β) (h : Heap), vop Om (.build [.p (.int .i64 0), .p (.str []), .p .nilslice, .p .nilslice, .p .nilslice, .p .nilslice] [(0, 4, .k (.v (.agg (pcells tW.row))))]) h 137 k = k (.v (.agg (pcells schW.row))) h := fun _ _ _ => rfl
 have GT : ∀ (doit : (TVal → Heap → AI.Touch → Option (TVal × List AObj)) → Option (TVal × List AObj)) (h : Heap) (k : TVal → Heap → AI.Touch → Option (TVal × List AObj)), vguardT (kB true) true doit h k = doit k := fun _ _ _ => rfl
 have PK : ∀ (a b : TVal) (h : Heap) (d : Nat) (kt : TVal → Heap → AI.Touch → Option (TVal × List AObj)), vtouch Om (.pick (.k (kB true)) (.k a) (.k b)) h d kt = kt a h noTouch := fun _ _ _ _ _ => rfl
 rw [y5_7, b5_7]
 generalize pcells V.row = cV at *
 generalize pcells schW.row = cS at *
 generalize pcells tW.row = cM at *
 simp (maxSteps := 9999999) +contextual only [exa, ne_eq, not_false_eq_true, reduceAdd, reduceMul, reduceLT, reduceLeDiff, reduceEqDiff, Int.reduceLT, Int.reduceLE, Int.reduceEq, Int.reduceToNat, exW, exY, g10, g11, C1, BS, k11, lv, m4, tv, t4, C25, U1', TL, GT, PK]
end Go.Proofs.YtlkejchbcchecaaDoor.Ab
set_option maxHeartbeats 4000000
namespace Go.AI
theorem qMq {f : FuncId} {args : List TVal} {objs : List AObj} {r : TVal × List AObj} {S : Oracle} {W : Mach} : orc (addZ f args objs r S) W f args objs = some r := by
 have : addZ f args objs r S f args objs = some r := by unfold addZ; rw [if_pos ⟨rfl, rfl, rfl⟩]
 show Option.rec (motive := fun _ => Res1) _ some (addZ f args objs r S f args objs) = some r
 rw [this]
noncomputable def labsB (F : MFunc) : Bool := F.labs.all fun e => nodupB e.2.1 && e.2.1.all fun x => Nat.blt (x + 1) 1048576
theorem qM9 {F : MFunc} (h : labsB F = true) : ∀ e ∈ F.labs, nodupB e.2.1 = true ∧ ∀ x ∈ e.2.1, x + 1 < 1048576 := by
 intro e he
 have := List.all_eq_true.1 h e he
 rw [Bool.and_eq_true] at this
 refine ⟨this.1, fun x hx => ?_⟩
 have := List.all_eq_true.1 this.2 x hx
 rwa [Nat.blt_eq] at this
end Go.AI
namespace Go.Proofs.YtlkejchbcchecaaDoor.Ab
open Go Go.AI
def byL (o : Option (List Int)) : List UInt8 := (intsL o).map fun n => UInt8.ofNat n.toNat
theorem qI5 : ∀ l : List Int, bytesOfRows (l.map fun n => [PVal.int .u8 n]) = some (l.map fun n => UInt8.ofNat n.toNat)
 | [] => rfl
 | n :: l => by
  show (bytesOfRows (l.map fun n => [PVal.int .u8 n])).map (UInt8.ofNat n.toNat :: ·) = _
  rw [qI5 l]; rfl
abbrev bX (o : Option (List Int)) : TVal := .pv (intsP .u8 o)
def x52 (o : Option (List Int)) (i : Nat) : TVal := match o with
 | none => kNil
 | some l => kSl 1 false ((l.map fun n => [PVal.int .u8 n]).drop (min i l.length))
end Go.Proofs.YtlkejchbcchecaaDoor.Ab
set_option maxHeartbeats 4000000
namespace Go.Proofs.YtlkejchbcchecaaDoor.Ab
open Go Go.AI
abbrev isP (s : Sl Int) : TVal := .v (.c (.p (slP 1 iRow s)))
theorem qP6 (x : Option Int) : (nT x).row.length = 6 := VT.row_len _
theorem qIM (sn : Sl Int) (hl : sn.len ≤ 30) (hr : ∀ n ∈ sn.list, -9223372036854775808 ≤ n ∧ n ≤ 9223372036854775807) (gone : Int) (bs : List Bool) (hb : bs.length ≤ 30) (s : List UInt8) (hs : s.length ≤ 1000) :
  ∀ (i : Nat) (ns : List (Option Int)) (cb cn : Cell) (h : Heap), ns.length = i → i ≤ sn.len → (∀ x ∈ ns, smallO x) → WH ((bs.map bT).map VT.row) ((ns.map nT).map VT.row) cb cn s h → LW 4 [isP sn, kI gone, oP 10, oP 11, kI (i : Int)] h = some (kB true, []) := by
 refine qAS sn.len (fun i hi ns cb cn h hn hle sm H => ?_) (fun i hi ih ns cb cn h hn hle sm H => ?_)
 ·have h1 : ¬ (i : Int) < (sn.len : Int) := by omega
  obtain ⟨h2, g10, g11, e⟩ := qKW H
  rw [y5_4, b5_4]
  simp (maxSteps := 9999999) +contextual only [exa, ne_eq, not_false_eq_true, reduceAdd, reduceMul, reduceLT, reduceLeDiff, reduceEqDiff, Int.reduceLT, Int.reduceLE, Int.reduceEq, Int.reduceToNat, h1]
  exact e.trans (qLl (qGM _) (qGM _) hb (by omega) sm hs h2 g10 g11)
 ·obtain ⟨n, hn', h2, hm⟩ := qAZ (l := sn.list) hi
  have h1 : (i : Int) < (sn.len : Int) := by omega
  have hi30 : i < 30 := by omega
  have rng := hr n hm
  generalize hx : (if (i : Int) = gone then none else some n : Option Int) = x
  have smx : smallO x := fun m e => by
   rw [← hx] at e
   split at e
   ·cases e
   ·cases e; exact ⟨rng.1, by omega⟩
  have key : ∀ (h' : Heap) (g : Nat), h'.get (.own 14 g) = some (.cells (pcells (nT x).row) 0) → WH ((bs.map bT).map VT.row) ((ns.map nT).map VT.row) cb cn s h' → LW 5 [isP sn, kI gone, oP 10, oP 11, kI (i : Int), .v (.c (.ptr (.own 14 g) 0))] h' = some (kB true, []) := fun h' g g14 H' => by
   obtain ⟨c1, c2, hA, hB, WA, WB, e⟩ := qKr (isP sn) (kI gone) (kI (i : Int)) i g hi30 (nT x).row (qP6 x) (by rw [List.length_map, List.length_map, hn]) g14 H'
   have em : (ns.map nT).map VT.row ++ [(nT x).row] = ((ns ++ [x]).map nT).map VT.row := by simp
   rw [em] at WA WB
   have sm' : ∀ y ∈ ns ++ [x], smallO y := fun y hy => by
    rcases List.mem_append.1 hy with hy | hy
    ·exact sm y hy
    ·rw [List.mem_singleton.1 hy]; exact smx
   have go : ∀ (c : Cell) (hh : Heap), WH ((bs.map bT).map VT.row) (((ns ++ [x]).map nT).map VT.row) cb c s hh → jumpZ c5 Om Z5 0 6 [isP sn, kI gone, oP 10, oP 11, kI (i : Int)] hh = some (kB true, []) := fun c hh W => by
    rw [jw_6, y5_6, b5_6]
    have wi := qAm i (by omega)
    simp (maxSteps := 9999999) +contextual only [exa, ne_eq, not_false_eq_true, reduceAdd, reduceMul, reduceLT, reduceLeDiff, reduceEqDiff, Int.reduceLT, Int.reduceLE, Int.reduceEq, Int.reduceToNat, wi]
    rw [jw_4]
    exact ih (ns ++ [x]) cb c hh (by simp [hn]) (by omega) sm' W
   rw [y5_5, e]
   exact qEe (go _ _ WA) (go _ _ WB)
  rw [y5_4, b5_4]
  have BD : ∀ (k : TVal → Heap → Res1) (h : Heap), vop Om (.build zz6 [(0, 1, .k (kI 2)), (2, 1, .k (kI n))]) h 104 k = k (.v (.agg (R6 2 false n []))) h := fun _ _ => rfl
  have BZ : ∀ (k : TVal → Heap → Res1) (h : Heap), vop Om (.build zz6 []) h 108 k = k (.v (.agg (R6 0 false 0 []))) h := fun _ _ => rfl
  have P6 : ∀ k b n s, put1 zz6 0 (R6 k b n s) = R6 k b n s := fun _ _ _ _ => rfl
  have P6' : ∀ a b c d e f k b' n s, put1 [a, b, c, d, e, f] 0 (R6 k b' n s) = R6 k b' n s := fun _ _ _ _ _ _ _ _ _ _ => rfl
  by_cases hg : (i : Int) = gone
  ·subst hg
   simp (maxSteps := 9999999) +contextual only [exa, ne_eq, not_false_eq_true, reduceAdd, reduceMul, reduceLT, reduceLeDiff, reduceEqDiff, Int.reduceLT, Int.reduceLE, Int.reduceEq, Int.reduceToNat, h1, hn', BD, BZ, P6, P6']
   rw [if_pos rfl] at hx
   subst hx
   have W := ((H.own 14 (h.gen 14 + 1) (.cells zz6 0) (by decide) (by decide)).own 14 (h.gen 14 + 1) (.cells (R6 2 false n []) 0) (by decide) (by decide)).own 14 (h.gen 14 + 1) (.cells (R6 0 false 0 []) 0) (by decide) (by decide)
   rw [jw_5]
   exact key _ (h.gen 14 + 1) (Heap.own_get _ _ _ _ (by decide) (fun e => by cases e)) W
  ·simp (maxSteps := 9999999) +contextual only [exa, ne_eq, not_false_eq_true, reduceAdd, reduceMul, reduceLT, reduceLeDiff, reduceEqDiff, Int.reduceLT, Int.reduceLE, Int.reduceEq, Int.reduceToNat, h1, hn', BD, BZ, P6, P6', hg]
   rw [if_neg hg] at hx
   subst hx
   have W := (H.own 14 (h.gen 14 + 1) (.cells zz6 0) (by decide) (by decide)).own 14 (h.gen 14 + 1) (.cells (R6 2 false n []) 0) (by decide) (by decide)
   rw [jw_5]
   exact key _ (h.gen 14 + 1) (Heap.own_get _ _ _ _ (by decide) (fun e => by cases e)) W
theorem qHs (sn : Sl Int) (hl : sn.len ≤ 30) (hr : ∀ n ∈ sn.list, -9223372036854775808 ≤ n ∧ n ≤ 9223372036854775807) (gone : Int) (sb : Sl Bool) (hb : sb.len ≤ 30) (s : List UInt8) (hs : s.length ≤ 1000) :
  ∀ (i : Nat) (bs : List Bool) (cb cn : Cell) (h : Heap), bs.length = i → i ≤ sb.len → WH ((bs.map bT).map VT.row) [] cb cn s h → LW 1 [isP sn, bsP sb, kI gone, oP 10, oP 11, kI (i : Int)] h = some (kB true, []) := by
 refine qAS sb.len (fun i hi bs cb cn h hn hle H => ?_) (fun i hi ih bs cb cn h hn hle H => ?_)
 ·have h1 : ¬ (i : Int) < (sb.len : Int) := by omega
  rw [y5_1, b5_1]
  simp (maxSteps := 9999999) +contextual only [exa, ne_eq, not_false_eq_true, reduceAdd, reduceMul, reduceLT, reduceLeDiff, reduceEqDiff, Int.reduceLT, Int.reduceLE, Int.reduceEq, Int.reduceToNat, h1]
  rw [jw_3, y5_3, b5_3, jw_4]
  exact qIM sn hl hr gone bs (by omega) s hs 0 [] cb cn h rfl (Nat.zero_le _) (fun x hx => by cases hx) H
 ·obtain ⟨b, hb', h2, hm⟩ := qAZ (l := sb.list) hi
  obtain ⟨c1, c2, hA, hB, WA, WB, e⟩ := qKx sb (isP sn) (kI gone) i (by omega) b hb' (by rw [List.length_map, List.length_map, hn]) H
  have em : (bs.map bT).map VT.row ++ [(bT b).row] = ((bs ++ [b]).map bT).map VT.row := by simp
  rw [em] at WA WB
  have go : ∀ (c : Cell) (hh : Heap), WH (((bs ++ [b]).map bT).map VT.row) [] c cn s hh → jumpZ c5 Om Z5 0 2 [isP sn, bsP sb, kI gone, oP 10, oP 11, kI (i : Int)] hh = some (kB true, []) := fun c hh W => by
   rw [jw_2, y5_2, b5_2]
   have wi := qAm i (by omega)
   simp (maxSteps := 9999999) +contextual only [exa, ne_eq, not_false_eq_true, reduceAdd, reduceMul, reduceLT, reduceLeDiff, reduceEqDiff, Int.reduceLT, Int.reduceLE, Int.reduceEq, Int.reduceToNat, wi]
   rw [jw_1]
   exact ih (bs ++ [b]) c cn hh (by simp [hn]) (by omega) W
  rw [y5_1, e]
  exact qEe (go _ _ WA) (go _ _ WB)
def smI (o : Option (List Int)) : Sl Int := match o with
 | none => .nil
 | some l => .mk false l
theorem qQF (o : Option (List Int)) : intsP .i64 o = slP 1 iRow (smI o) := by cases o <;> rfl
theorem n5 : labsB c5 = true := by kernel_rfl
theorem zok5 [Sym] : ZOK Z5 := zapB_ok _
theorem words_lz (o b : Option (List Int)) (sb : Sl Bool) (gone : Int) (g : ∀ n ∈ intsL o, -9223372036854775808 ≤ n ∧ n ≤ 9223372036854775807) (bo : (intsL o).length ≤ 140737488351232) (bb : (intsL b).length ≤ 140737488351232) :
  limZ c5 (orc S (lim tab.get S)) Z5 (lenF ([] : List AObj)) 0 [.pv (intsP .i64 o), .pv (intsP .u8 b), bsP sb, .pv (.int .i64 gone)] { ims := [], owns := .nil } = some (kB true, []) := by
 show LW 0 [.pv (intsP .i64 o), bX b, bsP sb, kI gone] h0 = _
 rw [qQF]
 have hg : ∀ n ∈ (smI o).list, -9223372036854775808 ≤ n ∧ n ≤ 9223372036854775807 := by cases o <;> exact g
 have hb : (smI o).len ≤ 140737488351232 := by cases o <;> exact bo
 generalize smI o = sn at *
 have hbl : (byL b).length ≤ 140737488351232 := by unfold byL; rw [List.length_map]; exact bb
 have VL : ∀ (β : Type) (k : TVal → Heap → Option β) (h : Heap) (d : Nat), vlen Om 2 (bX b) h d k = k (kI ((byL b).length : Int)) h := fun β k h d => by
  unfold byL
  rw [List.length_map]
  cases b with
  | none => rfl
  | some l =>
   show vlen Om 2 (.v (.c (.p (.slice 1 false (l.map fun n => [PVal.int .u8 n]))))) h d k = _
   simp (maxSteps := 9999999) +contextual only [exa, ne_eq, not_false_eq_true, reduceAdd, reduceMul, reduceLT, reduceLeDiff, reduceEqDiff, Int.reduceLT, Int.reduceLE, Int.reduceEq, Int.reduceToNat, List.length_map]
   rfl
 have ST : ∀ (k : TVal → Heap → Res1) (h : Heap) (d : Nat), vop Om (.toStr (.k (bX b))) h d k = k (kS (byL b)) h := fun k h d => by
  rw [qB7]
  refine qAu _ _ ?_
  unfold byL
  cases b with
  | none =>
   show some (Plan.pure (.pv (.str []))) = _
   rw [show intsL none = [] from rfl, List.map_nil]
  | some l =>
   show (bytesOfRows (l.map fun n => [PVal.int .u8 n])).map _ = _
   rw [qI5]; rfl
 generalize byL b = s at *
 generalize hX : bX b = x1 at *
 have U22 := fun (β : Type) (k : TVal → Heap → Option β) (h : Heap) (d : Nat) => qAP (k := k) (h := h) (d := d) 22 [] _ rfl qO0 rfl
 rw [y5_0, b5_0]
 by_cases h30 : (30 : Int) < (sn.len : Int)
 ·simp (maxSteps := 9999999) +contextual only [exa, ne_eq, not_false_eq_true, reduceAdd, reduceMul, reduceLT, reduceLeDiff, reduceEqDiff, Int.reduceLT, Int.reduceLE, Int.reduceEq, Int.reduceToNat, U22, h30]
 ·by_cases h150 : (150 : Int) < (s.length : Int)
  ·simp (maxSteps := 9999999) +contextual only [exa, ne_eq, not_false_eq_true, reduceAdd, reduceMul, reduceLT, reduceLeDiff, reduceEqDiff, Int.reduceLT, Int.reduceLE, Int.reduceEq, Int.reduceToNat, U22, h30, VL, h150]
  ·by_cases hb30 : (30 : Int) < (sb.len : Int)
   ·simp (maxSteps := 9999999) +contextual only [exa, ne_eq, not_false_eq_true, reduceAdd, reduceMul, reduceLT, reduceLeDiff, reduceEqDiff, Int.reduceLT, Int.reduceLE, Int.reduceEq, Int.reduceToNat, U22, h30, VL, h150, hb30]
   ·have B33 : ∀ (k : TVal → Heap → Res1) (h : Heap), vop Om (.build [.p (.int .i64 0), .p (.str []), .p .nilslice, .p .nilslice] [(0, 1, .k (kI 2))]) h 33 k = k (.v (.agg [.p (.int .i64 2), .p (.str []), .p .nilslice, .p .nilslice])) h := fun _ _ => rfl
    have B34 : ∀ (k : TVal → Heap → Res1) (h : Heap), vop Om (.bslice 4 1 [.p (.int .i64 0), .p (.str []), .p .nilslice, .p .nilslice] [(0, .k (.v (.agg [.p (.int .i64 2), .p (.str []), .p .nilslice, .p .nilslice])))] false) h 34 k = k (kSl 4 true [[.int .i64 2, .str [], .nilslice, .nilslice]]) h := fun _ _ => rfl
    have B35 : ∀ (k : TVal → Heap → Res1) (h : Heap), vop Om (.build [.p (.int .i64 0), .p (.str []), .p .nilslice, .p .nilslice] [(0, 1, .k (kI 6)), (3, 1, .k (kSl 4 true [[.int .i64 2, .str [], .nilslice, .nilslice]]))]) h 35 k = k (.v (.agg [.p (.int .i64 6), .p (.str []), .p .nilslice, .p (.slice 4 true [[.int .i64 2, .str [], .nilslice, .nilslice]])])) h := fun _ _ => rfl
    have B37 : ∀ (k : TVal → Heap → Res1) (h : Heap), vop Om (.build [.p (.int .i64 0), .p (.str []), .p .nilslice, .p .nilslice] [(0, 1, .k (kI 1))]) h 37 k = k (.v (.agg [.p (.int .i64 1), .p (.str []), .p .nilslice, .p .nilslice])) h := fun _ _ => rfl
    have B38 : ∀ (k : TVal → Heap → Res1) (h : Heap), vop Om (.bslice 4 1 [.p (.int .i64 0), .p (.str []), .p .nilslice, .p .nilslice] [(0, .k (.v (.agg [.p (.int .i64 1), .p (.str []), .p .nilslice, .p .nilslice])))] false) h 38 k = k (kSl 4 true [[.int .i64 1, .str [], .nilslice, .nilslice]]) h := fun _ _ => rfl
    have B39 : ∀ (k : TVal → Heap → Res1) (h : Heap), vop Om (.build [.p (.int .i64 0), .p (.str []), .p .nilslice, .p .nilslice] [(0, 1, .k (kI 4)), (3, 1, .k (kSl 4 true [[.int .i64 1, .str [], .nilslice, .nilslice]]))]) h 39 k = k (.v (.agg [.p (.int .i64 4), .p (.str []), .p .nilslice, .p (.slice 4 true [[.int .i64 1, .str [], .nilslice, .nilslice]])])) h := fun _ _ => rfl
    have B41 : ∀ (k : TVal → Heap → Res1) (h : Heap), vop Om (.bslice 4 1 [.p (.int .i64 0), .p (.str []), .p .nilslice, .p .nilslice] [(0, .k (.v (.agg [.p (.int .i64 6), .p (.str []), .p .nilslice, .p (.slice 4 true [[.int .i64 2, .str [], .nilslice, .nilslice]])])))] false) h 41 k = k (kSl 4 true [[.int .i64 6, .str [], .nilslice, .slice 4 true [[.int .i64 2, .str [], .nilslice, .nilslice]]]]) h := fun _ _ => rfl
    have B42 : ∀ (k : TVal → Heap → Res1) (h : Heap), vop Om (.build [.p (.int .i64 0), .p (.str []), .p .nilslice, .p .nilslice] [(0, 1, .k (kI 4)), (3, 1, .k (kSl 4 true [[.int .i64 6, .str [], .nilslice, .slice 4 true [[.int .i64 2, .str [], .nilslice, .nilslice]]]]))]) h 42 k = k (.v (.agg [.p (.int .i64 4), .p (.str []), .p .nilslice, .p (.slice 4 true [[.int .i64 6, .str [], .nilslice, .slice 4 true [[.int .i64 2, .str [], .nilslice, .nilslice]]]])])) h := fun _ _ => rfl
    have B43 : ∀ (k : TVal → Heap → Res1) (h : Heap), vop Om (.build [.p (.int .i64 0), .p (.str []), .p .nilslice, .p .nilslice] [(0, 1, .k (kI 3))]) h 43 k = k (.v (.agg [.p (.int .i64 3), .p (.str []), .p .nilslice, .p .nilslice])) h := fun _ _ => rfl
    have B44 : ∀ (k : TVal → Heap → Res1) (h : Heap), vop Om (.bslice 4 3 [.p (.int .i64 0), .p (.str []), .p .nilslice, .p .nilslice] [(0, .k (.v (.agg [.p (.int .i64 4), .p (.str []), .p .nilslice, .p (.slice 4 true [[.int .i64 1, .str [], .nilslice, .nilslice]])]))), (1, .k (.v (.agg [.p (.int .i64 4), .p (.str []), .p .nilslice, .p (.slice 4 true [[.int .i64 6, .str [], .nilslice, .slice 4 true [[.int .i64 2, .str [], .nilslice, .nilslice]]]])]))), (2, .k (.v (.agg [.p (.int .i64 3), .p (.str []), .p .nilslice, .p .nilslice])))] false) h 44 k = k (kSl 4 true [[.int .i64 4, .str [], .nilslice, .slice 4 true [[.int .i64 1, .str [], .nilslice, .nilslice]]], [.int .i64 4, .str [], .nilslice, .slice 4 true [[.int .i64 6, .str [], .nilslice, .slice 4 true [[.int .i64 2, .str [], .nilslice, .nilslice]]]]], [.int .i64 3, .str [], .nilslice, .nilslice]]) h := fun _ _ => rfl
    have B45 : ∀ (k : TVal → Heap → Res1) (h : Heap), vop Om (.build [.p (.int .i64 0), .p (.str []), .p .nilslice, .p .nilslice] [(0, 1, .k (kI 7)), (2, 1, .k (kSl 1 true (ksW.map sRow))), (3, 1, .k (kSl 4 true [[.int .i64 4, .str [], .nilslice, .slice 4 true [[.int .i64 1, .str [], .nilslice, .nilslice]]], [.int .i64 4, .str [], .nilslice, .slice 4 true [[.int .i64 6, .str [], .nilslice, .slice 4 true [[.int .i64 2, .str [], .nilslice, .nilslice]]]]], [.int .i64 3, .str [], .nilslice, .nilslice]]))]) h 45 k = k (.v (.agg (pcells tW.row))) h := fun _ _ => rfl
    have BK : ∀ (k : TVal → Heap → Res1) (h : Heap) (d : Nat), vop Om (.bslice 1 3 [.p (.str [])] [(0, .k (kS [98])), (1, .k (kS [110])), (2, .k (kS [115]))] false) h d k = k (kSl 1 true (ksW.map sRow)) h := fun _ _ _ => rfl
    have B47 : ∀ (k : TVal → Heap → Res1) (h : Heap) (d : Nat), vop Om (.build zz6 [(0, 1, .k (kI 4))]) h d k = k (.v (.agg (R6 4 false 0 []))) h := fun _ _ _ => rfl
    have B51 : ∀ (k : TVal → Heap → Res1) (h : Heap) (d : Nat), vop Om (.build zz6 [(0, 1, .k (kI 3)), (3, 1, .k (kS s))]) h d k = k (.v (.agg (R6 3 false 0 s))) h := fun _ _ _ => rfl
    have B52 : ∀ (k : TVal → Heap → Res1) (h : Heap), h.ims = [] → vop Om (.bslice 6 3 zz6 [(0, .k (.v (.agg (R6 4 false 0 [])))), (1, .k (.v (.agg (R6 4 false 0 [])))), (2, .k (.v (.agg (R6 3 false 0 s))))] true) h 52 k = k (.v (.c (.sref (.im 0) 0 3 (some 3) 6))) (h.push (.cells (W3 (.p .nilslice) (.p .nilslice) s) 0)) := fun k h e => by
     rw [qB7]
     have e0 : h.ims.length = 0 := by rw [e]; rfl
     have : ∀ kt : VtK, vtouch Om (.bslice 6 3 zz6 [(0, .k (.v (.agg (R6 4 false 0 [])))), (1, .k (.v (.agg (R6 4 false 0 [])))), (2, .k (.v (.agg (R6 3 false 0 s))))] true) h 52 kt = kt (.v (.c (.sref (.im h.ims.length) 0 3 (some 3) 6))) (h.push (.cells (W3 (.p .nilslice) (.p .nilslice) s) 0)) ⟨[], [.im h.ims.length], true⟩ := fun _ => rfl
     rw [this, e0]
    have B53 : ∀ (k : TVal → Heap → Res1) (h : Heap), vop Om (.build zz6 [(0, 1, .k (kI 5)), (4, 1, .k (kSl 1 true (ksW.map sRow))), (5, 1, .k (.v (.c (.sref (.im 0) 0 3 (some 3) 6))))]) h 53 k = k (.v (.agg V6)) h := fun _ _ => rfl
    have AL : ∀ (k : TVal → Heap → Res1) (h : Heap) (cs : List Cell) (d : Nat), vop Om (.alloc cs false) h d k = k (.v (.c (.ptr (.own d (h.gen d + 1)) 0))) (h.own d (h.gen d + 1) (.cells cs 0)) := fun _ _ _ _ => rfl
    have P4 : put1 [.p (.int .i64 0), .p (.str []), .p .nilslice, .p .nilslice] 0 [.p (.int .i64 6), .p (.str []), .p .nilslice, .p (.slice 4 true [[.int .i64 2, .str [], .nilslice, .nilslice]])] = [.p (.int .i64 6), .p (.str []), .p .nilslice, .p (.slice 4 true [[.int .i64 2, .str [], .nilslice, .nilslice]])] := rfl
    have PT : put1 [.p (.int .i64 0), .p (.str []), .p .nilslice, .p .nilslice] 0 (pcells tW.row) = pcells tW.row := rfl
    have PV : put1 zz6 0 V6 = V6 := rfl
    have lT : (pcells tW.row).length = 4 := rfl
    have lV : V6.length = 6 := rfl
    have OI : ∀ (h : Heap) (d g : Nat) (o : AObj), (h.own d g o).ims = h.ims := fun _ _ _ _ => rfl
    have HI0 : (Go.AI.h0).ims = [] := rfl
    have key : ∀ h, WH [] [] (.p .nilslice) (.p .nilslice) s h → jumpZ c5 Om Z5 0 1 [isP sn, bsP sb, kI gone, oP 10, oP 11, kI 0] h = some (kB true, []) := fun h H => by
     rw [jw_1]
     exact qHs sn (by omega) hg gone sb (by omega) s (by omega) 0 [] (.p .nilslice) (.p .nilslice) h rfl (Nat.zero_le _) H
    generalize hVV : V6 = VV at *
    generalize hTT : pcells tW.row = TT at *
    simp (maxSteps := 9999999) +contextual only [exa, ne_eq, not_false_eq_true, reduceAdd, reduceMul, reduceLT, reduceLeDiff, reduceEqDiff, Int.reduceLT, Int.reduceLE, Int.reduceEq, Int.reduceToNat, U22, h30, VL, h150, hb30, ST, B33, B34, B35, B37, B38, B39, B41, B42, B43, B44, B45, BK, B47, B51, B52, B53, AL, P4, PT, PV, lT, lV, OI, HI0]
    refine key _ ⟨?_, ?_, rfl, ⟨(fun r hr => by cases hr), .inl ⟨rfl, rfl⟩⟩, ⟨(fun r hr => by cases hr), .inl ⟨rfl, rfl⟩⟩, fun j n j' n' e => by cases e⟩
    ·rw [← hTT]; rfl
    ·rw [← hVV]; rfl
end Go.Proofs.YtlkejchbcchecaaDoor.Ab
