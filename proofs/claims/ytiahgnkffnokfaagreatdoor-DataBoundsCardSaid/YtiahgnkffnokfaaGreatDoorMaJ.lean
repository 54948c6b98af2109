/- Blocks behind the others: made, read, killed; rows appended to there. Own work; no condition but what each names. -/
import Derived.Test.YtiahgnkffnokfaaGreatDoorAd
set_option linter.all false
set_option linter.unusedVariables false
set_option linter.unusedSimpArgs false
namespace Go.AI
section
variable {β : Type} {O : Oracle} {h : Heap} {d : Nat} {k : TVal → Heap → Option β}
def Heap.push (h : Heap) (o : AObj) : Heap := { h with ims := h.ims ++ [o] }
theorem Heap.push_len (h : Heap) (o : AObj) : (h.push o).ims.length = h.ims.length + 1 := by simp [Heap.push]
theorem Heap.get_push_lt (h : Heap) (o : AObj) {j : Nat} (hj : j < h.ims.length) : (h.push o).get (.im j) = h.get (.im j) := by
 show (match (h.ims ++ [o])[j]? with | some .dead => none | o => o) = (match h.ims[j]? with | some .dead => none | o => o)
 rw [List.getElem?_append_left hj]
theorem Heap.get_push_eq (h : Heap) {o : AObj} (ho : o ≠ .dead) : (h.push o).get (.im h.ims.length) = some o := by
 show (match (h.ims ++ [o])[h.ims.length]? with | some .dead => none | o => o) = some o
 rw [List.getElem?_append_right (Nat.le_refl _), Nat.sub_self]
 show (match some o with | some .dead => none | o => o) = some o
 split
 ·rename_i e; cases e; exact absurd rfl ho
 ·rfl
theorem Heap.put_len (h : Heap) (i : Nat) (o : AObj) : (h.put (.im i) o).ims.length = h.ims.length := by show (h.ims.set i o).length = _; simp
theorem Heap.get_put_ne (h : Heap) {i j : Nat} (o : AObj) (hij : i ≠ j) : (h.put (.im i) o).get (.im j) = h.get (.im j) := by
 show (match (h.ims.set i o)[j]? with | some .dead => none | o => o) = (match h.ims[j]? with | some .dead => none | o => o)
 rw [List.getElem?_set_ne hij]
theorem Heap.get_lt {h : Heap} {i : Nat} {o : AObj} (hh : h.get (.im i) = some o) : i < h.ims.length := by
 rcases Nat.lt_or_ge i h.ims.length with q | q
 ·exact q
 ·have : h.ims[i]? = none := by simp; exact q
  have e : (match h.ims[i]? with | some .dead => none | o => o) = some o := hh
  rw [this] at e; cases e
theorem Heap.get_put_eq (h : Heap) {i : Nat} {o : AObj} (hi : i < h.ims.length) (ho : o ≠ .dead) : (h.put (.im i) o).get (.im i) = some o := by
 show (match (h.ims.set i o)[i]? with | some .dead => none | o => o) = some o
 rw [List.getElem?_set_self hi]
 split
 ·rename_i e; cases e; exact absurd rfl ho
 ·rfl
theorem vpush (op : AOp) (o : AObj) (mk : Ref → TVal) (hb : plan .nil op = some (.mk1 o true mk)) : vop O op h d k = k (mk (.im h.ims.length)) (h.push o) := by
 show opK O op .nil h d k = _
 rw [opK_eq]
 have : slow O op .nil h d = some (mk (.im h.ims.length), h.push o) := by
  unfold slow
  rw [hb]; rfl
 rw [this]; rfl
/-- A slice whose cells are a block of the heap behind others, from 'b' on. -/
def HG (b sz : Nat) (v : Cell) (rows : List (List PVal)) (h : Heap) : Prop :=
 b ≤ h.ims.length ∧ ((rows = [] ∧ v = .p .nilslice) ∨ (rows ≠ [] ∧ ∃ n, b ≤ n ∧ v = .sref (.im n) 0 rows.length none sz ∧ h.get (.im n) = some (.cells (pcells rows.flatten) 0)))
theorem HG.nil (b sz : Nat) (h : Heap) (hb : b ≤ h.ims.length) : HG b sz (.p .nilslice) [] h := ⟨hb, .inl ⟨rfl, rfl⟩⟩
theorem vlen_hg {b sz : Nat} {v : Cell} {rows : List (List PVal)} (G : HG b sz v rows h) : vlen O 2 (.v (.c v)) h d k = k (kI (rows.length : Int)) h := by
 rcases G with ⟨_, ⟨rfl, rfl⟩ | ⟨_, n, _, rfl, _⟩⟩ <;> rfl
theorem flat_len {sz : Nat} : ∀ {rows : List (List PVal)}, (∀ r ∈ rows, r.length = sz) → (pcells rows.flatten).length = rows.length * sz := by
 intro rows
 unfold pcells
 rw [List.length_map]
 induction rows with
 | nil => intro _; simp
 | cons a r ih => intro hr; rw [List.flatten_cons, List.length_append, ih (fun x hx => hr x (by simp [hx])), hr a (by simp), List.length_cons, Nat.succ_mul, Nat.add_comm]
/-- A row more: a literal of one row, appended. -/
theorem vappend_one {b sz by' d1 : Nat} {v : Cell} {rows : List (List PVal)} {row : List PVal} {op : AOp} (G : HG b sz v rows h) (hz : 0 < sz) (hr : ∀ r ∈ rows, r.length = sz) (hrow : row.length = sz) (hb : (rows.length + 1) * by' ≤ 1099511627776)
  (hop : plan .nil op = some (.mk1 (.cells (pcells row) 0) true fun r => .v (.c (.sref r 0 1 (some 1) sz)))) :
  ∃ v' h', HG b sz v' (rows ++ [row]) h' ∧ (∀ (β : Type) (O : Oracle) (d : Nat) (k : TVal → Heap → Option β), (vop O op h d1 fun x h => vop O (.append sz by' true (.k (.v (.c v))) (.k x)) h d k) = k (.v (.c v')) h') ∧
   (∀ j o, j < b → h.get (.im j) = some o → h'.get (.im j) = some o) := by
 obtain ⟨hbl, G⟩ := G
 have step : ∀ (v' : Cell) (h' : Heap), (∀ (O : Oracle) (d : Nat), (plan .nil (.append sz by' true (.k (.v (.c v))) (.k (.v (.c (.sref (.im h.ims.length) 0 1 (some 1) sz)))))).bind (fun p => (p.exec O d (h.push (.cells (pcells row) 0))).map fun x => (x.1, x.2.1)) = some (.v (.c v'), h')) →
   ∀ (β : Type) (O : Oracle) (d : Nat) (k : TVal → Heap → Option β), (vop O op h d1 fun x h => vop O (.append sz by' true (.k (.v (.c v))) (.k x)) h d k) = k (.v (.c v')) h' := by
  intro v' h' hx β O d k
  rw [vpush op _ _ hop]
  show opK O _ .nil _ d k = _
  rw [opK_eq]
  show (Option.bind (Option.bind _ _) _) = _
  rw [hx]; rfl
 have hsrc : (h.push (.cells (pcells row) 0)).get (.im h.ims.length) = some (.cells (pcells row) 0) := Heap.get_push_eq h (fun e => by cases e)
 have hpl : (pcells row).length = sz := by simp [pcells, hrow]
 have esrc : srcCells sz (.v (.c (.sref (.im h.ims.length) 0 1 (some 1) sz))) (some (.cells (pcells row) 0)) = some (pcells row, 1) := by
  unfold srcCells
  dsimp only
  rw [if_pos ⟨rfl, by omega⟩]
  simp [← hpl]
 rcases G with ⟨rfl, rfl⟩ | ⟨hne, n, hbn, rfl, hh⟩
 ·refine ⟨.sref (.im (h.ims.length + 1)) 0 1 none sz, (h.push (.cells (pcells row) 0)).push (.cells (pcells row) 0), ⟨by rw [Heap.push_len, Heap.push_len]; omega, .inr ⟨by simp, h.ims.length + 1, by omega, rfl, ?_⟩⟩, step _ _ fun O d => ?_, fun j o hj hjo => ?_⟩
  ·have := Heap.get_push_eq (h.push (.cells (pcells row) 0)) (o := .cells (pcells row) 0) (fun e => by cases e)
   rw [Heap.push_len] at this
   simpa using this
  ·have ea : appendTo sz by' true kNil none (pcells row) 1 = some ⟨fun r => .v (.c (.sref r 0 1 none sz)), [], some (.cells (pcells row) 0), true⟩ := by
    unfold appendTo
    rw [if_neg (by decide)]
    show freshRow _ _ _ _ _ _ = _
    unfold freshRow
    rw [if_pos (by simpa using hb)]
   show ((Plan.go [.im h.ims.length] _).exec O d _).map _ = _
   simp only [Plan.exec, goOp, mapM1, hsrc, Option.map_some, zipNeeds, splitNeeds, dstRef, srcRef]
   simp only [esrc, Option.bind_eq_bind, Option.bind_some, ea]
   simp only [List.all_nil, Bool.not_true, cond_false, List.foldl_nil, cond_true, Option.map_some, Heap.push_len]
   rfl
  ·have hjl := Heap.get_lt hjo
   rw [Heap.get_push_lt _ _ (by rw [Heap.push_len]; omega), Heap.get_push_lt _ _ hjl, hjo]
 ·have hnl := Heap.get_lt hh
  have hh' : (h.push (.cells (pcells row) 0)).get (.im n) = some (.cells (pcells rows.flatten) 0) := by rw [Heap.get_push_lt _ _ hnl, hh]
  have hlen := flat_len hr
  refine ⟨.sref (.im (h.ims.length + 1)) 0 (rows ++ [row]).length none sz, ((h.push (.cells (pcells row) 0)).put (.im n) .dead).push (.cells (pcells (rows ++ [row]).flatten) 0), ⟨by rw [Heap.push_len, Heap.put_len, Heap.push_len]; omega, .inr ⟨by simp, h.ims.length + 1, by omega, rfl, ?_⟩⟩, step _ _ fun O d => ?_, fun j o hj hjo => ?_⟩
  ·have := Heap.get_push_eq ((h.push (.cells (pcells row) 0)).put (.im n) .dead) (o := .cells (pcells (rows ++ [row]).flatten) 0) (fun e => by cases e)
   rw [Heap.put_len, Heap.push_len] at this
   exact this
  ·have ea : appendTo sz by' true (.v (.c (.sref (.im n) 0 rows.length none sz))) (some (.cells (pcells rows.flatten) 0)) (pcells row) 1 = some ⟨fun r => .v (.c (.sref r 0 (rows.length + 1) none sz)), [(.im n, .dead)], some (.cells (pcells (rows ++ [row]).flatten) 0), true⟩ := by
    unfold appendTo
    rw [if_neg (by decide)]
    dsimp only
    rw [if_pos ⟨rfl, by omega, by omega⟩, if_pos (by omega)]
    have : (List.drop 0 (pcells rows.flatten)).take (rows.length * sz) = pcells rows.flatten := by rw [List.drop_zero, ← hlen, List.take_length]
    rw [this]
    simp [pcells]
   show ((Plan.go [.im n, .im h.ims.length] _).exec O d _).map _ = _
   have m2 : [Ref.im n, Ref.im h.ims.length].mapM (h.push (.cells (pcells row) 0)).get = some [.cells (pcells rows.flatten) 0, .cells (pcells row) 0] := by
    simp [hh', hsrc]
   simp only [Plan.exec, goOp, m2, zipNeeds, splitNeeds, dstRef, srcRef]
   simp only [esrc, Option.bind_eq_bind, Option.bind_some, ea]
   simp [Heap.put_len, Heap.push_len]
   rfl
  ·have hjl := Heap.get_lt hjo
   rw [Heap.get_push_lt _ _ (by rw [Heap.put_len, Heap.push_len]; omega), Heap.get_put_ne _ _ (by omega), Heap.get_push_lt _ _ hjl, hjo]
end
end Go.AI
