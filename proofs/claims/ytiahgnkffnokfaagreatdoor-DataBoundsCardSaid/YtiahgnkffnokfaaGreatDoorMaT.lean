/- Rules, continued: rows that grow, in regions whose order is open. Own work; no condition but what each names. -/
import Derived.Test.YtiahgnkffnokfaaGreatDoorMaS
set_option linter.all false
set_option linter.unusedVariables false
set_option linter.unusedSimpArgs false
namespace Go.AI
section
variable {β : Type} {O : Oracle} {h : Heap} {d : Nat} {k : TVal → Heap → Option β} {kt : TVal → Heap → Touch → Option β}
theorem vop_touch (op : AOp) : vop O op h d k = vtouch O op h d fun v h _ => k v h := by
 show opK O op .nil h d k = bnd (plan2 op .nil) (fun p => bnd (p.exec O d h) fun x => k x.1 x.2.1)
 rw [opK_eq, plan2_eq]
 unfold slow
 cases plan .nil op with
 | none => rfl
 | some p =>
  show Option.bind ((p.exec O d h).map fun x => (x.1, x.2.1)) (fun x => k x.1 x.2) = bnd (p.exec O d h) _
  cases p.exec O d h <;> rfl
/-- A row that is appended to: nothing, a literal, or rows and the right to write behind them. -/
def GS (D : List Nat) (sz : Nat) (v : Cell) (rows : List (List PVal)) (h : Heap) : Prop :=
 (rows = [] ∧ v = .p .nilslice) ∨ v = .p (.slice sz true rows) ∨ (∃ e g, e ∈ D ∧ v = .tsl sz rows (.own e g) ∧ h.get (.own e g) = some (.cells [] 0))
/-- What a step touches lies in these slots. -/
def TouchIn (D : List Nat) (t : Touch) : Prop := (∀ s ∈ t.rd, ∃ e, e ∈ D ∧ s = .own e) ∧ (∀ s ∈ t.wr, ∃ e, e ∈ D ∧ s = .own e) ∧ t.wild = false
/-- A source whose rows are known. -/
def SrcR (sz : Nat) (b : PVal) (new : List (List PVal)) : Prop := (b = .nilslice ∧ new = []) ∨ ∃ t, b = .slice sz t new
theorem SrcR.cells {sz : Nat} {b : PVal} {new : List (List PVal)} (H : SrcR sz b new) : srcCells sz (.v (.c (.p b))) none = some (pcells new.flatten, new.length) := by
 rcases H with ⟨rfl, rfl⟩ | ⟨t, rfl⟩
 ·rfl
 ·unfold srcCells; simp
theorem gsApp {D : List Nat} {sz by' : Nat} {v : Cell} {rows new : List (List PVal)} {b : PVal} (H : SrcR sz b new) (G : GS D sz v rows h) (hD : d ∈ D) (hsz : ∀ r ∈ new, r.length = sz) (hb : (rows.length + new.length) * by' ≤ 1099511627776) (hd : d + 1 < 1048576) :
  ∃ v' h' t, GS D sz v' (rows ++ new) h' ∧ (∀ (β : Type) (O : Oracle) (kt : TVal → Heap → Touch → Option β), vtouch O (.append sz by' false (.k (.v (.c v))) (.k (.v (.c (.p b))))) h d kt = kt (.v (.c v')) h' t) ∧ TouchIn D t ∧
   (∀ e g o, e ∉ D → h.get (.own e g) = some o → h'.get (.own e g) = some o) ∧ (∀ i, h'.get (.im i) = h.get (.im i)) ∧ ((new ≠ [] ∨ ∃ r, v = .tsl sz rows r) → ∃ r, v' = .tsl sz (rows ++ new) r) := by
 have hc := H.cells
 have hs : srcRef (.v (.c (.p b))) = none := by rcases H with ⟨rfl, _⟩ | ⟨t, rfl⟩ <;> rfl
 have go1 : ∀ (op : AOp) (needs : List Ref) (pk : List AObj → Option Res) (x : TVal × Heap × Touch), plan .nil op = some (.go needs pk) → goOp needs pk d h = some x → ∀ (β : Type) (O : Oracle) (kt : TVal → Heap → Touch → Option β), vtouch O op h d kt = kt x.1 x.2.1 x.2.2 :=
  fun op needs pk x e1 e2 β O kt => vtouch_go op needs pk x.1 x.2.1 x.2.2 e1 e2
 by_cases hn : new = []
 ·subst hn
  have hr : rows ++ [] = rows := List.append_nil _
  have hsl : isSl (.v (.c v)) = true := by rcases G with ⟨_, rfl⟩ | rfl | ⟨e, g, _, rfl, _⟩ <;> rfl
  have hap : ∀ o, appendTo sz by' false (.v (.c v)) o (pcells ([] : List (List PVal)).flatten) 0 = some ⟨fun _ => .v (.c v), [], none, false⟩ := by
   intro o; unfold appendTo; rw [if_pos rfl, if_pos hsl]
  rcases G with ⟨g1, rfl⟩ | rfl | ⟨e, g, he, rfl, hh⟩
  ·refine ⟨_, h, ⟨[], [], false⟩, by rw [hr]; exact .inl ⟨g1, rfl⟩, go1 _ [] _ (_, h, ⟨[], [], false⟩) rfl ?_, ⟨fun s hs => (by cases hs), fun s hs => (by cases hs), rfl⟩, fun _ _ _ _ ho => ho, fun _ => rfl, fun x => by rcases x with x | ⟨r, x⟩; exact absurd rfl x; cases x⟩
   unfold goOp
   simp only [List.mapM_nil, Option.pure_def, hs, dstRef, splitNeeds, Option.bind_eq_bind, Option.bind_some, hc, List.length_nil, hap]
   rfl
  ·refine ⟨_, h, ⟨[], [], false⟩, by rw [hr]; exact .inr (.inl rfl), go1 _ [] _ (_, h, ⟨[], [], false⟩) rfl ?_, ⟨fun s hs => (by cases hs), fun s hs => (by cases hs), rfl⟩, fun _ _ _ _ ho => ho, fun _ => rfl, fun x => by rcases x with x | ⟨r, x⟩; exact absurd rfl x; cases x⟩
   unfold goOp
   simp only [List.mapM_nil, Option.pure_def, hs, dstRef, splitNeeds, Option.bind_eq_bind, Option.bind_some, hc, List.length_nil, hap]
   rfl
  ·refine ⟨_, h, ⟨[.own e], [], false⟩, by rw [hr]; exact .inr (.inr ⟨e, g, he, rfl, hh⟩), go1 _ [.own e g] (fun os => do let (oa, ob) ← splitNeeds (some (.own e g)) none os; let (new, n) ← srcCells sz (.v (.c (.p b))) ob; appendTo sz by' false (.v (.c (.tsl sz rows (.own e g)))) oa new n) (_, h, ⟨[.own e], [], false⟩) ?_ ?_, ⟨fun s hs => ⟨e, he, (by simpa using hs)⟩, fun s hs => (by cases hs), rfl⟩, fun _ _ _ _ ho => ho, fun _ => rfl, fun _ => ⟨_, by rw [hr]⟩⟩
   ·show some (Plan.go (zipNeeds (dstRef _) (srcRef (.v (.c (.p b))))) _) = _
    rw [hs]; rfl
   ·unfold goOp
    simp only [mapM1, hh, Option.map_some, hs, dstRef, splitNeeds, Option.bind_eq_bind, Option.bind_some, hc, List.length_nil, hap]
    rfl
 ·have hnl : new.length ≠ 0 := by simpa using hn
  have gr : ∀ ups, growRow sz by' rows (pcells new.flatten) new.length ups = some ⟨fun r => .v (.c (.tsl sz (rows ++ new) r)), ups, some (.cells [] 0), false⟩ := by
   intro ups
   unfold growRow
   rw [chunk_rows sz new hsz]
   dsimp only
   rw [if_pos (by omega)]
  rcases G with ⟨rfl, rfl⟩ | rfl | ⟨e, g, he, rfl, hh⟩
  ·have ea : appendTo sz by' false kNil none (pcells new.flatten) new.length = some ⟨fun r => .v (.c (.tsl sz ([] ++ new) r)), [], some (.cells [] 0), false⟩ := by
    unfold appendTo; rw [if_neg hnl]; exact gr []
   refine ⟨.tsl sz ([] ++ new) (.own d (h.gen d + 1)), h.own d (h.gen d + 1) (.cells [] 0), ⟨[], [.own d], false⟩, .inr (.inr ⟨d, _, hD, rfl, Heap.own_get h d _ _ hd (fun e => by cases e)⟩), go1 _ [] _ (_, _, _) rfl ?_, ⟨fun s hs => (by cases hs), fun s hs => ⟨d, hD, (by simpa using hs)⟩, rfl⟩, fun e g o he ho => (Heap.own_get_ne h d _ _ e g (fun x => he (x ▸ hD))).trans ho, fun i => rfl, fun _ => ⟨_, rfl⟩⟩
   unfold goOp
   simp only [List.mapM_nil, Option.pure_def, hs, dstRef, splitNeeds, Option.bind_eq_bind, Option.bind_some, hc, ea]
   rfl
  ·have ea : appendTo sz by' false (.v (.c (.p (.slice sz true rows)))) none (pcells new.flatten) new.length = some ⟨fun r => .v (.c (.tsl sz (rows ++ new) r)), [], some (.cells [] 0), false⟩ := by
    unfold appendTo; rw [if_neg hnl]
    show (if sz = sz then (if false then _ else growRow sz by' rows (pcells new.flatten) new.length []) else none) = _
    rw [if_pos rfl]
    exact gr []
   refine ⟨.tsl sz (rows ++ new) (.own d (h.gen d + 1)), h.own d (h.gen d + 1) (.cells [] 0), ⟨[], [.own d], false⟩, .inr (.inr ⟨d, _, hD, rfl, Heap.own_get h d _ _ hd (fun e => by cases e)⟩), go1 _ [] _ (_, _, _) rfl ?_, ⟨fun s hs => (by cases hs), fun s hs => ⟨d, hD, (by simpa using hs)⟩, rfl⟩, fun e g o he ho => (Heap.own_get_ne h d _ _ e g (fun x => he (x ▸ hD))).trans ho, fun i => rfl, fun _ => ⟨_, rfl⟩⟩
   unfold goOp
   simp only [List.mapM_nil, Option.pure_def, hs, dstRef, splitNeeds, Option.bind_eq_bind, Option.bind_some, hc, ea]
   rfl
  ·have ea : appendTo sz by' false (.v (.c (.tsl sz rows (.own e g)))) (some (.cells [] 0)) (pcells new.flatten) new.length = some ⟨fun r => .v (.c (.tsl sz (rows ++ new) r)), [(.own e g, .dead)], some (.cells [] 0), false⟩ := by
    unfold appendTo; rw [if_neg hnl]
    show (if sz = sz then growRow sz by' rows (pcells new.flatten) new.length [(.own e g, .dead)] else none) = _
    rw [if_pos rfl]
    exact gr _
   have hgen : (h.put (.own e g) .dead).gen d + 1 = (h.put (.own e g) .dead).gen d + 1 := rfl
   refine ⟨.tsl sz (rows ++ new) (.own d (h.gen d + 1)), (h.put (.own e g) .dead).own d (h.gen d + 1) (.cells [] 0), ⟨[.own e], .own d :: [.own e], false⟩, .inr (.inr ⟨d, _, hD, rfl, Heap.own_get _ d _ _ hd (fun e => by cases e)⟩), go1 _ [.own e g] (fun os => do let (oa, ob) ← splitNeeds (some (.own e g)) none os; let (new, n) ← srcCells sz (.v (.c (.p b))) ob; appendTo sz by' false (.v (.c (.tsl sz rows (.own e g)))) oa new n) (_, _, _) ?_ ?_, ⟨fun s hs => ⟨e, he, (by simpa using hs)⟩, fun s hs => ?_, rfl⟩, fun e' g' o he' ho => ?_, fun i => rfl, fun _ => ⟨_, rfl⟩⟩
   ·show some (Plan.go (zipNeeds (dstRef _) (srcRef (.v (.c (.p b))))) _) = _
    rw [hs]; rfl
   ·unfold goOp
    simp only [mapM1, hh, Option.map_some, hs, dstRef, splitNeeds, Option.bind_eq_bind, Option.bind_some, hc, ea]
    simp
    rfl
   ·simp only [List.mem_cons, List.not_mem_nil, or_false] at hs
    rcases hs with rfl | rfl
    ·exact ⟨d, hD, rfl⟩
    ·exact ⟨e, he, rfl⟩
   ·refine (Heap.own_get_ne _ d _ _ e' g' (fun x => he' (x ▸ hD))).trans ?_
    exact (Heap.own_get_ne h e g _ e' g' (fun x => he' (x ▸ he))).trans ho
theorem GS.pt {D : List Nat} {sz : Nat} {v : Cell} {rows : List (List PVal)} {h : Heap} (G : GS D sz v rows h) : isPT v = true := by
 rcases G with ⟨_, rfl⟩ | rfl | ⟨e, g, _, rfl, _⟩ <;> rfl
theorem GS.keep {D : List Nat} {sz : Nat} {v : Cell} {rows : List (List PVal)} {h h' : Heap} (G : GS D sz v rows h) (hk : ∀ e ∈ D, ∀ g, h.get (.own e g) = some (.cells [] 0) → h'.get (.own e g) = some (.cells [] 0)) : GS D sz v rows h' := by
 rcases G with g | g | ⟨e, g, m, b, c⟩
 ·exact .inl g
 ·exact .inr (.inl g)
 ·exact .inr (.inr ⟨e, g, m, b, hk _ m _ c⟩)
theorem GS.own {D : List Nat} {sz : Nat} {v : Cell} {rows : List (List PVal)} {h : Heap} (G : GS D sz v rows h) {d : Nat} (g : Nat) (o : AObj) (hd : d ∉ D) : GS D sz v rows (h.own d g o) :=
 G.keep fun e he g' hh => (Heap.own_get_ne h d g o e g' (fun x => hd (x ▸ he))).trans hh
/-! ### touches apart -/
theorem apart_look_r {D : List Nat} {t : Touch} (T : TouchIn D t) (e : Nat) (he : e ∉ D) : Touch.apart t ⟨[.own e], [], false⟩ = true := by
 have h1 : disj t.wr [Site.own e] = true := by
  unfold disj
  rw [List.all_eq_true]
  intro s hs
  obtain ⟨e', h', rfl⟩ := T.2.1 s hs
  have : e' ≠ e := fun x => he (x ▸ h')
  simp [this]
 unfold Touch.apart
 rw [h1, T.2.2]
 simp [disj]
theorem apart_look_l {D : List Nat} {t : Touch} (T : TouchIn D t) (e : Nat) (he : e ∉ D) : Touch.apart ⟨[.own e], [], false⟩ t = true := by
 have h1 : disj t.wr [Site.own e] = true := by
  unfold disj
  rw [List.all_eq_true]
  intro s hs
  obtain ⟨e', h', rfl⟩ := T.2.1 s hs
  have : e' ≠ e := fun x => he (x ▸ h')
  simp [this]
 unfold Touch.apart
 rw [h1]
 simp [disj]
theorem apart_two {D E : List Nat} {t u : Touch} (T : TouchIn D t) (U : TouchIn E u) (hDE : ∀ e ∈ D, e ∉ E) : Touch.apart t u = true := by
 have h1 : ∀ (a b : List Site), (∀ s ∈ a, ∃ e, e ∈ D ∧ s = .own e) → (∀ s ∈ b, ∃ e, e ∈ E ∧ s = .own e) → disj a b = true := by
  intro a b ha hb
  unfold disj
  rw [List.all_eq_true]
  intro s hs
  obtain ⟨e, he, rfl⟩ := ha s hs
  rw [Bool.not_eq_true']
  refine Bool.eq_false_iff.2 fun hc => ?_
  have hc' : Site.own e ∈ b := by simpa using hc
  obtain ⟨e', he', h⟩ := hb _ hc'
  cases h
  exact hDE e he he'
 have h2 : ∀ (a b : List Site), (∀ s ∈ a, ∃ e, e ∈ D ∧ s = .own e) → (∀ s ∈ b, ∃ e, e ∈ E ∧ s = .own e) → disj b a = true := by
  intro a b ha hb
  unfold disj
  rw [List.all_eq_true]
  intro s hs
  obtain ⟨e, he, rfl⟩ := hb s hs
  rw [Bool.not_eq_true']
  refine Bool.eq_false_iff.2 fun hc => ?_
  have hc' : Site.own e ∈ a := by simpa using hc
  obtain ⟨e', he', h⟩ := ha _ hc'
  cases h
  exact hDE e he' he
 unfold Touch.apart
 rw [h1 _ _ T.2.1 U.2.1, h1 _ _ T.2.1 U.1, h2 _ _ T.1 U.2.1, T.2.2]
 rfl
/-! ### more steps of opened regions -/
theorem t_alloc (z : List Cell) : vtouch O (.alloc z false) h d kt = kt (.v (.c (.ptr (.own d (h.gen d + 1)) 0))) (h.own d (h.gen d + 1) (.cells z 0)) ⟨[], [.own d], false⟩ := vtouch_alloc z
theorem t_bslice0 (sz : Nat) (z : List Cell) : vtouch O (.bslice sz 0 z [] false) h d kt = kt (kSl sz true []) h noTouch := t_plan _ _ rfl
theorem t_bslice1 (z : List Cell) (x : PVal) (hz : z.length = 1) : vtouch O (.bslice 1 1 z [(0, .k (.v (.c (.p x))))] false) h d kt = kt (kSl 1 true [[x]]) h noTouch := by
 match z, hz with
 | [z0], _ => exact t_plan _ _ rfl
theorem bslice1_plan (sz : Nat) (z : List Cell) (r : List PVal) (hz : z.length = sz) (hr : r.length = sz) : plan .nil (.bslice sz 1 z [(0, .k (.v (.agg (pcells r))))] false) = some (.pure (kSl sz true [r])) := by
 subst hz
 have e1 : fillA (rep 1 z) [(0 * z.length, z.length, Comp.agg (pcells r))] = some (pcells r) := by
  have l1 : (Comp.agg (pcells r)).cells.length = z.length := by show (pcells r).length = _; unfold pcells; rw [List.length_map, hr]
  have l2 : (rep 1 z).length = z.length := by simp [rep]
  simp only [fillA, l1, l2, Nat.zero_mul, Nat.zero_add, Nat.le_refl, and_self, if_true]
  show some (splice (rep 1 z) 0 (pcells r)) = _
  have l3 : (pcells r).length = z.length := l1
  simp [splice, l2, l3, rep]
 have e2 : chunk z.length 1 (pcells r) = some [r] := by
  show (do let row ← unps ((pcells r).take z.length); if row.length = z.length then pure (row :: (← chunk z.length 0 ((pcells r).drop z.length))) else none) = _
  have : (pcells r).take z.length = pcells r := List.take_of_length_le (by simp [pcells, hr])
  rw [this, unps_p]
  simp [hr, chunk]
 simp only [plan, List.mapM_cons, List.mapM_nil, X.ev, Option.pure_def, Option.bind_eq_bind, Option.bind_some, e1, e2, Bool.false_eq_true, if_false]
theorem t_bslice1A (sz : Nat) (z : List Cell) (r : List PVal) (hz : z.length = sz) (hr : r.length = sz) : vtouch O (.bslice sz 1 z [(0, .k (.v (.agg (pcells r))))] false) h d kt = kt (kSl sz true [r]) h noTouch := t_plan _ _ (bslice1_plan sz z r hz hr)
theorem t_store (n off : Nat) (r : Ref) (x : Comp) : vtouch O (.store n (.k (.v (.c (.ptr r off)))) (.k (.v x))) h d kt = objK (h.get r) fun cs imm => chk (decide (imm ≤ off) && (decide (x.cells.length = n) && decide (off + n ≤ cs.length))) (kt .undef (h.put r (.cells (put1 cs off x.cells) imm)) ⟨[r.site], [r.site], false⟩) := by
 rw [vt_go1 _ r _ rfl]
 cases hg : h.get r with
 | none => rfl
 | some o =>
  show (goOp [r] _ d h).bind _ = _
  unfold goOp
  rw [mapM1, hg]
  cases o with
  | cells cs imm =>
   by_cases hc : imm ≤ off ∧ x.cells.length = n ∧ off + n ≤ cs.length
   ·simp only [Option.map_some, objK, if_pos hc, decide_eq_true hc.1, decide_eq_true hc.2.1, decide_eq_true hc.2.2, Bool.and_self, chk, cond_true]
    simp [put1]
   ·have hb : (decide (imm ≤ off) && (decide (x.cells.length = n) && decide (off + n ≤ cs.length))) = false := by
     refine Bool.eq_false_iff.2 fun e => hc ?_
     simp only [Bool.and_eq_true, decide_eq_true_eq] at e
     exact e
    simp only [Option.map_some, objK, if_neg hc, Option.map_none, hb, chk, cond_false]
    rfl
  | _ => rfl
end
end Go.AI
