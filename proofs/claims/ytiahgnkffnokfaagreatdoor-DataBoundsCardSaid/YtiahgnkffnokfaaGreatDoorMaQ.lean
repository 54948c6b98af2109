/- Rules, continued: rows that grow, handed to calls and handed back. Own work; no condition but what each names. -/
import Derived.Test.YtiahgnkffnokfaaGreatDoorMaP
set_option linter.all false
set_option linter.unusedVariables false
set_option linter.unusedSimpArgs false
namespace Go.AI
section
variable {β : Type} {O : Oracle} {h : Heap} {d : Nat} {k : TVal → Heap → Option β}
theorem strip_strip (v : TVal) : v.strip.strip = v.strip := by
 have hc : ∀ c : Cell, c.strip.strip = c.strip := fun c => by cases c <;> rfl
 have hx : ∀ x : Comp, x.strip.strip = x.strip := fun x => by
  cases x with
  | c c => show Comp.c c.strip.strip = _; rw [hc]; rfl
  | agg cs => show Comp.agg ((cs.map Cell.strip).map Cell.strip) = _; rw [List.map_map]; congr 1; exact List.map_congr_left fun c _ => hc c
 cases v with
 | v x => show TVal.v x.strip.strip = _; rw [hx]; rfl
 | tup vs => show TVal.tup ((vs.map Comp.strip).map Comp.strip) = _; rw [List.map_map]; congr 1; exact List.map_congr_left fun c _ => hx c
/-- What a call is handed grows no more. -/
theorem vcall_strip (g : FuncId) (as : List TVal) : vcall O (.v (.c (.func g []))) as h d k = vcall O (.v (.c (.func g []))) (as.map TVal.strip) h d k := by
 show callF O g as d h k = callF O g (as.map TVal.strip) d h k
 rw [callF_eq, callF_eq]
 have : callOp O g as d h = callOp O g (as.map TVal.strip) d h := by
  unfold callOp
  have : (as.map TVal.strip).map TVal.strip = as.map TVal.strip := by
   rw [List.map_map]; exact List.map_congr_left fun c _ => strip_strip c
  simp only [this]
 rw [this]
theorem x_strip1 (g : FuncId) (sz : Nat) (rows : List (List PVal)) (r : Ref) (as : List TVal) : vcall O (.v (.c (.func g []))) (.v (.c (.tsl sz rows r)) :: as) h d k = vcall O (.v (.c (.func g []))) (kSl sz false rows :: as) h d k := by
 rw [vcall_strip g (_ :: as), vcall_strip g (kSl sz false rows :: as)]; rfl
theorem x_strip2 (g : FuncId) (sz : Nat) (rows : List (List PVal)) (r : Ref) (a : TVal) (as : List TVal) : vcall O (.v (.c (.func g []))) (a :: .v (.c (.tsl sz rows r)) :: as) h d k = vcall O (.v (.c (.func g []))) (a :: kSl sz false rows :: as) h d k := by
 rw [vcall_strip g (a :: .v (.c (.tsl sz rows r)) :: as), vcall_strip g (a :: kSl sz false rows :: as)]; rfl
theorem x_strip3 (g : FuncId) (sz : Nat) (rows : List (List PVal)) (r : Ref) (a b : TVal) (as : List TVal) : vcall O (.v (.c (.func g []))) (a :: b :: .v (.c (.tsl sz rows r)) :: as) h d k = vcall O (.v (.c (.func g []))) (a :: b :: kSl sz false rows :: as) h d k := by
 rw [vcall_strip g (a :: b :: .v (.c (.tsl sz rows r)) :: as), vcall_strip g (a :: b :: kSl sz false rows :: as)]; rfl
/-- Values, and rows that grow. -/
def isPT : Cell → Bool
 | .p _ | .tsl .. => true
 | _ => false
def compPT : Comp → Bool
 | .c c => isPT c
 | .agg cs => cs.all isPT
theorem freeze_pt (hp : Heap) (n : Nat) (c : Cell) (hc : isPT c = true) : ∃ x, c.strip = .p x ∧ freeze hp (n + 1) c = some (x, []) := by
 cases c with
 | p v => exact ⟨v, rfl, rfl⟩
 | tsl sz rows r => exact ⟨_, rfl, rfl⟩
 | _ => cases hc
theorem freeze_pts (hp : Heap) (n : Nat) : ∀ cs : List Cell, cs.all isPT = true → ∃ xs : List PVal, cs.map Cell.strip = pcells xs ∧ cs.mapM (freeze hp (n + 1)) = some (xs.map fun x => (x, [])) := by
 intro cs
 induction cs with
 | nil => intro _; exact ⟨[], rfl, rfl⟩
 | cons c cs ih =>
  intro hc
  rw [List.all_cons, Bool.and_eq_true] at hc
  obtain ⟨x, e1, e2⟩ := freeze_pt hp n c hc.1
  obtain ⟨xs, e3, e4⟩ := ih hc.2
  refine ⟨x :: xs, ?_, ?_⟩
  ·rw [List.map_cons, e1, e3]; rfl
  ·rw [List.mapM_cons, e2, e4]; rfl
theorem freezeC_pt (hp : Heap) (x : Comp) (hx : compPT x = true) : freezeC hp x = some (x.strip, []) ∧ pComp x.strip = true := by
 cases x with
 | c c =>
  obtain ⟨v, e1, e2⟩ := freeze_pt hp 29 c hx
  constructor
  ·show (freeze hp 30 c).map _ = _
   rw [e2]; show _ = some (Comp.c c.strip, []); rw [e1]; rfl
  ·show isP c.strip = true; rw [e1]; rfl
 | agg cs =>
  obtain ⟨xs, e1, e2⟩ := freeze_pts hp 29 cs hx
  constructor
  ·show (cs.mapM (freeze hp 30)).map _ = _
   rw [e2]; show _ = some (Comp.agg (cs.map Cell.strip), []); rw [e1]
   show some (Comp.agg ((xs.map fun x => (x, ([] : List Ref))).map fun y => .p y.1), (xs.map fun x => (x, ([] : List Ref))).flatMap (·.2)) = _
   congr 2
   ·rw [List.map_map]; rfl
   ·clear e1 e2
    induction xs with
    | nil => rfl
    | cons a l ih => rw [List.map_cons, List.flatMap_cons, ih]; rfl
  ·show allB isP (cs.map Cell.strip) = true; rw [e1]; exact allB_p xs
theorem freezeCs_pt (hp : Heap) : ∀ vs : List Comp, vs.all compPT = true → vs.mapM (freezeC hp) = some (vs.map fun x => (x.strip, [])) ∧ allB pComp (vs.map Comp.strip) = true := by
 intro vs
 induction vs with
 | nil => intro _; exact ⟨rfl, rfl⟩
 | cons x vs ih =>
  intro hv
  rw [List.all_cons, Bool.and_eq_true] at hv
  obtain ⟨e1, e2⟩ := freezeC_pt hp x hv.1
  obtain ⟨e3, e4⟩ := ih hv.2
  constructor
  ·rw [List.mapM_cons, e1, e3]; rfl
  ·rw [List.map_cons, allB_cons0, e2, e4]; rfl
theorem x_finG (vs : List Comp) (hv : vs.all compPT = true) : vfin true 0 vs h = some (oneOf (vs.map Comp.strip), []) := by
 letI : Sym := ⟨fun _ => 0⟩
 rw [vfin_eq]
 obtain ⟨e1, e2⟩ := freezeCs_pt h vs hv
 have ef : freezeT h (oneOf vs) = some (oneOf (vs.map Comp.strip), []) := by
  match vs, hv, e1, e2 with
  | [], _, _, _ => rfl
  | [x], hv, _, _ =>
   rw [List.all_cons, Bool.and_eq_true] at hv
   show (freezeC h x).map _ = _
   rw [(freezeC_pt h x hv.1).1]; rfl
  | x :: y :: vs, _, e1, _ =>
   show ((x :: y :: vs).mapM (freezeC h)).map _ = _
   rw [e1]
   show some (TVal.tup (((x :: y :: vs).map fun x => (x.strip, ([] : List Ref))).map (·.1)), ((x :: y :: vs).map fun x => (x.strip, ([] : List Ref))).flatMap (·.2)) = _
   congr 2
   ·rw [List.map_map]; rfl
   ·generalize (x :: y :: vs) = l
    induction l with
    | nil => rfl
    | cons a l ih => rw [List.map_cons, List.flatMap_cons, ih]; rfl
 obtain ⟨q1, q2, q3, q4⟩ := pT_props (oneOf_p e2)
 unfold finV
 rw [show ims 0 = ([] : List Ref) from rfl]
 simp [ef, settle, q1, q3, reach, fuelReach]
/-- A row of names, of numbers, of structs that grows: a cell that bears it. -/
def Bears (sz : Nat) (v : Cell) (rows : List (List PVal)) : Prop := (rows = [] ∧ v = .p .nilslice) ∨ (rows ≠ [] ∧ ∃ r, v = .tsl sz rows r)
theorem Grow.bears {D : List Nat} {sz : Nat} {v : Cell} {rows : List (List PVal)} {h : Heap} (G : Grow D sz v rows h) : Bears sz v rows := by
 rcases G with ⟨a, b⟩ | ⟨a, e, g, _, b, _⟩
 ·exact .inl ⟨a, b⟩
 ·exact .inr ⟨a, _, b⟩
theorem Bears.strip {sz : Nat} {v : Cell} {rows : List (List PVal)} (G : Bears sz v rows) : v.strip = .p (growP sz rows) := by
 rcases G with ⟨rfl, rfl⟩ | ⟨hne, r, rfl⟩
 ·rfl
 ·cases rows with
  | nil => exact absurd rfl hne
  | cons _ _ => rfl
theorem Bears.pt {sz : Nat} {v : Cell} {rows : List (List PVal)} (G : Bears sz v rows) : isPT v = true := by
 rcases G with ⟨rfl, rfl⟩ | ⟨hne, r, rfl⟩ <;> rfl
theorem Bears.call1 {sz : Nat} {v : Cell} {rows : List (List PVal)} (G : Bears sz v rows) (g : FuncId) (as : List TVal) : vcall O (.v (.c (.func g []))) (.v (.c v) :: as) h d k = vcall O (.v (.c (.func g []))) (.v (.c (.p (growP sz rows))) :: as) h d k := by
 rw [vcall_strip g (_ :: as), vcall_strip g (.v (.c (.p (growP sz rows))) :: as)]
 show vcall O _ (.v (.c v.strip) :: _) h d k = _
 rw [G.strip]; rfl
theorem Bears.call2 {sz : Nat} {v : Cell} {rows : List (List PVal)} (G : Bears sz v rows) (g : FuncId) (a : TVal) (as : List TVal) : vcall O (.v (.c (.func g []))) (a :: .v (.c v) :: as) h d k = vcall O (.v (.c (.func g []))) (a :: .v (.c (.p (growP sz rows))) :: as) h d k := by
 rw [vcall_strip g (a :: .v (.c v) :: as), vcall_strip g (a :: .v (.c (.p (growP sz rows))) :: as)]
 show vcall O _ (a.strip :: .v (.c v.strip) :: _) h d k = _
 rw [G.strip]; rfl
theorem Bears.len {sz : Nat} {v : Cell} {rows : List (List PVal)} (G : Bears sz v rows) : vlen O 2 (.v (.c v)) h d k = k (kI (rows.length : Int)) h := by
 rcases G with ⟨rfl, rfl⟩ | ⟨_, r, rfl⟩
 ·rfl
 ·exact vlen_tsl _ _ _
theorem Bears.at {sz : Nat} {v : Cell} {rows : List (List PVal)} (G : Bears sz v rows) (i : Int) : viaddr sz (.v (.c v)) (kI i) h k = chk (decide (0 ≤ i)) (obnd rows[i.toNat]? fun row => k (.v (.c (.p (.pptr row 0)))) h) := by
 rcases G with ⟨rfl, rfl⟩ | ⟨_, r, rfl⟩
 ·by_cases hi : 0 ≤ i
  ·obtain ⟨n, rfl⟩ : ∃ n : Nat, i = n := ⟨i.toNat, by omega⟩
   rw [decide_eq_true hi]; simp [chk, obnd]; rfl
  ·obtain ⟨n, rfl⟩ : ∃ n : Nat, i = Int.negSucc n := ⟨(-i-1).toNat, by omega⟩
   rw [decide_eq_false hi]; rfl
 ·exact x_iaddr_tsl _ _ _ _
theorem Bears.fin {sz : Nat} {v : Cell} {rows : List (List PVal)} (G : Bears sz v rows) : vfin true 0 [.c v] h = some (.v (.c (.p (growP sz rows))), []) := by
 rw [x_finG _ (by show (isPT v && true) = true; rw [G.pt]; rfl)]
 show some (TVal.v (.c v.strip), _) = _
 rw [G.strip]
/-- Rows more. -/
theorem Grow.app {D : List Nat} {sz by' : Nat} {v : Cell} {rows new : List (List PVal)} (t : Bool) (G : Grow D sz v rows h) (hD : d ∈ D) (hn : new ≠ []) (hsz : ∀ r ∈ new, r.length = sz) (hb : (rows.length + new.length) * by' ≤ 1099511627776) (hd : d + 1 < 1048576) :
  ∃ v' h', Grow D sz v' (rows ++ new) h' ∧ (∀ (β : Type) (O : Oracle) (k : TVal → Heap → Option β), vop O (.append sz by' false (.k (.v (.c v))) (.k (kSl sz t new))) h d k = k (.v (.c v')) h') ∧
   (∀ e g o, e ≠ d → h.get (.own e g) = some o → o ≠ .cells [] 0 → h'.get (.own e g) = some o) ∧ ∀ i, h'.get (.im i) = h.get (.im i) := by
 have hnl : new.length ≠ 0 := by simpa using hn
 have slowEq : ∀ (O : Oracle) (v' : TVal) (h' : Heap), (plan .nil (.append sz by' false (.k (.v (.c v))) (.k (kSl sz t new)))).bind (fun p => (p.exec O d h).map fun x => (x.1, x.2.1)) = some (v', h') →
   ∀ (β : Type) (k : TVal → Heap → Option β), vop O (.append sz by' false (.k (.v (.c v))) (.k (kSl sz t new))) h d k = k v' h' := by
  intro O v' h' e β k
  show opK O _ .nil h d k = _
  rw [opK_eq]
  show (Option.bind (Option.bind _ _) _) = _
  rw [e]; rfl
 have gr : ∀ ups, growRow sz by' rows (pcells new.flatten) new.length ups = some ⟨fun r => .v (.c (.tsl sz (rows ++ new) r)), ups, some (.cells [] 0), false⟩ := by
  intro ups
  unfold growRow
  rw [chunk_rows sz new hsz]
  dsimp only
  rw [if_pos (by omega)]
 rcases G with ⟨rfl, rfl⟩ | ⟨hne, e, g, _, rfl, hh⟩
 ·refine ⟨.tsl sz new (.own d (h.gen d + 1)), h.own d (h.gen d + 1) (.cells [] 0), .inr ⟨hn, d, _, hD, rfl, Heap.own_get h d _ _ hd (fun e => by cases e)⟩, fun β O k => slowEq O _ _ ?_ β k, fun e g o he ho _ => (Heap.own_get_ne h d _ _ e g (Ne.symm he)).trans ho, fun i => rfl⟩
  have ea : appendTo sz by' false kNil none (pcells new.flatten) new.length = some ⟨fun r => .v (.c (.tsl sz ([] ++ new) r)), [], some (.cells [] 0), false⟩ := by
   unfold appendTo
   rw [if_neg hnl]
   exact gr []
  show ((Plan.go [] _).exec O d h).map _ = _
  simp only [Plan.exec, goOp, List.mapM_nil, Option.pure_def, zipNeeds, splitNeeds, srcCells, dstRef, srcRef]
  simp only [if_true, Option.bind_eq_bind, Option.bind_some, ea]
  rfl
 ·have hgen : (h.put (.own e g) .dead).gen d = (if e = d then g else h.gen d) := by
   show (h.own e g .dead).gen d = _
   split
   ·rename_i hh; subst hh; exact Heap.own_gen h e g _ hd
   ·rename_i hh; exact Heap.own_gen_ne h e g _ d hh
  refine ⟨.tsl sz (rows ++ new) (.own d (h.gen d + 1)), (h.put (.own e g) .dead).own d (h.gen d + 1) (.cells [] 0), .inr ⟨by simp [hne], d, _, hD, rfl, Heap.own_get _ d _ _ hd (fun e => by cases e)⟩, fun β O k => slowEq O _ _ ?_ β k, fun e' g' o he ho hx => ?_, fun i => rfl⟩
  ·have ea : appendTo sz by' false (.v (.c (.tsl sz rows (.own e g)))) (some (.cells [] 0)) (pcells new.flatten) new.length = some ⟨fun r => .v (.c (.tsl sz (rows ++ new) r)), [(.own e g, .dead)], some (.cells [] 0), false⟩ := by
    unfold appendTo
    rw [if_neg hnl]
    show (if sz = sz then growRow sz by' rows (pcells new.flatten) new.length [(.own e g, .dead)] else none) = _
    rw [if_pos rfl]
    exact gr _
   show ((Plan.go [.own e g] _).exec O d h).map _ = _
   simp only [Plan.exec, goOp, mapM1, hh, Option.map_some, zipNeeds, splitNeeds, srcCells, dstRef, srcRef]
   simp only [if_true, Option.bind_eq_bind, Option.bind_some, ea]
   simp
   rfl
  ·refine (Heap.own_get_ne _ d _ _ e' g' (Ne.symm he)).trans ?_
   show (h.own e g .dead).get (.own e' g') = some o
   by_cases e1 : e = e'
   ·subst e1
    exfalso
    letI : Sym := ⟨fun _ => 0⟩
    have h1 := (Heap.get_own_gen hh)
    have h2 := (Heap.get_own_gen ho)
    obtain ⟨a1, b1⟩ := h1
    obtain ⟨a2, b2⟩ := h2
    rw [b1] at b2
    simp only [Option.some.injEq, Prod.mk.injEq] at b2
    exact hx b2.2.symm
   ·exact (Heap.own_get_ne h e g _ e' g' e1).trans ho
end
end Go.AI
