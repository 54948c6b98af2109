/- Rules, continued: rows that grow, handed to calls and handed back. Own work; no condition but what each names. -/
import Derived.Test.YtiahgnkffnokfaaGreatDoorMaP
set_option linter.all false
set_option linter.unusedVariables false
set_option linter.unusedSimpArgs false
namespace Go.AI
section
variable {β : Type} {O : Oracle} {h : Heap} {d : Nat} {k : TVal → Heap → Option β}
/-- Values, and rows that grow. -/
def isPT : Cell → Bool
 | .p _ | .tsl .. => true
 | _ => false
def compPT : Comp → Bool
 | .c c => isPT c
 | .agg cs => cs.all isPT
theorem freeze_pt (hp : Heap) (n : Nat) (c : Cell) (hc : isPT c = true) : ∃ x, c.strip = .p x ∧ freeze hp (n + 1) c = some (x, []) := by
 cases c with
 | p v => exact ⟨v, rfl, rfl⟩
 | tsl sz rows r => exact ⟨_, rfl, rfl⟩
 | _ => cases hc
theorem freeze_pts (hp : Heap) (n : Nat) : ∀ cs : List Cell, cs.all isPT = true → ∃ xs : List PVal, cs.map Cell.strip = pcells xs ∧ cs.mapM (freeze hp (n + 1)) = some (xs.map fun x => (x, [])) := by
 intro cs
 induction cs with
 | nil => intro _; exact ⟨[], rfl, rfl⟩
 | cons c cs ih =>
  intro hc
  rw [List.all_cons, Bool.and_eq_true] at hc
  obtain ⟨x, e1, e2⟩ := freeze_pt hp n c hc.1
  obtain ⟨xs, e3, e4⟩ := ih hc.2
  refine ⟨x :: xs, ?_, ?_⟩
  ·rw [List.map_cons, e1, e3]; rfl
  ·rw [List.mapM_cons, e2, e4]; rfl
theorem freezeC_pt (hp : Heap) (x : Comp) (hx : compPT x = true) : freezeC hp x = some (x.strip, []) ∧ pComp x.strip = true := by
 cases x with
 | c c =>
  obtain ⟨v, e1, e2⟩ := freeze_pt hp 29 c hx
  constructor
  ·show (freeze hp 30 c).map _ = _
   rw [e2]; show _ = some (Comp.c c.strip, []); rw [e1]; rfl
  ·show isP c.strip = true; rw [e1]; rfl
 | agg cs =>
  obtain ⟨xs, e1, e2⟩ := freeze_pts hp 29 cs hx
  constructor
  ·show (cs.mapM (freeze hp 30)).map _ = _
   rw [e2]; show _ = some (Comp.agg (cs.map Cell.strip), []); rw [e1]
   show some (Comp.agg ((xs.map fun x => (x, ([] : List Ref))).map fun y => .p y.1), (xs.map fun x => (x, ([] : List Ref))).flatMap (·.2)) = _
   congr 2
   ·rw [List.map_map]; rfl
   ·clear e1 e2
    induction xs with
    | nil => rfl
    | cons a l ih => rw [List.map_cons, List.flatMap_cons, ih]; rfl
  ·show allB isP (cs.map Cell.strip) = true; rw [e1]; exact allB_p xs
theorem freezeCs_pt (hp : Heap) : ∀ vs : List Comp, vs.all compPT = true → vs.mapM (freezeC hp) = some (vs.map fun x => (x.strip, [])) ∧ allB pComp (vs.map Comp.strip) = true := by
 intro vs
 induction vs with
 | nil => intro _; exact ⟨rfl, rfl⟩
 | cons x vs ih =>
  intro hv
  rw [List.all_cons, Bool.and_eq_true] at hv
  obtain ⟨e1, e2⟩ := freezeC_pt hp x hv.1
  obtain ⟨e3, e4⟩ := ih hv.2
  constructor
  ·rw [List.mapM_cons, e1, e3]; rfl
  ·rw [List.map_cons, allB_cons0, e2, e4]; rfl
theorem x_finG (vs : List Comp) (hv : vs.all compPT = true) : vfin true 0 vs h = some (oneOf (vs.map Comp.strip), []) := by
 letI : Sym := ⟨fun _ => 0⟩
 rw [vfin_eq]
 obtain ⟨e1, e2⟩ := freezeCs_pt h vs hv
 have ef : freezeT h (oneOf vs) = some (oneOf (vs.map Comp.strip), []) := by
  match vs, hv, e1, e2 with
  | [], _, _, _ => rfl
  | [x], hv, _, _ =>
   rw [List.all_cons, Bool.and_eq_true] at hv
   show (freezeC h x).map _ = _
   rw [(freezeC_pt h x hv.1).1]; rfl
  | x :: y :: vs, _, e1, _ =>
   show ((x :: y :: vs).mapM (freezeC h)).map _ = _
   rw [e1]
   show some (TVal.tup (((x :: y :: vs).map fun x => (x.strip, ([] : List Ref))).map (·.1)), ((x :: y :: vs).map fun x => (x.strip, ([] : List Ref))).flatMap (·.2)) = _
   congr 2
   ·rw [List.map_map]; rfl
   ·generalize (x :: y :: vs) = l
    induction l with
    | nil => rfl
    | cons a l ih => rw [List.map_cons, List.flatMap_cons, ih]; rfl
 obtain ⟨q1, q2, q3, q4⟩ := pT_props (oneOf_p e2)
 unfold finV
 rw [show ims 0 = ([] : List Ref) from rfl]
 simp [ef, settle, q1, q3, reach, fuelReach]
/-- A row of names, of numbers, of structs that grows: a cell that bears it. -/
def Bears (sz : Nat) (v : Cell) (rows : List (List PVal)) : Prop := (rows = [] ∧ v = .p .nilslice) ∨ (rows ≠ [] ∧ ∃ r, v = .tsl sz rows r)
theorem Grow.bears {D : List Nat} {sz : Nat} {v : Cell} {rows : List (List PVal)} {h : Heap} (G : Grow D sz v rows h) : Bears sz v rows := by
 rcases G with ⟨a, b⟩ | ⟨a, e, g, _, b, _⟩
 ·exact .inl ⟨a, b⟩
 ·exact .inr ⟨a, _, b⟩
theorem Bears.strip {sz : Nat} {v : Cell} {rows : List (List PVal)} (G : Bears sz v rows) : v.strip = .p (growP sz rows) := by
 rcases G with ⟨rfl, rfl⟩ | ⟨hne, r, rfl⟩
 ·rfl
 ·cases rows with
  | nil => exact absurd rfl hne
  | cons _ _ => rfl
theorem Bears.pt {sz : Nat} {v : Cell} {rows : List (List PVal)} (G : Bears sz v rows) : isPT v = true := by
 rcases G with ⟨rfl, rfl⟩ | ⟨hne, r, rfl⟩ <;> rfl
theorem Bears.len {sz : Nat} {v : Cell} {rows : List (List PVal)} (G : Bears sz v rows) : vlen O 2 (.v (.c v)) h d k = k (kI (rows.length : Int)) h := by
 rcases G with ⟨rfl, rfl⟩ | ⟨_, r, rfl⟩
 ·rfl
 ·exact vlen_tsl _ _ _
theorem Bears.at {sz : Nat} {v : Cell} {rows : List (List PVal)} (G : Bears sz v rows) (i : Int) : viaddr sz (.v (.c v)) (kI i) h k = chk (decide (0 ≤ i)) (obnd rows[i.toNat]? fun row => k (.v (.c (.p (.pptr row 0)))) h) := by
 rcases G with ⟨rfl, rfl⟩ | ⟨_, r, rfl⟩
 ·by_cases hi : 0 ≤ i
  ·obtain ⟨n, rfl⟩ : ∃ n : Nat, i = n := ⟨i.toNat, by omega⟩
   rw [decide_eq_true hi]; simp [chk, obnd]; rfl
  ·obtain ⟨n, rfl⟩ : ∃ n : Nat, i = Int.negSucc n := ⟨(-i-1).toNat, by omega⟩
   rw [decide_eq_false hi]; rfl
 ·exact x_iaddr_tsl _ _ _ _
theorem Bears.fin {sz : Nat} {v : Cell} {rows : List (List PVal)} (G : Bears sz v rows) : vfin true 0 [.c v] h = some (.v (.c (.p (growP sz rows))), []) := by
 rw [x_finG _ (by show (isPT v && true) = true; rw [G.pt]; rfl)]
 show some (TVal.v (.c v.strip), _) = _
 rw [G.strip]
end
end Go.AI
