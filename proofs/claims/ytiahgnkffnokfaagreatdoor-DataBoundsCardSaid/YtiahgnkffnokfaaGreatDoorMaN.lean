/- Arguments of any type that is made of numbers, texts, truths, structs and slices, as deep as may be: what they are to the machine. Own work. Condition: what each theorem names. -/
import Derived.Test.YtiahgnkffnokfaaGreatDoorAd
set_option linter.all false
set_option linter.unusedVariables false
set_option linter.unusedSimpArgs false
namespace Go.AI
open Go.RowKit Go.ChangeShapes Go.WideShapes
/-- What an argument of a type looks like. -/
def HasT (P : Program) : Nat → TypeId → List PVal → Prop
 | 0, _, _ => False
 | n + 1, t, row => match P.underlying t with
  | some .bool => ∃ b, row = [.bool b]
  | some (.int k) => ∃ x, row = [.int k x] ∧ (Lit.int k x).wf = true
  | some .string => ∃ s : List UInt8, row = [.str s] ∧ s.length ≤ maxLen
  | some (.slice e) => row = [.nilslice] ∨ ∃ rows, row = [.slice (P.cellsOf e) false rows] ∧ rows.length ≤ maxLen ∧ ∀ r ∈ rows, HasT P n e r
  | some (.struct fs) => ∃ rs : List (List PVal), row = rs.flatten ∧ All2 (fun (f : Field) r => HasT P n f.type r) fs.toList rs
  | _ => False
def contig (P : Program) : List Field → Nat → Nat → Bool
 | [], o, n => o == n
 | f :: fs, o, n => f.offset == o && contig P fs (o + P.cellsOf f.type) n
/-- A row of types that lead to one another alone. -/
def plainB (P : Program) (ts : List TypeId) : Bool := ts.all fun t => match P.underlying t with
 | some .bool | some (.int _) | some .string => true
 | some (.slice e) => ts.contains e && Nat.blt 0 (P.cellsOf e)
 | some (.struct fs) => contig P fs.toList 0 (P.cellsOf t) && fs.toList.all fun f => ts.contains f.type
 | _ => false
theorem choose_list {α : Type} {p : Nat → α → Prop} : ∀ (n : Nat), (∀ i, i < n → ∃ a, p i a) → ∃ l : List α, l.length = n ∧ ∀ i a, l[i]? = some a → p i a := by
 intro n
 induction n with
 | zero => intro _; exact ⟨[], rfl, fun i r e => by simp at e⟩
 | succ n ih =>
  intro h
  obtain ⟨l, h1, h2⟩ := ih fun i hi => h i (by omega)
  obtain ⟨a, ha⟩ := h n (by omega)
  refine ⟨l ++ [a], by simp [h1], fun i r e => ?_⟩
  by_cases hi : i < l.length
  ·rw [List.getElem?_append_left hi] at e; exact h2 i r e
  ·have hlt : i < (l ++ [a]).length := (List.getElem?_eq_some_iff.1 e).1
   have hi' : i = n := by simp at hlt; omega
   subst hi'
   rw [List.getElem?_append_right (by omega), h1, Nat.sub_self] at e
   simp at e; subst e
   exact ha
section
variable [Sym] {H : Type} {enc : TypeId × Value → H} {P : Program} {w : World} {spare : Nat → Bool} {held : Bool} {b0 : Nat}
theorem fields_rel {R : TypeId → List Value → List PVal → Prop} (hR : ∀ t cs row, R t cs row → All2 (PRel (allI w)) row cs) (Q : TypeId → List PVal → Prop) (hQ : ∀ t cs row, R t cs row → Q t row) (cs : List Value) :
  ∀ (fs : List Field) (o : Nat), contig P fs o cs.length = true → (∀ f ∈ fs, ∃ row, R f.type ((cs.drop f.offset).take (P.cellsOf f.type)) row) →
  ∃ rs : List (List PVal), All2 (PRel (allI w)) rs.flatten (cs.drop o) ∧ All2 (fun (f : Field) r => Q f.type r) fs rs := by
 intro fs
 induction fs with
 | nil =>
  intro o h _
  have : o = cs.length := by simpa [contig] using h
  exact ⟨[], by rw [this, List.drop_length]; trivial, trivial⟩
 | cons f fs ih =>
  intro o h hf
  simp only [contig, Bool.and_eq_true, beq_iff_eq] at h
  obtain ⟨rfl, h2⟩ := h
  obtain ⟨row, hrow⟩ := hf f (by simp)
  obtain ⟨rs, h3, h4⟩ := ih _ h2 (fun g hg => hf g (by simp [hg]))
  refine ⟨row :: rs, ?_, hQ _ _ _ hrow, h4⟩
  have e : cs.drop f.offset = (cs.drop f.offset).take (P.cellsOf f.type) ++ cs.drop (f.offset + P.cellsOf f.type) := by
   rw [← List.drop_drop]; exact (List.take_append_drop _ _).symm
  rw [List.flatten_cons, e]
  exact (hR _ _ _ hrow).append h3
theorem trod_rel {ts : List TypeId} (hts : plainB P ts = true) : ∀ (fuel : Nat) (t : TypeId) (cs : List Value) (x : DataW H × List MemPlace), t ∈ ts → DataW.trod enc P w 0 spare held fuel t cs = some x →
  ∃ row, All2 (PRel (allI w)) row cs ∧ HasT P fuel t row := by
 intro fuel
 induction fuel with
 | zero => intro t cs x _ h; simp [DataW.trod] at h
 | succ n ih =>
  intro t cs x ht h
  have hp := List.all_eq_true.1 hts t ht
  cases hu : P.underlying t with
  | none => rw [hu] at hp; cases hp
  | some u =>
   rw [hu] at hp
   cases u with
   | bool =>
    obtain ⟨b, rfl, _⟩ := DataW.trod_bool hu h
    exact ⟨[.bool b], ⟨.bool b, trivial⟩, by simp only [HasT, hu]; exact ⟨b, rfl⟩⟩
   | int k =>
    obtain ⟨z, rfl, _, hw⟩ := DataW.trod_int hu h
    exact ⟨[.int k z], ⟨.int k z, trivial⟩, by simp only [HasT, hu]; exact ⟨z, rfl, hw⟩⟩
   | string =>
    obtain ⟨s, rfl, _, hs⟩ := DataW.trod_string hu h
    exact ⟨[.str s.data.toList], ⟨.str _ _ rfl, trivial⟩, by simp only [HasT, hu]; exact ⟨_, rfl, by simpa using hs⟩⟩
   | slice e =>
    simp only [Bool.and_eq_true, List.contains_iff_mem] at hp
    obtain ⟨he, hc0⟩ := hp
    have hc : 0 < P.cellsOf e := Nat.le_of_ble_eq_true hc0
    rcases DataW.trod_slice hu h with ⟨rfl, _⟩ | ⟨a, len, cap, elems, rest, m, hm, rfl, _, _, hlc, hcm, hel, hget, _⟩
    ·exact ⟨[.nilslice], ⟨.nilslice, trivial⟩, by simp [HasT, hu]⟩
    ·cases hm
     have each : ∀ i, i < len → ∃ row : List PVal, ∃ cs : List Value, w.cells? 0 (a.add (i * P.cellsOf e)) (P.cellsOf e) = some cs ∧ All2 (PRel (allI w)) row cs ∧ HasT P n e row := by
      intro i hi
      have h1 := hget i hi
      have h2 : ∃ y, elems[i]? = some y := ⟨elems[i]'(by omega), by simp⟩
      obtain ⟨y, hy⟩ := h2
      rw [hy] at h1
      obtain ⟨cs, c1, c2⟩ := Option.bind_eq_some_iff.1 h1
      obtain ⟨row, r1, r2⟩ := ih e cs y he c2
      exact ⟨row, cs, c1, r1, r2⟩
     have hrows : ∃ rows : List (List PVal), rows.length = len ∧ ∀ i (r : List PVal), rows[i]? = some r → ∃ cs : List Value, w.cells? 0 (a.add (i * P.cellsOf e)) (P.cellsOf e) = some cs ∧ All2 (PRel (allI w)) r cs ∧ HasT P n e r := choose_list len each
     obtain ⟨rows, q1, q2⟩ := hrows
     refine ⟨[.slice (P.cellsOf e) false rows], ⟨?_, trivial⟩, ?_⟩
     ·cases hr : rows with
      | nil =>
       rw [hr] at q1
       have : len = 0 := by rw [← q1]; rfl
       subst this
       exact .emp _ _ _ _ (fun e => by cases e)
      | cons r0 rest0 =>
       obtain ⟨cs0, c1, _⟩ := q2 0 r0 (by rw [hr]; rfl)
       obtain ⟨_, c3, c4⟩ := World.cells?_some c1
       have hs : a.spot = none := by
        have h0 := c4 0 hc
        rw [Nat.zero_mul] at h0
        have e0 : (a.add 0).add 0 = a := rfl
        rw [e0] at h0
        have : ∃ v, cs0[0]? = some v := ⟨cs0[0]'(by omega), by simp⟩
        obtain ⟨v, hv⟩ := this
        rw [hv] at h0
        exact spot_none h0
       have ea : a = ⟨a.block, a.off, none⟩ := by cases a; simp at hs; subst hs; rfl
       rw [← hr]
       have key : PRel (allI w) (.slice (P.cellsOf e) false rows) (.slice (some ⟨a.block, a.off, none⟩) rows.length cap) := by
        refine PRel.slice _ false rows a.block a.off cap (fun i j => (((w.cells? 0 (a.add (i * P.cellsOf e)) (P.cellsOf e)).getD [])[j]?).getD .nilIface) (fun e => by cases e) (by omega) ?_ ?_ ?_
        ·intro i r hr
         obtain ⟨cs, d1, d2, _⟩ := q2 i r hr
         rw [d2.length]; exact (World.cells?_some d1).2.1
        ·intro i r j v hr hj
         obtain ⟨cs, d1, d2, _⟩ := q2 i r hr
         obtain ⟨_, d4, d5⟩ := World.cells?_some d1
         obtain ⟨b, e1, e2⟩ := d2.get j v hj
         have hjl : j < P.cellsOf e := by rw [← d4]; exact (List.getElem?_eq_some_iff.1 e1).1
         have := d5 j hjl
         rw [ea, add_lit, add_lit, e1] at this
         show w.cell? ⟨a.block, a.off + i * P.cellsOf e + j, none⟩ = _
         rw [this, d1]
         simp only [Option.getD_some, e1]
        ·intro i r j v hr hj
         obtain ⟨cs, d1, d2, _⟩ := q2 i r hr
         obtain ⟨b, e1, e2⟩ := d2.get j v hj
         rw [d1]
         simp only [Option.getD_some, e1]
         exact e2
       rw [q1, ← ea] at key
       exact key
     ·simp only [HasT, hu]
      refine .inr ⟨rows, rfl, by omega, fun r hr => ?_⟩
      obtain ⟨i, hi⟩ := List.mem_iff_getElem?.1 hr
      obtain ⟨_, _, _, h3⟩ := q2 i r hi
      exact h3
   | struct fs =>
    simp only [Bool.and_eq_true] at hp
    obtain ⟨xs, m, hm, _, hl, hxl, hf⟩ := DataW.trod_struct hu h
    cases hm
    have hmem : ∀ f ∈ fs.toList, f.type ∈ ts := fun f hf => by simpa using List.all_eq_true.1 hp.2 f hf
    rw [← hl] at hp
    obtain ⟨rs, r1, r2⟩ := fields_rel (P := P) (w := w) (R := fun t cs row => All2 (PRel (allI w)) row cs ∧ HasT P n t row) (fun _ _ _ h => h.1) (fun t row => HasT P n t row) (fun _ _ _ h => h.2) cs fs.toList 0 hp.1 (by
     intro f hfm
     obtain ⟨i, hi⟩ := List.mem_iff_getElem?.1 hfm
     have hi' : fs[i]? = some f := by simpa using hi
     have h1 := hf i f hi'
     have hil : i < fs.size := (Array.getElem?_eq_some_iff.1 hi').1
     have h2 : xs[i]? = some (xs[i]'(by omega)) := by simp
     rw [h2] at h1
     obtain ⟨row, q1, q2⟩ := ih f.type _ _ (hmem f hfm) h1
     exact ⟨row, q1, q2⟩)
    rw [List.drop_zero] at r1
    exact ⟨rs.flatten, r1, by simp only [HasT, hu]; exact ⟨rs, rfl, r2⟩⟩
   | _ => cases hp
/-- An argument of one cell; a struct. -/
theorem arg_cell {ts : List TypeId} (hts : plainB P ts = true) {t : TypeId} {v : Value} {d : DataW H} {ps : List MemPlace} (ht : t ∈ ts) (hv : v.cells = #[v]) (hd : DataW.Trod enc P w 0 spare held t v d ps) :
  ∃ n row x, row = [x] ∧ TRel noEnv (allI w) (.pv x) v ∧ HasT P n t row := by
 obtain ⟨fuel, hf⟩ := hd
 rw [hv] at hf
 obtain ⟨row, r1, r2⟩ := trod_rel hts fuel t _ _ ht hf
 match row, r1 with
 | [x], r1 => exact ⟨fuel, [x], x, rfl, CRel.p _ _ r1.1, r2⟩
theorem all2_p {I : Imm} : ∀ {row : List PVal} {cs : List Value}, All2 (PRel I) row cs → All2 (CRel noEnv I) (pcells row) cs
 | [], [], _ => trivial
 | _ :: _, _ :: _, h => ⟨CRel.p _ _ h.1, all2_p h.2⟩
theorem arg_agg {ts : List TypeId} (hts : plainB P ts = true) {t : TypeId} {cs : Array Value} {d : DataW H} {ps : List MemPlace} (ht : t ∈ ts) (hd : DataW.Trod enc P w 0 spare held t (.agg cs) d ps) :
  ∃ n row, TRel noEnv (allI w) (.v (.agg (pcells row))) (.agg cs) ∧ HasT P n t row := by
 obtain ⟨fuel, hf⟩ := hd
 obtain ⟨row, r1, r2⟩ := trod_rel hts fuel t _ _ ht hf
 exact ⟨fuel, row, ⟨cs, rfl, all2_p r1⟩, r2⟩
end
end Go.AI
