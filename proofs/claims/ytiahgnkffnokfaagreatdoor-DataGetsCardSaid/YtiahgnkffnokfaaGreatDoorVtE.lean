/- Raw values as arguments, with the bounds of their numbers; slices of them. Own work. Condition: what each theorem names. -/
import Derived.Test.YtiahgnkffnokfaaGreatDoorVtD
set_option linter.all false
set_option linter.unusedVariables false
set_option linter.unusedSimpArgs false
namespace Go.AI
open Go.RowKit Go.ChangeShapes Go.WideShapes
def inI (n : Int) : Prop := -9223372036854775808 ≤ n ∧ n ≤ 9223372036854775807
theorem inI_of {n : Int} (h : (Lit.int .i64 n).wf = true) : inI n := by
 have h : (decide (IntKind.min .i64 ≤ n) && decide (n ≤ IntKind.max .i64)) = true := h
 simp only [Bool.and_eq_true, decide_eq_true_eq] at h
 exact h
namespace RT
mutual
def inR : RT → Prop
 | .mk k n s ks l => inI k ∧ inI n ∧ (∀ x ∈ ks.list, inI x) ∧ s.len ≤ maxLen ∧ ks.len ≤ maxLen ∧ inS l
def inS : Sl RT → Prop
 | .nil => True
 | .mk _ l => l.length ≤ maxLen ∧ inL l
def inL : List RT → Prop
 | [] => True
 | r :: rs => inR r ∧ inL rs
end
theorem inL_eq : ∀ l : List RT, inL l ↔ ∀ x ∈ l, inR x
 | [] => by simp [inL]
 | r :: l => by simp [inL, inL_eq l]
theorem inR_eq (r : RT) : r.inR ↔ inI r.kind ∧ inI r.n ∧ (∀ x ∈ r.keys.list, inI x) ∧ r.s.len ≤ maxLen ∧ r.keys.len ≤ maxLen ∧ r.kids.len ≤ maxLen ∧ ∀ x ∈ r.kids.list, x.inR := by
 cases r with
 | mk k n s ks l =>
  rw [inR]
  show _ ↔ inI k ∧ inI n ∧ (∀ x ∈ ks.list, inI x) ∧ s.len ≤ maxLen ∧ ks.len ≤ maxLen ∧ l.len ≤ maxLen ∧ ∀ x ∈ l.list, x.inR
  cases l with
  | nil => simp [inS, Sl.list, Sl.len]
  | mk t l => simp [inS, inL_eq, Sl.list, Sl.len]
end RT
section
variable {P : Program}
theorem has_listQ {α : Type} {f : α → List PVal} {Q : List PVal → Prop} {p : α → Prop} (hq : ∀ r, Q r → ∃ a, r = f a ∧ p a) : ∀ rows : List (List PVal), (∀ r ∈ rows, Q r) → ∃ l : List α, rows = l.map f ∧ ∀ a ∈ l, p a
 | [], _ => ⟨[], rfl, fun a h => by cases h⟩
 | r :: rows, h => by
  obtain ⟨a, rfl, ha⟩ := hq r (h r (by simp))
  obtain ⟨l, rfl, hl⟩ := has_listQ hq rows (fun r hr => h r (by simp [hr]))
  exact ⟨a :: l, rfl, fun x hx => by rcases List.mem_cons.1 hx with rfl | hx; exact ha; exact hl x hx⟩
theorem has_sliceQ {t e : TypeId} {sz : Nat} {α : Type} {f : α → List PVal} {p : α → Prop} (hu : P.underlying t = some (.slice e)) (hc : P.cellsOf e = sz) {n : Nat} {row : List PVal} (hq : ∀ m, m < n → ∀ r, HasT P m e r → ∃ a, r = f a ∧ p a) (h : HasT P n t row) : ∃ s : Sl α, row = [slP sz f s] ∧ s.len ≤ maxLen ∧ ∀ a ∈ s.list, p a := by
 cases n with
 | zero => exact h.elim
 | succ n =>
  simp only [HasT, hu] at h
  rcases h with rfl | ⟨rows, rfl, hl, hr⟩
  ·exact ⟨.nil, rfl, Nat.zero_le _, fun a h => by cases h⟩
  ·obtain ⟨l, rfl, hl2⟩ := has_listQ (f := f) (p := p) (hq n (Nat.lt_succ_self _)) rows hr
   refine ⟨.mk false l, by rw [hc]; rfl, ?_, hl2⟩
   rw [List.length_map] at hl
   exact hl
theorem has_intsQ {t e : TypeId} (hu : P.underlying t = some (.slice e)) (he : P.underlying e = some (.int .i64)) (hc : P.cellsOf e = 1) {n : Nat} {row : List PVal} (h : HasT P n t row) : ∃ s : Sl Int, row = [slP 1 iRow s] ∧ s.len ≤ maxLen ∧ ∀ x ∈ s.list, inI x :=
 has_sliceQ hu hc (fun m _ r hr => by obtain ⟨x, rfl, hx⟩ := has_int he hr; exact ⟨x, rfl, inI_of hx⟩) h
/-- Raw values. -/
theorem has_RTi {tR tK tN tS tU tKs tE tL : TypeId} {fs : Array Field} (uR : P.underlying tR = some (.struct fs)) (hf : fs.toList.map (·.type) = [tK, tN, tS, tKs, tL]) (uK : P.underlying tK = some (.int .i64)) (uN : P.underlying tN = some (.int .i64))
  (uS : P.underlying tS = some (.slice tU)) (uU : P.underlying tU = some (.int .u8)) (cU : P.cellsOf tU = 1) (uKs : P.underlying tKs = some (.slice tE)) (uE : P.underlying tE = some (.int .i64)) (cE : P.cellsOf tE = 1) (uL : P.underlying tL = some (.slice tR)) (cR : P.cellsOf tR = 5) :
  ∀ (n : Nat) (row : List PVal), HasT P n tR row → ∃ r : RT, row = r.row ∧ r.inR := by
 intro n
 induction n using Nat.strongRecOn with
 | ind n ih =>
  intro row h
  cases n with
  | zero => exact h.elim
  | succ n =>
   simp only [HasT, uR] at h
   obtain ⟨rs, rfl, h⟩ := h
   have h := all2_types _ _ h
   rw [hf] at h
   match rs, h with
   | [a, b, c, d, e], ⟨h1, h2, h3, h4, h5, _⟩ =>
    obtain ⟨k, rfl, q1⟩ := has_int uK h1
    obtain ⟨m, rfl, q2⟩ := has_int uN h2
    obtain ⟨s, rfl, q3⟩ := has_bytes uS uU cU h3
    obtain ⟨ks, rfl, q4, q5⟩ := has_intsQ uKs uE cE h4
    obtain ⟨l, rfl, q6, q7⟩ := has_sliceQ (f := RT.row) (p := RT.inR) uL cR (fun m hm r hr => ih m (by omega) r hr) h5
    refine ⟨.mk k m s ks l, ?_, (RT.inR_eq _).2 ⟨inI_of q1, inI_of q2, q5, q3, q4, q6, q7⟩⟩
    rw [RT.row_eq]; rfl
end
end Go.AI
