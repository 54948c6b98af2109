/- Arguments whose types lead to one another: raw values, values, types. Own work. Condition: what each theorem names (how the types lie). -/
import Derived.Test.YtiahgnkffnokfaaGreatDoorMaN
import Derived.Test.YtiahgnkffnokfaaGreatDoorVtB
set_option linter.all false
set_option linter.unusedVariables false
set_option linter.unusedSimpArgs false
namespace Go.AI
open Go.RowKit Go.ChangeShapes Go.WideShapes
section
variable [Sym] {H : Type} {enc : TypeId × Value → H} {P : Program} {w : World} {spare : Nat → Bool} {held : Bool}
/-- An argument that is a struct of several cells. -/
theorem arg_struct {ts : List TypeId} (hts : plainB P ts = true) {t : TypeId} {fs : Array Field} (hu : P.underlying t = some (.struct fs)) (hc : P.cellsOf t ≠ 1) {v : Value} {d : DataW H} {ps : List MemPlace} (ht : t ∈ ts) (hd : DataW.Trod enc P w 0 spare held t v d ps) :
  ∃ cs n row, v = .agg cs ∧ TRel noEnv (allI w) (.v (.agg (pcells row))) (.agg cs) ∧ HasT P n t row := by
 have hv : ∃ cs, v = .agg cs := by
  obtain ⟨fuel, hf⟩ := hd
  cases fuel with
  | zero => simp [DataW.trod] at hf
  | succ n =>
   obtain ⟨_, _, _, _, hl, _⟩ := DataW.trod_struct hu hf
   cases v with
   | agg cs => exact ⟨cs, rfl⟩
   | _ => exact absurd hl.symm hc
 obtain ⟨cs, rfl⟩ := hv
 obtain ⟨n, row, h1, h2⟩ := arg_agg hts ht hd
 exact ⟨cs, n, row, rfl, h1, h2⟩
end
theorem all2_types {Q : TypeId → List PVal → Prop} : ∀ (fs : List Field) (rs : List (List PVal)), All2 (fun (f : Field) r => Q f.type r) fs rs → All2 Q (fs.map (·.type)) rs
 | [], [], _ => trivial
 | _ :: fs, _ :: rs, h => ⟨h.1, all2_types fs rs h.2⟩
 | [], _ :: _, h => h.elim
 | _ :: _, [], h => h.elim
section
variable {P : Program}
theorem has_int {t : TypeId} {k : IntKind} (hu : P.underlying t = some (.int k)) {n : Nat} {row : List PVal} (h : HasT P n t row) : ∃ x, row = [.int k x] ∧ (Lit.int k x).wf = true := by
 cases n with
 | zero => exact h.elim
 | succ n => simp only [HasT, hu] at h; exact h
theorem has_list {α : Type} {f : α → List PVal} {Q : List PVal → Prop} (hq : ∀ r, Q r → ∃ a, r = f a) : ∀ rows : List (List PVal), (∀ r ∈ rows, Q r) → ∃ l : List α, rows = l.map f
 | [], _ => ⟨[], rfl⟩
 | r :: rows, h => by
  obtain ⟨a, rfl⟩ := hq r (h r (by simp))
  obtain ⟨l, rfl⟩ := has_list hq rows (fun r hr => h r (by simp [hr]))
  exact ⟨a :: l, rfl⟩
theorem has_slice {t e : TypeId} {sz : Nat} {α : Type} {f : α → List PVal} (hu : P.underlying t = some (.slice e)) (hc : P.cellsOf e = sz) {n : Nat} {row : List PVal} (hq : ∀ m, m < n → ∀ r, HasT P m e r → ∃ a, r = f a) (h : HasT P n t row) : ∃ s : Sl α, row = [slP sz f s] ∧ s.len ≤ maxLen := by
 cases n with
 | zero => exact h.elim
 | succ n =>
  simp only [HasT, hu] at h
  rcases h with rfl | ⟨rows, rfl, hl, hr⟩
  ·exact ⟨.nil, rfl, Nat.zero_le _⟩
  ·obtain ⟨l, rfl⟩ := has_list (f := f) (hq n (Nat.lt_succ_self _)) rows hr
   refine ⟨.mk false l, by rw [hc]; rfl, ?_⟩
   rw [List.length_map] at hl
   exact hl
theorem has_bytes {t e : TypeId} (hu : P.underlying t = some (.slice e)) (he : P.underlying e = some (.int .u8)) (hc : P.cellsOf e = 1) {n : Nat} {row : List PVal} (h : HasT P n t row) : ∃ s : Sl UInt8, row = [slP 1 bRow s] ∧ s.len ≤ maxLen :=
 has_slice hu hc (fun m _ r hr => by
  obtain ⟨x, rfl, hx⟩ := has_int he hr
  have hx' : (decide (0 ≤ x) && decide (x ≤ 255)) = true := hx
  simp only [Bool.and_eq_true, decide_eq_true_eq] at hx'
  refine ⟨UInt8.ofNat x.toNat, ?_⟩
  show [PVal.int .u8 x] = [PVal.int .u8 ((UInt8.ofNat x.toNat).toNat : Int)]
  rw [UInt8.toNat_ofNat', Nat.mod_eq_of_lt (by omega), Int.toNat_of_nonneg hx'.1]) h
end
end Go.AI
