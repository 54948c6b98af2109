/- Arguments and how great they may be. Own work. Condition: what each theorem names. -/
import Derived.Test.YtiahgnkffnokfaaGreatDoorAd
set_option linter.all false
set_option linter.unusedVariables false
set_option linter.unusedSimpArgs false
namespace Go.AI
open Go.RowKit Go.ChangeShapes Go.WideShapes
section
variable [Sym] {H : Type} {enc : TypeId × Value → H} {P : Program} {w : World} {spare : Nat → Bool} {held : Bool} {r : Reach} {b0 : Nat}
theorem open_ints_b {t e : TypeId} {k : IntKind} {v : Value} {d : DataW H} {ps : List MemPlace} (ht : P.underlying t = some (.slice e)) (he : P.underlying e = some (.int k)) (hc : P.cellsOf e = 1)
  (hval : Value.okWide P w r b0 t v) (hd : DataW.Trod enc P w 0 spare held t v d ps) :
  ∃ o : Option (List Int), TRel noEnv (allI w) (.pv (intsP k o)) v ∧ (∀ n ∈ intsL o, (Lit.int k n).wf = true) ∧ (intsL o).length ≤ maxLen ∧ ((∀ x ∈ d.weights P t, x ≤ reachBytes) → (intsL o).length * P.bytesOf e ≤ reachBytes) := by
 obtain ⟨a0, len0, cap0, rfl⟩ := okWide_slice ht hval
 obtain ⟨fuel, hf⟩ := hd
 rcases open_ints ht he hc hf with ⟨h, _⟩ | ⟨a, len, cap, zs, h, h1, h2, h3, h4, hx, h5, h6⟩
 ·simp [Value.cells] at h
  obtain ⟨rfl, rfl, rfl⟩ := h
  exact ⟨none, CRel.p _ _ .nilslice, by simp [intsL], by simp [intsL], fun _ => by simp [intsL]⟩
 ·simp [Value.cells] at h
  obtain ⟨rfl, rfl, rfl⟩ := h
  have hzl : len0 ≤ zs.length := by rw [h4]; split <;> omega
  have h0 : a.spot = none := by
   unfold Value.okWide at hval
   rw [ht] at hval
   dsimp only at hval
   unfold Cell.okWide at hval
   rw [ht] at hval
   dsimp only at hval
   unfold Cell.ok at hval
   rw [ht] at hval
   exact hval.2.2.2.1
  have hxd : d = .slice (lits k (zs.take len0)) (lits k (zs.drop len0)) := by
   have := congrArg Prod.fst hx
   exact this
  refine ⟨some (zs.take len0), ?_, fun n hn => h6 n (List.mem_of_mem_take hn), by simp [intsL]; omega, fun hw => ?_⟩
  rotate_left
  ·have := hw (((lits (H := H) k (zs.take len0)).length + (lits (H := H) k (zs.drop len0)).length) * P.bytesOf e) (by rw [hxd]; simp [DataW.weights, ht])
   have hl : (lits (H := H) k (zs.take len0)).length = (zs.take len0).length := by simp [lits]
   rw [hl] at this
   show (zs.take len0).length * _ ≤ _
   exact Nat.le_trans (Nat.mul_le_mul_right _ (Nat.le_add_right _ _)) this
  have hlen : ((zs.take len0).map fun n => [PVal.int k n]).length = len0 := by simp; omega
  have ea : a = ⟨a.block, a.off, none⟩ := by cases a; simp at h0; subst h0; rfl
  have el : ∀ i, i < len0 → ((zs.take len0).map fun n => [PVal.int k n])[i]? = some [.int k (zs.getD i 0)] := by
   intro i hi
   rw [List.getElem?_map, List.getElem?_take, if_pos hi, List.getElem?_eq_getElem (by omega)]
   simp [List.getD_eq_getElem?_getD, List.getElem?_eq_getElem (show i < zs.length by omega)]
  have row : ∀ i r, ((zs.take len0).map fun n => [PVal.int k n])[i]? = some r → i < len0 ∧ r = [.int k (zs.getD i 0)] := by
   intro i r hr
   have hi := (List.getElem?_eq_some_iff.1 hr).1
   rw [hlen] at hi
   rw [el i hi] at hr
   exact ⟨hi, (Option.some.inj hr).symm⟩
  have key : PRel (allI w) (.slice 1 false ((zs.take len0).map fun n => [.int k n])) (.slice (some ⟨a.block, a.off, none⟩) ((zs.take len0).map fun n => [PVal.int k n]).length cap0) := by
   refine PRel.slice 1 false _ a.block a.off cap0 (fun i _ => .int k (zs.getD i 0)) (fun e => by cases e) (by rw [hlen]; exact h2) ?_ ?_ ?_
   ·intro i r hr
    rw [(row i r hr).2]; rfl
   ·intro i r j v hr hj
    obtain ⟨hi, rfl⟩ := row i r hr
    cases j with
    | succ j => simp at hj
    | zero =>
     have := h5 i (by omega)
     rw [ea] at this
     show w.cell? ⟨a.block, a.off + i * 1 + 0, none⟩ = _
     rw [← this]
     unfold Addr.add
     split
     ·rename_i h; subst h; rfl
     ·simp
   ·intro i r j v hr hj
    obtain ⟨hi, rfl⟩ := row i r hr
    cases j with
    | succ j => simp at hj
    | zero => simp only [List.getElem?_cons_zero, Option.some.injEq] at hj; subst hj; exact .int k _
  rw [hlen, ← ea] at key
  exact CRel.p _ _ key
theorem weights_at {ts : List TypeId} {ds : List (DataW H)} (h : (DataW.weightsEach P ts ds).all (· ≤ reachBytes) = true) : ∀ (j : Nat) {t : TypeId} {d : DataW H}, ts[j]? = some t → ds[j]? = some d → ∀ x ∈ d.weights P t, x ≤ reachBytes := by
 have key : ∀ (ts : List TypeId) (ds : List (DataW H)) (j : Nat) {t : TypeId} {d : DataW H}, ts[j]? = some t → ds[j]? = some d → ∀ x ∈ d.weights P t, x ∈ DataW.weightsEach P ts ds := by
  intro ts
  induction ts with
  | nil => intro ds j t d h1; cases h1
  | cons a ts ih =>
   intro ds j t d h1 h2 x hx
   cases ds with
   | nil => cases h2
   | cons b ds =>
    rw [DataW.weightsEach]
    cases j with
    | zero =>
     simp only [List.getElem?_cons_zero, Option.some.injEq] at h1 h2
     subst h1; subst h2
     exact List.mem_append.2 (.inl hx)
    | succ j => exact List.mem_append.2 (.inr (ih ds j h1 h2 x hx))
 intro j t d h1 h2 x hx
 have := List.all_eq_true.1 h x (key ts ds j h1 h2 x hx)
 simpa using this
end
end Go.AI
