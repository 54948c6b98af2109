/- The checks of lists of nulls, as an oracle. -/
import Derived.Test.YtiahgnkffnokfaaGreatDoorDjA
set_option linter.all false
set_option linter.unusedVariables false
set_option linter.unusedSimpArgs false
set_option maxRecDepth 100000
set_option maxHeartbeats 4000000
namespace Go.Proofs.YtiahgnkffnokfaaGreatDoor.Ab
open Go Go.AI
noncomputable def isZR (r : List PVal) : Bool := match r with
 | [.int .i64 a, .bool b, .int .i64 c, .str s, .nilslice, .nilslice] => beqI a 0 && !b && beqI c 0 && s.isEmpty
 | _ => false
theorem isZR_eq {r : List PVal} (h : isZR r = true) : r = zR := by
 unfold isZR at h
 split at h
 ·simp only [Bool.and_eq_true, beqI_eq, decide_eq_true_eq, Bool.not_eq_true', List.isEmpty_iff] at h
  obtain ⟨⟨⟨rfl, rfl⟩, rfl⟩, rfl⟩ := h
  rfl
 ·cases h
noncomputable def ansC (cs : List Cell) (m : Int) : Option (TVal × List AObj) := match cs with
 | [.p (.int .i64 k), .p (.bool b), .p (.int .i64 z), .p (.str s), .p .nilslice, .p .nilslice] => bif beqI k 0 && !b && beqI z 0 && s.isEmpty then some (kI (zA m), [cO (m + 1)]) else none
 | [.p (.int .i64 k), .p (.bool b), .p (.int .i64 z), .p (.str s), .p .nilslice, .p (.slice 6 true rows)] => bif beqI k 4 && !b && beqI z 0 && s.isEmpty && (Nat.ble rows.length 40 && rows.all isZR) then
   (if 2000 < m + 1 then some (kI 3, [cO (m + 1)]) else some (kI (lRun rows.length (m + 1)).1, [cO (lRun rows.length (m + 1)).2])) else none
 | _ => none
noncomputable def SChk : Oracle := fun f args objs =>
 bif Nat.beq f 44 then
  match args, objs with
  | [.v (.agg cs), .v (.c (.p (.int .i64 d))), .v (.c (.ptr (.im 0) 0))], [.cells [.p (.int .i64 m)] 0] => bif decide (0 ≤ m) && decide (m ≤ 2800) && (decide (0 ≤ d) && decide (d ≤ 11)) then ansC cs m else none
  | _, _ => none
 else bif Nat.beq f 45 then
  match args, objs with
  | [.v (.c (.ptr (.im 0) 0)), .v (.agg cs), .v (.c (.p (.int .i64 d)))], [.cells [.p (.int .i64 m)] 0] => bif decide (0 ≤ m) && decide (m ≤ 2800) && (decide (0 ≤ d) && decide (d ≤ 11)) then ansC cs m else none
  | _, _ => none
 else none
theorem bif_some {α : Type} {c : Bool} {x : Option α} {r : α} (h : (bif c then x else none) = some r) : c = true ∧ x = some r := by
 cases c
 ·cases h
 ·exact ⟨rfl, h⟩
theorem ansC_ok {cs : List Cell} {m : Int} {r : TVal × List AObj} (h : ansC cs m = some r) : (cs = zC ∧ r = (kI (zA m), [cO (m + 1)])) ∨ ∃ rows : List (List PVal), cs = lC rows ∧ (∀ i, i < rows.length → rows[i]? = some zR) ∧ rows.length ≤ 40 ∧
  (if 2000 < m + 1 then some (kI 3, [cO (m + 1)]) else some (kI (lRun rows.length (m + 1)).1, [cO (lRun rows.length (m + 1)).2])) = some r := by
 unfold ansC at h
 split at h
 ·obtain ⟨h1, h2⟩ := bif_some h
  simp only [Bool.and_eq_true, beqI_eq, decide_eq_true_eq, Bool.not_eq_true', List.isEmpty_iff] at h1
  obtain ⟨⟨⟨rfl, rfl⟩, rfl⟩, rfl⟩ := h1
  exact .inl ⟨rfl, (Option.some.inj h2).symm⟩
 ·rename_i k b z s rows
  obtain ⟨h1, h2⟩ := bif_some h
  simp only [Bool.and_eq_true, beqI_eq, decide_eq_true_eq, Bool.not_eq_true', List.isEmpty_iff, Nat.ble_eq] at h1
  obtain ⟨⟨⟨⟨rfl, rfl⟩, rfl⟩, rfl⟩, h3, h4⟩ := h1
  refine .inr ⟨rows, rfl, fun i hi => ?_, h3, h2⟩
  have := isZR_eq (List.all_eq_true.1 h4 (rows[i]) (List.getElem_mem hi))
  rw [List.getElem?_eq_getElem hi, this]
 ·cases h
theorem SChk_le (f : FuncId) (args : List TVal) (objs : List AObj) (r : TVal × List AObj) (h : SChk f args objs = some r) : Oc f args objs = some r := by
 unfold SChk at h
 rw [beq_dec, beq_dec] at h
 by_cases h4 : f = 44
 ·rw [decide_eq_true h4, cond_true] at h
  subst h4
  split at h
  ·obtain ⟨h1, h2⟩ := bif_some h
   simp only [Bool.and_eq_true, decide_eq_true_eq] at h1
   rcases ansC_ok h2 with ⟨rfl, rfl⟩ | ⟨rows, rfl, hr, hn, e⟩
   ·exact n44 _ _ (by omega) (by omega) (by omega)
   ·rw [← e]; exact l44 rows hr _ _ (by omega) (by omega) hn (by omega) (by omega)
  ·cases h
 ·rw [decide_eq_false h4, cond_false] at h
  by_cases h5 : f = 45
  ·rw [decide_eq_true h5, cond_true] at h
   subst h5
   split at h
   ·obtain ⟨h1, h2⟩ := bif_some h
    simp only [Bool.and_eq_true, decide_eq_true_eq] at h1
    rcases ansC_ok h2 with ⟨rfl, rfl⟩ | ⟨rows, rfl, hr, hn, e⟩
    ·exact n45 _ _ (by omega) (by omega) (by omega)
    ·rw [← e]; exact l45 rows hr _ _ (by omega) (by omega) hn (by omega) (by omega)
   ·cases h
  ·rw [decide_eq_false h5, cond_false] at h; cases h
theorem SChk_sound [Sym] (hm : Tryz.prog.follows .mixedOrders = true) : FSound Tryz.prog (globs2 tabs opq) SChk :=
 fun f args objs v objs' e => lim_sound hm tab_ok none_sound f args objs v objs' (SChk_le f args objs (v, objs') e)
end Go.Proofs.YtiahgnkffnokfaaGreatDoor.Ab
