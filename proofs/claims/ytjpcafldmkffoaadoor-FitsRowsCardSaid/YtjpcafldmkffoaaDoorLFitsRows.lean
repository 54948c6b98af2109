/- THE STATEMENT 'FitsRows': whatever the input, the law returns true, and the input reads as it did. Conditions: none but the row's own (the listed variables read as listed, which the card ties to the text). -/
import Derived.Test.YtjpcafldmkffoaaDoorCards
import Derived.Test.YtjpcafldmkffoaaDoorTie
import Derived.Test.YtjpcafldmkffoaaDoorRFitsRowsP0
import Derived.Test.YtjpcafldmkffoaaDoorRFitsRowsP1
import Derived.ProofKit
import Derived.OpenShut
import Derived.LaidLaws
import Derived.Handed
import Derived.JoinedOf
set_option linter.unusedVariables false
set_option maxRecDepth 100000
namespace Go.Proofs.YtjpcafldmkffoaaDoor.FitsRows
open Go Go.AI Go.ChangeShapes Go.WideShapes Go.ChangeAt Go.RowKit
theorem own : ownKnob Tryd.prog.godebug = none := by kernel_rfl
theorem mixed : Tryd.prog.follows .mixedOrders = true := by kernel_rfl
theorem walk (a0 : Int) (w0 : (Lit.int .i64 a0).wf = true) (w : World) : Calls Tryd.prog 4 #[.int .i64 a0] w fun e w' => e = .returned (.bool true) ∧ Below w.heap.size w w' := by
  letI : Sym := ⟨fun i => match i with | 0 => a0 | _ => 0⟩
  have g0 : -9223372036854775808 ≤ a0 ∧ a0 ≤ 9223372036854775807 := by have h : (decide (IntKind.min .i64 ≤ a0) && decide (a0 ≤ IntKind.max .i64)) = true := w0; simp only [Bool.and_eq_true, decide_eq_true_eq] at h; exact h
  obtain ⟨k0, e0, l0⟩ : ∃ k : Nat, wi a0 16 = .ofNat k ∧ k < 16 := ⟨(wi a0 16).toNat, by have := wi_bounds a0 16 (by decide); simp only [Int.ofNat_eq_natCast]; omega, by have := wi_bounds a0 16 (by decide); omega⟩
  have hJ : ∀ i n j, Ab.FitsRows.jt (.ofNat k0) i n = some j → 0 < n ∧ n < 2 ^ 40 ∧ wi (Sym.num i) n = j := by
    intro i n j h
    unfold Ab.FitsRows.jt at h
    simp only [beq_dec, beqI_eq, ← Bool.decide_and, Bool.cond_decide] at h
    by_cases c0 : i = 0 ∧ n = 16
    · rw [if_pos c0] at h; obtain ⟨rfl, rfl⟩ := c0; exact ⟨by decide, by decide, e0.trans (Option.some.inj h)⟩
    rw [if_neg c0] at h
    cases h
  have hp : Ab.FitsRows.p k0 = true := by
    match k0, l0 with
    | 0, _ => exact Ab.FitsRows.run_0
    | 1, _ => exact Ab.FitsRows.run_1
    | 2, _ => exact Ab.FitsRows.run_2
    | 3, _ => exact Ab.FitsRows.run_3
    | 4, _ => exact Ab.FitsRows.run_4
    | 5, _ => exact Ab.FitsRows.run_5
    | 6, _ => exact Ab.FitsRows.run_6
    | 7, _ => exact Ab.FitsRows.run_7
    | 8, _ => exact Ab.FitsRows.run_8
    | 9, _ => exact Ab.FitsRows.run_9
    | 10, _ => exact Ab.FitsRows.run_10
    | 11, _ => exact Ab.FitsRows.run_11
    | 12, _ => exact Ab.FitsRows.run_12
    | 13, _ => exact Ab.FitsRows.run_13
    | 14, _ => exact Ab.FitsRows.run_14
    | 15, _ => exact Ab.FitsRows.run_15
    | n + 16, l => exact absurd l (by omega)
  exact walk_of mixed Ab.tab_ok (SW_sound mixed Ab.tab_ok Ab.within_ok_spruelaw14 hJ) hp w ⟨pv_sym .i64 0 _ _ a0 rfl g0.1 g0.2, trivial⟩
def cells0 : Array Value := #[.int .u8 0, .int .u8 1, .int .u8 28, .int .u8 2, .int .u8 29, .int .u8 14, .int .u8 24, .int .u8 3, .int .u8 30, .int .u8 22, .int .u8 20, .int .u8 15, .int .u8 25, .int .u8 17, .int .u8 4, .int .u8 8, .int .u8 31, .int .u8 27, .int .u8 13, .int .u8 23, .int .u8 21, .int .u8 19, .int .u8 16, .int .u8 7, .int .u8 26, .int .u8 12, .int .u8 18, .int .u8 6, .int .u8 11, .int .u8 5, .int .u8 10, .int .u8 9]
def cells1 : Array Value := #[.int .u8 0, .int .u8 1, .int .u8 56, .int .u8 2, .int .u8 57, .int .u8 49, .int .u8 28, .int .u8 3, .int .u8 61, .int .u8 58, .int .u8 42, .int .u8 50, .int .u8 38, .int .u8 29, .int .u8 17, .int .u8 4, .int .u8 62, .int .u8 47, .int .u8 59, .int .u8 36, .int .u8 45, .int .u8 43, .int .u8 51, .int .u8 22, .int .u8 53, .int .u8 39, .int .u8 33, .int .u8 30, .int .u8 24, .int .u8 18, .int .u8 12, .int .u8 5, .int .u8 63, .int .u8 55, .int .u8 48, .int .u8 27, .int .u8 60, .int .u8 41, .int .u8 37, .int .u8 16, .int .u8 46, .int .u8 35, .int .u8 44, .int .u8 21, .int .u8 52, .int .u8 32, .int .u8 23, .int .u8 11, .int .u8 54, .int .u8 26, .int .u8 40, .int .u8 15, .int .u8 34, .int .u8 20, .int .u8 31, .int .u8 10, .int .u8 25, .int .u8 14, .int .u8 19, .int .u8 9, .int .u8 13, .int .u8 8, .int .u8 7, .int .u8 6]
def cells2 : Array Value := #[.int .u64 1, .int .u64 10, .int .u64 100, .int .u64 1000, .int .u64 10000, .int .u64 100000, .int .u64 1000000, .int .u64 10000000, .int .u64 100000000, .int .u64 1000000000, .int .u64 10000000000, .int .u64 100000000000, .int .u64 1000000000000, .int .u64 10000000000000, .int .u64 100000000000000, .int .u64 1000000000000000, .int .u64 10000000000000000, .int .u64 100000000000000000, .int .u64 1000000000000000000, .int .u64 10000000000000000000]
noncomputable def laidWorld (os : Os) : World := { World.holding Tryd.prog os ⟨#[], #[], []⟩ with heap := ((((World.holding Tryd.prog os ⟨#[], #[], []⟩).heap.modify 1 fun | .cells _ t frozen => .cells cells0 t frozen | o => o).modify 2 fun | .cells _ t frozen => .cells cells1 t frozen | o => o).modify 0 fun | .cells _ t frozen => .cells cells2 t frozen | o => o) }
theorem laid_met (os : Os) (args : Array Value) : laidMet Tryd.prog Rows.fitsRowsRow.laid ((laidWorld os).forCall (fun _ _ => 0) ⟨#[], args, []⟩).memory := laidMet_of_run' 8 (by kernel_rfl) (by kernel_rfl)
theorem lifted (os : Os) (started : os.Started) (H : Type) (enc : TypeId × Value → H) :
    ReturnsInHanded {} Tryd.checked os 4 .any (fun w args => (Rows.fitsRowsSpec.pre enc Tryd.prog Tryd.f4 [] false w args ∧ laidMet Tryd.prog Rows.fitsRowsRow.laid w) ∧ sizedMet enc Tryd.prog Tryd.f4 (OpenSpec.ofChange Rows.fitsRowsSpec) false w args) (Rows.fitsRowsSpec.post enc Tryd.prog Tryd.f4 false true false false) := by
  refine returnsInHanded_of_change_and (C := Tryd.checked) (X := fun w _ => laidMet Tryd.prog Rows.fitsRowsRow.laid w) (fun _ _ _ hh h => h.of_heap hh) own started (by kernel_rfl) Tryd.func4
    (ChangeSpec.witness_at (enc := enc) (C := Tryd.checked) (os := os) (X := fun w _ => laidMet Tryd.prog Rows.fitsRowsRow.laid w) false (laidWorld os) #[.int .i64 0] 8 rfl (by kernel_rfl) (by kernel_rfl) (by kernel_rfl) (by kernel_rfl) (by kernel_rfl) (laid_met os _)) ?_
  intro W base args ds gs before hval0 hW _ _ hL _
  have hval : ∀ (j : Nat) t v, Tryd.f4.params[j]? = some t → args[j]? = some v → Value.okWide Tryd.prog W .any base t v := hval0
  have hW' := hW
  obtain ⟨p, q, hA0, hV, rfl, hfz, hnd⟩ := hW
  have hA : DataW.TrodAll enc Tryd.prog W 0 (fun _ => true) true Tryd.f4.params.toList args.toList ds p := hA0
  rw [Tryd.params4] at hA hval
  obtain ⟨v0, vs0, d0, ds0, p0, q0, hargs, rfl, rfl, h0, r0⟩ := trodAll_cons hA
  obtain ⟨rfl, rfl, rfl⟩ := trodAll_nil r0
  obtain rfl : args = #[v0] := by cases args; simp_all
  obtain ⟨rfl, rfl⟩ := trodVars_none hV
  obtain ⟨a0, rfl, rfl, rfl, w0⟩ := open_int Tryd.underlying3 (hval 0 3 v0 rfl rfl) h0
  clear hA0 hval0
  simp only [List.append_nil] at hW'
  refine (walk a0 w0 W).mono fun e W' ⟨he, hg⟩ => ?_
  subst he
  letI : Sym := ⟨fun _ => 0⟩
  exact ⟨_, rfl, post_plain hW' (pa := []) (pv := []) (fun _ _ _ => (trodAll_cons_mk (shut_bool Tryd.underlying4 _) trodAll_mk0)) (fun sp _ => (trodAll_cons_mk (shut_int Tryd.underlying3 w0) trodAll_mk0)) (fun _ _ => rfl) rfl hg⟩
theorem row_holds : Rows.FitsRowsSaid :=
  OpenClaim.holds_of_wide 4 Tryd.f4 rfl rfl rfl rfl rfl rfl rfl ⟨rfl, rfl, rfl, rfl, rfl⟩ rfl rfl rfl rfl rfl (by kernel_rfl) Tryd.func4 (by kernel_rfl)
    (of_decide_eq_true (by kernel_rfl)) (by unfold Func.isWrapper; first | (rw [if_pos (by decide +kernel)]; kernel_rfl) | (rw [if_neg (by decide +kernel)]; exact ⟨rfl, rfl⟩))
    (fun os started H enc _ => lifted os started H enc)
theorem params_plain : (Tryd.f4.params.toList.all fun t => !(Tryd.prog.wantsStandIn t)) = true := by kernel_rfl
theorem card_holds : Rows.FitsRowsCardSaid :=
  Claim7.holds_tied_plain_at .later [] [.data, .data, .data] true (true, "d3a850d275ff5411f78dcaa36f283e0623b9cb375de2f4bc290eb90c2168d82f") false
    row_holds (fun _ h => by cases h) (by kernel_rfl) (fun _ h => by cases h) fitsRows_row_tie rfl ⟨rfl, rfl⟩ (by kernel_rfl) rfl
    (fun f fn hf hfn => by
      obtain rfl : f = 4 := Option.some.inj ((show Tryd.prog.funcNamed Rows.fitsRowsRow.func = some 4 by kernel_rfl).symm.trans hf) |>.symm
      obtain rfl : fn = Tryd.f4 := (Option.some.inj (Tryd.func4.symm.trans hfn)).symm
      refine ⟨by kernel_rfl, fun j t ht => ?_⟩
      have h := List.all_eq_true.1 params_plain t (List.mem_of_getElem? (by simpa using ht))
      exact (by simpa using h : Tryd.prog.wantsStandIn t = false))
    (by kernel_rfl)
#print axioms card_holds
end Go.Proofs.YtjpcafldmkffoaaDoor.FitsRows
