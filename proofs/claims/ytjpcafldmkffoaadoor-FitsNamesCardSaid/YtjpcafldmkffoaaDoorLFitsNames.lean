/- THE STATEMENT 'FitsNames': whatever the input, the law returns true, and the input reads as it did. Conditions: none but the row's own (the listed variables read as listed, which the card ties to the text). -/
import Derived.Test.YtjpcafldmkffoaaDoorCards
import Derived.Test.YtjpcafldmkffoaaDoorTie
import Derived.Test.YtjpcafldmkffoaaDoorRFitsNamesP0
import Derived.Test.YtjpcafldmkffoaaDoorRFitsNamesP1
import Derived.Test.YtjpcafldmkffoaaDoorRFitsNamesP2
import Derived.Test.YtjpcafldmkffoaaDoorRFitsNamesP3
import Derived.Test.YtjpcafldmkffoaaDoorRFitsNamesP4
import Derived.ProofKit
import Derived.OpenShut
import Derived.LaidLaws
import Derived.Handed
import Derived.JoinedOf
set_option linter.unusedVariables false
set_option maxRecDepth 100000
namespace Go.Proofs.YtjpcafldmkffoaaDoor.FitsNames
open Go Go.AI Go.ChangeShapes Go.WideShapes Go.ChangeAt Go.RowKit
theorem own : ownKnob Tryd.prog.godebug = none := by kernel_rfl
theorem mixed : Tryd.prog.follows .mixedOrders = true := by kernel_rfl
theorem walk (a0 : Int) (a1 : Int) (a2 : Bool) (w0 : (Lit.int .i64 a0).wf = true) (w1 : (Lit.int .i64 a1).wf = true) (w : World) : Calls Tryd.prog 5 #[.int .i64 a0, .int .i64 a1, .bool a2] w fun e w' => e = .returned (.bool true) ∧ Below w.heap.size w w' := by
  letI : Sym := ⟨fun i => match i with | 0 => a0 | 1 => a1 | _ => 0⟩
  have g0 : -9223372036854775808 ≤ a0 ∧ a0 ≤ 9223372036854775807 := by have h : (decide (IntKind.min .i64 ≤ a0) && decide (a0 ≤ IntKind.max .i64)) = true := w0; simp only [Bool.and_eq_true, decide_eq_true_eq] at h; exact h
  have g1 : -9223372036854775808 ≤ a1 ∧ a1 ≤ 9223372036854775807 := by have h : (decide (IntKind.min .i64 ≤ a1) && decide (a1 ≤ IntKind.max .i64)) = true := w1; simp only [Bool.and_eq_true, decide_eq_true_eq] at h; exact h
  obtain ⟨k0, e0, l0⟩ : ∃ k : Nat, wi a0 5 = .ofNat k ∧ k < 5 := ⟨(wi a0 5).toNat, by have := wi_bounds a0 5 (by decide); simp only [Int.ofNat_eq_natCast]; omega, by have := wi_bounds a0 5 (by decide); omega⟩
  obtain ⟨k1, e1, l1⟩ : ∃ k : Nat, wi a1 9 = .ofNat k ∧ k < 9 := ⟨(wi a1 9).toNat, by have := wi_bounds a1 9 (by decide); simp only [Int.ofNat_eq_natCast]; omega, by have := wi_bounds a1 9 (by decide); omega⟩
  have hJ : ∀ i n j, Ab.FitsNames.jt (.ofNat k0) (.ofNat k1) i n = some j → 0 < n ∧ n < 2 ^ 40 ∧ wi (Sym.num i) n = j := by
    intro i n j h
    unfold Ab.FitsNames.jt at h
    simp only [beq_dec, beqI_eq, ← Bool.decide_and, Bool.cond_decide] at h
    by_cases c0 : i = 0 ∧ n = 5
    · rw [if_pos c0] at h; obtain ⟨rfl, rfl⟩ := c0; exact ⟨by decide, by decide, e0.trans (Option.some.inj h)⟩
    rw [if_neg c0] at h
    by_cases c1 : i = 1 ∧ n = 9
    · rw [if_pos c1] at h; obtain ⟨rfl, rfl⟩ := c1; exact ⟨by decide, by decide, e1.trans (Option.some.inj h)⟩
    rw [if_neg c1] at h
    cases h
  have hp : Ab.FitsNames.p k0 k1 a2 = true := by
    match k0, l0, k1, l1, a2 with
    | 0, _, 0, _, true => exact (by have h := Ab.FitsNames.run_0_0; simp only [Bool.and_eq_true] at h; simp only [h])
    | 0, _, 0, _, false => exact (by have h := Ab.FitsNames.run_0_0; simp only [Bool.and_eq_true] at h; simp only [h])
    | 0, _, 1, _, true => exact (by have h := Ab.FitsNames.run_0_1; simp only [Bool.and_eq_true] at h; simp only [h])
    | 0, _, 1, _, false => exact (by have h := Ab.FitsNames.run_0_1; simp only [Bool.and_eq_true] at h; simp only [h])
    | 0, _, 2, _, true => exact (by have h := Ab.FitsNames.run_0_2; simp only [Bool.and_eq_true] at h; simp only [h])
    | 0, _, 2, _, false => exact (by have h := Ab.FitsNames.run_0_2; simp only [Bool.and_eq_true] at h; simp only [h])
    | 0, _, 3, _, true => exact (by have h := Ab.FitsNames.run_0_3; simp only [Bool.and_eq_true] at h; simp only [h])
    | 0, _, 3, _, false => exact (by have h := Ab.FitsNames.run_0_3; simp only [Bool.and_eq_true] at h; simp only [h])
    | 0, _, 4, _, true => exact (by have h := Ab.FitsNames.run_0_4; simp only [Bool.and_eq_true] at h; simp only [h])
    | 0, _, 4, _, false => exact (by have h := Ab.FitsNames.run_0_4; simp only [Bool.and_eq_true] at h; simp only [h])
    | 0, _, 5, _, true => exact (by have h := Ab.FitsNames.run_0_5; simp only [Bool.and_eq_true] at h; simp only [h])
    | 0, _, 5, _, false => exact (by have h := Ab.FitsNames.run_0_5; simp only [Bool.and_eq_true] at h; simp only [h])
    | 0, _, 6, _, true => exact (by have h := Ab.FitsNames.run_0_6; simp only [Bool.and_eq_true] at h; simp only [h])
    | 0, _, 6, _, false => exact (by have h := Ab.FitsNames.run_0_6; simp only [Bool.and_eq_true] at h; simp only [h])
    | 0, _, 7, _, true => exact (by have h := Ab.FitsNames.run_0_7; simp only [Bool.and_eq_true] at h; simp only [h])
    | 0, _, 7, _, false => exact (by have h := Ab.FitsNames.run_0_7; simp only [Bool.and_eq_true] at h; simp only [h])
    | 0, _, 8, _, true => exact (by have h := Ab.FitsNames.run_0_8; simp only [Bool.and_eq_true] at h; simp only [h])
    | 0, _, 8, _, false => exact (by have h := Ab.FitsNames.run_0_8; simp only [Bool.and_eq_true] at h; simp only [h])
    | 1, _, 0, _, true => exact (by have h := Ab.FitsNames.run_1_0; simp only [Bool.and_eq_true] at h; simp only [h])
    | 1, _, 0, _, false => exact (by have h := Ab.FitsNames.run_1_0; simp only [Bool.and_eq_true] at h; simp only [h])
    | 1, _, 1, _, true => exact (by have h := Ab.FitsNames.run_1_1; simp only [Bool.and_eq_true] at h; simp only [h])
    | 1, _, 1, _, false => exact (by have h := Ab.FitsNames.run_1_1; simp only [Bool.and_eq_true] at h; simp only [h])
    | 1, _, 2, _, true => exact (by have h := Ab.FitsNames.run_1_2; simp only [Bool.and_eq_true] at h; simp only [h])
    | 1, _, 2, _, false => exact (by have h := Ab.FitsNames.run_1_2; simp only [Bool.and_eq_true] at h; simp only [h])
    | 1, _, 3, _, true => exact (by have h := Ab.FitsNames.run_1_3; simp only [Bool.and_eq_true] at h; simp only [h])
    | 1, _, 3, _, false => exact (by have h := Ab.FitsNames.run_1_3; simp only [Bool.and_eq_true] at h; simp only [h])
    | 1, _, 4, _, true => exact (by have h := Ab.FitsNames.run_1_4; simp only [Bool.and_eq_true] at h; simp only [h])
    | 1, _, 4, _, false => exact (by have h := Ab.FitsNames.run_1_4; simp only [Bool.and_eq_true] at h; simp only [h])
    | 1, _, 5, _, true => exact (by have h := Ab.FitsNames.run_1_5; simp only [Bool.and_eq_true] at h; simp only [h])
    | 1, _, 5, _, false => exact (by have h := Ab.FitsNames.run_1_5; simp only [Bool.and_eq_true] at h; simp only [h])
    | 1, _, 6, _, true => exact (by have h := Ab.FitsNames.run_1_6; simp only [Bool.and_eq_true] at h; simp only [h])
    | 1, _, 6, _, false => exact (by have h := Ab.FitsNames.run_1_6; simp only [Bool.and_eq_true] at h; simp only [h])
    | 1, _, 7, _, true => exact (by have h := Ab.FitsNames.run_1_7; simp only [Bool.and_eq_true] at h; simp only [h])
    | 1, _, 7, _, false => exact (by have h := Ab.FitsNames.run_1_7; simp only [Bool.and_eq_true] at h; simp only [h])
    | 1, _, 8, _, true => exact (by have h := Ab.FitsNames.run_1_8; simp only [Bool.and_eq_true] at h; simp only [h])
    | 1, _, 8, _, false => exact (by have h := Ab.FitsNames.run_1_8; simp only [Bool.and_eq_true] at h; simp only [h])
    | 2, _, 0, _, true => exact (by have h := Ab.FitsNames.run_2_0; simp only [Bool.and_eq_true] at h; simp only [h])
    | 2, _, 0, _, false => exact (by have h := Ab.FitsNames.run_2_0; simp only [Bool.and_eq_true] at h; simp only [h])
    | 2, _, 1, _, true => exact (by have h := Ab.FitsNames.run_2_1; simp only [Bool.and_eq_true] at h; simp only [h])
    | 2, _, 1, _, false => exact (by have h := Ab.FitsNames.run_2_1; simp only [Bool.and_eq_true] at h; simp only [h])
    | 2, _, 2, _, true => exact (by have h := Ab.FitsNames.run_2_2; simp only [Bool.and_eq_true] at h; simp only [h])
    | 2, _, 2, _, false => exact (by have h := Ab.FitsNames.run_2_2; simp only [Bool.and_eq_true] at h; simp only [h])
    | 2, _, 3, _, true => exact (by have h := Ab.FitsNames.run_2_3; simp only [Bool.and_eq_true] at h; simp only [h])
    | 2, _, 3, _, false => exact (by have h := Ab.FitsNames.run_2_3; simp only [Bool.and_eq_true] at h; simp only [h])
    | 2, _, 4, _, true => exact (by have h := Ab.FitsNames.run_2_4; simp only [Bool.and_eq_true] at h; simp only [h])
    | 2, _, 4, _, false => exact (by have h := Ab.FitsNames.run_2_4; simp only [Bool.and_eq_true] at h; simp only [h])
    | 2, _, 5, _, true => exact (by have h := Ab.FitsNames.run_2_5; simp only [Bool.and_eq_true] at h; simp only [h])
    | 2, _, 5, _, false => exact (by have h := Ab.FitsNames.run_2_5; simp only [Bool.and_eq_true] at h; simp only [h])
    | 2, _, 6, _, true => exact (by have h := Ab.FitsNames.run_2_6; simp only [Bool.and_eq_true] at h; simp only [h])
    | 2, _, 6, _, false => exact (by have h := Ab.FitsNames.run_2_6; simp only [Bool.and_eq_true] at h; simp only [h])
    | 2, _, 7, _, true => exact (by have h := Ab.FitsNames.run_2_7; simp only [Bool.and_eq_true] at h; simp only [h])
    | 2, _, 7, _, false => exact (by have h := Ab.FitsNames.run_2_7; simp only [Bool.and_eq_true] at h; simp only [h])
    | 2, _, 8, _, true => exact (by have h := Ab.FitsNames.run_2_8; simp only [Bool.and_eq_true] at h; simp only [h])
    | 2, _, 8, _, false => exact (by have h := Ab.FitsNames.run_2_8; simp only [Bool.and_eq_true] at h; simp only [h])
    | 3, _, 0, _, true => exact (by have h := Ab.FitsNames.run_3_0; simp only [Bool.and_eq_true] at h; simp only [h])
    | 3, _, 0, _, false => exact (by have h := Ab.FitsNames.run_3_0; simp only [Bool.and_eq_true] at h; simp only [h])
    | 3, _, 1, _, true => exact (by have h := Ab.FitsNames.run_3_1; simp only [Bool.and_eq_true] at h; simp only [h])
    | 3, _, 1, _, false => exact (by have h := Ab.FitsNames.run_3_1; simp only [Bool.and_eq_true] at h; simp only [h])
    | 3, _, 2, _, true => exact (by have h := Ab.FitsNames.run_3_2; simp only [Bool.and_eq_true] at h; simp only [h])
    | 3, _, 2, _, false => exact (by have h := Ab.FitsNames.run_3_2; simp only [Bool.and_eq_true] at h; simp only [h])
    | 3, _, 3, _, true => exact (by have h := Ab.FitsNames.run_3_3; simp only [Bool.and_eq_true] at h; simp only [h])
    | 3, _, 3, _, false => exact (by have h := Ab.FitsNames.run_3_3; simp only [Bool.and_eq_true] at h; simp only [h])
    | 3, _, 4, _, true => exact (by have h := Ab.FitsNames.run_3_4; simp only [Bool.and_eq_true] at h; simp only [h])
    | 3, _, 4, _, false => exact (by have h := Ab.FitsNames.run_3_4; simp only [Bool.and_eq_true] at h; simp only [h])
    | 3, _, 5, _, true => exact (by have h := Ab.FitsNames.run_3_5; simp only [Bool.and_eq_true] at h; simp only [h])
    | 3, _, 5, _, false => exact (by have h := Ab.FitsNames.run_3_5; simp only [Bool.and_eq_true] at h; simp only [h])
    | 3, _, 6, _, true => exact (by have h := Ab.FitsNames.run_3_6; simp only [Bool.and_eq_true] at h; simp only [h])
    | 3, _, 6, _, false => exact (by have h := Ab.FitsNames.run_3_6; simp only [Bool.and_eq_true] at h; simp only [h])
    | 3, _, 7, _, true => exact (by have h := Ab.FitsNames.run_3_7; simp only [Bool.and_eq_true] at h; simp only [h])
    | 3, _, 7, _, false => exact (by have h := Ab.FitsNames.run_3_7; simp only [Bool.and_eq_true] at h; simp only [h])
    | 3, _, 8, _, true => exact (by have h := Ab.FitsNames.run_3_8; simp only [Bool.and_eq_true] at h; simp only [h])
    | 3, _, 8, _, false => exact (by have h := Ab.FitsNames.run_3_8; simp only [Bool.and_eq_true] at h; simp only [h])
    | 4, _, 0, _, true => exact (by have h := Ab.FitsNames.run_4_0; simp only [Bool.and_eq_true] at h; simp only [h])
    | 4, _, 0, _, false => exact (by have h := Ab.FitsNames.run_4_0; simp only [Bool.and_eq_true] at h; simp only [h])
    | 4, _, 1, _, true => exact (by have h := Ab.FitsNames.run_4_1; simp only [Bool.and_eq_true] at h; simp only [h])
    | 4, _, 1, _, false => exact (by have h := Ab.FitsNames.run_4_1; simp only [Bool.and_eq_true] at h; simp only [h])
    | 4, _, 2, _, true => exact (by have h := Ab.FitsNames.run_4_2; simp only [Bool.and_eq_true] at h; simp only [h])
    | 4, _, 2, _, false => exact (by have h := Ab.FitsNames.run_4_2; simp only [Bool.and_eq_true] at h; simp only [h])
    | 4, _, 3, _, true => exact (by have h := Ab.FitsNames.run_4_3; simp only [Bool.and_eq_true] at h; simp only [h])
    | 4, _, 3, _, false => exact (by have h := Ab.FitsNames.run_4_3; simp only [Bool.and_eq_true] at h; simp only [h])
    | 4, _, 4, _, true => exact (by have h := Ab.FitsNames.run_4_4; simp only [Bool.and_eq_true] at h; simp only [h])
    | 4, _, 4, _, false => exact (by have h := Ab.FitsNames.run_4_4; simp only [Bool.and_eq_true] at h; simp only [h])
    | 4, _, 5, _, true => exact (by have h := Ab.FitsNames.run_4_5; simp only [Bool.and_eq_true] at h; simp only [h])
    | 4, _, 5, _, false => exact (by have h := Ab.FitsNames.run_4_5; simp only [Bool.and_eq_true] at h; simp only [h])
    | 4, _, 6, _, true => exact (by have h := Ab.FitsNames.run_4_6; simp only [Bool.and_eq_true] at h; simp only [h])
    | 4, _, 6, _, false => exact (by have h := Ab.FitsNames.run_4_6; simp only [Bool.and_eq_true] at h; simp only [h])
    | 4, _, 7, _, true => exact (by have h := Ab.FitsNames.run_4_7; simp only [Bool.and_eq_true] at h; simp only [h])
    | 4, _, 7, _, false => exact (by have h := Ab.FitsNames.run_4_7; simp only [Bool.and_eq_true] at h; simp only [h])
    | 4, _, 8, _, true => exact (by have h := Ab.FitsNames.run_4_8; simp only [Bool.and_eq_true] at h; simp only [h])
    | 4, _, 8, _, false => exact (by have h := Ab.FitsNames.run_4_8; simp only [Bool.and_eq_true] at h; simp only [h])
  exact walk_of mixed Ab.tab_ok (SW_sound mixed Ab.tab_ok Ab.within_ok_spruelaw14 hJ) hp w ⟨pv_sym .i64 0 _ _ a0 rfl g0.1 g0.2, pv_sym .i64 1 _ _ a1 rfl g1.1 g1.2, pv_bool a2, trivial⟩
def cells0 : Array Value := #[.int .u8 0, .int .u8 1, .int .u8 28, .int .u8 2, .int .u8 29, .int .u8 14, .int .u8 24, .int .u8 3, .int .u8 30, .int .u8 22, .int .u8 20, .int .u8 15, .int .u8 25, .int .u8 17, .int .u8 4, .int .u8 8, .int .u8 31, .int .u8 27, .int .u8 13, .int .u8 23, .int .u8 21, .int .u8 19, .int .u8 16, .int .u8 7, .int .u8 26, .int .u8 12, .int .u8 18, .int .u8 6, .int .u8 11, .int .u8 5, .int .u8 10, .int .u8 9]
def cells1 : Array Value := #[.int .u8 0, .int .u8 1, .int .u8 56, .int .u8 2, .int .u8 57, .int .u8 49, .int .u8 28, .int .u8 3, .int .u8 61, .int .u8 58, .int .u8 42, .int .u8 50, .int .u8 38, .int .u8 29, .int .u8 17, .int .u8 4, .int .u8 62, .int .u8 47, .int .u8 59, .int .u8 36, .int .u8 45, .int .u8 43, .int .u8 51, .int .u8 22, .int .u8 53, .int .u8 39, .int .u8 33, .int .u8 30, .int .u8 24, .int .u8 18, .int .u8 12, .int .u8 5, .int .u8 63, .int .u8 55, .int .u8 48, .int .u8 27, .int .u8 60, .int .u8 41, .int .u8 37, .int .u8 16, .int .u8 46, .int .u8 35, .int .u8 44, .int .u8 21, .int .u8 52, .int .u8 32, .int .u8 23, .int .u8 11, .int .u8 54, .int .u8 26, .int .u8 40, .int .u8 15, .int .u8 34, .int .u8 20, .int .u8 31, .int .u8 10, .int .u8 25, .int .u8 14, .int .u8 19, .int .u8 9, .int .u8 13, .int .u8 8, .int .u8 7, .int .u8 6]
def cells2 : Array Value := #[.int .u64 1, .int .u64 10, .int .u64 100, .int .u64 1000, .int .u64 10000, .int .u64 100000, .int .u64 1000000, .int .u64 10000000, .int .u64 100000000, .int .u64 1000000000, .int .u64 10000000000, .int .u64 100000000000, .int .u64 1000000000000, .int .u64 10000000000000, .int .u64 100000000000000, .int .u64 1000000000000000, .int .u64 10000000000000000, .int .u64 100000000000000000, .int .u64 1000000000000000000, .int .u64 10000000000000000000]
noncomputable def laidWorld (os : Os) : World := { World.holding Tryd.prog os ⟨#[], #[], []⟩ with heap := ((((World.holding Tryd.prog os ⟨#[], #[], []⟩).heap.modify 1 fun | .cells _ t frozen => .cells cells0 t frozen | o => o).modify 2 fun | .cells _ t frozen => .cells cells1 t frozen | o => o).modify 0 fun | .cells _ t frozen => .cells cells2 t frozen | o => o) }
theorem laid_met (os : Os) (args : Array Value) : laidMet Tryd.prog Rows.fitsNamesRow.laid ((laidWorld os).forCall (fun _ _ => 0) ⟨#[], args, []⟩).memory := laidMet_of_run' 8 (by kernel_rfl) (by kernel_rfl)
theorem lifted (os : Os) (started : os.Started) (H : Type) (enc : TypeId × Value → H) :
    ReturnsInHanded {} Tryd.checked os 5 .any (fun w args => (Rows.fitsNamesSpec.pre enc Tryd.prog Tryd.f5 [] false w args ∧ laidMet Tryd.prog Rows.fitsNamesRow.laid w) ∧ sizedMet enc Tryd.prog Tryd.f5 (OpenSpec.ofChange Rows.fitsNamesSpec) false w args) (Rows.fitsNamesSpec.post enc Tryd.prog Tryd.f5 false true false false) := by
  refine returnsInHanded_of_change_and (C := Tryd.checked) (X := fun w _ => laidMet Tryd.prog Rows.fitsNamesRow.laid w) (fun _ _ _ hh h => h.of_heap hh) own started (by kernel_rfl) Tryd.func5
    (ChangeSpec.witness_at (enc := enc) (C := Tryd.checked) (os := os) (X := fun w _ => laidMet Tryd.prog Rows.fitsNamesRow.laid w) false (laidWorld os) #[.int .i64 0, .int .i64 0, .bool false] 8 rfl (by kernel_rfl) (by kernel_rfl) (by kernel_rfl) (by kernel_rfl) (by kernel_rfl) (laid_met os _)) ?_
  intro W base args ds gs before hval0 hW _ _ hL _
  have hval : ∀ (j : Nat) t v, Tryd.f5.params[j]? = some t → args[j]? = some v → Value.okWide Tryd.prog W .any base t v := hval0
  have hW' := hW
  obtain ⟨p, q, hA0, hV, rfl, hfz, hnd⟩ := hW
  have hA : DataW.TrodAll enc Tryd.prog W 0 (fun _ => true) true Tryd.f5.params.toList args.toList ds p := hA0
  rw [Tryd.params5] at hA hval
  obtain ⟨v0, vs0, d0, ds0, p0, q0, hargs, rfl, rfl, h0, r0⟩ := trodAll_cons hA
  obtain ⟨v1, vs1, d1, ds1, p1, q1, rfl, rfl, rfl, h1, r1⟩ := trodAll_cons r0
  obtain ⟨v2, vs2, d2, ds2, p2, q2, rfl, rfl, rfl, h2, r2⟩ := trodAll_cons r1
  obtain ⟨rfl, rfl, rfl⟩ := trodAll_nil r2
  obtain rfl : args = #[v0, v1, v2] := by cases args; simp_all
  obtain ⟨rfl, rfl⟩ := trodVars_none hV
  obtain ⟨a0, rfl, rfl, rfl, w0⟩ := open_int Tryd.underlying3 (hval 0 3 v0 rfl rfl) h0
  obtain ⟨a1, rfl, rfl, rfl, w1⟩ := open_int Tryd.underlying3 (hval 1 3 v1 rfl rfl) h1
  obtain ⟨a2, rfl, rfl, rfl⟩ := open_bool Tryd.underlying4 (hval 2 4 v2 rfl rfl) h2
  clear hA0 hval0
  simp only [List.append_nil] at hW'
  refine (walk a0 a1 a2 w0 w1 W).mono fun e W' ⟨he, hg⟩ => ?_
  subst he
  letI : Sym := ⟨fun _ => 0⟩
  exact ⟨_, rfl, post_plain hW' (pa := []) (pv := []) (fun _ _ _ => (trodAll_cons_mk (shut_bool Tryd.underlying4 _) trodAll_mk0)) (fun sp _ => (trodAll_cons_mk (shut_int Tryd.underlying3 w0) (trodAll_cons_mk (shut_int Tryd.underlying3 w1) (trodAll_cons_mk (shut_bool Tryd.underlying4 _) trodAll_mk0)))) (fun _ _ => rfl) rfl hg⟩
theorem row_holds : Rows.FitsNamesSaid :=
  OpenClaim.holds_of_wide 5 Tryd.f5 rfl rfl rfl rfl rfl rfl rfl ⟨rfl, rfl, rfl, rfl, rfl⟩ rfl rfl rfl rfl rfl (by kernel_rfl) Tryd.func5 (by kernel_rfl)
    (of_decide_eq_true (by kernel_rfl)) (by unfold Func.isWrapper; first | (rw [if_pos (by decide +kernel)]; kernel_rfl) | (rw [if_neg (by decide +kernel)]; exact ⟨rfl, rfl⟩))
    (fun os started H enc _ => lifted os started H enc)
theorem params_plain : (Tryd.f5.params.toList.all fun t => !(Tryd.prog.wantsStandIn t)) = true := by kernel_rfl
theorem card_holds : Rows.FitsNamesCardSaid :=
  Claim7.holds_tied_plain_at .later [] [.data, .data, .data] true (true, "d3a850d275ff5411f78dcaa36f283e0623b9cb375de2f4bc290eb90c2168d82f") false
    row_holds (fun _ h => by cases h) (by kernel_rfl) (fun _ h => by cases h) fitsNames_row_tie rfl ⟨rfl, rfl⟩ (by kernel_rfl) rfl
    (fun f fn hf hfn => by
      obtain rfl : f = 5 := Option.some.inj ((show Tryd.prog.funcNamed Rows.fitsNamesRow.func = some 5 by kernel_rfl).symm.trans hf) |>.symm
      obtain rfl : fn = Tryd.f5 := (Option.some.inj (Tryd.func5.symm.trans hfn)).symm
      refine ⟨by kernel_rfl, fun j t ht => ?_⟩
      have h := List.all_eq_true.1 params_plain t (List.mem_of_getElem? (by simpa using ht))
      exact (by simpa using h : Tryd.prog.wantsStandIn t = false))
    (by kernel_rfl)
#print axioms card_holds
end Go.Proofs.YtjpcafldmkffoaaDoor.FitsNames
