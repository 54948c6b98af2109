/- THE STATEMENT 'InterpFails': whatever the input, the law returns true, and the input reads as it did. Conditions: none but the row's own (the listed variables read as listed, which the card ties to the text). -/
import Derived.Test.YtoaankpddboioaaGreatDoorCards
import Derived.Test.YtoaankpddboioaaGreatDoorTie
import Derived.Test.YtoaankpddboioaaGreatDoorRInterpFailsP0
import Derived.Test.YtoaankpddboioaaGreatDoorRInterpFailsP1
import Derived.Test.YtoaankpddboioaaGreatDoorRInterpFailsP2
import Derived.Test.YtoaankpddboioaaGreatDoorRInterpFailsP3
import Derived.Test.YtoaankpddboioaaGreatDoorRInterpFailsP4
import Derived.Test.YtoaankpddboioaaGreatDoorRInterpFailsP5
import Derived.Test.YtoaankpddboioaaGreatDoorRInterpFailsP6
import Derived.Test.YtoaankpddboioaaGreatDoorRInterpFailsP7
import Derived.Test.YtoaankpddboioaaGreatDoorRInterpFailsP8
import Derived.Test.YtoaankpddboioaaGreatDoorRInterpFailsP9
import Derived.Test.YtoaankpddboioaaGreatDoorRInterpFailsP10
import Derived.Test.YtoaankpddboioaaGreatDoorRInterpFailsP11
import Derived.Test.YtoaankpddboioaaGreatDoorShelf
import Derived.ProofKit
import Derived.OpenShut
import Derived.LaidLaws
import Derived.Handed
import Derived.JoinedOf
set_option linter.unusedVariables false
set_option maxRecDepth 100000
namespace Go.Proofs.YtoaankpddboioaaGreatDoor.InterpFails
open Go Go.AI Go.ChangeShapes Go.WideShapes Go.ChangeAt Go.RowKit
theorem own : ownKnob Tryz.prog.godebug = none := by kernel_rfl
theorem mixed : Tryz.prog.follows .mixedOrders = true := by kernel_rfl
theorem handed {H : Type} {enc : TypeId × Value → H} {a : Assume} {C : Checked} {os : Os} {f : FuncId} {fn : Func} {s : ChangeSpec} {conds : List PathCond} {apart fresh handsOn again : Bool} {X : World → Array Value → Prop}
    (hX : ∀ (w w' : World) (args : Array Value), w.heap = w'.heap → X w args → X w' args)
    (own : ownKnob C.prog.godebug = none) (started : os.Started) (noInit : C.prog.inits.idxOf? f = none) (hfn : C.prog.funcs[f]? = some fn)
    (witness : ∃ (w : World) (tape : Tape) (i : Input), w.os = os ∧ (w.forCall tape i).Shaped C.prog ∧ i.vars = [] ∧ Input.okWide C.prog (w.forCall tape i) .any w.heap.size f i ∧
      ((s.pre enc C.prog fn conds apart (w.forCall tape i).memory i.args ∧ X (w.forCall tape i).memory i.args) ∧ sizedMet enc C.prog fn (OpenSpec.ofChange s) apart (w.forCall tape i).memory i.args) ∧ a.holds C.prog (lone (Frame.enter C.prog f i.args .normal) [] (w.forCall tape i)))
    (contract : ∀ (W : World) (base : Nat) (args : Array Value) (ds gs : List (DataW H)) (before : List MemPlace),
      (∀ (j : Nat) t v, fn.params[j]? = some t → args[j]? = some v → Value.okWide C.prog W .any base t v) →
      DataW.Whole enc C.prog fn.params.toList s.vars apart W args.toList ds gs before →
      conds.all (PathCond.test C.prog ⟨fn.params.toList, ds, s.plain.varTypes C.prog, gs⟩) = true → X W args → W.ShapedOpen C.prog →
      Calls C.prog f args W fun e W' => ∃ v, e = .returned v ∧ s.post enc C.prog fn apart fresh handsOn again W args v W') :
    ReturnsInHanded a C os f .any (fun w args => (s.pre enc C.prog fn conds apart w args ∧ X w args) ∧ sizedMet enc C.prog fn (OpenSpec.ofChange s) apart w args) (s.post enc C.prog fn apart fresh handsOn again) := by
  refine returnsInHanded_of_calls own started noInit witness ?_
  intro w tape i _ hsh _ hok hpre hholds
  obtain ⟨_, _, _, fn', hfn', _, _, _, _, hval⟩ := hok
  have e : fn' = fn := Option.some.inj (hfn'.symm.trans hfn)
  subst e
  obtain ⟨⟨⟨ds, gs, before, hw, hc⟩, hx⟩, hz⟩ := hpre
  have hw' := DataW.Whole.of_heap (w' := w.forCall tape i) (by rfl) hw
  refine (contract (w.forCall tape i) w.heap.size i.args ds gs before hval hw' hc (hX _ _ _ (by rfl) hx) hsh).mono fun e W' ⟨v, he, hp⟩ => ?_
  subst he
  exact ChangeSpec.post_blind hp
theorem tabs_ok : ∀ t ∈ Ab.tabs, TablOK Tryz.prog Rows.interpFailsRow.laid t := by
  intro t ht
  cases ht
theorem walk (a0 : Int) (a1 : Int) (w0 : (Lit.int .i64 a0).wf = true) (w1 : (Lit.int .i64 a1).wf = true) (w : World) (hl : laidMet Tryz.prog Rows.interpFailsRow.laid w) (hsh : w.ShapedOpen Tryz.prog) : Calls Tryz.prog 5 #[.int .i64 a0, .int .i64 a1] w fun e w' => e = .returned (.bool true) ∧ Below w.heap.size w w' := by
  obtain ⟨m63, hm63⟩ := cell_of_shapedOpen_int (P := Tryz.prog) (g := 1) (t := 3) (zero := #[.int .i64 0]) hsh (of_decide_eq_true (by kernel_rfl)) (by kernel_rfl) rfl (by kernel_rfl) (by kernel_rfl) Tryz.underlying3
  letI : Sym := ⟨fun i => match i with | 0 => a0 | 1 => a1 | 63 => m63 | _ => 0⟩
  have g0 : -9223372036854775808 ≤ a0 ∧ a0 ≤ 9223372036854775807 := by have h : (decide (IntKind.min .i64 ≤ a0) && decide (a0 ≤ IntKind.max .i64)) = true := w0; simp only [Bool.and_eq_true, decide_eq_true_eq] at h; exact h
  have g1 : -9223372036854775808 ≤ a1 ∧ a1 ≤ 9223372036854775807 := by have h : (decide (IntKind.min .i64 ≤ a1) && decide (a1 ≤ IntKind.max .i64)) = true := w1; simp only [Bool.and_eq_true, decide_eq_true_eq] at h; exact h
  obtain ⟨k0, e0, l0⟩ : ∃ k : Nat, wi a0 12 = .ofNat k ∧ k < 12 := ⟨(wi a0 12).toNat, by have := wi_bounds a0 12 (by decide); simp only [Int.ofNat_eq_natCast]; omega, by have := wi_bounds a0 12 (by decide); omega⟩
  obtain ⟨k1, e1, l1⟩ : ∃ k : Nat, wi a1 14 = .ofNat k ∧ k < 14 := ⟨(wi a1 14).toNat, by have := wi_bounds a1 14 (by decide); simp only [Int.ofNat_eq_natCast]; omega, by have := wi_bounds a1 14 (by decide); omega⟩
  have hJ : ∀ i off n j, Ab.InterpFails.jt (.ofNat k0) (.ofNat k1) i off n = some j → 0 < n ∧ n < 2 ^ 40 ∧ wi (Sym.num i + off) n = j := by
    intro i off n j h
    unfold Ab.InterpFails.jt at h
    simp only [beq_dec, beqI_eq, ← Bool.decide_and, Bool.cond_decide] at h
    by_cases c0 : i = 0 ∧ n = 12 ∧ off = 0
    · rw [if_pos c0] at h; obtain ⟨rfl, rfl, rfl⟩ := c0; exact ⟨by decide, by decide, (congrArg (fun z => wi z 12) (Int.add_zero _)).trans (e0.trans (Option.some.inj h))⟩
    rw [if_neg c0] at h
    by_cases c1 : i = 1 ∧ n = 14 ∧ off = 0
    · rw [if_pos c1] at h; obtain ⟨rfl, rfl, rfl⟩ := c1; exact ⟨by decide, by decide, (congrArg (fun z => wi z 14) (Int.add_zero _)).trans (e1.trans (Option.some.inj h))⟩
    rw [if_neg c1] at h
    cases h
  have hp : Ab.InterpFails.p k0 k1 = true := by
    match k0, l0, k1, l1 with
    | 0, _, 0, _ => exact Ab.InterpFails.run_0_0
    | 0, _, 1, _ => exact Ab.InterpFails.run_0_1
    | 0, _, 2, _ => exact Ab.InterpFails.run_0_2
    | 0, _, 3, _ => exact Ab.InterpFails.run_0_3
    | 0, _, 4, _ => exact Ab.InterpFails.run_0_4
    | 0, _, 5, _ => exact Ab.InterpFails.run_0_5
    | 0, _, 6, _ => exact Ab.InterpFails.run_0_6
    | 0, _, 7, _ => exact Ab.InterpFails.run_0_7
    | 0, _, 8, _ => exact Ab.InterpFails.run_0_8
    | 0, _, 9, _ => exact Ab.InterpFails.run_0_9
    | 0, _, 10, _ => exact Ab.InterpFails.run_0_10
    | 0, _, 11, _ => exact Ab.InterpFails.run_0_11
    | 0, _, 12, _ => exact Ab.InterpFails.run_0_12
    | 0, _, 13, _ => exact Ab.InterpFails.run_0_13
    | 1, _, 0, _ => exact Ab.InterpFails.run_1_0
    | 1, _, 1, _ => exact Ab.InterpFails.run_1_1
    | 1, _, 2, _ => exact Ab.InterpFails.run_1_2
    | 1, _, 3, _ => exact Ab.InterpFails.run_1_3
    | 1, _, 4, _ => exact Ab.InterpFails.run_1_4
    | 1, _, 5, _ => exact Ab.InterpFails.run_1_5
    | 1, _, 6, _ => exact Ab.InterpFails.run_1_6
    | 1, _, 7, _ => exact Ab.InterpFails.run_1_7
    | 1, _, 8, _ => exact Ab.InterpFails.run_1_8
    | 1, _, 9, _ => exact Ab.InterpFails.run_1_9
    | 1, _, 10, _ => exact Ab.InterpFails.run_1_10
    | 1, _, 11, _ => exact Ab.InterpFails.run_1_11
    | 1, _, 12, _ => exact Ab.InterpFails.run_1_12
    | 1, _, 13, _ => exact Ab.InterpFails.run_1_13
    | 2, _, 0, _ => exact Ab.InterpFails.run_2_0
    | 2, _, 1, _ => exact Ab.InterpFails.run_2_1
    | 2, _, 2, _ => exact Ab.InterpFails.run_2_2
    | 2, _, 3, _ => exact Ab.InterpFails.run_2_3
    | 2, _, 4, _ => exact Ab.InterpFails.run_2_4
    | 2, _, 5, _ => exact Ab.InterpFails.run_2_5
    | 2, _, 6, _ => exact Ab.InterpFails.run_2_6
    | 2, _, 7, _ => exact Ab.InterpFails.run_2_7
    | 2, _, 8, _ => exact Ab.InterpFails.run_2_8
    | 2, _, 9, _ => exact Ab.InterpFails.run_2_9
    | 2, _, 10, _ => exact Ab.InterpFails.run_2_10
    | 2, _, 11, _ => exact Ab.InterpFails.run_2_11
    | 2, _, 12, _ => exact Ab.InterpFails.run_2_12
    | 2, _, 13, _ => exact Ab.InterpFails.run_2_13
    | 3, _, 0, _ => exact Ab.InterpFails.run_3_0
    | 3, _, 1, _ => exact Ab.InterpFails.run_3_1
    | 3, _, 2, _ => exact Ab.InterpFails.run_3_2
    | 3, _, 3, _ => exact Ab.InterpFails.run_3_3
    | 3, _, 4, _ => exact Ab.InterpFails.run_3_4
    | 3, _, 5, _ => exact Ab.InterpFails.run_3_5
    | 3, _, 6, _ => exact Ab.InterpFails.run_3_6
    | 3, _, 7, _ => exact Ab.InterpFails.run_3_7
    | 3, _, 8, _ => exact Ab.InterpFails.run_3_8
    | 3, _, 9, _ => exact Ab.InterpFails.run_3_9
    | 3, _, 10, _ => exact Ab.InterpFails.run_3_10
    | 3, _, 11, _ => exact Ab.InterpFails.run_3_11
    | 3, _, 12, _ => exact Ab.InterpFails.run_3_12
    | 3, _, 13, _ => exact Ab.InterpFails.run_3_13
    | 4, _, 0, _ => exact Ab.InterpFails.run_4_0
    | 4, _, 1, _ => exact Ab.InterpFails.run_4_1
    | 4, _, 2, _ => exact Ab.InterpFails.run_4_2
    | 4, _, 3, _ => exact Ab.InterpFails.run_4_3
    | 4, _, 4, _ => exact Ab.InterpFails.run_4_4
    | 4, _, 5, _ => exact Ab.InterpFails.run_4_5
    | 4, _, 6, _ => exact Ab.InterpFails.run_4_6
    | 4, _, 7, _ => exact Ab.InterpFails.run_4_7
    | 4, _, 8, _ => exact Ab.InterpFails.run_4_8
    | 4, _, 9, _ => exact Ab.InterpFails.run_4_9
    | 4, _, 10, _ => exact Ab.InterpFails.run_4_10
    | 4, _, 11, _ => exact Ab.InterpFails.run_4_11
    | 4, _, 12, _ => exact Ab.InterpFails.run_4_12
    | 4, _, 13, _ => exact Ab.InterpFails.run_4_13
    | 5, _, 0, _ => exact Ab.InterpFails.run_5_0
    | 5, _, 1, _ => exact Ab.InterpFails.run_5_1
    | 5, _, 2, _ => exact Ab.InterpFails.run_5_2
    | 5, _, 3, _ => exact Ab.InterpFails.run_5_3
    | 5, _, 4, _ => exact Ab.InterpFails.run_5_4
    | 5, _, 5, _ => exact Ab.InterpFails.run_5_5
    | 5, _, 6, _ => exact Ab.InterpFails.run_5_6
    | 5, _, 7, _ => exact Ab.InterpFails.run_5_7
    | 5, _, 8, _ => exact Ab.InterpFails.run_5_8
    | 5, _, 9, _ => exact Ab.InterpFails.run_5_9
    | 5, _, 10, _ => exact Ab.InterpFails.run_5_10
    | 5, _, 11, _ => exact Ab.InterpFails.run_5_11
    | 5, _, 12, _ => exact Ab.InterpFails.run_5_12
    | 5, _, 13, _ => exact Ab.InterpFails.run_5_13
    | 6, _, 0, _ => exact Ab.InterpFails.run_6_0
    | 6, _, 1, _ => exact Ab.InterpFails.run_6_1
    | 6, _, 2, _ => exact Ab.InterpFails.run_6_2
    | 6, _, 3, _ => exact Ab.InterpFails.run_6_3
    | 6, _, 4, _ => exact Ab.InterpFails.run_6_4
    | 6, _, 5, _ => exact Ab.InterpFails.run_6_5
    | 6, _, 6, _ => exact Ab.InterpFails.run_6_6
    | 6, _, 7, _ => exact Ab.InterpFails.run_6_7
    | 6, _, 8, _ => exact Ab.InterpFails.run_6_8
    | 6, _, 9, _ => exact Ab.InterpFails.run_6_9
    | 6, _, 10, _ => exact Ab.InterpFails.run_6_10
    | 6, _, 11, _ => exact Ab.InterpFails.run_6_11
    | 6, _, 12, _ => exact Ab.InterpFails.run_6_12
    | 6, _, 13, _ => exact Ab.InterpFails.run_6_13
    | 7, _, 0, _ => exact Ab.InterpFails.run_7_0
    | 7, _, 1, _ => exact Ab.InterpFails.run_7_1
    | 7, _, 2, _ => exact Ab.InterpFails.run_7_2
    | 7, _, 3, _ => exact Ab.InterpFails.run_7_3
    | 7, _, 4, _ => exact Ab.InterpFails.run_7_4
    | 7, _, 5, _ => exact Ab.InterpFails.run_7_5
    | 7, _, 6, _ => exact Ab.InterpFails.run_7_6
    | 7, _, 7, _ => exact Ab.InterpFails.run_7_7
    | 7, _, 8, _ => exact Ab.InterpFails.run_7_8
    | 7, _, 9, _ => exact Ab.InterpFails.run_7_9
    | 7, _, 10, _ => exact Ab.InterpFails.run_7_10
    | 7, _, 11, _ => exact Ab.InterpFails.run_7_11
    | 7, _, 12, _ => exact Ab.InterpFails.run_7_12
    | 7, _, 13, _ => exact Ab.InterpFails.run_7_13
    | 8, _, 0, _ => exact Ab.InterpFails.run_8_0
    | 8, _, 1, _ => exact Ab.InterpFails.run_8_1
    | 8, _, 2, _ => exact Ab.InterpFails.run_8_2
    | 8, _, 3, _ => exact Ab.InterpFails.run_8_3
    | 8, _, 4, _ => exact Ab.InterpFails.run_8_4
    | 8, _, 5, _ => exact Ab.InterpFails.run_8_5
    | 8, _, 6, _ => exact Ab.InterpFails.run_8_6
    | 8, _, 7, _ => exact Ab.InterpFails.run_8_7
    | 8, _, 8, _ => exact Ab.InterpFails.run_8_8
    | 8, _, 9, _ => exact Ab.InterpFails.run_8_9
    | 8, _, 10, _ => exact Ab.InterpFails.run_8_10
    | 8, _, 11, _ => exact Ab.InterpFails.run_8_11
    | 8, _, 12, _ => exact Ab.InterpFails.run_8_12
    | 8, _, 13, _ => exact Ab.InterpFails.run_8_13
    | 9, _, 0, _ => exact Ab.InterpFails.run_9_0
    | 9, _, 1, _ => exact Ab.InterpFails.run_9_1
    | 9, _, 2, _ => exact Ab.InterpFails.run_9_2
    | 9, _, 3, _ => exact Ab.InterpFails.run_9_3
    | 9, _, 4, _ => exact Ab.InterpFails.run_9_4
    | 9, _, 5, _ => exact Ab.InterpFails.run_9_5
    | 9, _, 6, _ => exact Ab.InterpFails.run_9_6
    | 9, _, 7, _ => exact Ab.InterpFails.run_9_7
    | 9, _, 8, _ => exact Ab.InterpFails.run_9_8
    | 9, _, 9, _ => exact Ab.InterpFails.run_9_9
    | 9, _, 10, _ => exact Ab.InterpFails.run_9_10
    | 9, _, 11, _ => exact Ab.InterpFails.run_9_11
    | 9, _, 12, _ => exact Ab.InterpFails.run_9_12
    | 9, _, 13, _ => exact Ab.InterpFails.run_9_13
    | 10, _, 0, _ => exact Ab.InterpFails.run_10_0
    | 10, _, 1, _ => exact Ab.InterpFails.run_10_1
    | 10, _, 2, _ => exact Ab.InterpFails.run_10_2
    | 10, _, 3, _ => exact Ab.InterpFails.run_10_3
    | 10, _, 4, _ => exact Ab.InterpFails.run_10_4
    | 10, _, 5, _ => exact Ab.InterpFails.run_10_5
    | 10, _, 6, _ => exact Ab.InterpFails.run_10_6
    | 10, _, 7, _ => exact Ab.InterpFails.run_10_7
    | 10, _, 8, _ => exact Ab.InterpFails.run_10_8
    | 10, _, 9, _ => exact Ab.InterpFails.run_10_9
    | 10, _, 10, _ => exact Ab.InterpFails.run_10_10
    | 10, _, 11, _ => exact Ab.InterpFails.run_10_11
    | 10, _, 12, _ => exact Ab.InterpFails.run_10_12
    | 10, _, 13, _ => exact Ab.InterpFails.run_10_13
    | 11, _, 0, _ => exact Ab.InterpFails.run_11_0
    | 11, _, 1, _ => exact Ab.InterpFails.run_11_1
    | 11, _, 2, _ => exact Ab.InterpFails.run_11_2
    | 11, _, 3, _ => exact Ab.InterpFails.run_11_3
    | 11, _, 4, _ => exact Ab.InterpFails.run_11_4
    | 11, _, 5, _ => exact Ab.InterpFails.run_11_5
    | 11, _, 6, _ => exact Ab.InterpFails.run_11_6
    | 11, _, 7, _ => exact Ab.InterpFails.run_11_7
    | 11, _, 8, _ => exact Ab.InterpFails.run_11_8
    | 11, _, 9, _ => exact Ab.InterpFails.run_11_9
    | 11, _, 10, _ => exact Ab.InterpFails.run_11_10
    | 11, _, 11, _ => exact Ab.InterpFails.run_11_11
    | 11, _, 12, _ => exact Ab.InterpFails.run_11_12
    | 11, _, 13, _ => exact Ab.InterpFails.run_11_13
  exact walk_laidU mixed tabs_ok Ab.tab_ok Ab.blks_ok (orS_sound (SW_soundU mixed Ab.tab_ok Ab.blks_ok Ab.within_ok_spruelaw16 hJ) (SI_sound (g := 1) (by kernel_rfl) ⟨Tryz.f139, Tryz.func139, by kernel_rfl, of_decide_eq_true (by kernel_rfl)⟩ fun s sub m w h1 h2 => Tryz.stringslite_Index s sub m w h1 h2)) (by kernel_rfl) hp w hl (fun g h => by cases h; exact hm63) ⟨pv_sym .i64 0 _ _ a0 rfl g0.1 g0.2, pv_sym .i64 1 _ _ a1 rfl g1.1 g1.2, trivial⟩
noncomputable def cells0 : Array Value := #[.int .u8 0, .int .u8 1, .int .u8 28, .int .u8 2, .int .u8 29, .int .u8 14, .int .u8 24, .int .u8 3, .int .u8 30, .int .u8 22, .int .u8 20, .int .u8 15, .int .u8 25, .int .u8 17, .int .u8 4, .int .u8 8, .int .u8 31, .int .u8 27, .int .u8 13, .int .u8 23, .int .u8 21, .int .u8 19, .int .u8 16, .int .u8 7, .int .u8 26, .int .u8 12, .int .u8 18, .int .u8 6, .int .u8 11, .int .u8 5, .int .u8 10, .int .u8 9]
noncomputable def cells1 : Array Value := #[.int .u8 0, .int .u8 1, .int .u8 56, .int .u8 2, .int .u8 57, .int .u8 49, .int .u8 28, .int .u8 3, .int .u8 61, .int .u8 58, .int .u8 42, .int .u8 50, .int .u8 38, .int .u8 29, .int .u8 17, .int .u8 4, .int .u8 62, .int .u8 47, .int .u8 59, .int .u8 36, .int .u8 45, .int .u8 43, .int .u8 51, .int .u8 22, .int .u8 53, .int .u8 39, .int .u8 33, .int .u8 30, .int .u8 24, .int .u8 18, .int .u8 12, .int .u8 5, .int .u8 63, .int .u8 55, .int .u8 48, .int .u8 27, .int .u8 60, .int .u8 41, .int .u8 37, .int .u8 16, .int .u8 46, .int .u8 35, .int .u8 44, .int .u8 21, .int .u8 52, .int .u8 32, .int .u8 23, .int .u8 11, .int .u8 54, .int .u8 26, .int .u8 40, .int .u8 15, .int .u8 34, .int .u8 20, .int .u8 31, .int .u8 10, .int .u8 25, .int .u8 14, .int .u8 19, .int .u8 9, .int .u8 13, .int .u8 8, .int .u8 7, .int .u8 6]
noncomputable def cells2 : Array Value := #[.int .u64 1, .int .u64 10, .int .u64 100, .int .u64 1000, .int .u64 10000, .int .u64 100000, .int .u64 1000000, .int .u64 10000000, .int .u64 100000000, .int .u64 1000000000, .int .u64 10000000000, .int .u64 100000000000, .int .u64 1000000000000, .int .u64 10000000000000, .int .u64 100000000000000, .int .u64 1000000000000000, .int .u64 10000000000000000, .int .u64 100000000000000000, .int .u64 1000000000000000000, .int .u64 10000000000000000000]
noncomputable def laidWorld (os : Os) : World := { (World.holding Tryz.prog os ⟨#[], #[], []⟩) with heap := ((((World.holding Tryz.prog os ⟨#[], #[], []⟩).heap.modify 2 fun | .cells _ t frozen => .cells cells0 t frozen | o => o).modify 3 fun | .cells _ t frozen => .cells cells1 t frozen | o => o).modify 0 fun | .cells _ t frozen => .cells cells2 t frozen | o => o) }
theorem laid_met (os : Os) (args : Array Value) : laidMet Tryz.prog Rows.interpFailsRow.laid ((laidWorld os).forCall (fun _ _ => 0) ⟨#[], args, []⟩).memory := laidMet_of_run' 10 (by kernel_rfl) (by kernel_rfl)
theorem lifted (os : Os) (started : os.Started) (H : Type) (enc : TypeId × Value → H) :
    ReturnsInHanded {} Tryz.checked os 5 .any (fun w args => (Rows.interpFailsSpec.pre enc Tryz.prog Tryz.f5 [] false w args ∧ laidMet Tryz.prog Rows.interpFailsRow.laid w) ∧ sizedMet enc Tryz.prog Tryz.f5 (OpenSpec.ofChange Rows.interpFailsSpec) false w args) (Rows.interpFailsSpec.post enc Tryz.prog Tryz.f5 false true false false) := by
  refine handed (C := Tryz.checked) (X := fun w _ => laidMet Tryz.prog Rows.interpFailsRow.laid w) (fun _ _ _ hh h => h.of_heap hh) own started (by kernel_rfl) Tryz.func5
    (ChangeSpec.witness_shaped (enc := enc) (C := Tryz.checked) (os := os) (X := fun w _ => laidMet Tryz.prog Rows.interpFailsRow.laid w) false (laidWorld os) #[.int .i64 0, .int .i64 0] 8 rfl (World.shaped_of_RefB (by kernel_rfl) (by kernel_rfl)) (by kernel_rfl) (by kernel_rfl) (by kernel_rfl) (laid_met os _)) ?_
  intro W base args ds gs before hval0 hW _ hL hsh
  have hval : ∀ (j : Nat) t v, Tryz.f5.params[j]? = some t → args[j]? = some v → Value.okWide Tryz.prog W .any base t v := hval0
  have hW' := hW
  obtain ⟨p, q, hA0, hV, rfl, hfz, hnd⟩ := hW
  have hA : DataW.TrodAll enc Tryz.prog W 0 (fun _ => true) true Tryz.f5.params.toList args.toList ds p := hA0
  rw [Tryz.params5] at hA hval
  obtain ⟨v0, vs0, d0, ds0, p0, q0, hargs, rfl, rfl, h0, r0⟩ := trodAll_cons hA
  obtain ⟨v1, vs1, d1, ds1, p1, q1, rfl, rfl, rfl, h1, r1⟩ := trodAll_cons r0
  obtain ⟨rfl, rfl, rfl⟩ := trodAll_nil r1
  obtain rfl : args = #[v0, v1] := by cases args; simp_all
  obtain ⟨rfl, rfl⟩ := trodVars_none hV
  obtain ⟨a0, rfl, rfl, rfl, w0⟩ := open_int Tryz.underlying3 (hval 0 3 v0 rfl rfl) h0
  obtain ⟨a1, rfl, rfl, rfl, w1⟩ := open_int Tryz.underlying3 (hval 1 3 v1 rfl rfl) h1
  clear hA0 hval0
  simp only [List.append_nil] at hW'
  refine (walk a0 a1 w0 w1 W hL hsh).mono fun e W' ⟨he, hg⟩ => ?_
  subst he
  letI : Sym := ⟨fun _ => 0⟩
  exact ⟨_, rfl, post_plain hW' (pa := []) (pv := []) (fun _ _ _ => (trodAll_cons_mk (shut_bool Tryz.underlying4 _) trodAll_mk0)) (fun sp _ => (trodAll_cons_mk (shut_int Tryz.underlying3 w0) (trodAll_cons_mk (shut_int Tryz.underlying3 w1) trodAll_mk0))) (fun _ _ => rfl) rfl hg⟩
theorem row_holds : Rows.InterpFailsSaid :=
  OpenClaim.holds_of_wide 5 Tryz.f5 rfl rfl rfl rfl rfl rfl rfl ⟨rfl, rfl, rfl, rfl, rfl⟩ rfl rfl rfl rfl rfl (by kernel_rfl) Tryz.func5 (by kernel_rfl)
    (of_decide_eq_true (by kernel_rfl)) (by unfold Func.isWrapper; first | (rw [if_pos (by decide +kernel)]; kernel_rfl) | (rw [if_neg (by decide +kernel)]; exact ⟨rfl, rfl⟩))
    (fun os started H enc _ => lifted os started H enc)
theorem params_plain : (Tryz.f5.params.toList.all fun t => !(Tryz.prog.wantsStandIn t)) = true := by kernel_rfl
theorem card_holds : Rows.InterpFailsCardSaid :=
  Claim7.holds_tied_plain_at .later [] [.data, .data, .data] true (true, "ebd97c23807507720a4de2be02c440c85806571e23ed46cb1478682633879ab8") false
    row_holds (fun _ h => by cases h) (by kernel_rfl) (fun _ h => by cases h) interpFails_row_tie rfl ⟨rfl, rfl⟩ (by kernel_rfl) rfl
    (fun f fn hf hfn => by
      obtain rfl : f = 5 := Option.some.inj ((show Tryz.prog.funcNamed Rows.interpFailsRow.func = some 5 by kernel_rfl).symm.trans hf) |>.symm
      obtain rfl : fn = Tryz.f5 := (Option.some.inj (Tryz.func5.symm.trans hfn)).symm
      refine ⟨by kernel_rfl, fun j t ht => ?_⟩
      have h := List.all_eq_true.1 params_plain t (List.mem_of_getElem? (by simpa using ht))
      exact (by simpa using h : Tryz.prog.wantsStandIn t = false))
    (by kernel_rfl)
#print axioms card_holds
end Go.Proofs.YtoaankpddboioaaGreatDoor.InterpFails
