/- THE STATEMENT 'TreePaths': whatever the input, the law returns true, and the input reads as it did. Conditions: none but the row's own (the listed variables read as listed, which the card ties to the text). -/
import Derived.Test.YtegimihckejnkaaDoorCards
import Derived.Test.YtegimihckejnkaaDoorTie
import Derived.Test.YtegimihckejnkaaDoorRTreePathsP0
import Derived.Test.YtegimihckejnkaaDoorRTreePathsP1
import Derived.Test.YtegimihckejnkaaDoorRTreePathsP2
import Derived.Test.YtegimihckejnkaaDoorRTreePathsP3
import Derived.Test.YtegimihckejnkaaDoorRTreePathsP4
import Derived.Test.YtegimihckejnkaaDoorRTreePathsP5
import Derived.Test.YtegimihckejnkaaDoorRTreePathsP6
import Derived.Test.YtegimihckejnkaaDoorRTreePathsP7
import Derived.Test.YtegimihckejnkaaDoorShelf
import Derived.ProofKit
import Derived.OpenShut
import Derived.LaidLaws
import Derived.Handed
import Derived.JoinedOf
set_option linter.unusedVariables false
set_option maxRecDepth 100000
namespace Go.Proofs.YtegimihckejnkaaDoor.TreePaths
open Go Go.AI Go.ChangeShapes Go.WideShapes Go.ChangeAt Go.RowKit
theorem own : ownKnob Tryd.prog.godebug = none := by kernel_rfl
theorem mixed : Tryd.prog.follows .mixedOrders = true := by kernel_rfl
theorem handed {H : Type} {enc : TypeId × Value → H} {a : Assume} {C : Checked} {os : Os} {f : FuncId} {fn : Func} {s : ChangeSpec} {conds : List PathCond} {apart fresh handsOn again : Bool} {X : World → Array Value → Prop}
    (hX : ∀ (w w' : World) (args : Array Value), w.heap = w'.heap → X w args → X w' args)
    (own : ownKnob C.prog.godebug = none) (started : os.Started) (noInit : C.prog.inits.idxOf? f = none) (hfn : C.prog.funcs[f]? = some fn)
    (witness : ∃ (w : World) (tape : Tape) (i : Input), w.os = os ∧ (w.forCall tape i).Shaped C.prog ∧ i.vars = [] ∧ Input.okWide C.prog (w.forCall tape i) .any w.heap.size f i ∧
      ((s.pre enc C.prog fn conds apart (w.forCall tape i).memory i.args ∧ X (w.forCall tape i).memory i.args) ∧ sizedMet enc C.prog fn (OpenSpec.ofChange s) apart (w.forCall tape i).memory i.args) ∧ a.holds C.prog (lone (Frame.enter C.prog f i.args .normal) [] (w.forCall tape i)))
    (contract : ∀ (W : World) (base : Nat) (args : Array Value) (ds gs : List (DataW H)) (before : List MemPlace),
      (∀ (j : Nat) t v, fn.params[j]? = some t → args[j]? = some v → Value.okWide C.prog W .any base t v) →
      DataW.Whole enc C.prog fn.params.toList s.vars apart W args.toList ds gs before →
      conds.all (PathCond.test C.prog ⟨fn.params.toList, ds, s.plain.varTypes C.prog, gs⟩) = true → X W args → W.ShapedOpen C.prog →
      Calls C.prog f args W fun e W' => ∃ v, e = .returned v ∧ s.post enc C.prog fn apart fresh handsOn again W args v W') :
    ReturnsInHanded a C os f .any (fun w args => (s.pre enc C.prog fn conds apart w args ∧ X w args) ∧ sizedMet enc C.prog fn (OpenSpec.ofChange s) apart w args) (s.post enc C.prog fn apart fresh handsOn again) := by
  refine returnsInHanded_of_calls own started noInit witness ?_
  intro w tape i _ hsh _ hok hpre hholds
  obtain ⟨_, _, _, fn', hfn', _, _, _, _, hval⟩ := hok
  have e : fn' = fn := Option.some.inj (hfn'.symm.trans hfn)
  subst e
  obtain ⟨⟨⟨ds, gs, before, hw, hc⟩, hx⟩, hz⟩ := hpre
  have hw' := DataW.Whole.of_heap (w' := w.forCall tape i) (by rfl) hw
  refine (contract (w.forCall tape i) w.heap.size i.args ds gs before hval hw' hc (hX _ _ _ (by rfl) hx) hsh).mono fun e W' ⟨v, he, hp⟩ => ?_
  subst he
  exact ChangeSpec.post_blind hp
theorem tabs_ok : ∀ t ∈ Ab.tabs, TablOK Tryd.prog Rows.treePathsRow.laid t := by
  intro t ht
  obtain rfl := List.mem_singleton.1 ht
  have e : (Rows.laid_strings_asciiSpace : DataW Unit) = .agg (Ab.vals0.map fun v => .lit (.int .u8 v)) := by kernel_rfl
  have m : (("strings.asciiSpace" : String), (Rows.laid_strings_asciiSpace : DataW Unit)) ∈ Rows.treePathsRow.laid := .tail _ (.tail _ (.head _))
  exact ⟨(congrArg (fun d => (("strings.asciiSpace" : String), d) ∈ Rows.treePathsRow.laid) e).mp m, by kernel_rfl, 176, 5, 256, by kernel_rfl, Tryd.underlying176, Tryd.underlying5, by kernel_rfl⟩
theorem walk (a0 : Int) (a1 : Int) (a2 : Bool) (a3 : Int) (w0 : (Lit.int .i64 a0).wf = true) (w1 : (Lit.int .i64 a1).wf = true) (w3 : (Lit.int .i64 a3).wf = true) (w : World) (hl : laidMet Tryd.prog Rows.treePathsRow.laid w) (hsh : w.ShapedOpen Tryd.prog) : Calls Tryd.prog 8 #[.int .i64 a0, .int .i64 a1, .bool a2, .int .i64 a3] w fun e w' => e = .returned (.bool true) ∧ Below w.heap.size w w' := by
  obtain ⟨m63, hm63⟩ := cell_of_shapedOpen_int (P := Tryd.prog) (g := 0) (t := 3) (zero := #[.int .i64 0]) hsh (of_decide_eq_true (by kernel_rfl)) (by kernel_rfl) rfl (by kernel_rfl) (by kernel_rfl) Tryd.underlying3
  letI : Sym := ⟨fun i => match i with | 0 => a0 | 1 => a1 | 3 => a3 | 63 => m63 | _ => 0⟩
  have g0 : -9223372036854775808 ≤ a0 ∧ a0 ≤ 9223372036854775807 := by have h : (decide (IntKind.min .i64 ≤ a0) && decide (a0 ≤ IntKind.max .i64)) = true := w0; simp only [Bool.and_eq_true, decide_eq_true_eq] at h; exact h
  have g1 : -9223372036854775808 ≤ a1 ∧ a1 ≤ 9223372036854775807 := by have h : (decide (IntKind.min .i64 ≤ a1) && decide (a1 ≤ IntKind.max .i64)) = true := w1; simp only [Bool.and_eq_true, decide_eq_true_eq] at h; exact h
  have g3 : -9223372036854775808 ≤ a3 ∧ a3 ≤ 9223372036854775807 := by have h : (decide (IntKind.min .i64 ≤ a3) && decide (a3 ≤ IntKind.max .i64)) = true := w3; simp only [Bool.and_eq_true, decide_eq_true_eq] at h; exact h
  obtain ⟨k0, e0, l0⟩ : ∃ k : Nat, wi a0 4 = .ofNat k ∧ k < 4 := ⟨(wi a0 4).toNat, by have := wi_bounds a0 4 (by decide); simp only [Int.ofNat_eq_natCast]; omega, by have := wi_bounds a0 4 (by decide); omega⟩
  obtain ⟨k1, e1, l1⟩ : ∃ k : Nat, wi a1 4 = .ofNat k ∧ k < 4 := ⟨(wi a1 4).toNat, by have := wi_bounds a1 4 (by decide); simp only [Int.ofNat_eq_natCast]; omega, by have := wi_bounds a1 4 (by decide); omega⟩
  obtain ⟨k3, e3, l3⟩ : ∃ k : Nat, wi a3 4 = .ofNat k ∧ k < 4 := ⟨(wi a3 4).toNat, by have := wi_bounds a3 4 (by decide); simp only [Int.ofNat_eq_natCast]; omega, by have := wi_bounds a3 4 (by decide); omega⟩
  have hJ : ∀ i off n j, Ab.TreePaths.jt (.ofNat k0) (.ofNat k1) (.ofNat k3) i off n = some j → 0 < n ∧ n < 2 ^ 40 ∧ wi (Sym.num i + off) n = j := by
    intro i off n j h
    unfold Ab.TreePaths.jt at h
    simp only [beq_dec, beqI_eq, ← Bool.decide_and, Bool.cond_decide] at h
    by_cases c0 : i = 0 ∧ n = 4 ∧ off = 0
    · rw [if_pos c0] at h; obtain ⟨rfl, rfl, rfl⟩ := c0; exact ⟨by decide, by decide, (congrArg (fun z => wi z 4) (Int.add_zero _)).trans (e0.trans (Option.some.inj h))⟩
    rw [if_neg c0] at h
    by_cases c1 : i = 1 ∧ n = 4 ∧ off = 0
    · rw [if_pos c1] at h; obtain ⟨rfl, rfl, rfl⟩ := c1; exact ⟨by decide, by decide, (congrArg (fun z => wi z 4) (Int.add_zero _)).trans (e1.trans (Option.some.inj h))⟩
    rw [if_neg c1] at h
    by_cases c3 : i = 3 ∧ n = 4 ∧ off = 0
    · rw [if_pos c3] at h; obtain ⟨rfl, rfl, rfl⟩ := c3; exact ⟨by decide, by decide, (congrArg (fun z => wi z 4) (Int.add_zero _)).trans (e3.trans (Option.some.inj h))⟩
    rw [if_neg c3] at h
    cases h
  have hp : Ab.TreePaths.p k0 k1 k3 a2 = true := by
    match k0, l0, k1, l1, a2 with
    | 0, _, 0, _, true => exact (by have h := (all_range Ab.TreePaths.run_0_0 l3); simp only [Bool.and_eq_true] at h; simp only [h])
    | 0, _, 0, _, false => exact (by have h := (all_range Ab.TreePaths.run_0_0 l3); simp only [Bool.and_eq_true] at h; simp only [h])
    | 0, _, 1, _, true => exact (by have h := (all_range Ab.TreePaths.run_0_1 l3); simp only [Bool.and_eq_true] at h; simp only [h])
    | 0, _, 1, _, false => exact (by have h := (all_range Ab.TreePaths.run_0_1 l3); simp only [Bool.and_eq_true] at h; simp only [h])
    | 0, _, 2, _, true => exact (by have h := (all_range Ab.TreePaths.run_0_2 l3); simp only [Bool.and_eq_true] at h; simp only [h])
    | 0, _, 2, _, false => exact (by have h := (all_range Ab.TreePaths.run_0_2 l3); simp only [Bool.and_eq_true] at h; simp only [h])
    | 0, _, 3, _, true => exact (by have h := (all_range Ab.TreePaths.run_0_3 l3); simp only [Bool.and_eq_true] at h; simp only [h])
    | 0, _, 3, _, false => exact (by have h := (all_range Ab.TreePaths.run_0_3 l3); simp only [Bool.and_eq_true] at h; simp only [h])
    | 1, _, 0, _, true => exact (by have h := (all_range Ab.TreePaths.run_1_0 l3); simp only [Bool.and_eq_true] at h; simp only [h])
    | 1, _, 0, _, false => exact (by have h := (all_range Ab.TreePaths.run_1_0 l3); simp only [Bool.and_eq_true] at h; simp only [h])
    | 1, _, 1, _, true => exact (by have h := (all_range Ab.TreePaths.run_1_1 l3); simp only [Bool.and_eq_true] at h; simp only [h])
    | 1, _, 1, _, false => exact (by have h := (all_range Ab.TreePaths.run_1_1 l3); simp only [Bool.and_eq_true] at h; simp only [h])
    | 1, _, 2, _, true => exact (by have h := (all_range Ab.TreePaths.run_1_2 l3); simp only [Bool.and_eq_true] at h; simp only [h])
    | 1, _, 2, _, false => exact (by have h := (all_range Ab.TreePaths.run_1_2 l3); simp only [Bool.and_eq_true] at h; simp only [h])
    | 1, _, 3, _, true => exact (by have h := (all_range Ab.TreePaths.run_1_3 l3); simp only [Bool.and_eq_true] at h; simp only [h])
    | 1, _, 3, _, false => exact (by have h := (all_range Ab.TreePaths.run_1_3 l3); simp only [Bool.and_eq_true] at h; simp only [h])
    | 2, _, 0, _, true => exact (by have h := (all_range Ab.TreePaths.run_2_0 l3); simp only [Bool.and_eq_true] at h; simp only [h])
    | 2, _, 0, _, false => exact (by have h := (all_range Ab.TreePaths.run_2_0 l3); simp only [Bool.and_eq_true] at h; simp only [h])
    | 2, _, 1, _, true => exact (by have h := (all_range Ab.TreePaths.run_2_1 l3); simp only [Bool.and_eq_true] at h; simp only [h])
    | 2, _, 1, _, false => exact (by have h := (all_range Ab.TreePaths.run_2_1 l3); simp only [Bool.and_eq_true] at h; simp only [h])
    | 2, _, 2, _, true => exact (by have h := (all_range Ab.TreePaths.run_2_2 l3); simp only [Bool.and_eq_true] at h; simp only [h])
    | 2, _, 2, _, false => exact (by have h := (all_range Ab.TreePaths.run_2_2 l3); simp only [Bool.and_eq_true] at h; simp only [h])
    | 2, _, 3, _, true => exact (by have h := (all_range Ab.TreePaths.run_2_3 l3); simp only [Bool.and_eq_true] at h; simp only [h])
    | 2, _, 3, _, false => exact (by have h := (all_range Ab.TreePaths.run_2_3 l3); simp only [Bool.and_eq_true] at h; simp only [h])
    | 3, _, 0, _, true => exact (by have h := (all_range Ab.TreePaths.run_3_0 l3); simp only [Bool.and_eq_true] at h; simp only [h])
    | 3, _, 0, _, false => exact (by have h := (all_range Ab.TreePaths.run_3_0 l3); simp only [Bool.and_eq_true] at h; simp only [h])
    | 3, _, 1, _, true => exact (by have h := (all_range Ab.TreePaths.run_3_1 l3); simp only [Bool.and_eq_true] at h; simp only [h])
    | 3, _, 1, _, false => exact (by have h := (all_range Ab.TreePaths.run_3_1 l3); simp only [Bool.and_eq_true] at h; simp only [h])
    | 3, _, 2, _, true => exact (by have h := (all_range Ab.TreePaths.run_3_2 l3); simp only [Bool.and_eq_true] at h; simp only [h])
    | 3, _, 2, _, false => exact (by have h := (all_range Ab.TreePaths.run_3_2 l3); simp only [Bool.and_eq_true] at h; simp only [h])
    | 3, _, 3, _, true => exact (by have h := (all_range Ab.TreePaths.run_3_3 l3); simp only [Bool.and_eq_true] at h; simp only [h])
    | 3, _, 3, _, false => exact (by have h := (all_range Ab.TreePaths.run_3_3 l3); simp only [Bool.and_eq_true] at h; simp only [h])
  exact walk_laidU mixed tabs_ok Ab.tab_ok Ab.blks_ok (orS_sound (Ab.SLay_sound mixed) (orS_sound (orS_sound (SW_soundU mixed Ab.tab_ok Ab.blks_ok Ab.within_ok_spruelaw7 hJ) (SI_sound (g := 0) (by kernel_rfl) ⟨Tryd.f78, Tryd.func78, by kernel_rfl, of_decide_eq_true (by kernel_rfl)⟩ fun s sub m w h1 h2 => Tryd.stringslite_Index s sub m w h1 h2)) (SJ_sound ⟨Tryd.f96, Tryd.func96, by kernel_rfl, of_decide_eq_true (by kernel_rfl)⟩ (fun a c sep w => Tryd.strings_Join_none a c sep w) fun bk o c xs sep w h1 h2 h3 h4 h5 => Tryd.strings_Join bk o c xs sep w h1 h2 h3 h4 h5))) (by kernel_rfl) hp w hl (fun g h => by cases h; exact hm63) ⟨pv_sym .i64 0 _ _ a0 rfl g0.1 g0.2, pv_sym .i64 1 _ _ a1 rfl g1.1 g1.2, pv_bool a2, pv_sym .i64 3 _ _ a3 rfl g3.1 g3.2, trivial⟩
noncomputable def low : Nat := (World.settled Tryd.prog default).heap.size
noncomputable def cells0 : Array Value := #[.int .u8 128, .int .u8 191, .int .u8 160, .int .u8 191, .int .u8 128, .int .u8 159, .int .u8 144, .int .u8 191, .int .u8 128, .int .u8 143, .int .u8 0, .int .u8 0, .int .u8 0, .int .u8 0, .int .u8 0, .int .u8 0, .int .u8 0, .int .u8 0, .int .u8 0, .int .u8 0, .int .u8 0, .int .u8 0, .int .u8 0, .int .u8 0, .int .u8 0, .int .u8 0, .int .u8 0, .int .u8 0, .int .u8 0, .int .u8 0, .int .u8 0, .int .u8 0]
noncomputable def cells1 : Array Value := #[.pointer (some ⟨low + 1, 0, none⟩)]
noncomputable def cells2 : Array Value := #[.int .u8 0, .int .u8 0, .int .u8 0, .int .u8 0, .int .u8 0, .int .u8 0, .int .u8 0, .int .u8 0, .int .u8 0, .int .u8 1, .int .u8 1, .int .u8 1, .int .u8 1, .int .u8 1, .int .u8 0, .int .u8 0, .int .u8 0, .int .u8 0, .int .u8 0, .int .u8 0, .int .u8 0, .int .u8 0, .int .u8 0, .int .u8 0, .int .u8 0, .int .u8 0, .int .u8 0, .int .u8 0, .int .u8 0, .int .u8 0, .int .u8 0, .int .u8 0, .int .u8 1, .int .u8 0, .int .u8 0, .int .u8 0, .int .u8 0, .int .u8 0, .int .u8 0, .int .u8 0, .int .u8 0, .int .u8 0, .int .u8 0, .int .u8 0, .int .u8 0, .int .u8 0, .int .u8 0, .int .u8 0, .int .u8 0, .int .u8 0, .int .u8 0, .int .u8 0, .int .u8 0, .int .u8 0, .int .u8 0, .int .u8 0, .int .u8 0, .int .u8 0, .int .u8 0, .int .u8 0, .int .u8 0, .int .u8 0, .int .u8 0, .int .u8 0, .int .u8 0, .int .u8 0, .int .u8 0, .int .u8 0, .int .u8 0, .int .u8 0, .int .u8 0, .int .u8 0, .int .u8 0, .int .u8 0, .int .u8 0, .int .u8 0, .int .u8 0, .int .u8 0, .int .u8 0, .int .u8 0, .int .u8 0, .int .u8 0, .int .u8 0, .int .u8 0, .int .u8 0, .int .u8 0, .int .u8 0, .int .u8 0, .int .u8 0, .int .u8 0, .int .u8 0, .int .u8 0, .int .u8 0, .int .u8 0, .int .u8 0, .int .u8 0, .int .u8 0, .int .u8 0, .int .u8 0, .int .u8 0, .int .u8 0, .int .u8 0, .int .u8 0, .int .u8 0, .int .u8 0, .int .u8 0, .int .u8 0, .int .u8 0, .int .u8 0, .int .u8 0, .int .u8 0, .int .u8 0, .int .u8 0, .int .u8 0, .int .u8 0, .int .u8 0, .int .u8 0, .int .u8 0, .int .u8 0, .int .u8 0, .int .u8 0, .int .u8 0, .int .u8 0, .int .u8 0, .int .u8 0, .int .u8 0, .int .u8 0, .int .u8 0, .int .u8 0, .int .u8 0, .int .u8 0, .int .u8 0, .int .u8 0, .int .u8 0, .int .u8 0, .int .u8 0, .int .u8 0, .int .u8 0, .int .u8 0, .int .u8 0, .int .u8 0, .int .u8 0, .int .u8 0, .int .u8 0, .int .u8 0, .int .u8 0, .int .u8 0, .int .u8 0, .int .u8 0, .int .u8 0, .int .u8 0, .int .u8 0, .int .u8 0, .int .u8 0, .int .u8 0, .int .u8 0, .int .u8 0, .int .u8 0, .int .u8 0, .int .u8 0, .int .u8 0, .int .u8 0, .int .u8 0, .int .u8 0, .int .u8 0, .int .u8 0, .int .u8 0, .int .u8 0, .int .u8 0, .int .u8 0, .int .u8 0, .int .u8 0, .int .u8 0, .int .u8 0, .int .u8 0, .int .u8 0, .int .u8 0, .int .u8 0, .int .u8 0, .int .u8 0, .int .u8 0, .int .u8 0, .int .u8 0, .int .u8 0, .int .u8 0, .int .u8 0, .int .u8 0, .int .u8 0, .int .u8 0, .int .u8 0, .int .u8 0, .int .u8 0, .int .u8 0, .int .u8 0, .int .u8 0, .int .u8 0, .int .u8 0, .int .u8 0, .int .u8 0, .int .u8 0, .int .u8 0, .int .u8 0, .int .u8 0, .int .u8 0, .int .u8 0, .int .u8 0, .int .u8 0, .int .u8 0, .int .u8 0, .int .u8 0, .int .u8 0, .int .u8 0, .int .u8 0, .int .u8 0, .int .u8 0, .int .u8 0, .int .u8 0, .int .u8 0, .int .u8 0, .int .u8 0, .int .u8 0, .int .u8 0, .int .u8 0, .int .u8 0, .int .u8 0, .int .u8 0, .int .u8 0, .int .u8 0, .int .u8 0, .int .u8 0, .int .u8 0, .int .u8 0, .int .u8 0, .int .u8 0, .int .u8 0, .int .u8 0, .int .u8 0, .int .u8 0, .int .u8 0, .int .u8 0, .int .u8 0, .int .u8 0, .int .u8 0, .int .u8 0, .int .u8 0, .int .u8 0, .int .u8 0, .int .u8 0, .int .u8 0, .int .u8 0, .int .u8 0, .int .u8 0, .int .u8 0, .int .u8 0, .int .u8 0, .int .u8 0]
noncomputable def cells3 : Array Value := (Go.Pinned.utf8FirstZ.map fun n : Nat => Value.int .u8 (Int.ofNat n)).toArray
noncomputable def laidWorld (os : Os) : World := { (World.holding Tryd.prog os ⟨#[.cells #[.int .u16 9, .int .u16 13, .int .u16 1, .int .u16 32, .int .u16 133, .int .u16 101, .int .u16 160, .int .u16 5760, .int .u16 5600, .int .u16 8192, .int .u16 8202, .int .u16 1, .int .u16 8232, .int .u16 8233, .int .u16 1, .int .u16 8239, .int .u16 8287, .int .u16 48, .int .u16 12288, .int .u16 12288, .int .u16 1] 203, .cells #[.slice (some ⟨low + 0, 0, none⟩) 7 7, .slice none 0 0, .int .i64 2] 200], #[], []⟩) with heap := (((((World.holding Tryd.prog os ⟨#[.cells #[.int .u16 9, .int .u16 13, .int .u16 1, .int .u16 32, .int .u16 133, .int .u16 101, .int .u16 160, .int .u16 5760, .int .u16 5600, .int .u16 8192, .int .u16 8202, .int .u16 1, .int .u16 8232, .int .u16 8233, .int .u16 1, .int .u16 8239, .int .u16 8287, .int .u16 48, .int .u16 12288, .int .u16 12288, .int .u16 1] 203, .cells #[.slice (some ⟨low + 0, 0, none⟩) 7 7, .slice none 0 0, .int .i64 2] 200], #[], []⟩).heap.modify 4 fun | .cells _ t frozen => .cells cells0 t frozen | o => o).modify 2 fun | .cells _ t frozen => .cells cells1 t frozen | o => o).modify 1 fun | .cells _ t frozen => .cells cells2 t frozen | o => o).modify 3 fun | .cells _ t frozen => .cells cells3 t frozen | o => o) }
theorem laid_met (os : Os) (args : Array Value) : laidMet Tryd.prog Rows.treePathsRow.laid ((laidWorld os).forCall (fun _ _ => 0) ⟨#[], args, []⟩).memory := laidMet_of_run' 10 (by kernel_rfl) (by kernel_rfl)
theorem lifted (os : Os) (started : os.Started) (H : Type) (enc : TypeId × Value → H) :
    ReturnsInHanded {} Tryd.checked os 8 .any (fun w args => (Rows.treePathsSpec.pre enc Tryd.prog Tryd.f8 [] false w args ∧ laidMet Tryd.prog Rows.treePathsRow.laid w) ∧ sizedMet enc Tryd.prog Tryd.f8 (OpenSpec.ofChange Rows.treePathsSpec) false w args) (Rows.treePathsSpec.post enc Tryd.prog Tryd.f8 false true false false) := by
  refine handed (C := Tryd.checked) (X := fun w _ => laidMet Tryd.prog Rows.treePathsRow.laid w) (fun _ _ _ hh h => h.of_heap hh) own started (by kernel_rfl) Tryd.func8
    (ChangeSpec.witness_shaped (enc := enc) (C := Tryd.checked) (os := os) (X := fun w _ => laidMet Tryd.prog Rows.treePathsRow.laid w) false (laidWorld os) #[.int .i64 0, .int .i64 0, .bool false, .int .i64 0] 8 rfl (World.shaped_of_RefB (by kernel_rfl) (by kernel_rfl)) (by kernel_rfl) (by kernel_rfl) (by kernel_rfl) (laid_met os _)) ?_
  intro W base args ds gs before hval0 hW _ hL hsh
  have hval : ∀ (j : Nat) t v, Tryd.f8.params[j]? = some t → args[j]? = some v → Value.okWide Tryd.prog W .any base t v := hval0
  have hW' := hW
  obtain ⟨p, q, hA0, hV, rfl, hfz, hnd⟩ := hW
  have hA : DataW.TrodAll enc Tryd.prog W 0 (fun _ => true) true Tryd.f8.params.toList args.toList ds p := hA0
  rw [Tryd.params8] at hA hval
  obtain ⟨v0, vs0, d0, ds0, p0, q0, hargs, rfl, rfl, h0, r0⟩ := trodAll_cons hA
  obtain ⟨v1, vs1, d1, ds1, p1, q1, rfl, rfl, rfl, h1, r1⟩ := trodAll_cons r0
  obtain ⟨v2, vs2, d2, ds2, p2, q2, rfl, rfl, rfl, h2, r2⟩ := trodAll_cons r1
  obtain ⟨v3, vs3, d3, ds3, p3, q3, rfl, rfl, rfl, h3, r3⟩ := trodAll_cons r2
  obtain ⟨rfl, rfl, rfl⟩ := trodAll_nil r3
  obtain rfl : args = #[v0, v1, v2, v3] := by cases args; simp_all
  obtain ⟨rfl, rfl⟩ := trodVars_none hV
  obtain ⟨a0, rfl, rfl, rfl, w0⟩ := open_int Tryd.underlying3 (hval 0 3 v0 rfl rfl) h0
  obtain ⟨a1, rfl, rfl, rfl, w1⟩ := open_int Tryd.underlying3 (hval 1 3 v1 rfl rfl) h1
  obtain ⟨a2, rfl, rfl, rfl⟩ := open_bool Tryd.underlying4 (hval 2 4 v2 rfl rfl) h2
  obtain ⟨a3, rfl, rfl, rfl, w3⟩ := open_int Tryd.underlying3 (hval 3 3 v3 rfl rfl) h3
  clear hA0 hval0
  simp only [List.append_nil] at hW'
  refine (walk a0 a1 a2 a3 w0 w1 w3 W hL hsh).mono fun e W' ⟨he, hg⟩ => ?_
  subst he
  letI : Sym := ⟨fun _ => 0⟩
  exact ⟨_, rfl, post_plain hW' (pa := []) (pv := []) (fun _ _ _ => (trodAll_cons_mk (shut_bool Tryd.underlying4 _) trodAll_mk0)) (fun sp _ => (trodAll_cons_mk (shut_int Tryd.underlying3 w0) (trodAll_cons_mk (shut_int Tryd.underlying3 w1) (trodAll_cons_mk (shut_bool Tryd.underlying4 _) (trodAll_cons_mk (shut_int Tryd.underlying3 w3) trodAll_mk0))))) (fun _ _ => rfl) rfl hg⟩
theorem row_holds : Rows.TreePathsSaid :=
  OpenClaim.holds_of_wide 8 Tryd.f8 rfl rfl rfl rfl rfl rfl rfl ⟨rfl, rfl, rfl, rfl, rfl⟩ rfl rfl rfl rfl rfl (by kernel_rfl) Tryd.func8 (by kernel_rfl)
    (of_decide_eq_true (by kernel_rfl)) (by unfold Func.isWrapper; first | (rw [if_pos (by decide +kernel)]; kernel_rfl) | (rw [if_neg (by decide +kernel)]; exact ⟨rfl, rfl⟩))
    (fun os started H enc _ => lifted os started H enc)
theorem params_plain : (Tryd.f8.params.toList.all fun t => !(Tryd.prog.wantsStandIn t)) = true := by kernel_rfl
theorem card_holds : Rows.TreePathsCardSaid :=
  Claim7.holds_tied_plain_at .later [] [.data, .listed, .data, .pinned] true (true, "8e684793ec2326f5e6a8a5711c3e3cffd8d93f15adb1025b259fb97003f90adc") false
    row_holds (fun _ h => by cases h) (by kernel_rfl) (fun _ h => by cases h) treePaths_row_tie rfl ⟨rfl, rfl⟩ (by kernel_rfl) rfl
    (fun f fn hf hfn => by
      obtain rfl : f = 8 := Option.some.inj ((show Tryd.prog.funcNamed Rows.treePathsRow.func = some 8 by kernel_rfl).symm.trans hf) |>.symm
      obtain rfl : fn = Tryd.f8 := (Option.some.inj (Tryd.func8.symm.trans hfn)).symm
      refine ⟨by kernel_rfl, fun j t ht => ?_⟩
      have h := List.all_eq_true.1 params_plain t (List.mem_of_getElem? (by simpa using ht))
      exact (by simpa using h : Tryd.prog.wantsStandIn t = false))
    (by kernel_rfl)
#print axioms card_holds
end Go.Proofs.YtegimihckejnkaaDoor.TreePaths
