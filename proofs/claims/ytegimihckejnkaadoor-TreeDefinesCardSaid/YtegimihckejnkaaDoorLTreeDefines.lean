/- THE STATEMENT 'TreeDefines': whatever the input, the law returns true, and the input reads as it did. Conditions: none but the row's own (the listed variables read as listed, which the card ties to the text). -/
import Derived.Test.YtegimihckejnkaaDoorCards
import Derived.Test.YtegimihckejnkaaDoorTie
import Derived.Test.YtegimihckejnkaaDoorRTreeDefinesP0
import Derived.Test.YtegimihckejnkaaDoorRTreeDefinesP1
import Derived.Test.YtegimihckejnkaaDoorRTreeDefinesP2
import Derived.Test.YtegimihckejnkaaDoorRTreeDefinesP3
import Derived.Test.YtegimihckejnkaaDoorRTreeDefinesP4
import Derived.Test.YtegimihckejnkaaDoorRTreeDefinesP5
import Derived.Test.YtegimihckejnkaaDoorRTreeDefinesP6
import Derived.Test.YtegimihckejnkaaDoorRTreeDefinesP7
import Derived.Test.YtegimihckejnkaaDoorRTreeDefinesP8
import Derived.Test.YtegimihckejnkaaDoorRTreeDefinesP9
import Derived.Test.YtegimihckejnkaaDoorRTreeDefinesP10
import Derived.Test.YtegimihckejnkaaDoorRTreeDefinesP11
import Derived.Test.YtegimihckejnkaaDoorRTreeDefinesP12
import Derived.Test.YtegimihckejnkaaDoorRTreeDefinesP13
import Derived.Test.YtegimihckejnkaaDoorRTreeDefinesP14
import Derived.Test.YtegimihckejnkaaDoorRTreeDefinesP15
import Derived.Test.YtegimihckejnkaaDoorRTreeDefinesP16
import Derived.Test.YtegimihckejnkaaDoorRTreeDefinesP17
import Derived.Test.YtegimihckejnkaaDoorRTreeDefinesP18
import Derived.Test.YtegimihckejnkaaDoorRTreeDefinesP19
import Derived.Test.YtegimihckejnkaaDoorShelf
import Derived.ProofKit
import Derived.OpenShut
import Derived.LaidLaws
import Derived.Handed
import Derived.JoinedOf
set_option linter.unusedVariables false
set_option maxRecDepth 100000
namespace Go.Proofs.YtegimihckejnkaaDoor.TreeDefines
open Go Go.AI Go.ChangeShapes Go.WideShapes Go.ChangeAt Go.RowKit
theorem own : ownKnob Tryd.prog.godebug = none := by kernel_rfl
theorem mixed : Tryd.prog.follows .mixedOrders = true := by kernel_rfl
theorem handed {H : Type} {enc : TypeId × Value → H} {a : Assume} {C : Checked} {os : Os} {f : FuncId} {fn : Func} {s : ChangeSpec} {conds : List PathCond} {apart fresh handsOn again : Bool} {X : World → Array Value → Prop}
    (hX : ∀ (w w' : World) (args : Array Value), w.heap = w'.heap → X w args → X w' args)
    (own : ownKnob C.prog.godebug = none) (started : os.Started) (noInit : C.prog.inits.idxOf? f = none) (hfn : C.prog.funcs[f]? = some fn)
    (witness : ∃ (w : World) (tape : Tape) (i : Input), w.os = os ∧ (w.forCall tape i).Shaped C.prog ∧ i.vars = [] ∧ Input.okWide C.prog (w.forCall tape i) .any w.heap.size f i ∧
      ((s.pre enc C.prog fn conds apart (w.forCall tape i).memory i.args ∧ X (w.forCall tape i).memory i.args) ∧ sizedMet enc C.prog fn (OpenSpec.ofChange s) apart (w.forCall tape i).memory i.args) ∧ a.holds C.prog (lone (Frame.enter C.prog f i.args .normal) [] (w.forCall tape i)))
    (contract : ∀ (W : World) (base : Nat) (args : Array Value) (ds gs : List (DataW H)) (before : List MemPlace),
      (∀ (j : Nat) t v, fn.params[j]? = some t → args[j]? = some v → Value.okWide C.prog W .any base t v) →
      DataW.Whole enc C.prog fn.params.toList s.vars apart W args.toList ds gs before →
      conds.all (PathCond.test C.prog ⟨fn.params.toList, ds, s.plain.varTypes C.prog, gs⟩) = true → X W args → W.ShapedOpen C.prog →
      Calls C.prog f args W fun e W' => ∃ v, e = .returned v ∧ s.post enc C.prog fn apart fresh handsOn again W args v W') :
    ReturnsInHanded a C os f .any (fun w args => (s.pre enc C.prog fn conds apart w args ∧ X w args) ∧ sizedMet enc C.prog fn (OpenSpec.ofChange s) apart w args) (s.post enc C.prog fn apart fresh handsOn again) := by
  refine returnsInHanded_of_calls own started noInit witness ?_
  intro w tape i _ hsh _ hok hpre hholds
  obtain ⟨_, _, _, fn', hfn', _, _, _, _, hval⟩ := hok
  have e : fn' = fn := Option.some.inj (hfn'.symm.trans hfn)
  subst e
  obtain ⟨⟨⟨ds, gs, before, hw, hc⟩, hx⟩, hz⟩ := hpre
  have hw' := DataW.Whole.of_heap (w' := w.forCall tape i) (by rfl) hw
  refine (contract (w.forCall tape i) w.heap.size i.args ds gs before hval hw' hc (hX _ _ _ (by rfl) hx) hsh).mono fun e W' ⟨v, he, hp⟩ => ?_
  subst he
  exact ChangeSpec.post_blind hp
theorem tabs_ok : ∀ t ∈ Ab.tabs, TablOK Tryd.prog Rows.treeDefinesRow.laid t := by
  intro t ht
  obtain rfl := List.mem_singleton.1 ht
  have e : (Rows.laid_strings_asciiSpace : DataW Unit) = .agg (Ab.vals0.map fun v => .lit (.int .u8 v)) := by kernel_rfl
  have m : (("strings.asciiSpace" : String), (Rows.laid_strings_asciiSpace : DataW Unit)) ∈ Rows.treeDefinesRow.laid := .tail _ (.tail _ (.head _))
  exact ⟨(congrArg (fun d => (("strings.asciiSpace" : String), d) ∈ Rows.treeDefinesRow.laid) e).mp m, by kernel_rfl, 176, 5, 256, by kernel_rfl, Tryd.underlying176, Tryd.underlying5, by kernel_rfl⟩
theorem walk (a0 : Int) (a1 : Int) (w0 : (Lit.int .i64 a0).wf = true) (w1 : (Lit.int .i64 a1).wf = true) (w : World) (hl : laidMet Tryd.prog Rows.treeDefinesRow.laid w) (hsh : w.ShapedOpen Tryd.prog) : Calls Tryd.prog 3 #[.int .i64 a0, .int .i64 a1] w fun e w' => e = .returned (.bool true) ∧ Below w.heap.size w w' := by
  obtain ⟨m63, hm63⟩ := cell_of_shapedOpen_int (P := Tryd.prog) (g := 0) (t := 3) (zero := #[.int .i64 0]) hsh (of_decide_eq_true (by kernel_rfl)) (by kernel_rfl) rfl (by kernel_rfl) (by kernel_rfl) Tryd.underlying3
  letI : Sym := ⟨fun i => match i with | 0 => a0 | 1 => a1 | 63 => m63 | _ => 0⟩
  have g0 : -9223372036854775808 ≤ a0 ∧ a0 ≤ 9223372036854775807 := by have h : (decide (IntKind.min .i64 ≤ a0) && decide (a0 ≤ IntKind.max .i64)) = true := w0; simp only [Bool.and_eq_true, decide_eq_true_eq] at h; exact h
  have g1 : -9223372036854775808 ≤ a1 ∧ a1 ≤ 9223372036854775807 := by have h : (decide (IntKind.min .i64 ≤ a1) && decide (a1 ≤ IntKind.max .i64)) = true := w1; simp only [Bool.and_eq_true, decide_eq_true_eq] at h; exact h
  obtain ⟨k0, e0, l0⟩ : ∃ k : Nat, wi a0 15 = .ofNat k ∧ k < 15 := ⟨(wi a0 15).toNat, by have := wi_bounds a0 15 (by decide); simp only [Int.ofNat_eq_natCast]; omega, by have := wi_bounds a0 15 (by decide); omega⟩
  obtain ⟨k1, e1, l1⟩ : ∃ k : Nat, wi a1 4 = .ofNat k ∧ k < 4 := ⟨(wi a1 4).toNat, by have := wi_bounds a1 4 (by decide); simp only [Int.ofNat_eq_natCast]; omega, by have := wi_bounds a1 4 (by decide); omega⟩
  have hJ : ∀ i off n j, Ab.TreeDefines.jt (.ofNat k0) (.ofNat k1) i off n = some j → 0 < n ∧ n < 2 ^ 40 ∧ wi (Sym.num i + off) n = j := by
    intro i off n j h
    unfold Ab.TreeDefines.jt at h
    simp only [beq_dec, beqI_eq, ← Bool.decide_and, Bool.cond_decide] at h
    by_cases c0 : i = 0 ∧ n = 15 ∧ off = 0
    · rw [if_pos c0] at h; obtain ⟨rfl, rfl, rfl⟩ := c0; exact ⟨by decide, by decide, (congrArg (fun z => wi z 15) (Int.add_zero _)).trans (e0.trans (Option.some.inj h))⟩
    rw [if_neg c0] at h
    by_cases c1 : i = 1 ∧ n = 4 ∧ off = 0
    · rw [if_pos c1] at h; obtain ⟨rfl, rfl, rfl⟩ := c1; exact ⟨by decide, by decide, (congrArg (fun z => wi z 4) (Int.add_zero _)).trans (e1.trans (Option.some.inj h))⟩
    rw [if_neg c1] at h
    cases h
  have hp : Ab.TreeDefines.p k0 k1 = true := by
    match k0, l0, k1, l1 with
    | 0, _, 0, _ => exact Ab.TreeDefines.run_0_0
    | 0, _, 1, _ => exact Ab.TreeDefines.run_0_1
    | 0, _, 2, _ => exact Ab.TreeDefines.run_0_2
    | 0, _, 3, _ => exact Ab.TreeDefines.run_0_3
    | 1, _, 0, _ => exact Ab.TreeDefines.run_1_0
    | 1, _, 1, _ => exact Ab.TreeDefines.run_1_1
    | 1, _, 2, _ => exact Ab.TreeDefines.run_1_2
    | 1, _, 3, _ => exact Ab.TreeDefines.run_1_3
    | 2, _, 0, _ => exact Ab.TreeDefines.run_2_0
    | 2, _, 1, _ => exact Ab.TreeDefines.run_2_1
    | 2, _, 2, _ => exact Ab.TreeDefines.run_2_2
    | 2, _, 3, _ => exact Ab.TreeDefines.run_2_3
    | 3, _, 0, _ => exact Ab.TreeDefines.run_3_0
    | 3, _, 1, _ => exact Ab.TreeDefines.run_3_1
    | 3, _, 2, _ => exact Ab.TreeDefines.run_3_2
    | 3, _, 3, _ => exact Ab.TreeDefines.run_3_3
    | 4, _, 0, _ => exact Ab.TreeDefines.run_4_0
    | 4, _, 1, _ => exact Ab.TreeDefines.run_4_1
    | 4, _, 2, _ => exact Ab.TreeDefines.run_4_2
    | 4, _, 3, _ => exact Ab.TreeDefines.run_4_3
    | 5, _, 0, _ => exact Ab.TreeDefines.run_5_0
    | 5, _, 1, _ => exact Ab.TreeDefines.run_5_1
    | 5, _, 2, _ => exact Ab.TreeDefines.run_5_2
    | 5, _, 3, _ => exact Ab.TreeDefines.run_5_3
    | 6, _, 0, _ => exact Ab.TreeDefines.run_6_0
    | 6, _, 1, _ => exact Ab.TreeDefines.run_6_1
    | 6, _, 2, _ => exact Ab.TreeDefines.run_6_2
    | 6, _, 3, _ => exact Ab.TreeDefines.run_6_3
    | 7, _, 0, _ => exact Ab.TreeDefines.run_7_0
    | 7, _, 1, _ => exact Ab.TreeDefines.run_7_1
    | 7, _, 2, _ => exact Ab.TreeDefines.run_7_2
    | 7, _, 3, _ => exact Ab.TreeDefines.run_7_3
    | 8, _, 0, _ => exact Ab.TreeDefines.run_8_0
    | 8, _, 1, _ => exact Ab.TreeDefines.run_8_1
    | 8, _, 2, _ => exact Ab.TreeDefines.run_8_2
    | 8, _, 3, _ => exact Ab.TreeDefines.run_8_3
    | 9, _, 0, _ => exact Ab.TreeDefines.run_9_0
    | 9, _, 1, _ => exact Ab.TreeDefines.run_9_1
    | 9, _, 2, _ => exact Ab.TreeDefines.run_9_2
    | 9, _, 3, _ => exact Ab.TreeDefines.run_9_3
    | 10, _, 0, _ => exact Ab.TreeDefines.run_10_0
    | 10, _, 1, _ => exact Ab.TreeDefines.run_10_1
    | 10, _, 2, _ => exact Ab.TreeDefines.run_10_2
    | 10, _, 3, _ => exact Ab.TreeDefines.run_10_3
    | 11, _, 0, _ => exact Ab.TreeDefines.run_11_0
    | 11, _, 1, _ => exact Ab.TreeDefines.run_11_1
    | 11, _, 2, _ => exact Ab.TreeDefines.run_11_2
    | 11, _, 3, _ => exact Ab.TreeDefines.run_11_3
    | 12, _, 0, _ => exact Ab.TreeDefines.run_12_0
    | 12, _, 1, _ => exact Ab.TreeDefines.run_12_1
    | 12, _, 2, _ => exact Ab.TreeDefines.run_12_2
    | 12, _, 3, _ => exact Ab.TreeDefines.run_12_3
    | 13, _, 0, _ => exact Ab.TreeDefines.run_13_0
    | 13, _, 1, _ => exact Ab.TreeDefines.run_13_1
    | 13, _, 2, _ => exact Ab.TreeDefines.run_13_2
    | 13, _, 3, _ => exact Ab.TreeDefines.run_13_3
    | 14, _, 0, _ => exact Ab.TreeDefines.run_14_0
    | 14, _, 1, _ => exact Ab.TreeDefines.run_14_1
    | 14, _, 2, _ => exact Ab.TreeDefines.run_14_2
    | 14, _, 3, _ => exact Ab.TreeDefines.run_14_3
  exact walk_laidU mixed tabs_ok Ab.tab_ok Ab.blks_ok (orS_sound (Ab.SLay_sound mixed) (orS_sound (orS_sound (SW_soundU mixed Ab.tab_ok Ab.blks_ok Ab.within_ok_spruelaw7 hJ) (SI_sound (g := 0) (by kernel_rfl) ⟨Tryd.f78, Tryd.func78, by kernel_rfl, of_decide_eq_true (by kernel_rfl)⟩ fun s sub m w h1 h2 => Tryd.stringslite_Index s sub m w h1 h2)) (SJ_sound ⟨Tryd.f96, Tryd.func96, by kernel_rfl, of_decide_eq_true (by kernel_rfl)⟩ (fun a c sep w => Tryd.strings_Join_none a c sep w) fun bk o c xs sep w h1 h2 h3 h4 h5 => Tryd.strings_Join bk o c xs sep w h1 h2 h3 h4 h5))) (by kernel_rfl) hp w hl (fun g h => by cases h; exact hm63) ⟨pv_sym .i64 0 _ _ a0 rfl g0.1 g0.2, pv_sym .i64 1 _ _ a1 rfl g1.1 g1.2, trivial⟩
noncomputable def low : Nat := (World.settled Tryd.prog default).heap.size
noncomputable def cells0 : Array Value := #[.int .u8 128, .int .u8 191, .int .u8 160, .int .u8 191, .int .u8 128, .int .u8 159, .int .u8 144, .int .u8 191, .int .u8 128, .int .u8 143, .int .u8 0, .int .u8 0, .int .u8 0, .int .u8 0, .int .u8 0, .int .u8 0, .int .u8 0, .int .u8 0, .int .u8 0, .int .u8 0, .int .u8 0, .int .u8 0, .int .u8 0, .int .u8 0, .int .u8 0, .int .u8 0, .int .u8 0, .int .u8 0, .int .u8 0, .int .u8 0, .int .u8 0, .int .u8 0]
noncomputable def cells1 : Array Value := #[.pointer (some ⟨low + 1, 0, none⟩)]
noncomputable def cells2 : Array Value := #[.int .u8 0, .int .u8 0, .int .u8 0, .int .u8 0, .int .u8 0, .int .u8 0, .int .u8 0, .int .u8 0, .int .u8 0, .int .u8 1, .int .u8 1, .int .u8 1, .int .u8 1, .int .u8 1, .int .u8 0, .int .u8 0, .int .u8 0, .int .u8 0, .int .u8 0, .int .u8 0, .int .u8 0, .int .u8 0, .int .u8 0, .int .u8 0, .int .u8 0, .int .u8 0, .int .u8 0, .int .u8 0, .int .u8 0, .int .u8 0, .int .u8 0, .int .u8 0, .int .u8 1, .int .u8 0, .int .u8 0, .int .u8 0, .int .u8 0, .int .u8 0, .int .u8 0, .int .u8 0, .int .u8 0, .int .u8 0, .int .u8 0, .int .u8 0, .int .u8 0, .int .u8 0, .int .u8 0, .int .u8 0, .int .u8 0, .int .u8 0, .int .u8 0, .int .u8 0, .int .u8 0, .int .u8 0, .int .u8 0, .int .u8 0, .int .u8 0, .int .u8 0, .int .u8 0, .int .u8 0, .int .u8 0, .int .u8 0, .int .u8 0, .int .u8 0, .int .u8 0, .int .u8 0, .int .u8 0, .int .u8 0, .int .u8 0, .int .u8 0, .int .u8 0, .int .u8 0, .int .u8 0, .int .u8 0, .int .u8 0, .int .u8 0, .int .u8 0, .int .u8 0, .int .u8 0, .int .u8 0, .int .u8 0, .int .u8 0, .int .u8 0, .int .u8 0, .int .u8 0, .int .u8 0, .int .u8 0, .int .u8 0, .int .u8 0, .int .u8 0, .int .u8 0, .int .u8 0, .int .u8 0, .int .u8 0, .int .u8 0, .int .u8 0, .int .u8 0, .int .u8 0, .int .u8 0, .int .u8 0, .int .u8 0, .int .u8 0, .int .u8 0, .int .u8 0, .int .u8 0, .int .u8 0, .int .u8 0, .int .u8 0, .int .u8 0, .int .u8 0, .int .u8 0, .int .u8 0, .int .u8 0, .int .u8 0, .int .u8 0, .int .u8 0, .int .u8 0, .int .u8 0, .int .u8 0, .int .u8 0, .int .u8 0, .int .u8 0, .int .u8 0, .int .u8 0, .int .u8 0, .int .u8 0, .int .u8 0, .int .u8 0, .int .u8 0, .int .u8 0, .int .u8 0, .int .u8 0, .int .u8 0, .int .u8 0, .int .u8 0, .int .u8 0, .int .u8 0, .int .u8 0, .int .u8 0, .int .u8 0, .int .u8 0, .int .u8 0, .int .u8 0, .int .u8 0, .int .u8 0, .int .u8 0, .int .u8 0, .int .u8 0, .int .u8 0, .int .u8 0, .int .u8 0, .int .u8 0, .int .u8 0, .int .u8 0, .int .u8 0, .int .u8 0, .int .u8 0, .int .u8 0, .int .u8 0, .int .u8 0, .int .u8 0, .int .u8 0, .int .u8 0, .int .u8 0, .int .u8 0, .int .u8 0, .int .u8 0, .int .u8 0, .int .u8 0, .int .u8 0, .int .u8 0, .int .u8 0, .int .u8 0, .int .u8 0, .int .u8 0, .int .u8 0, .int .u8 0, .int .u8 0, .int .u8 0, .int .u8 0, .int .u8 0, .int .u8 0, .int .u8 0, .int .u8 0, .int .u8 0, .int .u8 0, .int .u8 0, .int .u8 0, .int .u8 0, .int .u8 0, .int .u8 0, .int .u8 0, .int .u8 0, .int .u8 0, .int .u8 0, .int .u8 0, .int .u8 0, .int .u8 0, .int .u8 0, .int .u8 0, .int .u8 0, .int .u8 0, .int .u8 0, .int .u8 0, .int .u8 0, .int .u8 0, .int .u8 0, .int .u8 0, .int .u8 0, .int .u8 0, .int .u8 0, .int .u8 0, .int .u8 0, .int .u8 0, .int .u8 0, .int .u8 0, .int .u8 0, .int .u8 0, .int .u8 0, .int .u8 0, .int .u8 0, .int .u8 0, .int .u8 0, .int .u8 0, .int .u8 0, .int .u8 0, .int .u8 0, .int .u8 0, .int .u8 0, .int .u8 0, .int .u8 0, .int .u8 0, .int .u8 0, .int .u8 0, .int .u8 0, .int .u8 0, .int .u8 0, .int .u8 0, .int .u8 0, .int .u8 0, .int .u8 0, .int .u8 0, .int .u8 0, .int .u8 0, .int .u8 0, .int .u8 0, .int .u8 0, .int .u8 0, .int .u8 0, .int .u8 0, .int .u8 0, .int .u8 0, .int .u8 0, .int .u8 0, .int .u8 0, .int .u8 0]
noncomputable def cells3 : Array Value := (Go.Pinned.utf8FirstZ.map fun n : Nat => Value.int .u8 (Int.ofNat n)).toArray
noncomputable def laidWorld (os : Os) : World := { (World.holding Tryd.prog os ⟨#[.cells #[.int .u16 9, .int .u16 13, .int .u16 1, .int .u16 32, .int .u16 133, .int .u16 101, .int .u16 160, .int .u16 5760, .int .u16 5600, .int .u16 8192, .int .u16 8202, .int .u16 1, .int .u16 8232, .int .u16 8233, .int .u16 1, .int .u16 8239, .int .u16 8287, .int .u16 48, .int .u16 12288, .int .u16 12288, .int .u16 1] 203, .cells #[.slice (some ⟨low + 0, 0, none⟩) 7 7, .slice none 0 0, .int .i64 2] 200], #[], []⟩) with heap := (((((World.holding Tryd.prog os ⟨#[.cells #[.int .u16 9, .int .u16 13, .int .u16 1, .int .u16 32, .int .u16 133, .int .u16 101, .int .u16 160, .int .u16 5760, .int .u16 5600, .int .u16 8192, .int .u16 8202, .int .u16 1, .int .u16 8232, .int .u16 8233, .int .u16 1, .int .u16 8239, .int .u16 8287, .int .u16 48, .int .u16 12288, .int .u16 12288, .int .u16 1] 203, .cells #[.slice (some ⟨low + 0, 0, none⟩) 7 7, .slice none 0 0, .int .i64 2] 200], #[], []⟩).heap.modify 4 fun | .cells _ t frozen => .cells cells0 t frozen | o => o).modify 2 fun | .cells _ t frozen => .cells cells1 t frozen | o => o).modify 1 fun | .cells _ t frozen => .cells cells2 t frozen | o => o).modify 3 fun | .cells _ t frozen => .cells cells3 t frozen | o => o) }
theorem laid_met (os : Os) (args : Array Value) : laidMet Tryd.prog Rows.treeDefinesRow.laid ((laidWorld os).forCall (fun _ _ => 0) ⟨#[], args, []⟩).memory := laidMet_of_run' 10 (by kernel_rfl) (by kernel_rfl)
theorem lifted (os : Os) (started : os.Started) (H : Type) (enc : TypeId × Value → H) :
    ReturnsInHanded {} Tryd.checked os 3 .any (fun w args => (Rows.treeDefinesSpec.pre enc Tryd.prog Tryd.f3 [] false w args ∧ laidMet Tryd.prog Rows.treeDefinesRow.laid w) ∧ sizedMet enc Tryd.prog Tryd.f3 (OpenSpec.ofChange Rows.treeDefinesSpec) false w args) (Rows.treeDefinesSpec.post enc Tryd.prog Tryd.f3 false true false false) := by
  refine handed (C := Tryd.checked) (X := fun w _ => laidMet Tryd.prog Rows.treeDefinesRow.laid w) (fun _ _ _ hh h => h.of_heap hh) own started (by kernel_rfl) Tryd.func3
    (ChangeSpec.witness_shaped (enc := enc) (C := Tryd.checked) (os := os) (X := fun w _ => laidMet Tryd.prog Rows.treeDefinesRow.laid w) false (laidWorld os) #[.int .i64 0, .int .i64 0] 8 rfl (World.shaped_of_RefB (by kernel_rfl) (by kernel_rfl)) (by kernel_rfl) (by kernel_rfl) (by kernel_rfl) (laid_met os _)) ?_
  intro W base args ds gs before hval0 hW _ hL hsh
  have hval : ∀ (j : Nat) t v, Tryd.f3.params[j]? = some t → args[j]? = some v → Value.okWide Tryd.prog W .any base t v := hval0
  have hW' := hW
  obtain ⟨p, q, hA0, hV, rfl, hfz, hnd⟩ := hW
  have hA : DataW.TrodAll enc Tryd.prog W 0 (fun _ => true) true Tryd.f3.params.toList args.toList ds p := hA0
  rw [Tryd.params3] at hA hval
  obtain ⟨v0, vs0, d0, ds0, p0, q0, hargs, rfl, rfl, h0, r0⟩ := trodAll_cons hA
  obtain ⟨v1, vs1, d1, ds1, p1, q1, rfl, rfl, rfl, h1, r1⟩ := trodAll_cons r0
  obtain ⟨rfl, rfl, rfl⟩ := trodAll_nil r1
  obtain rfl : args = #[v0, v1] := by cases args; simp_all
  obtain ⟨rfl, rfl⟩ := trodVars_none hV
  obtain ⟨a0, rfl, rfl, rfl, w0⟩ := open_int Tryd.underlying3 (hval 0 3 v0 rfl rfl) h0
  obtain ⟨a1, rfl, rfl, rfl, w1⟩ := open_int Tryd.underlying3 (hval 1 3 v1 rfl rfl) h1
  clear hA0 hval0
  simp only [List.append_nil] at hW'
  refine (walk a0 a1 w0 w1 W hL hsh).mono fun e W' ⟨he, hg⟩ => ?_
  subst he
  letI : Sym := ⟨fun _ => 0⟩
  exact ⟨_, rfl, post_plain hW' (pa := []) (pv := []) (fun _ _ _ => (trodAll_cons_mk (shut_bool Tryd.underlying4 _) trodAll_mk0)) (fun sp _ => (trodAll_cons_mk (shut_int Tryd.underlying3 w0) (trodAll_cons_mk (shut_int Tryd.underlying3 w1) trodAll_mk0))) (fun _ _ => rfl) rfl hg⟩
theorem row_holds : Rows.TreeDefinesSaid :=
  OpenClaim.holds_of_wide 3 Tryd.f3 rfl rfl rfl rfl rfl rfl rfl ⟨rfl, rfl, rfl, rfl, rfl⟩ rfl rfl rfl rfl rfl (by kernel_rfl) Tryd.func3 (by kernel_rfl)
    (of_decide_eq_true (by kernel_rfl)) (by unfold Func.isWrapper; first | (rw [if_pos (by decide +kernel)]; kernel_rfl) | (rw [if_neg (by decide +kernel)]; exact ⟨rfl, rfl⟩))
    (fun os started H enc _ => lifted os started H enc)
theorem params_plain : (Tryd.f3.params.toList.all fun t => !(Tryd.prog.wantsStandIn t)) = true := by kernel_rfl
theorem card_holds : Rows.TreeDefinesCardSaid :=
  Claim7.holds_tied_plain_at .later [] [.data, .listed, .data, .pinned] true (true, "8e684793ec2326f5e6a8a5711c3e3cffd8d93f15adb1025b259fb97003f90adc") false
    row_holds (fun _ h => by cases h) (by kernel_rfl) (fun _ h => by cases h) treeDefines_row_tie rfl ⟨rfl, rfl⟩ (by kernel_rfl) rfl
    (fun f fn hf hfn => by
      obtain rfl : f = 3 := Option.some.inj ((show Tryd.prog.funcNamed Rows.treeDefinesRow.func = some 3 by kernel_rfl).symm.trans hf) |>.symm
      obtain rfl : fn = Tryd.f3 := (Option.some.inj (Tryd.func3.symm.trans hfn)).symm
      refine ⟨by kernel_rfl, fun j t ht => ?_⟩
      have h := List.all_eq_true.1 params_plain t (List.mem_of_getElem? (by simpa using ht))
      exact (by simpa using h : Tryd.prog.wantsStandIn t = false))
    (by kernel_rfl)
#print axioms card_holds
end Go.Proofs.YtegimihckejnkaaDoor.TreeDefines
