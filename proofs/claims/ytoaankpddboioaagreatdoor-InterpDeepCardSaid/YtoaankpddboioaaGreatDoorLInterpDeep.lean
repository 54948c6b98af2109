/- THE STATEMENT 'InterpDeep': whatever the input, the law returns true, and the input reads as it did. Conditions: none but the row's own (the listed variables read as listed, which the card ties to the text). -/
import Derived.Test.YtoaankpddboioaaGreatDoorCards
import Derived.Test.YtoaankpddboioaaGreatDoorTie
import Derived.Test.YtoaankpddboioaaGreatDoorRInterpDeep
import Derived.Test.YtoaankpddboioaaGreatDoorShelf
import Derived.ProofKit
import Derived.OpenShut
import Derived.LaidLaws
import Derived.Handed
import Derived.JoinedOf
set_option linter.unusedVariables false
set_option maxRecDepth 100000
namespace Go.Proofs.YtoaankpddboioaaGreatDoor.InterpDeep
open Go Go.AI Go.ChangeShapes Go.WideShapes Go.ChangeAt Go.RowKit
theorem own : ownKnob Tryz.prog.godebug = none := by kernel_rfl
theorem mixed : Tryz.prog.follows .mixedOrders = true := by kernel_rfl
theorem handed {H : Type} {enc : TypeId × Value → H} {a : Assume} {C : Checked} {os : Os} {f : FuncId} {fn : Func} {s : ChangeSpec} {conds : List PathCond} {apart fresh handsOn again : Bool} {X : World → Array Value → Prop}
    (hX : ∀ (w w' : World) (args : Array Value), w.heap = w'.heap → X w args → X w' args)
    (own : ownKnob C.prog.godebug = none) (started : os.Started) (noInit : C.prog.inits.idxOf? f = none) (hfn : C.prog.funcs[f]? = some fn)
    (witness : ∃ (w : World) (tape : Tape) (i : Input), w.os = os ∧ (w.forCall tape i).Shaped C.prog ∧ i.vars = [] ∧ Input.okWide C.prog (w.forCall tape i) .any w.heap.size f i ∧
      ((s.pre enc C.prog fn conds apart (w.forCall tape i).memory i.args ∧ X (w.forCall tape i).memory i.args) ∧ sizedMet enc C.prog fn (OpenSpec.ofChange s) apart (w.forCall tape i).memory i.args) ∧ a.holds C.prog (lone (Frame.enter C.prog f i.args .normal) [] (w.forCall tape i)))
    (contract : ∀ (W : World) (base : Nat) (args : Array Value) (ds gs : List (DataW H)) (before : List MemPlace),
      (∀ (j : Nat) t v, fn.params[j]? = some t → args[j]? = some v → Value.okWide C.prog W .any base t v) →
      DataW.Whole enc C.prog fn.params.toList s.vars apart W args.toList ds gs before →
      conds.all (PathCond.test C.prog ⟨fn.params.toList, ds, s.plain.varTypes C.prog, gs⟩) = true → X W args → W.ShapedOpen C.prog →
      Calls C.prog f args W fun e W' => ∃ v, e = .returned v ∧ s.post enc C.prog fn apart fresh handsOn again W args v W') :
    ReturnsInHanded a C os f .any (fun w args => (s.pre enc C.prog fn conds apart w args ∧ X w args) ∧ sizedMet enc C.prog fn (OpenSpec.ofChange s) apart w args) (s.post enc C.prog fn apart fresh handsOn again) := by
  refine returnsInHanded_of_calls own started noInit witness ?_
  intro w tape i _ hsh _ hok hpre hholds
  obtain ⟨_, _, _, fn', hfn', _, _, _, _, hval⟩ := hok
  have e : fn' = fn := Option.some.inj (hfn'.symm.trans hfn)
  subst e
  obtain ⟨⟨⟨ds, gs, before, hw, hc⟩, hx⟩, hz⟩ := hpre
  have hw' := DataW.Whole.of_heap (w' := w.forCall tape i) (by rfl) hw
  refine (contract (w.forCall tape i) w.heap.size i.args ds gs before hval hw' hc (hX _ _ _ (by rfl) hx) hsh).mono fun e W' ⟨v, he, hp⟩ => ?_
  subst he
  exact ChangeSpec.post_blind hp
theorem tabs_ok : ∀ t ∈ Ab.tabs, TablOK Tryz.prog Rows.interpDeepRow.laid t := by
  intro t ht
  cases ht
theorem walk (a0 : Int) (a1 : Bool) (w0 : (Lit.int .i64 a0).wf = true) (w : World) (hl : laidMet Tryz.prog Rows.interpDeepRow.laid w) (hsh : w.ShapedOpen Tryz.prog) : Calls Tryz.prog 7 #[.int .i64 a0, .bool a1] w fun e w' => e = .returned (.bool true) ∧ Below w.heap.size w w' := by
  obtain ⟨m63, hm63⟩ := cell_of_shapedOpen_int (P := Tryz.prog) (g := 1) (t := 3) (zero := #[.int .i64 0]) hsh (of_decide_eq_true (by kernel_rfl)) (by kernel_rfl) rfl (by kernel_rfl) (by kernel_rfl) Tryz.underlying3
  letI : Sym := ⟨fun i => match i with | 0 => a0 | 63 => m63 | _ => 0⟩
  have g0 : -9223372036854775808 ≤ a0 ∧ a0 ≤ 9223372036854775807 := by have h : (decide (IntKind.min .i64 ≤ a0) && decide (a0 ≤ IntKind.max .i64)) = true := w0; simp only [Bool.and_eq_true, decide_eq_true_eq] at h; exact h
  by_cases q1 : a0 ≤ 0
  · have hp : okB (Go.AI.machU Ab.blks.get (orS (fun _ _ _ => none) (SI 139)) 100000 7 0 0 (Ab.InterpDeep.args_lo a1) Go.AI.h0) = true := by cases a1; exact Ab.InterpDeep.run_lo_false; exact Ab.InterpDeep.run_lo_true
    exact walk_laidU mixed tabs_ok Ab.tab_ok Ab.blks_ok (orS_sound (none_sound) (SI_sound (g := 1) (by kernel_rfl) ⟨Tryz.f139, Tryz.func139, by kernel_rfl, of_decide_eq_true (by kernel_rfl)⟩ fun s sub m w h1 h2 => Tryz.stringslite_Index s sub m w h1 h2)) (by kernel_rfl) hp w hl (fun g h => by cases h; exact hm63) ⟨pv_sym .i64 0 _ _ a0 rfl g0.1 q1, pv_bool a1, trivial⟩
  by_cases q2 : 12 ≤ a0
  · have hp : okB (Go.AI.machU Ab.blks.get (orS (fun _ _ _ => none) (SI 139)) 100000 7 0 0 (Ab.InterpDeep.args_hi a1) Go.AI.h0) = true := by cases a1; exact Ab.InterpDeep.run_hi_false; exact Ab.InterpDeep.run_hi_true
    exact walk_laidU mixed tabs_ok Ab.tab_ok Ab.blks_ok (orS_sound (none_sound) (SI_sound (g := 1) (by kernel_rfl) ⟨Tryz.f139, Tryz.func139, by kernel_rfl, of_decide_eq_true (by kernel_rfl)⟩ fun s sub m w h1 h2 => Tryz.stringslite_Index s sub m w h1 h2)) (by kernel_rfl) hp w hl (fun g h => by cases h; exact hm63) ⟨pv_sym .i64 0 _ _ a0 rfl q2 g0.2, pv_bool a1, trivial⟩
  obtain ⟨n, rfl, n1, n2⟩ : ∃ n : Nat, a0 = .ofNat n ∧ 0 < n ∧ n < 12 := ⟨a0.toNat, by simp only [Int.ofNat_eq_natCast]; omega, by omega, by omega⟩
  have hn : n = 1 ∨ n = 2 ∨ n = 3 ∨ n = 4 ∨ n = 5 ∨ n = 6 ∨ n = 7 ∨ n = 8 ∨ n = 9 ∨ n = 10 ∨ n = 11 := by omega
  clear n1 n2 q1 q2
  rcases hn with hn | hn | hn | hn | hn | hn | hn | hn | hn | hn | hn <;> subst hn
  · have hp : okB (Go.AI.machU Ab.blks.get (orS (fun _ _ _ => none) (SI 139)) 100000 7 0 0 (Ab.InterpDeep.args_n1 a1) Go.AI.h0) = true := by cases a1; exact Ab.InterpDeep.run_n1_false; exact Ab.InterpDeep.run_n1_true
    exact walk_laidU mixed tabs_ok Ab.tab_ok Ab.blks_ok (orS_sound (none_sound) (SI_sound (g := 1) (by kernel_rfl) ⟨Tryz.f139, Tryz.func139, by kernel_rfl, of_decide_eq_true (by kernel_rfl)⟩ fun s sub m w h1 h2 => Tryz.stringslite_Index s sub m w h1 h2)) (by kernel_rfl) hp w hl (fun g h => by cases h; exact hm63) ⟨pv_int .i64 (.ofNat 1), pv_bool a1, trivial⟩
  · have hp : okB (Go.AI.machU Ab.blks.get (orS (fun _ _ _ => none) (SI 139)) 100000 7 0 0 (Ab.InterpDeep.args_n2 a1) Go.AI.h0) = true := by cases a1; exact Ab.InterpDeep.run_n2_false; exact Ab.InterpDeep.run_n2_true
    exact walk_laidU mixed tabs_ok Ab.tab_ok Ab.blks_ok (orS_sound (none_sound) (SI_sound (g := 1) (by kernel_rfl) ⟨Tryz.f139, Tryz.func139, by kernel_rfl, of_decide_eq_true (by kernel_rfl)⟩ fun s sub m w h1 h2 => Tryz.stringslite_Index s sub m w h1 h2)) (by kernel_rfl) hp w hl (fun g h => by cases h; exact hm63) ⟨pv_int .i64 (.ofNat 2), pv_bool a1, trivial⟩
  · have hp : okB (Go.AI.machU Ab.blks.get (orS (fun _ _ _ => none) (SI 139)) 100000 7 0 0 (Ab.InterpDeep.args_n3 a1) Go.AI.h0) = true := by cases a1; exact Ab.InterpDeep.run_n3_false; exact Ab.InterpDeep.run_n3_true
    exact walk_laidU mixed tabs_ok Ab.tab_ok Ab.blks_ok (orS_sound (none_sound) (SI_sound (g := 1) (by kernel_rfl) ⟨Tryz.f139, Tryz.func139, by kernel_rfl, of_decide_eq_true (by kernel_rfl)⟩ fun s sub m w h1 h2 => Tryz.stringslite_Index s sub m w h1 h2)) (by kernel_rfl) hp w hl (fun g h => by cases h; exact hm63) ⟨pv_int .i64 (.ofNat 3), pv_bool a1, trivial⟩
  · have hp : okB (Go.AI.machU Ab.blks.get (orS (fun _ _ _ => none) (SI 139)) 100000 7 0 0 (Ab.InterpDeep.args_n4 a1) Go.AI.h0) = true := by cases a1; exact Ab.InterpDeep.run_n4_false; exact Ab.InterpDeep.run_n4_true
    exact walk_laidU mixed tabs_ok Ab.tab_ok Ab.blks_ok (orS_sound (none_sound) (SI_sound (g := 1) (by kernel_rfl) ⟨Tryz.f139, Tryz.func139, by kernel_rfl, of_decide_eq_true (by kernel_rfl)⟩ fun s sub m w h1 h2 => Tryz.stringslite_Index s sub m w h1 h2)) (by kernel_rfl) hp w hl (fun g h => by cases h; exact hm63) ⟨pv_int .i64 (.ofNat 4), pv_bool a1, trivial⟩
  · have hp : okB (Go.AI.machU Ab.blks.get (orS (fun _ _ _ => none) (SI 139)) 100000 7 0 0 (Ab.InterpDeep.args_n5 a1) Go.AI.h0) = true := by cases a1; exact Ab.InterpDeep.run_n5_false; exact Ab.InterpDeep.run_n5_true
    exact walk_laidU mixed tabs_ok Ab.tab_ok Ab.blks_ok (orS_sound (none_sound) (SI_sound (g := 1) (by kernel_rfl) ⟨Tryz.f139, Tryz.func139, by kernel_rfl, of_decide_eq_true (by kernel_rfl)⟩ fun s sub m w h1 h2 => Tryz.stringslite_Index s sub m w h1 h2)) (by kernel_rfl) hp w hl (fun g h => by cases h; exact hm63) ⟨pv_int .i64 (.ofNat 5), pv_bool a1, trivial⟩
  · have hp : okB (Go.AI.machU Ab.blks.get (orS (fun _ _ _ => none) (SI 139)) 100000 7 0 0 (Ab.InterpDeep.args_n6 a1) Go.AI.h0) = true := by cases a1; exact Ab.InterpDeep.run_n6_false; exact Ab.InterpDeep.run_n6_true
    exact walk_laidU mixed tabs_ok Ab.tab_ok Ab.blks_ok (orS_sound (none_sound) (SI_sound (g := 1) (by kernel_rfl) ⟨Tryz.f139, Tryz.func139, by kernel_rfl, of_decide_eq_true (by kernel_rfl)⟩ fun s sub m w h1 h2 => Tryz.stringslite_Index s sub m w h1 h2)) (by kernel_rfl) hp w hl (fun g h => by cases h; exact hm63) ⟨pv_int .i64 (.ofNat 6), pv_bool a1, trivial⟩
  · have hp : okB (Go.AI.machU Ab.blks.get (orS (fun _ _ _ => none) (SI 139)) 100000 7 0 0 (Ab.InterpDeep.args_n7 a1) Go.AI.h0) = true := by cases a1; exact Ab.InterpDeep.run_n7_false; exact Ab.InterpDeep.run_n7_true
    exact walk_laidU mixed tabs_ok Ab.tab_ok Ab.blks_ok (orS_sound (none_sound) (SI_sound (g := 1) (by kernel_rfl) ⟨Tryz.f139, Tryz.func139, by kernel_rfl, of_decide_eq_true (by kernel_rfl)⟩ fun s sub m w h1 h2 => Tryz.stringslite_Index s sub m w h1 h2)) (by kernel_rfl) hp w hl (fun g h => by cases h; exact hm63) ⟨pv_int .i64 (.ofNat 7), pv_bool a1, trivial⟩
  · have hp : okB (Go.AI.machU Ab.blks.get (orS (fun _ _ _ => none) (SI 139)) 100000 7 0 0 (Ab.InterpDeep.args_n8 a1) Go.AI.h0) = true := by cases a1; exact Ab.InterpDeep.run_n8_false; exact Ab.InterpDeep.run_n8_true
    exact walk_laidU mixed tabs_ok Ab.tab_ok Ab.blks_ok (orS_sound (none_sound) (SI_sound (g := 1) (by kernel_rfl) ⟨Tryz.f139, Tryz.func139, by kernel_rfl, of_decide_eq_true (by kernel_rfl)⟩ fun s sub m w h1 h2 => Tryz.stringslite_Index s sub m w h1 h2)) (by kernel_rfl) hp w hl (fun g h => by cases h; exact hm63) ⟨pv_int .i64 (.ofNat 8), pv_bool a1, trivial⟩
  · have hp : okB (Go.AI.machU Ab.blks.get (orS (fun _ _ _ => none) (SI 139)) 100000 7 0 0 (Ab.InterpDeep.args_n9 a1) Go.AI.h0) = true := by cases a1; exact Ab.InterpDeep.run_n9_false; exact Ab.InterpDeep.run_n9_true
    exact walk_laidU mixed tabs_ok Ab.tab_ok Ab.blks_ok (orS_sound (none_sound) (SI_sound (g := 1) (by kernel_rfl) ⟨Tryz.f139, Tryz.func139, by kernel_rfl, of_decide_eq_true (by kernel_rfl)⟩ fun s sub m w h1 h2 => Tryz.stringslite_Index s sub m w h1 h2)) (by kernel_rfl) hp w hl (fun g h => by cases h; exact hm63) ⟨pv_int .i64 (.ofNat 9), pv_bool a1, trivial⟩
  · have hp : okB (Go.AI.machU Ab.blks.get (orS (fun _ _ _ => none) (SI 139)) 100000 7 0 0 (Ab.InterpDeep.args_n10 a1) Go.AI.h0) = true := by cases a1; exact Ab.InterpDeep.run_n10_false; exact Ab.InterpDeep.run_n10_true
    exact walk_laidU mixed tabs_ok Ab.tab_ok Ab.blks_ok (orS_sound (none_sound) (SI_sound (g := 1) (by kernel_rfl) ⟨Tryz.f139, Tryz.func139, by kernel_rfl, of_decide_eq_true (by kernel_rfl)⟩ fun s sub m w h1 h2 => Tryz.stringslite_Index s sub m w h1 h2)) (by kernel_rfl) hp w hl (fun g h => by cases h; exact hm63) ⟨pv_int .i64 (.ofNat 10), pv_bool a1, trivial⟩
  · have hp : okB (Go.AI.machU Ab.blks.get (orS (fun _ _ _ => none) (SI 139)) 100000 7 0 0 (Ab.InterpDeep.args_n11 a1) Go.AI.h0) = true := by cases a1; exact Ab.InterpDeep.run_n11_false; exact Ab.InterpDeep.run_n11_true
    exact walk_laidU mixed tabs_ok Ab.tab_ok Ab.blks_ok (orS_sound (none_sound) (SI_sound (g := 1) (by kernel_rfl) ⟨Tryz.f139, Tryz.func139, by kernel_rfl, of_decide_eq_true (by kernel_rfl)⟩ fun s sub m w h1 h2 => Tryz.stringslite_Index s sub m w h1 h2)) (by kernel_rfl) hp w hl (fun g h => by cases h; exact hm63) ⟨pv_int .i64 (.ofNat 11), pv_bool a1, trivial⟩
noncomputable def cells0 : Array Value := #[.int .u8 0, .int .u8 1, .int .u8 28, .int .u8 2, .int .u8 29, .int .u8 14, .int .u8 24, .int .u8 3, .int .u8 30, .int .u8 22, .int .u8 20, .int .u8 15, .int .u8 25, .int .u8 17, .int .u8 4, .int .u8 8, .int .u8 31, .int .u8 27, .int .u8 13, .int .u8 23, .int .u8 21, .int .u8 19, .int .u8 16, .int .u8 7, .int .u8 26, .int .u8 12, .int .u8 18, .int .u8 6, .int .u8 11, .int .u8 5, .int .u8 10, .int .u8 9]
noncomputable def cells1 : Array Value := #[.int .u8 0, .int .u8 1, .int .u8 56, .int .u8 2, .int .u8 57, .int .u8 49, .int .u8 28, .int .u8 3, .int .u8 61, .int .u8 58, .int .u8 42, .int .u8 50, .int .u8 38, .int .u8 29, .int .u8 17, .int .u8 4, .int .u8 62, .int .u8 47, .int .u8 59, .int .u8 36, .int .u8 45, .int .u8 43, .int .u8 51, .int .u8 22, .int .u8 53, .int .u8 39, .int .u8 33, .int .u8 30, .int .u8 24, .int .u8 18, .int .u8 12, .int .u8 5, .int .u8 63, .int .u8 55, .int .u8 48, .int .u8 27, .int .u8 60, .int .u8 41, .int .u8 37, .int .u8 16, .int .u8 46, .int .u8 35, .int .u8 44, .int .u8 21, .int .u8 52, .int .u8 32, .int .u8 23, .int .u8 11, .int .u8 54, .int .u8 26, .int .u8 40, .int .u8 15, .int .u8 34, .int .u8 20, .int .u8 31, .int .u8 10, .int .u8 25, .int .u8 14, .int .u8 19, .int .u8 9, .int .u8 13, .int .u8 8, .int .u8 7, .int .u8 6]
noncomputable def cells2 : Array Value := #[.int .u64 1, .int .u64 10, .int .u64 100, .int .u64 1000, .int .u64 10000, .int .u64 100000, .int .u64 1000000, .int .u64 10000000, .int .u64 100000000, .int .u64 1000000000, .int .u64 10000000000, .int .u64 100000000000, .int .u64 1000000000000, .int .u64 10000000000000, .int .u64 100000000000000, .int .u64 1000000000000000, .int .u64 10000000000000000, .int .u64 100000000000000000, .int .u64 1000000000000000000, .int .u64 10000000000000000000]
noncomputable def laidWorld (os : Os) : World := { (World.holding Tryz.prog os ⟨#[], #[], []⟩) with heap := ((((World.holding Tryz.prog os ⟨#[], #[], []⟩).heap.modify 2 fun | .cells _ t frozen => .cells cells0 t frozen | o => o).modify 3 fun | .cells _ t frozen => .cells cells1 t frozen | o => o).modify 0 fun | .cells _ t frozen => .cells cells2 t frozen | o => o) }
theorem laid_met (os : Os) (args : Array Value) : laidMet Tryz.prog Rows.interpDeepRow.laid ((laidWorld os).forCall (fun _ _ => 0) ⟨#[], args, []⟩).memory := laidMet_of_run' 10 (by kernel_rfl) (by kernel_rfl)
theorem lifted (os : Os) (started : os.Started) (H : Type) (enc : TypeId × Value → H) :
    ReturnsInHanded {} Tryz.checked os 7 .any (fun w args => (Rows.interpDeepSpec.pre enc Tryz.prog Tryz.f7 [] false w args ∧ laidMet Tryz.prog Rows.interpDeepRow.laid w) ∧ sizedMet enc Tryz.prog Tryz.f7 (OpenSpec.ofChange Rows.interpDeepSpec) false w args) (Rows.interpDeepSpec.post enc Tryz.prog Tryz.f7 false true false false) := by
  refine handed (C := Tryz.checked) (X := fun w _ => laidMet Tryz.prog Rows.interpDeepRow.laid w) (fun _ _ _ hh h => h.of_heap hh) own started (by kernel_rfl) Tryz.func7
    (ChangeSpec.witness_shaped (enc := enc) (C := Tryz.checked) (os := os) (X := fun w _ => laidMet Tryz.prog Rows.interpDeepRow.laid w) false (laidWorld os) #[.int .i64 0, .bool false] 8 rfl (World.shaped_of_RefB (by kernel_rfl) (by kernel_rfl)) (by kernel_rfl) (by kernel_rfl) (by kernel_rfl) (laid_met os _)) ?_
  intro W base args ds gs before hval0 hW _ hL hsh
  have hval : ∀ (j : Nat) t v, Tryz.f7.params[j]? = some t → args[j]? = some v → Value.okWide Tryz.prog W .any base t v := hval0
  have hW' := hW
  obtain ⟨p, q, hA0, hV, rfl, hfz, hnd⟩ := hW
  have hA : DataW.TrodAll enc Tryz.prog W 0 (fun _ => true) true Tryz.f7.params.toList args.toList ds p := hA0
  rw [Tryz.params7] at hA hval
  obtain ⟨v0, vs0, d0, ds0, p0, q0, hargs, rfl, rfl, h0, r0⟩ := trodAll_cons hA
  obtain ⟨v1, vs1, d1, ds1, p1, q1, rfl, rfl, rfl, h1, r1⟩ := trodAll_cons r0
  obtain ⟨rfl, rfl, rfl⟩ := trodAll_nil r1
  obtain rfl : args = #[v0, v1] := by cases args; simp_all
  obtain ⟨rfl, rfl⟩ := trodVars_none hV
  obtain ⟨a0, rfl, rfl, rfl, w0⟩ := open_int Tryz.underlying3 (hval 0 3 v0 rfl rfl) h0
  obtain ⟨a1, rfl, rfl, rfl⟩ := open_bool Tryz.underlying4 (hval 1 4 v1 rfl rfl) h1
  clear hA0 hval0
  simp only [List.append_nil] at hW'
  refine (walk a0 a1 w0 W hL hsh).mono fun e W' ⟨he, hg⟩ => ?_
  subst he
  letI : Sym := ⟨fun _ => 0⟩
  exact ⟨_, rfl, post_plain hW' (pa := []) (pv := []) (fun _ _ _ => (trodAll_cons_mk (shut_bool Tryz.underlying4 _) trodAll_mk0)) (fun sp _ => (trodAll_cons_mk (shut_int Tryz.underlying3 w0) (trodAll_cons_mk (shut_bool Tryz.underlying4 _) trodAll_mk0))) (fun _ _ => rfl) rfl hg⟩
theorem row_holds : Rows.InterpDeepSaid :=
  OpenClaim.holds_of_wide 7 Tryz.f7 rfl rfl rfl rfl rfl rfl rfl ⟨rfl, rfl, rfl, rfl, rfl⟩ rfl rfl rfl rfl rfl (by kernel_rfl) Tryz.func7 (by kernel_rfl)
    (of_decide_eq_true (by kernel_rfl)) (by unfold Func.isWrapper; first | (rw [if_pos (by decide +kernel)]; kernel_rfl) | (rw [if_neg (by decide +kernel)]; exact ⟨rfl, rfl⟩))
    (fun os started H enc _ => lifted os started H enc)
theorem params_plain : (Tryz.f7.params.toList.all fun t => !(Tryz.prog.wantsStandIn t)) = true := by kernel_rfl
theorem card_holds : Rows.InterpDeepCardSaid :=
  Claim7.holds_tied_plain_at .later [] [.data, .data, .data] true (true, "ebd97c23807507720a4de2be02c440c85806571e23ed46cb1478682633879ab8") false
    row_holds (fun _ h => by cases h) (by kernel_rfl) (fun _ h => by cases h) interpDeep_row_tie rfl ⟨rfl, rfl⟩ (by kernel_rfl) rfl
    (fun f fn hf hfn => by
      obtain rfl : f = 7 := Option.some.inj ((show Tryz.prog.funcNamed Rows.interpDeepRow.func = some 7 by kernel_rfl).symm.trans hf) |>.symm
      obtain rfl : fn = Tryz.f7 := (Option.some.inj (Tryz.func7.symm.trans hfn)).symm
      refine ⟨by kernel_rfl, fun j t ht => ?_⟩
      have h := List.all_eq_true.1 params_plain t (List.mem_of_getElem? (by simpa using ht))
      exact (by simpa using h : Tryz.prog.wantsStandIn t = false))
    (by kernel_rfl)
#print axioms card_holds
end Go.Proofs.YtoaankpddboioaaGreatDoor.InterpDeep
