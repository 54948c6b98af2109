/- THE STATEMENT 'InterpVars': whatever the input, the law returns true, and the input reads as it did. Conditions: none but the row's own (the listed variables read as listed, which the card ties to the text). -/
import Derived.Test.YtnlmlcfipbnpgaaGreatDoorCards
import Derived.Test.YtnlmlcfipbnpgaaGreatDoorG1
import Derived.Test.YtnlmlcfipbnpgaaGreatDoorTie
import Derived.Test.YtnlmlcfipbnpgaaGreatDoorShelf
import Derived.ProofKit
import Derived.OpenShut
import Derived.LaidLaws
import Derived.Handed
import Derived.JoinedOf
import Derived.Carry
set_option linter.unusedVariables false
set_option maxRecDepth 100000
namespace Go.Proofs.YtnlmlcfipbnpgaaGreatDoor.InterpVars
open Go Go.AI Go.ChangeShapes Go.WideShapes Go.ChangeAt Go.RowKit Go.ChangeMaps
theorem own : ownKnob Tryz.prog.godebug = none := by kernel_rfl
theorem mixed : Tryz.prog.follows .mixedOrders = true := by kernel_rfl
theorem handed {H : Type} {enc : TypeId × Value → H} {a : Assume} {C : Checked} {os : Os} {f : FuncId} {fn : Func} {s : ChangeSpec} {conds : List PathCond} {apart fresh handsOn again : Bool} {X : World → Array Value → Prop}
    (hX : ∀ (w w' : World) (args : Array Value), w.heap = w'.heap → X w args → X w' args)
    (own : ownKnob C.prog.godebug = none) (started : os.Started) (noInit : C.prog.inits.idxOf? f = none) (hfn : C.prog.funcs[f]? = some fn)
    (witness : ∃ (w : World) (tape : Tape) (i : Input), w.os = os ∧ (w.forCall tape i).Shaped C.prog ∧ i.vars = [] ∧ Input.okWide C.prog (w.forCall tape i) .any w.heap.size f i ∧
      ((s.pre enc C.prog fn conds apart (w.forCall tape i).memory i.args ∧ X (w.forCall tape i).memory i.args) ∧ sizedMet enc C.prog fn (OpenSpec.ofChange s) apart (w.forCall tape i).memory i.args) ∧ a.holds C.prog (lone (Frame.enter C.prog f i.args .normal) [] (w.forCall tape i)))
    (contract : ∀ (W : World) (base : Nat) (args : Array Value) (ds gs : List (DataW H)) (before : List MemPlace),
      (∀ (j : Nat) t v, fn.params[j]? = some t → args[j]? = some v → Value.okWide C.prog W .any base t v) →
      DataW.Whole enc C.prog fn.params.toList s.vars apart W args.toList ds gs before →
      conds.all (PathCond.test C.prog ⟨fn.params.toList, ds, s.plain.varTypes C.prog, gs⟩) = true → X W args → W.ShapedOpen C.prog →
      (DataW.weightsEach C.prog (fn.params.toList ++ s.plain.varTypes C.prog) (ds ++ gs)).all (· ≤ reachBytes) = true →
      Calls C.prog f args W fun e W' => ∃ v, e = .returned v ∧ s.post enc C.prog fn apart fresh handsOn again W args v W') :
    ReturnsInHanded a C os f .any (fun w args => (s.pre enc C.prog fn conds apart w args ∧ X w args) ∧ sizedMet enc C.prog fn (OpenSpec.ofChange s) apart w args) (s.post enc C.prog fn apart fresh handsOn again) := by
  refine returnsInHanded_of_calls own started noInit witness ?_
  intro w tape i _ hsh _ hok hpre hholds
  obtain ⟨_, _, _, fn', hfn', _, _, _, _, hval⟩ := hok
  have e : fn' = fn := Option.some.inj (hfn'.symm.trans hfn)
  subst e
  obtain ⟨⟨⟨ds, gs, before, hw, hc⟩, hx⟩, hz⟩ := hpre
  have hw' := DataW.Whole.of_heap (w' := w.forCall tape i) (by rfl) hw
  refine (contract (w.forCall tape i) w.heap.size i.args ds gs before hval hw' hc (hX _ _ _ (by rfl) hx) hsh (hz.weights hw)).mono fun e W' ⟨v, he, hp⟩ => ?_
  subst he
  exact ChangeSpec.post_blind hp
theorem tabs_ok : ∀ t ∈ Ab.tabs, TablOK Tryz.prog Rows.interpVarsRow.laid t := by
  intro t ht
  simp only [Ab.tabs, List.mem_cons, List.not_mem_nil, or_false] at ht
  rcases ht with rfl | rfl | rfl
  · have e : (Rows.laid_math_bits_deBruijn32tab : DataW Unit) = .agg (([0, 1, 28, 2, 29, 14, 24, 3, 30, 22, 20, 15, 25, 17, 4, 8, 31, 27, 13, 23, 21, 19, 16, 7, 26, 12, 18, 6, 11, 5, 10, 9] : List Int).map fun v => .lit (.int .u8 v)) := by kernel_rfl
    have m : (("math/bits.deBruijn32tab" : String), (Rows.laid_math_bits_deBruijn32tab : DataW Unit)) ∈ Rows.interpVarsRow.laid := .head _
    exact ⟨(congrArg (fun d => (("math/bits.deBruijn32tab" : String), d) ∈ Rows.interpVarsRow.laid) e).mp m, by kernel_rfl, 405, 5, 32, by kernel_rfl, Tryz.underlying405, Tryz.underlying5, by kernel_rfl⟩
  · have e : (Rows.laid_math_bits_deBruijn64tab : DataW Unit) = .agg (([0, 1, 56, 2, 57, 49, 28, 3, 61, 58, 42, 50, 38, 29, 17, 4, 62, 47, 59, 36, 45, 43, 51, 22, 53, 39, 33, 30, 24, 18, 12, 5, 63, 55, 48, 27, 60, 41, 37, 16, 46, 35, 44, 21, 52, 32, 23, 11, 54, 26, 40, 15, 34, 20, 31, 10, 25, 14, 19, 9, 13, 8, 7, 6] : List Int).map fun v => .lit (.int .u8 v)) := by kernel_rfl
    have m : (("math/bits.deBruijn64tab" : String), (Rows.laid_math_bits_deBruijn64tab : DataW Unit)) ∈ Rows.interpVarsRow.laid := .tail _ (.head _)
    exact ⟨(congrArg (fun d => (("math/bits.deBruijn64tab" : String), d) ∈ Rows.interpVarsRow.laid) e).mp m, by kernel_rfl, 406, 5, 64, by kernel_rfl, Tryz.underlying406, Tryz.underlying5, by kernel_rfl⟩
  · have e : (Rows.laid_internal_strconv_uint64pow10 : DataW Unit) = .agg (([1, 10, 100, 1000, 10000, 100000, 1000000, 10000000, 100000000, 1000000000, 10000000000, 100000000000, 1000000000000, 10000000000000, 100000000000000, 1000000000000000, 10000000000000000, 100000000000000000, 1000000000000000000, 10000000000000000000] : List Int).map fun v => .lit (.int .u64 v)) := by kernel_rfl
    have m : (("internal/strconv.uint64pow10" : String), (Rows.laid_internal_strconv_uint64pow10 : DataW Unit)) ∈ Rows.interpVarsRow.laid := .tail _ (.tail _ (.head _))
    exact ⟨(congrArg (fun d => (("internal/strconv.uint64pow10" : String), d) ∈ Rows.interpVarsRow.laid) e).mp m, by kernel_rfl, 391, 341, 20, by kernel_rfl, Tryz.underlying391, Tryz.underlying341, by kernel_rfl⟩
theorem laidOut : laidOutB Tryz.prog = true := by kernel_rfl
noncomputable def cells0 : Array Value := #[.int .u8 0, .int .u8 1, .int .u8 28, .int .u8 2, .int .u8 29, .int .u8 14, .int .u8 24, .int .u8 3, .int .u8 30, .int .u8 22, .int .u8 20, .int .u8 15, .int .u8 25, .int .u8 17, .int .u8 4, .int .u8 8, .int .u8 31, .int .u8 27, .int .u8 13, .int .u8 23, .int .u8 21, .int .u8 19, .int .u8 16, .int .u8 7, .int .u8 26, .int .u8 12, .int .u8 18, .int .u8 6, .int .u8 11, .int .u8 5, .int .u8 10, .int .u8 9]
noncomputable def cells1 : Array Value := #[.int .u8 0, .int .u8 1, .int .u8 56, .int .u8 2, .int .u8 57, .int .u8 49, .int .u8 28, .int .u8 3, .int .u8 61, .int .u8 58, .int .u8 42, .int .u8 50, .int .u8 38, .int .u8 29, .int .u8 17, .int .u8 4, .int .u8 62, .int .u8 47, .int .u8 59, .int .u8 36, .int .u8 45, .int .u8 43, .int .u8 51, .int .u8 22, .int .u8 53, .int .u8 39, .int .u8 33, .int .u8 30, .int .u8 24, .int .u8 18, .int .u8 12, .int .u8 5, .int .u8 63, .int .u8 55, .int .u8 48, .int .u8 27, .int .u8 60, .int .u8 41, .int .u8 37, .int .u8 16, .int .u8 46, .int .u8 35, .int .u8 44, .int .u8 21, .int .u8 52, .int .u8 32, .int .u8 23, .int .u8 11, .int .u8 54, .int .u8 26, .int .u8 40, .int .u8 15, .int .u8 34, .int .u8 20, .int .u8 31, .int .u8 10, .int .u8 25, .int .u8 14, .int .u8 19, .int .u8 9, .int .u8 13, .int .u8 8, .int .u8 7, .int .u8 6]
noncomputable def qGf : Array Value := #[.int .u64 1, .int .u64 10, .int .u64 100, .int .u64 1000, .int .u64 10000, .int .u64 100000, .int .u64 1000000, .int .u64 10000000, .int .u64 100000000, .int .u64 1000000000, .int .u64 10000000000, .int .u64 100000000000, .int .u64 1000000000000, .int .u64 10000000000000, .int .u64 100000000000000, .int .u64 1000000000000000, .int .u64 10000000000000000, .int .u64 100000000000000000, .int .u64 1000000000000000000, .int .u64 10000000000000000000]
noncomputable def laidWorld (os : Os) : World := { (World.holding Tryz.prog os ⟨#[], #[], []⟩) with heap := ((((World.holding Tryz.prog os ⟨#[], #[], []⟩).heap.modify 4 fun | .cells _ t frozen => .cells cells0 t frozen | o => o).modify 5 fun | .cells _ t frozen => .cells cells1 t frozen | o => o).modify 1 fun | .cells _ t frozen => .cells qGf t frozen | o => o) }
theorem laid_met (os : Os) (args : Array Value) : laidMet Tryz.prog Rows.interpVarsRow.laid ((laidWorld os).forCall (fun _ _ => 0) ⟨#[], args, []⟩).memory := laidMet_of_run' 10 (by kernel_rfl) (by kernel_rfl)
theorem lifted (os : Os) (started : os.Started) (H : Type) (enc : TypeId × Value → H) :
    ReturnsInHanded {} Tryz.checked os 4 .any (fun w args => (Rows.interpVarsSpec.pre enc Tryz.prog Tryz.f4 [] false w args ∧ laidMet Tryz.prog Rows.interpVarsRow.laid w) ∧ sizedMet enc Tryz.prog Tryz.f4 (OpenSpec.ofChange Rows.interpVarsSpec) false w args) (Rows.interpVarsSpec.post enc Tryz.prog Tryz.f4 false true false false) := by
  refine handed (C := Tryz.checked) (X := fun w _ => laidMet Tryz.prog Rows.interpVarsRow.laid w) (fun _ _ _ hh h => h.of_heap hh) own started (by kernel_rfl) Tryz.func4
    (ChangeSpec.witness_shaped (enc := enc) (C := Tryz.checked) (os := os) (X := fun w _ => laidMet Tryz.prog Rows.interpVarsRow.laid w) false (laidWorld os) #[.slice none 0 0, .int .i64 0] 8 rfl (World.shaped_of_RefB (by kernel_rfl) (by kernel_rfl)) (by kernel_rfl) (by kernel_rfl) (by kernel_rfl) (laid_met os _)) ?_
  intro W base args ds gs before hval0 hW _ hL hsh hsz
  have hval : ∀ (j : Nat) t v, Tryz.f4.params[j]? = some t → args[j]? = some v → Value.okWide Tryz.prog W .any base t v := hval0
  have hW' := hW
  obtain ⟨p, q, hA0, hV, rfl, hfz, hnd⟩ := hW
  have hA : DataW.TrodAll enc Tryz.prog W 0 (fun _ => true) true Tryz.f4.params.toList args.toList ds p := hA0
  rw [Tryz.params4] at hA hval hsz
  obtain ⟨m63, hm63⟩ := cell_of_shapedOpen_int (P := Tryz.prog) (g := 0) (t := 3) (zero := #[.int .i64 0]) hsh (of_decide_eq_true (by kernel_rfl)) (by kernel_rfl) rfl (by kernel_rfl) (by kernel_rfl) Tryz.underlying3
  letI : Sym := ⟨fun i => match i with | 63 => m63 | _ => 0⟩
  obtain ⟨v0, vs0, d0, ds0, p0, q0, hargs, rfl, rfl, h0, r0⟩ := trodAll_cons hA
  obtain ⟨v1, vs1, d1, ds1, p1, q1, rfl, rfl, rfl, h1, r1⟩ := trodAll_cons r0
  obtain ⟨rfl, rfl, rfl⟩ := trodAll_nil r1
  obtain rfl : args = #[v0, v1] := by cases args; simp_all
  obtain ⟨rfl, rfl⟩ := trodVars_none hV
  have hk0 := h0
  obtain ⟨a0, t0, w0, m0, b0⟩ := qIF Tryz.underlying47 Tryz.underlying2 (by kernel_rfl) (hval 0 47 v0 rfl rfl) h0
  have g0 : ∀ n ∈ intsL a0, (-9223372036854775808) ≤ n ∧ n ≤ 9223372036854775807 := fun n hn => by have h : (decide (IntKind.min .i64 ≤ n) && decide (n ≤ IntKind.max .i64)) = true := w0 n hn; simp only [Bool.and_eq_true, decide_eq_true_eq] at h; exact h
  have b0 : (intsL a0).length ≤ 140737488351232 := by have h := b0 (qI4 hsz 0 rfl rfl); have e : Tryz.prog.bytesOf 2 = 8 := (by kernel_rfl); rw [e] at h; unfold reachBytes at h; omega
  have hk1 := h1
  obtain ⟨a1, rfl, rfl, rfl, w1⟩ := open_int Tryz.underlying2 (hval 1 2 v1 rfl rfl) h1
  have g1 : (-9223372036854775808) ≤ a1 ∧ a1 ≤ 9223372036854775807 := by have h : (decide (IntKind.min .i64 ≤ a1) && decide (a1 ≤ IntKind.max .i64)) = true := w1; simp only [Bool.and_eq_true, decide_eq_true_eq] at h; exact h
  clear hA0 hval0
  have hlt0 : ∀ x ∈ p0, x.block < W.heap.size := fun x hx => by simpa using hW'.lt x (by simp [hx])
  refine (qNA (avs := #[v0, _]) mixed Ab.tab_ok (Ab.vars_sound mixed Ab.tab_ok (qCw (qND (g := 0) (by kernel_rfl) ⟨Tryz.f264, Tryz.func264, by kernel_rfl, of_decide_eq_true (by kernel_rfl)⟩ fun s sub m w h1 h2 => Tryz.stringslite_Index s sub m w h1 h2) (qCw (Tryz.find_soundQ _) (Tryz.find_sound _))) a0 a1 g1) (qNN) (allG hL tabs_ok (fun g h => by cases h; exact hm63)) ⟨t0, qKe .i64 a1, trivial⟩).mono fun e W' ⟨he, hg⟩ => ?_
  subst he
  exact ⟨_, rfl, qH2 hW' (pv := []) (fun _ _ _ => (trodAll_cons_mk (shut_bool Tryz.underlying4 _) trodAll_mk0)) (trodAll_cons_mk (Below.trod laidOut (by kernel_rfl) (of_decide_eq_true (by kernel_rfl)) hk0 hg hlt0) (trodAll_cons_mk (shut_int Tryz.underlying2 w1) trodAll_mk0)) (fun _ _ => rfl) (by simp) hg⟩
theorem rq0 : joinedFacts Tryz.checked.prog 4 Tryz.f4 Rows.interpVarsSpec Rows.interpVarsRow = true := by kernel_rfl
theorem rq1 : Tryz.pinned.checked.prog.funcNamed Rows.interpVarsRow.func = some 4 := by kernel_rfl
theorem rq2 : Tryz.f4.isWrapper Tryz.pinned.checked.prog Rows.interpVarsRow.wrapper Rows.interpVarsRow.mainSum := by unfold Func.isWrapper; first | (rw [if_pos (by decide +kernel)]; kernel_rfl) | (rw [if_neg (by decide +kernel)]; exact ⟨rfl, rfl⟩)
theorem row_holds : Rows.InterpVarsSaid :=
  OpenClaim.holds_of_wide 4 Tryz.f4 rfl rfl rfl rfl rfl rfl rfl ⟨rfl, rfl, rfl, rfl, rfl⟩ rfl rfl rfl rfl rfl rq1 Tryz.func4 rq0
    (of_decide_eq_true (by kernel_rfl)) rq2
    (fun os started H enc _ => lifted os started H enc)
theorem params_plain : (Tryz.f4.params.toList.all fun t => !(Tryz.prog.wantsStandIn t)) = true := by kernel_rfl
theorem card_holds : Rows.InterpVarsCardSaid :=
  Claim7.holds_tied_plain_at .later [] [.data, .data, .data] true (true, "99195fd4f653f6bedb8364a458722edcd78df067f930f0027c27c3caec651db5") false
    row_holds (fun _ h => by cases h) (by kernel_rfl) (fun _ h => by cases h) interpVars_row_tie rfl ⟨rfl, rfl⟩ (by kernel_rfl) rfl
    (fun f fn hf hfn => by
      obtain rfl : f = 4 := Option.some.inj ((show Tryz.prog.funcNamed Rows.interpVarsRow.func = some 4 by kernel_rfl).symm.trans hf) |>.symm
      obtain rfl : fn = Tryz.f4 := (Option.some.inj (Tryz.func4.symm.trans hfn)).symm
      refine ⟨by kernel_rfl, fun j t ht => ?_⟩
      have h := List.all_eq_true.1 params_plain t (List.mem_of_getElem? (by simpa using ht))
      exact (by simpa using h : Tryz.prog.wantsStandIn t = false))
    (by kernel_rfl)
#print axioms card_holds
end Go.Proofs.YtnlmlcfipbnpgaaGreatDoor.InterpVars
