/- The rules, the contracts, the plain laws that lead to the statement. Own work. Condition: what each theorem names. -/
import Derived.Test.YtlkejchbcchecaaDoorG0
set_option linter.all false
set_option linter.unusedVariables false
set_option linter.unusedSimpArgs false
set_option linter.unusedSectionVars false
set_option maxRecDepth 100000
open Nat (reduceAdd reduceMul reduceLT reduceLeDiff reduceEqDiff)
set_option maxHeartbeats 4000000
namespace Go.AI
theorem At.ownF {h : Heap} {ρ : List Ref} {C : List AObj} (A : At h ρ C) (him : ∀ r ∈ ρ, ∃ i, r = .im i) (d g : Nat) (o : AObj) : At (h.own d g o) ρ C :=
 ⟨A.nodup, A.len, fun i r q e1 e2 => by
  obtain ⟨j, rfl⟩ := him r (List.mem_of_getElem? e1)
  exact A.get i _ q e1 e2⟩
end Go.AI
namespace Go.Proofs.YtlkejchbcchecaaDoor.Ab
open Go Go.AI
section
variable (O : Oracle)
variable (hO : ∀ g, g ≠ 42 → g ≠ 43 → g ≠ 44 → O g = Om g)
structure Both (all : List FnT) (ρA ρB : List Ref) (rA rB : Ref) (c : List (List UInt8 × Int)) (ns : List Int) (h : Heap) : Prop where
 a : At h ρA (C43 (byM [] all) c)
 b : At h ρB (C44 (all.map cpyF) ns)
structure Apart2 (ρA ρB : List Ref) (rA rB : Ref) : Prop where
 ia : ∀ r ∈ ρA, ∃ i, r = .im i
 ib : ∀ r ∈ ρB, ∃ i, r = .im i
 d1 : ∀ r ∈ ρA, r ∉ ρB
 d2 : ∀ r ∈ ρB, r ∉ ρA
 ra : ρA[0]? = some rA
 rb : ρB[0]? = some rB
theorem Both.own {all : List FnT} {ρA ρB : List Ref} {rA rB : Ref} {c : List (List UInt8 × Int)} {ns : List Int} {h : Heap} (X : Apart2 ρA ρB rA rB) (H : Both all ρA ρB rA rB c ns h) (d g : Nat) (o : AObj) : Both all ρA ρB rA rB c ns (h.own d g o) :=
 ⟨H.a.ownF X.ia d g o, H.b.ownF X.ib d g o⟩
theorem qRm {ρ : List Ref} (h : ∀ r ∈ ρ, ∃ i, r = Ref.im i) (d g : Nat) : Ref.own d g ∉ ρ := fun hr => by
 obtain ⟨i, e⟩ := h _ hr
 cases e
variable {all : List FnT} {ρA ρB : List Ref} {rA rB : Ref} (X : Apart2 ρA ρB rA rB)
include hO X
theorem qRo {c c' : List (List UInt8 × Int)} {ns : List Int} (g : Nat) (hg : g ≠ 42 ∧ g ≠ 43 ∧ g ≠ 44) (s : List UInt8) (v : TVal) (hv : pT v = true) (hc : Om g [kP (.im 0), kS s] (C43 (byM [] all) c) = some (v, C43 (byM [] all) c')) {h : Heap} (H : Both all ρA ρB rA rB c ns h) :
  ∃ h', (∀ (β : Type) (d : Nat) (k : TVal → Heap → Option β), vcall O (.v (.c (.func g []))) [kP rA, kS s] h d k = k v h') ∧ Both all ρA ρB rA rB c' ns h' ∧ (∀ d e o, h.get (.own d e) = some o → h'.get (.own d e) = some o) ∧ (∀ d, h'.gen d = h.gen d) := by
 obtain ⟨h', _, q1, _, q2, q3, q4⟩ := qRO (ps := [kS s]) ((congrFun (congrFun (hO g hg.1 hg.2.1 hg.2.2) _) _).trans hc) (qQz _ _) (qQz _ c').1 rfl (by simp [C43]) rfl hv H.a X.ra
 exact ⟨h', fun β d k => q1 d k, ⟨q2, H.b.keepR fun r o hr ho => q3 r o (X.d2 r hr) ho⟩, fun d e o ho => q3 _ o (qRm X.ia d e) ho, q4⟩
theorem qSN {c : List (List UInt8 × Int)} {ns ns' : List Int} (g : Nat) (hg : g ≠ 42 ∧ g ≠ 43 ∧ g ≠ 44) (s : List UInt8) (v : TVal) (hv : pT v = true) (hc : Om g [kP (.im 0), kS s] (C44 (all.map cpyF) ns) = some (v, C44 (all.map cpyF) ns')) {h : Heap} (H : Both all ρA ρB rA rB c ns h) :
  ∃ h', (∀ (β : Type) (d : Nat) (k : TVal → Heap → Option β), vcall O (.v (.c (.func g []))) [kP rB, kS s] h d k = k v h') ∧ Both all ρA ρB rA rB c ns' h' ∧ (∀ d e o, h.get (.own d e) = some o → h'.get (.own d e) = some o) ∧ (∀ d, h'.gen d = h.gen d) := by
 obtain ⟨h', _, q1, _, q2, q3, q4⟩ := qRO (ps := [kS s]) ((congrFun (congrFun (hO g hg.1 hg.2.1 hg.2.2) _) _).trans hc) (qQy _ _) (qQy _ ns').1 (by rw [qSA _ ns ns']) (qRK _ _) rfl hv H.b X.rb
 exact ⟨h', fun β d k => q1 d k, ⟨H.a.keepR fun r o hr ho => q3 r o (X.d1 r hr) ho, q2⟩, fun d e o ho => q3 _ o (qRm X.ib d e) ho, q4⟩
theorem qS5 (hlen : all.length ≤ 5) (ok : ∀ f ∈ all, fnOK f) {c : List (List UInt8 × Int)} {ns : List Int} {i : Nat} (P : FPair all c ns i) {h : Heap} (H : Both all ρA ρB rA rB c ns h) : LM O 4 [kP rA, kP rB] h = some (kB true, []) := by
 have hl2 : (all.map cpyF).length ≤ 5 := by rw [List.length_map]; exact hlen
 have hn2 : ns.length = (all.map cpyF).length := by rw [List.length_map]; exact P.len
 obtain ⟨h1, c1, H1, _, _⟩ := qRo O hO X 47 (by decide) nmFa _ rfl (qRT _ c nmFa) H
 obtain ⟨h2, c2, H2, _, _⟩ := qSN O hO X 48 (by decide) nmFa _ rfl (qRN _ ns nmFa hl2 hn2) H1
 obtain ⟨h3, c3, H3, _, _⟩ := qRo O hO X 47 (by decide) nmNo _ rfl (qRT _ c nmNo) H2
 have e1 := P.cnt nmFa
 have e2 : cntR nmNo c = 0 := by
  rw [P.cnt]
  unfold cntM
  cases hf : findM nmNo (all.map cpyF) 0 with
  | none => rfl
  | some p =>
   obtain ⟨a, b⟩ := qQ6 _ _ _ _ hf
   obtain ⟨f, hf1, hf2⟩ := List.mem_map.1 b
   have := (ok f hf1).2.2
   rw [← hf2] at a
   have a' : f.name = nmNo := a
   rw [a'] at this
   exact absurd this (by decide)
 rw [e1] at c1
 rw [e2] at c3
 rw [m_4, b12_4]
 simp (maxSteps := 9999999) +contextual only [exa, ne_eq, not_false_eq_true, reduceAdd, reduceMul, reduceLT, reduceLeDiff, reduceEqDiff, Int.reduceLT, Int.reduceLE, Int.reduceEq, Int.reduceToNat, c1, c2, c3]
theorem qTG (hlen : all.length ≤ 5) (ok : ∀ f ∈ all, fnOK f) (asks : Sl Int) (other : List UInt8) (c : List (List UInt8 × Int)) (ns : List Int) (i : Nat) (hi : i < 40) (P : FPair all c ns i) (h : Heap) (H : Both all ρA ρB rA rB c ns h) (a : Int) (ha : asks.list[i]? = some a) :
  ∃ c' ns' h', FPair all c' ns' (i + 1) ∧ Both all ρA ρB rA rB c' ns' h' ∧ LM O 3 [IsP asks, kS other, kP rA, kP rB, kI (i : Int)] h = LM O 3 [IsP asks, kS other, kP rA, kP rB, kI ((i + 1 : Nat) : Int)] h' := by
 have hl2 : (all.map cpyF).length ≤ 5 := by rw [List.length_map]; exact hlen
 have hw := qE8 a 4 (by decide)
 have U37 := fun (β : Type) (k : TVal → Heap → Option β) (h : Heap) (d : Nat) => qTf O hO a k h d
 have hlt : i < asks.len := (List.getElem?_eq_some_iff.1 ha).1
 have h1 : (i : Int) < (asks.len : Int) := by omega
 have h4 : (i : Int) < 40 := by omega
 obtain ⟨nm, hnm, _, _⟩ := qAO (l := fnL ++ [other]) (i := (withinM a 4).toNat) (by show _ < 4; omega)
 have WB : ∀ (β : Type) (h : Heap) (k : TVal → Heap → Option β), vop O (.bslice 1 4 [.p (.str [])] [(0, .k (kS [102, 97])), (1, .k (kS [102, 98])), (2, .k (kS [102, 99])), (3, .k (kS other))] false) h 62 k = k (kSl 1 true ((fnL ++ [other]).map sRow)) h := fun β h k => qBE _ _ rfl
 have WA : ∀ (β : Type) (h : Heap) (k : TVal → Heap → Option β), viaddr 1 (kSl 1 true ((fnL ++ [other]).map sRow)) (kI (withinM a 4)) h k = k (.v (.c (.p (.pptr (sRow nm) 0)))) h := fun β h k => by
  have : ((fnL ++ [other]).map sRow)[(withinM a 4).toNat]? = some (sRow nm) := by rw [List.getElem?_map, hnm]; rfl
  simp (maxSteps := 9999999) +contextual only [exa, ne_eq, not_false_eq_true, reduceAdd, reduceMul, reduceLT, reduceLeDiff, reduceEqDiff, Int.reduceLT, Int.reduceLE, Int.reduceEq, Int.reduceToNat, hw.1, this]
 obtain ⟨v, w, e, c', ns', k1, k2, k3, k4, P'⟩ := qSr all hlen ok c ns i (by omega) P nm
 have hn2 : ns'.length = (all.map cpyF).length := by rw [List.length_map]; exact P'.len
 obtain ⟨hA, cA, HA, KA, GA⟩ := qRo O hO X 45 (by decide) nm _ (qQ4 (v, e)) k1 H
 generalize hB' : (hA.own 17 (hA.gen 17 + 1) (.cells [.p (.int .i64 0), .p (.bool false), .p (.int .i64 0), .p (.str []), .p .nilslice, .p .nilslice] 0)).own 17 (hA.gen 17 + 1) (.cells (pcells v.row) 0) = hB
 have HB : Both all ρA ρB rA rB c' ns hB := by rw [← hB']; exact (HA.own X _ _ _).own X _ _ _
 obtain ⟨hC, cC, HC, KC, GC⟩ := qSN O hO X 46 (by decide) nm _ (qQ4 (w, e)) k2 HB
 generalize hD' : (hC.own 19 (hC.gen 19 + 1) (.cells [.p (.int .i64 0), .p (.bool false), .p (.int .i64 0), .p (.str []), .p .nilslice, .p .nilslice] 0)).own 19 (hC.gen 19 + 1) (.cells (pcells w.row) 0) = hD
 have HD : Both all ρA ρB rA rB c' ns' hD := by rw [← hD']; exact (HC.own X _ _ _).own X _ _ _
 obtain ⟨hE, cE, HE, _, _⟩ := qRo O hO X 47 (by decide) nm _ rfl (qRT _ c' nm) HD
 obtain ⟨hF, cF, HF, _, _⟩ := qSN O hO X 48 (by decide) nm _ rfl (qRN _ ns' nm hl2 hn2) HE
 rw [P'.cnt nm] at cE
 refine ⟨c', ns', hF, P', HF, ?_⟩
 have b17 : hB.get (.own 17 (hA.gen 17 + 1)) = some (.cells (pcells v.row) 0) := by rw [← hB']; simp only [exa, ne_eq, not_false_eq_true, reduceAdd, reduceMul, reduceLT, reduceLeDiff, reduceEqDiff, Int.reduceLT, Int.reduceLE, Int.reduceEq, Int.reduceToNat]
 have d17 : hD.get (.own 17 (hA.gen 17 + 1)) = some (.cells (pcells v.row) 0) := by
  rw [← hD']
  exact (Heap.own_get_ne _ 19 _ _ 17 _ (by decide)).trans ((Heap.own_get_ne _ 19 _ _ 17 _ (by decide)).trans (KC _ _ _ b17))
 have d19 : hD.get (.own 19 (hC.gen 19 + 1)) = some (.cells (pcells w.row) 0) := by rw [← hD']; simp only [exa, ne_eq, not_false_eq_true, reduceAdd, reduceMul, reduceLT, reduceLeDiff, reduceEqDiff, Int.reduceLT, Int.reduceLE, Int.reduceEq, Int.reduceToNat]
 have US : ∀ (β : Type) (k : TVal → Heap → Option β) (h : Heap) (d : Nat), vcall O (.v (.c (.func 24 []))) [.v (.agg (pcells v.row)), .v (.agg (pcells w.row))] h d k = k (kB true) h := fun β k h d => (qTs O hO v w k4 k h d).trans (by rw [k3])
 have PZ : ∀ v : VT, put1 [.p (.int .i64 0), .p (.bool false), .p (.int .i64 0), .p (.str []), .p .nilslice, .p .nilslice] 0 (pcells v.row) = pcells v.row := fun v => qAl _ (VT.row_len v)
 have lv : (pcells v.row).length = 6 := by rw [qAp, VT.row_len]
 have lw : (pcells w.row).length = 6 := by rw [qAp, VT.row_len]
 have tv : (pcells v.row).take 6 = pcells v.row := List.take_of_length_le (by omega)
 have tw : (pcells w.row).take 6 = pcells w.row := List.take_of_length_le (by omega)
 have wi := qAS i (by omega)
 rw [m_3, b12_3]
 unfold ansE at cA cC
 dsimp only at cA cC
 have PV := PZ v
 have PW := PZ w
 generalize pcells v.row = cv at *
 generalize pcells w.row = cw at *
 simp (maxSteps := 9999999) +contextual only [exa, ne_eq, not_false_eq_true, reduceAdd, reduceMul, reduceLT, reduceLeDiff, reduceEqDiff, Int.reduceLT, Int.reduceLE, Int.reduceEq, Int.reduceToNat, h1, h4, WB, WA, ha, U37, cA, PV, PW, lv, lw, tv, tw, hB', cC, hD', d17, d19, US, cE, cF, wi]
end
end Go.Proofs.YtlkejchbcchecaaDoor.Ab
set_option maxHeartbeats 4000000
namespace Go.AI
theorem qNe {f : FuncId} {args : List TVal} {objs : List AObj} {r : TVal × List AObj} {S : Oracle} {W : Mach} : orc (addZ f args objs r S) W f args objs = some r := by
 have : addZ f args objs r S f args objs = some r := by unfold addZ; rw [if_pos ⟨rfl, rfl, rfl⟩]
 show Option.rec (motive := fun _ => Res1) _ some (addZ f args objs r S f args objs) = some r
 rw [this]
theorem qRZ {f : FuncId} {args : List TVal} {objs : List AObj} {r : TVal × List AObj} {S : Oracle} : addZ f args objs r S f args objs = some r := by unfold addZ; rw [if_pos ⟨rfl, rfl, rfl⟩]
theorem qRB {f : FuncId} {args : List TVal} {objs : List AObj} {r : TVal × List AObj} {S : Oracle} (g : FuncId) (h : g ≠ f) : addZ f args objs r S g = S g := by
 funext us os
 unfold addZ
 rw [if_neg fun e => h e.1]
noncomputable def labsB (F : MFunc) : Bool := F.labs.all fun e => nodupB e.2.1 && e.2.1.all fun x => Nat.blt (x + 1) 1048576
theorem qL5 {F : MFunc} (h : labsB F = true) : ∀ e ∈ F.labs, nodupB e.2.1 = true ∧ ∀ x ∈ e.2.1, x + 1 < 1048576 := by
 intro e he
 have := List.all_eq_true.1 h e he
 rw [Bool.and_eq_true] at this
 refine ⟨this.1, fun x hx => ?_⟩
 have := List.all_eq_true.1 this.2 x hx
 rwa [Nat.blt_eq] at this
theorem qR3 (n N : Nat) (hN : 0 < N) : (TVal.v (.c (.ptr (.im 0) 0))).ren (back [] N (newRef n)) = .v (.c (.ptr (.im (n + 0)) 0)) := by
 have hb : Nat.blt 0 N = true := by rw [Nat.blt_eq]; exact hN
 show TVal.v (.c (match back [] N (newRef n) (.im 0) with | some s => .ptr s 0 | none => .junk)) = _
 have : back [] N (newRef n) (.im 0) = some (.im (n + 0)) := by
  simp only [back, List.getElem?_nil, hb, cond_true, newRef, List.length_nil, Nat.sub_zero]
 rw [this]
end Go.AI
namespace Go.Proofs.YtlkejchbcchecaaDoor.Ab
open Go Go.AI
section
variable (O : Oracle)
variable (hO : ∀ g, g ≠ 42 → g ≠ 43 → g ≠ 44 → O g = Om g)
include hO
theorem qSX {all : List FnT} {ρA ρB : List Ref} {rA rB : Ref} (X : Apart2 ρA ρB rA rB) (hlen : all.length ≤ 5) (ok : ∀ f ∈ all, fnOK f) (asks : Sl Int) (other : List UInt8) :
  ∀ (i : Nat) (c : List (List UInt8 × Int)) (ns : List Int) (h : Heap), FPair all c ns i → Both all ρA ρB rA rB c ns h → LM O 3 [IsP asks, kS other, kP rA, kP rB, kI (i : Int)] h = some (kB true, []) := by
 refine qAL (min asks.len 40) (fun i hi c ns h P H => ?_) (fun i hi ih c ns h P H => ?_)
 ·have E := qS5 O hO X hlen ok P H
  rw [m_3, b12_3]
  by_cases h1 : (i : Int) < (asks.len : Int)
  ·have h4 : ¬ (i : Int) < 40 := by omega
   simp (maxSteps := 9999999) +contextual only [exa, ne_eq, not_false_eq_true, reduceAdd, reduceMul, reduceLT, reduceLeDiff, reduceEqDiff, Int.reduceLT, Int.reduceLE, Int.reduceEq, Int.reduceToNat, h1, h4]
   exact E
  ·simp (maxSteps := 9999999) +contextual only [exa, ne_eq, not_false_eq_true, reduceAdd, reduceMul, reduceLT, reduceLeDiff, reduceEqDiff, Int.reduceLT, Int.reduceLE, Int.reduceEq, Int.reduceToNat, h1]
   exact E
 ·obtain ⟨a, ha, _, _⟩ := qAO (l := asks.list) (i := i) (by unfold Sl.len at hi; omega)
  obtain ⟨c', ns', h', P', H', e⟩ := qTG O hO X hlen ok asks other c ns i (by omega) P h H a ha
  exact e.trans (ih c' ns' h' P' H')
theorem qRy (names fails asks : Sl Int) (rs : Sl RT) (other : List UInt8) (all : List FnT)
  (hK : rs.len ≤ 8 → (∀ r ∈ rs.list, fewR r 20 ≠ 0) → all.length ≤ 5 ∧ (∀ f ∈ all, fnOK f) ∧ O 42 [IsP names, RsP rs, IsP fails] [] = some (.v (.c (.p (slP 3 FnT.row (grown all)))), []) ∧
   O 43 [.v (.c (.p (slP 3 FnT.row (grown all))))] [] = some (kP (.im 0), C43 (byM [] all) []) ∧ O 44 [.v (.c (.p (slP 3 FnT.row (grown all))))] [] = some (kP (.im 0), C44 (all.map cpyF) (List.replicate all.length 0))) :
  limZ c12 O Z12 (lenF ([] : List AObj)) 0 [IsP names, RsP rs, IsP fails, IsP asks, kS other] { ims := [], owns := .nil } = some (kB true, []) := by
 show LM O 0 _ h0 = _
 have UK := fun (β : Type) (k : TVal → Heap → Option β) (h : Heap) (d : Nat) => qTa O hO k h d
 rw [m_0, b12_0]
 by_cases h8 : (8 : Int) < (rs.len : Int)
 ·simp (maxSteps := 9999999) +contextual only [exa, ne_eq, not_false_eq_true, reduceAdd, reduceMul, reduceLT, reduceLeDiff, reduceEqDiff, Int.reduceLT, Int.reduceLE, Int.reduceEq, Int.reduceToNat, UK, h8]
 ·by_cases h30 : (30 : Int) < (other.length : Int)
  ·simp (maxSteps := 9999999) +contextual only [exa, ne_eq, not_false_eq_true, reduceAdd, reduceMul, reduceLT, reduceLeDiff, reduceEqDiff, Int.reduceLT, Int.reduceLE, Int.reduceEq, Int.reduceToNat, UK, h8, h30]
  ·have G := qS7 O hO (IsP names) (IsP fails) (IsP asks) rs (by omega) (kS other) h0 (fun hf => by
    obtain ⟨k1, k2, k3, k4, k5⟩ := hK (by omega) hf
    have U42 := fun (β : Type) (k : TVal → Heap → Option β) (h : Heap) (d : Nat) => qAH (k := k) (h := h) (d := d) 42 [IsP names, RsP rs, IsP fails] _ rfl k3 rfl
    obtain ⟨h1, _, c1, _, A1, K1, _, L1, _⟩ := qLe (pl := [.v (.c (.p (slP 3 FnT.row (grown all))))]) rfl k4 (qQz _ _).1 h0
    obtain ⟨h2, _, c2, _, A2, K2, _, L2, _⟩ := qLe (pl := [.v (.c (.p (slP 3 FnT.row (grown all))))]) rfl k5 (qQy _ _).1 h1
    rw [qR3 _ _ (by simp [C43])] at c1
    rw [qR3 _ _ (qRK _ _)] at c2
    have C1 := fun (β : Type) (k : TVal → Heap → Option β) (d : Nat) => c1 (β := β) d k
    have C2 := fun (β : Type) (k : TVal → Heap → Option β) (d : Nat) => c2 (β := β) d k
    generalize hρA : ((List.range (C43 (byM [] all) []).length).map fun i => Ref.im (h0.ims.length + i)) = ρA at A1
    generalize hρB : ((List.range (C44 (all.map cpyF) (List.replicate all.length 0)).length).map fun i => Ref.im (h1.ims.length + i)) = ρB at A2
    have X : Apart2 ρA ρB (.im (h0.ims.length + 0)) (.im (h1.ims.length + 0)) := by
     refine ⟨fun r hr => ?_, fun r hr => ?_, fun r hr hr2 => ?_, fun r hr2 hr => ?_, ?_, ?_⟩
     ·rw [← hρA] at hr; obtain ⟨i, _, rfl⟩ := List.mem_map.1 hr; exact ⟨_, rfl⟩
     ·rw [← hρB] at hr; obtain ⟨i, _, rfl⟩ := List.mem_map.1 hr; exact ⟨_, rfl⟩
     ·rw [← hρA] at hr; rw [← hρB] at hr2
      obtain ⟨i, hi, rfl⟩ := List.mem_map.1 hr
      obtain ⟨j, _, e⟩ := List.mem_map.1 hr2
      have e' : h1.ims.length + j = h0.ims.length + i := by injection e
      have := List.mem_range.1 hi
      omega
     ·rw [← hρA] at hr; rw [← hρB] at hr2
      obtain ⟨i, hi, rfl⟩ := List.mem_map.1 hr
      obtain ⟨j, _, e⟩ := List.mem_map.1 hr2
      have e' : h1.ims.length + j = h0.ims.length + i := by injection e
      have := List.mem_range.1 hi
      omega
     ·rw [← hρA, List.getElem?_map, List.getElem?_range (by simp [C43])]; rfl
     ·rw [← hρB, List.getElem?_map, List.getElem?_range (qRK _ _)]; rfl
    have B2 : Both all ρA ρB (.im (h0.ims.length + 0)) (.im (h1.ims.length + 0)) [] (List.replicate all.length 0) h2 := ⟨A1.keepR fun r o _ ho => K2 r o ho, A2⟩
    have E := qSX O hO X k1 k2 asks other 0 _ _ h2 (qTm all) B2
    rw [m_2, b12_2]
    generalize hAr : Ref.im (h0.ims.length + 0) = rA at *
    generalize hBr : Ref.im (h1.ims.length + 0) = rB at *
    simp (maxSteps := 9999999) +contextual only [exa, ne_eq, not_false_eq_true, reduceAdd, reduceMul, reduceLT, reduceLeDiff, reduceEqDiff, Int.reduceLT, Int.reduceLE, Int.reduceEq, Int.reduceToNat, U42, C1, C2]
    exact E)
   simp (maxSteps := 9999999) +contextual only [exa, ne_eq, not_false_eq_true, reduceAdd, reduceMul, reduceLT, reduceLeDiff, reduceEqDiff, Int.reduceLT, Int.reduceLE, Int.reduceEq, Int.reduceToNat, UK, h8, h30]
   exact G
end
theorem n12 : labsB c12 = true := by kernel_rfl
theorem n42 : labsB c42 = true := by kernel_rfl
theorem n43 : labsB c43 = true := by kernel_rfl
theorem n44 : labsB c44 = true := by kernel_rfl
def maI (o : Option (List Int)) : Sl Int := match o with
 | none => .nil
 | some l => .mk false l
theorem qPz (o : Option (List Int)) : intsP .i64 o = slP 1 iRow (maI o) := by cases o <;> rfl
theorem scripts_sound [Sym] {P : Program} {G : Nat → Option (List PVal)} (hm : P.follows .mixedOrders = true) (hT : TabM P G tab.get) (hS : FSound P G S) (n f a : Option (List Int)) (rs : Sl RT) (s : List UInt8) :
  FSound P G (addZ 12 [.pv (intsP .i64 n), RsP rs, .pv (intsP .i64 f), .pv (intsP .i64 a), .pv (.str s)] [] (kB true, []) S) := by
 have s0 : FSound P G Om := qGE hm hT hS
 have fin : ∀ (O : Oracle), FSound P G O → (limZ c12 O Z12 (lenF ([] : List AObj)) 0 [IsP (maI n), RsP rs, IsP (maI f), IsP (maI a), kS s] { ims := [], owns := .nil } = some (kB true, [])) → FSound P G (addZ 12 [.pv (intsP .i64 n), RsP rs, .pv (intsP .i64 f), .pv (intsP .i64 a), .pv (.str s)] [] (kB true, []) S) := fun O sO e => by
  rw [qPz, qPz, qPz]
  exact qRA hm hS sO hT k12 (qL5 n12) zapN_ok e
 by_cases hr : rs.len ≤ 8 ∧ ∀ r ∈ rs.list, fewR r 20 ≠ 0
 ·obtain ⟨all, p1, p2, p3⟩ := qSJ (maI n) rs (maI f) (fun r hm => qSc (by decide) (hr.2 r hm)) hr.1
  have gl : (grown all).list = all := qA7 _
  have gn : (grown all).len = all.length := qRI _
  have q3 := qSu (grown all) (by rw [gn]; exact p1) (by rw [gl]; exact p2)
  have q4 := qSz (grown all) (by rw [gn]; exact p1) (by rw [gl]; exact p2)
  rw [gl] at q3 q4
  rw [gn] at q4
  have s1 := qRA hm s0 s0 hT k42 (qL5 n42) (zapB_ok _) p3
  have s2 := qRA hm s1 s0 hT k43 (qL5 n43) (zapB_ok _) q3
  have s3 := qRA hm s2 s0 hT k44 (qL5 n44) (zapS_ok _) q4
  refine fin _ s3 (qRy _ (fun g h1 h2 h3 => ?_) _ _ _ _ _ all fun _ _ => ⟨p1, p2, ?_, ?_, ?_⟩)
  ·rw [qRB g h3, qRB g h2, qRB g h1]
  ·rw [qRB 42 (by decide), qRB 42 (by decide)]; exact qRZ
  ·rw [qRB 43 (by decide)]; exact qRZ
  ·exact qRZ
 ·exact fin Om s0 (qRy Om (fun _ _ _ _ => rfl) _ _ _ _ _ [] fun h1 h2 => absurd ⟨h1, h2⟩ hr)
end Go.Proofs.YtlkejchbcchecaaDoor.Ab
