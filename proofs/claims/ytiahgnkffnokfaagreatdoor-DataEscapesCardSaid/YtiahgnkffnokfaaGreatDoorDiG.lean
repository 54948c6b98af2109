/- The program's reader of values: texts. -/
import Derived.Test.YtiahgnkffnokfaaGreatDoorDiE
set_option linter.all false
set_option linter.unusedVariables false
set_option linter.unusedSimpArgs false
set_option maxRecDepth 100000
set_option maxHeartbeats 4000000
namespace Go.AI
section
variable {β : Type} {O : Oracle} {h : Heap} {d : Nat} {k : TVal → Heap → Option β}
theorem vappend_growI {D : List Nat} {sz by' : Nat} {v : Cell} {rows new : List (List PVal)} (t : Bool) (G : Grow D sz v rows h) (hD : d ∈ D) (hn : new ≠ []) (hsz : ∀ r ∈ new, r.length = sz) (hb : (rows.length + new.length) * by' ≤ 1099511627776) (hd : d + 1 < 1048576) :
  ∃ v' h', Grow D sz v' (rows ++ new) h' ∧ (∀ (β : Type) (O : Oracle) (k : TVal → Heap → Option β), vop O (.append sz by' false (.k (.v (.c v))) (.k (kSl sz t new))) h d k = k (.v (.c v')) h') ∧
   (∀ e g o, e ≠ d → h.get (.own e g) = some o → o ≠ .cells [] 0 → h'.get (.own e g) = some o) ∧ (∀ i, h'.get (.im i) = h.get (.im i)) := by
 have hnl : new.length ≠ 0 := by simpa using hn
 have slowEq : ∀ (O : Oracle) (v' : TVal) (h' : Heap), (plan .nil (.append sz by' false (.k (.v (.c v))) (.k (kSl sz t new)))).bind (fun p => (p.exec O d h).map fun x => (x.1, x.2.1)) = some (v', h') →
   ∀ (β : Type) (k : TVal → Heap → Option β), vop O (.append sz by' false (.k (.v (.c v))) (.k (kSl sz t new))) h d k = k v' h' := by
  intro O v' h' e β k
  show opK O _ .nil h d k = _
  rw [opK_eq]
  show (Option.bind (Option.bind _ _) _) = _
  rw [e]; rfl
 have gr : ∀ ups, growRow sz by' rows (pcells new.flatten) new.length ups = some ⟨fun r => .v (.c (.tsl sz (rows ++ new) r)), ups, some (.cells [] 0), false⟩ := by
  intro ups
  unfold growRow
  rw [chunk_rows sz new hsz]
  dsimp only
  rw [if_pos (by omega)]
 rcases G with ⟨rfl, rfl⟩ | ⟨hne, e, g, _, rfl, hh⟩
 ·refine ⟨.tsl sz new (.own d (h.gen d + 1)), h.own d (h.gen d + 1) (.cells [] 0), .inr ⟨hn, d, _, hD, rfl, Heap.own_get h d _ _ hd (fun e => by cases e)⟩, fun β O k => slowEq O _ _ ?_ β k, fun e g o he ho _ => (Heap.own_get_ne h d _ _ e g (Ne.symm he)).trans ho, fun i => rfl⟩
  have ea : appendTo sz by' false kNil none (pcells new.flatten) new.length = some ⟨fun r => .v (.c (.tsl sz ([] ++ new) r)), [], some (.cells [] 0), false⟩ := by
   unfold appendTo
   rw [if_neg hnl]
   exact gr []
  show ((Plan.go [] _).exec O d h).map _ = _
  simp only [Plan.exec, goOp, List.mapM_nil, Option.pure_def, zipNeeds, splitNeeds, srcCells, dstRef, srcRef]
  simp only [if_true, Option.bind_eq_bind, Option.bind_some, ea]
  rfl
 ·have hgen : (h.put (.own e g) .dead).gen d = (if e = d then g else h.gen d) := by
   show (h.own e g .dead).gen d = _
   split
   ·rename_i hh; subst hh; exact Heap.own_gen h e g _ hd
   ·rename_i hh; exact Heap.own_gen_ne h e g _ d hh
  refine ⟨.tsl sz (rows ++ new) (.own d (h.gen d + 1)), (h.put (.own e g) .dead).own d (h.gen d + 1) (.cells [] 0), .inr ⟨by simp [hne], d, _, hD, rfl, Heap.own_get _ d _ _ hd (fun e => by cases e)⟩, fun β O k => slowEq O _ _ ?_ β k, fun e' g' o he ho hx => ?_, fun i => rfl⟩
  ·have ea : appendTo sz by' false (.v (.c (.tsl sz rows (.own e g)))) (some (.cells [] 0)) (pcells new.flatten) new.length = some ⟨fun r => .v (.c (.tsl sz (rows ++ new) r)), [(.own e g, .dead)], some (.cells [] 0), false⟩ := by
    unfold appendTo
    rw [if_neg hnl]
    show (if sz = sz then growRow sz by' rows (pcells new.flatten) new.length [(.own e g, .dead)] else none) = _
    rw [if_pos rfl]
    exact gr _
   show ((Plan.go [.own e g] _).exec O d h).map _ = _
   simp only [Plan.exec, goOp, mapM1, hh, Option.map_some, zipNeeds, splitNeeds, srcCells, dstRef, srcRef]
   simp only [if_true, Option.bind_eq_bind, Option.bind_some, ea]
   simp
   rfl
  ·refine (Heap.own_get_ne _ d _ _ e' g' (Ne.symm he)).trans ?_
   show (h.own e g .dead).get (.own e' g') = some o
   by_cases e1 : e = e'
   ·subst e1
    exfalso
    letI : Sym := ⟨fun _ => 0⟩
    have h1 := (Heap.get_own_gen hh)
    have h2 := (Heap.get_own_gen ho)
    obtain ⟨a1, b1⟩ := h1
    obtain ⟨a2, b2⟩ := h2
    rw [b1] at b2
    simp only [Option.some.injEq, Prod.mk.injEq] at b2
    exact hx b2.2.symm
   ·exact (Heap.own_get_ne h e g _ e' g' e1).trans ho
end
end Go.AI
namespace Go.Proofs.YtiahgnkffnokfaaGreatDoor.Ab
open Go Go.AI
def meantM (c : UInt8) : Option UInt8 := if c.toNat = 110 then some 10 else if c.toNat = 116 then some 9 else if c.toNat = 34 then some c else if c.toNat = 92 then some c else none
def meantV (c : UInt8) : TVal := match meantM c with
 | some x => .tup [.c (.p (.int .u8 (x.toNat : Int))), .c (.p (.bool true))]
 | none => .tup [.c (.p (.int .u8 0)), .c (.p (.bool false))]
theorem meant_ok (c : UInt8) : Om 78 [kU c] [] = some (meantV c, []) := by
 refine (orc_none rfl).trans ?_
 show lim tab.get S 78 0 0 [kU c] h0 = _
 rw [w78_0, b78_0, vbin_eql, vif_kB]
 unfold meantV meantM
 by_cases h1 : c.toNat = 110
 ·rw [if_pos (decide_eq_true (by omega)), if_pos h1, tcomp_c, tcomp_c, vfin_pure _ _ rfl]; rfl
 rw [if_neg (by rw [decide_eq_true_eq]; omega), if_neg h1, vbin_eql, vif_kB]
 by_cases h2 : c.toNat = 116
 ·rw [if_pos (decide_eq_true (by omega)), if_pos h2, tcomp_c, tcomp_c, vfin_pure _ _ rfl]; rfl
 rw [if_neg (by rw [decide_eq_true_eq]; omega), if_neg h2, vbin_eql, vif_kB]
 by_cases h3 : c.toNat = 34
 ·rw [if_pos (decide_eq_true (by omega)), if_pos h3, w78_1, b78_1, decide_eq_true (by omega), vif_t, tcomp_c, tcomp_c, vfin_pure _ _ rfl]; rfl
 rw [if_neg (by rw [decide_eq_true_eq]; omega), if_neg h3, vbin_eql, w78_1, b78_1, vif_kB]
 by_cases h4 : c.toNat = 92
 ·rw [if_pos (decide_eq_true (by omega)), if_pos h4, tcomp_c, tcomp_c, vfin_pure _ _ rfl]; rfl
 rw [if_neg (by rw [decide_eq_true_eq]; omega), if_neg h4, tcomp_c, tcomp_c, vfin_pure _ _ rfl]; rfl
theorem fail28 (s : List UInt8) (e : Int) : Om 28 [P0, kI e] [rO s 0] = some (.tup [], [rO s e]) := by
 refine (orc_none rfl).trans ?_
 show lim tab.get S 28 1 0 [P0, kI e] { ims := [rO s 0], owns := .nil } = _
 rw [w28_0, b28_0]
 simp (config := { maxSteps := 10000000 }) +contextual only [exa, ne_eq, not_false_eq_true, Nat.reduceAdd, Nat.reduceMul, Nat.reduceLT, Nat.reduceLeDiff, Nat.reduceEqDiff, Int.reduceLT, Int.reduceLE, Int.reduceEq, Int.reduceToNat, exY, rO_h, rO_g0, rO_g1, rO_p0, rO_p1, rO_len, oneOf]
theorem fail28b (s : List UInt8) (e f : Int) (hf : ¬ f = 0) : Om 28 [P0, kI e] [rO s f] = some (.tup [], [rO s f]) := by
 refine (orc_none rfl).trans ?_
 show lim tab.get S 28 1 0 [P0, kI e] { ims := [rO s f], owns := .nil } = _
 rw [w28_0, b28_0]
 simp (config := { maxSteps := 10000000 }) +contextual only [exa, ne_eq, not_false_eq_true, Nat.reduceAdd, Nat.reduceMul, Nat.reduceLT, Nat.reduceLeDiff, Nat.reduceEqDiff, Int.reduceLT, Int.reduceLE, Int.reduceEq, Int.reduceToNat, exY, rO_h, rO_g0, rO_g1, rO_p0, rO_p1, rO_len, hf, oneOf]
theorem u28 {β : Type} {k : TVal → Heap → Option β} {h : Heap} {d : Nat} (r : Ref) (s : List UInt8) (e : Int) (hg : h.get r = some (rO s 0)) : vcall Om (.v (.c (.func 28 []))) [.v (.c (.ptr r 0)), kI e] h d k = k (.tup []) (h.put r (rO s e)) :=
 vcall_p 28 r 0 [] [kI e] _ _ _ rfl rfl hg (plain_rO _ _) (plain_rO _ _) rfl (fail28 s e)
theorem u28b {β : Type} {k : TVal → Heap → Option β} {h : Heap} {d : Nat} (r : Ref) (s : List UInt8) (e f : Int) (hf : ¬ f = 0) (hg : h.get r = some (rO s f)) : vcall Om (.v (.c (.func 28 []))) [.v (.c (.ptr r 0)), kI e] h d k = k (.tup []) (h.put r (rO s f)) :=
 vcall_p 28 r 0 [] [kI e] _ _ _ rfl rfl hg (plain_rO _ _) (plain_rO _ _) rfl (fail28b s e f hf)
theorem byteRows_snoc (s : List UInt8) (b : UInt8) : byteRows s ++ [[.int .u8 (b.toNat : Int)]] = byteRows (s ++ [b]) := by simp [byteRows]
/-- A text, behind its quote: what is read so far. -/
def tGo : List UInt8 → List UInt8 → Option (List UInt8 × List UInt8)
 | [], _ => none
 | [c], acc => if c.toNat < 32 then none else if c.toNat = 34 then some (acc, []) else none
 | c :: d :: s, acc =>
  if c.toNat < 32 then none
  else if c.toNat = 34 then some (acc, d :: s)
  else if c.toNat = 92 then (match meantM d with
   | none => none
   | some x => tGo s (acc ++ [x]))
  else tGo (d :: s) (acc ++ [c])
def tRes (s : List UInt8) : Option (List UInt8 × List UInt8) → Res1
 | none => some (kS [], [rO s 11])
 | some (o, r) => some (kS o, [rO r 0])
theorem rtext_end (s : List UInt8) (h : Heap) (v : Cell) (hg : h.get (.im 0) = some (rO s 0)) : lim tab.get S 49 1 3 [P0] h = some (kS [], [rO s 11]) := by
 rw [w49_3, b49_3, u28 (.im 0) s 11 hg, tcomp_c]
 exact vfin_1 false [.c (.p (.str []))] _ (by simp only [exP]) (get_put_im h 0 _ _ (by rw [hg]; rfl)) (plain_rO s 11)
theorem rtext_loop (s : List UInt8) (hs : s.length ≤ 1073741824) : ∀ (m i : Nat) (acc : List UInt8) (v : Cell) (h : Heap), s.length - i ≤ m → i ≤ s.length → acc.length ≤ i → Grow [26, 78] 1 v (byteRows acc) h → h.get (.im 0) = some (rO s 0) →
  lim tab.get S 49 1 1 [P0, .v (.c v), kI (i : Int)] h = tRes s (tGo (s.drop i) acc) := by
 intro m
 induction m with
 | zero =>
  intro i acc v h hm hl ha G hg
  have lt : ¬ (i : Int) < (s.length : Int) := by omega
  rw [w49_1, b49_1]
  simp (config := { maxSteps := 10000000 }) +contextual only [exa, ne_eq, not_false_eq_true, Nat.reduceAdd, Nat.reduceMul, Nat.reduceLT, Nat.reduceLeDiff, Nat.reduceEqDiff, Int.reduceLT, Int.reduceLE, Int.reduceEq, Int.reduceToNat, exY, hg, rO_g0, rO_g1, rO_len, lt, if_false, oneOf]
  rw [rtext_end s h v hg, List.drop_eq_nil_of_le (by omega)]; rfl
 | succ m ih =>
  intro i acc v h hm hl ha G hg
  by_cases hi : i < s.length
  ·obtain ⟨c, hcb⟩ : ∃ c, s[i]? = some c := ⟨s[i]'hi, by simp⟩
   have hd : s.drop i = c :: s.drop (i + 1) := by
    obtain ⟨h1, h2⟩ := List.getElem?_eq_some_iff.1 hcb
    rw [List.drop_eq_getElem_cons h1, h2]
   have lt : (i : Int) < (s.length : Int) := by omega
   have ew : IntKind.i64.wrap ((i : Int) + 1) = ((i + 1 : Nat) : Int) := by rw [wrap_i64 _ (by omega) (by omega)]; omega
   rw [hd]
   by_cases h1 : c.toNat < 32
   ·have h1' : ((c.toNat : Nat) : Int) < 32 := by omega
    rw [w49_1, b49_1]
    have fin : vfin false 1 [.c (.p (.str []))] (h.put (.im 0) (rO s 11)) = some (oneOf [.c (.p (.str []))], [rO s 11]) := vfin_1 false [.c (.p (.str []))] _ (by simp only [exP]) (get_put_im h 0 _ _ (by rw [hg]; rfl)) (plain_rO s 11)
    have cf := fun {β : Type} {k : TVal → Heap → Option β} {d : Nat} => u28 (β := β) (k := k) (h := h) (d := d) (.im 0) s 11 hg
    simp (config := { maxSteps := 10000000 }) +contextual only [exa, ne_eq, not_false_eq_true, Nat.reduceAdd, Nat.reduceMul, Nat.reduceLT, Nat.reduceLeDiff, Nat.reduceEqDiff, Int.reduceLT, Int.reduceLE, Int.reduceEq, Int.reduceToNat, exY, hg, rO_g0, rO_g1, rO_len, lt, hcb, h1', cf, if_true, oneOf]
    cases s.drop (i + 1) <;> simp [tGo, h1, tRes]
   have h1' : ¬ ((c.toNat : Nat) : Int) < 32 := by omega
   by_cases h2 : c.toNat = 34
   ·have h2' : ((c.toNat : Nat) : Int) = 34 := by omega
    have sl : ∀ {β : Type} {k : TVal → Heap → Option β} {hh : Heap} {d : Nat}, vop Om (.slice 0 true (.k (kS s)) (some (.k (kI ((i + 1 : Nat) : Int)))) none none) hh d k = k (kS (s.drop (i + 1))) hh := fun {β k hh d} => vslice_l s (i + 1) (by omega)
    have ts : ∀ {β : Type} {k : TVal → Heap → Option β} {d : Nat}, vop Om (.toStr (.k (.v (.c v)))) (h.put (.im 0) (rO (s.drop (i + 1)) 0)) d k = k (kS acc) (h.put (.im 0) (rO (s.drop (i + 1)) 0)) := fun {β k d} => vtoStr_grow (G.keep fun e _ g hh => hh)
    have fin := vfin_1 false [.c (.p (.str acc))] _ (by simp only [exP]) (get_put_im h 0 (pcells [.str (s.drop (i + 1)), .int .i64 0]) 0 (by rw [hg]; rfl)) (plain_rO (s.drop (i + 1)) 0)
    rw [w49_1, b49_1]
    simp (config := { maxSteps := 10000000 }) +contextual only [exa, ne_eq, not_false_eq_true, Nat.reduceAdd, Nat.reduceMul, Nat.reduceLT, Nat.reduceLeDiff, Nat.reduceEqDiff, Int.reduceLT, Int.reduceLE, Int.reduceEq, Int.reduceToNat, exY, hg, rO_g0, rO_g1, rO_p0, rO_len, lt, hcb, h1', h2', ew, sl, ts, if_true, oneOf]
    cases s.drop (i + 1) <;> simp [tGo, h1, h2, tRes]
   have h2' : ¬ ((c.toNat : Nat) : Int) = 34 := by omega
   have plain : ∀ (hn : ¬ (c.toNat = 92 ∧ i + 1 < s.length)), tGo (c :: s.drop (i + 1)) acc = tGo (s.drop (i + 1)) (acc ++ [c]) := by
    intro hn
    cases hr : s.drop (i + 1) with
    | nil => simp [tGo, h1, h2]
    | cons d t =>
     have : i + 1 < s.length := by
      have := congrArg List.length hr; simp at this; omega
     have : ¬ c.toNat = 92 := fun e => hn ⟨e, this⟩
     simp [tGo, h1, h2, this]
   have go : ∀ (x : UInt8) (j : Nat) (hj : i ≤ j) (hjl : j + 1 ≤ s.length) (dd : Nat) (hd0 : dd ∈ [26, 78]) (hd2 : dd + 1 < 1048576) (t' : Nat), 
     (vop (orc S (lim tab.get S)) (.bslice 1 1 [(.p (.int .u8 0))] [(0, (.k (kU x)))] false) h t' fun x67 h => vop (orc S (lim tab.get S)) (.append 1 1 false (.k (.v (.c v))) (.k x67)) h dd fun x68 h => lim tab.get S 49 1 2 [P0, x68, kI (j : Int)] h) = tRes s (tGo (s.drop (j + 1)) (acc ++ [x])) := by
    intro x j hj hjl dd hd0 hd2 t'
    rw [vplan (.bslice 1 1 [(.p (.int .u8 0))] [(0, (.k (kU x)))] false) (kSl 1 true [[.int .u8 (x.toNat : Int)]]) rfl]
    obtain ⟨v', h', G', e', _, keep⟩ := vappend_growI (by' := 1) (new := [[.int .u8 (x.toNat : Int)]]) true G hd0 (by simp) (by simp) (by simp [byteRows]; omega) hd2
    rw [e', w49_2, b49_2, vbin_add, wrap_i64 _ (by omega) (by omega)]
    rw [byteRows_snoc] at G'
    have := ih (j + 1) (acc ++ [x]) v' h' (by omega) hjl (by simp; omega) G' ((keep 0).trans hg)
    rw [show ((j : Int) + 1) = ((j + 1 : Nat) : Int) by omega]
    exact this
   by_cases h4 : c.toNat = 92
   ·have h4' : ((c.toNat : Nat) : Int) = 92 := by omega
    by_cases h5 : i + 1 < s.length
    ·have h5' : ((i + 1 : Nat) : Int) < (s.length : Int) := by omega
     obtain ⟨d, hdb⟩ : ∃ d, s[i + 1]? = some d := ⟨s[i + 1]'h5, by simp⟩
     have hd' : s.drop (i + 1) = d :: s.drop (i + 1 + 1) := by
      obtain ⟨q1, q2⟩ := List.getElem?_eq_some_iff.1 hdb
      rw [List.drop_eq_getElem_cons q1, q2]
     have key : tGo (c :: s.drop (i + 1)) acc = match meantM d with | none => none | some x => tGo (s.drop (i + 1 + 1)) (acc ++ [x]) := by
      rw [hd']; simp [tGo, h1, h2, h4]
     have cm : ∀ {β : Type} {k : TVal → Heap → Option β} {hh : Heap} {e : Nat}, vcall Om (.v (.c (.func 78 []))) [kU d] hh e k = k (meantV d) hh := vcall_pure 78 _ _ rfl (meant_ok d) (by unfold meantV; split <;> rfl)
     rw [key, w49_1, b49_1]
     cases hmd : meantM d with
     | none =>
      have mv : meantV d = .tup [.c (.p (.int .u8 0)), .c (.p (.bool false))] := by unfold meantV; rw [hmd]
      rw [mv] at cm
      have fin : vfin false 1 [.c (.p (.str []))] (h.put (.im 0) (rO s 11)) = some (oneOf [.c (.p (.str []))], [rO s 11]) := vfin_1 false [.c (.p (.str []))] _ (by simp only [exP]) (get_put_im h 0 _ _ (by rw [hg]; rfl)) (plain_rO s 11)
      have cf := fun {β : Type} {k : TVal → Heap → Option β} {d : Nat} => u28 (β := β) (k := k) (h := h) (d := d) (.im 0) s 11 hg
      simp (config := { maxSteps := 10000000 }) +contextual only [exa, ne_eq, not_false_eq_true, Nat.reduceAdd, Nat.reduceMul, Nat.reduceLT, Nat.reduceLeDiff, Nat.reduceEqDiff, Int.reduceLT, Int.reduceLE, Int.reduceEq, Int.reduceToNat, exY, hg, rO_g0, rO_g1, rO_len, lt, hcb, h1', h2', h4', ew, h5', hdb, cm, cf, if_true, if_false, tRes, oneOf]
     | some x =>
      have mv : meantV d = .tup [.c (.p (.int .u8 (x.toNat : Int))), .c (.p (.bool true))] := by unfold meantV; rw [hmd]
      rw [mv] at cm
      have g2 := go x (i + 1) (by omega) (by omega) 78 (by decide) (by decide) 77
      simp (config := { maxSteps := 10000000 }) +contextual only [exa, ne_eq, not_false_eq_true, Nat.reduceAdd, Nat.reduceMul, Nat.reduceLT, Nat.reduceLeDiff, Nat.reduceEqDiff, Int.reduceLT, Int.reduceLE, Int.reduceEq, Int.reduceToNat, exY, hg, rO_g0, rO_g1, rO_len, lt, hcb, h1', h2', h4', ew, h5', hdb, cm, if_true, if_false, oneOf] at g2 ⊢
      exact g2
    ·have h5' : ¬ ((i + 1 : Nat) : Int) < (s.length : Int) := by omega
     have g2 := go c i (by omega) (by omega) 26 (by decide) (by decide) 25
     rw [plain (fun q => h5 q.2), w49_1, b49_1]
     simp (config := { maxSteps := 10000000 }) +contextual only [exa, ne_eq, not_false_eq_true, Nat.reduceAdd, Nat.reduceMul, Nat.reduceLT, Nat.reduceLeDiff, Nat.reduceEqDiff, Int.reduceLT, Int.reduceLE, Int.reduceEq, Int.reduceToNat, exY, hg, rO_g0, rO_g1, rO_len, lt, hcb, h1', h2', h4', ew, h5', if_true, if_false, oneOf] at g2 ⊢
     exact g2
   ·have h4' : ¬ ((c.toNat : Nat) : Int) = 92 := by omega
    have g2 := go c i (by omega) (by omega) 26 (by decide) (by decide) 25
    rw [plain (fun q => h4 q.1), w49_1, b49_1]
    simp (config := { maxSteps := 10000000 }) +contextual only [exa, ne_eq, not_false_eq_true, Nat.reduceAdd, Nat.reduceMul, Nat.reduceLT, Nat.reduceLeDiff, Nat.reduceEqDiff, Int.reduceLT, Int.reduceLE, Int.reduceEq, Int.reduceToNat, exY, hg, rO_g0, rO_g1, rO_len, lt, hcb, h1', h2', h4', ew, if_true, if_false, oneOf] at g2 ⊢
    exact g2
  ·have lt : ¬ (i : Int) < (s.length : Int) := by omega
   rw [w49_1, b49_1]
   simp (config := { maxSteps := 10000000 }) +contextual only [exa, ne_eq, not_false_eq_true, Nat.reduceAdd, Nat.reduceMul, Nat.reduceLT, Nat.reduceLeDiff, Nat.reduceEqDiff, Int.reduceLT, Int.reduceLE, Int.reduceEq, Int.reduceToNat, exY, hg, rO_g0, rO_g1, rO_len, lt, if_false, oneOf]
   rw [rtext_end s h v hg, List.drop_eq_nil_of_le (by omega)]; rfl
theorem text49 (s : List UInt8) (hs : s.length ≤ 1073741824) : Om 49 [P0] [rO s 0] = tRes s (tGo s []) := by
 refine (orc_none rfl).trans ?_
 show lim tab.get S 49 1 0 [P0] { ims := [rO s 0], owns := .nil } = _
 rw [w49_0, b49_0]
 exact rtext_loop s hs s.length 0 [] _ _ (by omega) (by omega) (by simp) (Grow.nil _ 1 _) rfl
end Go.Proofs.YtiahgnkffnokfaaGreatDoor.Ab
