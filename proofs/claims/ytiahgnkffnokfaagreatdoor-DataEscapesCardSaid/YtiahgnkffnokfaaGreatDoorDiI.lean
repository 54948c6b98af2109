/- Escapes mean their bytes: the law. -/
import Derived.Test.YtiahgnkffnokfaaGreatDoorDiH
set_option linter.all false
set_option linter.unusedVariables false
set_option linter.unusedSimpArgs false
set_option maxRecDepth 100000
set_option maxHeartbeats 4000000
namespace Go.Proofs.YtiahgnkffnokfaaGreatDoor.Ab
open Go Go.AI
def plainB (b : UInt8) : Bool := !decide ((b.toNat : Int) < 32) && !decide ((b.toNat : Int) = 34) && !decide ((b.toNat : Int) = 92)
def pS (b : UInt8) : List UInt8 :=
 if b.toNat % 9 = 0 then [92, 110] else if b.toNat % 9 = 1 then [92, 116] else if b.toNat % 9 = 2 then [92, 92] else if b.toNat % 9 = 3 then [92, 34]
 else if plainB b = true then [b] else []
def pW (b : UInt8) : List UInt8 :=
 if b.toNat % 9 = 0 then [10] else if b.toNat % 9 = 1 then [9] else if b.toNat % 9 = 2 then [92] else if b.toNat % 9 = 3 then [34]
 else if plainB b = true then [b] else []
def sE (l : List UInt8) : List UInt8 := l.flatMap pS
def wE (l : List UInt8) : List UInt8 := l.flatMap pW
theorem pS_len (b : UInt8) : (pS b).length ≤ 2 := by
 unfold pS
 by_cases h0 : b.toNat % 9 = 0
 ·rw [if_pos h0]; decide
 rw [if_neg h0]
 by_cases h1 : b.toNat % 9 = 1
 ·rw [if_pos h1]; decide
 rw [if_neg h1]
 by_cases h2 : b.toNat % 9 = 2
 ·rw [if_pos h2]; decide
 rw [if_neg h2]
 by_cases h3 : b.toNat % 9 = 3
 ·rw [if_pos h3]; decide
 rw [if_neg h3]
 cases h4 : plainB b
 ·simp
 ·simp
theorem pW_len (b : UInt8) : (pW b).length ≤ 1 := by
 unfold pW
 by_cases h0 : b.toNat % 9 = 0
 ·rw [if_pos h0]; decide
 rw [if_neg h0]
 by_cases h1 : b.toNat % 9 = 1
 ·rw [if_pos h1]; decide
 rw [if_neg h1]
 by_cases h2 : b.toNat % 9 = 2
 ·rw [if_pos h2]; decide
 rw [if_neg h2]
 by_cases h3 : b.toNat % 9 = 3
 ·rw [if_pos h3]; decide
 rw [if_neg h3]
 cases h4 : plainB b
 ·simp
 ·simp
theorem sE_len : ∀ l : List UInt8, (sE l).length ≤ 2 * l.length
 | [] => by simp [sE]
 | b :: l => by
  have := sE_len l
  have := pS_len b
  unfold sE at *
  rw [List.flatMap_cons, List.length_append, List.length_cons]; omega
theorem wE_len : ∀ l : List UInt8, (wE l).length ≤ l.length
 | [] => by simp [wE]
 | b :: l => by
  have := wE_len l
  have := pW_len b
  unfold wE at *
  rw [List.flatMap_cons, List.length_append, List.length_cons]; omega
theorem tGo_plain (b d : UInt8) (t acc : List UInt8) (hb : plainB b = true) : tGo (b :: d :: t) acc = tGo (d :: t) (acc ++ [b]) := by
 unfold plainB at hb
 simp only [Bool.and_eq_true, Bool.not_eq_true', decide_eq_false_iff_not] at hb
 rw [tGo, if_neg (by omega), if_neg (by omega), if_neg (by omega)]
theorem tGo_piece (b d : UInt8) (t acc : List UInt8) : tGo (pS b ++ d :: t) acc = tGo (d :: t) (acc ++ pW b) := by
 unfold pS pW
 by_cases h0 : b.toNat % 9 = 0
 ·rw [if_pos h0, if_pos h0]; rfl
 rw [if_neg h0, if_neg h0]
 by_cases h1 : b.toNat % 9 = 1
 ·rw [if_pos h1, if_pos h1]; rfl
 rw [if_neg h1, if_neg h1]
 by_cases h2 : b.toNat % 9 = 2
 ·rw [if_pos h2, if_pos h2]; rfl
 rw [if_neg h2, if_neg h2]
 by_cases h3 : b.toNat % 9 = 3
 ·rw [if_pos h3, if_pos h3]; rfl
 rw [if_neg h3, if_neg h3]
 cases h4 : plainB b
 ·simp
 ·exact tGo_plain b d t acc h4
theorem tGo_all : ∀ (l : List UInt8) (d : UInt8) (t acc : List UInt8), tGo (sE l ++ d :: t) acc = tGo (d :: t) (acc ++ wE l)
 | [], d, t, acc => by simp [sE, wE]
 | b :: l, d, t, acc => by
  have hs : sE (b :: l) ++ d :: t = pS b ++ (sE l ++ d :: t) := by unfold sE; rw [List.flatMap_cons, List.append_assoc]
  have hw : acc ++ wE (b :: l) = (acc ++ pW b) ++ wE l := by unfold wE; rw [List.flatMap_cons, List.append_assoc]
  rw [hs, hw, ← tGo_all l d t (acc ++ pW b)]
  cases hl : sE l with
  | nil => exact tGo_piece b d t acc
  | cons x r => exact tGo_piece b x (r ++ d :: t) acc
theorem parse_txt (s : List UInt8) (o : List UInt8) (hs : s.length ≤ 19000) (ho : o.length ≤ 200) (h : tGo s [] = some (o, [])) : Om 13 [kS (34 :: s)] [] = some (.tup [.agg (T6 o), .c (.p (.int .i64 0))], []) := by
 have t := txt26 s (by omega)
 rw [h] at t
 exact parse13 (34 :: s) (txtV o).row rfl (by simp; omega) t (check_txt o ho)
theorem parse_bad (s : List UInt8) (hs : s.length ≤ 19000) (h : tGo s [] = none) : Om 13 [kS (34 :: s)] [] = some (.tup [.agg Z6, .c (.p (.int .i64 11))], []) := by
 have t := txt26 s (by omega)
 rw [h] at t
 exact parse13E (34 :: s) (txtV []).row s 11 rfl (by simp; omega) (by decide) t
def fineB (c : UInt8) : Bool := decide ((c.toNat : Int) = 110) || decide ((c.toNat : Int) = 116) || decide ((c.toNat : Int) = 92) || decide ((c.toNat : Int) = 34)
theorem esc_end (b : List UInt8) (c : UInt8) (h : Heap) (hb : b.length ≤ 100) (q1 : h.gen 8 = 0) (q2 : h.gen 10 = 0) : lim tab.get S 4 0 3 [kU c, kS (sE b), kS (wE b)] h = some (kB true, []) := by
 have l1 := sE_len b
 have l2 := wE_len b
 have e1 : tGo (sE b ++ [34]) [] = some (wE b, []) := (tGo_all b 34 [] []).trans rfl
 have p1 := parse_txt (sE b ++ [34]) (wE b) (by simp; omega) (by omega) e1
 have e2 : tGo (sE b ++ [92, c, 34]) [] = match meantM c with | none => none | some x => some (wE b ++ [x], []) := by
  rw [tGo_all b 92 [c, 34] []]
  show (match meantM c with | none => none | some x => tGo [34] (([] ++ wE b) ++ [x])) = _
  cases meantM c <;> rfl
 have c1 : ∀ {β : Type} {k : TVal → Heap → Option β} {h : Heap} {d : Nat}, vcall Om (.v (.c (.func 13 []))) [kS (34 :: (sE b ++ [34]))] h d k = k (.tup [.agg (T6 (wE b)), .c (.p (.int .i64 0))]) h := vcall_pure 13 _ _ rfl p1 rfl
 have z0 : 1 + (sE b).length ≤ 4611686018427387904 := by omega
 have bff : (false == false) = true := rfl
 have btt : (true == true) = true := rfl
 have z1 : (sE b).length + 1 ≤ 4611686018427387904 := by omega
 have z2 : (sE b).length + 1 + 1 ≤ 4611686018427387904 := by omega
 have z3 : (sE b).length + 1 + 1 + 1 ≤ 4611686018427387904 := by omega
 have z4 : (sE b).length + 1 + 1 + 1 + 1 ≤ 4611686018427387904 := by omega
 have tb : ∀ {β : Type} {k : TVal → Heap → Option β} {h : Heap} {d : Nat}, vop Om (.toStr (.k (kSl 1 true [[.int .u8 (c.toNat : Int)]]))) h d k = k (kS [c]) h := fun {β k h d} => vplan _ _ (by
  show some (Plan.pure (.pv (.str [UInt8.ofNat (c.toNat : Int).toNat]))) = _
  rw [Int.toNat_natCast, UInt8.ofNat_toNat])
 have y1 : ∀ r : List UInt8, ([34] : List UInt8) ++ r = 34 :: r := fun _ => rfl
 have fB : fineB c = (meantM c).isSome := by
  unfold fineB meantM
  by_cases h1 : c.toNat = 110
  ·simp [h1]
  by_cases h2 : c.toNat = 116
  ·simp [h1, h2]
  by_cases h3 : c.toNat = 34
  ·simp [h1, h2, h3]
  by_cases h4 : c.toNat = 92
  ·simp [h1, h2, h3, h4]
  ·simp [h1, h2, h3, h4]; omega
 cases hm : meantM c with
 | none =>
  rw [hm] at e2
  have p2 := parse_bad (sE b ++ [92, c, 34]) (by simp; omega) e2
  have c2 : ∀ {β : Type} {k : TVal → Heap → Option β} {h : Heap} {d : Nat}, vcall Om (.v (.c (.func 13 []))) [kS (34 :: (sE b ++ [92, c, 34]))] h d k = k (.tup [.agg Z6, .c (.p (.int .i64 11))]) h := vcall_pure 13 _ _ rfl p2 rfl
  rw [hm] at fB
  unfold fineB at fB
  simp only [Option.isSome, Bool.or_eq_false_iff, decide_eq_false_iff_not] at fB
  obtain ⟨⟨⟨f1, f2⟩, f3⟩, f4⟩ := fB
  rw [w4_3, b4_3]
  simp (config := { maxSteps := 10000000 }) +contextual only [exa, ne_eq, not_false_eq_true, Nat.reduceAdd, Nat.reduceMul, Nat.reduceLT, Nat.reduceLeDiff, Nat.reduceEqDiff, Int.reduceLT, Int.reduceLE, Int.reduceEq, Int.reduceToNat, exW, exY, List.cons_append, List.nil_append, List.append_assoc, List.length_append, z0, z1, z2, z3, z4, bff, btt, tb, c1, c2, f1, f2, f3, f4, q1, q2, oneOf]
 | some x =>
  rw [hm] at e2
  have p2 := parse_txt (sE b ++ [92, c, 34]) (wE b ++ [x]) (by simp; omega) (by simp; omega) e2
  have c2 : ∀ {β : Type} {k : TVal → Heap → Option β} {h : Heap} {d : Nat}, vcall Om (.v (.c (.func 13 []))) [kS (34 :: (sE b ++ [92, c, 34]))] h d k = k (.tup [.agg (T6 (wE b ++ [x])), .c (.p (.int .i64 0))]) h := vcall_pure 13 _ _ rfl p2 rfl
  rw [hm] at fB
  unfold fineB at fB
  rw [w4_3, b4_3]
  by_cases f1 : (c.toNat : Int) = 110
  ·replace f1 := decide_eq_true f1
   simp (config := { maxSteps := 10000000 }) +contextual only [exa, ne_eq, not_false_eq_true, Nat.reduceAdd, Nat.reduceMul, Nat.reduceLT, Nat.reduceLeDiff, Nat.reduceEqDiff, Int.reduceLT, Int.reduceLE, Int.reduceEq, Int.reduceToNat, exW, exY, List.cons_append, List.nil_append, List.append_assoc, List.length_append, z0, z1, z2, z3, z4, bff, btt, tb, c1, c2, f1, q1, q2, oneOf]
  by_cases f2 : (c.toNat : Int) = 116
  ·replace f2 := decide_eq_true f2
   simp (config := { maxSteps := 10000000 }) +contextual only [exa, ne_eq, not_false_eq_true, Nat.reduceAdd, Nat.reduceMul, Nat.reduceLT, Nat.reduceLeDiff, Nat.reduceEqDiff, Int.reduceLT, Int.reduceLE, Int.reduceEq, Int.reduceToNat, exW, exY, List.cons_append, List.nil_append, List.append_assoc, List.length_append, z0, z1, z2, z3, z4, bff, btt, tb, c1, c2, f1, f2, q1, q2, oneOf]
  by_cases f3 : (c.toNat : Int) = 92
  ·replace f3 := decide_eq_true f3
   simp (config := { maxSteps := 10000000 }) +contextual only [exa, ne_eq, not_false_eq_true, Nat.reduceAdd, Nat.reduceMul, Nat.reduceLT, Nat.reduceLeDiff, Nat.reduceEqDiff, Int.reduceLT, Int.reduceLE, Int.reduceEq, Int.reduceToNat, exW, exY, List.cons_append, List.nil_append, List.append_assoc, List.length_append, z0, z1, z2, z3, z4, bff, btt, tb, c1, c2, f1, f2, f3, q1, q2, oneOf]
  have f4 : (c.toNat : Int) = 34 := by simpa [f1, f2, f3] using fB
  replace f4 := decide_eq_true f4
  simp (config := { maxSteps := 10000000 }) +contextual only [exa, ne_eq, not_false_eq_true, Nat.reduceAdd, Nat.reduceMul, Nat.reduceLT, Nat.reduceLeDiff, Nat.reduceEqDiff, Int.reduceLT, Int.reduceLE, Int.reduceEq, Int.reduceToNat, exW, exY, List.cons_append, List.nil_append, List.append_assoc, List.length_append, z0, z1, z2, z3, z4, bff, btt, tb, c1, c2, f1, f2, f3, f4, q1, q2, oneOf]
theorem take_snoc (l : List UInt8) (i : Nat) (b : UInt8) (hb : l[i]? = some b) : sE (l.take (i + 1)) = sE (l.take i) ++ pS b ∧ wE (l.take (i + 1)) = wE (l.take i) ++ pW b := by
 rw [List.take_add_one, hb]
 unfold sE wE
 simp
theorem esc_loop (s : Sl UInt8) (c : UInt8) (h : Heap) (hl : s.len ≤ 100) (q1 : h.gen 8 = 0) (q2 : h.gen 10 = 0) : ∀ i : Nat, i ≤ s.len → lim tab.get S 4 0 1 [.v (.c (.p (slP 1 bRow s))), kU c, kS (sE (s.list.take i)), kS (wE (s.list.take i)), kI (i : Int)] h = some (kB true, []) := by
 refine loop_up s.len (fun i hi hle => ?_) (fun i hi ih hle => ?_) <;> rw [w4_1, b4_1]
 ·have h1 : ¬ (i : Int) < (s.len : Int) := by omega
  have : s.list.take i = s.list := List.take_of_length_le hi
  rw [this]
  simp (config := { maxSteps := 10000000 }) +contextual only [exa, ne_eq, not_false_eq_true, Nat.reduceAdd, Nat.reduceMul, Nat.reduceLT, Nat.reduceLeDiff, Nat.reduceEqDiff, Int.reduceLT, Int.reduceLE, Int.reduceEq, Int.reduceToNat, exW, exY, h1, if_false, oneOf]
  exact esc_end s.list c h hl q1 q2
 ·have h1 : (i : Int) < (s.len : Int) := by omega
  obtain ⟨b, hs, h2, _⟩ := at_step hi
  obtain ⟨x, hx1, hx2⟩ := byte_text s i b hs
  obtain ⟨t1, t2⟩ := take_snoc s.list i b hs
  have ih := ih hi
  have l1 := sE_len (s.list.take i)
  have l2 := wE_len (s.list.take i)
  have l3 : (s.list.take i).length ≤ i := by simp; omega
  have z1 : (sE (s.list.take i)).length + 1 ≤ 4611686018427387904 := by omega
  have z2 : (sE (s.list.take i)).length + 2 ≤ 4611686018427387904 := by omega
  have z3 : (wE (s.list.take i)).length + 1 ≤ 4611686018427387904 := by omega
  have tm : (b.toNat : Int).tmod 9 = ((b.toNat % 9 : Nat) : Int) := rfl
  have e9 : ∀ n : Nat, ((b.toNat % 9 : Nat) : Int) = (n : Int) ↔ b.toNat % 9 = n := fun n => by omega
  have R : ∀ {β : Type} {k : TVal → Heap → Option β} {h : Heap}, vbin .rem 0 (kU b) (.v (.c (.p (.int .u8 9)))) h k = k (kN .u8 ((b.toNat : Int).tmod 9)) h := vbin_rem 0 .u8 (b.toNat : Int) 9 (by decide)
  rw [t1, t2] at ih
  have next : ∀ a w : List UInt8, a = sE (s.list.take i) ++ pS b → w = wE (s.list.take i) ++ pW b → lim tab.get S 4 0 2 [.v (.c (.p (slP 1 bRow s))), kU c, kS a, kS w, kI (i : Int)] h = some (kB true, []) := by
   intro a w ha hw
   rw [w4_2, b4_2, ha, hw]
   simp (config := { maxSteps := 10000000 }) +contextual only [exa, ne_eq, not_false_eq_true, Nat.reduceAdd, Nat.reduceMul, Nat.reduceLT, Nat.reduceLeDiff, Nat.reduceEqDiff, Int.reduceLT, Int.reduceLE, Int.reduceEq, Int.reduceToNat, wrapS i (by omega), ih]
  by_cases h0 : b.toNat % 9 = 0
  ·have f0 : (((b.toNat % 9 : Nat) : Int) = 0) := by omega
   simp (config := { maxSteps := 10000000 }) +contextual only [exa, ne_eq, not_false_eq_true, Nat.reduceAdd, Nat.reduceMul, Nat.reduceLT, Nat.reduceLeDiff, Nat.reduceEqDiff, Int.reduceLT, Int.reduceLE, Int.reduceEq, Int.reduceToNat, exW, exY, h1, h2, hs, R, tm, f0, z1, z2, z3, oneOf]
   exact next _ _ (by unfold pS; rw [if_pos h0]) (by unfold pW; rw [if_pos h0])
  have f0 : ¬ (((b.toNat % 9 : Nat) : Int) = 0) := by omega
  by_cases h01 : b.toNat % 9 = 1
  ·have f1 : (((b.toNat % 9 : Nat) : Int) = 1) := by omega
   simp (config := { maxSteps := 10000000 }) +contextual only [exa, ne_eq, not_false_eq_true, Nat.reduceAdd, Nat.reduceMul, Nat.reduceLT, Nat.reduceLeDiff, Nat.reduceEqDiff, Int.reduceLT, Int.reduceLE, Int.reduceEq, Int.reduceToNat, exW, exY, h1, h2, hs, R, tm, decide_eq_false f0, decide_eq_true f1, z1, z2, z3, oneOf]
   exact next _ _ (by unfold pS; rw [if_neg h0, if_pos h01]) (by unfold pW; rw [if_neg h0, if_pos h01])
  have f1 : ¬ (((b.toNat % 9 : Nat) : Int) = 1) := by omega
  by_cases h02 : b.toNat % 9 = 2
  ·have f2 : (((b.toNat % 9 : Nat) : Int) = 2) := by omega
   simp (config := { maxSteps := 10000000 }) +contextual only [exa, ne_eq, not_false_eq_true, Nat.reduceAdd, Nat.reduceMul, Nat.reduceLT, Nat.reduceLeDiff, Nat.reduceEqDiff, Int.reduceLT, Int.reduceLE, Int.reduceEq, Int.reduceToNat, exW, exY, h1, h2, hs, R, tm, decide_eq_false f0, decide_eq_false f1, decide_eq_true f2, z1, z2, z3, oneOf]
   exact next _ _ (by unfold pS; rw [if_neg h0, if_neg h01, if_pos h02]) (by unfold pW; rw [if_neg h0, if_neg h01, if_pos h02])
  have f2 : ¬ (((b.toNat % 9 : Nat) : Int) = 2) := by omega
  by_cases h03 : b.toNat % 9 = 3
  ·have f3 : (((b.toNat % 9 : Nat) : Int) = 3) := by omega
   simp (config := { maxSteps := 10000000 }) +contextual only [exa, ne_eq, not_false_eq_true, Nat.reduceAdd, Nat.reduceMul, Nat.reduceLT, Nat.reduceLeDiff, Nat.reduceEqDiff, Int.reduceLT, Int.reduceLE, Int.reduceEq, Int.reduceToNat, exW, exY, h1, h2, hs, R, tm, decide_eq_false f0, decide_eq_false f1, decide_eq_false f2, decide_eq_true f3, z1, z2, z3, oneOf]
   exact next _ _ (by unfold pS; rw [if_neg h0, if_neg h01, if_neg h02, if_pos h03]) (by unfold pW; rw [if_neg h0, if_neg h01, if_neg h02, if_pos h03])
  have f3 : ¬ (((b.toNat % 9 : Nat) : Int) = 3) := by omega
  have nx : ∀ (p : Bool), plainB b = p → lim tab.get S 4 0 2 [.v (.c (.p (slP 1 bRow s))), kU c, kS (sE (s.list.take i) ++ if p = true then [b] else []), kS (wE (s.list.take i) ++ if p = true then [b] else []), kI (i : Int)] h = some (kB true, []) := fun p hp =>
   next _ _ (by unfold pS; rw [if_neg h0, if_neg h01, if_neg h02, if_neg h03, hp]) (by unfold pW; rw [if_neg h0, if_neg h01, if_neg h02, if_neg h03, hp])
  have ew := wrapS i (by omega)
  cases hp : plainB b
  ·have nx := nx false hp
   unfold plainB at hp
   simp only [Bool.false_eq_true, if_false, List.append_nil] at nx
   simp (config := { maxSteps := 10000000 }) +contextual only [exa, ne_eq, not_false_eq_true, Nat.reduceAdd, Nat.reduceMul, Nat.reduceLT, Nat.reduceLeDiff, Nat.reduceEqDiff, Int.reduceLT, Int.reduceLE, Int.reduceEq, Int.reduceToNat, exW, exY, h1, h2, hs, R, tm, decide_eq_false f0, decide_eq_false f1, decide_eq_false f2, decide_eq_false f3, hp, nx, oneOf]
  ·have nx := nx true hp
   unfold plainB at hp
   simp only [if_true] at nx
   simp (config := { maxSteps := 10000000 }) +contextual only [exa, ne_eq, not_false_eq_true, Nat.reduceAdd, Nat.reduceMul, Nat.reduceLT, Nat.reduceLeDiff, Nat.reduceEqDiff, Int.reduceLT, Int.reduceLE, Int.reduceEq, Int.reduceToNat, exW, exY, h1, h2, hs, R, tm, decide_eq_false f0, decide_eq_false f1, decide_eq_false f2, decide_eq_false f3, hp, nx, vplan _ _ hx1, vplan _ _ hx2, ew, z1, z3, oneOf]
def bytesOf (l : List Int) : List UInt8 := l.map fun n => UInt8.ofNat n.toNat
def slOf : Option (List Int) → Sl UInt8
 | none => .nil
 | some l => .mk false (bytesOf l)
theorem byte_back (n : Int) (h1 : 0 ≤ n) (h2 : n ≤ 255) : ((UInt8.ofNat n.toNat).toNat : Int) = n := by
 rw [UInt8.toNat_ofNat', Nat.mod_eq_of_lt (by omega)]; omega
theorem slOf_eq (o : Option (List Int)) (ho : ∀ n ∈ intsL o, 0 ≤ n ∧ n ≤ 255) : intsP .u8 o = slP 1 bRow (slOf o) := by
 cases o with
 | none => rfl
 | some l =>
  show PVal.slice 1 false (l.map fun n => [.int .u8 n]) = .slice 1 false ((bytesOf l).map bRow)
  congr 1
  unfold bytesOf
  rw [List.map_map]
  apply List.map_congr_left
  intro n hn
  obtain ⟨h1, h2⟩ := ho n hn
  show [PVal.int .u8 n] = [.int .u8 ((UInt8.ofNat n.toNat).toNat : Int)]
  rw [byte_back n h1 h2]
theorem escapes_law (o : Option (List Int)) (a : Int) (ho : ∀ n ∈ intsL o, 0 ≤ n ∧ n ≤ 255) (h1 : 0 ≤ a) (h2 : a ≤ 255) : orc S (lim tab.get S) 4 [.v (.c (.p (intsP .u8 o))), kN .u8 a] [] = some (kB true, []) := by
 refine (orc_none rfl).trans ?_
 rw [slOf_eq o ho]
 obtain ⟨c, rfl⟩ : ∃ c : UInt8, a = (c.toNat : Int) := ⟨UInt8.ofNat a.toNat, (byte_back a h1 h2).symm⟩
 show lim tab.get S 4 0 0 [.v (.c (.p (slP 1 bRow (slOf o)))), kU c] h0 = _
 rw [w4_0, b4_0]
 by_cases hl : (slOf o).len ≤ 100
 ·have l1 : ¬ (100 : Int) < ((slOf o).len : Int) := by omega
  have L := esc_loop (slOf o) c h0 hl rfl rfl 0 (Nat.zero_le _)
  simp (config := { maxSteps := 10000000 }) +contextual only [exa, ne_eq, not_false_eq_true, Nat.reduceAdd, Nat.reduceMul, Nat.reduceLT, Nat.reduceLeDiff, Nat.reduceEqDiff, Int.reduceLT, Int.reduceLE, Int.reduceEq, Int.reduceToNat, exW, exY, vcall_pure 11 _ _ rfl known11 rfl, l1, if_false, oneOf]
  exact L
 ·have l1 : (100 : Int) < ((slOf o).len : Int) := by omega
  simp (config := { maxSteps := 10000000 }) +contextual only [exa, ne_eq, not_false_eq_true, Nat.reduceAdd, Nat.reduceMul, Nat.reduceLT, Nat.reduceLeDiff, Nat.reduceEqDiff, Int.reduceLT, Int.reduceLE, Int.reduceEq, Int.reduceToNat, exW, exY, vcall_pure 11 _ _ rfl known11 rfl, l1, if_true, oneOf]
end Go.Proofs.YtiahgnkffnokfaaGreatDoor.Ab
