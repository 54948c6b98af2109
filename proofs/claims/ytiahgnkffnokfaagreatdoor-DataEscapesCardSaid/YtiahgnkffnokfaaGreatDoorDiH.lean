/- The program's reader of values: a text in quotes, the whole of it. -/
import Derived.Test.YtiahgnkffnokfaaGreatDoorDiG
set_option linter.all false
set_option linter.unusedVariables false
set_option linter.unusedSimpArgs false
set_option maxRecDepth 100000
set_option maxHeartbeats 4000000
namespace Go.Proofs.YtiahgnkffnokfaaGreatDoor.Ab
open Go Go.AI
/-- What is left behind blanks. -/
def trimB : List UInt8 → List UInt8
 | [] => []
 | b :: s => if isBl b.toNat = true then trimB s else b :: s
theorem trim86G : ∀ (s : List UInt8) (h : Heap), h.get (.im 0) = some setO → lim tab.get S 86 1 1 [kS s, P0] h = some (kS (trimB s), [setO])
 | [], h, hg => by
  have h0 : ¬ (0 : Int) < ((0 : Nat) : Int) := by decide
  have fin := vfin_1 true [.c (.p (.str []))] _ (by simp only [exP]) hg plain_setO
  rw [w86_1, b86_1]
  simp (config := { maxSteps := 10000000 }) +contextual only [exa, ne_eq, not_false_eq_true, Nat.reduceAdd, Nat.reduceMul, Nat.reduceLT, Nat.reduceLeDiff, Nat.reduceEqDiff, Int.reduceLT, Int.reduceLE, Int.reduceEq, Int.reduceToNat, List.length_nil, h0, fin, if_false, trimB, oneOf]
 | b :: s, h, hg => by
  have h1 : (0 : Int) < ((s.length + 1 : Nat) : Int) := by omega
  have h2 : (b :: s)[0]? = some b := rfl
  have hp : h.put (.im 0) setO = h := put_same h 0 _ hg
  have c := fun {β : Type} {k : TVal → Heap → Option β} {d : Nat} => u107 (β := β) (k := k) (d := d) (.im 0) b hg
  rw [hp] at c
  rw [w86_1, b86_1]
  cases h3 : isBl b.toNat
  ·rw [h3] at c
   have fin := vfin_1 true [.c (.p (.str (b :: s)))] _ (by simp only [exP]) hg plain_setO
   simp (config := { maxSteps := 10000000 }) +contextual only [exa, ne_eq, not_false_eq_true, Nat.reduceAdd, Nat.reduceMul, Nat.reduceLT, Nat.reduceLeDiff, Nat.reduceEqDiff, Int.reduceLT, Int.reduceLE, Int.reduceEq, Int.reduceToNat, List.length_cons, h1, h2, c, fin, trimB, h3, oneOf, if_false, Bool.false_eq_true]
  ·rw [h3] at c
   have sl : ∀ {β : Type} {k : TVal → Heap → Option β} {hh : Heap} {d : Nat}, vop Om (.slice 0 true (.k (kS (b :: s))) (some (.k (kI 1))) none none) hh d k = k (kS s) hh := fun {β k hh d} => vslice_l (b :: s) 1 (by simp)
   simp (config := { maxSteps := 10000000 }) +contextual only [exa, ne_eq, not_false_eq_true, Nat.reduceAdd, Nat.reduceMul, Nat.reduceLT, Nat.reduceLeDiff, Nat.reduceEqDiff, Int.reduceLT, Int.reduceLE, Int.reduceEq, Int.reduceToNat, List.length_cons, h1, h2, c, sl, trim86G s h hg, trimB, h3, oneOf, if_true]
theorem u86G {β : Type} {k : TVal → Heap → Option β} {h : Heap} {d : Nat} (r : Ref) (s : List UInt8) (hg : h.get r = some setO) : vcall Om (.v (.c (.func 86 []))) [kS s, .v (.c (.ptr r 0))] h d k = k (kS (trimB s)) (h.put r setO) :=
 vcall_p 86 r 0 [kS s] [] _ _ _ rfl rfl hg plain_setO plain_setO rfl (by
  refine (orc_none rfl).trans ?_
  show lim tab.get S 86 1 0 [kS s, P0] { ims := [setO], owns := .nil } = _
  rw [w86_0, b86_0]
  exact trim86G s _ rfl)
theorem trim54G (s : List UInt8) : Om 54 [kS s, kS blS] [] = some (kS (trimB s), []) := by
 refine (orc_none rfl).trans ?_
 show lim tab.get S 54 0 0 [kS s, kS blS] h0 = _
 rw [w54_0, b54_0]
 by_cases hs : s = []
 ·subst hs
  simp (config := { maxSteps := 10000000 }) +contextual only [exa, ne_eq, not_false_eq_true, Nat.reduceAdd, Nat.reduceMul, Nat.reduceLT, Nat.reduceLeDiff, Nat.reduceEqDiff, Int.reduceLT, Int.reduceLE, Int.reduceEq, Int.reduceToNat, trimB, oneOf]
 ·have hl : ¬ ((blS.length : Nat) : Int) = 1 := by decide
  have hbl : ¬ blS = [] := by decide
  have P : ∀ Z : List Cell, Z.length = 256 → put1 Z 0 (pcells setL) = pcells setL := fun Z hz => put1_all _ _ (by rw [pcells_len, set_len, hz])
  simp (config := { maxSteps := 10000000 }) +contextual only [exa, ne_eq, not_false_eq_true, Nat.reduceAdd, Nat.reduceMul, Nat.reduceLT, Nat.reduceLeDiff, Nat.reduceEqDiff, Int.reduceLT, Int.reduceLE, Int.reduceEq, Int.reduceToNat, exY, hs, hbl, hl, set_len, u85, P, u86G _ s, List.length_cons, List.length_nil, oneOf]
theorem u54G {β : Type} {k : TVal → Heap → Option β} {h : Heap} {d : Nat} (s : List UInt8) : vcall Om (.v (.c (.func 54 []))) [kS s, kS [32, 9, 10, 13]] h d k = k (kS (trimB s)) h := vcall_pure 54 _ _ rfl (trim54G s) rfl
theorem blanks27G (s : List UInt8) (e : Int) : Om 27 [P0] [rO s e] = some (.tup [], [rO (trimB s) e]) := by
 refine (orc_none rfl).trans ?_
 show lim tab.get S 27 1 0 [P0] { ims := [rO s e], owns := .nil } = _
 have c := fun {β : Type} {k : TVal → Heap → Option β} {h : Heap} {d : Nat} => u54G (β := β) (k := k) (h := h) (d := d) s
 rw [w27_0, b27_0]
 simp (config := { maxSteps := 10000000 }) +contextual only [exa, ne_eq, not_false_eq_true, Nat.reduceAdd, Nat.reduceMul, Nat.reduceLT, Nat.reduceLeDiff, Nat.reduceEqDiff, Int.reduceLT, Int.reduceLE, Int.reduceEq, Int.reduceToNat, exY, rO_h, rO_g0, rO_g1, rO_p0, rO_p1, rO_len, c, oneOf]
theorem u27G {β : Type} {k : TVal → Heap → Option β} {h : Heap} {d : Nat} (r : Ref) (s : List UInt8) (e : Int) (hg : h.get r = some (rO s e)) : vcall Om (.v (.c (.func 27 []))) [.v (.c (.ptr r 0))] h d k = k (.tup []) (h.put r (rO (trimB s) e)) :=
 vcall_p 27 r 0 [] [] _ _ _ rfl rfl hg (plain_rO _ _) (plain_rO _ _) rfl (blanks27G s e)
def txtV (s : List UInt8) : VT := .mk 3 false 0 s .nil .nil
/-- What a reader hands back of a text, and what it leaves. -/
def qV : Option (List UInt8 × List UInt8) → List UInt8
 | none => []
 | some (o, _) => o
def qL (s : List UInt8) : Option (List UInt8 × List UInt8) → List UInt8
 | none => s
 | some (_, r) => r
def qE : Option (List UInt8 × List UInt8) → Int
 | none => 11
 | some _ => 0
theorem text49q (s : List UInt8) (hs : s.length ≤ 1073741824) : Om 49 [P0] [rO s 0] = some (kS (qV (tGo s [])), [rO (qL s (tGo s [])) (qE (tGo s []))]) := by
 rw [text49 s hs]
 cases tGo s [] with
 | none => rfl
 | some p => obtain ⟨o, r⟩ := p; rfl
theorem u49 {β : Type} {k : TVal → Heap → Option β} {h : Heap} {d : Nat} (r : Ref) (s : List UInt8) (hs : s.length ≤ 1073741824) (hg : h.get r = some (rO s 0)) : vcall Om (.v (.c (.func 49 []))) [.v (.c (.ptr r 0))] h d k = k (kS (qV (tGo s []))) (h.put r (rO (qL s (tGo s [])) (qE (tGo s [])))) :=
 vcall_p 49 r 0 [] [] _ _ _ rfl rfl hg (plain_rO _ _) (plain_rO _ _) rfl (text49q s hs)
theorem txt26 (s : List UInt8) (hs : s.length ≤ 1073741824) : Om 26 [P0, kI 1] [rO (34 :: s) 0] = some (kA (txtV (qV (tGo s []))).row, [rO (qL s (tGo s [])) (qE (tGo s []))]) := by
 refine (orc_none rfl).trans ?_
 show lim tab.get S 26 1 0 [P0, kI 1] { ims := [rO (34 :: s) 0], owns := .nil } = _
 have nb : noB (34 :: s) := by
  intro c hc
  obtain rfl : 34 = c := by simpa using hc
  rfl
 have hxs : isStart (34 : UInt8).toNat = true := by decide
 have c27 := fun {β : Type} {k : TVal → Heap → Option β} {h : Heap} {d : Nat} (hg : h.get (.im 0) = some (rO (34 :: s) 0)) => u27i (β := β) (k := k) (h := h) (d := d) (34 :: s) 0 nb hg
 have ne : ∀ (c : UInt8) (w : List UInt8), c ≠ 34 → ¬ (34 :: s).take (c :: w).length = c :: w := fun c w hc e => hc (by
  have := congrArg List.head? e
  simp at this
  exact this.symm)
 have n1 := fun {β : Type} {k : TVal → Heap → Option β} {h : Heap} {d : Nat} (hg : h.get (.im 0) = some (rO (34 :: s) 0)) => u48n (β := β) (k := k) (h := h) (d := d) (34 :: s) [110, 117, 108, 108] hg (ne 110 _ (by decide))
 have n2 := fun {β : Type} {k : TVal → Heap → Option β} {h : Heap} {d : Nat} (hg : h.get (.im 0) = some (rO (34 :: s) 0)) => u48n (β := β) (k := k) (h := h) (d := d) (34 :: s) [116, 114, 117, 101] hg (ne 116 _ (by decide))
 have n3 := fun {β : Type} {k : TVal → Heap → Option β} {h : Heap} {d : Nat} (hg : h.get (.im 0) = some (rO (34 :: s) 0)) => u48n (β := β) (k := k) (h := h) (d := d) (34 :: s) [102, 97, 108, 115, 101] hg (ne 102 _ (by decide))
 have n4 : ∀ {β : Type} {k : TVal → Heap → Option β} {h : Heap} {d : Nat}, h.get (.im 0) = some (rO (34 :: s) 0) → vcall Om (.v (.c (.func 48 []))) [P0, kS [34]] h d k = k (kB true) (h.put (.im 0) (rO s 0)) := fun {β k h d} hg => (u48 (.im 0) (34 :: s) [34] hg).trans rfl
 have hs0 : ¬ (34 :: s) = [] := by simp
 have s1 : ∀ {β : Type} {k : TVal → Heap → Option β} {hh : Heap} {d : Nat}, vop Om (.slice 0 true (.k (kS (34 :: s))) none (some (.k (kI 1))) none) hh d k = k (kS [34]) hh := fun {β k hh d} => vslice_h (34 :: s) 1 (by simp)
 have c49 := fun {β : Type} {k : TVal → Heap → Option β} {h : Heap} {d : Nat} (hg : h.get (.im 0) = some (rO s 0)) => u49 (β := β) (k := k) (h := h) (d := d) (.im 0) s hs hg
 have c46 := fun {β : Type} {k : TVal → Heap → Option β} {h : Heap} {d : Nat} => u46s (β := β) (k := k) (h := h) (d := d) 34
 rw [hxs] at c46
 rw [w26_0, b26_0]
 simp (config := { maxSteps := 10000000 }) +contextual only [exa, ne_eq, not_false_eq_true, Nat.reduceAdd, Nat.reduceMul, Nat.reduceLT, Nat.reduceLeDiff, Nat.reduceEqDiff, Int.reduceLT, Int.reduceLE, Int.reduceEq, Int.reduceToNat, exY, rO_h, rO_g0, rO_g1, rO_len, c27, n1, n2, n3, n4, hs0, s1, c46, c49, if_false, txtV, VT.row, oneOf]
 exact vfin_1 true [.agg (pcells (txtV (qV (tGo s []))).row)] _ (by simp only [exP]) rfl (plain_rO _ _)
theorem x71 (o : List UInt8) : Om 71 [kA (txtV o).row] [] = some (kB false, []) := (orc_none rfl).trans (machU_le blks_ok 300 71 0 0 _ _ _ (by kernel_rfl))
theorem x72 : Om 72 [.v (.c (.p .nilslice))] [] = some (kI 0, []) := (orc_none rfl).trans (machU_le blks_ok 300 72 0 0 _ _ _ (by kernel_rfl))
abbrev T6 (o : List UInt8) : List Cell := [.p (.int .i64 3), .p (.bool false), .p (.int .i64 0), .p (.str o), .p .nilslice, .p .nilslice]
theorem txt44 (o : List UInt8) (ho : o.length ≤ 200) : Om 44 [.v (.agg (T6 o)), kI 1, P0] [.cells [.p (.int .i64 0)] 0] = some (kI 0, [.cells [.p (.int .i64 1)] 0]) := by
 refine (orc_none rfl).trans ?_
 show lim tab.get S 44 1 0 [.v (.agg (T6 o)), kI 1, P0] { ims := [.cells [.p (.int .i64 0)] 0], owns := .nil } = _
 have hg : (Heap.mk [.cells [.p (.int .i64 0)] 0] .nil).get (.im 0) = some (.cells [.p (.int .i64 0)] 0) := rfl
 have l : ¬ (200 : Int) < ((o.length : Nat) : Int) := by omega
 have c71 : ∀ {β : Type} {k : TVal → Heap → Option β} {h : Heap} {d : Nat}, vcall Om (.v (.c (.func 71 []))) [.v (.agg (T6 o))] h d k = k (kB false) h := vcall_pure 71 _ _ rfl (x71 o) rfl
 have c72 : ∀ {β : Type} {k : TVal → Heap → Option β} {h : Heap} {d : Nat}, vcall Om (.v (.c (.func 72 []))) [.v (.c (.p .nilslice))] h d k = k (kI 0) h := vcall_pure 72 _ _ rfl x72 rfl
 rw [w44_0, b44_0]
 simp (config := { maxSteps := 10000000 }) +contextual only [exa, ne_eq, not_false_eq_true, Nat.reduceAdd, Nat.reduceMul, Nat.reduceLT, Nat.reduceLeDiff, Nat.reduceEqDiff, Int.reduceLT, Int.reduceLE, Int.reduceEq, Int.reduceToNat, exY, hg, l, c71, c72, if_false, oneOf]
 rw [w44_1, b44_1]
 simp (config := { maxSteps := 10000000 }) +contextual only [exa, ne_eq, not_false_eq_true, Nat.reduceAdd, Nat.reduceMul, Nat.reduceLT, Nat.reduceLeDiff, Nat.reduceEqDiff, Int.reduceLT, Int.reduceLE, Int.reduceEq, Int.reduceToNat, exY, if_false, oneOf]
 rfl
theorem check_txt (o : List UInt8) (ho : o.length ≤ 200) : Om 24 [kA (txtV o).row] [] = some (kI 0, []) := by
 refine (orc_none rfl).trans ?_
 show lim tab.get S 24 0 0 [.v (.agg (T6 o))] h0 = _
 have c44 : ∀ {β : Type} {k : TVal → Heap → Option β} {h : Heap} {d : Nat} (r : Ref), h.get r = some (.cells [.p (.int .i64 0)] 0) → vcall Om (.v (.c (.func 44 []))) [.v (.agg (T6 o)), kI 1, .v (.c (.ptr r 0))] h d k = k (kI 0) (h.put r (.cells [.p (.int .i64 1)] 0)) := fun {β k h d} r hg =>
  vcall_p 44 r 0 [.v (.agg (T6 o)), kI 1] [] _ _ _ rfl rfl hg (plainO_cells [.int .i64 0] 0) (plainO_cells [.int .i64 1] 0) rfl (txt44 o ho)
 rw [w24_0, b24_0]
 simp (config := { maxSteps := 10000000 }) +contextual only [exa, ne_eq, not_false_eq_true, Nat.reduceAdd, Nat.reduceMul, Nat.reduceLT, Nat.reduceLeDiff, Nat.reduceEqDiff, Int.reduceLT, Int.reduceLE, Int.reduceEq, Int.reduceToNat, exY, c44, oneOf]
theorem t_build6 {β : Type} {O : Oracle} {h : Heap} {d : Nat} {kt : TVal → Heap → AI.Touch → Option β} : vtouch O (.build Z6 []) h d kt = kt (.v (.agg Z6)) h noTouch := t_plan _ _ rfl
theorem t_nilck1 {β : Type} {O : Oracle} {h : Heap} {d : Nat} {kt : TVal → Heap → AI.Touch → Option β} (r : Ref) (i : Nat) : vtouch O (.nilck (.k (.v (.c (.ptr r i))))) h d kt = kt (.v (.c (.ptr r i))) h noTouch := t_plan _ _ rfl
theorem ap12 : AI.Touch.apart ⟨[(Ref.own 12 1).site], [], false⟩ ⟨[(Ref.own 2 1).site], [(Ref.own 2 1).site], false⟩ = true := rfl
/-- What is refused as it is read. -/
theorem parse13E (t : List UInt8) (v : List PVal) (r : List UInt8) (e : Int) (hv : v.length = 6) (ht : t.length ≤ 20000) (he : ¬ e = 0) (H26 : Om 26 [P0, kI 1] [rO t 0] = some (kA v, [rO r e])) :
  Om 13 [kS t] [] = some (.tup [.agg Z6, .c (.p (.int .i64 e))], []) := by
 refine (orc_none rfl).trans ?_
 show lim tab.get S 13 0 0 [kS t] h0 = _
 have l : ¬ (20000 : Int) < ((t.length : Nat) : Int) := by omega
 have c26 : ∀ {β : Type} {k : TVal → Heap → Option β} {h : Heap} {d : Nat} (x : Ref), h.get x = some (rC t) → vcall Om (.v (.c (.func 26 []))) [.v (.c (.ptr x 0)), kI 1] h d k = k (kA v) (h.put x (.cells [.p (.str r), .p (.int .i64 e)] 0)) := fun {β k h d} x hg =>
  vcall_p 26 x 0 [] [kI 1] _ _ _ rfl rfl hg (plain_rO _ _) (plain_rO _ _) (by simp only [exP]) H26
 have c27 : ∀ {β : Type} {k : TVal → Heap → Option β} {h : Heap} {d : Nat} (x : Ref), h.get x = some (.cells [.p (.str r), .p (.int .i64 e)] 0) → vcall Om (.v (.c (.func 27 []))) [.v (.c (.ptr x 0))] h d k = k (.tup []) (h.put x (.cells [.p (.str (trimB r)), .p (.int .i64 e)] 0)) := fun {β k h d} x hg => u27G x r e hg
 have c28 : ∀ {β : Type} {k : TVal → Heap → Option β} {h : Heap} {d : Nat} (x : Ref), h.get x = some (.cells [.p (.str (trimB r)), .p (.int .i64 e)] 0) → vcall Om (.v (.c (.func 28 []))) [.v (.c (.ptr x 0)), kI 12] h d k = k (.tup []) (h.put x (.cells [.p (.str (trimB r)), .p (.int .i64 e)] 0)) := fun {β k h d} x hg => u28b x (trimB r) 12 e he hg
 have pa : ∀ Z : List Cell, Z.length = 6 → put1 Z 0 (pcells v) = pcells v := fun Z hz => put1_all _ _ (by rw [pcells_len, hv, hz])
 have pl : (pcells v).length = 6 := by rw [pcells_len, hv]
 have pt : (pcells v).take 6 = pcells v := List.take_of_length_le (by omega)
 rw [w13_0, b13_0]
 by_cases hr : trimB r = []
 ·simp (config := { maxSteps := 10000000 }) +contextual only [exa, ne_eq, not_false_eq_true, Nat.reduceAdd, Nat.reduceMul, Nat.reduceLT, Nat.reduceLeDiff, Nat.reduceEqDiff, Int.reduceLT, Int.reduceLE, Int.reduceEq, Int.reduceToNat, exW, exY, rO_h, rO_g0, rO_g1, rO_len, l, c26, c27, hr, he, pa, pl, pt, if_false, oneOf, t_build6, t_nilck1, t_store, ap12, w13_1, b13_1, w13_2, b13_2]
  exact vfin_pure _ _ rfl
 ·simp (config := { maxSteps := 10000000 }) +contextual only [exa, ne_eq, not_false_eq_true, Nat.reduceAdd, Nat.reduceMul, Nat.reduceLT, Nat.reduceLeDiff, Nat.reduceEqDiff, Int.reduceLT, Int.reduceLE, Int.reduceEq, Int.reduceToNat, exW, exY, rO_h, rO_g0, rO_g1, rO_len, l, c26, c27, c28, hr, he, pa, pl, pt, if_false, oneOf, t_build6, t_nilck1, t_store, ap12, w13_1, b13_1, w13_2, b13_2]
  exact vfin_pure _ _ rfl
end Go.Proofs.YtiahgnkffnokfaaGreatDoor.Ab
