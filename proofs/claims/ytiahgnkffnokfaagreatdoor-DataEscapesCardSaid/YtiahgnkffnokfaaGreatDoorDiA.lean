/- The program's reader of values: prefixes, blanks, signs. -/
import Derived.Test.YtiahgnkffnokfaaGreatDoorDhP
import Derived.Test.YtiahgnkffnokfaaGreatDoorMaM
set_option linter.all false
set_option linter.unusedVariables false
set_option linter.unusedSimpArgs false
set_option maxRecDepth 100000
set_option maxHeartbeats 4000000
namespace Go.Proofs.YtiahgnkffnokfaaGreatDoor.Ab
open Go Go.AI
theorem hasPrefix_ok (s p : List UInt8) : Om 103 [kS s, kS p] [] = some (kB (decide (s.take p.length = p)), []) := by
 refine (orc_none rfl).trans ?_
 show lim tab.get S 103 0 0 [kS s, kS p] h0 = _
 rw [w103_0, b103_0, vlen_s, vlen_s, vbin_geq]
 by_cases hl : p.length ≤ s.length
 ·have e : (!decide ((s.length : Int) < (p.length : Int))) = true := by simp; omega
  simp only [e, vguard_tt, vlen_s, vslice_h s p.length hl, vbin_seql, vpick_t, tcomp_c]
  rw [vfin_pure _ _ rfl]; rfl
 ·have e : (!decide ((s.length : Int) < (p.length : Int))) = false := by simp; omega
  have e2 : ¬ s.take p.length = p := fun hh => by have := congrArg List.length hh; simp at this; omega
  simp only [e, vguard_ft, vpick_f, tcomp_c]
  rw [vfin_pure _ _ rfl, decide_eq_false e2]; rfl
theorem hasPrefix2_ok (s p : List UInt8) : Om 75 [kS s, kS p] [] = some (kB (decide (s.take p.length = p)), []) := by
 refine (orc_none rfl).trans ?_
 show lim tab.get S 75 0 0 [kS s, kS p] h0 = _
 rw [w75_0, b75_0, vcall_pure 103 _ _ rfl (hasPrefix_ok s p) rfl, tcomp_c, vfin_pure _ _ rfl]; rfl

theorem u75 {β : Type} {k : TVal → Heap → Option β} {h : Heap} {d : Nat} (s p : List UInt8) : vcall Om (.v (.c (.func 75 []))) [kS s, kS p] h d k = k (kB (decide (s.take p.length = p))) h := vcall_pure 75 _ _ rfl (hasPrefix2_ok s p) rfl
def isStart (n : Nat) : Bool := Nat.beq n 110 || Nat.beq n 116 || Nat.beq n 102 || Nat.beq n 45 || (Nat.ble 48 n && Nat.ble n 57) || Nat.beq n 34 || Nat.beq n 91 || Nat.beq n 123
def startS : List UInt8 := [110, 116, 102, 45, 48, 49, 50, 51, 52, 53, 54, 55, 56, 57, 34, 91, 123]
theorem start46 (b : UInt8) : Om 46 [kS startS, kS [b]] [] = some (kB (isStart b.toNat), []) := by
 refine (orc_none rfl).trans ?_
 have := byte_boolA (T := tab.get) (S := S) blks_ok (f := 46) (p := isStart) (N := 60) (av := fun n => [kS startS, kS [UInt8.ofNat n]]) (by kernel_rfl) b
 rw [UInt8.ofNat_toNat] at this
 exact this
def isBl (n : Nat) : Bool := Nat.beq n 32 || Nat.beq n 9 || Nat.beq n 10 || Nat.beq n 13
def blS : List UInt8 := [32, 9, 10, 13]
def setL : List PVal := (List.range 256).map fun n => .bool (isBl n)
theorem set85 : Om 85 [kS blS] [] = some (.tup [.agg (pcells setL), .c (.p (.bool true))], []) := (orc_none rfl).trans (machU_le blks_ok 300 85 0 0 _ _ _ (by kernel_rfl))
abbrev P0 : TVal := .v (.c (.ptr (.im 0) 0))
abbrev setO : AObj := .cells (pcells setL) 0
theorem plain_setO : plainO setO := plainO_cells _ 0
theorem x_iaddrU {β : Type} {O : Oracle} {h : Heap} {d : Nat} {k : TVal → Heap → Option β} (r : Ref) (b : UInt8) : vop O (.iaddrA 256 1 (.k (.v (.c (.ptr r 0)))) (.k (kU b))) h d k = k (.v (.c (.ptr r b.toNat))) h := vplan _ _ (by
 have hb : b.toNat < 256 := b.toNat_lt
 show (if b.toNat < 256 then some (Plan.pure (.v (.c (.ptr r (0 + b.toNat * 1))))) else none) = _
 rw [if_pos hb, Nat.zero_add, Nat.mul_one])
theorem set_at (b : UInt8) : setL[b.toNat]? = some (.bool (isBl b.toNat)) := by
 have hb : b.toNat < 256 := b.toNat_lt
 unfold setL
 rw [List.getElem?_map, List.getElem?_range hb]
 rfl
theorem has107 (b : UInt8) : Om 107 [P0, kU b] [setO] = some (kB (isBl b.toNat), [setO]) := by
 refine (orc_none rfl).trans ?_
 show lim tab.get S 107 1 0 [P0, kU b] { ims := [setO], owns := .nil } = _
 rw [w107_0, b107_0]
 have hg : (Heap.mk [setO] .nil).get (.im 0) = some setO := rfl
 simp (config := { maxSteps := 10000000 }) +contextual only [exa, ne_eq, not_false_eq_true, Nat.reduceAdd, Nat.reduceMul, Nat.reduceLT, Nat.reduceLeDiff, Nat.reduceEqDiff, Int.reduceLT, Int.reduceLE, Int.reduceEq, Int.reduceToNat, exW, exY, x_iaddrU, hg, set_at, oneOf]
theorem u107 {β : Type} {k : TVal → Heap → Option β} {h : Heap} {d : Nat} (r : Ref) (b : UInt8) (hg : h.get r = some setO) : vcall Om (.v (.c (.func 107 []))) [.v (.c (.ptr r 0)), kU b] h d k = k (kB (isBl b.toNat)) (h.put r setO) :=
 vcall_p 107 r 0 [] [kU b] _ _ _ rfl rfl hg plain_setO plain_setO rfl (has107 b)
/-- No blank stands ahead. -/
def noB (s : List UInt8) : Prop := ∀ b, s[0]? = some b → isBl b.toNat = false
theorem trim86 (s : List UInt8) (hb : noB s) : Om 86 [kS s, P0] [setO] = some (kS s, [setO]) := by
 refine (orc_none rfl).trans ?_
 show lim tab.get S 86 1 0 [kS s, P0] { ims := [setO], owns := .nil } = _
 have hg : (Heap.mk [setO] .nil).get (.im 0) = some setO := rfl
 have hp : (Heap.mk [setO] .nil).put (.im 0) setO = Heap.mk [setO] .nil := rfl
 rw [w86_0, b86_0, w86_1, b86_1]
 cases s with
 | nil =>
  have h0 : ¬ (0 : Int) < ((0 : Nat) : Int) := by decide
  simp (config := { maxSteps := 10000000 }) +contextual only [exa, ne_eq, not_false_eq_true, Nat.reduceAdd, Nat.reduceMul, Nat.reduceLT, Nat.reduceLeDiff, Nat.reduceEqDiff, Int.reduceLT, Int.reduceLE, Int.reduceEq, Int.reduceToNat, List.length_nil, h0, oneOf]
 | cons b s =>
  have h1 : (0 : Int) < ((s.length + 1 : Nat) : Int) := by omega
  have h2 : (b :: s)[0]? = some b := rfl
  have h3 := hb b rfl
  have c := fun {β : Type} {k : TVal → Heap → Option β} {d : Nat} => u107 (β := β) (k := k) (d := d) (.im 0) b hg
  rw [h3, hp] at c
  simp (config := { maxSteps := 10000000 }) +contextual only [exa, ne_eq, not_false_eq_true, Nat.reduceAdd, Nat.reduceMul, Nat.reduceLT, Nat.reduceLeDiff, Nat.reduceEqDiff, Int.reduceLT, Int.reduceLE, Int.reduceEq, Int.reduceToNat, h1, h2, c, oneOf]
theorem u86 {β : Type} {k : TVal → Heap → Option β} {h : Heap} {d : Nat} (r : Ref) (s : List UInt8) (hb : noB s) (hg : h.get r = some setO) : vcall Om (.v (.c (.func 86 []))) [kS s, .v (.c (.ptr r 0))] h d k = k (kS s) (h.put r setO) :=
 vcall_p 86 r 0 [kS s] [] _ _ _ rfl rfl hg plain_setO plain_setO rfl (trim86 s hb)
theorem u85 {β : Type} {k : TVal → Heap → Option β} {h : Heap} {d : Nat} : vcall Om (.v (.c (.func 85 []))) [kS blS] h d k = k (.tup [.agg (pcells setL), .c (.p (.bool true))]) h := vcall_pure 85 _ _ rfl set85 (by simp only [exP])
theorem set_len : setL.length = 256 := by unfold setL; simp
theorem trim54 (s : List UInt8) (hb : noB s) : Om 54 [kS s, kS blS] [] = some (kS s, []) := by
 refine (orc_none rfl).trans ?_
 show lim tab.get S 54 0 0 [kS s, kS blS] h0 = _
 rw [w54_0, b54_0]
 by_cases hs : s = []
 ·subst hs
  simp (config := { maxSteps := 10000000 }) +contextual only [exa, ne_eq, not_false_eq_true, Nat.reduceAdd, Nat.reduceMul, Nat.reduceLT, Nat.reduceLeDiff, Nat.reduceEqDiff, Int.reduceLT, Int.reduceLE, Int.reduceEq, Int.reduceToNat, oneOf]
 ·have hl : ¬ ((blS.length : Nat) : Int) = 1 := by decide
  have hbl : ¬ blS = [] := by decide
  have P : ∀ Z : List Cell, Z.length = 256 → put1 Z 0 (pcells setL) = pcells setL := fun Z hz => put1_all _ _ (by rw [pcells_len, set_len, hz])
  simp (config := { maxSteps := 10000000 }) +contextual only [exa, ne_eq, not_false_eq_true, Nat.reduceAdd, Nat.reduceMul, Nat.reduceLT, Nat.reduceLeDiff, Nat.reduceEqDiff, Int.reduceLT, Int.reduceLE, Int.reduceEq, Int.reduceToNat, exY, hs, hbl, hl, set_len, u85, P, u86 _ s hb, List.length_cons, List.length_nil, oneOf]
end Go.Proofs.YtiahgnkffnokfaaGreatDoor.Ab
