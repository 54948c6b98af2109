/- The program's reader of values: a number's text. -/
import Derived.Test.YtiahgnkffnokfaaGreatDoorDiC
set_option linter.all false
set_option linter.unusedVariables false
set_option linter.unusedSimpArgs false
set_option maxRecDepth 100000
set_option maxHeartbeats 4000000
namespace Go.Proofs.YtiahgnkffnokfaaGreatDoor.Ab
open Go Go.AI
theorem put_same (h : Heap) (i : Nat) (o : AObj) (hg : h.get (.im i) = some o) : h.put (.im i) o = h := by
 obtain ⟨ims, owns⟩ := h
 have hg2 : ims[i]? = some o := by
  unfold Heap.get at hg
  cases hi : ims[i]? with
  | none => simp only [hi] at hg; cases hg
  | some a => simp only [hi] at hg; cases a <;> first | exact hg | cases hg
 show Heap.mk (ims.set i o) owns = Heap.mk ims owns
 have : ims.set i o = ims := by
  apply List.ext_getElem?
  intro j
  rw [List.getElem?_set]
  by_cases hj : i = j
  ·subst hj
   have := (List.getElem?_eq_some_iff.1 hg2).1
   rw [if_pos rfl, if_pos this, hg2]
  ·rw [if_neg hj]
 rw [this]
theorem u27 {β : Type} {k : TVal → Heap → Option β} {h : Heap} {d : Nat} (r : Ref) (s : List UInt8) (e : Int) (hb : noB s) (hg : h.get r = some (rO s e)) : vcall Om (.v (.c (.func 27 []))) [.v (.c (.ptr r 0))] h d k = k (.tup []) (h.put r (rO s e)) :=
 vcall_p 27 r 0 [] [] _ _ _ rfl rfl hg (plain_rO _ _) (plain_rO _ _) rfl (blanks27 s e hb)
theorem u27i {β : Type} {k : TVal → Heap → Option β} {h : Heap} {d : Nat} (s : List UInt8) (e : Int) (hb : noB s) (hg : h.get (.im 0) = some (rO s e)) : vcall Om (.v (.c (.func 27 []))) [P0] h d k = k (.tup []) h := by
 rw [u27 (.im 0) s e hb hg, put_same h 0 _ hg]
theorem u46s {β : Type} {k : TVal → Heap → Option β} {h : Heap} {d : Nat} (b : UInt8) : vcall Om (.v (.c (.func 46 []))) [kS [110, 116, 102, 45, 48, 49, 50, 51, 52, 53, 54, 55, 56, 57, 34, 91, 123], kS [b]] h d k = k (kB (isStart b.toNat)) h := vcall_pure 46 _ _ rfl (start46 b) rfl
/-- A sign that does not stand ahead is not taken. -/
theorem u48n {β : Type} {k : TVal → Heap → Option β} {h : Heap} {d : Nat} (s w : List UInt8) (hg : h.get (.im 0) = some (rO s 0)) (hw : ¬ s.take w.length = w) : vcall Om (.v (.c (.func 48 []))) [P0, kS w] h d k = k (kB false) h := by
 rw [u48 (.im 0) s w hg, if_neg hw, decide_eq_false hw, put_same h 0 _ hg]
end Go.Proofs.YtiahgnkffnokfaaGreatDoor.Ab
