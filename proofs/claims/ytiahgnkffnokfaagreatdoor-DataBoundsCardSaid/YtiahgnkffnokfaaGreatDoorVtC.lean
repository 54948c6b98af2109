/- Rules, continued: places, plain rows, in regions whose order is open. Own work; no condition. -/
import Derived.Test.YtiahgnkffnokfaaGreatDoorVtB
set_option linter.all false
set_option linter.unusedVariables false
set_option linter.unusedSimpArgs false
namespace Go.AI
section
variable {β : Type} {O : Oracle} {h : Heap} {d : Nat} {k : TVal → Heap → Option β} {kt : TVal → Heap → Touch → Option β}
theorem iaddr_pure (sz : Nat) (a i : TVal) (p : Plan) (e : plan .nil (.iaddr sz (.k a) (.k i)) = some p) : ∃ v, p = .pure v := by
 have e' : (match some a, (some i).bind asN with
  | some (.v (.c (.p (.slice sz' _ rows)))), some k =>
   if sz' = sz then (match rows[k]? with | some row => some (Plan.pure (.pv (.pptr row 0))) | none => none) else none
  | some (.v (.c (.tsl sz' rows _))), some k =>
   if sz' = sz then (match rows[k]? with | some row => some (.pure (.pv (.pptr row 0))) | none => none) else none
  | some (.v (.c (.sref r off len _ sz'))), some k => if sz' = sz ∧ k < len then some (.pure (.v (.c (.ptr r (off + k * sz))))) else none
  | _, _ => none) = some p := e
 clear e
 revert e'
 generalize (some i).bind asN = j
 intro e
 split at e
 ·split at e
  ·split at e
   ·exact ⟨_, (Option.some.inj e).symm⟩
   ·cases e
  ·cases e
 ·split at e
  ·split at e
   ·exact ⟨_, (Option.some.inj e).symm⟩
   ·cases e
  ·cases e
 ·split at e
  ·exact ⟨_, (Option.some.inj e).symm⟩
  ·cases e
 ·cases e
theorem t_iaddr (sz : Nat) (a i : TVal) : vtouch O (.iaddr sz (.k a) (.k i)) h d kt = viaddr sz a i h fun v h => kt v h noTouch := by
 rw [vt_pure _ (iaddr_pure sz a i)]
 exact (fits_iaddr O sz (.k a) (.k i) .nil h d (fun v h => kt v h noTouch)).symm
theorem t_loadP (g : Bool) (n off : Nat) (row : List PVal) : vtouch O (.load g n (.k (.v (.c (.p (.pptr row off)))))) h d kt = vload g n (.v (.c (.p (.pptr row off)))) h fun v h => kt v h noTouch := by
 rw [vt_pure (.load g n (.k (.v (.c (.p (.pptr row off)))))) (fun p e => ?_)]
 ·exact (fits_load O g n (.k (.v (.c (.p (.pptr row off))))) .nil h d (fun v h => kt v h noTouch)).symm
 ·have e' : (partOf g n (pcells row) off).map Plan.pure = some p := e
  cases hp : partOf g n (pcells row) off with
  | none => rw [hp] at e'; cases e'
  | some v => rw [hp] at e'; exact ⟨v, (Option.some.inj e').symm⟩
theorem t_toStr (v : TVal) (x : TVal) (e : plan .nil (.toStr (.k v)) = some (.pure x)) : vtouch O (.toStr (.k v)) h d kt = kt x h noTouch := t_plan _ _ e
theorem exY :
  (∀ {β : Type} {O : Oracle} {h : Heap} {d : Nat} {kt : TVal → Heap → Touch → Option β} (sz : Nat) (a i : TVal), vtouch O (.iaddr sz (.k a) (.k i)) h d kt = viaddr sz a i h fun v h => kt v h noTouch) ∧
  (∀ {β : Type} {O : Oracle} {h : Heap} {d : Nat} {kt : TVal → Heap → Touch → Option β} (g : Bool) (n off : Nat) (row : List PVal), vtouch O (.load g n (.k (.v (.c (.p (.pptr row off)))))) h d kt = vload g n (.v (.c (.p (.pptr row off)))) h fun v h => kt v h noTouch) :=
 ⟨t_iaddr, t_loadP⟩
end
end Go.AI
