/- Rules, continued: arrays handed on as slices, texts read off a block. Own work; no condition but what each names. -/
import Derived.Test.YtiahgnkffnokfaaGreatDoorMaU
set_option linter.all false
set_option linter.unusedVariables false
set_option linter.unusedSimpArgs false
namespace Go.AI
section
variable {β : Type} {O : Oracle} {h : Heap} {d : Nat} {k : TVal → Heap → Option β} {kt : TVal → Heap → Touch → Option β}
theorem vop_read (op : AOp) (r : Ref) (pk : AObj → Option TVal) (o : AObj) (v : TVal) (hb : plan .nil op = some (.read r pk)) (hg : h.get r = some o) (hv : pk o = some v) : vop O op h d k = k v h := by
 show opK O op .nil h d k = _
 rw [opK_eq]
 have : slow O op .nil h d = some (v, h) := by
  unfold slow
  rw [hb]
  show ((Plan.read r pk).exec O d h).map _ = _
  rw [exec_read, hg]
  show (pk o).map _ = _
  rw [hv]; rfl
 rw [this]; rfl
theorem x_sliceA (n sz : Nat) (r : Ref) (off l u : Nat) (cs : List Cell) (imm : Nat) (h1 : l ≤ u) (h2 : u ≤ n) (h3 : l < n) (hg : h.get r = some (.cells cs imm)) (hl : off + n * sz ≤ cs.length) :
  vop O (.sliceA n sz (.k (.v (.c (.ptr r off)))) (some (.k (kI (l : Int)))) (some (.k (kI (u : Int))))) h d k = k (.v (.c (.sref r (off + l * sz) (u - l) (some (n - l)) sz))) h := by
 refine vop_read _ r (fun
    | .cells cs _ => if off + n * sz ≤ cs.length then some (.v (.c (.sref r (off + l * sz) (u - l) (some (n - l)) sz))) else none
    | _ => none) _ _ ?_ hg ?_
 ·have a1 : asN (kI (l : Int)) = some l := by simp [asN]
  have a2 : asN (kI (u : Int)) = some u := by simp [asN]
  show (if l ≤ u ∧ u ≤ n ∧ l < n then some (Plan.read r _) else none) = _
  rw [if_pos ⟨h1, h2, h3⟩]
  rfl
 ·show (if _ then _ else _) = _
  rw [if_pos hl]
theorem x_toStr_ref (r : Ref) (off len : Nat) (cap : Option Nat) (cs : List Cell) (imm : Nat) (s : List UInt8) (hg : h.get r = some (.cells cs imm)) (hl : off + len ≤ cs.length) (hs : bytesOf ((cs.drop off).take len) = some s) :
  vop O (.toStr (.k (.v (.c (.sref r off len cap 1))))) h d k = k (kS s) h := by
 refine vop_read _ r _ _ _ rfl hg ?_
 show (if _ then _ else _) = _
 rw [if_pos hl, hs]; rfl
theorem x_iaddrA_ptr (n sz : Nat) (r : Ref) (off i : Nat) (hi : i < n) : vop O (.iaddrA n sz (.k (.v (.c (.ptr r off)))) (.k (kI (i : Int)))) h d k = k (.v (.c (.ptr r (off + i * sz)))) h := vplan _ _ (by
 show (if i < n then some (Plan.pure (.v (.c (.ptr r (off + i * sz))))) else none) = _
 rw [if_pos hi])
end
theorem bytesOf_map (s : List UInt8) : bytesOf (s.map fun b => .p (.int .u8 (b.toNat : Int))) = some s := by
 induction s with
 | nil => rfl
 | cons b s ih =>
  show (bytesOf (s.map _)).map (UInt8.ofNat ((b.toNat : Int)).toNat :: ·) = _
  rw [ih]
  simp
end Go.AI
namespace Go.AI
section
variable {β : Type} {O : Oracle} {h : Heap} {d : Nat} {k : TVal → Heap → Option β}
end
end Go.AI
