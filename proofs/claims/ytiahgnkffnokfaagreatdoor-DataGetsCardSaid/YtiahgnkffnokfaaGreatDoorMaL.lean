/- Laws of bits, shifts, opened regions, for proofs about all inputs. Own work; no condition but what each names. -/
import Derived.Test.YtiahgnkffnokfaaGreatDoorMaK
set_option linter.all false
set_option linter.unusedVariables false
set_option linter.unusedSimpArgs false
namespace Go.AI
section
variable {β : Type} {O : Oracle} {h : Heap} {d : Nat} {k : TVal → Heap → Option β} {kt : TVal → Heap → Touch → Option β}
theorem vbin_of (op : BinOp) (kd : Nat) (x y c : Cell) (hb : binV op kd x y = some c) : vbin op kd (.v (.c x)) (.v (.c y)) h k = k (.v (.c c)) h := by
 show bnd (binF op kd x y) (fun c => k (.v (.c c)) h) = _
 rw [binF_eq, hb, bnd_some]
/-- An operation on blocks, in a region whose order is open. -/
theorem vtouch_go (op : AOp) (needs : List Ref) (pk : List AObj → Option Res) (v : TVal) (h' : Heap) (t : Touch) (hb : plan .nil op = some (.go needs pk)) (hg : goOp needs pk d h = some (v, h', t)) : vtouch O op h d kt = kt v h' t := by
 show bnd (plan2 op .nil) (fun p => bnd (p.exec O d h) fun x => kt x.1 x.2.1 x.2.2) = _
 rw [plan2_eq, hb]
 show bnd (goOp needs pk d h) _ = _
 rw [hg, bnd_some]
theorem vtouch_alloc (z : List Cell) : vtouch O (.alloc z false) h d kt = kt (.v (.c (.ptr (.own d (h.gen d + 1)) 0))) (h.own d (h.gen d + 1) (.cells z 0)) ⟨[], [.own d], false⟩ := vtouch_go _ _ _ _ _ _ rfl rfl
end
end Go.AI
