/- Laws of bits, shifts, opened regions, for proofs about all inputs. Own work; no condition but what each names. -/
import Derived.Test.YtiahgnkffnokfaaGreatDoorMaK
set_option linter.all false
set_option linter.unusedVariables false
set_option linter.unusedSimpArgs false
namespace Go.AI
section
variable {β : Type} {O : Oracle} {h : Heap} {d : Nat} {k : TVal → Heap → Option β} {kt : TVal → Heap → Touch → Option β}
theorem vbin_of (op : BinOp) (kd : Nat) (x y c : Cell) (hb : binV op kd x y = some c) : vbin op kd (.v (.c x)) (.v (.c y)) h k = k (.v (.c c)) h := by
 show bnd (binF op kd x y) (fun c => k (.v (.c c)) h) = _
 rw [binF_eq, hb, bnd_some]
theorem vbin_and (kd : Nat) (a b : Int) : vbin .and kd (kI a) (kI b) h k = k (kI (IntKind.i64.wrap (BitVec.ofInt 64 a &&& BitVec.ofInt 64 b).toNat)) h := vbin_of _ _ _ _ _ (by rfl)
theorem vbin_shl (kd : Nat) (K : IntKind) (a : Int) (n : Nat) : vbin .shl kd (kI a) (kN K (n : Int)) h k = k (kI (IntKind.i64.wrap (a * 2 ^ (min n 64)))) h := vbin_of _ _ _ _ _ (by
 simp only [binV, shiftBin]
 rw [if_neg (by omega)]
 simp [IntKind.bits])
theorem vbin_shr (kd : Nat) (K : IntKind) (a : Int) (n : Nat) : vbin .shr kd (kI a) (kN K (n : Int)) h k = k (kI (a.fdiv (2 ^ (min n 64)))) h := vbin_of _ _ _ _ _ (by
 simp only [binV, shiftBin]
 rw [if_neg (by omega)]
 simp [IntKind.bits])
/-- An operation on blocks, in a region whose order is open. -/
theorem vtouch_go (op : AOp) (needs : List Ref) (pk : List AObj → Option Res) (v : TVal) (h' : Heap) (t : Touch) (hb : plan .nil op = some (.go needs pk)) (hg : goOp needs pk d h = some (v, h', t)) : vtouch O op h d kt = kt v h' t := by
 show bnd (plan2 op .nil) (fun p => bnd (p.exec O d h) fun x => kt x.1 x.2.1 x.2.2) = _
 rw [plan2_eq, hb]
 show bnd (goOp needs pk d h) _ = _
 rw [hg, bnd_some]
theorem vtouch_alloc (z : List Cell) : vtouch O (.alloc z false) h d kt = kt (.v (.c (.ptr (.own d (h.gen d + 1)) 0))) (h.own d (h.gen d + 1) (.cells z 0)) ⟨[], [.own d], false⟩ := vtouch_go _ _ _ _ _ _ rfl rfl
theorem vtouch_load_agg (n : Nat) (r : Ref) (off imm : Nat) (cs : List Cell) (hr : h.get r = some (.cells cs imm)) (hc : ((cs.drop off).take n).length = n) : vtouch O (.load true n (.k (.v (.c (.ptr r off))))) h d kt = kt (.v (.agg ((cs.drop off).take n))) h ⟨[r.site], [], false⟩ := by
 refine vtouch_go _ [r] _ _ _ _ rfl ?_
 unfold goOp
 rw [mapM1, hr]
 simp [partOf, hc]
theorem vtouch_load_one (n : Nat) (r : Ref) (off imm : Nat) (cs : List Cell) (c : Cell) (hr : h.get r = some (.cells cs imm)) (hc : cs[off]? = some c) : vtouch O (.load false n (.k (.v (.c (.ptr r off))))) h d kt = kt (.v (.c c)) h ⟨[r.site], [], false⟩ := by
 refine vtouch_go _ [r] _ _ _ _ rfl ?_
 unfold goOp
 rw [mapM1, hr]
 simp [partOf, hc]
theorem vtouch_store (n : Nat) (r : Ref) (off imm : Nat) (cs : List Cell) (x : Comp) (hr : h.get r = some (.cells cs imm)) (hi : imm ≤ off) (hn : x.cells.length = n) (hl : off + n ≤ cs.length) : vtouch O (.store n (.k (.v (.c (.ptr r off)))) (.k (.v x))) h d kt = kt .undef (h.put r (.cells (splice cs off x.cells) imm)) ⟨[r.site], [r.site], false⟩ := by
 refine vtouch_go _ [r] _ _ _ _ rfl ?_
 unfold goOp
 rw [mapM1, hr]
 simp [hi, hn, hl]
end
end Go.AI
