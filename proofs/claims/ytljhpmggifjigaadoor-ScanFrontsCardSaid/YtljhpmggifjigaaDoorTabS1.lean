/- Functions of the given program as the abstract interpreter has them (part 1), printed by a program of our own; each is shown to be what 'compF' makes of the given program's. No condition. -/
import Derived.Test.YtljhpmggifjigaaDoorTabS0
namespace Go.Proofs.YtljhpmggifjigaaDoor.Ab
open Go Go.AI
set_option linter.all false
set_option linter.unusedVariables false
set_option maxRecDepth 100000
/- sprue/scan.word -/
def c32 : MFunc := { np := 1, res := [.cell 2 true 4, .t 3, .t 4], frz := true, body := (.seq (.reg [(oA 2 (.alloc [(.p (.int .i64 0)), (.p (.str [])), (.p (.int .i64 0)), (.p (.int .i64 0))] false)), (oA 3 (.mv (.k (.v (.c (.p (.int .i64 0))))))), (oA 4 (.mv (.k (.v (.c (.p (.int .i64 0)))))))] []) (.seq (.reg [(oA 6 (.mv (.t 0))), (oA 7 (.call (.k (.v (.c (.func 25 [])))) [(.t 6)])), (oA 5 (.mv (.t 7)))] []) (.seq (.seq (.reg [(oA 8 (.mv (.t 5))), (oA 9 (.bin .gtr 0 (.t 8) (.k (.v (.c (.p (.int .i64 16)))))))] []) (.cond (.t 9) (.seq (.reg [(oA 10 (.build [(.p (.int .i64 0)), (.p (.str [])), (.p (.int .i64 0)), (.p (.int .i64 0))] [])), (oN (.store 4 (.t 2) (.t 10))), (oA 3 (.mv (.k (.v (.c (.p (.int .i64 0))))))), (oA 4 (.mv (.k (.v (.c (.p (.int .i64 4)))))))] []) .ret) .skip)) (.seq (.reg [(oA 11 (.mv (.t 0))), (oA 12 (.mv (.t 5))), (oA 13 (.slice 0 true (.t 11) none (some (.t 12)) none)), (oA 14 (.build [(.p (.int .i64 0)), (.p (.str [])), (.p (.int .i64 0)), (.p (.int .i64 0))] [(0, 1, (.k (.v (.c (.p (.int .i64 1)))))), (1, 1, (.t 13))])), (oA 15 (.mv (.t 5))), (oN (.store 4 (.t 2) (.t 14))), (oA 3 (.mv (.t 15))), (oA 4 (.mv (.k (.v (.c (.p (.int .i64 0)))))))] []) .ret)))) }
theorem t32 : compF Tryd.prog (globs2 tabs opq) (fun _ => false) true Tryd.f32 = some c32.erase := by kernel_rfl
noncomputable def b32_0 (O : Oracle) (R : Jump) (q : Nat) (x0 : TVal) (h : Heap) : Res1 :=
 vop O (.alloc [(.p (.int .i64 0)), (.p (.str [])), (.p (.int .i64 0)), (.p (.int .i64 0))] false) h 2 fun x2 h =>
 vcall O (.v (.c (.func 25 []))) [x0] h 7 fun x7 h =>
 vbin .gtr 0 x7 (kI 16) h fun x9 h =>
 vif x9 (
 vop O (.build [(.p (.int .i64 0)), (.p (.str [])), (.p (.int .i64 0)), (.p (.int .i64 0))] []) h 10 fun x10 h =>
 vstore 4 x2 x10 h fun _ h =>
 vcell true 4 x2 h fun c0 => tcomp (kI 0) fun c1 => tcomp (kI 4) fun c2 => vfin true q [c0, c1, c2] h)
 (vop O (.slice 0 true (.k x0) none (some (.k x7)) none) h 13 fun x13 h =>
 vop O (.build [(.p (.int .i64 0)), (.p (.str [])), (.p (.int .i64 0)), (.p (.int .i64 0))] [(0, 1, (.k (kI 1))), (1, 1, (.k x13))]) h 14 fun x14 h =>
 vstore 4 x2 x14 h fun _ h =>
 vcell true 4 x2 h fun c0 => tcomp x7 fun c1 => tcomp (kI 0) fun c2 => vfin true q [c0, c1, c2] h)
theorem e32_0 (O : Oracle) (R : Jump) (q : Nat) (x0 : TVal) (h : Heap) : b32_0 O R q x0 h = stepF c32 O R q 0 [x0] h := by kernel_rfl
noncomputable def d32 : BlkF := fun O R q => [.s fun y0 => .z fun h => b32_0 O R q y0 h]
theorem o32 (O : Oracle) (R : Jump) (q : Nat) : HoldsAll c32 O R q 0 (d32 O R q) := ⟨fun y0 h => e32_0 O R q y0 h, trivial⟩
/- sprue/scan.number -/
def c33 : MFunc := { np := 1, res := [.cell 2 true 4, .t 3, .t 4], frz := true, body := (.seq (.reg [(oA 2 (.alloc [(.p (.int .i64 0)), (.p (.str [])), (.p (.int .i64 0)), (.p (.int .i64 0))] false)), (oA 3 (.mv (.k (.v (.c (.p (.int .i64 0))))))), (oA 4 (.mv (.k (.v (.c (.p (.int .i64 0)))))))] []) (.seq (.reg [(oA 10 (.mv (.t 0))), (oA 11 (.len 0 (.t 10))), (oA 12 (.mv (.t 0))), (oA 13 (.call (.k (.v (.c (.func 39 [])))) [(.t 12), (.k (.v (.c (.p (.str [45])))))])), (oA 14 (.len 0 (.t 13))), (oA 15 (.bin .sub 0 (.t 11) (.t 14))), (oA 5 (.mv (.t 15)))] []) (.seq (.reg [(oA 16 (.mv (.t 0))), (oA 17 (.mv (.t 5))), (oA 18 (.slice 0 true (.t 16) (some (.t 17)) none none)), (oA 19 (.call (.k (.v (.c (.func 36 [])))) [(.t 18), (.k (.v (.c (.func 24 []))))])), (oA 6 (.mv (.t 19)))] []) (.seq (.seq (.reg [(oA 20 (.mv (.t 6))), (oA 21 (.bin .gtr 0 (.t 20) (.k (.v (.c (.p (.int .i64 19)))))))] []) (.cond (.t 21) (.seq (.reg [(oA 22 (.build [(.p (.int .i64 0)), (.p (.str [])), (.p (.int .i64 0)), (.p (.int .i64 0))] [])), (oN (.store 4 (.t 2) (.t 22))), (oA 3 (.mv (.k (.v (.c (.p (.int .i64 0))))))), (oA 4 (.mv (.k (.v (.c (.p (.int .i64 4)))))))] []) .ret) .skip)) (.seq (.reg [(oA 7 (.mv (.k (.v (.c (.p (.int .u64 0)))))))] []) (.seq (.seq (.reg [(oA 23 (.mv (.t 0))), (oA 24 (.mv (.t 5))), (oA 25 (.mv (.t 5))), (oA 26 (.mv (.t 6))), (oA 27 (.bin .add 0 (.t 25) (.t 26))), (oA 28 (.slice 0 true (.t 23) (some (.t 24)) (some (.t 27)) none)), (oA 29 (.rangeS (.t 28)))] []) (.block 0 (.loop 1 [2, 5, 6, 7, 29] (.seq (.reg [(oA 30 (.nextS (.t 29))), (oA 31 (.extract (.t 30) 0))] []) (.seq (.cond (.t 31) .skip (.exit 0)) (.block 1 (.seq (.reg [(oA 32 (.extract (.t 30) 2)), (oA 9 (.mv (.t 32)))] []) (.reg [(oA 33 (.mv (.t 7))), (oA 34 (.bin .mul 0 (.k (.v (.c (.p (.int .u64 10))))) (.t 33))), (oA 35 (.mv (.t 9))), (oA 36 (.bin .sub 0 (.t 35) (.k (.v (.c (.p (.int .i32 48))))))), (oA 37 (.toInt .u64 (.t 36))), (oA 38 (.bin .add 0 (.t 34) (.t 37))), (oA 7 (.mv (.t 38)))] [])))))))) (.mark 2 [2, 5, 6, 7] (.seq (.block 2 (.seq (.reg [(oA 40 (.mv (.t 7))), (oA 41 (.mv (.t 5))), (oA 42 (.toInt .u64 (.t 41))), (oA 43 (.bin .add 0 (.k (.v (.c (.p (.int .u64 9223372036854775807))))) (.t 42))), (oA 44 (.bin .gtr 0 (.t 40) (.t 43))), (oA 39 (.mv (.t 44)))] []) (.cond (.t 39) (.seq (.reg [(oA 45 (.build [(.p (.int .i64 0)), (.p (.str [])), (.p (.int .i64 0)), (.p (.int .i64 0))] [])), (oN (.store 4 (.t 2) (.t 45))), (oA 3 (.mv (.k (.v (.c (.p (.int .i64 0))))))), (oA 4 (.mv (.k (.v (.c (.p (.int .i64 11)))))))] []) .ret) (.seq (.reg [(oA 47 (.mv (.t 5))), (oA 48 (.bin .gtr 0 (.t 47) (.k (.v (.c (.p (.int .i64 0))))))), (oA 46 (.mv (.t 48)))] []) (.cond (.t 46) (.seq (.reg [(oA 49 (.mv (.t 7))), (oA 50 (.toInt .i64 (.t 49))), (oA 51 (.un .neg (.t 50))), (oA 52 (.build [(.p (.int .i64 0)), (.p (.str [])), (.p (.int .i64 0)), (.p (.int .i64 0))] [(0, 1, (.k (.v (.c (.p (.int .i64 3)))))), (2, 1, (.t 51))])), (oA 53 (.mv (.t 5))), (oA 54 (.mv (.t 6))), (oA 55 (.bin .add 0 (.t 53) (.t 54))), (oN (.store 4 (.t 2) (.t 52))), (oA 3 (.mv (.t 55))), (oA 4 (.mv (.k (.v (.c (.p (.int .i64 0)))))))] []) .ret) .skip))))) (.seq (.reg [(oA 56 (.mv (.t 7))), (oA 57 (.toInt .i64 (.t 56))), (oA 58 (.build [(.p (.int .i64 0)), (.p (.str [])), (.p (.int .i64 0)), (.p (.int .i64 0))] [(0, 1, (.k (.v (.c (.p (.int .i64 3)))))), (2, 1, (.t 57))])), (oA 59 (.mv (.t 6))), (oN (.store 4 (.t 2) (.t 58))), (oA 3 (.mv (.t 59))), (oA 4 (.mv (.k (.v (.c (.p (.int .i64 0)))))))] []) .ret))))))))) }
theorem t33 : compF Tryd.prog (globs2 tabs opq) (fun _ => false) true Tryd.f33 = some c33.erase := by kernel_rfl
noncomputable def b33_0 (O : Oracle) (R : Jump) (q : Nat) (x0 : TVal) (h : Heap) : Res1 :=
 vop O (.alloc [(.p (.int .i64 0)), (.p (.str [])), (.p (.int .i64 0)), (.p (.int .i64 0))] false) h 2 fun x2 h =>
 vlen O 0 x0 h 11 fun x11 h =>
 vcall O (.v (.c (.func 39 []))) [x0, (kS [45])] h 13 fun x13 h =>
 vlen O 0 x13 h 14 fun x14 h =>
 vbin .sub 0 x11 x14 h fun x15 h =>
 vop O (.slice 0 true (.k x0) (some (.k x15)) none none) h 18 fun x18 h =>
 vcall O (.v (.c (.func 36 []))) [x18, (.v (.c (.func 24 [])))] h 19 fun x19 h =>
 vbin .gtr 0 x19 (kI 19) h fun x21 h =>
 vif x21 (
 vop O (.build [(.p (.int .i64 0)), (.p (.str [])), (.p (.int .i64 0)), (.p (.int .i64 0))] []) h 22 fun x22 h =>
 vstore 4 x2 x22 h fun _ h =>
 vcell true 4 x2 h fun c0 => tcomp (kI 0) fun c1 => tcomp (kI 4) fun c2 => vfin true q [c0, c1, c2] h)
 (vbin .add 0 x15 x19 h fun x27 h =>
 vop O (.slice 0 true (.k x0) (some (.k x15)) (some (.k x27)) none) h 28 fun x28 h =>
 vop O (.rangeS (.k x28)) h 29 fun x29 h =>
 R 1 [x2, x15, x19, (.v (.c (.p (.int .u64 0)))), x29] h)
theorem e33_0 (O : Oracle) (R : Jump) (q : Nat) (x0 : TVal) (h : Heap) : b33_0 O R q x0 h = stepF c33 O R q 0 [x0] h := by kernel_rfl
noncomputable def b33_1 (O : Oracle) (R : Jump) (q : Nat) (x2 x5 x6 x7 x29 : TVal) (h : Heap) : Res1 :=
 vop O (.nextS (.k x29)) h 30 fun x30 h =>
 vext x30 0 h fun x31 h =>
 vif x31 (
 vext x30 2 h fun x32 h =>
 vbin .mul 0 (.v (.c (.p (.int .u64 10)))) x7 h fun x34 h =>
 vbin .sub 0 x32 (.v (.c (.p (.int .i32 48)))) h fun x36 h =>
 vtoInt .u64 x36 h fun x37 h =>
 vbin .add 0 x34 x37 h fun x38 h =>
 R 1 [x2, x5, x6, x38, x29] h)
 (R 2 [x2, x5, x6, x7] h)
theorem e33_1 (O : Oracle) (R : Jump) (q : Nat) (x2 x5 x6 x7 x29 : TVal) (h : Heap) : b33_1 O R q x2 x5 x6 x7 x29 h = stepF c33 O R q 1 [x2, x5, x6, x7, x29] h := by kernel_rfl
noncomputable def b33_2 (O : Oracle) (R : Jump) (q : Nat) (x2 x5 x6 x7 : TVal) (h : Heap) : Res1 :=
 vtoInt .u64 x5 h fun x42 h =>
 vbin .add 0 (.v (.c (.p (.int .u64 9223372036854775807)))) x42 h fun x43 h =>
 vbin .gtr 0 x7 x43 h fun x44 h =>
 vif x44 (
 vop O (.build [(.p (.int .i64 0)), (.p (.str [])), (.p (.int .i64 0)), (.p (.int .i64 0))] []) h 45 fun x45 h =>
 vstore 4 x2 x45 h fun _ h =>
 vcell true 4 x2 h fun c0 => tcomp (kI 0) fun c1 => tcomp (kI 11) fun c2 => vfin true q [c0, c1, c2] h)
 (vbin .gtr 0 x5 (kI 0) h fun x48 h =>
 vif x48 (
 vtoInt .i64 x7 h fun x50 h =>
 vop O (.un .neg (.k x50)) h 51 fun x51 h =>
 vop O (.build [(.p (.int .i64 0)), (.p (.str [])), (.p (.int .i64 0)), (.p (.int .i64 0))] [(0, 1, (.k (kI 3))), (2, 1, (.k x51))]) h 52 fun x52 h =>
 vbin .add 0 x5 x6 h fun x55 h =>
 vstore 4 x2 x52 h fun _ h =>
 vcell true 4 x2 h fun c0 => tcomp x55 fun c1 => tcomp (kI 0) fun c2 => vfin true q [c0, c1, c2] h)
 (vtoInt .i64 x7 h fun x57 h =>
 vop O (.build [(.p (.int .i64 0)), (.p (.str [])), (.p (.int .i64 0)), (.p (.int .i64 0))] [(0, 1, (.k (kI 3))), (2, 1, (.k x57))]) h 58 fun x58 h =>
 vstore 4 x2 x58 h fun _ h =>
 vcell true 4 x2 h fun c0 => tcomp x6 fun c1 => tcomp (kI 0) fun c2 => vfin true q [c0, c1, c2] h))
theorem e33_2 (O : Oracle) (R : Jump) (q : Nat) (x2 x5 x6 x7 : TVal) (h : Heap) : b33_2 O R q x2 x5 x6 x7 h = stepF c33 O R q 2 [x2, x5, x6, x7] h := by kernel_rfl
noncomputable def d33 : BlkF := fun O R q => [.s fun y0 => .z fun h => b33_0 O R q y0 h, .s fun y0 => .s fun y1 => .s fun y2 => .s fun y3 => .s fun y4 => .z fun h => b33_1 O R q y0 y1 y2 y3 y4 h, .s fun y0 => .s fun y1 => .s fun y2 => .s fun y3 => .z fun h => b33_2 O R q y0 y1 y2 y3 h]
theorem o33 (O : Oracle) (R : Jump) (q : Nat) : HoldsAll c33 O R q 0 (d33 O R q) := ⟨fun y0 h => e33_0 O R q y0 h, fun y0 y1 y2 y3 y4 h => e33_1 O R q y0 y1 y2 y3 y4 h, fun y0 y1 y2 y3 h => e33_2 O R q y0 y1 y2 y3 h, trivial⟩
/- sprue/scan.text -/
def c34 : MFunc := { np := 1, res := [.cell 2 true 4, .t 3, .t 4], frz := true, body := (.seq (.reg [(oA 2 (.alloc [(.p (.int .i64 0)), (.p (.str [])), (.p (.int .i64 0)), (.p (.int .i64 0))] false)), (oA 3 (.mv (.k (.v (.c (.p (.int .i64 0))))))), (oA 4 (.mv (.k (.v (.c (.p (.int .i64 0)))))))] []) (.seq (.reg [(oA 5 (.mv (.k (.v (.c (.p .nilslice))))))] []) (.seq (.seq (.reg [(oA 6 (.mv (.k (.v (.c (.p (.int .i64 1)))))))] []) (.block 0 (.loop 1 [0, 2, 5, 6] (.seq (.seq (.reg [(oA 10 (.mv (.t 6))), (oA 11 (.mv (.t 0))), (oA 12 (.len 0 (.t 11))), (oA 13 (.bin .lss 0 (.t 10) (.t 12)))] []) (.cond (.t 13) .skip (.exit 0))) (.seq (.block 1 (.seq (.reg [(oA 16 (.mv (.t 0))), (oA 17 (.mv (.t 6))), (oA 18 (.index (.t 16) (.t 17))), (oA 7 (.mv (.t 18)))] []) (.block 2 (.seq (.reg [(oA 24 (.mv (.t 7))), (oA 25 (.bin .lss 0 (.t 24) (.k (.v (.c (.p (.int .u8 32))))))), (oA 23 (.mv (.t 25)))] []) (.cond (.t 23) (.seq (.reg [(oA 26 (.build [(.p (.int .i64 0)), (.p (.str [])), (.p (.int .i64 0)), (.p (.int .i64 0))] [])), (oN (.store 4 (.t 2) (.t 26))), (oA 3 (.mv (.k (.v (.c (.p (.int .i64 0))))))), (oA 4 (.mv (.k (.v (.c (.p (.int .i64 11)))))))] []) .ret) (.seq (.reg [(oA 28 (.mv (.t 7))), (oA 29 (.bin .eql 0 (.t 28) (.k (.v (.c (.p (.int .u8 34))))))), (oA 30 (.mv (.t 29))), ⟨(some 31), (.mv (.t 5)), (some (30, true))⟩, ⟨(some 32), (.len 2 (.t 31)), (some (30, true))⟩, ⟨(some 33), (.bin .gtr 0 (.t 32) (.k (.v (.c (.p (.int .i64 200)))))), (some (30, true))⟩, (oA 34 (.pick (.t 30) (.t 33) (.k (.v (.c (.p (.bool false))))))), (oA 27 (.mv (.t 34)))] []) (.cond (.t 27) (.seq (.reg [(oA 35 (.build [(.p (.int .i64 0)), (.p (.str [])), (.p (.int .i64 0)), (.p (.int .i64 0))] [])), (oN (.store 4 (.t 2) (.t 35))), (oA 3 (.mv (.k (.v (.c (.p (.int .i64 0))))))), (oA 4 (.mv (.k (.v (.c (.p (.int .i64 4)))))))] []) .ret) (.seq (.reg [(oA 37 (.mv (.t 7))), (oA 38 (.bin .eql 0 (.t 37) (.k (.v (.c (.p (.int .u8 34))))))), (oA 36 (.mv (.t 38)))] []) (.cond (.t 36) (.seq (.reg [(oA 39 (.mv (.t 5))), (oA 40 (.toStr (.t 39))), (oA 41 (.build [(.p (.int .i64 0)), (.p (.str [])), (.p (.int .i64 0)), (.p (.int .i64 0))] [(0, 1, (.k (.v (.c (.p (.int .i64 2)))))), (1, 1, (.t 40))])), (oA 42 (.mv (.t 6))), (oA 43 (.bin .add 0 (.t 42) (.k (.v (.c (.p (.int .i64 1))))))), (oN (.store 4 (.t 2) (.t 41))), (oA 3 (.mv (.t 43))), (oA 4 (.mv (.k (.v (.c (.p (.int .i64 0)))))))] []) .ret) (.seq (.reg [(oA 45 (.mv (.t 7))), (oA 46 (.bin .eql 0 (.t 45) (.k (.v (.c (.p (.int .u8 92))))))), (oA 47 (.mv (.t 46))), ⟨(some 48), (.mv (.t 6)), (some (47, true))⟩, ⟨(some 49), (.bin .add 0 (.t 48) (.k (.v (.c (.p (.int .i64 1)))))), (some (47, true))⟩, ⟨(some 50), (.mv (.t 0)), (some (47, true))⟩, ⟨(some 51), (.len 0 (.t 50)), (some (47, true))⟩, ⟨(some 52), (.bin .lss 0 (.t 49) (.t 51)), (some (47, true))⟩, (oA 53 (.pick (.t 47) (.t 52) (.k (.v (.c (.p (.bool false))))))), (oA 44 (.mv (.t 53)))] []) (.cond (.t 44) (.seq (.reg [(oA 55 (.mv (.t 0))), (oA 56 (.mv (.t 6))), (oA 57 (.bin .add 0 (.t 56) (.k (.v (.c (.p (.int .i64 1))))))), (oA 58 (.index (.t 55) (.t 57))), (oA 59 (.call (.k (.v (.c (.func 40 [])))) [(.t 58)])), (oA 54 (.mv (.t 59))), (oA 60 (.extract (.t 54) 0)), (oA 61 (.extract (.t 54) 1)), (oA 8 (.mv (.t 60))), (oA 9 (.mv (.t 61)))] []) (.seq (.seq (.reg [(oA 62 (.mv (.t 9))), (oA 63 (.un .not (.t 62)))] []) (.cond (.t 63) (.seq (.reg [(oA 64 (.build [(.p (.int .i64 0)), (.p (.str [])), (.p (.int .i64 0)), (.p (.int .i64 0))] [])), (oN (.store 4 (.t 2) (.t 64))), (oA 3 (.mv (.k (.v (.c (.p (.int .i64 0))))))), (oA 4 (.mv (.k (.v (.c (.p (.int .i64 11)))))))] []) .ret) .skip)) (.seq (.reg [(oA 65 (.mv (.t 5))), (oA 66 (.mv (.t 8))), (oA 67 (.bslice 1 1 [(.p (.int .u8 0))] [(0, (.t 66))] false)), (oA 68 (.append 1 1 false (.t 65) (.t 67))), (oA 5 (.mv (.t 68)))] []) (.reg [(oA 69 (.mv (.t 6))), (oA 70 (.bin .add 0 (.t 69) (.k (.v (.c (.p (.int .i64 1))))))), (oA 6 (.mv (.t 70)))] [])))) (.reg [(oA 19 (.mv (.t 5))), (oA 20 (.mv (.t 7))), (oA 21 (.bslice 1 1 [(.p (.int .u8 0))] [(0, (.t 20))] false)), (oA 22 (.append 1 1 false (.t 19) (.t 21))), (oA 5 (.mv (.t 22)))] [])))))))))))) (.mark 2 [0, 2, 5, 6] (.reg [(oA 14 (.mv (.t 6))), (oA 15 (.bin .add 0 (.t 14) (.k (.v (.c (.p (.int .i64 1))))))), (oA 6 (.mv (.t 15)))] []))))))) (.mark 3 [2] (.seq (.reg [(oA 71 (.build [(.p (.int .i64 0)), (.p (.str [])), (.p (.int .i64 0)), (.p (.int .i64 0))] [])), (oN (.store 4 (.t 2) (.t 71))), (oA 3 (.mv (.k (.v (.c (.p (.int .i64 0))))))), (oA 4 (.mv (.k (.v (.c (.p (.int .i64 11)))))))] []) .ret))))) }
theorem t34 : compF Tryd.prog (globs2 tabs opq) (fun _ => false) true Tryd.f34 = some c34.erase := by kernel_rfl
noncomputable def b34_0 (O : Oracle) (R : Jump) (q : Nat) (x0 : TVal) (h : Heap) : Res1 :=
 vop O (.alloc [(.p (.int .i64 0)), (.p (.str [])), (.p (.int .i64 0)), (.p (.int .i64 0))] false) h 2 fun x2 h =>
 R 1 [x0, x2, (.v (.c (.p .nilslice))), (kI 1)] h
theorem e34_0 (O : Oracle) (R : Jump) (q : Nat) (x0 : TVal) (h : Heap) : b34_0 O R q x0 h = stepF c34 O R q 0 [x0] h := by kernel_rfl
noncomputable def b34_1 (O : Oracle) (R : Jump) (q : Nat) (x0 x2 x5 x6 : TVal) (h : Heap) : Res1 :=
 vlen O 0 x0 h 12 fun x12 h =>
 vbin .lss 0 x6 x12 h fun x13 h =>
 vif x13 (
 vindex x0 x6 h fun x18 h =>
 vbin .lss 0 x18 (.v (.c (.p (.int .u8 32)))) h fun x25 h =>
 vif x25 (
 vop O (.build [(.p (.int .i64 0)), (.p (.str [])), (.p (.int .i64 0)), (.p (.int .i64 0))] []) h 26 fun x26 h =>
 vstore 4 x2 x26 h fun _ h =>
 vcell true 4 x2 h fun c0 => tcomp (kI 0) fun c1 => tcomp (kI 11) fun c2 => vfin true q [c0, c1, c2] h)
 (vbin .eql 0 x18 (.v (.c (.p (.int .u8 34)))) h fun x29 h =>
 vguard x29 true (fun kk => kk x5 h) h fun x31 h =>
 vguard x29 true (fun kk => vlen O 2 x31 h 32 kk) h fun x32 h =>
 vguard x29 true (fun kk => vbin .gtr 0 x32 (kI 200) h kk) h fun x33 h =>
 vop O (.pick (.k x29) (.k x33) (.k (kB false))) h 34 fun x34 h =>
 vif x34 (
 vop O (.build [(.p (.int .i64 0)), (.p (.str [])), (.p (.int .i64 0)), (.p (.int .i64 0))] []) h 35 fun x35 h =>
 vstore 4 x2 x35 h fun _ h =>
 vcell true 4 x2 h fun c0 => tcomp (kI 0) fun c1 => tcomp (kI 4) fun c2 => vfin true q [c0, c1, c2] h)
 (vbin .eql 0 x18 (.v (.c (.p (.int .u8 34)))) h fun x38 h =>
 vif x38 (
 vop O (.toStr (.k x5)) h 40 fun x40 h =>
 vop O (.build [(.p (.int .i64 0)), (.p (.str [])), (.p (.int .i64 0)), (.p (.int .i64 0))] [(0, 1, (.k (kI 2))), (1, 1, (.k x40))]) h 41 fun x41 h =>
 vbin .add 0 x6 (kI 1) h fun x43 h =>
 vstore 4 x2 x41 h fun _ h =>
 vcell true 4 x2 h fun c0 => tcomp x43 fun c1 => tcomp (kI 0) fun c2 => vfin true q [c0, c1, c2] h)
 (vbin .eql 0 x18 (.v (.c (.p (.int .u8 92)))) h fun x46 h =>
 vguard x46 true (fun kk => kk x6 h) h fun x48 h =>
 vguard x46 true (fun kk => vbin .add 0 x48 (kI 1) h kk) h fun x49 h =>
 vguard x46 true (fun kk => kk x0 h) h fun x50 h =>
 vguard x46 true (fun kk => vlen O 0 x50 h 51 kk) h fun x51 h =>
 vguard x46 true (fun kk => vbin .lss 0 x49 x51 h kk) h fun x52 h =>
 vop O (.pick (.k x46) (.k x52) (.k (kB false))) h 53 fun x53 h =>
 vif x53 (
 vbin .add 0 x6 (kI 1) h fun x57 h =>
 vindex x0 x57 h fun x58 h =>
 vcall O (.v (.c (.func 40 []))) [x58] h 59 fun x59 h =>
 vext x59 0 h fun x60 h =>
 vext x59 1 h fun x61 h =>
 vop O (.un .not (.k x61)) h 63 fun x63 h =>
 vif x63 (
 vop O (.build [(.p (.int .i64 0)), (.p (.str [])), (.p (.int .i64 0)), (.p (.int .i64 0))] []) h 64 fun x64 h =>
 vstore 4 x2 x64 h fun _ h =>
 vcell true 4 x2 h fun c0 => tcomp (kI 0) fun c1 => tcomp (kI 11) fun c2 => vfin true q [c0, c1, c2] h)
 (vop O (.bslice 1 1 [(.p (.int .u8 0))] [(0, (.k x60))] false) h 67 fun x67 h =>
 vop O (.append 1 1 false (.k x5) (.k x67)) h 68 fun x68 h =>
 vbin .add 0 x6 (kI 1) h fun x70 h =>
 R 2 [x0, x2, x68, x70] h))
 (vop O (.bslice 1 1 [(.p (.int .u8 0))] [(0, (.k x18))] false) h 21 fun x21 h =>
 vop O (.append 1 1 false (.k x5) (.k x21)) h 22 fun x22 h =>
 R 2 [x0, x2, x22, x6] h)))))
 (R 3 [x2] h)
theorem e34_1 (O : Oracle) (R : Jump) (q : Nat) (x0 x2 x5 x6 : TVal) (h : Heap) : b34_1 O R q x0 x2 x5 x6 h = stepF c34 O R q 1 [x0, x2, x5, x6] h := by kernel_rfl
noncomputable def b34_2 (O : Oracle) (R : Jump) (q : Nat) (x0 x2 x5 x6 : TVal) (h : Heap) : Res1 :=
 vbin .add 0 x6 (kI 1) h fun x15 h =>
 R 1 [x0, x2, x5, x15] h
theorem e34_2 (O : Oracle) (R : Jump) (q : Nat) (x0 x2 x5 x6 : TVal) (h : Heap) : b34_2 O R q x0 x2 x5 x6 h = stepF c34 O R q 2 [x0, x2, x5, x6] h := by kernel_rfl
noncomputable def b34_3 (O : Oracle) (R : Jump) (q : Nat) (x2 : TVal) (h : Heap) : Res1 :=
 vop O (.build [(.p (.int .i64 0)), (.p (.str [])), (.p (.int .i64 0)), (.p (.int .i64 0))] []) h 71 fun x71 h =>
 vstore 4 x2 x71 h fun _ h =>
 vcell true 4 x2 h fun c0 => tcomp (kI 0) fun c1 => tcomp (kI 11) fun c2 => vfin true q [c0, c1, c2] h
theorem e34_3 (O : Oracle) (R : Jump) (q : Nat) (x2 : TVal) (h : Heap) : b34_3 O R q x2 h = stepF c34 O R q 3 [x2] h := by kernel_rfl
noncomputable def d34 : BlkF := fun O R q => [.s fun y0 => .z fun h => b34_0 O R q y0 h, .s fun y0 => .s fun y1 => .s fun y2 => .s fun y3 => .z fun h => b34_1 O R q y0 y1 y2 y3 h, .s fun y0 => .s fun y1 => .s fun y2 => .s fun y3 => .z fun h => b34_2 O R q y0 y1 y2 y3 h, .s fun y0 => .z fun h => b34_3 O R q y0 h]
theorem o34 (O : Oracle) (R : Jump) (q : Nat) : HoldsAll c34 O R q 0 (d34 O R q) := ⟨fun y0 h => e34_0 O R q y0 h, fun y0 y1 y2 y3 h => e34_1 O R q y0 y1 y2 y3 h, fun y0 y1 y2 y3 h => e34_2 O R q y0 y1 y2 y3 h, fun y0 h => e34_3 O R q y0 h, trivial⟩
/- sprue/scan.sign -/
def c35 : MFunc := { np := 1, res := [.cell 2 true 4, .t 3, .t 4], frz := true, body := (.seq (.reg [(oA 2 (.alloc [(.p (.int .i64 0)), (.p (.str [])), (.p (.int .i64 0)), (.p (.int .i64 0))] false)), (oA 3 (.mv (.k (.v (.c (.p (.int .i64 0))))))), (oA 4 (.mv (.k (.v (.c (.p (.int .i64 0)))))))] []) (.seq (.seq (.reg [(oA 7 (.call (.k (.v (.c (.func 41 [])))) [(.k (.v (.c (.p (.str [45, 62, 32, 58, 61])))))])), (oA 8 (.len 2 (.t 7))), (oA 9 (.mv (.k (.v (.c (.p (.int .i64 0)))))))] []) (.block 0 (.loop 1 [0, 2, 7, 8, 9] (.seq (.reg [(oA 10 (.bin .lss 0 (.t 9) (.t 8)))] []) (.seq (.cond (.t 10) .skip (.exit 0)) (.seq (.block 1 (.seq (.reg [(oA 11 (.iaddr 1 (.t 7) (.t 9))), (oA 12 (.load false 1 (.t 11))), (oA 6 (.mv (.t 12)))] []) (.seq (.reg [(oA 13 (.mv (.t 0))), (oA 14 (.mv (.t 6))), (oA 15 (.call (.k (.v (.c (.func 42 [])))) [(.t 13), (.t 14)]))] []) (.cond (.t 15) (.seq (.reg [(oA 16 (.mv (.t 6))), (oA 17 (.build [(.p (.int .i64 0)), (.p (.str [])), (.p (.int .i64 0)), (.p (.int .i64 0))] [(0, 1, (.k (.v (.c (.p (.int .i64 4)))))), (1, 1, (.t 16))])), (oA 18 (.mv (.t 6))), (oA 19 (.len 0 (.t 18))), (oN (.store 4 (.t 2) (.t 17))), (oA 3 (.mv (.t 19))), (oA 4 (.mv (.k (.v (.c (.p (.int .i64 0)))))))] []) .ret) .skip)))) (.reg [(oA 20 (.bin .add 0 (.t 9) (.k (.v (.c (.p (.int .i64 1))))))), (oA 9 (.mv (.t 20)))] []))))))) (.mark 2 [0, 2] (.seq (.seq (.reg [(oA 21 (.mv (.t 0))), (oA 22 (.slice 0 true (.t 21) none (some (.k (.v (.c (.p (.int .i64 1)))))) none)), (oA 23 (.call (.k (.v (.c (.func 22 [])))) [(.k (.v (.c (.p (.str [123, 125, 60, 62, 44, 58, 40, 41, 46, 36, 124, 61, 59]))))), (.t 22)])), (oA 24 (.un .not (.t 23)))] []) (.cond (.t 24) (.seq (.reg [(oA 25 (.build [(.p (.int .i64 0)), (.p (.str [])), (.p (.int .i64 0)), (.p (.int .i64 0))] [])), (oN (.store 4 (.t 2) (.t 25))), (oA 3 (.mv (.k (.v (.c (.p (.int .i64 0))))))), (oA 4 (.mv (.k (.v (.c (.p (.int .i64 11)))))))] []) .ret) .skip)) (.seq (.reg [(oA 26 (.mv (.t 0))), (oA 27 (.slice 0 true (.t 26) none (some (.k (.v (.c (.p (.int .i64 1)))))) none)), (oA 28 (.build [(.p (.int .i64 0)), (.p (.str [])), (.p (.int .i64 0)), (.p (.int .i64 0))] [(0, 1, (.k (.v (.c (.p (.int .i64 4)))))), (1, 1, (.t 27))])), (oN (.store 4 (.t 2) (.t 28))), (oA 3 (.mv (.k (.v (.c (.p (.int .i64 1))))))), (oA 4 (.mv (.k (.v (.c (.p (.int .i64 0)))))))] []) .ret))))) }
theorem t35 : compF Tryd.prog (globs2 tabs opq) (fun _ => false) true Tryd.f35 = some c35.erase := by kernel_rfl
noncomputable def b35_0 (O : Oracle) (R : Jump) (q : Nat) (x0 : TVal) (h : Heap) : Res1 :=
 vop O (.alloc [(.p (.int .i64 0)), (.p (.str [])), (.p (.int .i64 0)), (.p (.int .i64 0))] false) h 2 fun x2 h =>
 vcall O (.v (.c (.func 41 []))) [(kS [45, 62, 32, 58, 61])] h 7 fun x7 h =>
 vlen O 2 x7 h 8 fun x8 h =>
 R 1 [x0, x2, x7, x8, (kI 0)] h
theorem e35_0 (O : Oracle) (R : Jump) (q : Nat) (x0 : TVal) (h : Heap) : b35_0 O R q x0 h = stepF c35 O R q 0 [x0] h := by kernel_rfl
noncomputable def b35_1 (O : Oracle) (R : Jump) (q : Nat) (x0 x2 x7 x8 x9 : TVal) (h : Heap) : Res1 :=
 vbin .lss 0 x9 x8 h fun x10 h =>
 vif x10 (
 viaddr 1 x7 x9 h fun x11 h =>
 vload false 1 x11 h fun x12 h =>
 vcall O (.v (.c (.func 42 []))) [x0, x12] h 15 fun x15 h =>
 vif x15 (
 vop O (.build [(.p (.int .i64 0)), (.p (.str [])), (.p (.int .i64 0)), (.p (.int .i64 0))] [(0, 1, (.k (kI 4))), (1, 1, (.k x12))]) h 17 fun x17 h =>
 vlen O 0 x12 h 19 fun x19 h =>
 vstore 4 x2 x17 h fun _ h =>
 vcell true 4 x2 h fun c0 => tcomp x19 fun c1 => tcomp (kI 0) fun c2 => vfin true q [c0, c1, c2] h)
 (vbin .add 0 x9 (kI 1) h fun x20 h =>
 R 1 [x0, x2, x7, x8, x20] h))
 (R 2 [x0, x2] h)
theorem e35_1 (O : Oracle) (R : Jump) (q : Nat) (x0 x2 x7 x8 x9 : TVal) (h : Heap) : b35_1 O R q x0 x2 x7 x8 x9 h = stepF c35 O R q 1 [x0, x2, x7, x8, x9] h := by kernel_rfl
noncomputable def b35_2 (O : Oracle) (R : Jump) (q : Nat) (x0 x2 : TVal) (h : Heap) : Res1 :=
 vop O (.slice 0 true (.k x0) none (some (.k (kI 1))) none) h 22 fun x22 h =>
 vcall O (.v (.c (.func 22 []))) [(kS [123, 125, 60, 62, 44, 58, 40, 41, 46, 36, 124, 61, 59]), x22] h 23 fun x23 h =>
 vop O (.un .not (.k x23)) h 24 fun x24 h =>
 vif x24 (
 vop O (.build [(.p (.int .i64 0)), (.p (.str [])), (.p (.int .i64 0)), (.p (.int .i64 0))] []) h 25 fun x25 h =>
 vstore 4 x2 x25 h fun _ h =>
 vcell true 4 x2 h fun c0 => tcomp (kI 0) fun c1 => tcomp (kI 11) fun c2 => vfin true q [c0, c1, c2] h)
 (vop O (.slice 0 true (.k x0) none (some (.k (kI 1))) none) h 27 fun x27 h =>
 vop O (.build [(.p (.int .i64 0)), (.p (.str [])), (.p (.int .i64 0)), (.p (.int .i64 0))] [(0, 1, (.k (kI 4))), (1, 1, (.k x27))]) h 28 fun x28 h =>
 vstore 4 x2 x28 h fun _ h =>
 vcell true 4 x2 h fun c0 => tcomp (kI 1) fun c1 => tcomp (kI 0) fun c2 => vfin true q [c0, c1, c2] h)
theorem e35_2 (O : Oracle) (R : Jump) (q : Nat) (x0 x2 : TVal) (h : Heap) : b35_2 O R q x0 x2 h = stepF c35 O R q 2 [x0, x2] h := by kernel_rfl
noncomputable def d35 : BlkF := fun O R q => [.s fun y0 => .z fun h => b35_0 O R q y0 h, .s fun y0 => .s fun y1 => .s fun y2 => .s fun y3 => .s fun y4 => .z fun h => b35_1 O R q y0 y1 y2 y3 y4 h, .s fun y0 => .s fun y1 => .z fun h => b35_2 O R q y0 y1 h]
theorem o35 (O : Oracle) (R : Jump) (q : Nat) : HoldsAll c35 O R q 0 (d35 O R q) := ⟨fun y0 h => e35_0 O R q y0 h, fun y0 y1 y2 y3 y4 h => e35_1 O R q y0 y1 y2 y3 y4 h, fun y0 y1 h => e35_2 O R q y0 y1 h, trivial⟩
/- sprue/scan.front -/
def c36 : MFunc := { np := 2, res := [.t 4], frz := true, body := (.seq (.reg [(oA 4 (.mv (.k (.v (.c (.p (.int .i64 0)))))))] []) (.seq (.seq (.reg [(oA 6 (.mv (.t 0))), (oA 7 (.rangeS (.t 6)))] []) (.block 0 (.loop 1 [0, 1, 7] (.seq (.reg [(oA 8 (.nextS (.t 7))), (oA 9 (.extract (.t 8) 0))] []) (.seq (.cond (.t 9) .skip (.exit 0)) (.block 1 (.seq (.reg [(oA 10 (.extract (.t 8) 1)), (oA 5 (.mv (.t 10)))] []) (.seq (.reg [(oA 11 (.mv (.t 1))), (oA 12 (.mv (.t 0))), (oA 13 (.mv (.t 5))), (oA 14 (.index (.t 12) (.t 13))), (oA 15 (.call (.t 11) [(.t 14)])), (oA 16 (.un .not (.t 15)))] []) (.cond (.t 16) (.seq (.reg [(oA 17 (.mv (.t 5))), (oA 4 (.mv (.t 17)))] []) .ret) .skip))))))))) (.mark 2 [0] (.seq (.reg [(oA 18 (.mv (.t 0))), (oA 19 (.len 0 (.t 18))), (oA 4 (.mv (.t 19)))] []) .ret)))) }
theorem t36 : compF Tryd.prog (globs2 tabs opq) (fun _ => false) true Tryd.f36 = some c36.erase := by kernel_rfl
noncomputable def b36_0 (O : Oracle) (R : Jump) (q : Nat) (x0 x1 : TVal) (h : Heap) : Res1 :=
 vop O (.rangeS (.k x0)) h 7 fun x7 h =>
 R 1 [x0, x1, x7] h
theorem e36_0 (O : Oracle) (R : Jump) (q : Nat) (x0 x1 : TVal) (h : Heap) : b36_0 O R q x0 x1 h = stepF c36 O R q 0 [x0, x1] h := by kernel_rfl
noncomputable def b36_1 (O : Oracle) (R : Jump) (q : Nat) (x0 x1 x7 : TVal) (h : Heap) : Res1 :=
 vop O (.nextS (.k x7)) h 8 fun x8 h =>
 vext x8 0 h fun x9 h =>
 vif x9 (
 vext x8 1 h fun x10 h =>
 vindex x0 x10 h fun x14 h =>
 vcall O x1 [x14] h 15 fun x15 h =>
 vop O (.un .not (.k x15)) h 16 fun x16 h =>
 vif x16 (
 tcomp x10 fun c0 => vfin true q [c0] h)
 (R 1 [x0, x1, x7] h))
 (R 2 [x0] h)
theorem e36_1 (O : Oracle) (R : Jump) (q : Nat) (x0 x1 x7 : TVal) (h : Heap) : b36_1 O R q x0 x1 x7 h = stepF c36 O R q 1 [x0, x1, x7] h := by kernel_rfl
noncomputable def b36_2 (O : Oracle) (R : Jump) (q : Nat) (x0 : TVal) (h : Heap) : Res1 :=
 vlen O 0 x0 h 19 fun x19 h =>
 tcomp x19 fun c0 => vfin true q [c0] h
theorem e36_2 (O : Oracle) (R : Jump) (q : Nat) (x0 : TVal) (h : Heap) : b36_2 O R q x0 h = stepF c36 O R q 2 [x0] h := by kernel_rfl
noncomputable def d36 : BlkF := fun O R q => [.s fun y0 => .s fun y1 => .z fun h => b36_0 O R q y0 y1 h, .s fun y0 => .s fun y1 => .s fun y2 => .z fun h => b36_1 O R q y0 y1 y2 h, .s fun y0 => .z fun h => b36_2 O R q y0 h]
theorem o36 (O : Oracle) (R : Jump) (q : Nat) : HoldsAll c36 O R q 0 (d36 O R q) := ⟨fun y0 y1 h => e36_0 O R q y0 y1 h, fun y0 y1 y2 h => e36_1 O R q y0 y1 y2 h, fun y0 h => e36_2 O R q y0 h, trivial⟩
/- sprue/scan.row$1 -/
def c37 : MFunc := { np := 1, res := [.t 2], frz := true, body := (.seq (.reg [(oA 2 (.mv (.k (.v (.c (.p (.bool false)))))))] []) (.seq (.reg [(oA 3 (.mv (.t 0))), (oA 4 (.call (.k (.v (.c (.func 31 [])))) [(.t 3)])), (oA 5 (.mv (.t 4))), ⟨(some 6), (.mv (.t 0)), (some (5, false))⟩, ⟨(some 7), (.call (.k (.v (.c (.func 24 [])))) [(.t 6)]), (some (5, false))⟩, (oA 8 (.pick (.t 5) (.k (.v (.c (.p (.bool true))))) (.t 7))), (oA 2 (.mv (.t 8)))] []) .ret)) }
theorem t37 : compF Tryd.prog (globs2 tabs opq) (fun _ => false) true Tryd.f37 = some c37.erase := by kernel_rfl
noncomputable def b37_0 (O : Oracle) (R : Jump) (q : Nat) (x0 : TVal) (h : Heap) : Res1 :=
 vcall O (.v (.c (.func 31 []))) [x0] h 4 fun x4 h =>
 vguard x4 false (fun kk => kk x0 h) h fun x6 h =>
 vguard x4 false (fun kk => vcall O (.v (.c (.func 24 []))) [x6] h 7 kk) h fun x7 h =>
 vop O (.pick (.k x4) (.k (kB true)) (.k x7)) h 8 fun x8 h =>
 tcomp x8 fun c0 => vfin true q [c0] h
theorem e37_0 (O : Oracle) (R : Jump) (q : Nat) (x0 : TVal) (h : Heap) : b37_0 O R q x0 h = stepF c37 O R q 0 [x0] h := by kernel_rfl
noncomputable def d37 : BlkF := fun O R q => [.s fun y0 => .z fun h => b37_0 O R q y0 h]
theorem o37 (O : Oracle) (R : Jump) (q : Nat) : HoldsAll c37 O R q 0 (d37 O R q) := ⟨fun y0 h => e37_0 O R q y0 h, trivial⟩
/- internal/stringslite.Index -/
def c38 : MFunc := { np := 2, res := [.t 4], frz := true, body := (.seq (.reg [(oA 4 (.mv (.k (.v (.c (.p (.int .i64 0)))))))] []) (.seq (.reg [(oA 14 (.mv (.t 1))), (oA 15 (.len 0 (.t 14))), (oA 5 (.mv (.t 15)))] []) (.seq (.block 0 (.seq (.reg [(oA 17 (.mv (.t 5))), (oA 18 (.bin .eql 0 (.t 17) (.k (.v (.c (.p (.int .i64 0))))))), (oA 19 (.mv (.t 18))), ⟨(some 20), (.mv (.t 1)), (some (19, false))⟩, ⟨(some 21), (.mv (.t 0)), (some (19, false))⟩, ⟨(some 22), (.bin .eql 0 (.t 20) (.t 21)), (some (19, false))⟩, (oA 23 (.pick (.t 19) (.k (.v (.c (.p (.bool true))))) (.t 22))), (oA 16 (.mv (.t 23)))] []) (.cond (.t 16) (.seq (.reg [(oA 4 (.mv (.k (.v (.c (.p (.int .i64 0)))))))] []) .ret) (.seq (.reg [(oA 25 (.mv (.t 5))), (oA 26 (.bin .eql 0 (.t 25) (.k (.v (.c (.p (.int .i64 1))))))), (oA 24 (.mv (.t 26)))] []) (.cond (.t 24) (.seq (.reg [(oA 27 (.mv (.t 0))), (oA 28 (.mv (.t 1))), (oA 29 (.index (.t 28) (.k (.v (.c (.p (.int .i64 0))))))), (oA 30 (.call (.k (.v (.c (.func 43 [])))) [(.t 27), (.t 29)])), (oA 4 (.mv (.t 30)))] []) .ret) (.seq (.reg [(oA 32 (.mv (.t 5))), (oA 33 (.mv (.t 0))), (oA 34 (.len 0 (.t 33))), (oA 35 (.bin .geq 0 (.t 32) (.t 34))), (oA 31 (.mv (.t 35)))] []) (.cond (.t 31) (.seq (.reg [(oA 4 (.mv (.k (.v (.c (.p (.int .i64 (-1))))))))] []) .ret) (.seq (.reg [(oA 37 (.mv (.t 5))), (oA 38 (.load false 1 (.k (.v (.c (.p (.pptr [(.sym .i64 63 (.ofNat 0) (.ofNat 1) (.ofNat 0))] 0))))))), (oA 39 (.bin .leq 0 (.t 37) (.t 38))), (oA 40 (.mv (.t 39))), ⟨(some 41), (.mv (.t 0)), (some (40, true))⟩, ⟨(some 42), (.len 0 (.t 41)), (some (40, true))⟩, ⟨(some 43), (.bin .leq 0 (.t 42) (.k (.v (.c (.p (.int .i64 64)))))), (some (40, true))⟩, (oA 44 (.pick (.t 40) (.t 43) (.k (.v (.c (.p (.bool false))))))), (oA 36 (.mv (.t 44)))] []) (.cond (.t 36) (.seq (.reg [(oA 45 (.mv (.t 0))), (oA 46 (.mv (.t 1))), (oA 47 (.call (.k (.v (.c (.func 44 [])))) [(.t 45), (.t 46)])), (oA 4 (.mv (.t 47)))] []) .ret) .skip))))))))) (.seq (.reg [(oA 48 (.mv (.t 1))), (oA 49 (.index (.t 48) (.k (.v (.c (.p (.int .i64 0))))))), (oA 6 (.mv (.t 49)))] []) (.seq (.reg [(oA 50 (.mv (.t 1))), (oA 51 (.index (.t 50) (.k (.v (.c (.p (.int .i64 1))))))), (oA 7 (.mv (.t 51)))] []) (.seq (.reg [(oA 8 (.mv (.k (.v (.c (.p (.int .i64 0)))))))] []) (.seq (.reg [(oA 52 (.mv (.t 0))), (oA 53 (.len 0 (.t 52))), (oA 54 (.mv (.t 5))), (oA 55 (.bin .sub 0 (.t 53) (.t 54))), (oA 56 (.bin .add 0 (.t 55) (.k (.v (.c (.p (.int .i64 1))))))), (oA 9 (.mv (.t 56)))] []) (.seq (.reg [(oA 10 (.mv (.k (.v (.c (.p (.int .i64 0)))))))] []) (.seq (.block 1 (.loop 1 [0, 1, 5, 6, 7, 8, 9, 10] (.seq (.seq (.reg [(oA 57 (.mv (.t 8))), (oA 58 (.mv (.t 9))), (oA 59 (.bin .lss 0 (.t 57) (.t 58)))] []) (.cond (.t 59) .skip (.exit 1))) (.block 2 (.seq (.seq (.reg [(oA 60 (.mv (.t 0))), (oA 61 (.mv (.t 8))), (oA 62 (.index (.t 60) (.t 61))), (oA 63 (.mv (.t 6))), (oA 64 (.bin .neq 0 (.t 62) (.t 63)))] []) (.cond (.t 64) (.seq (.reg [(oA 65 (.mv (.t 0))), (oA 66 (.mv (.t 8))), (oA 67 (.bin .add 0 (.t 66) (.k (.v (.c (.p (.int .i64 1))))))), (oA 68 (.mv (.t 9))), (oA 69 (.slice 0 true (.t 65) (some (.t 67)) (some (.t 68)) none)), (oA 70 (.mv (.t 6))), (oA 71 (.call (.k (.v (.c (.func 43 [])))) [(.t 69), (.t 70)])), (oA 11 (.mv (.t 71)))] []) (.seq (.seq (.reg [(oA 72 (.mv (.t 11))), (oA 73 (.bin .lss 0 (.t 72) (.k (.v (.c (.p (.int .i64 0)))))))] []) (.cond (.t 73) (.seq (.reg [(oA 4 (.mv (.k (.v (.c (.p (.int .i64 (-1))))))))] []) .ret) .skip)) (.reg [(oA 74 (.mv (.t 8))), (oA 75 (.mv (.t 11))), (oA 76 (.bin .add 0 (.t 75) (.k (.v (.c (.p (.int .i64 1))))))), (oA 77 (.bin .add 0 (.t 74) (.t 76))), (oA 8 (.mv (.t 77)))] []))) .skip)) (.mark 2 [0, 1, 5, 6, 7, 8, 9, 10] (.seq (.seq (.reg [(oA 78 (.mv (.t 0))), (oA 79 (.mv (.t 8))), (oA 80 (.bin .add 0 (.t 79) (.k (.v (.c (.p (.int .i64 1))))))), (oA 81 (.index (.t 78) (.t 80))), (oA 82 (.mv (.t 7))), (oA 83 (.bin .eql 0 (.t 81) (.t 82))), (oA 84 (.mv (.t 83))), ⟨(some 85), (.mv (.t 0)), (some (84, true))⟩, ⟨(some 86), (.mv (.t 8)), (some (84, true))⟩, ⟨(some 87), (.mv (.t 8)), (some (84, true))⟩, ⟨(some 88), (.mv (.t 5)), (some (84, true))⟩, ⟨(some 89), (.bin .add 0 (.t 87) (.t 88)), (some (84, true))⟩, ⟨(some 90), (.slice 0 true (.t 85) (some (.t 86)) (some (.t 89)) none), (some (84, true))⟩, ⟨(some 91), (.mv (.t 1)), (some (84, true))⟩, ⟨(some 92), (.bin .eql 0 (.t 90) (.t 91)), (some (84, true))⟩, (oA 93 (.pick (.t 84) (.t 92) (.k (.v (.c (.p (.bool false)))))))] []) (.cond (.t 93) (.seq (.reg [(oA 94 (.mv (.t 8))), (oA 4 (.mv (.t 94)))] []) .ret) .skip)) (.seq (.reg [(oA 95 (.mv (.t 8))), (oA 96 (.bin .add 0 (.t 95) (.k (.v (.c (.p (.int .i64 1))))))), (oA 8 (.mv (.t 96)))] []) (.seq (.reg [(oA 97 (.mv (.t 10))), (oA 98 (.bin .add 0 (.t 97) (.k (.v (.c (.p (.int .i64 1))))))), (oA 10 (.mv (.t 98)))] []) (.seq (.reg [(oA 99 (.mv (.t 5))), (oA 100 (.load false 1 (.k (.v (.c (.p (.pptr [(.sym .i64 63 (.ofNat 0) (.ofNat 1) (.ofNat 0))] 0))))))), (oA 101 (.bin .leq 0 (.t 99) (.t 100))), (oA 102 (.mv (.t 101))), ⟨(some 103), (.mv (.t 10)), (some (102, true))⟩, ⟨(some 104), (.mv (.t 8)), (some (102, true))⟩, ⟨(some 105), (.call (.k (.v (.c (.func 45 [])))) [(.t 104)]), (some (102, true))⟩, ⟨(some 106), (.bin .gtr 0 (.t 103) (.t 105)), (some (102, true))⟩, (oA 107 (.pick (.t 102) (.t 106) (.k (.v (.c (.p (.bool false)))))))] []) (.cond (.t 107) (.seq (.reg [(oA 108 (.mv (.t 0))), (oA 109 (.mv (.t 8))), (oA 110 (.slice 0 true (.t 108) (some (.t 109)) none none)), (oA 111 (.mv (.t 1))), (oA 112 (.call (.k (.v (.c (.func 44 [])))) [(.t 110), (.t 111)])), (oA 12 (.mv (.t 112)))] []) (.seq (.seq (.reg [(oA 113 (.mv (.t 12))), (oA 114 (.bin .geq 0 (.t 113) (.k (.v (.c (.p (.int .i64 0)))))))] []) (.cond (.t 114) (.seq (.reg [(oA 115 (.mv (.t 12))), (oA 116 (.mv (.t 8))), (oA 117 (.bin .add 0 (.t 115) (.t 116))), (oA 4 (.mv (.t 117)))] []) .ret) .skip)) (.seq (.reg [(oA 4 (.mv (.k (.v (.c (.p (.int .i64 (-1))))))))] []) .ret))) (.seq (.reg [(oA 118 (.mv (.t 5))), (oA 119 (.load false 1 (.k (.v (.c (.p (.pptr [(.sym .i64 63 (.ofNat 0) (.ofNat 1) (.ofNat 0))] 0))))))), (oA 120 (.bin .gtr 0 (.t 118) (.t 119))), (oA 121 (.mv (.t 120))), ⟨(some 122), (.mv (.t 10)), (some (121, true))⟩, ⟨(some 123), (.mv (.t 8)), (some (121, true))⟩, ⟨(some 124), (.bin .shr 0 (.t 123) (.k (.v (.c (.p (.int .u64 4)))))), (some (121, true))⟩, ⟨(some 125), (.bin .add 0 (.k (.v (.c (.p (.int .i64 4))))) (.t 124)), (some (121, true))⟩, ⟨(some 126), (.bin .geq 0 (.t 122) (.t 125)), (some (121, true))⟩, (oA 127 (.pick (.t 121) (.t 126) (.k (.v (.c (.p (.bool false))))))), (oA 128 (.mv (.t 127))), ⟨(some 129), (.mv (.t 8)), (some (128, true))⟩, ⟨(some 130), (.mv (.t 9)), (some (128, true))⟩, ⟨(some 131), (.bin .lss 0 (.t 129) (.t 130)), (some (128, true))⟩, (oA 132 (.pick (.t 128) (.t 131) (.k (.v (.c (.p (.bool false)))))))] []) (.cond (.t 132) (.seq (.reg [(oA 133 (.mv (.t 0))), (oA 134 (.mv (.t 8))), (oA 135 (.slice 0 true (.t 133) (some (.t 134)) none none)), (oA 136 (.mv (.t 1))), (oA 137 (.call (.k (.v (.c (.func 46 [])))) [(.t 135), (.t 136)])), (oA 13 (.mv (.t 137)))] []) (.seq (.seq (.reg [(oA 138 (.mv (.t 13))), (oA 139 (.bin .lss 0 (.t 138) (.k (.v (.c (.p (.int .i64 0)))))))] []) (.cond (.t 139) (.seq (.reg [(oA 4 (.mv (.k (.v (.c (.p (.int .i64 (-1))))))))] []) .ret) .skip)) (.seq (.reg [(oA 140 (.mv (.t 8))), (oA 141 (.mv (.t 13))), (oA 142 (.bin .add 0 (.t 140) (.t 141))), (oA 4 (.mv (.t 142)))] []) .ret))) .skip))))))))))))) (.seq (.reg [(oA 4 (.mv (.k (.v (.c (.p (.int .i64 (-1))))))))] []) .ret)))))))))) }
theorem t38 : compF Tryd.prog (globs2 tabs opq) (fun _ => false) true Tryd.f38 = some c38.erase := by kernel_rfl
noncomputable def b38_0 (O : Oracle) (R : Jump) (q : Nat) (x0 x1 : TVal) (h : Heap) : Res1 :=
 vlen O 0 x1 h 15 fun x15 h =>
 vbin .eql 0 x15 (kI 0) h fun x18 h =>
 vguard x18 false (fun kk => kk x1 h) h fun x20 h =>
 vguard x18 false (fun kk => kk x0 h) h fun x21 h =>
 vguard x18 false (fun kk => vbin .eql 0 x20 x21 h kk) h fun x22 h =>
 vop O (.pick (.k x18) (.k (kB true)) (.k x22)) h 23 fun x23 h =>
 vif x23 (
 tcomp (kI 0) fun c0 => vfin true q [c0] h)
 (vbin .eql 0 x15 (kI 1) h fun x26 h =>
 vif x26 (
 vindex x1 (kI 0) h fun x29 h =>
 vcall O (.v (.c (.func 43 []))) [x0, x29] h 30 fun x30 h =>
 tcomp x30 fun c0 => vfin true q [c0] h)
 (vlen O 0 x0 h 34 fun x34 h =>
 vbin .geq 0 x15 x34 h fun x35 h =>
 vif x35 (
 tcomp (kI (-1)) fun c0 => vfin true q [c0] h)
 (vload false 1 (.v (.c (.p (.pptr [(.sym .i64 63 (.ofNat 0) (.ofNat 1) (.ofNat 0))] 0)))) h fun x38 h =>
 vbin .leq 0 x15 x38 h fun x39 h =>
 vguard x39 true (fun kk => kk x0 h) h fun x41 h =>
 vguard x39 true (fun kk => vlen O 0 x41 h 42 kk) h fun x42 h =>
 vguard x39 true (fun kk => vbin .leq 0 x42 (kI 64) h kk) h fun x43 h =>
 vop O (.pick (.k x39) (.k x43) (.k (kB false))) h 44 fun x44 h =>
 vif x44 (
 vcall O (.v (.c (.func 44 []))) [x0, x1] h 47 fun x47 h =>
 tcomp x47 fun c0 => vfin true q [c0] h)
 (vindex x1 (kI 0) h fun x49 h =>
 vindex x1 (kI 1) h fun x51 h =>
 vlen O 0 x0 h 53 fun x53 h =>
 vbin .sub 0 x53 x15 h fun x55 h =>
 vbin .add 0 x55 (kI 1) h fun x56 h =>
 R 1 [x0, x1, x15, x49, x51, (kI 0), x56, (kI 0)] h))))
theorem e38_0 (O : Oracle) (R : Jump) (q : Nat) (x0 x1 : TVal) (h : Heap) : b38_0 O R q x0 x1 h = stepF c38 O R q 0 [x0, x1] h := by kernel_rfl
noncomputable def b38_1 (O : Oracle) (R : Jump) (q : Nat) (x0 x1 x5 x6 x7 x8 x9 x10 : TVal) (h : Heap) : Res1 :=
 vbin .lss 0 x8 x9 h fun x59 h =>
 vif x59 (
 vindex x0 x8 h fun x62 h =>
 vbin .neq 0 x62 x6 h fun x64 h =>
 vif x64 (
 vbin .add 0 x8 (kI 1) h fun x67 h =>
 vop O (.slice 0 true (.k x0) (some (.k x67)) (some (.k x9)) none) h 69 fun x69 h =>
 vcall O (.v (.c (.func 43 []))) [x69, x6] h 71 fun x71 h =>
 vbin .lss 0 x71 (kI 0) h fun x73 h =>
 vif x73 (
 tcomp (kI (-1)) fun c0 => vfin true q [c0] h)
 (vbin .add 0 x71 (kI 1) h fun x76 h =>
 vbin .add 0 x8 x76 h fun x77 h =>
 R 2 [x0, x1, x5, x6, x7, x77, x9, x10] h))
 (R 2 [x0, x1, x5, x6, x7, x8, x9, x10] h))
 (tcomp (kI (-1)) fun c0 => vfin true q [c0] h)
theorem e38_1 (O : Oracle) (R : Jump) (q : Nat) (x0 x1 x5 x6 x7 x8 x9 x10 : TVal) (h : Heap) : b38_1 O R q x0 x1 x5 x6 x7 x8 x9 x10 h = stepF c38 O R q 1 [x0, x1, x5, x6, x7, x8, x9, x10] h := by kernel_rfl
noncomputable def b38_2 (O : Oracle) (R : Jump) (q : Nat) (x0 x1 x5 x6 x7 x8 x9 x10 : TVal) (h : Heap) : Res1 :=
 vbin .add 0 x8 (kI 1) h fun x80 h =>
 vindex x0 x80 h fun x81 h =>
 vbin .eql 0 x81 x7 h fun x83 h =>
 vguard x83 true (fun kk => kk x0 h) h fun x85 h =>
 vguard x83 true (fun kk => kk x8 h) h fun x86 h =>
 vguard x83 true (fun kk => kk x8 h) h fun x87 h =>
 vguard x83 true (fun kk => kk x5 h) h fun x88 h =>
 vguard x83 true (fun kk => vbin .add 0 x87 x88 h kk) h fun x89 h =>
 vguard x83 true (fun kk => vop O (.slice 0 true (.k x85) (some (.k x86)) (some (.k x89)) none) h 90 kk) h fun x90 h =>
 vguard x83 true (fun kk => kk x1 h) h fun x91 h =>
 vguard x83 true (fun kk => vbin .eql 0 x90 x91 h kk) h fun x92 h =>
 vop O (.pick (.k x83) (.k x92) (.k (kB false))) h 93 fun x93 h =>
 vif x93 (
 tcomp x8 fun c0 => vfin true q [c0] h)
 (vbin .add 0 x8 (kI 1) h fun x96 h =>
 vbin .add 0 x10 (kI 1) h fun x98 h =>
 vload false 1 (.v (.c (.p (.pptr [(.sym .i64 63 (.ofNat 0) (.ofNat 1) (.ofNat 0))] 0)))) h fun x100 h =>
 vbin .leq 0 x5 x100 h fun x101 h =>
 vguard x101 true (fun kk => kk x98 h) h fun x103 h =>
 vguard x101 true (fun kk => kk x96 h) h fun x104 h =>
 vguard x101 true (fun kk => vcall O (.v (.c (.func 45 []))) [x104] h 105 kk) h fun x105 h =>
 vguard x101 true (fun kk => vbin .gtr 0 x103 x105 h kk) h fun x106 h =>
 vop O (.pick (.k x101) (.k x106) (.k (kB false))) h 107 fun x107 h =>
 vif x107 (
 vop O (.slice 0 true (.k x0) (some (.k x96)) none none) h 110 fun x110 h =>
 vcall O (.v (.c (.func 44 []))) [x110, x1] h 112 fun x112 h =>
 vbin .geq 0 x112 (kI 0) h fun x114 h =>
 vif x114 (
 vbin .add 0 x112 x96 h fun x117 h =>
 tcomp x117 fun c0 => vfin true q [c0] h)
 (tcomp (kI (-1)) fun c0 => vfin true q [c0] h))
 (vload false 1 (.v (.c (.p (.pptr [(.sym .i64 63 (.ofNat 0) (.ofNat 1) (.ofNat 0))] 0)))) h fun x119 h =>
 vbin .gtr 0 x5 x119 h fun x120 h =>
 vguard x120 true (fun kk => kk x98 h) h fun x122 h =>
 vguard x120 true (fun kk => kk x96 h) h fun x123 h =>
 vguard x120 true (fun kk => vbin .shr 0 x123 (.v (.c (.p (.int .u64 4)))) h kk) h fun x124 h =>
 vguard x120 true (fun kk => vbin .add 0 (kI 4) x124 h kk) h fun x125 h =>
 vguard x120 true (fun kk => vbin .geq 0 x122 x125 h kk) h fun x126 h =>
 vop O (.pick (.k x120) (.k x126) (.k (kB false))) h 127 fun x127 h =>
 vguard x127 true (fun kk => kk x96 h) h fun x129 h =>
 vguard x127 true (fun kk => kk x9 h) h fun x130 h =>
 vguard x127 true (fun kk => vbin .lss 0 x129 x130 h kk) h fun x131 h =>
 vop O (.pick (.k x127) (.k x131) (.k (kB false))) h 132 fun x132 h =>
 vif x132 (
 vop O (.slice 0 true (.k x0) (some (.k x96)) none none) h 135 fun x135 h =>
 vcall O (.v (.c (.func 46 []))) [x135, x1] h 137 fun x137 h =>
 vbin .lss 0 x137 (kI 0) h fun x139 h =>
 vif x139 (
 tcomp (kI (-1)) fun c0 => vfin true q [c0] h)
 (vbin .add 0 x96 x137 h fun x142 h =>
 tcomp x142 fun c0 => vfin true q [c0] h))
 (R 1 [x0, x1, x5, x6, x7, x96, x9, x98] h)))
theorem e38_2 (O : Oracle) (R : Jump) (q : Nat) (x0 x1 x5 x6 x7 x8 x9 x10 : TVal) (h : Heap) : b38_2 O R q x0 x1 x5 x6 x7 x8 x9 x10 h = stepF c38 O R q 2 [x0, x1, x5, x6, x7, x8, x9, x10] h := by kernel_rfl
noncomputable def d38 : BlkF := fun O R q => [.s fun y0 => .s fun y1 => .z fun h => b38_0 O R q y0 y1 h, .s fun y0 => .s fun y1 => .s fun y2 => .s fun y3 => .s fun y4 => .s fun y5 => .s fun y6 => .s fun y7 => .z fun h => b38_1 O R q y0 y1 y2 y3 y4 y5 y6 y7 h, .s fun y0 => .s fun y1 => .s fun y2 => .s fun y3 => .s fun y4 => .s fun y5 => .s fun y6 => .s fun y7 => .z fun h => b38_2 O R q y0 y1 y2 y3 y4 y5 y6 y7 h]
theorem o38 (O : Oracle) (R : Jump) (q : Nat) : HoldsAll c38 O R q 0 (d38 O R q) := ⟨fun y0 y1 h => e38_0 O R q y0 y1 h, fun y0 y1 y2 y3 y4 y5 y6 y7 h => e38_1 O R q y0 y1 y2 y3 y4 y5 y6 y7 h, fun y0 y1 y2 y3 y4 y5 y6 y7 h => e38_2 O R q y0 y1 y2 y3 y4 y5 y6 y7 h, trivial⟩
/- strings.TrimPrefix -/
def c39 : MFunc := { np := 2, res := [.t 4], frz := true, body := (.seq (.reg [(oA 4 (.mv (.k (.v (.c (.p (.str [])))))))] []) (.seq (.reg [(oA 5 (.mv (.t 0))), (oA 6 (.mv (.t 1))), (oA 7 (.call (.k (.v (.c (.func 47 [])))) [(.t 5), (.t 6)])), (oA 4 (.mv (.t 7)))] []) .ret)) }
theorem t39 : compF Tryd.prog (globs2 tabs opq) (fun _ => false) true Tryd.f39 = some c39.erase := by kernel_rfl
noncomputable def b39_0 (O : Oracle) (R : Jump) (q : Nat) (x0 x1 : TVal) (h : Heap) : Res1 :=
 vcall O (.v (.c (.func 47 []))) [x0, x1] h 7 fun x7 h =>
 tcomp x7 fun c0 => vfin true q [c0] h
theorem e39_0 (O : Oracle) (R : Jump) (q : Nat) (x0 x1 : TVal) (h : Heap) : b39_0 O R q x0 x1 h = stepF c39 O R q 0 [x0, x1] h := by kernel_rfl
noncomputable def d39 : BlkF := fun O R q => [.s fun y0 => .s fun y1 => .z fun h => b39_0 O R q y0 y1 h]
theorem o39 (O : Oracle) (R : Jump) (q : Nat) : HoldsAll c39 O R q 0 (d39 O R q) := ⟨fun y0 y1 h => e39_0 O R q y0 y1 h, trivial⟩
/- sprue/scan.meant -/
def c40 : MFunc := { np := 1, res := [.t 2, .t 3], frz := true, body := (.seq (.reg [(oA 2 (.mv (.k (.v (.c (.p (.int .u8 0))))))), (oA 3 (.mv (.k (.v (.c (.p (.bool false)))))))] []) (.seq (.seq (.reg [(oA 4 (.mv (.t 0)))] []) (.block 0 (.seq (.block 4 (.block 3 (.seq (.block 2 (.seq (.block 1 (.seq (.seq (.seq (.reg [(oA 6 (.bin .eql 0 (.t 4) (.k (.v (.c (.p (.int .u8 110))))))), (oA 5 (.mv (.t 6)))] []) (.cond (.t 5) (.exit 1) .skip)) (.seq (.seq (.reg [(oA 8 (.bin .eql 0 (.t 4) (.k (.v (.c (.p (.int .u8 116))))))), (oA 7 (.mv (.t 8)))] []) (.cond (.t 7) (.exit 2) .skip)) (.seq (.seq (.reg [(oA 10 (.bin .eql 0 (.t 4) (.k (.v (.c (.p (.int .u8 34))))))), (oA 9 (.mv (.t 10)))] []) (.cond (.t 9) (.exit 3) .skip)) (.seq (.reg [(oA 12 (.bin .eql 0 (.t 4) (.k (.v (.c (.p (.int .u8 92))))))), (oA 11 (.mv (.t 12)))] []) (.cond (.t 11) (.exit 4) .skip))))) (.exit 0))) (.seq (.seq (.reg [(oA 2 (.mv (.k (.v (.c (.p (.int .u8 10))))))), (oA 3 (.mv (.k (.v (.c (.p (.bool true)))))))] []) .ret) (.exit 0)))) (.seq (.seq (.reg [(oA 2 (.mv (.k (.v (.c (.p (.int .u8 9))))))), (oA 3 (.mv (.k (.v (.c (.p (.bool true)))))))] []) .ret) (.exit 0))))) (.seq (.seq (.reg [(oA 13 (.mv (.t 0))), (oA 2 (.mv (.t 13))), (oA 3 (.mv (.k (.v (.c (.p (.bool true)))))))] []) .ret) (.exit 0))))) (.seq (.reg [(oA 2 (.mv (.k (.v (.c (.p (.int .u8 0))))))), (oA 3 (.mv (.k (.v (.c (.p (.bool false)))))))] []) .ret))) }
theorem t40 : compF Tryd.prog (globs2 tabs opq) (fun _ => false) true Tryd.f40 = some c40.erase := by kernel_rfl
noncomputable def b40_0 (O : Oracle) (R : Jump) (q : Nat) (x0 : TVal) (h : Heap) : Res1 :=
 vbin .eql 0 x0 (.v (.c (.p (.int .u8 110)))) h fun x6 h =>
 vif x6 (
 tcomp (.v (.c (.p (.int .u8 10)))) fun c0 => tcomp (kB true) fun c1 => vfin true q [c0, c1] h)
 (vbin .eql 0 x0 (.v (.c (.p (.int .u8 116)))) h fun x8 h =>
 vif x8 (
 tcomp (.v (.c (.p (.int .u8 9)))) fun c0 => tcomp (kB true) fun c1 => vfin true q [c0, c1] h)
 (vbin .eql 0 x0 (.v (.c (.p (.int .u8 34)))) h fun x10 h =>
 vif x10 (
 tcomp x0 fun c0 => tcomp (kB true) fun c1 => vfin true q [c0, c1] h)
 (vbin .eql 0 x0 (.v (.c (.p (.int .u8 92)))) h fun x12 h =>
 vif x12 (
 tcomp x0 fun c0 => tcomp (kB true) fun c1 => vfin true q [c0, c1] h)
 (tcomp (.v (.c (.p (.int .u8 0)))) fun c0 => tcomp (kB false) fun c1 => vfin true q [c0, c1] h))))
theorem e40_0 (O : Oracle) (R : Jump) (q : Nat) (x0 : TVal) (h : Heap) : b40_0 O R q x0 h = stepF c40 O R q 0 [x0] h := by kernel_rfl
noncomputable def d40 : BlkF := fun O R q => [.s fun y0 => .z fun h => b40_0 O R q y0 h]
theorem o40 (O : Oracle) (R : Jump) (q : Nat) : HoldsAll c40 O R q 0 (d40 O R q) := ⟨fun y0 h => e40_0 O R q y0 h, trivial⟩
/- strings.Fields -/
def c41 : MFunc := { np := 1, res := [.t 2], frz := true, body := (.seq (.reg [(oA 2 (.mv (.k (.v (.c (.p .nilslice))))))] []) (.seq (.reg [(oA 3 (.mv (.k (.v (.c (.p (.int .i64 0)))))))] []) (.seq (.reg [(oA 4 (.mv (.k (.v (.c (.p (.int .i64 1)))))))] []) (.seq (.reg [(oA 5 (.mv (.k (.v (.c (.p (.int .u8 0)))))))] []) (.seq (.seq (.reg [(oA 6 (.mv (.k (.v (.c (.p (.int .i64 0)))))))] []) (.block 0 (.loop 1 [0, 3, 4, 5, 6] (.seq (.seq (.reg [(oA 13 (.mv (.t 6))), (oA 14 (.mv (.t 0))), (oA 15 (.len 0 (.t 14))), (oA 16 (.bin .lss 0 (.t 13) (.t 15)))] []) (.cond (.t 16) .skip (.exit 0))) (.seq (.block 1 (.seq (.reg [(oA 19 (.mv (.t 0))), (oA 20 (.mv (.t 6))), (oA 21 (.index (.t 19) (.t 20))), (oA 7 (.mv (.t 21)))] []) (.seq (.reg [(oA 22 (.mv (.t 5))), (oA 23 (.mv (.t 7))), (oA 24 (.bin .or 0 (.t 22) (.t 23))), (oA 5 (.mv (.t 24)))] []) (.seq (.reg [(oA 25 (.mv (.t 7))), (oA 26 (.iaddrA 256 1 (.k (.v (.c (.p (.pptr [(.int .u8 0), (.int .u8 0), (.int .u8 0), (.int .u8 0), (.int .u8 0), (.int .u8 0), (.int .u8 0), (.int .u8 0), (.int .u8 0), (.int .u8 1), (.int .u8 1), (.int .u8 1), (.int .u8 1), (.int .u8 1), (.int .u8 0), (.int .u8 0), (.int .u8 0), (.int .u8 0), (.int .u8 0), (.int .u8 0), (.int .u8 0), (.int .u8 0), (.int .u8 0), (.int .u8 0), (.int .u8 0), (.int .u8 0), (.int .u8 0), (.int .u8 0), (.int .u8 0), (.int .u8 0), (.int .u8 0), (.int .u8 0), (.int .u8 1), (.int .u8 0), (.int .u8 0), (.int .u8 0), (.int .u8 0), (.int .u8 0), (.int .u8 0), (.int .u8 0), (.int .u8 0), (.int .u8 0), (.int .u8 0), (.int .u8 0), (.int .u8 0), (.int .u8 0), (.int .u8 0), (.int .u8 0), (.int .u8 0), (.int .u8 0), (.int .u8 0), (.int .u8 0), (.int .u8 0), (.int .u8 0), (.int .u8 0), (.int .u8 0), (.int .u8 0), (.int .u8 0), (.int .u8 0), (.int .u8 0), (.int .u8 0), (.int .u8 0), (.int .u8 0), (.int .u8 0), (.int .u8 0), (.int .u8 0), (.int .u8 0), (.int .u8 0), (.int .u8 0), (.int .u8 0), (.int .u8 0), (.int .u8 0), (.int .u8 0), (.int .u8 0), (.int .u8 0), (.int .u8 0), (.int .u8 0), (.int .u8 0), (.int .u8 0), (.int .u8 0), (.int .u8 0), (.int .u8 0), (.int .u8 0), (.int .u8 0), (.int .u8 0), (.int .u8 0), (.int .u8 0), (.int .u8 0), (.int .u8 0), (.int .u8 0), (.int .u8 0), (.int .u8 0), (.int .u8 0), (.int .u8 0), (.int .u8 0), (.int .u8 0), (.int .u8 0), (.int .u8 0), (.int .u8 0), (.int .u8 0), (.int .u8 0), (.int .u8 0), (.int .u8 0), (.int .u8 0), (.int .u8 0), (.int .u8 0), (.int .u8 0), (.int .u8 0), (.int .u8 0), (.int .u8 0), (.int .u8 0), (.int .u8 0), (.int .u8 0), (.int .u8 0), (.int .u8 0), (.int .u8 0), (.int .u8 0), (.int .u8 0), (.int .u8 0), (.int .u8 0), (.int .u8 0), (.int .u8 0), (.int .u8 0), (.int .u8 0), (.int .u8 0), (.int .u8 0), (.int .u8 0), (.int .u8 0), (.int .u8 0), (.int .u8 0), (.int .u8 0), (.int .u8 0), (.int .u8 0), (.int .u8 0), (.int .u8 0), (.int .u8 0), (.int .u8 0), (.int .u8 0), (.int .u8 0), (.int .u8 0), (.int .u8 0), (.int .u8 0), (.int .u8 0), (.int .u8 0), (.int .u8 0), (.int .u8 0), (.int .u8 0), (.int .u8 0), (.int .u8 0), (.int .u8 0), (.int .u8 0), (.int .u8 0), (.int .u8 0), (.int .u8 0), (.int .u8 0), (.int .u8 0), (.int .u8 0), (.int .u8 0), (.int .u8 0), (.int .u8 0), (.int .u8 0), (.int .u8 0), (.int .u8 0), (.int .u8 0), (.int .u8 0), (.int .u8 0), (.int .u8 0), (.int .u8 0), (.int .u8 0), (.int .u8 0), (.int .u8 0), (.int .u8 0), (.int .u8 0), (.int .u8 0), (.int .u8 0), (.int .u8 0), (.int .u8 0), (.int .u8 0), (.int .u8 0), (.int .u8 0), (.int .u8 0), (.int .u8 0), (.int .u8 0), (.int .u8 0), (.int .u8 0), (.int .u8 0), (.int .u8 0), (.int .u8 0), (.int .u8 0), (.int .u8 0), (.int .u8 0), (.int .u8 0), (.int .u8 0), (.int .u8 0), (.int .u8 0), (.int .u8 0), (.int .u8 0), (.int .u8 0), (.int .u8 0), (.int .u8 0), (.int .u8 0), (.int .u8 0), (.int .u8 0), (.int .u8 0), (.int .u8 0), (.int .u8 0), (.int .u8 0), (.int .u8 0), (.int .u8 0), (.int .u8 0), (.int .u8 0), (.int .u8 0), (.int .u8 0), (.int .u8 0), (.int .u8 0), (.int .u8 0), (.int .u8 0), (.int .u8 0), (.int .u8 0), (.int .u8 0), (.int .u8 0), (.int .u8 0), (.int .u8 0), (.int .u8 0), (.int .u8 0), (.int .u8 0), (.int .u8 0), (.int .u8 0), (.int .u8 0), (.int .u8 0), (.int .u8 0), (.int .u8 0), (.int .u8 0), (.int .u8 0), (.int .u8 0), (.int .u8 0), (.int .u8 0), (.int .u8 0), (.int .u8 0), (.int .u8 0), (.int .u8 0), (.int .u8 0), (.int .u8 0), (.int .u8 0), (.int .u8 0), (.int .u8 0), (.int .u8 0), (.int .u8 0), (.int .u8 0), (.int .u8 0), (.int .u8 0), (.int .u8 0), (.int .u8 0), (.int .u8 0), (.int .u8 0), (.int .u8 0)] 0))))) (.t 25))), (oA 27 (.load false 1 (.t 26))), (oA 28 (.toInt .i64 (.t 27))), (oA 8 (.mv (.t 28)))] []) (.seq (.reg [(oA 29 (.mv (.t 3))), (oA 30 (.mv (.t 4))), (oA 31 (.mv (.t 8))), (oA 32 (.un .xor (.t 31))), (oA 33 (.bin .and 0 (.t 30) (.t 32))), (oA 34 (.bin .add 0 (.t 29) (.t 33))), (oA 3 (.mv (.t 34)))] []) (.reg [(oA 35 (.mv (.t 8))), (oA 4 (.mv (.t 35)))] [])))))) (.reg [(oA 17 (.mv (.t 6))), (oA 18 (.bin .add 0 (.t 17) (.k (.v (.c (.p (.int .i64 1))))))), (oA 6 (.mv (.t 18)))] [])))))) (.mark 2 [0, 3, 5] (.seq (.seq (.reg [(oA 36 (.mv (.t 5))), (oA 37 (.bin .geq 0 (.t 36) (.k (.v (.c (.p (.int .u8 128)))))))] []) (.cond (.t 37) (.seq (.reg [(oA 38 (.mv (.t 0))), (oA 39 (.call (.k (.v (.c (.func 48 [])))) [(.t 38), (.k (.v (.c (.func 49 []))))])), (oA 2 (.mv (.t 39)))] []) .ret) .skip)) (.seq (.reg [(oA 40 (.mv (.t 3))), (oA 41 (.mkslice 1 16 [(.p (.str []))] (.t 40) (.t 40))), (oA 9 (.mv (.t 41)))] []) (.seq (.reg [(oA 10 (.mv (.k (.v (.c (.p (.int .i64 0)))))))] []) (.seq (.reg [(oA 11 (.mv (.k (.v (.c (.p (.int .i64 0)))))))] []) (.seq (.reg [(oA 12 (.mv (.k (.v (.c (.p (.int .i64 0)))))))] []) (.seq (.block 2 (.loop 3 [0, 9, 10, 12] (.seq (.seq (.reg [(oA 42 (.mv (.t 12))), (oA 43 (.mv (.t 0))), (oA 44 (.len 0 (.t 43))), (oA 45 (.bin .lss 0 (.t 42) (.t 44))), (oA 46 (.mv (.t 45))), ⟨(some 47), (.mv (.t 0)), (some (46, true))⟩, ⟨(some 48), (.mv (.t 12)), (some (46, true))⟩, ⟨(some 49), (.index (.t 47) (.t 48)), (some (46, true))⟩, ⟨(some 50), (.iaddrA 256 1 (.k (.v (.c (.p (.pptr [(.int .u8 0), (.int .u8 0), (.int .u8 0), (.int .u8 0), (.int .u8 0), (.int .u8 0), (.int .u8 0), (.int .u8 0), (.int .u8 0), (.int .u8 1), (.int .u8 1), (.int .u8 1), (.int .u8 1), (.int .u8 1), (.int .u8 0), (.int .u8 0), (.int .u8 0), (.int .u8 0), (.int .u8 0), (.int .u8 0), (.int .u8 0), (.int .u8 0), (.int .u8 0), (.int .u8 0), (.int .u8 0), (.int .u8 0), (.int .u8 0), (.int .u8 0), (.int .u8 0), (.int .u8 0), (.int .u8 0), (.int .u8 0), (.int .u8 1), (.int .u8 0), (.int .u8 0), (.int .u8 0), (.int .u8 0), (.int .u8 0), (.int .u8 0), (.int .u8 0), (.int .u8 0), (.int .u8 0), (.int .u8 0), (.int .u8 0), (.int .u8 0), (.int .u8 0), (.int .u8 0), (.int .u8 0), (.int .u8 0), (.int .u8 0), (.int .u8 0), (.int .u8 0), (.int .u8 0), (.int .u8 0), (.int .u8 0), (.int .u8 0), (.int .u8 0), (.int .u8 0), (.int .u8 0), (.int .u8 0), (.int .u8 0), (.int .u8 0), (.int .u8 0), (.int .u8 0), (.int .u8 0), (.int .u8 0), (.int .u8 0), (.int .u8 0), (.int .u8 0), (.int .u8 0), (.int .u8 0), (.int .u8 0), (.int .u8 0), (.int .u8 0), (.int .u8 0), (.int .u8 0), (.int .u8 0), (.int .u8 0), (.int .u8 0), (.int .u8 0), (.int .u8 0), (.int .u8 0), (.int .u8 0), (.int .u8 0), (.int .u8 0), (.int .u8 0), (.int .u8 0), (.int .u8 0), (.int .u8 0), (.int .u8 0), (.int .u8 0), (.int .u8 0), (.int .u8 0), (.int .u8 0), (.int .u8 0), (.int .u8 0), (.int .u8 0), (.int .u8 0), (.int .u8 0), (.int .u8 0), (.int .u8 0), (.int .u8 0), (.int .u8 0), (.int .u8 0), (.int .u8 0), (.int .u8 0), (.int .u8 0), (.int .u8 0), (.int .u8 0), (.int .u8 0), (.int .u8 0), (.int .u8 0), (.int .u8 0), (.int .u8 0), (.int .u8 0), (.int .u8 0), (.int .u8 0), (.int .u8 0), (.int .u8 0), (.int .u8 0), (.int .u8 0), (.int .u8 0), (.int .u8 0), (.int .u8 0), (.int .u8 0), (.int .u8 0), (.int .u8 0), (.int .u8 0), (.int .u8 0), (.int .u8 0), (.int .u8 0), (.int .u8 0), (.int .u8 0), (.int .u8 0), (.int .u8 0), (.int .u8 0), (.int .u8 0), (.int .u8 0), (.int .u8 0), (.int .u8 0), (.int .u8 0), (.int .u8 0), (.int .u8 0), (.int .u8 0), (.int .u8 0), (.int .u8 0), (.int .u8 0), (.int .u8 0), (.int .u8 0), (.int .u8 0), (.int .u8 0), (.int .u8 0), (.int .u8 0), (.int .u8 0), (.int .u8 0), (.int .u8 0), (.int .u8 0), (.int .u8 0), (.int .u8 0), (.int .u8 0), (.int .u8 0), (.int .u8 0), (.int .u8 0), (.int .u8 0), (.int .u8 0), (.int .u8 0), (.int .u8 0), (.int .u8 0), (.int .u8 0), (.int .u8 0), (.int .u8 0), (.int .u8 0), (.int .u8 0), (.int .u8 0), (.int .u8 0), (.int .u8 0), (.int .u8 0), (.int .u8 0), (.int .u8 0), (.int .u8 0), (.int .u8 0), (.int .u8 0), (.int .u8 0), (.int .u8 0), (.int .u8 0), (.int .u8 0), (.int .u8 0), (.int .u8 0), (.int .u8 0), (.int .u8 0), (.int .u8 0), (.int .u8 0), (.int .u8 0), (.int .u8 0), (.int .u8 0), (.int .u8 0), (.int .u8 0), (.int .u8 0), (.int .u8 0), (.int .u8 0), (.int .u8 0), (.int .u8 0), (.int .u8 0), (.int .u8 0), (.int .u8 0), (.int .u8 0), (.int .u8 0), (.int .u8 0), (.int .u8 0), (.int .u8 0), (.int .u8 0), (.int .u8 0), (.int .u8 0), (.int .u8 0), (.int .u8 0), (.int .u8 0), (.int .u8 0), (.int .u8 0), (.int .u8 0), (.int .u8 0), (.int .u8 0), (.int .u8 0), (.int .u8 0), (.int .u8 0), (.int .u8 0), (.int .u8 0), (.int .u8 0), (.int .u8 0), (.int .u8 0), (.int .u8 0), (.int .u8 0), (.int .u8 0), (.int .u8 0), (.int .u8 0), (.int .u8 0), (.int .u8 0), (.int .u8 0), (.int .u8 0), (.int .u8 0), (.int .u8 0), (.int .u8 0), (.int .u8 0), (.int .u8 0), (.int .u8 0), (.int .u8 0), (.int .u8 0), (.int .u8 0), (.int .u8 0), (.int .u8 0), (.int .u8 0), (.int .u8 0), (.int .u8 0), (.int .u8 0), (.int .u8 0), (.int .u8 0), (.int .u8 0)] 0))))) (.t 49)), (some (46, true))⟩, ⟨(some 51), (.load false 1 (.t 50)), (some (46, true))⟩, ⟨(some 52), (.bin .neq 0 (.t 51) (.k (.v (.c (.p (.int .u8 0)))))), (some (46, true))⟩, (oA 53 (.pick (.t 46) (.t 52) (.k (.v (.c (.p (.bool false)))))))] []) (.cond (.t 53) .skip (.exit 2))) (.block 3 (.reg [(oA 54 (.mv (.t 12))), (oA 55 (.bin .add 0 (.t 54) (.k (.v (.c (.p (.int .i64 1))))))), (oA 12 (.mv (.t 55)))] []))))) (.mark 4 [0, 9, 10, 12] (.seq (.reg [(oA 56 (.mv (.t 12))), (oA 11 (.mv (.t 56)))] []) (.seq (.block 4 (.loop 5 [0, 9, 10, 11, 12] (.seq (.seq (.reg [(oA 57 (.mv (.t 12))), (oA 58 (.mv (.t 0))), (oA 59 (.len 0 (.t 58))), (oA 60 (.bin .lss 0 (.t 57) (.t 59)))] []) (.cond (.t 60) .skip (.exit 4))) (.block 5 (.seq (.seq (.reg [(oA 61 (.mv (.t 0))), (oA 62 (.mv (.t 12))), (oA 63 (.index (.t 61) (.t 62))), (oA 64 (.iaddrA 256 1 (.k (.v (.c (.p (.pptr [(.int .u8 0), (.int .u8 0), (.int .u8 0), (.int .u8 0), (.int .u8 0), (.int .u8 0), (.int .u8 0), (.int .u8 0), (.int .u8 0), (.int .u8 1), (.int .u8 1), (.int .u8 1), (.int .u8 1), (.int .u8 1), (.int .u8 0), (.int .u8 0), (.int .u8 0), (.int .u8 0), (.int .u8 0), (.int .u8 0), (.int .u8 0), (.int .u8 0), (.int .u8 0), (.int .u8 0), (.int .u8 0), (.int .u8 0), (.int .u8 0), (.int .u8 0), (.int .u8 0), (.int .u8 0), (.int .u8 0), (.int .u8 0), (.int .u8 1), (.int .u8 0), (.int .u8 0), (.int .u8 0), (.int .u8 0), (.int .u8 0), (.int .u8 0), (.int .u8 0), (.int .u8 0), (.int .u8 0), (.int .u8 0), (.int .u8 0), (.int .u8 0), (.int .u8 0), (.int .u8 0), (.int .u8 0), (.int .u8 0), (.int .u8 0), (.int .u8 0), (.int .u8 0), (.int .u8 0), (.int .u8 0), (.int .u8 0), (.int .u8 0), (.int .u8 0), (.int .u8 0), (.int .u8 0), (.int .u8 0), (.int .u8 0), (.int .u8 0), (.int .u8 0), (.int .u8 0), (.int .u8 0), (.int .u8 0), (.int .u8 0), (.int .u8 0), (.int .u8 0), (.int .u8 0), (.int .u8 0), (.int .u8 0), (.int .u8 0), (.int .u8 0), (.int .u8 0), (.int .u8 0), (.int .u8 0), (.int .u8 0), (.int .u8 0), (.int .u8 0), (.int .u8 0), (.int .u8 0), (.int .u8 0), (.int .u8 0), (.int .u8 0), (.int .u8 0), (.int .u8 0), (.int .u8 0), (.int .u8 0), (.int .u8 0), (.int .u8 0), (.int .u8 0), (.int .u8 0), (.int .u8 0), (.int .u8 0), (.int .u8 0), (.int .u8 0), (.int .u8 0), (.int .u8 0), (.int .u8 0), (.int .u8 0), (.int .u8 0), (.int .u8 0), (.int .u8 0), (.int .u8 0), (.int .u8 0), (.int .u8 0), (.int .u8 0), (.int .u8 0), (.int .u8 0), (.int .u8 0), (.int .u8 0), (.int .u8 0), (.int .u8 0), (.int .u8 0), (.int .u8 0), (.int .u8 0), (.int .u8 0), (.int .u8 0), (.int .u8 0), (.int .u8 0), (.int .u8 0), (.int .u8 0), (.int .u8 0), (.int .u8 0), (.int .u8 0), (.int .u8 0), (.int .u8 0), (.int .u8 0), (.int .u8 0), (.int .u8 0), (.int .u8 0), (.int .u8 0), (.int .u8 0), (.int .u8 0), (.int .u8 0), (.int .u8 0), (.int .u8 0), (.int .u8 0), (.int .u8 0), (.int .u8 0), (.int .u8 0), (.int .u8 0), (.int .u8 0), (.int .u8 0), (.int .u8 0), (.int .u8 0), (.int .u8 0), (.int .u8 0), (.int .u8 0), (.int .u8 0), (.int .u8 0), (.int .u8 0), (.int .u8 0), (.int .u8 0), (.int .u8 0), (.int .u8 0), (.int .u8 0), (.int .u8 0), (.int .u8 0), (.int .u8 0), (.int .u8 0), (.int .u8 0), (.int .u8 0), (.int .u8 0), (.int .u8 0), (.int .u8 0), (.int .u8 0), (.int .u8 0), (.int .u8 0), (.int .u8 0), (.int .u8 0), (.int .u8 0), (.int .u8 0), (.int .u8 0), (.int .u8 0), (.int .u8 0), (.int .u8 0), (.int .u8 0), (.int .u8 0), (.int .u8 0), (.int .u8 0), (.int .u8 0), (.int .u8 0), (.int .u8 0), (.int .u8 0), (.int .u8 0), (.int .u8 0), (.int .u8 0), (.int .u8 0), (.int .u8 0), (.int .u8 0), (.int .u8 0), (.int .u8 0), (.int .u8 0), (.int .u8 0), (.int .u8 0), (.int .u8 0), (.int .u8 0), (.int .u8 0), (.int .u8 0), (.int .u8 0), (.int .u8 0), (.int .u8 0), (.int .u8 0), (.int .u8 0), (.int .u8 0), (.int .u8 0), (.int .u8 0), (.int .u8 0), (.int .u8 0), (.int .u8 0), (.int .u8 0), (.int .u8 0), (.int .u8 0), (.int .u8 0), (.int .u8 0), (.int .u8 0), (.int .u8 0), (.int .u8 0), (.int .u8 0), (.int .u8 0), (.int .u8 0), (.int .u8 0), (.int .u8 0), (.int .u8 0), (.int .u8 0), (.int .u8 0), (.int .u8 0), (.int .u8 0), (.int .u8 0), (.int .u8 0), (.int .u8 0), (.int .u8 0), (.int .u8 0), (.int .u8 0), (.int .u8 0), (.int .u8 0), (.int .u8 0), (.int .u8 0), (.int .u8 0), (.int .u8 0), (.int .u8 0), (.int .u8 0), (.int .u8 0), (.int .u8 0), (.int .u8 0), (.int .u8 0), (.int .u8 0), (.int .u8 0), (.int .u8 0), (.int .u8 0), (.int .u8 0), (.int .u8 0), (.int .u8 0), (.int .u8 0)] 0))))) (.t 63))), (oA 65 (.load false 1 (.t 64))), (oA 66 (.bin .eql 0 (.t 65) (.k (.v (.c (.p (.int .u8 0)))))))] []) (.cond (.t 66) (.seq (.reg [(oA 67 (.mv (.t 12))), (oA 68 (.bin .add 0 (.t 67) (.k (.v (.c (.p (.int .i64 1))))))), (oA 12 (.mv (.t 68)))] []) (.exit 5)) .skip)) (.seq (.reg [(oA 69 (.mv (.t 9))), (oA 70 (.mv (.t 10))), (oA 71 (.mv (.t 0))), (oA 72 (.mv (.t 11))), (oA 73 (.mv (.t 12))), (oA 74 (.slice 0 true (.t 71) (some (.t 72)) (some (.t 73)) none)), (oA 75 (.iaddr 1 (.t 69) (.t 70))), (oN (.store 1 (.t 75) (.t 74)))] []) (.seq (.reg [(oA 76 (.mv (.t 10))), (oA 77 (.bin .add 0 (.t 76) (.k (.v (.c (.p (.int .i64 1))))))), (oA 10 (.mv (.t 77)))] []) (.seq (.reg [(oA 78 (.mv (.t 12))), (oA 79 (.bin .add 0 (.t 78) (.k (.v (.c (.p (.int .i64 1))))))), (oA 12 (.mv (.t 79)))] []) (.seq (.block 6 (.loop 6 [0, 9, 10, 12] (.seq (.seq (.reg [(oA 80 (.mv (.t 12))), (oA 81 (.mv (.t 0))), (oA 82 (.len 0 (.t 81))), (oA 83 (.bin .lss 0 (.t 80) (.t 82))), (oA 84 (.mv (.t 83))), ⟨(some 85), (.mv (.t 0)), (some (84, true))⟩, ⟨(some 86), (.mv (.t 12)), (some (84, true))⟩, ⟨(some 87), (.index (.t 85) (.t 86)), (some (84, true))⟩, ⟨(some 88), (.iaddrA 256 1 (.k (.v (.c (.p (.pptr [(.int .u8 0), (.int .u8 0), (.int .u8 0), (.int .u8 0), (.int .u8 0), (.int .u8 0), (.int .u8 0), (.int .u8 0), (.int .u8 0), (.int .u8 1), (.int .u8 1), (.int .u8 1), (.int .u8 1), (.int .u8 1), (.int .u8 0), (.int .u8 0), (.int .u8 0), (.int .u8 0), (.int .u8 0), (.int .u8 0), (.int .u8 0), (.int .u8 0), (.int .u8 0), (.int .u8 0), (.int .u8 0), (.int .u8 0), (.int .u8 0), (.int .u8 0), (.int .u8 0), (.int .u8 0), (.int .u8 0), (.int .u8 0), (.int .u8 1), (.int .u8 0), (.int .u8 0), (.int .u8 0), (.int .u8 0), (.int .u8 0), (.int .u8 0), (.int .u8 0), (.int .u8 0), (.int .u8 0), (.int .u8 0), (.int .u8 0), (.int .u8 0), (.int .u8 0), (.int .u8 0), (.int .u8 0), (.int .u8 0), (.int .u8 0), (.int .u8 0), (.int .u8 0), (.int .u8 0), (.int .u8 0), (.int .u8 0), (.int .u8 0), (.int .u8 0), (.int .u8 0), (.int .u8 0), (.int .u8 0), (.int .u8 0), (.int .u8 0), (.int .u8 0), (.int .u8 0), (.int .u8 0), (.int .u8 0), (.int .u8 0), (.int .u8 0), (.int .u8 0), (.int .u8 0), (.int .u8 0), (.int .u8 0), (.int .u8 0), (.int .u8 0), (.int .u8 0), (.int .u8 0), (.int .u8 0), (.int .u8 0), (.int .u8 0), (.int .u8 0), (.int .u8 0), (.int .u8 0), (.int .u8 0), (.int .u8 0), (.int .u8 0), (.int .u8 0), (.int .u8 0), (.int .u8 0), (.int .u8 0), (.int .u8 0), (.int .u8 0), (.int .u8 0), (.int .u8 0), (.int .u8 0), (.int .u8 0), (.int .u8 0), (.int .u8 0), (.int .u8 0), (.int .u8 0), (.int .u8 0), (.int .u8 0), (.int .u8 0), (.int .u8 0), (.int .u8 0), (.int .u8 0), (.int .u8 0), (.int .u8 0), (.int .u8 0), (.int .u8 0), (.int .u8 0), (.int .u8 0), (.int .u8 0), (.int .u8 0), (.int .u8 0), (.int .u8 0), (.int .u8 0), (.int .u8 0), (.int .u8 0), (.int .u8 0), (.int .u8 0), (.int .u8 0), (.int .u8 0), (.int .u8 0), (.int .u8 0), (.int .u8 0), (.int .u8 0), (.int .u8 0), (.int .u8 0), (.int .u8 0), (.int .u8 0), (.int .u8 0), (.int .u8 0), (.int .u8 0), (.int .u8 0), (.int .u8 0), (.int .u8 0), (.int .u8 0), (.int .u8 0), (.int .u8 0), (.int .u8 0), (.int .u8 0), (.int .u8 0), (.int .u8 0), (.int .u8 0), (.int .u8 0), (.int .u8 0), (.int .u8 0), (.int .u8 0), (.int .u8 0), (.int .u8 0), (.int .u8 0), (.int .u8 0), (.int .u8 0), (.int .u8 0), (.int .u8 0), (.int .u8 0), (.int .u8 0), (.int .u8 0), (.int .u8 0), (.int .u8 0), (.int .u8 0), (.int .u8 0), (.int .u8 0), (.int .u8 0), (.int .u8 0), (.int .u8 0), (.int .u8 0), (.int .u8 0), (.int .u8 0), (.int .u8 0), (.int .u8 0), (.int .u8 0), (.int .u8 0), (.int .u8 0), (.int .u8 0), (.int .u8 0), (.int .u8 0), (.int .u8 0), (.int .u8 0), (.int .u8 0), (.int .u8 0), (.int .u8 0), (.int .u8 0), (.int .u8 0), (.int .u8 0), (.int .u8 0), (.int .u8 0), (.int .u8 0), (.int .u8 0), (.int .u8 0), (.int .u8 0), (.int .u8 0), (.int .u8 0), (.int .u8 0), (.int .u8 0), (.int .u8 0), (.int .u8 0), (.int .u8 0), (.int .u8 0), (.int .u8 0), (.int .u8 0), (.int .u8 0), (.int .u8 0), (.int .u8 0), (.int .u8 0), (.int .u8 0), (.int .u8 0), (.int .u8 0), (.int .u8 0), (.int .u8 0), (.int .u8 0), (.int .u8 0), (.int .u8 0), (.int .u8 0), (.int .u8 0), (.int .u8 0), (.int .u8 0), (.int .u8 0), (.int .u8 0), (.int .u8 0), (.int .u8 0), (.int .u8 0), (.int .u8 0), (.int .u8 0), (.int .u8 0), (.int .u8 0), (.int .u8 0), (.int .u8 0), (.int .u8 0), (.int .u8 0), (.int .u8 0), (.int .u8 0), (.int .u8 0), (.int .u8 0), (.int .u8 0), (.int .u8 0), (.int .u8 0), (.int .u8 0), (.int .u8 0), (.int .u8 0), (.int .u8 0), (.int .u8 0), (.int .u8 0), (.int .u8 0), (.int .u8 0), (.int .u8 0), (.int .u8 0), (.int .u8 0), (.int .u8 0), (.int .u8 0), (.int .u8 0), (.int .u8 0), (.int .u8 0), (.int .u8 0), (.int .u8 0), (.int .u8 0)] 0))))) (.t 87)), (some (84, true))⟩, ⟨(some 89), (.load false 1 (.t 88)), (some (84, true))⟩, ⟨(some 90), (.bin .neq 0 (.t 89) (.k (.v (.c (.p (.int .u8 0)))))), (some (84, true))⟩, (oA 91 (.pick (.t 84) (.t 90) (.k (.v (.c (.p (.bool false)))))))] []) (.cond (.t 91) .skip (.exit 6))) (.block 7 (.reg [(oA 92 (.mv (.t 12))), (oA 93 (.bin .add 0 (.t 92) (.k (.v (.c (.p (.int .i64 1))))))), (oA 12 (.mv (.t 93)))] []))))) (.reg [(oA 94 (.mv (.t 12))), (oA 11 (.mv (.t 94)))] [])))))))))) (.mark 7 [0, 9, 10, 11] (.seq (.seq (.reg [(oA 95 (.mv (.t 11))), (oA 96 (.mv (.t 0))), (oA 97 (.len 0 (.t 96))), (oA 98 (.bin .lss 0 (.t 95) (.t 97)))] []) (.cond (.t 98) (.reg [(oA 99 (.mv (.t 9))), (oA 100 (.mv (.t 10))), (oA 101 (.mv (.t 0))), (oA 102 (.mv (.t 11))), (oA 103 (.slice 0 true (.t 101) (some (.t 102)) none none)), (oA 104 (.iaddr 1 (.t 99) (.t 100))), (oN (.store 1 (.t 104) (.t 103)))] []) .skip)) (.seq (.reg [(oA 105 (.mv (.t 9))), (oA 2 (.mv (.t 105)))] []) .ret)))))))))))))))))) }
theorem t41 : compF Tryd.prog (globs2 tabs opq) (fun _ => false) true Tryd.f41 = some c41.erase := by kernel_rfl
noncomputable def b41_0 (O : Oracle) (R : Jump) (q : Nat) (x0 : TVal) (h : Heap) : Res1 :=
 R 1 [x0, (kI 0), (kI 1), (.v (.c (.p (.int .u8 0)))), (kI 0)] h
theorem e41_0 (O : Oracle) (R : Jump) (q : Nat) (x0 : TVal) (h : Heap) : b41_0 O R q x0 h = stepF c41 O R q 0 [x0] h := by kernel_rfl
noncomputable def b41_1 (O : Oracle) (R : Jump) (q : Nat) (x0 x3 x4 x5 x6 : TVal) (h : Heap) : Res1 :=
 vlen O 0 x0 h 15 fun x15 h =>
 vbin .lss 0 x6 x15 h fun x16 h =>
 vif x16 (
 vindex x0 x6 h fun x21 h =>
 vbin .or 0 x5 x21 h fun x24 h =>
 vop O (.iaddrA 256 1 (.k (.v (.c (.p (.pptr [(.int .u8 0), (.int .u8 0), (.int .u8 0), (.int .u8 0), (.int .u8 0), (.int .u8 0), (.int .u8 0), (.int .u8 0), (.int .u8 0), (.int .u8 1), (.int .u8 1), (.int .u8 1), (.int .u8 1), (.int .u8 1), (.int .u8 0), (.int .u8 0), (.int .u8 0), (.int .u8 0), (.int .u8 0), (.int .u8 0), (.int .u8 0), (.int .u8 0), (.int .u8 0), (.int .u8 0), (.int .u8 0), (.int .u8 0), (.int .u8 0), (.int .u8 0), (.int .u8 0), (.int .u8 0), (.int .u8 0), (.int .u8 0), (.int .u8 1), (.int .u8 0), (.int .u8 0), (.int .u8 0), (.int .u8 0), (.int .u8 0), (.int .u8 0), (.int .u8 0), (.int .u8 0), (.int .u8 0), (.int .u8 0), (.int .u8 0), (.int .u8 0), (.int .u8 0), (.int .u8 0), (.int .u8 0), (.int .u8 0), (.int .u8 0), (.int .u8 0), (.int .u8 0), (.int .u8 0), (.int .u8 0), (.int .u8 0), (.int .u8 0), (.int .u8 0), (.int .u8 0), (.int .u8 0), (.int .u8 0), (.int .u8 0), (.int .u8 0), (.int .u8 0), (.int .u8 0), (.int .u8 0), (.int .u8 0), (.int .u8 0), (.int .u8 0), (.int .u8 0), (.int .u8 0), (.int .u8 0), (.int .u8 0), (.int .u8 0), (.int .u8 0), (.int .u8 0), (.int .u8 0), (.int .u8 0), (.int .u8 0), (.int .u8 0), (.int .u8 0), (.int .u8 0), (.int .u8 0), (.int .u8 0), (.int .u8 0), (.int .u8 0), (.int .u8 0), (.int .u8 0), (.int .u8 0), (.int .u8 0), (.int .u8 0), (.int .u8 0), (.int .u8 0), (.int .u8 0), (.int .u8 0), (.int .u8 0), (.int .u8 0), (.int .u8 0), (.int .u8 0), (.int .u8 0), (.int .u8 0), (.int .u8 0), (.int .u8 0), (.int .u8 0), (.int .u8 0), (.int .u8 0), (.int .u8 0), (.int .u8 0), (.int .u8 0), (.int .u8 0), (.int .u8 0), (.int .u8 0), (.int .u8 0), (.int .u8 0), (.int .u8 0), (.int .u8 0), (.int .u8 0), (.int .u8 0), (.int .u8 0), (.int .u8 0), (.int .u8 0), (.int .u8 0), (.int .u8 0), (.int .u8 0), (.int .u8 0), (.int .u8 0), (.int .u8 0), (.int .u8 0), (.int .u8 0), (.int .u8 0), (.int .u8 0), (.int .u8 0), (.int .u8 0), (.int .u8 0), (.int .u8 0), (.int .u8 0), (.int .u8 0), (.int .u8 0), (.int .u8 0), (.int .u8 0), (.int .u8 0), (.int .u8 0), (.int .u8 0), (.int .u8 0), (.int .u8 0), (.int .u8 0), (.int .u8 0), (.int .u8 0), (.int .u8 0), (.int .u8 0), (.int .u8 0), (.int .u8 0), (.int .u8 0), (.int .u8 0), (.int .u8 0), (.int .u8 0), (.int .u8 0), (.int .u8 0), (.int .u8 0), (.int .u8 0), (.int .u8 0), (.int .u8 0), (.int .u8 0), (.int .u8 0), (.int .u8 0), (.int .u8 0), (.int .u8 0), (.int .u8 0), (.int .u8 0), (.int .u8 0), (.int .u8 0), (.int .u8 0), (.int .u8 0), (.int .u8 0), (.int .u8 0), (.int .u8 0), (.int .u8 0), (.int .u8 0), (.int .u8 0), (.int .u8 0), (.int .u8 0), (.int .u8 0), (.int .u8 0), (.int .u8 0), (.int .u8 0), (.int .u8 0), (.int .u8 0), (.int .u8 0), (.int .u8 0), (.int .u8 0), (.int .u8 0), (.int .u8 0), (.int .u8 0), (.int .u8 0), (.int .u8 0), (.int .u8 0), (.int .u8 0), (.int .u8 0), (.int .u8 0), (.int .u8 0), (.int .u8 0), (.int .u8 0), (.int .u8 0), (.int .u8 0), (.int .u8 0), (.int .u8 0), (.int .u8 0), (.int .u8 0), (.int .u8 0), (.int .u8 0), (.int .u8 0), (.int .u8 0), (.int .u8 0), (.int .u8 0), (.int .u8 0), (.int .u8 0), (.int .u8 0), (.int .u8 0), (.int .u8 0), (.int .u8 0), (.int .u8 0), (.int .u8 0), (.int .u8 0), (.int .u8 0), (.int .u8 0), (.int .u8 0), (.int .u8 0), (.int .u8 0), (.int .u8 0), (.int .u8 0), (.int .u8 0), (.int .u8 0), (.int .u8 0), (.int .u8 0), (.int .u8 0), (.int .u8 0), (.int .u8 0), (.int .u8 0), (.int .u8 0), (.int .u8 0), (.int .u8 0), (.int .u8 0), (.int .u8 0), (.int .u8 0), (.int .u8 0), (.int .u8 0), (.int .u8 0), (.int .u8 0), (.int .u8 0), (.int .u8 0), (.int .u8 0), (.int .u8 0), (.int .u8 0), (.int .u8 0), (.int .u8 0), (.int .u8 0), (.int .u8 0)] 0))))) (.k x21)) h 26 fun x26 h =>
 vload false 1 x26 h fun x27 h =>
 vtoInt .i64 x27 h fun x28 h =>
 vop O (.un .xor (.k x28)) h 32 fun x32 h =>
 vbin .and 0 x4 x32 h fun x33 h =>
 vbin .add 0 x3 x33 h fun x34 h =>
 vbin .add 0 x6 (kI 1) h fun x18 h =>
 R 1 [x0, x34, x28, x24, x18] h)
 (R 2 [x0, x3, x5] h)
theorem e41_1 (O : Oracle) (R : Jump) (q : Nat) (x0 x3 x4 x5 x6 : TVal) (h : Heap) : b41_1 O R q x0 x3 x4 x5 x6 h = stepF c41 O R q 1 [x0, x3, x4, x5, x6] h := by kernel_rfl
noncomputable def b41_2 (O : Oracle) (R : Jump) (q : Nat) (x0 x3 x5 : TVal) (h : Heap) : Res1 :=
 vbin .geq 0 x5 (.v (.c (.p (.int .u8 128)))) h fun x37 h =>
 vif x37 (
 vcall O (.v (.c (.func 48 []))) [x0, (.v (.c (.func 49 [])))] h 39 fun x39 h =>
 tcomp x39 fun c0 => vfin true q [c0] h)
 (vop O (.mkslice 1 16 [(.p (.str []))] (.k x3) (.k x3)) h 41 fun x41 h =>
 R 3 [x0, x41, (kI 0), (kI 0)] h)
theorem e41_2 (O : Oracle) (R : Jump) (q : Nat) (x0 x3 x5 : TVal) (h : Heap) : b41_2 O R q x0 x3 x5 h = stepF c41 O R q 2 [x0, x3, x5] h := by kernel_rfl
noncomputable def b41_3 (O : Oracle) (R : Jump) (q : Nat) (x0 x9 x10 x12 : TVal) (h : Heap) : Res1 :=
 vlen O 0 x0 h 44 fun x44 h =>
 vbin .lss 0 x12 x44 h fun x45 h =>
 vguard x45 true (fun kk => kk x0 h) h fun x47 h =>
 vguard x45 true (fun kk => kk x12 h) h fun x48 h =>
 vguard x45 true (fun kk => vindex x47 x48 h kk) h fun x49 h =>
 vguard x45 true (fun kk => vop O (.iaddrA 256 1 (.k (.v (.c (.p (.pptr [(.int .u8 0), (.int .u8 0), (.int .u8 0), (.int .u8 0), (.int .u8 0), (.int .u8 0), (.int .u8 0), (.int .u8 0), (.int .u8 0), (.int .u8 1), (.int .u8 1), (.int .u8 1), (.int .u8 1), (.int .u8 1), (.int .u8 0), (.int .u8 0), (.int .u8 0), (.int .u8 0), (.int .u8 0), (.int .u8 0), (.int .u8 0), (.int .u8 0), (.int .u8 0), (.int .u8 0), (.int .u8 0), (.int .u8 0), (.int .u8 0), (.int .u8 0), (.int .u8 0), (.int .u8 0), (.int .u8 0), (.int .u8 0), (.int .u8 1), (.int .u8 0), (.int .u8 0), (.int .u8 0), (.int .u8 0), (.int .u8 0), (.int .u8 0), (.int .u8 0), (.int .u8 0), (.int .u8 0), (.int .u8 0), (.int .u8 0), (.int .u8 0), (.int .u8 0), (.int .u8 0), (.int .u8 0), (.int .u8 0), (.int .u8 0), (.int .u8 0), (.int .u8 0), (.int .u8 0), (.int .u8 0), (.int .u8 0), (.int .u8 0), (.int .u8 0), (.int .u8 0), (.int .u8 0), (.int .u8 0), (.int .u8 0), (.int .u8 0), (.int .u8 0), (.int .u8 0), (.int .u8 0), (.int .u8 0), (.int .u8 0), (.int .u8 0), (.int .u8 0), (.int .u8 0), (.int .u8 0), (.int .u8 0), (.int .u8 0), (.int .u8 0), (.int .u8 0), (.int .u8 0), (.int .u8 0), (.int .u8 0), (.int .u8 0), (.int .u8 0), (.int .u8 0), (.int .u8 0), (.int .u8 0), (.int .u8 0), (.int .u8 0), (.int .u8 0), (.int .u8 0), (.int .u8 0), (.int .u8 0), (.int .u8 0), (.int .u8 0), (.int .u8 0), (.int .u8 0), (.int .u8 0), (.int .u8 0), (.int .u8 0), (.int .u8 0), (.int .u8 0), (.int .u8 0), (.int .u8 0), (.int .u8 0), (.int .u8 0), (.int .u8 0), (.int .u8 0), (.int .u8 0), (.int .u8 0), (.int .u8 0), (.int .u8 0), (.int .u8 0), (.int .u8 0), (.int .u8 0), (.int .u8 0), (.int .u8 0), (.int .u8 0), (.int .u8 0), (.int .u8 0), (.int .u8 0), (.int .u8 0), (.int .u8 0), (.int .u8 0), (.int .u8 0), (.int .u8 0), (.int .u8 0), (.int .u8 0), (.int .u8 0), (.int .u8 0), (.int .u8 0), (.int .u8 0), (.int .u8 0), (.int .u8 0), (.int .u8 0), (.int .u8 0), (.int .u8 0), (.int .u8 0), (.int .u8 0), (.int .u8 0), (.int .u8 0), (.int .u8 0), (.int .u8 0), (.int .u8 0), (.int .u8 0), (.int .u8 0), (.int .u8 0), (.int .u8 0), (.int .u8 0), (.int .u8 0), (.int .u8 0), (.int .u8 0), (.int .u8 0), (.int .u8 0), (.int .u8 0), (.int .u8 0), (.int .u8 0), (.int .u8 0), (.int .u8 0), (.int .u8 0), (.int .u8 0), (.int .u8 0), (.int .u8 0), (.int .u8 0), (.int .u8 0), (.int .u8 0), (.int .u8 0), (.int .u8 0), (.int .u8 0), (.int .u8 0), (.int .u8 0), (.int .u8 0), (.int .u8 0), (.int .u8 0), (.int .u8 0), (.int .u8 0), (.int .u8 0), (.int .u8 0), (.int .u8 0), (.int .u8 0), (.int .u8 0), (.int .u8 0), (.int .u8 0), (.int .u8 0), (.int .u8 0), (.int .u8 0), (.int .u8 0), (.int .u8 0), (.int .u8 0), (.int .u8 0), (.int .u8 0), (.int .u8 0), (.int .u8 0), (.int .u8 0), (.int .u8 0), (.int .u8 0), (.int .u8 0), (.int .u8 0), (.int .u8 0), (.int .u8 0), (.int .u8 0), (.int .u8 0), (.int .u8 0), (.int .u8 0), (.int .u8 0), (.int .u8 0), (.int .u8 0), (.int .u8 0), (.int .u8 0), (.int .u8 0), (.int .u8 0), (.int .u8 0), (.int .u8 0), (.int .u8 0), (.int .u8 0), (.int .u8 0), (.int .u8 0), (.int .u8 0), (.int .u8 0), (.int .u8 0), (.int .u8 0), (.int .u8 0), (.int .u8 0), (.int .u8 0), (.int .u8 0), (.int .u8 0), (.int .u8 0), (.int .u8 0), (.int .u8 0), (.int .u8 0), (.int .u8 0), (.int .u8 0), (.int .u8 0), (.int .u8 0), (.int .u8 0), (.int .u8 0), (.int .u8 0), (.int .u8 0), (.int .u8 0), (.int .u8 0), (.int .u8 0), (.int .u8 0), (.int .u8 0), (.int .u8 0), (.int .u8 0), (.int .u8 0), (.int .u8 0), (.int .u8 0), (.int .u8 0), (.int .u8 0), (.int .u8 0), (.int .u8 0), (.int .u8 0), (.int .u8 0), (.int .u8 0), (.int .u8 0), (.int .u8 0), (.int .u8 0), (.int .u8 0), (.int .u8 0)] 0))))) (.k x49)) h 50 kk) h fun x50 h =>
 vguard x45 true (fun kk => vload false 1 x50 h kk) h fun x51 h =>
 vguard x45 true (fun kk => vbin .neq 0 x51 (.v (.c (.p (.int .u8 0)))) h kk) h fun x52 h =>
 vop O (.pick (.k x45) (.k x52) (.k (kB false))) h 53 fun x53 h =>
 vif x53 (
 vbin .add 0 x12 (kI 1) h fun x55 h =>
 R 3 [x0, x9, x10, x55] h)
 (R 4 [x0, x9, x10, x12] h)
theorem e41_3 (O : Oracle) (R : Jump) (q : Nat) (x0 x9 x10 x12 : TVal) (h : Heap) : b41_3 O R q x0 x9 x10 x12 h = stepF c41 O R q 3 [x0, x9, x10, x12] h := by kernel_rfl
noncomputable def b41_4 (O : Oracle) (R : Jump) (q : Nat) (x0 x9 x10 x12 : TVal) (h : Heap) : Res1 :=
 R 5 [x0, x9, x10, x12, x12] h
theorem e41_4 (O : Oracle) (R : Jump) (q : Nat) (x0 x9 x10 x12 : TVal) (h : Heap) : b41_4 O R q x0 x9 x10 x12 h = stepF c41 O R q 4 [x0, x9, x10, x12] h := by kernel_rfl
noncomputable def b41_5 (O : Oracle) (R : Jump) (q : Nat) (x0 x9 x10 x11 x12 : TVal) (h : Heap) : Res1 :=
 vlen O 0 x0 h 59 fun x59 h =>
 vbin .lss 0 x12 x59 h fun x60 h =>
 vif x60 (
 vindex x0 x12 h fun x63 h =>
 vop O (.iaddrA 256 1 (.k (.v (.c (.p (.pptr [(.int .u8 0), (.int .u8 0), (.int .u8 0), (.int .u8 0), (.int .u8 0), (.int .u8 0), (.int .u8 0), (.int .u8 0), (.int .u8 0), (.int .u8 1), (.int .u8 1), (.int .u8 1), (.int .u8 1), (.int .u8 1), (.int .u8 0), (.int .u8 0), (.int .u8 0), (.int .u8 0), (.int .u8 0), (.int .u8 0), (.int .u8 0), (.int .u8 0), (.int .u8 0), (.int .u8 0), (.int .u8 0), (.int .u8 0), (.int .u8 0), (.int .u8 0), (.int .u8 0), (.int .u8 0), (.int .u8 0), (.int .u8 0), (.int .u8 1), (.int .u8 0), (.int .u8 0), (.int .u8 0), (.int .u8 0), (.int .u8 0), (.int .u8 0), (.int .u8 0), (.int .u8 0), (.int .u8 0), (.int .u8 0), (.int .u8 0), (.int .u8 0), (.int .u8 0), (.int .u8 0), (.int .u8 0), (.int .u8 0), (.int .u8 0), (.int .u8 0), (.int .u8 0), (.int .u8 0), (.int .u8 0), (.int .u8 0), (.int .u8 0), (.int .u8 0), (.int .u8 0), (.int .u8 0), (.int .u8 0), (.int .u8 0), (.int .u8 0), (.int .u8 0), (.int .u8 0), (.int .u8 0), (.int .u8 0), (.int .u8 0), (.int .u8 0), (.int .u8 0), (.int .u8 0), (.int .u8 0), (.int .u8 0), (.int .u8 0), (.int .u8 0), (.int .u8 0), (.int .u8 0), (.int .u8 0), (.int .u8 0), (.int .u8 0), (.int .u8 0), (.int .u8 0), (.int .u8 0), (.int .u8 0), (.int .u8 0), (.int .u8 0), (.int .u8 0), (.int .u8 0), (.int .u8 0), (.int .u8 0), (.int .u8 0), (.int .u8 0), (.int .u8 0), (.int .u8 0), (.int .u8 0), (.int .u8 0), (.int .u8 0), (.int .u8 0), (.int .u8 0), (.int .u8 0), (.int .u8 0), (.int .u8 0), (.int .u8 0), (.int .u8 0), (.int .u8 0), (.int .u8 0), (.int .u8 0), (.int .u8 0), (.int .u8 0), (.int .u8 0), (.int .u8 0), (.int .u8 0), (.int .u8 0), (.int .u8 0), (.int .u8 0), (.int .u8 0), (.int .u8 0), (.int .u8 0), (.int .u8 0), (.int .u8 0), (.int .u8 0), (.int .u8 0), (.int .u8 0), (.int .u8 0), (.int .u8 0), (.int .u8 0), (.int .u8 0), (.int .u8 0), (.int .u8 0), (.int .u8 0), (.int .u8 0), (.int .u8 0), (.int .u8 0), (.int .u8 0), (.int .u8 0), (.int .u8 0), (.int .u8 0), (.int .u8 0), (.int .u8 0), (.int .u8 0), (.int .u8 0), (.int .u8 0), (.int .u8 0), (.int .u8 0), (.int .u8 0), (.int .u8 0), (.int .u8 0), (.int .u8 0), (.int .u8 0), (.int .u8 0), (.int .u8 0), (.int .u8 0), (.int .u8 0), (.int .u8 0), (.int .u8 0), (.int .u8 0), (.int .u8 0), (.int .u8 0), (.int .u8 0), (.int .u8 0), (.int .u8 0), (.int .u8 0), (.int .u8 0), (.int .u8 0), (.int .u8 0), (.int .u8 0), (.int .u8 0), (.int .u8 0), (.int .u8 0), (.int .u8 0), (.int .u8 0), (.int .u8 0), (.int .u8 0), (.int .u8 0), (.int .u8 0), (.int .u8 0), (.int .u8 0), (.int .u8 0), (.int .u8 0), (.int .u8 0), (.int .u8 0), (.int .u8 0), (.int .u8 0), (.int .u8 0), (.int .u8 0), (.int .u8 0), (.int .u8 0), (.int .u8 0), (.int .u8 0), (.int .u8 0), (.int .u8 0), (.int .u8 0), (.int .u8 0), (.int .u8 0), (.int .u8 0), (.int .u8 0), (.int .u8 0), (.int .u8 0), (.int .u8 0), (.int .u8 0), (.int .u8 0), (.int .u8 0), (.int .u8 0), (.int .u8 0), (.int .u8 0), (.int .u8 0), (.int .u8 0), (.int .u8 0), (.int .u8 0), (.int .u8 0), (.int .u8 0), (.int .u8 0), (.int .u8 0), (.int .u8 0), (.int .u8 0), (.int .u8 0), (.int .u8 0), (.int .u8 0), (.int .u8 0), (.int .u8 0), (.int .u8 0), (.int .u8 0), (.int .u8 0), (.int .u8 0), (.int .u8 0), (.int .u8 0), (.int .u8 0), (.int .u8 0), (.int .u8 0), (.int .u8 0), (.int .u8 0), (.int .u8 0), (.int .u8 0), (.int .u8 0), (.int .u8 0), (.int .u8 0), (.int .u8 0), (.int .u8 0), (.int .u8 0), (.int .u8 0), (.int .u8 0), (.int .u8 0), (.int .u8 0), (.int .u8 0), (.int .u8 0), (.int .u8 0), (.int .u8 0), (.int .u8 0), (.int .u8 0), (.int .u8 0), (.int .u8 0), (.int .u8 0), (.int .u8 0), (.int .u8 0), (.int .u8 0), (.int .u8 0), (.int .u8 0)] 0))))) (.k x63)) h 64 fun x64 h =>
 vload false 1 x64 h fun x65 h =>
 vbin .eql 0 x65 (.v (.c (.p (.int .u8 0)))) h fun x66 h =>
 vif x66 (
 vbin .add 0 x12 (kI 1) h fun x68 h =>
 R 5 [x0, x9, x10, x11, x68] h)
 (vop O (.slice 0 true (.k x0) (some (.k x11)) (some (.k x12)) none) h 74 fun x74 h =>
 viaddr 1 x9 x10 h fun x75 h =>
 vstore 1 x75 x74 h fun _ h =>
 vbin .add 0 x10 (kI 1) h fun x77 h =>
 vbin .add 0 x12 (kI 1) h fun x79 h =>
 R 6 [x0, x9, x77, x79] h))
 (R 7 [x0, x9, x10, x11] h)
theorem e41_5 (O : Oracle) (R : Jump) (q : Nat) (x0 x9 x10 x11 x12 : TVal) (h : Heap) : b41_5 O R q x0 x9 x10 x11 x12 h = stepF c41 O R q 5 [x0, x9, x10, x11, x12] h := by kernel_rfl
noncomputable def b41_6 (O : Oracle) (R : Jump) (q : Nat) (x0 x9 x10 x12 : TVal) (h : Heap) : Res1 :=
 vlen O 0 x0 h 82 fun x82 h =>
 vbin .lss 0 x12 x82 h fun x83 h =>
 vguard x83 true (fun kk => kk x0 h) h fun x85 h =>
 vguard x83 true (fun kk => kk x12 h) h fun x86 h =>
 vguard x83 true (fun kk => vindex x85 x86 h kk) h fun x87 h =>
 vguard x83 true (fun kk => vop O (.iaddrA 256 1 (.k (.v (.c (.p (.pptr [(.int .u8 0), (.int .u8 0), (.int .u8 0), (.int .u8 0), (.int .u8 0), (.int .u8 0), (.int .u8 0), (.int .u8 0), (.int .u8 0), (.int .u8 1), (.int .u8 1), (.int .u8 1), (.int .u8 1), (.int .u8 1), (.int .u8 0), (.int .u8 0), (.int .u8 0), (.int .u8 0), (.int .u8 0), (.int .u8 0), (.int .u8 0), (.int .u8 0), (.int .u8 0), (.int .u8 0), (.int .u8 0), (.int .u8 0), (.int .u8 0), (.int .u8 0), (.int .u8 0), (.int .u8 0), (.int .u8 0), (.int .u8 0), (.int .u8 1), (.int .u8 0), (.int .u8 0), (.int .u8 0), (.int .u8 0), (.int .u8 0), (.int .u8 0), (.int .u8 0), (.int .u8 0), (.int .u8 0), (.int .u8 0), (.int .u8 0), (.int .u8 0), (.int .u8 0), (.int .u8 0), (.int .u8 0), (.int .u8 0), (.int .u8 0), (.int .u8 0), (.int .u8 0), (.int .u8 0), (.int .u8 0), (.int .u8 0), (.int .u8 0), (.int .u8 0), (.int .u8 0), (.int .u8 0), (.int .u8 0), (.int .u8 0), (.int .u8 0), (.int .u8 0), (.int .u8 0), (.int .u8 0), (.int .u8 0), (.int .u8 0), (.int .u8 0), (.int .u8 0), (.int .u8 0), (.int .u8 0), (.int .u8 0), (.int .u8 0), (.int .u8 0), (.int .u8 0), (.int .u8 0), (.int .u8 0), (.int .u8 0), (.int .u8 0), (.int .u8 0), (.int .u8 0), (.int .u8 0), (.int .u8 0), (.int .u8 0), (.int .u8 0), (.int .u8 0), (.int .u8 0), (.int .u8 0), (.int .u8 0), (.int .u8 0), (.int .u8 0), (.int .u8 0), (.int .u8 0), (.int .u8 0), (.int .u8 0), (.int .u8 0), (.int .u8 0), (.int .u8 0), (.int .u8 0), (.int .u8 0), (.int .u8 0), (.int .u8 0), (.int .u8 0), (.int .u8 0), (.int .u8 0), (.int .u8 0), (.int .u8 0), (.int .u8 0), (.int .u8 0), (.int .u8 0), (.int .u8 0), (.int .u8 0), (.int .u8 0), (.int .u8 0), (.int .u8 0), (.int .u8 0), (.int .u8 0), (.int .u8 0), (.int .u8 0), (.int .u8 0), (.int .u8 0), (.int .u8 0), (.int .u8 0), (.int .u8 0), (.int .u8 0), (.int .u8 0), (.int .u8 0), (.int .u8 0), (.int .u8 0), (.int .u8 0), (.int .u8 0), (.int .u8 0), (.int .u8 0), (.int .u8 0), (.int .u8 0), (.int .u8 0), (.int .u8 0), (.int .u8 0), (.int .u8 0), (.int .u8 0), (.int .u8 0), (.int .u8 0), (.int .u8 0), (.int .u8 0), (.int .u8 0), (.int .u8 0), (.int .u8 0), (.int .u8 0), (.int .u8 0), (.int .u8 0), (.int .u8 0), (.int .u8 0), (.int .u8 0), (.int .u8 0), (.int .u8 0), (.int .u8 0), (.int .u8 0), (.int .u8 0), (.int .u8 0), (.int .u8 0), (.int .u8 0), (.int .u8 0), (.int .u8 0), (.int .u8 0), (.int .u8 0), (.int .u8 0), (.int .u8 0), (.int .u8 0), (.int .u8 0), (.int .u8 0), (.int .u8 0), (.int .u8 0), (.int .u8 0), (.int .u8 0), (.int .u8 0), (.int .u8 0), (.int .u8 0), (.int .u8 0), (.int .u8 0), (.int .u8 0), (.int .u8 0), (.int .u8 0), (.int .u8 0), (.int .u8 0), (.int .u8 0), (.int .u8 0), (.int .u8 0), (.int .u8 0), (.int .u8 0), (.int .u8 0), (.int .u8 0), (.int .u8 0), (.int .u8 0), (.int .u8 0), (.int .u8 0), (.int .u8 0), (.int .u8 0), (.int .u8 0), (.int .u8 0), (.int .u8 0), (.int .u8 0), (.int .u8 0), (.int .u8 0), (.int .u8 0), (.int .u8 0), (.int .u8 0), (.int .u8 0), (.int .u8 0), (.int .u8 0), (.int .u8 0), (.int .u8 0), (.int .u8 0), (.int .u8 0), (.int .u8 0), (.int .u8 0), (.int .u8 0), (.int .u8 0), (.int .u8 0), (.int .u8 0), (.int .u8 0), (.int .u8 0), (.int .u8 0), (.int .u8 0), (.int .u8 0), (.int .u8 0), (.int .u8 0), (.int .u8 0), (.int .u8 0), (.int .u8 0), (.int .u8 0), (.int .u8 0), (.int .u8 0), (.int .u8 0), (.int .u8 0), (.int .u8 0), (.int .u8 0), (.int .u8 0), (.int .u8 0), (.int .u8 0), (.int .u8 0), (.int .u8 0), (.int .u8 0), (.int .u8 0), (.int .u8 0), (.int .u8 0), (.int .u8 0), (.int .u8 0), (.int .u8 0), (.int .u8 0), (.int .u8 0), (.int .u8 0), (.int .u8 0), (.int .u8 0), (.int .u8 0), (.int .u8 0), (.int .u8 0)] 0))))) (.k x87)) h 88 kk) h fun x88 h =>
 vguard x83 true (fun kk => vload false 1 x88 h kk) h fun x89 h =>
 vguard x83 true (fun kk => vbin .neq 0 x89 (.v (.c (.p (.int .u8 0)))) h kk) h fun x90 h =>
 vop O (.pick (.k x83) (.k x90) (.k (kB false))) h 91 fun x91 h =>
 vif x91 (
 vbin .add 0 x12 (kI 1) h fun x93 h =>
 R 6 [x0, x9, x10, x93] h)
 (R 5 [x0, x9, x10, x12, x12] h)
theorem e41_6 (O : Oracle) (R : Jump) (q : Nat) (x0 x9 x10 x12 : TVal) (h : Heap) : b41_6 O R q x0 x9 x10 x12 h = stepF c41 O R q 6 [x0, x9, x10, x12] h := by kernel_rfl
noncomputable def b41_7 (O : Oracle) (R : Jump) (q : Nat) (x0 x9 x10 x11 : TVal) (h : Heap) : Res1 :=
 vlen O 0 x0 h 97 fun x97 h =>
 vbin .lss 0 x11 x97 h fun x98 h =>
 vif x98 (
 vop O (.slice 0 true (.k x0) (some (.k x11)) none none) h 103 fun x103 h =>
 viaddr 1 x9 x10 h fun x104 h =>
 vstore 1 x104 x103 h fun _ h =>
 tcomp x9 fun c0 => vfin true q [c0] h)
 (tcomp x9 fun c0 => vfin true q [c0] h)
theorem e41_7 (O : Oracle) (R : Jump) (q : Nat) (x0 x9 x10 x11 : TVal) (h : Heap) : b41_7 O R q x0 x9 x10 x11 h = stepF c41 O R q 7 [x0, x9, x10, x11] h := by kernel_rfl
noncomputable def d41 : BlkF := fun O R q => [.s fun y0 => .z fun h => b41_0 O R q y0 h, .s fun y0 => .s fun y1 => .s fun y2 => .s fun y3 => .s fun y4 => .z fun h => b41_1 O R q y0 y1 y2 y3 y4 h, .s fun y0 => .s fun y1 => .s fun y2 => .z fun h => b41_2 O R q y0 y1 y2 h, .s fun y0 => .s fun y1 => .s fun y2 => .s fun y3 => .z fun h => b41_3 O R q y0 y1 y2 y3 h, .s fun y0 => .s fun y1 => .s fun y2 => .s fun y3 => .z fun h => b41_4 O R q y0 y1 y2 y3 h, .s fun y0 => .s fun y1 => .s fun y2 => .s fun y3 => .s fun y4 => .z fun h => b41_5 O R q y0 y1 y2 y3 y4 h, .s fun y0 => .s fun y1 => .s fun y2 => .s fun y3 => .z fun h => b41_6 O R q y0 y1 y2 y3 h, .s fun y0 => .s fun y1 => .s fun y2 => .s fun y3 => .z fun h => b41_7 O R q y0 y1 y2 y3 h]
theorem o41 (O : Oracle) (R : Jump) (q : Nat) : HoldsAll c41 O R q 0 (d41 O R q) := ⟨fun y0 h => e41_0 O R q y0 h, fun y0 y1 y2 y3 y4 h => e41_1 O R q y0 y1 y2 y3 y4 h, fun y0 y1 y2 h => e41_2 O R q y0 y1 y2 h, fun y0 y1 y2 y3 h => e41_3 O R q y0 y1 y2 y3 h, fun y0 y1 y2 y3 h => e41_4 O R q y0 y1 y2 y3 h, fun y0 y1 y2 y3 y4 h => e41_5 O R q y0 y1 y2 y3 y4 h, fun y0 y1 y2 y3 h => e41_6 O R q y0 y1 y2 y3 h, fun y0 y1 y2 y3 h => e41_7 O R q y0 y1 y2 y3 h, trivial⟩
/- strings.HasPrefix -/
def c42 : MFunc := { np := 2, res := [.t 4], frz := true, body := (.seq (.reg [(oA 4 (.mv (.k (.v (.c (.p (.bool false)))))))] []) (.seq (.reg [(oA 5 (.mv (.t 0))), (oA 6 (.mv (.t 1))), (oA 7 (.call (.k (.v (.c (.func 50 [])))) [(.t 5), (.t 6)])), (oA 4 (.mv (.t 7)))] []) .ret)) }
theorem t42 : compF Tryd.prog (globs2 tabs opq) (fun _ => false) true Tryd.f42 = some c42.erase := by kernel_rfl
noncomputable def b42_0 (O : Oracle) (R : Jump) (q : Nat) (x0 x1 : TVal) (h : Heap) : Res1 :=
 vcall O (.v (.c (.func 50 []))) [x0, x1] h 7 fun x7 h =>
 tcomp x7 fun c0 => vfin true q [c0] h
theorem e42_0 (O : Oracle) (R : Jump) (q : Nat) (x0 x1 : TVal) (h : Heap) : b42_0 O R q x0 x1 h = stepF c42 O R q 0 [x0, x1] h := by kernel_rfl
noncomputable def d42 : BlkF := fun O R q => [.s fun y0 => .s fun y1 => .z fun h => b42_0 O R q y0 y1 h]
theorem o42 (O : Oracle) (R : Jump) (q : Nat) : HoldsAll c42 O R q 0 (d42 O R q) := ⟨fun y0 y1 h => e42_0 O R q y0 y1 h, trivial⟩
/- internal/stringslite.IndexByte -/
def c43 : MFunc := { np := 2, res := [.t 4], frz := true, body := (.seq (.reg [(oA 4 (.mv (.k (.v (.c (.p (.int .i64 0)))))))] []) (.seq (.reg [(oA 5 (.mv (.t 0))), (oA 6 (.mv (.t 1))), (oA 7 (.call (.k (.v (.c (.func 51 [])))) [(.t 5), (.t 6)])), (oA 4 (.mv (.t 7)))] []) .ret)) }
theorem t43 : compF Tryd.prog (globs2 tabs opq) (fun _ => false) true Tryd.f43 = some c43.erase := by kernel_rfl
noncomputable def b43_0 (O : Oracle) (R : Jump) (q : Nat) (x0 x1 : TVal) (h : Heap) : Res1 :=
 vcall O (.v (.c (.func 51 []))) [x0, x1] h 7 fun x7 h =>
 tcomp x7 fun c0 => vfin true q [c0] h
theorem e43_0 (O : Oracle) (R : Jump) (q : Nat) (x0 x1 : TVal) (h : Heap) : b43_0 O R q x0 x1 h = stepF c43 O R q 0 [x0, x1] h := by kernel_rfl
noncomputable def d43 : BlkF := fun O R q => [.s fun y0 => .s fun y1 => .z fun h => b43_0 O R q y0 y1 h]
theorem o43 (O : Oracle) (R : Jump) (q : Nat) : HoldsAll c43 O R q 0 (d43 O R q) := ⟨fun y0 y1 h => e43_0 O R q y0 y1 h, trivial⟩
/- internal/bytealg.Cutover -/
def c45 : MFunc := { np := 1, res := [.t 2], frz := true, body := (.seq (.reg [(oA 2 (.mv (.k (.v (.c (.p (.int .i64 0)))))))] []) (.seq (.reg [(oA 3 (.mv (.t 0))), (oA 4 (.bin .add 0 (.t 3) (.k (.v (.c (.p (.int .i64 16))))))), (oA 5 (.bin .quo 0 (.t 4) (.k (.v (.c (.p (.int .i64 8))))))), (oA 2 (.mv (.t 5)))] []) .ret)) }
theorem t45 : compF Tryd.prog (globs2 tabs opq) (fun _ => false) true Tryd.f45 = some c45.erase := by kernel_rfl
noncomputable def b45_0 (O : Oracle) (R : Jump) (q : Nat) (x0 : TVal) (h : Heap) : Res1 :=
 vbin .add 0 x0 (kI 16) h fun x4 h =>
 vbin .quo 0 x4 (kI 8) h fun x5 h =>
 tcomp x5 fun c0 => vfin true q [c0] h
theorem e45_0 (O : Oracle) (R : Jump) (q : Nat) (x0 : TVal) (h : Heap) : b45_0 O R q x0 h = stepF c45 O R q 0 [x0] h := by kernel_rfl
noncomputable def d45 : BlkF := fun O R q => [.s fun y0 => .z fun h => b45_0 O R q y0 h]
theorem o45 (O : Oracle) (R : Jump) (q : Nat) : HoldsAll c45 O R q 0 (d45 O R q) := ⟨fun y0 h => e45_0 O R q y0 h, trivial⟩
/- internal/bytealg.IndexRabinKarp[string] -/
def c46 : MFunc := { np := 2, res := [.t 4], frz := true, body := (.seq (.reg [(oA 4 (.mv (.k (.v (.c (.p (.int .i64 0)))))))] []) (.seq (.reg [(oA 12 (.mv (.t 1))), (oA 13 (.call (.k (.v (.c (.func 52 [])))) [(.t 12)])), (oA 11 (.mv (.t 13))), (oA 14 (.extract (.t 11) 0)), (oA 15 (.extract (.t 11) 1)), (oA 5 (.mv (.t 14))), (oA 6 (.mv (.t 15)))] []) (.seq (.reg [(oA 16 (.mv (.t 1))), (oA 17 (.len 0 (.t 16))), (oA 7 (.mv (.t 17)))] []) (.seq (.reg [(oA 8 (.mv (.k (.v (.c (.p (.int .u32 0)))))))] []) (.seq (.seq (.reg [(oA 9 (.mv (.k (.v (.c (.p (.int .i64 0)))))))] []) (.block 0 (.loop 1 [0, 1, 5, 6, 7, 8, 9] (.seq (.seq (.reg [(oA 18 (.mv (.t 9))), (oA 19 (.mv (.t 7))), (oA 20 (.bin .lss 0 (.t 18) (.t 19)))] []) (.cond (.t 20) .skip (.exit 0))) (.seq (.block 1 (.reg [(oA 23 (.mv (.t 8))), (oA 24 (.bin .mul 0 (.t 23) (.k (.v (.c (.p (.int .u32 16777619))))))), (oA 25 (.mv (.t 0))), (oA 26 (.mv (.t 9))), (oA 27 (.index (.t 25) (.t 26))), (oA 28 (.toInt .u32 (.t 27))), (oA 29 (.bin .add 0 (.t 24) (.t 28))), (oA 8 (.mv (.t 29)))] [])) (.reg [(oA 21 (.mv (.t 9))), (oA 22 (.bin .add 0 (.t 21) (.k (.v (.c (.p (.int .i64 1))))))), (oA 9 (.mv (.t 22)))] [])))))) (.mark 2 [0, 1, 5, 6, 7, 8] (.seq (.seq (.reg [(oA 30 (.mv (.t 8))), (oA 31 (.mv (.t 5))), (oA 32 (.bin .eql 0 (.t 30) (.t 31))), (oA 33 (.mv (.t 32))), ⟨(some 34), (.mv (.t 0)), (some (33, true))⟩, ⟨(some 35), (.mv (.t 7)), (some (33, true))⟩, ⟨(some 36), (.slice 0 true (.t 34) none (some (.t 35)) none), (some (33, true))⟩, ⟨(some 37), (.mv (.t 1)), (some (33, true))⟩, ⟨(some 38), (.bin .eql 0 (.t 36) (.t 37)), (some (33, true))⟩, (oA 39 (.pick (.t 33) (.t 38) (.k (.v (.c (.p (.bool false)))))))] []) (.cond (.t 39) (.seq (.reg [(oA 4 (.mv (.k (.v (.c (.p (.int .i64 0)))))))] []) .ret) .skip)) (.seq (.seq (.reg [(oA 40 (.mv (.t 7))), (oA 10 (.mv (.t 40)))] []) (.block 2 (.loop 3 [0, 1, 5, 6, 7, 8, 10] (.seq (.seq (.reg [(oA 41 (.mv (.t 10))), (oA 42 (.mv (.t 0))), (oA 43 (.len 0 (.t 42))), (oA 44 (.bin .lss 0 (.t 41) (.t 43)))] []) (.cond (.t 44) .skip (.exit 2))) (.block 3 (.seq (.reg [(oA 45 (.mv (.t 8))), (oA 46 (.bin .mul 0 (.t 45) (.k (.v (.c (.p (.int .u32 16777619))))))), (oA 8 (.mv (.t 46)))] []) (.seq (.reg [(oA 47 (.mv (.t 8))), (oA 48 (.mv (.t 0))), (oA 49 (.mv (.t 10))), (oA 50 (.index (.t 48) (.t 49))), (oA 51 (.toInt .u32 (.t 50))), (oA 52 (.bin .add 0 (.t 47) (.t 51))), (oA 8 (.mv (.t 52)))] []) (.seq (.reg [(oA 53 (.mv (.t 8))), (oA 54 (.mv (.t 6))), (oA 55 (.mv (.t 0))), (oA 56 (.mv (.t 10))), (oA 57 (.mv (.t 7))), (oA 58 (.bin .sub 0 (.t 56) (.t 57))), (oA 59 (.index (.t 55) (.t 58))), (oA 60 (.toInt .u32 (.t 59))), (oA 61 (.bin .mul 0 (.t 54) (.t 60))), (oA 62 (.bin .sub 0 (.t 53) (.t 61))), (oA 8 (.mv (.t 62)))] []) (.seq (.reg [(oA 63 (.mv (.t 10))), (oA 64 (.bin .add 0 (.t 63) (.k (.v (.c (.p (.int .i64 1))))))), (oA 10 (.mv (.t 64)))] []) (.seq (.reg [(oA 65 (.mv (.t 8))), (oA 66 (.mv (.t 5))), (oA 67 (.bin .eql 0 (.t 65) (.t 66))), (oA 68 (.mv (.t 67))), ⟨(some 69), (.mv (.t 0)), (some (68, true))⟩, ⟨(some 70), (.mv (.t 10)), (some (68, true))⟩, ⟨(some 71), (.mv (.t 7)), (some (68, true))⟩, ⟨(some 72), (.bin .sub 0 (.t 70) (.t 71)), (some (68, true))⟩, ⟨(some 73), (.mv (.t 10)), (some (68, true))⟩, ⟨(some 74), (.slice 0 true (.t 69) (some (.t 72)) (some (.t 73)) none), (some (68, true))⟩, ⟨(some 75), (.mv (.t 1)), (some (68, true))⟩, ⟨(some 76), (.bin .eql 0 (.t 74) (.t 75)), (some (68, true))⟩, (oA 77 (.pick (.t 68) (.t 76) (.k (.v (.c (.p (.bool false)))))))] []) (.cond (.t 77) (.seq (.reg [(oA 78 (.mv (.t 10))), (oA 79 (.mv (.t 7))), (oA 80 (.bin .sub 0 (.t 78) (.t 79))), (oA 4 (.mv (.t 80)))] []) .ret) .skip))))))))))) (.seq (.reg [(oA 4 (.mv (.k (.v (.c (.p (.int .i64 (-1))))))))] []) .ret))))))))) }
theorem t46 : compF Tryd.prog (globs2 tabs opq) (fun _ => false) true Tryd.f46 = some c46.erase := by kernel_rfl
noncomputable def b46_0 (O : Oracle) (R : Jump) (q : Nat) (x0 x1 : TVal) (h : Heap) : Res1 :=
 vcall O (.v (.c (.func 52 []))) [x1] h 13 fun x13 h =>
 vext x13 0 h fun x14 h =>
 vext x13 1 h fun x15 h =>
 vlen O 0 x1 h 17 fun x17 h =>
 R 1 [x0, x1, x14, x15, x17, (.v (.c (.p (.int .u32 0)))), (kI 0)] h
theorem e46_0 (O : Oracle) (R : Jump) (q : Nat) (x0 x1 : TVal) (h : Heap) : b46_0 O R q x0 x1 h = stepF c46 O R q 0 [x0, x1] h := by kernel_rfl
noncomputable def b46_1 (O : Oracle) (R : Jump) (q : Nat) (x0 x1 x5 x6 x7 x8 x9 : TVal) (h : Heap) : Res1 :=
 vbin .lss 0 x9 x7 h fun x20 h =>
 vif x20 (
 vbin .mul 0 x8 (.v (.c (.p (.int .u32 16777619)))) h fun x24 h =>
 vindex x0 x9 h fun x27 h =>
 vtoInt .u32 x27 h fun x28 h =>
 vbin .add 0 x24 x28 h fun x29 h =>
 vbin .add 0 x9 (kI 1) h fun x22 h =>
 R 1 [x0, x1, x5, x6, x7, x29, x22] h)
 (R 2 [x0, x1, x5, x6, x7, x8] h)
theorem e46_1 (O : Oracle) (R : Jump) (q : Nat) (x0 x1 x5 x6 x7 x8 x9 : TVal) (h : Heap) : b46_1 O R q x0 x1 x5 x6 x7 x8 x9 h = stepF c46 O R q 1 [x0, x1, x5, x6, x7, x8, x9] h := by kernel_rfl
noncomputable def b46_2 (O : Oracle) (R : Jump) (q : Nat) (x0 x1 x5 x6 x7 x8 : TVal) (h : Heap) : Res1 :=
 vbin .eql 0 x8 x5 h fun x32 h =>
 vguard x32 true (fun kk => kk x0 h) h fun x34 h =>
 vguard x32 true (fun kk => kk x7 h) h fun x35 h =>
 vguard x32 true (fun kk => vop O (.slice 0 true (.k x34) none (some (.k x35)) none) h 36 kk) h fun x36 h =>
 vguard x32 true (fun kk => kk x1 h) h fun x37 h =>
 vguard x32 true (fun kk => vbin .eql 0 x36 x37 h kk) h fun x38 h =>
 vop O (.pick (.k x32) (.k x38) (.k (kB false))) h 39 fun x39 h =>
 vif x39 (
 tcomp (kI 0) fun c0 => vfin true q [c0] h)
 (R 3 [x0, x1, x5, x6, x7, x8, x7] h)
theorem e46_2 (O : Oracle) (R : Jump) (q : Nat) (x0 x1 x5 x6 x7 x8 : TVal) (h : Heap) : b46_2 O R q x0 x1 x5 x6 x7 x8 h = stepF c46 O R q 2 [x0, x1, x5, x6, x7, x8] h := by kernel_rfl
noncomputable def b46_3 (O : Oracle) (R : Jump) (q : Nat) (x0 x1 x5 x6 x7 x8 x10 : TVal) (h : Heap) : Res1 :=
 vlen O 0 x0 h 43 fun x43 h =>
 vbin .lss 0 x10 x43 h fun x44 h =>
 vif x44 (
 vbin .mul 0 x8 (.v (.c (.p (.int .u32 16777619)))) h fun x46 h =>
 vindex x0 x10 h fun x50 h =>
 vtoInt .u32 x50 h fun x51 h =>
 vbin .add 0 x46 x51 h fun x52 h =>
 vbin .sub 0 x10 x7 h fun x58 h =>
 vindex x0 x58 h fun x59 h =>
 vtoInt .u32 x59 h fun x60 h =>
 vbin .mul 0 x6 x60 h fun x61 h =>
 vbin .sub 0 x52 x61 h fun x62 h =>
 vbin .add 0 x10 (kI 1) h fun x64 h =>
 vbin .eql 0 x62 x5 h fun x67 h =>
 vguard x67 true (fun kk => kk x0 h) h fun x69 h =>
 vguard x67 true (fun kk => kk x64 h) h fun x70 h =>
 vguard x67 true (fun kk => kk x7 h) h fun x71 h =>
 vguard x67 true (fun kk => vbin .sub 0 x70 x71 h kk) h fun x72 h =>
 vguard x67 true (fun kk => kk x64 h) h fun x73 h =>
 vguard x67 true (fun kk => vop O (.slice 0 true (.k x69) (some (.k x72)) (some (.k x73)) none) h 74 kk) h fun x74 h =>
 vguard x67 true (fun kk => kk x1 h) h fun x75 h =>
 vguard x67 true (fun kk => vbin .eql 0 x74 x75 h kk) h fun x76 h =>
 vop O (.pick (.k x67) (.k x76) (.k (kB false))) h 77 fun x77 h =>
 vif x77 (
 vbin .sub 0 x64 x7 h fun x80 h =>
 tcomp x80 fun c0 => vfin true q [c0] h)
 (R 3 [x0, x1, x5, x6, x7, x62, x64] h))
 (tcomp (kI (-1)) fun c0 => vfin true q [c0] h)
theorem e46_3 (O : Oracle) (R : Jump) (q : Nat) (x0 x1 x5 x6 x7 x8 x10 : TVal) (h : Heap) : b46_3 O R q x0 x1 x5 x6 x7 x8 x10 h = stepF c46 O R q 3 [x0, x1, x5, x6, x7, x8, x10] h := by kernel_rfl
noncomputable def d46 : BlkF := fun O R q => [.s fun y0 => .s fun y1 => .z fun h => b46_0 O R q y0 y1 h, .s fun y0 => .s fun y1 => .s fun y2 => .s fun y3 => .s fun y4 => .s fun y5 => .s fun y6 => .z fun h => b46_1 O R q y0 y1 y2 y3 y4 y5 y6 h, .s fun y0 => .s fun y1 => .s fun y2 => .s fun y3 => .s fun y4 => .s fun y5 => .z fun h => b46_2 O R q y0 y1 y2 y3 y4 y5 h, .s fun y0 => .s fun y1 => .s fun y2 => .s fun y3 => .s fun y4 => .s fun y5 => .s fun y6 => .z fun h => b46_3 O R q y0 y1 y2 y3 y4 y5 y6 h]
theorem o46 (O : Oracle) (R : Jump) (q : Nat) : HoldsAll c46 O R q 0 (d46 O R q) := ⟨fun y0 y1 h => e46_0 O R q y0 y1 h, fun y0 y1 y2 y3 y4 y5 y6 h => e46_1 O R q y0 y1 y2 y3 y4 y5 y6 h, fun y0 y1 y2 y3 y4 y5 h => e46_2 O R q y0 y1 y2 y3 y4 y5 h, fun y0 y1 y2 y3 y4 y5 y6 h => e46_3 O R q y0 y1 y2 y3 y4 y5 y6 h, trivial⟩
/- internal/stringslite.TrimPrefix -/
def c47 : MFunc := { np := 2, res := [.t 4], frz := true, body := (.seq (.reg [(oA 4 (.mv (.k (.v (.c (.p (.str [])))))))] []) (.seq (.seq (.reg [(oA 5 (.mv (.t 0))), (oA 6 (.mv (.t 1))), (oA 7 (.call (.k (.v (.c (.func 50 [])))) [(.t 5), (.t 6)]))] []) (.cond (.t 7) (.seq (.reg [(oA 8 (.mv (.t 0))), (oA 9 (.mv (.t 1))), (oA 10 (.len 0 (.t 9))), (oA 11 (.slice 0 true (.t 8) (some (.t 10)) none none)), (oA 4 (.mv (.t 11)))] []) .ret) .skip)) (.seq (.reg [(oA 12 (.mv (.t 0))), (oA 4 (.mv (.t 12)))] []) .ret))) }
theorem t47 : compF Tryd.prog (globs2 tabs opq) (fun _ => false) true Tryd.f47 = some c47.erase := by kernel_rfl
noncomputable def b47_0 (O : Oracle) (R : Jump) (q : Nat) (x0 x1 : TVal) (h : Heap) : Res1 :=
 vcall O (.v (.c (.func 50 []))) [x0, x1] h 7 fun x7 h =>
 vif x7 (
 vlen O 0 x1 h 10 fun x10 h =>
 vop O (.slice 0 true (.k x0) (some (.k x10)) none none) h 11 fun x11 h =>
 tcomp x11 fun c0 => vfin true q [c0] h)
 (tcomp x0 fun c0 => vfin true q [c0] h)
theorem e47_0 (O : Oracle) (R : Jump) (q : Nat) (x0 x1 : TVal) (h : Heap) : b47_0 O R q x0 x1 h = stepF c47 O R q 0 [x0, x1] h := by kernel_rfl
noncomputable def d47 : BlkF := fun O R q => [.s fun y0 => .s fun y1 => .z fun h => b47_0 O R q y0 y1 h]
theorem o47 (O : Oracle) (R : Jump) (q : Nat) : HoldsAll c47 O R q 0 (d47 O R q) := ⟨fun y0 y1 h => e47_0 O R q y0 y1 h, trivial⟩
/- strings.FieldsFunc -/
def c48 : MFunc := { np := 2, res := [.t 4], frz := true, body := (.seq (.reg [(oA 4 (.mv (.k (.v (.c (.p .nilslice))))))] []) (.seq (.reg [(oA 12 (.mkslice 2 16 [(.p (.int .i64 0)), (.p (.int .i64 0))] (.k (.v (.c (.p (.int .i64 0))))) (.k (.v (.c (.p (.int .i64 32))))))), (oA 5 (.mv (.t 12)))] []) (.seq (.reg [(oA 6 (.mv (.k (.v (.c (.p (.int .i64 (-1))))))))] []) (.seq (.seq (.reg [(oA 13 (.mv (.t 0))), (oA 14 (.rangeS (.t 13)))] []) (.block 0 (.loop 1 [0, 1, 5, 6, 14] (.seq (.reg [(oA 15 (.nextS (.t 14))), (oA 16 (.extract (.t 15) 0))] []) (.seq (.cond (.t 16) .skip (.exit 0)) (.block 1 (.seq (.reg [(oA 17 (.extract (.t 15) 1)), (oA 18 (.extract (.t 15) 2)), (oA 7 (.mv (.t 17))), (oA 8 (.mv (.t 18)))] []) (.seq (.reg [(oA 19 (.mv (.t 1))), (oA 20 (.mv (.t 8))), (oA 21 (.call (.t 19) [(.t 20)]))] []) (.cond (.t 21) (.seq (.reg [(oA 22 (.mv (.t 6))), (oA 23 (.bin .geq 0 (.t 22) (.k (.v (.c (.p (.int .i64 0)))))))] []) (.cond (.t 23) (.seq (.reg [(oA 24 (.mv (.t 5))), (oA 25 (.mv (.t 6))), (oA 26 (.mv (.t 7))), (oA 27 (.build [(.p (.int .i64 0)), (.p (.int .i64 0))] [(0, 1, (.t 25)), (1, 1, (.t 26))])), (oA 28 (.bslice 2 1 [(.p (.int .i64 0)), (.p (.int .i64 0))] [(0, (.t 27))] false)), (oA 29 (.append 2 16 false (.t 24) (.t 28))), (oA 5 (.mv (.t 29)))] []) (.reg [(oA 30 (.mv (.t 6))), (oA 31 (.un .xor (.t 30))), (oA 6 (.mv (.t 31)))] [])) .skip)) (.seq (.reg [(oA 32 (.mv (.t 6))), (oA 33 (.bin .lss 0 (.t 32) (.k (.v (.c (.p (.int .i64 0)))))))] []) (.cond (.t 33) (.reg [(oA 34 (.mv (.t 7))), (oA 6 (.mv (.t 34)))] []) .skip))))))))))) (.mark 2 [0, 5, 6] (.seq (.seq (.reg [(oA 35 (.mv (.t 6))), (oA 36 (.bin .geq 0 (.t 35) (.k (.v (.c (.p (.int .i64 0)))))))] []) (.cond (.t 36) (.reg [(oA 37 (.mv (.t 5))), (oA 38 (.mv (.t 6))), (oA 39 (.mv (.t 0))), (oA 40 (.len 0 (.t 39))), (oA 41 (.build [(.p (.int .i64 0)), (.p (.int .i64 0))] [(0, 1, (.t 38)), (1, 1, (.t 40))])), (oA 42 (.bslice 2 1 [(.p (.int .i64 0)), (.p (.int .i64 0))] [(0, (.t 41))] false)), (oA 43 (.append 2 16 false (.t 37) (.t 42))), (oA 5 (.mv (.t 43)))] []) .skip)) (.mark 3 [0, 5] (.seq (.reg [(oA 44 (.mv (.t 5))), (oA 45 (.len 2 (.t 44))), (oA 46 (.mkslice 1 16 [(.p (.str []))] (.t 45) (.t 45))), (oA 9 (.mv (.t 46)))] []) (.seq (.seq (.reg [(oA 47 (.mv (.t 5))), (oA 48 (.len 2 (.t 47))), (oA 49 (.mv (.k (.v (.c (.p (.int .i64 0)))))))] []) (.block 2 (.loop 4 [0, 9, 47, 48, 49] (.seq (.reg [(oA 50 (.bin .lss 0 (.t 49) (.t 48)))] []) (.seq (.cond (.t 50) .skip (.exit 2)) (.seq (.block 3 (.seq (.reg [(oA 51 (.mv (.t 49))), (oA 52 (.iaddr 2 (.t 47) (.t 49))), (oA 53 (.load true 2 (.t 52))), (oA 11 (.alloc [(.p (.int .i64 0)), (.p (.int .i64 0))] false)), (oA 10 (.mv (.t 51))), (oN (.store 2 (.t 11) (.t 53)))] []) (.reg [(oA 54 (.mv (.t 9))), (oA 55 (.mv (.t 10))), (oA 56 (.mv (.t 0))), (oA 57 (.faddr 0 (.t 11))), (oA 58 (.load false 1 (.t 57))), (oA 59 (.faddr 1 (.t 11))), (oA 60 (.load false 1 (.t 59))), (oA 61 (.slice 0 true (.t 56) (some (.t 58)) (some (.t 60)) none)), (oA 62 (.iaddr 1 (.t 54) (.t 55))), (oN (.store 1 (.t 62) (.t 61)))] []))) (.reg [(oA 63 (.bin .add 0 (.t 49) (.k (.v (.c (.p (.int .i64 1))))))), (oA 49 (.mv (.t 63)))] []))))))) (.seq (.reg [(oA 64 (.mv (.t 9))), (oA 4 (.mv (.t 64)))] []) .ret)))))))))) }
theorem t48 : compF Tryd.prog (globs2 tabs opq) (fun _ => false) true Tryd.f48 = some c48.erase := by kernel_rfl
noncomputable def b48_0 (O : Oracle) (R : Jump) (q : Nat) (x0 x1 : TVal) (h : Heap) : Res1 :=
 vop O (.mkslice 2 16 [(.p (.int .i64 0)), (.p (.int .i64 0))] (.k (kI 0)) (.k (kI 32))) h 12 fun x12 h =>
 vop O (.rangeS (.k x0)) h 14 fun x14 h =>
 R 1 [x0, x1, x12, (kI (-1)), x14] h
theorem e48_0 (O : Oracle) (R : Jump) (q : Nat) (x0 x1 : TVal) (h : Heap) : b48_0 O R q x0 x1 h = stepF c48 O R q 0 [x0, x1] h := by kernel_rfl
noncomputable def b48_1 (O : Oracle) (R : Jump) (q : Nat) (x0 x1 x5 x6 x14 : TVal) (h : Heap) : Res1 :=
 vop O (.nextS (.k x14)) h 15 fun x15 h =>
 vext x15 0 h fun x16 h =>
 vif x16 (
 vext x15 1 h fun x17 h =>
 vext x15 2 h fun x18 h =>
 vcall O x1 [x18] h 21 fun x21 h =>
 vif x21 (
 vbin .geq 0 x6 (kI 0) h fun x23 h =>
 vif x23 (
 vop O (.build [(.p (.int .i64 0)), (.p (.int .i64 0))] [(0, 1, (.k x6)), (1, 1, (.k x17))]) h 27 fun x27 h =>
 vop O (.bslice 2 1 [(.p (.int .i64 0)), (.p (.int .i64 0))] [(0, (.k x27))] false) h 28 fun x28 h =>
 vop O (.append 2 16 false (.k x5) (.k x28)) h 29 fun x29 h =>
 vop O (.un .xor (.k x6)) h 31 fun x31 h =>
 R 1 [x0, x1, x29, x31, x14] h)
 (R 1 [x0, x1, x5, x6, x14] h))
 (vbin .lss 0 x6 (kI 0) h fun x33 h =>
 vif x33 (
 R 1 [x0, x1, x5, x17, x14] h)
 (R 1 [x0, x1, x5, x6, x14] h)))
 (R 2 [x0, x5, x6] h)
theorem e48_1 (O : Oracle) (R : Jump) (q : Nat) (x0 x1 x5 x6 x14 : TVal) (h : Heap) : b48_1 O R q x0 x1 x5 x6 x14 h = stepF c48 O R q 1 [x0, x1, x5, x6, x14] h := by kernel_rfl
noncomputable def b48_2 (O : Oracle) (R : Jump) (q : Nat) (x0 x5 x6 : TVal) (h : Heap) : Res1 :=
 vbin .geq 0 x6 (kI 0) h fun x36 h =>
 vif x36 (
 vlen O 0 x0 h 40 fun x40 h =>
 vop O (.build [(.p (.int .i64 0)), (.p (.int .i64 0))] [(0, 1, (.k x6)), (1, 1, (.k x40))]) h 41 fun x41 h =>
 vop O (.bslice 2 1 [(.p (.int .i64 0)), (.p (.int .i64 0))] [(0, (.k x41))] false) h 42 fun x42 h =>
 vop O (.append 2 16 false (.k x5) (.k x42)) h 43 fun x43 h =>
 R 3 [x0, x43] h)
 (R 3 [x0, x5] h)
theorem e48_2 (O : Oracle) (R : Jump) (q : Nat) (x0 x5 x6 : TVal) (h : Heap) : b48_2 O R q x0 x5 x6 h = stepF c48 O R q 2 [x0, x5, x6] h := by kernel_rfl
noncomputable def b48_3 (O : Oracle) (R : Jump) (q : Nat) (x0 x5 : TVal) (h : Heap) : Res1 :=
 vlen O 2 x5 h 45 fun x45 h =>
 vop O (.mkslice 1 16 [(.p (.str []))] (.k x45) (.k x45)) h 46 fun x46 h =>
 vlen O 2 x5 h 48 fun x48 h =>
 R 4 [x0, x46, x5, x48, (kI 0)] h
theorem e48_3 (O : Oracle) (R : Jump) (q : Nat) (x0 x5 : TVal) (h : Heap) : b48_3 O R q x0 x5 h = stepF c48 O R q 3 [x0, x5] h := by kernel_rfl
noncomputable def b48_4 (O : Oracle) (R : Jump) (q : Nat) (x0 x9 x47 x48 x49 : TVal) (h : Heap) : Res1 :=
 vbin .lss 0 x49 x48 h fun x50 h =>
 vif x50 (
 viaddr 2 x47 x49 h fun x52 h =>
 vload true 2 x52 h fun x53 h =>
 vop O (.alloc [(.p (.int .i64 0)), (.p (.int .i64 0))] false) h 11 fun x11 h =>
 vstore 2 x11 x53 h fun _ h =>
 vfaddr 0 x11 h fun x57 h =>
 vload false 1 x57 h fun x58 h =>
 vfaddr 1 x11 h fun x59 h =>
 vload false 1 x59 h fun x60 h =>
 vop O (.slice 0 true (.k x0) (some (.k x58)) (some (.k x60)) none) h 61 fun x61 h =>
 viaddr 1 x9 x49 h fun x62 h =>
 vstore 1 x62 x61 h fun _ h =>
 vbin .add 0 x49 (kI 1) h fun x63 h =>
 R 4 [x0, x9, x47, x48, x63] h)
 (tcomp x9 fun c0 => vfin true q [c0] h)
theorem e48_4 (O : Oracle) (R : Jump) (q : Nat) (x0 x9 x47 x48 x49 : TVal) (h : Heap) : b48_4 O R q x0 x9 x47 x48 x49 h = stepF c48 O R q 4 [x0, x9, x47, x48, x49] h := by kernel_rfl
noncomputable def d48 : BlkF := fun O R q => [.s fun y0 => .s fun y1 => .z fun h => b48_0 O R q y0 y1 h, .s fun y0 => .s fun y1 => .s fun y2 => .s fun y3 => .s fun y4 => .z fun h => b48_1 O R q y0 y1 y2 y3 y4 h, .s fun y0 => .s fun y1 => .s fun y2 => .z fun h => b48_2 O R q y0 y1 y2 h, .s fun y0 => .s fun y1 => .z fun h => b48_3 O R q y0 y1 h, .s fun y0 => .s fun y1 => .s fun y2 => .s fun y3 => .s fun y4 => .z fun h => b48_4 O R q y0 y1 y2 y3 y4 h]
theorem o48 (O : Oracle) (R : Jump) (q : Nat) : HoldsAll c48 O R q 0 (d48 O R q) := ⟨fun y0 y1 h => e48_0 O R q y0 y1 h, fun y0 y1 y2 y3 y4 h => e48_1 O R q y0 y1 y2 y3 y4 h, fun y0 y1 y2 h => e48_2 O R q y0 y1 y2 h, fun y0 y1 h => e48_3 O R q y0 y1 h, fun y0 y1 y2 y3 y4 h => e48_4 O R q y0 y1 y2 y3 y4 h, trivial⟩
/- unicode.IsSpace -/
def c49 : MFunc := { np := 1, res := [.t 2], frz := true, body := (.seq (.reg [(oA 2 (.mv (.k (.v (.c (.p (.bool false)))))))] []) (.seq (.seq (.reg [(oA 3 (.mv (.t 0))), (oA 4 (.toInt .u32 (.t 3))), (oA 5 (.bin .leq 0 (.t 4) (.k (.v (.c (.p (.int .u32 255)))))))] []) (.cond (.t 5) (.seq (.seq (.reg [(oA 6 (.mv (.t 0)))] []) (.block 0 (.seq (.seq (.reg [(oA 8 (.bin .eql 0 (.t 6) (.k (.v (.c (.p (.int .i32 9))))))), (oA 7 (.mv (.t 8)))] []) (.cond (.t 7) .skip (.seq (.reg [(oA 9 (.bin .eql 0 (.t 6) (.k (.v (.c (.p (.int .i32 10))))))), (oA 7 (.mv (.t 9)))] []) (.cond (.t 7) .skip (.seq (.reg [(oA 10 (.bin .eql 0 (.t 6) (.k (.v (.c (.p (.int .i32 11))))))), (oA 7 (.mv (.t 10)))] []) (.cond (.t 7) .skip (.seq (.reg [(oA 11 (.bin .eql 0 (.t 6) (.k (.v (.c (.p (.int .i32 12))))))), (oA 7 (.mv (.t 11)))] []) (.cond (.t 7) .skip (.seq (.reg [(oA 12 (.bin .eql 0 (.t 6) (.k (.v (.c (.p (.int .i32 13))))))), (oA 7 (.mv (.t 12)))] []) (.cond (.t 7) .skip (.seq (.reg [(oA 13 (.bin .eql 0 (.t 6) (.k (.v (.c (.p (.int .i32 32))))))), (oA 7 (.mv (.t 13)))] []) (.cond (.t 7) .skip (.seq (.reg [(oA 14 (.bin .eql 0 (.t 6) (.k (.v (.c (.p (.int .i32 133))))))), (oA 7 (.mv (.t 14)))] []) (.cond (.t 7) .skip (.reg [(oA 15 (.bin .eql 0 (.t 6) (.k (.v (.c (.p (.int .i32 160))))))), (oA 7 (.mv (.t 15)))] []))))))))))))))) (.mark 1 [7] (.cond (.t 7) (.seq (.reg [(oA 2 (.mv (.k (.v (.c (.p (.bool true)))))))] []) .ret) .skip))))) (.seq (.reg [(oA 2 (.mv (.k (.v (.c (.p (.bool false)))))))] []) .ret)) .skip)) (.seq (.reg [(oA 16 .bad), (oA 17 (.mv (.t 0))), (oA 18 (.call (.k (.v (.c (.func 53 [])))) [(.t 16), (.t 17)])), (oA 2 (.mv (.t 18)))] []) .ret))) }
theorem t49 : compF Tryd.prog (globs2 tabs opq) (fun _ => false) true Tryd.f49 = some c49.erase := by kernel_rfl
noncomputable def b49_0 (O : Oracle) (R : Jump) (q : Nat) (x0 : TVal) (h : Heap) : Res1 :=
 vtoInt .u32 x0 h fun x4 h =>
 vbin .leq 0 x4 (.v (.c (.p (.int .u32 255)))) h fun x5 h =>
 vif x5 (
 vbin .eql 0 x0 (.v (.c (.p (.int .i32 9)))) h fun x8 h =>
 vif x8 (
 R 1 [x8] h)
 (vbin .eql 0 x0 (.v (.c (.p (.int .i32 10)))) h fun x9 h =>
 vif x9 (
 R 1 [x9] h)
 (vbin .eql 0 x0 (.v (.c (.p (.int .i32 11)))) h fun x10 h =>
 vif x10 (
 R 1 [x10] h)
 (vbin .eql 0 x0 (.v (.c (.p (.int .i32 12)))) h fun x11 h =>
 vif x11 (
 R 1 [x11] h)
 (vbin .eql 0 x0 (.v (.c (.p (.int .i32 13)))) h fun x12 h =>
 vif x12 (
 R 1 [x12] h)
 (vbin .eql 0 x0 (.v (.c (.p (.int .i32 32)))) h fun x13 h =>
 vif x13 (
 R 1 [x13] h)
 (vbin .eql 0 x0 (.v (.c (.p (.int .i32 133)))) h fun x14 h =>
 vif x14 (
 R 1 [x14] h)
 (vbin .eql 0 x0 (.v (.c (.p (.int .i32 160)))) h fun x15 h =>
 R 1 [x15] h))))))))
 (none)
theorem e49_0 (O : Oracle) (R : Jump) (q : Nat) (x0 : TVal) (h : Heap) : b49_0 O R q x0 h = stepF c49 O R q 0 [x0] h := by kernel_rfl
noncomputable def b49_1 (O : Oracle) (R : Jump) (q : Nat) (x7 : TVal) (h : Heap) : Res1 :=
 vif x7 (
 tcomp (kB true) fun c0 => vfin true q [c0] h)
 (tcomp (kB false) fun c0 => vfin true q [c0] h)
theorem e49_1 (O : Oracle) (R : Jump) (q : Nat) (x7 : TVal) (h : Heap) : b49_1 O R q x7 h = stepF c49 O R q 1 [x7] h := by kernel_rfl
noncomputable def d49 : BlkF := fun O R q => [.s fun y0 => .z fun h => b49_0 O R q y0 h, .s fun y0 => .z fun h => b49_1 O R q y0 h]
theorem o49 (O : Oracle) (R : Jump) (q : Nat) : HoldsAll c49 O R q 0 (d49 O R q) := ⟨fun y0 h => e49_0 O R q y0 h, fun y0 h => e49_1 O R q y0 h, trivial⟩
/- internal/stringslite.HasPrefix -/
def c50 : MFunc := { np := 2, res := [.t 4], frz := true, body := (.seq (.reg [(oA 4 (.mv (.k (.v (.c (.p (.bool false)))))))] []) (.seq (.reg [(oA 5 (.mv (.t 0))), (oA 6 (.len 0 (.t 5))), (oA 7 (.mv (.t 1))), (oA 8 (.len 0 (.t 7))), (oA 9 (.bin .geq 0 (.t 6) (.t 8))), (oA 10 (.mv (.t 9))), ⟨(some 11), (.mv (.t 0)), (some (10, true))⟩, ⟨(some 12), (.mv (.t 1)), (some (10, true))⟩, ⟨(some 13), (.len 0 (.t 12)), (some (10, true))⟩, ⟨(some 14), (.slice 0 true (.t 11) none (some (.t 13)) none), (some (10, true))⟩, ⟨(some 15), (.mv (.t 1)), (some (10, true))⟩, ⟨(some 16), (.bin .eql 0 (.t 14) (.t 15)), (some (10, true))⟩, (oA 17 (.pick (.t 10) (.t 16) (.k (.v (.c (.p (.bool false))))))), (oA 4 (.mv (.t 17)))] []) .ret)) }
theorem t50 : compF Tryd.prog (globs2 tabs opq) (fun _ => false) true Tryd.f50 = some c50.erase := by kernel_rfl
noncomputable def b50_0 (O : Oracle) (R : Jump) (q : Nat) (x0 x1 : TVal) (h : Heap) : Res1 :=
 vlen O 0 x0 h 6 fun x6 h =>
 vlen O 0 x1 h 8 fun x8 h =>
 vbin .geq 0 x6 x8 h fun x9 h =>
 vguard x9 true (fun kk => kk x0 h) h fun x11 h =>
 vguard x9 true (fun kk => kk x1 h) h fun x12 h =>
 vguard x9 true (fun kk => vlen O 0 x12 h 13 kk) h fun x13 h =>
 vguard x9 true (fun kk => vop O (.slice 0 true (.k x11) none (some (.k x13)) none) h 14 kk) h fun x14 h =>
 vguard x9 true (fun kk => kk x1 h) h fun x15 h =>
 vguard x9 true (fun kk => vbin .eql 0 x14 x15 h kk) h fun x16 h =>
 vop O (.pick (.k x9) (.k x16) (.k (kB false))) h 17 fun x17 h =>
 tcomp x17 fun c0 => vfin true q [c0] h
theorem e50_0 (O : Oracle) (R : Jump) (q : Nat) (x0 x1 : TVal) (h : Heap) : b50_0 O R q x0 x1 h = stepF c50 O R q 0 [x0, x1] h := by kernel_rfl
noncomputable def d50 : BlkF := fun O R q => [.s fun y0 => .s fun y1 => .z fun h => b50_0 O R q y0 y1 h]
theorem o50 (O : Oracle) (R : Jump) (q : Nat) : HoldsAll c50 O R q 0 (d50 O R q) := ⟨fun y0 y1 h => e50_0 O R q y0 y1 h, trivial⟩
/- internal/bytealg.hashStr[string] -/
def c52 : MFunc := { np := 1, res := [.t 2, .t 3], frz := true, body := (.seq (.reg [(oA 2 (.mv (.k (.v (.c (.p (.int .u32 0))))))), (oA 3 (.mv (.k (.v (.c (.p (.int .u32 0)))))))] []) (.seq (.reg [(oA 4 (.mv (.k (.v (.c (.p (.int .u32 0)))))))] []) (.seq (.seq (.reg [(oA 5 (.mv (.k (.v (.c (.p (.int .i64 0)))))))] []) (.block 0 (.loop 1 [0, 4, 5] (.seq (.seq (.reg [(oA 9 (.mv (.t 5))), (oA 10 (.mv (.t 0))), (oA 11 (.len 0 (.t 10))), (oA 12 (.bin .lss 0 (.t 9) (.t 11)))] []) (.cond (.t 12) .skip (.exit 0))) (.seq (.block 1 (.reg [(oA 15 (.mv (.t 4))), (oA 16 (.bin .mul 0 (.t 15) (.k (.v (.c (.p (.int .u32 16777619))))))), (oA 17 (.mv (.t 0))), (oA 18 (.mv (.t 5))), (oA 19 (.index (.t 17) (.t 18))), (oA 20 (.toInt .u32 (.t 19))), (oA 21 (.bin .add 0 (.t 16) (.t 20))), (oA 4 (.mv (.t 21)))] [])) (.reg [(oA 13 (.mv (.t 5))), (oA 14 (.bin .add 0 (.t 13) (.k (.v (.c (.p (.int .i64 1))))))), (oA 5 (.mv (.t 14)))] [])))))) (.mark 2 [0, 4] (.seq (.reg [(oA 6 (.mv (.k (.v (.c (.p (.int .u32 1))))))), (oA 7 (.mv (.k (.v (.c (.p (.int .u32 16777619)))))))] []) (.seq (.seq (.reg [(oA 22 (.mv (.t 0))), (oA 23 (.len 0 (.t 22))), (oA 8 (.mv (.t 23)))] []) (.block 2 (.loop 3 [4, 6, 7, 8] (.seq (.seq (.reg [(oA 24 (.mv (.t 8))), (oA 25 (.bin .gtr 0 (.t 24) (.k (.v (.c (.p (.int .i64 0)))))))] []) (.cond (.t 25) .skip (.exit 2))) (.seq (.block 3 (.seq (.seq (.reg [(oA 28 (.mv (.t 8))), (oA 29 (.bin .and 0 (.t 28) (.k (.v (.c (.p (.int .i64 1))))))), (oA 30 (.bin .neq 0 (.t 29) (.k (.v (.c (.p (.int .i64 0)))))))] []) (.cond (.t 30) (.reg [(oA 31 (.mv (.t 6))), (oA 32 (.mv (.t 7))), (oA 33 (.bin .mul 0 (.t 31) (.t 32))), (oA 6 (.mv (.t 33)))] []) .skip)) (.mark 4 [4, 6, 7, 8] (.reg [(oA 34 (.mv (.t 7))), (oA 35 (.mv (.t 7))), (oA 36 (.bin .mul 0 (.t 34) (.t 35))), (oA 7 (.mv (.t 36)))] [])))) (.reg [(oA 26 (.mv (.t 8))), (oA 27 (.bin .shr 0 (.t 26) (.k (.v (.c (.p (.int .u64 1))))))), (oA 8 (.mv (.t 27)))] [])))))) (.seq (.reg [(oA 37 (.mv (.t 4))), (oA 38 (.mv (.t 6))), (oA 2 (.mv (.t 37))), (oA 3 (.mv (.t 38)))] []) .ret))))))) }
theorem t52 : compF Tryd.prog (globs2 tabs opq) (fun _ => false) true Tryd.f52 = some c52.erase := by kernel_rfl
noncomputable def b52_0 (O : Oracle) (R : Jump) (q : Nat) (x0 : TVal) (h : Heap) : Res1 :=
 R 1 [x0, (.v (.c (.p (.int .u32 0)))), (kI 0)] h
theorem e52_0 (O : Oracle) (R : Jump) (q : Nat) (x0 : TVal) (h : Heap) : b52_0 O R q x0 h = stepF c52 O R q 0 [x0] h := by kernel_rfl
noncomputable def b52_1 (O : Oracle) (R : Jump) (q : Nat) (x0 x4 x5 : TVal) (h : Heap) : Res1 :=
 vlen O 0 x0 h 11 fun x11 h =>
 vbin .lss 0 x5 x11 h fun x12 h =>
 vif x12 (
 vbin .mul 0 x4 (.v (.c (.p (.int .u32 16777619)))) h fun x16 h =>
 vindex x0 x5 h fun x19 h =>
 vtoInt .u32 x19 h fun x20 h =>
 vbin .add 0 x16 x20 h fun x21 h =>
 vbin .add 0 x5 (kI 1) h fun x14 h =>
 R 1 [x0, x21, x14] h)
 (R 2 [x0, x4] h)
theorem e52_1 (O : Oracle) (R : Jump) (q : Nat) (x0 x4 x5 : TVal) (h : Heap) : b52_1 O R q x0 x4 x5 h = stepF c52 O R q 1 [x0, x4, x5] h := by kernel_rfl
noncomputable def b52_2 (O : Oracle) (R : Jump) (q : Nat) (x0 x4 : TVal) (h : Heap) : Res1 :=
 vlen O 0 x0 h 23 fun x23 h =>
 R 3 [x4, (.v (.c (.p (.int .u32 1)))), (.v (.c (.p (.int .u32 16777619)))), x23] h
theorem e52_2 (O : Oracle) (R : Jump) (q : Nat) (x0 x4 : TVal) (h : Heap) : b52_2 O R q x0 x4 h = stepF c52 O R q 2 [x0, x4] h := by kernel_rfl
noncomputable def b52_3 (O : Oracle) (R : Jump) (q : Nat) (x4 x6 x7 x8 : TVal) (h : Heap) : Res1 :=
 vbin .gtr 0 x8 (kI 0) h fun x25 h =>
 vif x25 (
 vbin .and 0 x8 (kI 1) h fun x29 h =>
 vbin .neq 0 x29 (kI 0) h fun x30 h =>
 vif x30 (
 vbin .mul 0 x6 x7 h fun x33 h =>
 R 4 [x4, x33, x7, x8] h)
 (R 4 [x4, x6, x7, x8] h))
 (tcomp x4 fun c0 => tcomp x6 fun c1 => vfin true q [c0, c1] h)
theorem e52_3 (O : Oracle) (R : Jump) (q : Nat) (x4 x6 x7 x8 : TVal) (h : Heap) : b52_3 O R q x4 x6 x7 x8 h = stepF c52 O R q 3 [x4, x6, x7, x8] h := by kernel_rfl
noncomputable def b52_4 (O : Oracle) (R : Jump) (q : Nat) (x4 x6 x7 x8 : TVal) (h : Heap) : Res1 :=
 vbin .mul 0 x7 x7 h fun x36 h =>
 vbin .shr 0 x8 (.v (.c (.p (.int .u64 1)))) h fun x27 h =>
 R 3 [x4, x6, x36, x27] h
theorem e52_4 (O : Oracle) (R : Jump) (q : Nat) (x4 x6 x7 x8 : TVal) (h : Heap) : b52_4 O R q x4 x6 x7 x8 h = stepF c52 O R q 4 [x4, x6, x7, x8] h := by kernel_rfl
noncomputable def d52 : BlkF := fun O R q => [.s fun y0 => .z fun h => b52_0 O R q y0 h, .s fun y0 => .s fun y1 => .s fun y2 => .z fun h => b52_1 O R q y0 y1 y2 h, .s fun y0 => .s fun y1 => .z fun h => b52_2 O R q y0 y1 h, .s fun y0 => .s fun y1 => .s fun y2 => .s fun y3 => .z fun h => b52_3 O R q y0 y1 y2 y3 h, .s fun y0 => .s fun y1 => .s fun y2 => .s fun y3 => .z fun h => b52_4 O R q y0 y1 y2 y3 h]
theorem o52 (O : Oracle) (R : Jump) (q : Nat) : HoldsAll c52 O R q 0 (d52 O R q) := ⟨fun y0 h => e52_0 O R q y0 h, fun y0 y1 y2 h => e52_1 O R q y0 y1 y2 h, fun y0 y1 h => e52_2 O R q y0 y1 h, fun y0 y1 y2 y3 h => e52_3 O R q y0 y1 y2 y3 h, fun y0 y1 y2 y3 h => e52_4 O R q y0 y1 y2 y3 h, trivial⟩
/- unicode.isExcludingLatin -/
def c53 : MFunc := { np := 2, res := [.t 4], frz := true, body := (.seq (.reg [(oA 4 (.mv (.k (.v (.c (.p (.bool false)))))))] []) (.seq (.reg [(oA 8 (.mv (.t 0))), (oA 9 (.nilck (.t 8))), (oA 10 (.faddr 0 (.t 9))), (oA 11 (.load false 1 (.t 10))), (oA 5 (.mv (.t 11)))] []) (.seq (.seq (.reg [(oA 12 (.mv (.t 0))), (oA 13 (.nilck (.t 12))), (oA 14 (.faddr 2 (.t 13))), (oA 15 (.load false 1 (.t 14))), (oA 6 (.mv (.t 15)))] []) (.seq (.reg [(oA 16 (.mv (.t 5))), (oA 17 (.len 2 (.t 16))), (oA 18 (.mv (.t 6))), (oA 19 (.bin .gtr 0 (.t 17) (.t 18))), (oA 20 (.mv (.t 19))), ⟨(some 21), (.mv (.t 1)), (some (20, true))⟩, ⟨(some 22), (.toInt .u32 (.t 21)), (some (20, true))⟩, ⟨(some 23), (.mv (.t 5)), (some (20, true))⟩, ⟨(some 24), (.mv (.t 5)), (some (20, true))⟩, ⟨(some 25), (.len 2 (.t 24)), (some (20, true))⟩, ⟨(some 26), (.bin .sub 0 (.t 25) (.k (.v (.c (.p (.int .i64 1)))))), (some (20, true))⟩, ⟨(some 27), (.iaddr 3 (.t 23) (.t 26)), (some (20, true))⟩, ⟨(some 28), (.faddr 1 (.t 27)), (some (20, true))⟩, ⟨(some 29), (.load false 1 (.t 28)), (some (20, true))⟩, ⟨(some 30), (.toInt .u32 (.t 29)), (some (20, true))⟩, ⟨(some 31), (.bin .leq 0 (.t 22) (.t 30)), (some (20, true))⟩, (oA 32 (.pick (.t 20) (.t 31) (.k (.v (.c (.p (.bool false)))))))] []) (.cond (.t 32) (.seq (.reg [(oA 33 (.mv (.t 5))), (oA 34 (.mv (.t 6))), (oA 35 (.slice 3 false (.t 33) (some (.t 34)) none none)), (oA 36 (.mv (.t 1))), (oA 37 (.toInt .u16 (.t 36))), (oA 38 (.call (.k (.v (.c (.func 54 [])))) [(.t 35), (.t 37)])), (oA 4 (.mv (.t 38)))] []) .ret) .skip))) (.seq (.reg [(oA 39 (.mv (.t 0))), (oA 40 (.nilck (.t 39))), (oA 41 (.faddr 1 (.t 40))), (oA 42 (.load false 1 (.t 41))), (oA 7 (.mv (.t 42)))] []) (.seq (.seq (.reg [(oA 43 (.mv (.t 7))), (oA 44 (.len 2 (.t 43))), (oA 45 (.bin .gtr 0 (.t 44) (.k (.v (.c (.p (.int .i64 0))))))), (oA 46 (.mv (.t 45))), ⟨(some 47), (.mv (.t 1)), (some (46, true))⟩, ⟨(some 48), (.mv (.t 7)), (some (46, true))⟩, ⟨(some 49), (.iaddr 3 (.t 48) (.k (.v (.c (.p (.int .i64 0)))))), (some (46, true))⟩, ⟨(some 50), (.faddr 0 (.t 49)), (some (46, true))⟩, ⟨(some 51), (.load false 1 (.t 50)), (some (46, true))⟩, ⟨(some 52), (.toInt .i32 (.t 51)), (some (46, true))⟩, ⟨(some 53), (.bin .geq 0 (.t 47) (.t 52)), (some (46, true))⟩, (oA 54 (.pick (.t 46) (.t 53) (.k (.v (.c (.p (.bool false)))))))] []) (.cond (.t 54) (.seq (.reg [(oA 55 (.mv (.t 7))), (oA 56 (.mv (.t 1))), (oA 57 (.toInt .u32 (.t 56))), (oA 58 (.call (.k (.v (.c (.func 55 [])))) [(.t 55), (.t 57)])), (oA 4 (.mv (.t 58)))] []) .ret) .skip)) (.seq (.reg [(oA 4 (.mv (.k (.v (.c (.p (.bool false)))))))] []) .ret)))))) }
theorem t53 : compF Tryd.prog (globs2 tabs opq) (fun _ => false) true Tryd.f53 = some c53.erase := by kernel_rfl
noncomputable def b53_0 (O : Oracle) (R : Jump) (q : Nat) (x0 x1 : TVal) (h : Heap) : Res1 :=
 vop O (.nilck (.k x0)) h 9 fun x9 h =>
 vfaddr 0 x9 h fun x10 h =>
 vload false 1 x10 h fun x11 h =>
 vop O (.nilck (.k x0)) h 13 fun x13 h =>
 vfaddr 2 x13 h fun x14 h =>
 vload false 1 x14 h fun x15 h =>
 vlen O 2 x11 h 17 fun x17 h =>
 vbin .gtr 0 x17 x15 h fun x19 h =>
 vguard x19 true (fun kk => kk x1 h) h fun x21 h =>
 vguard x19 true (fun kk => vtoInt .u32 x21 h kk) h fun x22 h =>
 vguard x19 true (fun kk => kk x11 h) h fun x23 h =>
 vguard x19 true (fun kk => kk x11 h) h fun x24 h =>
 vguard x19 true (fun kk => vlen O 2 x24 h 25 kk) h fun x25 h =>
 vguard x19 true (fun kk => vbin .sub 0 x25 (kI 1) h kk) h fun x26 h =>
 vguard x19 true (fun kk => viaddr 3 x23 x26 h kk) h fun x27 h =>
 vguard x19 true (fun kk => vfaddr 1 x27 h kk) h fun x28 h =>
 vguard x19 true (fun kk => vload false 1 x28 h kk) h fun x29 h =>
 vguard x19 true (fun kk => vtoInt .u32 x29 h kk) h fun x30 h =>
 vguard x19 true (fun kk => vbin .leq 0 x22 x30 h kk) h fun x31 h =>
 vop O (.pick (.k x19) (.k x31) (.k (kB false))) h 32 fun x32 h =>
 vif x32 (
 vop O (.slice 3 false (.k x11) (some (.k x15)) none none) h 35 fun x35 h =>
 vtoInt .u16 x1 h fun x37 h =>
 vcall O (.v (.c (.func 54 []))) [x35, x37] h 38 fun x38 h =>
 tcomp x38 fun c0 => vfin true q [c0] h)
 (vop O (.nilck (.k x0)) h 40 fun x40 h =>
 vfaddr 1 x40 h fun x41 h =>
 vload false 1 x41 h fun x42 h =>
 vlen O 2 x42 h 44 fun x44 h =>
 vbin .gtr 0 x44 (kI 0) h fun x45 h =>
 vguard x45 true (fun kk => kk x1 h) h fun x47 h =>
 vguard x45 true (fun kk => kk x42 h) h fun x48 h =>
 vguard x45 true (fun kk => viaddr 3 x48 (kI 0) h kk) h fun x49 h =>
 vguard x45 true (fun kk => vfaddr 0 x49 h kk) h fun x50 h =>
 vguard x45 true (fun kk => vload false 1 x50 h kk) h fun x51 h =>
 vguard x45 true (fun kk => vtoInt .i32 x51 h kk) h fun x52 h =>
 vguard x45 true (fun kk => vbin .geq 0 x47 x52 h kk) h fun x53 h =>
 vop O (.pick (.k x45) (.k x53) (.k (kB false))) h 54 fun x54 h =>
 vif x54 (
 vtoInt .u32 x1 h fun x57 h =>
 vcall O (.v (.c (.func 55 []))) [x42, x57] h 58 fun x58 h =>
 tcomp x58 fun c0 => vfin true q [c0] h)
 (tcomp (kB false) fun c0 => vfin true q [c0] h))
theorem e53_0 (O : Oracle) (R : Jump) (q : Nat) (x0 x1 : TVal) (h : Heap) : b53_0 O R q x0 x1 h = stepF c53 O R q 0 [x0, x1] h := by kernel_rfl
noncomputable def d53 : BlkF := fun O R q => [.s fun y0 => .s fun y1 => .z fun h => b53_0 O R q y0 y1 h]
theorem o53 (O : Oracle) (R : Jump) (q : Nat) : HoldsAll c53 O R q 0 (d53 O R q) := ⟨fun y0 y1 h => e53_0 O R q y0 y1 h, trivial⟩
/- unicode.is16 -/
def c54 : MFunc := { np := 2, res := [.t 4], frz := true, body := (.seq (.reg [(oA 4 (.mv (.k (.v (.c (.p (.bool false)))))))] []) (.seq (.seq (.reg [(oA 11 (.mv (.t 0))), (oA 12 (.len 2 (.t 11))), (oA 13 (.bin .leq 0 (.t 12) (.k (.v (.c (.p (.int .i64 18))))))), (oA 14 (.mv (.t 13))), ⟨(some 15), (.mv (.t 1)), (some (14, false))⟩, ⟨(some 16), (.bin .leq 0 (.t 15) (.k (.v (.c (.p (.int .u16 255)))))), (some (14, false))⟩, (oA 17 (.pick (.t 14) (.k (.v (.c (.p (.bool true))))) (.t 16)))] []) (.cond (.t 17) (.seq (.seq (.reg [(oA 18 (.mv (.t 0))), (oA 19 (.len 2 (.t 18))), (oA 20 (.mv (.k (.v (.c (.p (.int .i64 0)))))))] []) (.block 0 (.loop 1 [0, 1, 19, 20] (.seq (.reg [(oA 21 (.bin .lss 0 (.t 20) (.t 19)))] []) (.seq (.cond (.t 21) .skip (.exit 0)) (.seq (.block 1 (.seq (.reg [(oA 22 (.mv (.t 20))), (oA 5 (.mv (.t 22)))] []) (.seq (.reg [(oA 23 (.mv (.t 0))), (oA 24 (.mv (.t 5))), (oA 25 (.iaddr 3 (.t 23) (.t 24))), (oA 6 (.mv (.t 25)))] []) (.seq (.seq (.reg [(oA 26 (.mv (.t 1))), (oA 27 (.mv (.t 6))), (oA 28 (.nilck (.t 27))), (oA 29 (.faddr 0 (.t 28))), (oA 30 (.load false 1 (.t 29))), (oA 31 (.bin .lss 0 (.t 26) (.t 30)))] []) (.cond (.t 31) (.seq (.reg [(oA 4 (.mv (.k (.v (.c (.p (.bool false)))))))] []) .ret) .skip)) (.seq (.reg [(oA 32 (.mv (.t 1))), (oA 33 (.mv (.t 6))), (oA 34 (.nilck (.t 33))), (oA 35 (.faddr 1 (.t 34))), (oA 36 (.load false 1 (.t 35))), (oA 37 (.bin .leq 0 (.t 32) (.t 36)))] []) (.cond (.t 37) (.seq (.reg [(oA 38 (.mv (.t 6))), (oA 39 (.nilck (.t 38))), (oA 40 (.faddr 2 (.t 39))), (oA 41 (.load false 1 (.t 40))), (oA 42 (.bin .eql 0 (.t 41) (.k (.v (.c (.p (.int .u16 1))))))), (oA 43 (.mv (.t 42))), ⟨(some 44), (.mv (.t 1)), (some (43, false))⟩, ⟨(some 45), (.mv (.t 6)), (some (43, false))⟩, ⟨(some 46), (.nilck (.t 45)), (some (43, false))⟩, ⟨(some 47), (.faddr 0 (.t 46)), (some (43, false))⟩, ⟨(some 48), (.load false 1 (.t 47)), (some (43, false))⟩, ⟨(some 49), (.bin .sub 0 (.t 44) (.t 48)), (some (43, false))⟩, ⟨(some 50), (.mv (.t 6)), (some (43, false))⟩, ⟨(some 51), (.nilck (.t 50)), (some (43, false))⟩, ⟨(some 52), (.faddr 2 (.t 51)), (some (43, false))⟩, ⟨(some 53), (.load false 1 (.t 52)), (some (43, false))⟩, ⟨(some 54), (.bin .rem 0 (.t 49) (.t 53)), (some (43, false))⟩, ⟨(some 55), (.bin .eql 0 (.t 54) (.k (.v (.c (.p (.int .u16 0)))))), (some (43, false))⟩, (oA 56 (.pick (.t 43) (.k (.v (.c (.p (.bool true))))) (.t 55))), (oA 4 (.mv (.t 56)))] []) .ret) .skip)))))) (.reg [(oA 57 (.bin .add 0 (.t 20) (.k (.v (.c (.p (.int .i64 1))))))), (oA 20 (.mv (.t 57)))] []))))))) (.mark 2 [] (.seq (.reg [(oA 4 (.mv (.k (.v (.c (.p (.bool false)))))))] []) .ret))) .skip)) (.mark 3 [0, 1] (.seq (.reg [(oA 7 (.mv (.k (.v (.c (.p (.int .i64 0)))))))] []) (.seq (.reg [(oA 58 (.mv (.t 0))), (oA 59 (.len 2 (.t 58))), (oA 8 (.mv (.t 59)))] []) (.seq (.block 2 (.loop 4 [0, 1, 7, 8] (.seq (.seq (.reg [(oA 60 (.mv (.t 7))), (oA 61 (.mv (.t 8))), (oA 62 (.bin .lss 0 (.t 60) (.t 61)))] []) (.cond (.t 62) .skip (.exit 2))) (.block 3 (.seq (.reg [(oA 63 (.mv (.t 7))), (oA 64 (.mv (.t 8))), (oA 65 (.bin .add 0 (.t 63) (.t 64))), (oA 66 (.toInt .u64 (.t 65))), (oA 67 (.bin .shr 0 (.t 66) (.k (.v (.c (.p (.int .u64 1))))))), (oA 68 (.toInt .i64 (.t 67))), (oA 9 (.mv (.t 68)))] []) (.seq (.reg [(oA 69 (.mv (.t 0))), (oA 70 (.mv (.t 9))), (oA 71 (.iaddr 3 (.t 69) (.t 70))), (oA 10 (.mv (.t 71)))] []) (.seq (.seq (.reg [(oA 72 (.mv (.t 10))), (oA 73 (.nilck (.t 72))), (oA 74 (.faddr 0 (.t 73))), (oA 75 (.load false 1 (.t 74))), (oA 76 (.mv (.t 1))), (oA 77 (.bin .leq 0 (.t 75) (.t 76))), (oA 78 (.mv (.t 77))), ⟨(some 79), (.mv (.t 1)), (some (78, true))⟩, ⟨(some 80), (.mv (.t 10)), (some (78, true))⟩, ⟨(some 81), (.nilck (.t 80)), (some (78, true))⟩, ⟨(some 82), (.faddr 1 (.t 81)), (some (78, true))⟩, ⟨(some 83), (.load false 1 (.t 82)), (some (78, true))⟩, ⟨(some 84), (.bin .leq 0 (.t 79) (.t 83)), (some (78, true))⟩, (oA 85 (.pick (.t 78) (.t 84) (.k (.v (.c (.p (.bool false)))))))] []) (.cond (.t 85) (.seq (.reg [(oA 86 (.mv (.t 10))), (oA 87 (.nilck (.t 86))), (oA 88 (.faddr 2 (.t 87))), (oA 89 (.load false 1 (.t 88))), (oA 90 (.bin .eql 0 (.t 89) (.k (.v (.c (.p (.int .u16 1))))))), (oA 91 (.mv (.t 90))), ⟨(some 92), (.mv (.t 1)), (some (91, false))⟩, ⟨(some 93), (.mv (.t 10)), (some (91, false))⟩, ⟨(some 94), (.nilck (.t 93)), (some (91, false))⟩, ⟨(some 95), (.faddr 0 (.t 94)), (some (91, false))⟩, ⟨(some 96), (.load false 1 (.t 95)), (some (91, false))⟩, ⟨(some 97), (.bin .sub 0 (.t 92) (.t 96)), (some (91, false))⟩, ⟨(some 98), (.mv (.t 10)), (some (91, false))⟩, ⟨(some 99), (.nilck (.t 98)), (some (91, false))⟩, ⟨(some 100), (.faddr 2 (.t 99)), (some (91, false))⟩, ⟨(some 101), (.load false 1 (.t 100)), (some (91, false))⟩, ⟨(some 102), (.bin .rem 0 (.t 97) (.t 101)), (some (91, false))⟩, ⟨(some 103), (.bin .eql 0 (.t 102) (.k (.v (.c (.p (.int .u16 0)))))), (some (91, false))⟩, (oA 104 (.pick (.t 91) (.k (.v (.c (.p (.bool true))))) (.t 103))), (oA 4 (.mv (.t 104)))] []) .ret) .skip)) (.seq (.reg [(oA 105 (.mv (.t 1))), (oA 106 (.mv (.t 10))), (oA 107 (.nilck (.t 106))), (oA 108 (.faddr 0 (.t 107))), (oA 109 (.load false 1 (.t 108))), (oA 110 (.bin .lss 0 (.t 105) (.t 109)))] []) (.cond (.t 110) (.reg [(oA 111 (.mv (.t 9))), (oA 8 (.mv (.t 111)))] []) (.reg [(oA 112 (.mv (.t 9))), (oA 113 (.bin .add 0 (.t 112) (.k (.v (.c (.p (.int .i64 1))))))), (oA 7 (.mv (.t 113)))] [])))))))))) (.seq (.reg [(oA 4 (.mv (.k (.v (.c (.p (.bool false)))))))] []) .ret))))))) }
theorem t54 : compF Tryd.prog (globs2 tabs opq) (fun _ => false) true Tryd.f54 = some c54.erase := by kernel_rfl
noncomputable def b54_0 (O : Oracle) (R : Jump) (q : Nat) (x0 x1 : TVal) (h : Heap) : Res1 :=
 vlen O 2 x0 h 12 fun x12 h =>
 vbin .leq 0 x12 (kI 18) h fun x13 h =>
 vguard x13 false (fun kk => kk x1 h) h fun x15 h =>
 vguard x13 false (fun kk => vbin .leq 0 x15 (.v (.c (.p (.int .u16 255)))) h kk) h fun x16 h =>
 vop O (.pick (.k x13) (.k (kB true)) (.k x16)) h 17 fun x17 h =>
 vif x17 (
 vlen O 2 x0 h 19 fun x19 h =>
 R 1 [x0, x1, x19, (kI 0)] h)
 (R 3 [x0, x1] h)
theorem e54_0 (O : Oracle) (R : Jump) (q : Nat) (x0 x1 : TVal) (h : Heap) : b54_0 O R q x0 x1 h = stepF c54 O R q 0 [x0, x1] h := by kernel_rfl
noncomputable def b54_1 (O : Oracle) (R : Jump) (q : Nat) (x0 x1 x19 x20 : TVal) (h : Heap) : Res1 :=
 vbin .lss 0 x20 x19 h fun x21 h =>
 vif x21 (
 viaddr 3 x0 x20 h fun x25 h =>
 vop O (.nilck (.k x25)) h 28 fun x28 h =>
 vfaddr 0 x28 h fun x29 h =>
 vload false 1 x29 h fun x30 h =>
 vbin .lss 0 x1 x30 h fun x31 h =>
 vif x31 (
 tcomp (kB false) fun c0 => vfin true q [c0] h)
 (vop O (.nilck (.k x25)) h 34 fun x34 h =>
 vfaddr 1 x34 h fun x35 h =>
 vload false 1 x35 h fun x36 h =>
 vbin .leq 0 x1 x36 h fun x37 h =>
 vif x37 (
 vop O (.nilck (.k x25)) h 39 fun x39 h =>
 vfaddr 2 x39 h fun x40 h =>
 vload false 1 x40 h fun x41 h =>
 vbin .eql 0 x41 (.v (.c (.p (.int .u16 1)))) h fun x42 h =>
 vguard x42 false (fun kk => kk x1 h) h fun x44 h =>
 vguard x42 false (fun kk => kk x25 h) h fun x45 h =>
 vguard x42 false (fun kk => vop O (.nilck (.k x45)) h 46 kk) h fun x46 h =>
 vguard x42 false (fun kk => vfaddr 0 x46 h kk) h fun x47 h =>
 vguard x42 false (fun kk => vload false 1 x47 h kk) h fun x48 h =>
 vguard x42 false (fun kk => vbin .sub 0 x44 x48 h kk) h fun x49 h =>
 vguard x42 false (fun kk => kk x25 h) h fun x50 h =>
 vguard x42 false (fun kk => vop O (.nilck (.k x50)) h 51 kk) h fun x51 h =>
 vguard x42 false (fun kk => vfaddr 2 x51 h kk) h fun x52 h =>
 vguard x42 false (fun kk => vload false 1 x52 h kk) h fun x53 h =>
 vguard x42 false (fun kk => vbin .rem 0 x49 x53 h kk) h fun x54 h =>
 vguard x42 false (fun kk => vbin .eql 0 x54 (.v (.c (.p (.int .u16 0)))) h kk) h fun x55 h =>
 vop O (.pick (.k x42) (.k (kB true)) (.k x55)) h 56 fun x56 h =>
 tcomp x56 fun c0 => vfin true q [c0] h)
 (vbin .add 0 x20 (kI 1) h fun x57 h =>
 R 1 [x0, x1, x19, x57] h)))
 (R 2 [] h)
theorem e54_1 (O : Oracle) (R : Jump) (q : Nat) (x0 x1 x19 x20 : TVal) (h : Heap) : b54_1 O R q x0 x1 x19 x20 h = stepF c54 O R q 1 [x0, x1, x19, x20] h := by kernel_rfl
noncomputable def b54_2 (O : Oracle) (R : Jump) (q : Nat) (h : Heap) : Res1 :=
 tcomp (kB false) fun c0 => vfin true q [c0] h
theorem e54_2 (O : Oracle) (R : Jump) (q : Nat) (h : Heap) : b54_2 O R q  h = stepF c54 O R q 2 [] h := by kernel_rfl
noncomputable def b54_3 (O : Oracle) (R : Jump) (q : Nat) (x0 x1 : TVal) (h : Heap) : Res1 :=
 vlen O 2 x0 h 59 fun x59 h =>
 R 4 [x0, x1, (kI 0), x59] h
theorem e54_3 (O : Oracle) (R : Jump) (q : Nat) (x0 x1 : TVal) (h : Heap) : b54_3 O R q x0 x1 h = stepF c54 O R q 3 [x0, x1] h := by kernel_rfl
noncomputable def b54_4 (O : Oracle) (R : Jump) (q : Nat) (x0 x1 x7 x8 : TVal) (h : Heap) : Res1 :=
 vbin .lss 0 x7 x8 h fun x62 h =>
 vif x62 (
 vbin .add 0 x7 x8 h fun x65 h =>
 vtoInt .u64 x65 h fun x66 h =>
 vbin .shr 0 x66 (.v (.c (.p (.int .u64 1)))) h fun x67 h =>
 vtoInt .i64 x67 h fun x68 h =>
 viaddr 3 x0 x68 h fun x71 h =>
 vop O (.nilck (.k x71)) h 73 fun x73 h =>
 vfaddr 0 x73 h fun x74 h =>
 vload false 1 x74 h fun x75 h =>
 vbin .leq 0 x75 x1 h fun x77 h =>
 vguard x77 true (fun kk => kk x1 h) h fun x79 h =>
 vguard x77 true (fun kk => kk x71 h) h fun x80 h =>
 vguard x77 true (fun kk => vop O (.nilck (.k x80)) h 81 kk) h fun x81 h =>
 vguard x77 true (fun kk => vfaddr 1 x81 h kk) h fun x82 h =>
 vguard x77 true (fun kk => vload false 1 x82 h kk) h fun x83 h =>
 vguard x77 true (fun kk => vbin .leq 0 x79 x83 h kk) h fun x84 h =>
 vop O (.pick (.k x77) (.k x84) (.k (kB false))) h 85 fun x85 h =>
 vif x85 (
 vop O (.nilck (.k x71)) h 87 fun x87 h =>
 vfaddr 2 x87 h fun x88 h =>
 vload false 1 x88 h fun x89 h =>
 vbin .eql 0 x89 (.v (.c (.p (.int .u16 1)))) h fun x90 h =>
 vguard x90 false (fun kk => kk x1 h) h fun x92 h =>
 vguard x90 false (fun kk => kk x71 h) h fun x93 h =>
 vguard x90 false (fun kk => vop O (.nilck (.k x93)) h 94 kk) h fun x94 h =>
 vguard x90 false (fun kk => vfaddr 0 x94 h kk) h fun x95 h =>
 vguard x90 false (fun kk => vload false 1 x95 h kk) h fun x96 h =>
 vguard x90 false (fun kk => vbin .sub 0 x92 x96 h kk) h fun x97 h =>
 vguard x90 false (fun kk => kk x71 h) h fun x98 h =>
 vguard x90 false (fun kk => vop O (.nilck (.k x98)) h 99 kk) h fun x99 h =>
 vguard x90 false (fun kk => vfaddr 2 x99 h kk) h fun x100 h =>
 vguard x90 false (fun kk => vload false 1 x100 h kk) h fun x101 h =>
 vguard x90 false (fun kk => vbin .rem 0 x97 x101 h kk) h fun x102 h =>
 vguard x90 false (fun kk => vbin .eql 0 x102 (.v (.c (.p (.int .u16 0)))) h kk) h fun x103 h =>
 vop O (.pick (.k x90) (.k (kB true)) (.k x103)) h 104 fun x104 h =>
 tcomp x104 fun c0 => vfin true q [c0] h)
 (vop O (.nilck (.k x71)) h 107 fun x107 h =>
 vfaddr 0 x107 h fun x108 h =>
 vload false 1 x108 h fun x109 h =>
 vbin .lss 0 x1 x109 h fun x110 h =>
 vif x110 (
 R 4 [x0, x1, x7, x68] h)
 (vbin .add 0 x68 (kI 1) h fun x113 h =>
 R 4 [x0, x1, x113, x8] h)))
 (tcomp (kB false) fun c0 => vfin true q [c0] h)
theorem e54_4 (O : Oracle) (R : Jump) (q : Nat) (x0 x1 x7 x8 : TVal) (h : Heap) : b54_4 O R q x0 x1 x7 x8 h = stepF c54 O R q 4 [x0, x1, x7, x8] h := by kernel_rfl
noncomputable def d54 : BlkF := fun O R q => [.s fun y0 => .s fun y1 => .z fun h => b54_0 O R q y0 y1 h, .s fun y0 => .s fun y1 => .s fun y2 => .s fun y3 => .z fun h => b54_1 O R q y0 y1 y2 y3 h, .z fun h => b54_2 O R q  h, .s fun y0 => .s fun y1 => .z fun h => b54_3 O R q y0 y1 h, .s fun y0 => .s fun y1 => .s fun y2 => .s fun y3 => .z fun h => b54_4 O R q y0 y1 y2 y3 h]
theorem o54 (O : Oracle) (R : Jump) (q : Nat) : HoldsAll c54 O R q 0 (d54 O R q) := ⟨fun y0 y1 h => e54_0 O R q y0 y1 h, fun y0 y1 y2 y3 h => e54_1 O R q y0 y1 y2 y3 h, fun  h => e54_2 O R q  h, fun y0 y1 h => e54_3 O R q y0 y1 h, fun y0 y1 y2 y3 h => e54_4 O R q y0 y1 y2 y3 h, trivial⟩
/- unicode.is32 -/
def c55 : MFunc := { np := 2, res := [.t 4], frz := true, body := (.seq (.reg [(oA 4 (.mv (.k (.v (.c (.p (.bool false)))))))] []) (.seq (.seq (.reg [(oA 11 (.mv (.t 0))), (oA 12 (.len 2 (.t 11))), (oA 13 (.bin .leq 0 (.t 12) (.k (.v (.c (.p (.int .i64 18)))))))] []) (.cond (.t 13) (.seq (.seq (.reg [(oA 14 (.mv (.t 0))), (oA 15 (.len 2 (.t 14))), (oA 16 (.mv (.k (.v (.c (.p (.int .i64 0)))))))] []) (.block 0 (.loop 1 [0, 1, 15, 16] (.seq (.reg [(oA 17 (.bin .lss 0 (.t 16) (.t 15)))] []) (.seq (.cond (.t 17) .skip (.exit 0)) (.seq (.block 1 (.seq (.reg [(oA 18 (.mv (.t 16))), (oA 5 (.mv (.t 18)))] []) (.seq (.reg [(oA 19 (.mv (.t 0))), (oA 20 (.mv (.t 5))), (oA 21 (.iaddr 3 (.t 19) (.t 20))), (oA 6 (.mv (.t 21)))] []) (.seq (.seq (.reg [(oA 22 (.mv (.t 1))), (oA 23 (.mv (.t 6))), (oA 24 (.nilck (.t 23))), (oA 25 (.faddr 0 (.t 24))), (oA 26 (.load false 1 (.t 25))), (oA 27 (.bin .lss 0 (.t 22) (.t 26)))] []) (.cond (.t 27) (.seq (.reg [(oA 4 (.mv (.k (.v (.c (.p (.bool false)))))))] []) .ret) .skip)) (.seq (.reg [(oA 28 (.mv (.t 1))), (oA 29 (.mv (.t 6))), (oA 30 (.nilck (.t 29))), (oA 31 (.faddr 1 (.t 30))), (oA 32 (.load false 1 (.t 31))), (oA 33 (.bin .leq 0 (.t 28) (.t 32)))] []) (.cond (.t 33) (.seq (.reg [(oA 34 (.mv (.t 6))), (oA 35 (.nilck (.t 34))), (oA 36 (.faddr 2 (.t 35))), (oA 37 (.load false 1 (.t 36))), (oA 38 (.bin .eql 0 (.t 37) (.k (.v (.c (.p (.int .u32 1))))))), (oA 39 (.mv (.t 38))), ⟨(some 40), (.mv (.t 1)), (some (39, false))⟩, ⟨(some 41), (.mv (.t 6)), (some (39, false))⟩, ⟨(some 42), (.nilck (.t 41)), (some (39, false))⟩, ⟨(some 43), (.faddr 0 (.t 42)), (some (39, false))⟩, ⟨(some 44), (.load false 1 (.t 43)), (some (39, false))⟩, ⟨(some 45), (.bin .sub 0 (.t 40) (.t 44)), (some (39, false))⟩, ⟨(some 46), (.mv (.t 6)), (some (39, false))⟩, ⟨(some 47), (.nilck (.t 46)), (some (39, false))⟩, ⟨(some 48), (.faddr 2 (.t 47)), (some (39, false))⟩, ⟨(some 49), (.load false 1 (.t 48)), (some (39, false))⟩, ⟨(some 50), (.bin .rem 0 (.t 45) (.t 49)), (some (39, false))⟩, ⟨(some 51), (.bin .eql 0 (.t 50) (.k (.v (.c (.p (.int .u32 0)))))), (some (39, false))⟩, (oA 52 (.pick (.t 39) (.k (.v (.c (.p (.bool true))))) (.t 51))), (oA 4 (.mv (.t 52)))] []) .ret) .skip)))))) (.reg [(oA 53 (.bin .add 0 (.t 16) (.k (.v (.c (.p (.int .i64 1))))))), (oA 16 (.mv (.t 53)))] []))))))) (.mark 2 [] (.seq (.reg [(oA 4 (.mv (.k (.v (.c (.p (.bool false)))))))] []) .ret))) .skip)) (.mark 3 [0, 1] (.seq (.reg [(oA 7 (.mv (.k (.v (.c (.p (.int .i64 0)))))))] []) (.seq (.reg [(oA 54 (.mv (.t 0))), (oA 55 (.len 2 (.t 54))), (oA 8 (.mv (.t 55)))] []) (.seq (.block 2 (.loop 4 [0, 1, 7, 8] (.seq (.seq (.reg [(oA 56 (.mv (.t 7))), (oA 57 (.mv (.t 8))), (oA 58 (.bin .lss 0 (.t 56) (.t 57)))] []) (.cond (.t 58) .skip (.exit 2))) (.block 3 (.seq (.reg [(oA 59 (.mv (.t 7))), (oA 60 (.mv (.t 8))), (oA 61 (.bin .add 0 (.t 59) (.t 60))), (oA 62 (.toInt .u64 (.t 61))), (oA 63 (.bin .shr 0 (.t 62) (.k (.v (.c (.p (.int .u64 1))))))), (oA 64 (.toInt .i64 (.t 63))), (oA 9 (.mv (.t 64)))] []) (.seq (.reg [(oA 65 (.mv (.t 0))), (oA 66 (.mv (.t 9))), (oA 67 (.iaddr 3 (.t 65) (.t 66))), (oA 68 (.load true 3 (.t 67))), (oA 10 (.alloc [(.p (.int .u32 0)), (.p (.int .u32 0)), (.p (.int .u32 0))] false)), (oN (.store 3 (.t 10) (.t 68)))] []) (.seq (.seq (.reg [(oA 69 (.faddr 0 (.t 10))), (oA 70 (.load false 1 (.t 69))), (oA 71 (.mv (.t 1))), (oA 72 (.bin .leq 0 (.t 70) (.t 71))), (oA 73 (.mv (.t 72))), ⟨(some 74), (.mv (.t 1)), (some (73, true))⟩, ⟨(some 75), (.faddr 1 (.t 10)), (some (73, true))⟩, ⟨(some 76), (.load false 1 (.t 75)), (some (73, true))⟩, ⟨(some 77), (.bin .leq 0 (.t 74) (.t 76)), (some (73, true))⟩, (oA 78 (.pick (.t 73) (.t 77) (.k (.v (.c (.p (.bool false)))))))] []) (.cond (.t 78) (.seq (.reg [(oA 79 (.faddr 2 (.t 10))), (oA 80 (.load false 1 (.t 79))), (oA 81 (.bin .eql 0 (.t 80) (.k (.v (.c (.p (.int .u32 1))))))), (oA 82 (.mv (.t 81))), ⟨(some 83), (.mv (.t 1)), (some (82, false))⟩, ⟨(some 84), (.faddr 0 (.t 10)), (some (82, false))⟩, ⟨(some 85), (.load false 1 (.t 84)), (some (82, false))⟩, ⟨(some 86), (.bin .sub 0 (.t 83) (.t 85)), (some (82, false))⟩, ⟨(some 87), (.faddr 2 (.t 10)), (some (82, false))⟩, ⟨(some 88), (.load false 1 (.t 87)), (some (82, false))⟩, ⟨(some 89), (.bin .rem 0 (.t 86) (.t 88)), (some (82, false))⟩, ⟨(some 90), (.bin .eql 0 (.t 89) (.k (.v (.c (.p (.int .u32 0)))))), (some (82, false))⟩, (oA 91 (.pick (.t 82) (.k (.v (.c (.p (.bool true))))) (.t 90))), (oA 4 (.mv (.t 91)))] []) .ret) .skip)) (.seq (.reg [(oA 92 (.mv (.t 1))), (oA 93 (.faddr 0 (.t 10))), (oA 94 (.load false 1 (.t 93))), (oA 95 (.bin .lss 0 (.t 92) (.t 94)))] []) (.cond (.t 95) (.reg [(oA 96 (.mv (.t 9))), (oA 8 (.mv (.t 96)))] []) (.reg [(oA 97 (.mv (.t 9))), (oA 98 (.bin .add 0 (.t 97) (.k (.v (.c (.p (.int .i64 1))))))), (oA 7 (.mv (.t 98)))] [])))))))))) (.seq (.reg [(oA 4 (.mv (.k (.v (.c (.p (.bool false)))))))] []) .ret))))))) }
theorem t55 : compF Tryd.prog (globs2 tabs opq) (fun _ => false) true Tryd.f55 = some c55.erase := by kernel_rfl
noncomputable def b55_0 (O : Oracle) (R : Jump) (q : Nat) (x0 x1 : TVal) (h : Heap) : Res1 :=
 vlen O 2 x0 h 12 fun x12 h =>
 vbin .leq 0 x12 (kI 18) h fun x13 h =>
 vif x13 (
 vlen O 2 x0 h 15 fun x15 h =>
 R 1 [x0, x1, x15, (kI 0)] h)
 (R 3 [x0, x1] h)
theorem e55_0 (O : Oracle) (R : Jump) (q : Nat) (x0 x1 : TVal) (h : Heap) : b55_0 O R q x0 x1 h = stepF c55 O R q 0 [x0, x1] h := by kernel_rfl
noncomputable def b55_1 (O : Oracle) (R : Jump) (q : Nat) (x0 x1 x15 x16 : TVal) (h : Heap) : Res1 :=
 vbin .lss 0 x16 x15 h fun x17 h =>
 vif x17 (
 viaddr 3 x0 x16 h fun x21 h =>
 vop O (.nilck (.k x21)) h 24 fun x24 h =>
 vfaddr 0 x24 h fun x25 h =>
 vload false 1 x25 h fun x26 h =>
 vbin .lss 0 x1 x26 h fun x27 h =>
 vif x27 (
 tcomp (kB false) fun c0 => vfin true q [c0] h)
 (vop O (.nilck (.k x21)) h 30 fun x30 h =>
 vfaddr 1 x30 h fun x31 h =>
 vload false 1 x31 h fun x32 h =>
 vbin .leq 0 x1 x32 h fun x33 h =>
 vif x33 (
 vop O (.nilck (.k x21)) h 35 fun x35 h =>
 vfaddr 2 x35 h fun x36 h =>
 vload false 1 x36 h fun x37 h =>
 vbin .eql 0 x37 (.v (.c (.p (.int .u32 1)))) h fun x38 h =>
 vguard x38 false (fun kk => kk x1 h) h fun x40 h =>
 vguard x38 false (fun kk => kk x21 h) h fun x41 h =>
 vguard x38 false (fun kk => vop O (.nilck (.k x41)) h 42 kk) h fun x42 h =>
 vguard x38 false (fun kk => vfaddr 0 x42 h kk) h fun x43 h =>
 vguard x38 false (fun kk => vload false 1 x43 h kk) h fun x44 h =>
 vguard x38 false (fun kk => vbin .sub 0 x40 x44 h kk) h fun x45 h =>
 vguard x38 false (fun kk => kk x21 h) h fun x46 h =>
 vguard x38 false (fun kk => vop O (.nilck (.k x46)) h 47 kk) h fun x47 h =>
 vguard x38 false (fun kk => vfaddr 2 x47 h kk) h fun x48 h =>
 vguard x38 false (fun kk => vload false 1 x48 h kk) h fun x49 h =>
 vguard x38 false (fun kk => vbin .rem 0 x45 x49 h kk) h fun x50 h =>
 vguard x38 false (fun kk => vbin .eql 0 x50 (.v (.c (.p (.int .u32 0)))) h kk) h fun x51 h =>
 vop O (.pick (.k x38) (.k (kB true)) (.k x51)) h 52 fun x52 h =>
 tcomp x52 fun c0 => vfin true q [c0] h)
 (vbin .add 0 x16 (kI 1) h fun x53 h =>
 R 1 [x0, x1, x15, x53] h)))
 (R 2 [] h)
theorem e55_1 (O : Oracle) (R : Jump) (q : Nat) (x0 x1 x15 x16 : TVal) (h : Heap) : b55_1 O R q x0 x1 x15 x16 h = stepF c55 O R q 1 [x0, x1, x15, x16] h := by kernel_rfl
noncomputable def b55_2 (O : Oracle) (R : Jump) (q : Nat) (h : Heap) : Res1 :=
 tcomp (kB false) fun c0 => vfin true q [c0] h
theorem e55_2 (O : Oracle) (R : Jump) (q : Nat) (h : Heap) : b55_2 O R q  h = stepF c55 O R q 2 [] h := by kernel_rfl
noncomputable def b55_3 (O : Oracle) (R : Jump) (q : Nat) (x0 x1 : TVal) (h : Heap) : Res1 :=
 vlen O 2 x0 h 55 fun x55 h =>
 R 4 [x0, x1, (kI 0), x55] h
theorem e55_3 (O : Oracle) (R : Jump) (q : Nat) (x0 x1 : TVal) (h : Heap) : b55_3 O R q x0 x1 h = stepF c55 O R q 3 [x0, x1] h := by kernel_rfl
noncomputable def b55_4 (O : Oracle) (R : Jump) (q : Nat) (x0 x1 x7 x8 : TVal) (h : Heap) : Res1 :=
 vbin .lss 0 x7 x8 h fun x58 h =>
 vif x58 (
 vbin .add 0 x7 x8 h fun x61 h =>
 vtoInt .u64 x61 h fun x62 h =>
 vbin .shr 0 x62 (.v (.c (.p (.int .u64 1)))) h fun x63 h =>
 vtoInt .i64 x63 h fun x64 h =>
 viaddr 3 x0 x64 h fun x67 h =>
 vload true 3 x67 h fun x68 h =>
 vop O (.alloc [(.p (.int .u32 0)), (.p (.int .u32 0)), (.p (.int .u32 0))] false) h 10 fun x10 h =>
 vstore 3 x10 x68 h fun _ h =>
 vfaddr 0 x10 h fun x69 h =>
 vload false 1 x69 h fun x70 h =>
 vbin .leq 0 x70 x1 h fun x72 h =>
 vguard x72 true (fun kk => kk x1 h) h fun x74 h =>
 vguard x72 true (fun kk => vfaddr 1 x10 h kk) h fun x75 h =>
 vguard x72 true (fun kk => vload false 1 x75 h kk) h fun x76 h =>
 vguard x72 true (fun kk => vbin .leq 0 x74 x76 h kk) h fun x77 h =>
 vop O (.pick (.k x72) (.k x77) (.k (kB false))) h 78 fun x78 h =>
 vif x78 (
 vfaddr 2 x10 h fun x79 h =>
 vload false 1 x79 h fun x80 h =>
 vbin .eql 0 x80 (.v (.c (.p (.int .u32 1)))) h fun x81 h =>
 vguard x81 false (fun kk => kk x1 h) h fun x83 h =>
 vguard x81 false (fun kk => vfaddr 0 x10 h kk) h fun x84 h =>
 vguard x81 false (fun kk => vload false 1 x84 h kk) h fun x85 h =>
 vguard x81 false (fun kk => vbin .sub 0 x83 x85 h kk) h fun x86 h =>
 vguard x81 false (fun kk => vfaddr 2 x10 h kk) h fun x87 h =>
 vguard x81 false (fun kk => vload false 1 x87 h kk) h fun x88 h =>
 vguard x81 false (fun kk => vbin .rem 0 x86 x88 h kk) h fun x89 h =>
 vguard x81 false (fun kk => vbin .eql 0 x89 (.v (.c (.p (.int .u32 0)))) h kk) h fun x90 h =>
 vop O (.pick (.k x81) (.k (kB true)) (.k x90)) h 91 fun x91 h =>
 tcomp x91 fun c0 => vfin true q [c0] h)
 (vfaddr 0 x10 h fun x93 h =>
 vload false 1 x93 h fun x94 h =>
 vbin .lss 0 x1 x94 h fun x95 h =>
 vif x95 (
 R 4 [x0, x1, x7, x64] h)
 (vbin .add 0 x64 (kI 1) h fun x98 h =>
 R 4 [x0, x1, x98, x8] h)))
 (tcomp (kB false) fun c0 => vfin true q [c0] h)
theorem e55_4 (O : Oracle) (R : Jump) (q : Nat) (x0 x1 x7 x8 : TVal) (h : Heap) : b55_4 O R q x0 x1 x7 x8 h = stepF c55 O R q 4 [x0, x1, x7, x8] h := by kernel_rfl
noncomputable def d55 : BlkF := fun O R q => [.s fun y0 => .s fun y1 => .z fun h => b55_0 O R q y0 y1 h, .s fun y0 => .s fun y1 => .s fun y2 => .s fun y3 => .z fun h => b55_1 O R q y0 y1 y2 y3 h, .z fun h => b55_2 O R q  h, .s fun y0 => .s fun y1 => .z fun h => b55_3 O R q y0 y1 h, .s fun y0 => .s fun y1 => .s fun y2 => .s fun y3 => .z fun h => b55_4 O R q y0 y1 y2 y3 h]
theorem o55 (O : Oracle) (R : Jump) (q : Nat) : HoldsAll c55 O R q 0 (d55 O R q) := ⟨fun y0 y1 h => e55_0 O R q y0 y1 h, fun y0 y1 y2 y3 h => e55_1 O R q y0 y1 y2 y3 h, fun  h => e55_2 O R q  h, fun y0 y1 h => e55_3 O R q y0 y1 h, fun y0 y1 y2 y3 h => e55_4 O R q y0 y1 y2 y3 h, trivial⟩
end Go.Proofs.YtljhpmggifjigaaDoor.Ab
