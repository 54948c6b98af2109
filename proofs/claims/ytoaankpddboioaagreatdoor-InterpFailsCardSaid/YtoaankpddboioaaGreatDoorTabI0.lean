/- Functions of the given program as the abstract interpreter has them (part 0), printed by a program of our own; each is shown to be what 'compF' makes of the given program's. No condition. -/
import Derived.Test.YtoaankpddboioaaGreatDoorChecked
import Derived.Test.YtoaankpddboioaaGreatDoorAd
namespace Go.Proofs.YtoaankpddboioaaGreatDoor.Ab
open Go Go.AI
set_option linter.all false
set_option linter.unusedVariables false
set_option maxRecDepth 100000
def tabs : List Tabl := []
def opq : Option Nat := some 1
/- sprue/spruelaw16.InterpFails -/
def c5 : MFunc := { np := 2, res := [.t 4], frz := true, body := (.seq (.reg [(oA 4 (.mv (.k (.v (.c (.p (.bool false)))))))] []) (.seq (.seq (.reg [(oA 12 (.call (.k (.v (.c (.func 11 [])))) [])), (oA 13 (.un .not (.t 12)))] []) (.cond (.t 13) (.seq (.reg [(oA 4 (.mv (.k (.v (.c (.p (.bool false)))))))] []) .ret) .skip)) (.seq (.reg [(oA 14 (.mv (.t 0))), (oA 15 (.call (.k (.v (.c (.func 12 [])))) [(.t 14), (.k (.v (.c (.p (.int .i64 12)))))])), (oA 16 (.mv (.t 1))), (oA 17 (.call (.k (.v (.c (.func 12 [])))) [(.t 16), (.k (.v (.c (.p (.int .i64 14)))))])), (oA 0 (.mv (.t 15))), (oA 1 (.mv (.t 17)))] []) (.seq (.reg [(oA 5 (.mv (.k (.v (.c (.p (.str []))))))), (oA 6 (.mv (.k (.v (.c (.p (.str [])))))))] []) (.seq (.seq (.reg [(oA 7 (.mv (.k (.v (.c (.p (.int .i64 0)))))))] []) (.block 0 (.loop 1 [0, 1, 5, 6, 7] (.seq (.seq (.reg [(oA 18 (.mv (.t 7))), (oA 19 (.mv (.t 0))), (oA 20 (.bin .lss 0 (.t 18) (.t 19)))] []) (.cond (.t 20) .skip (.exit 0))) (.seq (.block 1 (.seq (.reg [(oA 23 (.mv (.t 5))), (oA 24 (.bin .add 0 (.t 23) (.k (.v (.c (.p (.str [120, 123, 123, 102, 125, 125]))))))), (oA 5 (.mv (.t 24)))] []) (.seq (.seq (.reg [(oA 25 (.mv (.t 7))), (oA 26 (.mv (.t 1))), (oA 27 (.bin .leq 0 (.t 25) (.t 26)))] []) (.cond (.t 27) (.reg [(oA 28 (.mv (.t 6))), (oA 29 (.bin .add 0 (.t 28) (.k (.v (.c (.p (.str [120]))))))), (oA 6 (.mv (.t 29)))] []) .skip)) (.mark 2 [0, 1, 5, 6, 7] (.seq (.reg [(oA 30 (.mv (.t 7))), (oA 31 (.mv (.t 1))), (oA 32 (.bin .lss 0 (.t 30) (.t 31)))] []) (.cond (.t 32) (.reg [(oA 33 (.mv (.t 6))), (oA 34 (.mv (.t 7))), (oA 35 (.bin .rem 0 (.t 34) (.k (.v (.c (.p (.int .i64 3))))))), (oA 36 (.bin .add 0 (.k (.v (.c (.p (.int .i64 48))))) (.t 35))), (oA 37 (.toInt .u8 (.t 36))), (oA 38 (.bslice 1 1 [(.p (.int .u8 0))] [(0, (.t 37))] false)), (oA 39 (.toStr (.t 38))), (oA 40 (.bin .add 0 (.t 33) (.t 39))), (oA 6 (.mv (.t 40)))] []) .skip)))))) (.mark 3 [0, 1, 5, 6, 7] (.reg [(oA 21 (.mv (.t 7))), (oA 22 (.bin .add 0 (.t 21) (.k (.v (.c (.p (.int .i64 1))))))), (oA 7 (.mv (.t 22)))] []))))))) (.mark 4 [0, 1, 5, 6] (.seq (.reg [(oA 41 (.mv (.t 1))), (oA 42 (.build [(.p (.str [])), (.p .nilslice), (.p (.int .i64 0))] [(0, 1, (.k (.v (.c (.p (.str [102])))))), (2, 1, (.t 41))])), (oA 8 (.alloc [(.p (.str [])), (.p .nilslice), (.p (.int .i64 0))] false)), (oN (.store 3 (.t 8) (.t 42)))] []) (.seq (.seq (.reg [(oA 9 (.mv (.k (.v (.c (.p (.int .i64 0)))))))] []) (.block 2 (.loop 5 [0, 1, 5, 6, 8, 9] (.seq (.seq (.reg [(oA 43 (.mv (.t 9))), (oA 44 (.bin .lss 0 (.t 43) (.k (.v (.c (.p (.int .i64 3)))))))] []) (.cond (.t 44) .skip (.exit 2))) (.seq (.block 3 (.reg [(oA 47 (.faddr 1 (.t 8))), (oA 48 (.load false 1 (.t 47))), (oA 49 (.mv (.t 9))), (oA 50 (.build [(.p (.int .i64 0)), (.p (.bool false)), (.p (.int .i64 0)), (.p (.str [])), (.p .nilslice), (.p .nilslice)] [(0, 1, (.k (.v (.c (.p (.int .i64 2)))))), (2, 1, (.t 49))])), (oA 51 (.bslice 6 1 [(.p (.int .i64 0)), (.p (.bool false)), (.p (.int .i64 0)), (.p (.str [])), (.p .nilslice), (.p .nilslice)] [(0, (.t 50))] false)), (oA 52 (.append 6 88 false (.t 48) (.t 51))), (oA 53 (.faddr 1 (.t 8))), (oN (.store 1 (.t 53) (.t 52)))] [])) (.reg [(oA 45 (.mv (.t 9))), (oA 46 (.bin .add 0 (.t 45) (.k (.v (.c (.p (.int .i64 1))))))), (oA 9 (.mv (.t 46)))] [])))))) (.mark 6 [0, 1, 5, 6, 8] (.seq (.reg [(oA 55 (.mv (.t 5))), (oA 56 (.load true 3 (.t 8))), (oA 57 (.bslice 3 1 [(.p (.str [])), (.p .nilslice), (.p (.int .i64 0))] [(0, (.t 56))] false)), (oA 58 (.call (.k (.v (.c (.func 13 [])))) [(.t 55), (.k (.v (.c (.p (.str [49]))))), (.t 57)])), (oA 54 (.mv (.t 58))), (oA 59 (.extract (.t 54) 0)), (oA 60 (.extract (.t 54) 1)), (oA 10 (.mv (.t 59))), (oA 11 (.mv (.t 60)))] []) (.seq (.seq (.reg [(oA 61 (.mv (.t 1))), (oA 62 (.mv (.t 0))), (oA 63 (.bin .lss 0 (.t 61) (.t 62)))] []) (.cond (.t 63) (.seq (.reg [(oA 64 (.mv (.t 11))), (oA 65 (.bin .eql 0 (.t 64) (.k (.v (.c (.p (.int .i64 33))))))), (oA 66 (.mv (.t 65))), ⟨(some 67), (.mv (.t 10)), (some (66, true))⟩, ⟨(some 68), (.mv (.t 6)), (some (66, true))⟩, ⟨(some 69), (.bin .eql 0 (.t 67) (.t 68)), (some (66, true))⟩, (oA 70 (.pick (.t 66) (.t 69) (.k (.v (.c (.p (.bool false))))))), (oA 4 (.mv (.t 70)))] []) .ret) .skip)) (.seq (.reg [(oA 71 (.mv (.t 11))), (oA 72 (.bin .eql 0 (.t 71) (.k (.v (.c (.p (.int .i64 0))))))), (oA 73 (.mv (.t 72))), ⟨(some 74), (.mv (.t 10)), (some (73, true))⟩, ⟨(some 75), (.mv (.t 6)), (some (73, true))⟩, ⟨(some 76), (.bin .eql 0 (.t 74) (.t 75)), (some (73, true))⟩, (oA 77 (.pick (.t 73) (.t 76) (.k (.v (.c (.p (.bool false))))))), (oA 4 (.mv (.t 77)))] []) .ret)))))))))))) }
theorem t5 : compF Tryz.prog (globs2 tabs opq) (fun _ => false) true Tryz.f5 = some c5.erase := by kernel_rfl
noncomputable def b5_0 (O : Oracle) (R : Jump) (q : Nat) (x0 x1 : TVal) (h : Heap) : Res1 :=
 vcall O (.v (.c (.func 11 []))) [] h 12 fun x12 h =>
 vop O (.un .not (.k x12)) h 13 fun x13 h =>
 vif x13 (
 tcomp (kB false) fun c0 => vfin true q [c0] h)
 (vcall O (.v (.c (.func 12 []))) [x0, (kI 12)] h 15 fun x15 h =>
 vcall O (.v (.c (.func 12 []))) [x1, (kI 14)] h 17 fun x17 h =>
 R 1 [x15, x17, (kS []), (kS []), (kI 0)] h)
theorem e5_0 (O : Oracle) (R : Jump) (q : Nat) (x0 x1 : TVal) (h : Heap) : b5_0 O R q x0 x1 h = stepF c5 O R q 0 [x0, x1] h := by kernel_rfl
noncomputable def b5_1 (O : Oracle) (R : Jump) (q : Nat) (x0 x1 x5 x6 x7 : TVal) (h : Heap) : Res1 :=
 vbin .lss 0 x7 x0 h fun x20 h =>
 vif x20 (
 vbin .add 0 x5 (kS [120, 123, 123, 102, 125, 125]) h fun x24 h =>
 vbin .leq 0 x7 x1 h fun x27 h =>
 vif x27 (
 vbin .add 0 x6 (kS [120]) h fun x29 h =>
 R 2 [x0, x1, x24, x29, x7] h)
 (R 2 [x0, x1, x24, x6, x7] h))
 (R 4 [x0, x1, x5, x6] h)
theorem e5_1 (O : Oracle) (R : Jump) (q : Nat) (x0 x1 x5 x6 x7 : TVal) (h : Heap) : b5_1 O R q x0 x1 x5 x6 x7 h = stepF c5 O R q 1 [x0, x1, x5, x6, x7] h := by kernel_rfl
noncomputable def b5_2 (O : Oracle) (R : Jump) (q : Nat) (x0 x1 x5 x6 x7 : TVal) (h : Heap) : Res1 :=
 vbin .lss 0 x7 x1 h fun x32 h =>
 vif x32 (
 vbin .rem 0 x7 (kI 3) h fun x35 h =>
 vbin .add 0 (kI 48) x35 h fun x36 h =>
 vtoInt .u8 x36 h fun x37 h =>
 vop O (.bslice 1 1 [(.p (.int .u8 0))] [(0, (.k x37))] false) h 38 fun x38 h =>
 vop O (.toStr (.k x38)) h 39 fun x39 h =>
 vbin .add 0 x6 x39 h fun x40 h =>
 R 3 [x0, x1, x5, x40, x7] h)
 (R 3 [x0, x1, x5, x6, x7] h)
theorem e5_2 (O : Oracle) (R : Jump) (q : Nat) (x0 x1 x5 x6 x7 : TVal) (h : Heap) : b5_2 O R q x0 x1 x5 x6 x7 h = stepF c5 O R q 2 [x0, x1, x5, x6, x7] h := by kernel_rfl
noncomputable def b5_3 (O : Oracle) (R : Jump) (q : Nat) (x0 x1 x5 x6 x7 : TVal) (h : Heap) : Res1 :=
 vbin .add 0 x7 (kI 1) h fun x22 h =>
 R 1 [x0, x1, x5, x6, x22] h
theorem e5_3 (O : Oracle) (R : Jump) (q : Nat) (x0 x1 x5 x6 x7 : TVal) (h : Heap) : b5_3 O R q x0 x1 x5 x6 x7 h = stepF c5 O R q 3 [x0, x1, x5, x6, x7] h := by kernel_rfl
noncomputable def b5_4 (O : Oracle) (R : Jump) (q : Nat) (x0 x1 x5 x6 : TVal) (h : Heap) : Res1 :=
 vop O (.build [(.p (.str [])), (.p .nilslice), (.p (.int .i64 0))] [(0, 1, (.k (kS [102]))), (2, 1, (.k x1))]) h 42 fun x42 h =>
 vop O (.alloc [(.p (.str [])), (.p .nilslice), (.p (.int .i64 0))] false) h 8 fun x8 h =>
 vstore 3 x8 x42 h fun _ h =>
 R 5 [x0, x1, x5, x6, x8, (kI 0)] h
theorem e5_4 (O : Oracle) (R : Jump) (q : Nat) (x0 x1 x5 x6 : TVal) (h : Heap) : b5_4 O R q x0 x1 x5 x6 h = stepF c5 O R q 4 [x0, x1, x5, x6] h := by kernel_rfl
noncomputable def b5_5 (O : Oracle) (R : Jump) (q : Nat) (x0 x1 x5 x6 x8 x9 : TVal) (h : Heap) : Res1 :=
 vbin .lss 0 x9 (kI 3) h fun x44 h =>
 vif x44 (
 vfaddr 1 x8 h fun x47 h =>
 vload false 1 x47 h fun x48 h =>
 vop O (.build [(.p (.int .i64 0)), (.p (.bool false)), (.p (.int .i64 0)), (.p (.str [])), (.p .nilslice), (.p .nilslice)] [(0, 1, (.k (kI 2))), (2, 1, (.k x9))]) h 50 fun x50 h =>
 vop O (.bslice 6 1 [(.p (.int .i64 0)), (.p (.bool false)), (.p (.int .i64 0)), (.p (.str [])), (.p .nilslice), (.p .nilslice)] [(0, (.k x50))] false) h 51 fun x51 h =>
 vop O (.append 6 88 false (.k x48) (.k x51)) h 52 fun x52 h =>
 vfaddr 1 x8 h fun x53 h =>
 vstore 1 x53 x52 h fun _ h =>
 vbin .add 0 x9 (kI 1) h fun x46 h =>
 R 5 [x0, x1, x5, x6, x8, x46] h)
 (R 6 [x0, x1, x5, x6, x8] h)
theorem e5_5 (O : Oracle) (R : Jump) (q : Nat) (x0 x1 x5 x6 x8 x9 : TVal) (h : Heap) : b5_5 O R q x0 x1 x5 x6 x8 x9 h = stepF c5 O R q 5 [x0, x1, x5, x6, x8, x9] h := by kernel_rfl
noncomputable def b5_6 (O : Oracle) (R : Jump) (q : Nat) (x0 x1 x5 x6 x8 : TVal) (h : Heap) : Res1 :=
 vload true 3 x8 h fun x56 h =>
 vop O (.bslice 3 1 [(.p (.str [])), (.p .nilslice), (.p (.int .i64 0))] [(0, (.k x56))] false) h 57 fun x57 h =>
 vcall O (.v (.c (.func 13 []))) [x5, (kS [49]), x57] h 58 fun x58 h =>
 vext x58 0 h fun x59 h =>
 vext x58 1 h fun x60 h =>
 vbin .lss 0 x1 x0 h fun x63 h =>
 vif x63 (
 vbin .eql 0 x60 (kI 33) h fun x65 h =>
 vguard x65 true (fun kk => kk x59 h) h fun x67 h =>
 vguard x65 true (fun kk => kk x6 h) h fun x68 h =>
 vguard x65 true (fun kk => vbin .eql 0 x67 x68 h kk) h fun x69 h =>
 vop O (.pick (.k x65) (.k x69) (.k (kB false))) h 70 fun x70 h =>
 tcomp x70 fun c0 => vfin true q [c0] h)
 (vbin .eql 0 x60 (kI 0) h fun x72 h =>
 vguard x72 true (fun kk => kk x59 h) h fun x74 h =>
 vguard x72 true (fun kk => kk x6 h) h fun x75 h =>
 vguard x72 true (fun kk => vbin .eql 0 x74 x75 h kk) h fun x76 h =>
 vop O (.pick (.k x72) (.k x76) (.k (kB false))) h 77 fun x77 h =>
 tcomp x77 fun c0 => vfin true q [c0] h)
theorem e5_6 (O : Oracle) (R : Jump) (q : Nat) (x0 x1 x5 x6 x8 : TVal) (h : Heap) : b5_6 O R q x0 x1 x5 x6 x8 h = stepF c5 O R q 6 [x0, x1, x5, x6, x8] h := by kernel_rfl
noncomputable def d5 : BlkF := fun O R q => [.s fun y0 => .s fun y1 => .z fun h => b5_0 O R q y0 y1 h, .s fun y0 => .s fun y1 => .s fun y2 => .s fun y3 => .s fun y4 => .z fun h => b5_1 O R q y0 y1 y2 y3 y4 h, .s fun y0 => .s fun y1 => .s fun y2 => .s fun y3 => .s fun y4 => .z fun h => b5_2 O R q y0 y1 y2 y3 y4 h, .s fun y0 => .s fun y1 => .s fun y2 => .s fun y3 => .s fun y4 => .z fun h => b5_3 O R q y0 y1 y2 y3 y4 h, .s fun y0 => .s fun y1 => .s fun y2 => .s fun y3 => .z fun h => b5_4 O R q y0 y1 y2 y3 h, .s fun y0 => .s fun y1 => .s fun y2 => .s fun y3 => .s fun y4 => .s fun y5 => .z fun h => b5_5 O R q y0 y1 y2 y3 y4 y5 h, .s fun y0 => .s fun y1 => .s fun y2 => .s fun y3 => .s fun y4 => .z fun h => b5_6 O R q y0 y1 y2 y3 y4 h]
theorem o5 (O : Oracle) (R : Jump) (q : Nat) : HoldsAll c5 O R q 0 (d5 O R q) := ⟨fun y0 y1 h => e5_0 O R q y0 y1 h, fun y0 y1 y2 y3 y4 h => e5_1 O R q y0 y1 y2 y3 y4 h, fun y0 y1 y2 y3 y4 h => e5_2 O R q y0 y1 y2 y3 y4 h, fun y0 y1 y2 y3 y4 h => e5_3 O R q y0 y1 y2 y3 y4 h, fun y0 y1 y2 y3 h => e5_4 O R q y0 y1 y2 y3 h, fun y0 y1 y2 y3 y4 y5 h => e5_5 O R q y0 y1 y2 y3 y4 y5 h, fun y0 y1 y2 y3 y4 h => e5_6 O R q y0 y1 y2 y3 y4 h, trivial⟩
/- sprue/spruelaw16.InterpArgs -/
def c6 : MFunc := { np := 1, res := [.t 2], frz := true, body := (.seq (.reg [(oA 2 (.mv (.k (.v (.c (.p (.bool false)))))))] []) (.seq (.seq (.reg [(oA 19 (.call (.k (.v (.c (.func 11 [])))) [])), (oA 20 (.un .not (.t 19)))] []) (.cond (.t 20) (.seq (.reg [(oA 2 (.mv (.k (.v (.c (.p (.bool false)))))))] []) .ret) .skip)) (.seq (.reg [(oA 21 (.bslice 1 8 [(.p (.str []))] [(0, (.k (.v (.c (.p (.str [123, 123, 102, 32, 40, 103, 41, 32, 40, 103, 41, 125, 125, 123, 123, 103, 125, 125])))))), (1, (.k (.v (.c (.p (.str [120, 123, 123, 102, 32, 40, 97, 116, 32, 46, 32, 57, 41, 125, 125])))))), (2, (.k (.v (.c (.p (.str [120, 123, 123, 102, 32, 40, 103, 41, 32, 40, 97, 116, 32, 46, 32, 57, 41, 125, 125])))))), (3, (.k (.v (.c (.p (.str [123, 123, 103, 32, 124, 32, 102, 125, 125, 123, 123, 102, 32, 40, 103, 41, 125, 125])))))), (4, (.k (.v (.c (.p (.str [120, 123, 123, 102, 32, 46, 110, 111, 32, 40, 103, 41, 125, 125])))))), (5, (.k (.v (.c (.p (.str [123, 123, 102, 32, 40, 102, 32, 40, 102, 32, 49, 41, 41, 125, 125])))))), (6, (.k (.v (.c (.p (.str [120, 123, 123, 103, 32, 124, 32, 102, 32, 40, 97, 116, 32, 46, 32, 55, 41, 125, 125])))))), (7, (.k (.v (.c (.p (.str [123, 123, 102, 32, 34, 97, 34, 32, 50, 32, 116, 114, 117, 101, 32, 46, 125, 125]))))))] false)), (oA 3 (.mv (.t 21)))] []) (.seq (.reg [(oA 22 (.bslice 1 8 [(.p (.str []))] [(0, (.k (.v (.c (.p (.str [49, 51])))))), (1, (.k (.v (.c (.p (.str [120])))))), (2, (.k (.v (.c (.p (.str [120])))))), (3, (.k (.v (.c (.p (.str [49, 50])))))), (4, (.k (.v (.c (.p (.str [120])))))), (5, (.k (.v (.c (.p (.str [51])))))), (6, (.k (.v (.c (.p (.str [120])))))), (7, (.k (.v (.c (.p (.str [49]))))))] false)), (oA 4 (.mv (.t 22)))] []) (.seq (.reg [(oA 23 (.bslice 1 8 [(.p (.int .i64 0))] [(0, (.k (.v (.c (.p (.int .i64 0)))))), (1, (.k (.v (.c (.p (.int .i64 32)))))), (2, (.k (.v (.c (.p (.int .i64 32)))))), (3, (.k (.v (.c (.p (.int .i64 0)))))), (4, (.k (.v (.c (.p (.int .i64 16)))))), (5, (.k (.v (.c (.p (.int .i64 0)))))), (6, (.k (.v (.c (.p (.int .i64 32)))))), (7, (.k (.v (.c (.p (.int .i64 0))))))] false)), (oA 5 (.mv (.t 23)))] []) (.seq (.reg [(oA 24 (.bslice 1 8 [(.p (.int .i64 0))] [(0, (.k (.v (.c (.p (.int .i64 1)))))), (1, (.k (.v (.c (.p (.int .i64 0)))))), (2, (.k (.v (.c (.p (.int .i64 0)))))), (3, (.k (.v (.c (.p (.int .i64 2)))))), (4, (.k (.v (.c (.p (.int .i64 0)))))), (5, (.k (.v (.c (.p (.int .i64 3)))))), (6, (.k (.v (.c (.p (.int .i64 0)))))), (7, (.k (.v (.c (.p (.int .i64 1))))))] false)), (oA 6 (.mv (.t 24)))] []) (.seq (.reg [(oA 25 (.bslice 1 8 [(.p (.int .i64 0))] [(0, (.k (.v (.c (.p (.int .i64 3)))))), (1, (.k (.v (.c (.p (.int .i64 0)))))), (2, (.k (.v (.c (.p (.int .i64 1)))))), (3, (.k (.v (.c (.p (.int .i64 2)))))), (4, (.k (.v (.c (.p (.int .i64 0)))))), (5, (.k (.v (.c (.p (.int .i64 0)))))), (6, (.k (.v (.c (.p (.int .i64 1)))))), (7, (.k (.v (.c (.p (.int .i64 0))))))] false)), (oA 7 (.mv (.t 25)))] []) (.seq (.reg [(oA 26 (.mv (.t 0))), (oA 27 (.call (.k (.v (.c (.func 12 [])))) [(.t 26), (.k (.v (.c (.p (.int .i64 8)))))])), (oA 8 (.mv (.t 27)))] []) (.seq (.reg [(oA 29 (.mv (.t 3))), (oA 30 (.mv (.t 8))), (oA 31 (.iaddr 1 (.t 29) (.t 30))), (oA 32 (.load false 1 (.t 31))), (oA 33 (.call (.k (.v (.c (.func 14 [])))) [(.t 32)])), (oA 28 (.mv (.t 33))), (oA 34 (.extract (.t 28) 0)), (oA 35 (.extract (.t 28) 1)), (oA 36 (.extract (.t 28) 2)), (oA 9 (.mv (.t 34))), (oA 10 (.mv (.t 35))), (oA 11 (.mv (.t 36)))] []) (.seq (.reg [(oA 38 (.call (.k (.v (.c (.func 15 [])))) [(.k (.v (.c (.p (.str [91, 52, 44, 53, 93])))))])), (oA 37 (.mv (.t 38))), (oA 39 (.extract (.t 37) 0)), (oA 40 (.extract (.t 37) 1)), (oA 12 (.alloc [(.p (.int .i64 0)), (.p (.bool false)), (.p (.int .i64 0)), (.p (.str [])), (.p .nilslice), (.p .nilslice)] false)), (oN (.store 6 (.t 12) (.t 39))), (oA 13 (.mv (.t 40)))] []) (.seq (.reg [(oA 41 (.build [(.p (.int .i64 0)), (.p (.bool false)), (.p (.int .i64 0)), (.p (.str [])), (.p .nilslice), (.p .nilslice)] [(0, 1, (.k (.v (.c (.p (.int .i64 2)))))), (2, 1, (.k (.v (.c (.p (.int .i64 1))))))])), (oA 42 (.build [(.p (.int .i64 0)), (.p (.bool false)), (.p (.int .i64 0)), (.p (.str [])), (.p .nilslice), (.p .nilslice)] [(0, 1, (.k (.v (.c (.p (.int .i64 2)))))), (2, 1, (.k (.v (.c (.p (.int .i64 2))))))])), (oA 43 (.build [(.p (.int .i64 0)), (.p (.bool false)), (.p (.int .i64 0)), (.p (.str [])), (.p .nilslice), (.p .nilslice)] [(0, 1, (.k (.v (.c (.p (.int .i64 2)))))), (2, 1, (.k (.v (.c (.p (.int .i64 3))))))])), (oA 44 (.bslice 6 3 [(.p (.int .i64 0)), (.p (.bool false)), (.p (.int .i64 0)), (.p (.str [])), (.p .nilslice), (.p .nilslice)] [(0, (.t 41)), (1, (.t 42)), (2, (.t 43))] false)), (oA 14 (.mv (.t 44)))] []) (.seq (.reg [(oA 45 (.mv (.t 14))), (oA 46 (.build [(.p (.str [])), (.p .nilslice), (.p (.int .i64 0))] [(0, 1, (.k (.v (.c (.p (.str [102])))))), (1, 1, (.t 45)), (2, 1, (.k (.v (.c (.p (.int .i64 (-1)))))))])), (oA 47 (.mv (.t 14))), (oA 48 (.build [(.p (.str [])), (.p .nilslice), (.p (.int .i64 0))] [(0, 1, (.k (.v (.c (.p (.str [103])))))), (1, 1, (.t 47)), (2, 1, (.k (.v (.c (.p (.int .i64 (-1)))))))])), (oA 49 (.bslice 3 2 [(.p (.str [])), (.p .nilslice), (.p (.int .i64 0))] [(0, (.t 46)), (1, (.t 48))] false)), (oA 50 (.call (.k (.v (.c (.func 16 [])))) [(.t 49)])), (oA 15 (.mv (.t 50)))] []) (.seq (.reg [(oA 52 (.mv (.t 9))), (oA 53 (.load true 6 (.t 12))), (oA 54 (.mv (.t 15))), (oA 55 (.build [(.p (.int .i64 0)), (.p (.int .i64 0)), (.p (.int .i64 0))] [(0, 1, (.k (.v (.c (.p (.int .i64 500)))))), (2, 1, (.k (.v (.c (.p (.int .i64 (-1)))))))])), (oA 56 (.call (.k (.v (.c (.func 17 [])))) [(.t 52), (.t 53), (.t 54), (.t 55)])), (oA 51 (.mv (.t 56))), (oA 57 (.extract (.t 51) 0)), (oA 58 (.extract (.t 51) 1)), (oA 59 (.extract (.t 51) 2)), (oA 16 (.mv (.t 57))), (oA 17 (.mv (.t 58))), (oA 18 (.mv (.t 59)))] []) (.seq (.reg [(oA 60 (.mv (.t 11))), (oA 61 (.bin .eql 0 (.t 60) (.k (.v (.c (.p (.int .i64 0))))))), (oA 62 (.mv (.t 61))), ⟨(some 63), (.mv (.t 13)), (some (62, true))⟩, ⟨(some 64), (.bin .eql 0 (.t 63) (.k (.v (.c (.p (.int .i64 0)))))), (some (62, true))⟩, (oA 65 (.pick (.t 62) (.t 64) (.k (.v (.c (.p (.bool false))))))), (oA 66 (.mv (.t 65))), ⟨(some 67), (.mv (.t 16)), (some (66, true))⟩, ⟨(some 68), (.toStr (.t 67)), (some (66, true))⟩, ⟨(some 69), (.mv (.t 4)), (some (66, true))⟩, ⟨(some 70), (.mv (.t 8)), (some (66, true))⟩, ⟨(some 71), (.iaddr 1 (.t 69) (.t 70)), (some (66, true))⟩, ⟨(some 72), (.load false 1 (.t 71)), (some (66, true))⟩, ⟨(some 73), (.bin .eql 0 (.t 68) (.t 72)), (some (66, true))⟩, (oA 74 (.pick (.t 66) (.t 73) (.k (.v (.c (.p (.bool false))))))), (oA 75 (.mv (.t 74))), ⟨(some 76), (.mv (.t 18)), (some (75, true))⟩, ⟨(some 77), (.mv (.t 5)), (some (75, true))⟩, ⟨(some 78), (.mv (.t 8)), (some (75, true))⟩, ⟨(some 79), (.iaddr 1 (.t 77) (.t 78)), (some (75, true))⟩, ⟨(some 80), (.load false 1 (.t 79)), (some (75, true))⟩, ⟨(some 81), (.bin .eql 0 (.t 76) (.t 80)), (some (75, true))⟩, (oA 82 (.pick (.t 75) (.t 81) (.k (.v (.c (.p (.bool false))))))), (oA 83 (.mv (.t 82))), ⟨(some 84), (.mv (.t 15)), (some (83, true))⟩, ⟨(some 85), (.call (.k (.v (.c (.func 18 [])))) [(.t 84), (.k (.v (.c (.p (.str [102])))))]), (some (83, true))⟩, ⟨(some 86), (.mv (.t 6)), (some (83, true))⟩, ⟨(some 87), (.mv (.t 8)), (some (83, true))⟩, ⟨(some 88), (.iaddr 1 (.t 86) (.t 87)), (some (83, true))⟩, ⟨(some 89), (.load false 1 (.t 88)), (some (83, true))⟩, ⟨(some 90), (.bin .eql 0 (.t 85) (.t 89)), (some (83, true))⟩, (oA 91 (.pick (.t 83) (.t 90) (.k (.v (.c (.p (.bool false))))))), (oA 92 (.mv (.t 91))), ⟨(some 93), (.mv (.t 15)), (some (92, true))⟩, ⟨(some 94), (.call (.k (.v (.c (.func 18 [])))) [(.t 93), (.k (.v (.c (.p (.str [103])))))]), (some (92, true))⟩, ⟨(some 95), (.mv (.t 7)), (some (92, true))⟩, ⟨(some 96), (.mv (.t 8)), (some (92, true))⟩, ⟨(some 97), (.iaddr 1 (.t 95) (.t 96)), (some (92, true))⟩, ⟨(some 98), (.load false 1 (.t 97)), (some (92, true))⟩, ⟨(some 99), (.bin .eql 0 (.t 94) (.t 98)), (some (92, true))⟩, (oA 100 (.pick (.t 92) (.t 99) (.k (.v (.c (.p (.bool false))))))), (oA 2 (.mv (.t 100)))] [(25, 29), (34, 38)]) .ret)))))))))))))) }
theorem t6 : compF Tryz.prog (globs2 tabs opq) (fun _ => false) true Tryz.f6 = some c6.erase := by kernel_rfl
noncomputable def b6_0 (O : Oracle) (R : Jump) (q : Nat) (x0 : TVal) (h : Heap) : Res1 :=
 vcall O (.v (.c (.func 11 []))) [] h 19 fun x19 h =>
 vop O (.un .not (.k x19)) h 20 fun x20 h =>
 vif x20 (
 tcomp (kB false) fun c0 => vfin true q [c0] h)
 (vop O (.bslice 1 8 [(.p (.str []))] [(0, (.k (kS [123, 123, 102, 32, 40, 103, 41, 32, 40, 103, 41, 125, 125, 123, 123, 103, 125, 125]))), (1, (.k (kS [120, 123, 123, 102, 32, 40, 97, 116, 32, 46, 32, 57, 41, 125, 125]))), (2, (.k (kS [120, 123, 123, 102, 32, 40, 103, 41, 32, 40, 97, 116, 32, 46, 32, 57, 41, 125, 125]))), (3, (.k (kS [123, 123, 103, 32, 124, 32, 102, 125, 125, 123, 123, 102, 32, 40, 103, 41, 125, 125]))), (4, (.k (kS [120, 123, 123, 102, 32, 46, 110, 111, 32, 40, 103, 41, 125, 125]))), (5, (.k (kS [123, 123, 102, 32, 40, 102, 32, 40, 102, 32, 49, 41, 41, 125, 125]))), (6, (.k (kS [120, 123, 123, 103, 32, 124, 32, 102, 32, 40, 97, 116, 32, 46, 32, 55, 41, 125, 125]))), (7, (.k (kS [123, 123, 102, 32, 34, 97, 34, 32, 50, 32, 116, 114, 117, 101, 32, 46, 125, 125])))] false) h 21 fun x21 h =>
 vop O (.bslice 1 8 [(.p (.str []))] [(0, (.k (kS [49, 51]))), (1, (.k (kS [120]))), (2, (.k (kS [120]))), (3, (.k (kS [49, 50]))), (4, (.k (kS [120]))), (5, (.k (kS [51]))), (6, (.k (kS [120]))), (7, (.k (kS [49])))] false) h 22 fun x22 h =>
 vop O (.bslice 1 8 [(.p (.int .i64 0))] [(0, (.k (kI 0))), (1, (.k (kI 32))), (2, (.k (kI 32))), (3, (.k (kI 0))), (4, (.k (kI 16))), (5, (.k (kI 0))), (6, (.k (kI 32))), (7, (.k (kI 0)))] false) h 23 fun x23 h =>
 vop O (.bslice 1 8 [(.p (.int .i64 0))] [(0, (.k (kI 1))), (1, (.k (kI 0))), (2, (.k (kI 0))), (3, (.k (kI 2))), (4, (.k (kI 0))), (5, (.k (kI 3))), (6, (.k (kI 0))), (7, (.k (kI 1)))] false) h 24 fun x24 h =>
 vop O (.bslice 1 8 [(.p (.int .i64 0))] [(0, (.k (kI 3))), (1, (.k (kI 0))), (2, (.k (kI 1))), (3, (.k (kI 2))), (4, (.k (kI 0))), (5, (.k (kI 0))), (6, (.k (kI 1))), (7, (.k (kI 0)))] false) h 25 fun x25 h =>
 vcall O (.v (.c (.func 12 []))) [x0, (kI 8)] h 27 fun x27 h =>
 viaddr 1 x21 x27 h fun x31 h =>
 vload false 1 x31 h fun x32 h =>
 vcall O (.v (.c (.func 14 []))) [x32] h 33 fun x33 h =>
 vext x33 0 h fun x34 h =>
 vext x33 1 h fun x35 h =>
 vext x33 2 h fun x36 h =>
 vcall O (.v (.c (.func 15 []))) [(kS [91, 52, 44, 53, 93])] h 38 fun x38 h =>
 vext x38 0 h fun x39 h =>
 vext x38 1 h fun x40 h =>
 vop O (.alloc [(.p (.int .i64 0)), (.p (.bool false)), (.p (.int .i64 0)), (.p (.str [])), (.p .nilslice), (.p .nilslice)] false) h 12 fun x12 h =>
 vstore 6 x12 x39 h fun _ h =>
 vop O (.build [(.p (.int .i64 0)), (.p (.bool false)), (.p (.int .i64 0)), (.p (.str [])), (.p .nilslice), (.p .nilslice)] [(0, 1, (.k (kI 2))), (2, 1, (.k (kI 1)))]) h 41 fun x41 h =>
 vop O (.build [(.p (.int .i64 0)), (.p (.bool false)), (.p (.int .i64 0)), (.p (.str [])), (.p .nilslice), (.p .nilslice)] [(0, 1, (.k (kI 2))), (2, 1, (.k (kI 2)))]) h 42 fun x42 h =>
 vop O (.build [(.p (.int .i64 0)), (.p (.bool false)), (.p (.int .i64 0)), (.p (.str [])), (.p .nilslice), (.p .nilslice)] [(0, 1, (.k (kI 2))), (2, 1, (.k (kI 3)))]) h 43 fun x43 h =>
 vop O (.bslice 6 3 [(.p (.int .i64 0)), (.p (.bool false)), (.p (.int .i64 0)), (.p (.str [])), (.p .nilslice), (.p .nilslice)] [(0, (.k x41)), (1, (.k x42)), (2, (.k x43))] false) h 44 fun x44 h =>
 vop O (.build [(.p (.str [])), (.p .nilslice), (.p (.int .i64 0))] [(0, 1, (.k (kS [102]))), (1, 1, (.k x44)), (2, 1, (.k (kI (-1))))]) h 46 fun x46 h =>
 vop O (.build [(.p (.str [])), (.p .nilslice), (.p (.int .i64 0))] [(0, 1, (.k (kS [103]))), (1, 1, (.k x44)), (2, 1, (.k (kI (-1))))]) h 48 fun x48 h =>
 vop O (.bslice 3 2 [(.p (.str [])), (.p .nilslice), (.p (.int .i64 0))] [(0, (.k x46)), (1, (.k x48))] false) h 49 fun x49 h =>
 vcall O (.v (.c (.func 16 []))) [x49] h 50 fun x50 h =>
 vload true 6 x12 h fun x53 h =>
 vop O (.build [(.p (.int .i64 0)), (.p (.int .i64 0)), (.p (.int .i64 0))] [(0, 1, (.k (kI 500))), (2, 1, (.k (kI (-1))))]) h 55 fun x55 h =>
 vcall O (.v (.c (.func 17 []))) [x34, x53, x50, x55] h 56 fun x56 h =>
 vext x56 0 h fun x57 h =>
 vext x56 1 h fun x58 h =>
 vext x56 2 h fun x59 h =>
 vtouch O (.mv (.k x36)) h 60 fun x60 h t0 =>
 vtouch O (.bin .eql 0 (.k x60) (.k (kI 0))) h 61 fun x61 h t1 =>
 vtouch O (.mv (.k x61)) h 62 fun x62 h t2 =>
 vguardT x62 true (fun kk => vtouch O (.mv (.k x40)) h 63 kk) h fun x63 h t3 =>
 vguardT x62 true (fun kk => vtouch O (.bin .eql 0 (.k x63) (.k (kI 0))) h 64 kk) h fun x64 h t4 =>
 vtouch O (.pick (.k x62) (.k x64) (.k (kB false))) h 65 fun x65 h t5 =>
 vtouch O (.mv (.k x65)) h 66 fun x66 h t6 =>
 vguardT x66 true (fun kk => vtouch O (.mv (.k x57)) h 67 kk) h fun x67 h t7 =>
 vguardT x66 true (fun kk => vtouch O (.toStr (.k x67)) h 68 kk) h fun x68 h t8 =>
 vguardT x66 true (fun kk => vtouch O (.mv (.k x22)) h 69 kk) h fun x69 h t9 =>
 vguardT x66 true (fun kk => vtouch O (.mv (.k x27)) h 70 kk) h fun x70 h t10 =>
 vguardT x66 true (fun kk => vtouch O (.iaddr 1 (.k x69) (.k x70)) h 71 kk) h fun x71 h t11 =>
 vguardT x66 true (fun kk => vtouch O (.load false 1 (.k x71)) h 72 kk) h fun x72 h t12 =>
 vguardT x66 true (fun kk => vtouch O (.bin .eql 0 (.k x68) (.k x72)) h 73 kk) h fun x73 h t13 =>
 vtouch O (.pick (.k x66) (.k x73) (.k (kB false))) h 74 fun x74 h t14 =>
 vtouch O (.mv (.k x74)) h 75 fun x75 h t15 =>
 vguardT x75 true (fun kk => vtouch O (.mv (.k x59)) h 76 kk) h fun x76 h t16 =>
 vguardT x75 true (fun kk => vtouch O (.mv (.k x23)) h 77 kk) h fun x77 h t17 =>
 vguardT x75 true (fun kk => vtouch O (.mv (.k x27)) h 78 kk) h fun x78 h t18 =>
 vguardT x75 true (fun kk => vtouch O (.iaddr 1 (.k x77) (.k x78)) h 79 kk) h fun x79 h t19 =>
 vguardT x75 true (fun kk => vtouch O (.load false 1 (.k x79)) h 80 kk) h fun x80 h t20 =>
 vguardT x75 true (fun kk => vtouch O (.bin .eql 0 (.k x76) (.k x80)) h 81 kk) h fun x81 h t21 =>
 vtouch O (.pick (.k x75) (.k x81) (.k (kB false))) h 82 fun x82 h t22 =>
 vtouch O (.mv (.k x82)) h 83 fun x83 h t23 =>
 vguardT x83 true (fun kk => vtouch O (.mv (.k x50)) h 84 kk) h fun x84 h t24 =>
 vguardT x83 true (fun kk => vtouch O (.call (.k (.v (.c (.func 18 [])))) [(.k x84), (.k (kS [102]))]) h 85 kk) h fun x85 h t25 =>
 vguardT x83 true (fun kk => vtouch O (.mv (.k x24)) h 86 kk) h fun x86 h t26 =>
 vguardT x83 true (fun kk => vtouch O (.mv (.k x27)) h 87 kk) h fun x87 h t27 =>
 vguardT x83 true (fun kk => vtouch O (.iaddr 1 (.k x86) (.k x87)) h 88 kk) h fun x88 h t28 =>
 vguardT x83 true (fun kk => vtouch O (.load false 1 (.k x88)) h 89 kk) h fun x89 h t29 =>
 vguardT x83 true (fun kk => vtouch O (.bin .eql 0 (.k x85) (.k x89)) h 90 kk) h fun x90 h t30 =>
 vtouch O (.pick (.k x83) (.k x90) (.k (kB false))) h 91 fun x91 h t31 =>
 vtouch O (.mv (.k x91)) h 92 fun x92 h t32 =>
 vguardT x92 true (fun kk => vtouch O (.mv (.k x50)) h 93 kk) h fun x93 h t33 =>
 vguardT x92 true (fun kk => vtouch O (.call (.k (.v (.c (.func 18 [])))) [(.k x93), (.k (kS [103]))]) h 94 kk) h fun x94 h t34 =>
 vguardT x92 true (fun kk => vtouch O (.mv (.k x25)) h 95 kk) h fun x95 h t35 =>
 vguardT x92 true (fun kk => vtouch O (.mv (.k x27)) h 96 kk) h fun x96 h t36 =>
 vguardT x92 true (fun kk => vtouch O (.iaddr 1 (.k x95) (.k x96)) h 97 kk) h fun x97 h t37 =>
 vguardT x92 true (fun kk => vtouch O (.load false 1 (.k x97)) h 98 kk) h fun x98 h t38 =>
 vguardT x92 true (fun kk => vtouch O (.bin .eql 0 (.k x94) (.k x98)) h 99 kk) h fun x99 h t39 =>
 vtouch O (.pick (.k x92) (.k x99) (.k (kB false))) h 100 fun x100 h t40 =>
 vtouch O (.mv (.k x100)) h 2 fun x2 h t41 =>
 bif apartAll [t0, t1, t2, t3, t4, t5, t6, t7, t8, t9, t10, t11, t12, t13, t14, t15, t16, t17, t18, t19, t20, t21, t22, t23, t24, t25, t26, t27, t28, t29, t30, t31, t32, t33, t34, t35, t36, t37, t38, t39, t40, t41] [(25, 29), (34, 38)] then
 tcomp x2 fun c0 => vfin true q [c0] h
 else none)
theorem e6_0 (O : Oracle) (R : Jump) (q : Nat) (x0 : TVal) (h : Heap) : b6_0 O R q x0 h = stepF c6 O R q 0 [x0] h := by kernel_rfl
noncomputable def d6 : BlkF := fun O R q => [.s fun y0 => .z fun h => b6_0 O R q y0 h]
theorem o6 (O : Oracle) (R : Jump) (q : Nat) : HoldsAll c6 O R q 0 (d6 O R q) := ⟨fun y0 h => e6_0 O R q y0 h, trivial⟩
/- sprue/spruelaw16.known -/
def c11 : MFunc := { np := 0, res := [.t 0], frz := true, body := (.seq (.reg [(oA 0 (.mv (.k (.v (.c (.p (.bool false)))))))] []) (.seq (.reg [(oA 8 (.call (.k (.v (.c (.func 14 [])))) [(.k (.v (.c (.p (.str [97, 123, 123, 46, 125, 125])))))])), (oA 7 (.mv (.t 8))), (oA 9 (.extract (.t 7) 0)), (oA 10 (.extract (.t 7) 1)), (oA 11 (.extract (.t 7) 2)), (oA 1 (.mv (.t 9))), (oA 2 (.mv (.t 10))), (oA 3 (.mv (.t 11)))] []) (.seq (.reg [(oA 13 (.mv (.t 1))), (oA 14 (.build [(.p (.int .i64 0)), (.p (.bool false)), (.p (.int .i64 0)), (.p (.str [])), (.p .nilslice), (.p .nilslice)] [(0, 1, (.k (.v (.c (.p (.int .i64 2)))))), (2, 1, (.k (.v (.c (.p (.int .i64 5))))))])), (oA 15 (.call (.k (.v (.c (.func 16 [])))) [(.k (.v (.c (.p .nilslice))))])), (oA 16 (.build [(.p (.int .i64 0)), (.p (.int .i64 0)), (.p (.int .i64 0))] [(0, 1, (.k (.v (.c (.p (.int .i64 9)))))), (1, 1, (.k (.v (.c (.p (.int .i64 1)))))), (2, 1, (.k (.v (.c (.p (.int .i64 (-1)))))))])), (oA 17 (.call (.k (.v (.c (.func 17 [])))) [(.t 13), (.t 14), (.t 15), (.t 16)])), (oA 12 (.mv (.t 17))), (oA 18 (.extract (.t 12) 0)), (oA 19 (.extract (.t 12) 1)), (oA 20 (.extract (.t 12) 2)), (oA 4 (.mv (.t 18))), (oA 5 (.mv (.t 19))), (oA 6 (.mv (.t 20)))] []) (.seq (.reg [(oA 21 (.mv (.t 3))), (oA 22 (.bin .eql 0 (.t 21) (.k (.v (.c (.p (.int .i64 0))))))), (oA 23 (.mv (.t 22))), ⟨(some 24), (.mv (.t 6)), (some (23, true))⟩, ⟨(some 25), (.bin .eql 0 (.t 24) (.k (.v (.c (.p (.int .i64 0)))))), (some (23, true))⟩, (oA 26 (.pick (.t 23) (.t 25) (.k (.v (.c (.p (.bool false))))))), (oA 27 (.mv (.t 26))), ⟨(some 28), (.mv (.t 4)), (some (27, true))⟩, ⟨(some 29), (.toStr (.t 28)), (some (27, true))⟩, ⟨(some 30), (.bin .eql 0 (.t 29) (.k (.v (.c (.p (.str [97, 53])))))), (some (27, true))⟩, (oA 31 (.pick (.t 27) (.t 30) (.k (.v (.c (.p (.bool false))))))), (oA 32 (.mv (.t 31))), ⟨(some 33), (.mv (.t 5)), (some (32, true))⟩, ⟨(some 34), (.bin .eql 0 (.t 33) (.k (.v (.c (.p (.int .i64 3)))))), (some (32, true))⟩, (oA 35 (.pick (.t 32) (.t 34) (.k (.v (.c (.p (.bool false))))))), (oA 0 (.mv (.t 35)))] []) .ret)))) }
theorem t11 : compF Tryz.prog (globs2 tabs opq) (fun _ => false) true Tryz.f11 = some c11.erase := by kernel_rfl
noncomputable def b11_0 (O : Oracle) (R : Jump) (q : Nat) (h : Heap) : Res1 :=
 vcall O (.v (.c (.func 14 []))) [(kS [97, 123, 123, 46, 125, 125])] h 8 fun x8 h =>
 vext x8 0 h fun x9 h =>
 vext x8 1 h fun x10 h =>
 vext x8 2 h fun x11 h =>
 vop O (.build [(.p (.int .i64 0)), (.p (.bool false)), (.p (.int .i64 0)), (.p (.str [])), (.p .nilslice), (.p .nilslice)] [(0, 1, (.k (kI 2))), (2, 1, (.k (kI 5)))]) h 14 fun x14 h =>
 vcall O (.v (.c (.func 16 []))) [(.v (.c (.p .nilslice)))] h 15 fun x15 h =>
 vop O (.build [(.p (.int .i64 0)), (.p (.int .i64 0)), (.p (.int .i64 0))] [(0, 1, (.k (kI 9))), (1, 1, (.k (kI 1))), (2, 1, (.k (kI (-1))))]) h 16 fun x16 h =>
 vcall O (.v (.c (.func 17 []))) [x9, x14, x15, x16] h 17 fun x17 h =>
 vext x17 0 h fun x18 h =>
 vext x17 1 h fun x19 h =>
 vext x17 2 h fun x20 h =>
 vbin .eql 0 x11 (kI 0) h fun x22 h =>
 vguard x22 true (fun kk => kk x20 h) h fun x24 h =>
 vguard x22 true (fun kk => vbin .eql 0 x24 (kI 0) h kk) h fun x25 h =>
 vop O (.pick (.k x22) (.k x25) (.k (kB false))) h 26 fun x26 h =>
 vguard x26 true (fun kk => kk x18 h) h fun x28 h =>
 vguard x26 true (fun kk => vop O (.toStr (.k x28)) h 29 kk) h fun x29 h =>
 vguard x26 true (fun kk => vbin .eql 0 x29 (kS [97, 53]) h kk) h fun x30 h =>
 vop O (.pick (.k x26) (.k x30) (.k (kB false))) h 31 fun x31 h =>
 vguard x31 true (fun kk => kk x19 h) h fun x33 h =>
 vguard x31 true (fun kk => vbin .eql 0 x33 (kI 3) h kk) h fun x34 h =>
 vop O (.pick (.k x31) (.k x34) (.k (kB false))) h 35 fun x35 h =>
 tcomp x35 fun c0 => vfin true q [c0] h
theorem e11_0 (O : Oracle) (R : Jump) (q : Nat) (h : Heap) : b11_0 O R q  h = stepF c11 O R q 0 [] h := by kernel_rfl
noncomputable def d11 : BlkF := fun O R q => [.z fun h => b11_0 O R q  h]
theorem o11 (O : Oracle) (R : Jump) (q : Nat) : HoldsAll c11 O R q 0 (d11 O R q) := ⟨fun  h => e11_0 O R q  h, trivial⟩
/- sprue/spruelaw16.within -/
def c12 : MFunc := { np := 2, res := [.t 4], frz := true, body := (.seq (.reg [(oA 4 (.mv (.k (.v (.c (.p (.int .i64 0)))))))] []) (.seq (.reg [(oA 6 (.mv (.t 0))), (oA 7 (.mv (.t 1))), (oA 8 (.bin .rem 0 (.t 6) (.t 7))), (oA 5 (.mv (.t 8)))] []) (.seq (.seq (.reg [(oA 9 (.mv (.t 5))), (oA 10 (.bin .lss 0 (.t 9) (.k (.v (.c (.p (.int .i64 0)))))))] []) (.cond (.t 10) (.reg [(oA 11 (.mv (.t 5))), (oA 12 (.mv (.t 1))), (oA 13 (.bin .add 0 (.t 11) (.t 12))), (oA 5 (.mv (.t 13)))] []) .skip)) (.seq (.reg [(oA 14 (.mv (.t 5))), (oA 4 (.mv (.t 14)))] []) .ret)))) }
theorem t12 : compF Tryz.prog (globs2 tabs opq) (fun _ => false) true Tryz.f12 = some c12.erase := by kernel_rfl
noncomputable def b12_0 (O : Oracle) (R : Jump) (q : Nat) (x0 x1 : TVal) (h : Heap) : Res1 :=
 vbin .rem 0 x0 x1 h fun x8 h =>
 vbin .lss 0 x8 (kI 0) h fun x10 h =>
 vif x10 (
 vbin .add 0 x8 x1 h fun x13 h =>
 tcomp x13 fun c0 => vfin true q [c0] h)
 (tcomp x8 fun c0 => vfin true q [c0] h)
theorem e12_0 (O : Oracle) (R : Jump) (q : Nat) (x0 x1 : TVal) (h : Heap) : b12_0 O R q x0 x1 h = stepF c12 O R q 0 [x0, x1] h := by kernel_rfl
noncomputable def d12 : BlkF := fun O R q => [.s fun y0 => .s fun y1 => .z fun h => b12_0 O R q y0 y1 h]
theorem o12 (O : Oracle) (R : Jump) (q : Nat) : HoldsAll c12 O R q 0 (d12 O R q) := ⟨fun y0 y1 h => e12_0 O R q y0 y1 h, trivial⟩
/- sprue/spruelaw16.run -/
def c13 : MFunc := { np := 3, res := [.t 6, .t 7], frz := true, body := (.seq (.reg [(oA 6 (.mv (.k (.v (.c (.p (.str []))))))), (oA 7 (.mv (.k (.v (.c (.p (.int .i64 0)))))))] []) (.seq (.reg [(oA 17 (.mv (.t 0))), (oA 18 (.call (.k (.v (.c (.func 14 [])))) [(.t 17)])), (oA 16 (.mv (.t 18))), (oA 19 (.extract (.t 16) 0)), (oA 20 (.extract (.t 16) 1)), (oA 21 (.extract (.t 16) 2)), (oA 8 (.mv (.t 19))), (oA 9 (.mv (.t 20))), (oA 10 (.mv (.t 21)))] []) (.seq (.reg [(oA 23 (.mv (.t 1))), (oA 24 (.call (.k (.v (.c (.func 15 [])))) [(.t 23)])), (oA 22 (.mv (.t 24))), (oA 25 (.extract (.t 22) 0)), (oA 26 (.extract (.t 22) 1)), (oA 11 (.alloc [(.p (.int .i64 0)), (.p (.bool false)), (.p (.int .i64 0)), (.p (.str [])), (.p .nilslice), (.p .nilslice)] false)), (oN (.store 6 (.t 11) (.t 25))), (oA 12 (.mv (.t 26)))] []) (.seq (.seq (.reg [(oA 27 (.mv (.t 10))), (oA 28 (.bin .neq 0 (.t 27) (.k (.v (.c (.p (.int .i64 0))))))), (oA 29 (.mv (.t 28))), ⟨(some 30), (.mv (.t 12)), (some (29, false))⟩, ⟨(some 31), (.bin .neq 0 (.t 30) (.k (.v (.c (.p (.int .i64 0)))))), (some (29, false))⟩, (oA 32 (.pick (.t 29) (.k (.v (.c (.p (.bool true))))) (.t 31)))] []) (.cond (.t 32) (.seq (.reg [(oA 6 (.mv (.k (.v (.c (.p (.str [33]))))))), (oA 7 (.mv (.k (.v (.c (.p (.int .i64 1)))))))] []) .ret) .skip)) (.seq (.reg [(oA 34 (.mv (.t 8))), (oA 35 (.load true 6 (.t 11))), (oA 36 (.mv (.t 2))), (oA 37 (.call (.k (.v (.c (.func 16 [])))) [(.t 36)])), (oA 38 (.build [(.p (.int .i64 0)), (.p (.int .i64 0)), (.p (.int .i64 0))] [(0, 1, (.k (.v (.c (.p (.int .i64 5000)))))), (1, 1, (.k (.v (.c (.p (.int .i64 12)))))), (2, 1, (.k (.v (.c (.p (.int .i64 (-1)))))))])), (oA 39 (.call (.k (.v (.c (.func 17 [])))) [(.t 34), (.t 35), (.t 37), (.t 38)])), (oA 33 (.mv (.t 39))), (oA 40 (.extract (.t 33) 0)), (oA 41 (.extract (.t 33) 1)), (oA 42 (.extract (.t 33) 2)), (oA 13 (.mv (.t 40))), (oA 14 (.mv (.t 41))), (oA 15 (.mv (.t 42)))] [(1, 3)]) (.seq (.reg [(oA 43 (.mv (.t 13))), (oA 44 (.toStr (.t 43))), (oA 45 (.mv (.t 15))), (oA 6 (.mv (.t 44))), (oA 7 (.mv (.t 45)))] []) .ret)))))) }
theorem t13 : compF Tryz.prog (globs2 tabs opq) (fun _ => false) true Tryz.f13 = some c13.erase := by kernel_rfl
noncomputable def b13_0 (O : Oracle) (R : Jump) (q : Nat) (x0 x1 x2 : TVal) (h : Heap) : Res1 :=
 vcall O (.v (.c (.func 14 []))) [x0] h 18 fun x18 h =>
 vext x18 0 h fun x19 h =>
 vext x18 1 h fun x20 h =>
 vext x18 2 h fun x21 h =>
 vcall O (.v (.c (.func 15 []))) [x1] h 24 fun x24 h =>
 vext x24 0 h fun x25 h =>
 vext x24 1 h fun x26 h =>
 vop O (.alloc [(.p (.int .i64 0)), (.p (.bool false)), (.p (.int .i64 0)), (.p (.str [])), (.p .nilslice), (.p .nilslice)] false) h 11 fun x11 h =>
 vstore 6 x11 x25 h fun _ h =>
 vbin .neq 0 x21 (kI 0) h fun x28 h =>
 vguard x28 false (fun kk => kk x26 h) h fun x30 h =>
 vguard x28 false (fun kk => vbin .neq 0 x30 (kI 0) h kk) h fun x31 h =>
 vop O (.pick (.k x28) (.k (kB true)) (.k x31)) h 32 fun x32 h =>
 vif x32 (
 tcomp (kS [33]) fun c0 => tcomp (kI 1) fun c1 => vfin true q [c0, c1] h)
 (vtouch O (.mv (.k x19)) h 34 fun x34 h t0 =>
 vtouch O (.load true 6 (.k x11)) h 35 fun x35 h t1 =>
 vtouch O (.mv (.k x2)) h 36 fun x36 h t2 =>
 vtouch O (.call (.k (.v (.c (.func 16 [])))) [(.k x36)]) h 37 fun x37 h t3 =>
 vtouch O (.build [(.p (.int .i64 0)), (.p (.int .i64 0)), (.p (.int .i64 0))] [(0, 1, (.k (kI 5000))), (1, 1, (.k (kI 12))), (2, 1, (.k (kI (-1))))]) h 38 fun x38 h t4 =>
 vtouch O (.call (.k (.v (.c (.func 17 [])))) [(.k x34), (.k x35), (.k x37), (.k x38)]) h 39 fun x39 h t5 =>
 vtouch O (.mv (.k x39)) h 33 fun x33 h t6 =>
 vtouch O (.extract (.k x33) 0) h 40 fun x40 h t7 =>
 vtouch O (.extract (.k x33) 1) h 41 fun x41 h t8 =>
 vtouch O (.extract (.k x33) 2) h 42 fun x42 h t9 =>
 vtouch O (.mv (.k x40)) h 13 fun x13 h t10 =>
 vtouch O (.mv (.k x41)) h 14 fun x14 h t11 =>
 vtouch O (.mv (.k x42)) h 15 fun x15 h t12 =>
 bif apartAll [t0, t1, t2, t3, t4, t5, t6, t7, t8, t9, t10, t11, t12] [(1, 3)] then
 vop O (.toStr (.k x13)) h 44 fun x44 h =>
 tcomp x44 fun c0 => tcomp x15 fun c1 => vfin true q [c0, c1] h
 else none)
theorem e13_0 (O : Oracle) (R : Jump) (q : Nat) (x0 x1 x2 : TVal) (h : Heap) : b13_0 O R q x0 x1 x2 h = stepF c13 O R q 0 [x0, x1, x2] h := by kernel_rfl
noncomputable def d13 : BlkF := fun O R q => [.s fun y0 => .s fun y1 => .s fun y2 => .z fun h => b13_0 O R q y0 y1 y2 h]
theorem o13 (O : Oracle) (R : Jump) (q : Nat) : HoldsAll c13 O R q 0 (d13 O R q) := ⟨fun y0 y1 y2 h => e13_0 O R q y0 y1 y2 h, trivial⟩
/- sprue/sprueref7.Parse -/
def c14 : MFunc := { np := 1, res := [.t 2, .t 3, .t 4], frz := true, body := (.seq (.reg [(oA 2 (.mv (.k (.v (.c (.p .nilslice)))))), (oA 3 (.mv (.k (.v (.c (.p (.int .i64 0))))))), (oA 4 (.mv (.k (.v (.c (.p (.int .i64 0)))))))] []) (.seq (.reg [(oA 11 (.mv (.t 0))), (oA 12 (.call (.k (.v (.c (.func 21 [])))) [(.t 11)])), (oA 10 (.mv (.t 12))), (oA 13 (.extract (.t 10) 0)), (oA 14 (.extract (.t 10) 1)), (oA 5 (.mv (.t 13))), (oA 6 (.mv (.t 14)))] []) (.seq (.seq (.reg [(oA 15 (.mv (.t 6))), (oA 16 (.bin .neq 0 (.t 15) (.k (.v (.c (.p (.int .i64 0)))))))] []) (.cond (.t 16) (.seq (.reg [(oA 17 (.mv (.t 6))), (oA 2 (.mv (.k (.v (.c (.p .nilslice)))))), (oA 3 (.mv (.k (.v (.c (.p (.int .i64 0))))))), (oA 4 (.mv (.t 17)))] []) .ret) .skip)) (.seq (.reg [(oA 18 (.build [(.p .nilslice), (.p .nilslice), (.p .nilslice), (.p (.int .i64 0))] [])), (oA 19 (.box (.t 18) false)), (oA 7 (.mv (.t 19)))] []) (.seq (.seq (.reg [(oA 8 (.mv (.k (.v (.c (.p (.int .i64 0)))))))] []) (.block 0 (.loop 1 [0, 5, 7, 8] (.seq (.seq (.reg [(oA 20 (.mv (.t 8))), (oA 21 (.mv (.t 5))), (oA 22 (.len 2 (.t 21))), (oA 23 (.bin .lss 0 (.t 20) (.t 22)))] []) (.cond (.t 23) .skip (.exit 0))) (.seq (.block 1 (.seq (.reg [(oA 9 (.mv (.k (.v (.c (.p (.int .i64 0)))))))] []) (.seq (.seq (.reg [(oA 26 (.mv (.t 5))), (oA 27 (.mv (.t 8))), (oA 28 (.iaddr 3 (.t 26) (.t 27))), (oA 29 (.faddr 0 (.t 28))), (oA 30 (.load false 1 (.t 29)))] []) (.cond (.t 30) (.reg [(oA 31 (.mv (.t 7))), (oA 32 (.mv (.t 5))), (oA 33 (.mv (.t 8))), (oA 34 (.iaddr 3 (.t 32) (.t 33))), (oA 35 (.load true 3 (.t 34))), (oA 36 (.call (.k (.v (.c (.func 22 [])))) [(.t 31), (.t 35)])), (oA 9 (.mv (.t 36)))] []) (.reg [(oA 37 (.mv (.t 7))), (oA 38 (.mv (.t 5))), (oA 39 (.mv (.t 8))), (oA 40 (.iaddr 3 (.t 38) (.t 39))), (oA 41 (.load true 3 (.t 40))), (oA 42 (.call (.k (.v (.c (.func 23 [])))) [(.t 37), (.t 41)])), (oA 9 (.mv (.t 42)))] []))) (.mark 2 [0, 5, 7, 8, 9] (.seq (.reg [(oA 43 (.mv (.t 9))), (oA 44 (.bin .neq 0 (.t 43) (.k (.v (.c (.p (.int .i64 0)))))))] []) (.cond (.t 44) (.seq (.reg [(oA 45 (.mv (.t 5))), (oA 46 (.mv (.t 8))), (oA 47 (.iaddr 3 (.t 45) (.t 46))), (oA 48 (.faddr 2 (.t 47))), (oA 49 (.load false 1 (.t 48))), (oA 50 (.mv (.t 9))), (oA 2 (.mv (.k (.v (.c (.p .nilslice)))))), (oA 3 (.mv (.t 49))), (oA 4 (.mv (.t 50)))] []) .ret) .skip)))))) (.reg [(oA 24 (.mv (.t 8))), (oA 25 (.bin .add 0 (.t 24) (.k (.v (.c (.p (.int .i64 1))))))), (oA 8 (.mv (.t 25)))] [])))))) (.mark 3 [0, 7] (.seq (.seq (.reg [(oA 51 (.mv (.t 7))), (oA 52 (.nilck (.t 51))), (oA 53 (.faddr 0 (.t 52))), (oA 54 (.load false 1 (.t 53))), (oA 55 (.len 2 (.t 54))), (oA 56 (.bin .gtr 0 (.t 55) (.k (.v (.c (.p (.int .i64 0)))))))] []) (.cond (.t 56) (.seq (.reg [(oA 57 (.mv (.t 0))), (oA 58 (.len 0 (.t 57))), (oA 2 (.mv (.k (.v (.c (.p .nilslice)))))), (oA 3 (.mv (.t 58))), (oA 4 (.mv (.k (.v (.c (.p (.int .i64 12)))))))] []) .ret) .skip)) (.seq (.reg [(oA 59 (.mv (.t 7))), (oA 60 (.nilck (.t 59))), (oA 61 (.faddr 1 (.t 60))), (oA 62 (.load false 1 (.t 61))), (oA 63 (.build [(.p (.str [])), (.p .nilslice)] [(1, 1, (.t 62))])), (oA 64 (.bslice 2 1 [(.p (.str [])), (.p .nilslice)] [(0, (.t 63))] false)), (oA 65 (.mv (.t 7))), (oA 66 (.nilck (.t 65))), (oA 67 (.faddr 2 (.t 66))), (oA 68 (.load false 1 (.t 67))), (oA 69 (.append 2 40 false (.t 64) (.t 68))), (oA 2 (.mv (.t 69))), (oA 3 (.mv (.k (.v (.c (.p (.int .i64 0))))))), (oA 4 (.mv (.k (.v (.c (.p (.int .i64 0)))))))] [(5, 9)]) .ret)))))))) }
theorem t14 : compF Tryz.prog (globs2 tabs opq) (fun _ => false) true Tryz.f14 = some c14.erase := by kernel_rfl
noncomputable def b14_0 (O : Oracle) (R : Jump) (q : Nat) (x0 : TVal) (h : Heap) : Res1 :=
 vcall O (.v (.c (.func 21 []))) [x0] h 12 fun x12 h =>
 vext x12 0 h fun x13 h =>
 vext x12 1 h fun x14 h =>
 vbin .neq 0 x14 (kI 0) h fun x16 h =>
 vif x16 (
 tcomp (.v (.c (.p .nilslice))) fun c0 => tcomp (kI 0) fun c1 => tcomp x14 fun c2 => vfin true q [c0, c1, c2] h)
 (vop O (.build [(.p .nilslice), (.p .nilslice), (.p .nilslice), (.p (.int .i64 0))] []) h 18 fun x18 h =>
 vop O (.box (.k x18) false) h 19 fun x19 h =>
 R 1 [x0, x13, x19, (kI 0)] h)
theorem e14_0 (O : Oracle) (R : Jump) (q : Nat) (x0 : TVal) (h : Heap) : b14_0 O R q x0 h = stepF c14 O R q 0 [x0] h := by kernel_rfl
noncomputable def b14_1 (O : Oracle) (R : Jump) (q : Nat) (x0 x5 x7 x8 : TVal) (h : Heap) : Res1 :=
 vlen O 2 x5 h 22 fun x22 h =>
 vbin .lss 0 x8 x22 h fun x23 h =>
 vif x23 (
 viaddr 3 x5 x8 h fun x28 h =>
 vfaddr 0 x28 h fun x29 h =>
 vload false 1 x29 h fun x30 h =>
 vif x30 (
 viaddr 3 x5 x8 h fun x34 h =>
 vload true 3 x34 h fun x35 h =>
 vcall O (.v (.c (.func 22 []))) [x7, x35] h 36 fun x36 h =>
 R 2 [x0, x5, x7, x8, x36] h)
 (viaddr 3 x5 x8 h fun x40 h =>
 vload true 3 x40 h fun x41 h =>
 vcall O (.v (.c (.func 23 []))) [x7, x41] h 42 fun x42 h =>
 R 2 [x0, x5, x7, x8, x42] h))
 (R 3 [x0, x7] h)
theorem e14_1 (O : Oracle) (R : Jump) (q : Nat) (x0 x5 x7 x8 : TVal) (h : Heap) : b14_1 O R q x0 x5 x7 x8 h = stepF c14 O R q 1 [x0, x5, x7, x8] h := by kernel_rfl
noncomputable def b14_2 (O : Oracle) (R : Jump) (q : Nat) (x0 x5 x7 x8 x9 : TVal) (h : Heap) : Res1 :=
 vbin .neq 0 x9 (kI 0) h fun x44 h =>
 vif x44 (
 viaddr 3 x5 x8 h fun x47 h =>
 vfaddr 2 x47 h fun x48 h =>
 vload false 1 x48 h fun x49 h =>
 tcomp (.v (.c (.p .nilslice))) fun c0 => tcomp x49 fun c1 => tcomp x9 fun c2 => vfin true q [c0, c1, c2] h)
 (vbin .add 0 x8 (kI 1) h fun x25 h =>
 R 1 [x0, x5, x7, x25] h)
theorem e14_2 (O : Oracle) (R : Jump) (q : Nat) (x0 x5 x7 x8 x9 : TVal) (h : Heap) : b14_2 O R q x0 x5 x7 x8 x9 h = stepF c14 O R q 2 [x0, x5, x7, x8, x9] h := by kernel_rfl
noncomputable def b14_3 (O : Oracle) (R : Jump) (q : Nat) (x0 x7 : TVal) (h : Heap) : Res1 :=
 vop O (.nilck (.k x7)) h 52 fun x52 h =>
 vfaddr 0 x52 h fun x53 h =>
 vload false 1 x53 h fun x54 h =>
 vlen O 2 x54 h 55 fun x55 h =>
 vbin .gtr 0 x55 (kI 0) h fun x56 h =>
 vif x56 (
 vlen O 0 x0 h 58 fun x58 h =>
 tcomp (.v (.c (.p .nilslice))) fun c0 => tcomp x58 fun c1 => tcomp (kI 12) fun c2 => vfin true q [c0, c1, c2] h)
 (vtouch O (.mv (.k x7)) h 59 fun x59 h t0 =>
 vtouch O (.nilck (.k x59)) h 60 fun x60 h t1 =>
 vtouch O (.faddr 1 (.k x60)) h 61 fun x61 h t2 =>
 vtouch O (.load false 1 (.k x61)) h 62 fun x62 h t3 =>
 vtouch O (.build [(.p (.str [])), (.p .nilslice)] [(1, 1, (.k x62))]) h 63 fun x63 h t4 =>
 vtouch O (.bslice 2 1 [(.p (.str [])), (.p .nilslice)] [(0, (.k x63))] false) h 64 fun x64 h t5 =>
 vtouch O (.mv (.k x7)) h 65 fun x65 h t6 =>
 vtouch O (.nilck (.k x65)) h 66 fun x66 h t7 =>
 vtouch O (.faddr 2 (.k x66)) h 67 fun x67 h t8 =>
 vtouch O (.load false 1 (.k x67)) h 68 fun x68 h t9 =>
 vtouch O (.append 2 40 false (.k x64) (.k x68)) h 69 fun x69 h t10 =>
 vtouch O (.mv (.k x69)) h 2 fun x2 h t11 =>
 vtouch O (.mv (.k (kI 0))) h 3 fun x3 h t12 =>
 vtouch O (.mv (.k (kI 0))) h 4 fun x4 h t13 =>
 bif apartAll [t0, t1, t2, t3, t4, t5, t6, t7, t8, t9, t10, t11, t12, t13] [(5, 9)] then
 tcomp x2 fun c0 => tcomp x3 fun c1 => tcomp x4 fun c2 => vfin true q [c0, c1, c2] h
 else none)
theorem e14_3 (O : Oracle) (R : Jump) (q : Nat) (x0 x7 : TVal) (h : Heap) : b14_3 O R q x0 x7 h = stepF c14 O R q 3 [x0, x7] h := by kernel_rfl
noncomputable def d14 : BlkF := fun O R q => [.s fun y0 => .z fun h => b14_0 O R q y0 h, .s fun y0 => .s fun y1 => .s fun y2 => .s fun y3 => .z fun h => b14_1 O R q y0 y1 y2 y3 h, .s fun y0 => .s fun y1 => .s fun y2 => .s fun y3 => .s fun y4 => .z fun h => b14_2 O R q y0 y1 y2 y3 y4 h, .s fun y0 => .s fun y1 => .z fun h => b14_3 O R q y0 y1 h]
theorem o14 (O : Oracle) (R : Jump) (q : Nat) : HoldsAll c14 O R q 0 (d14 O R q) := ⟨fun y0 h => e14_0 O R q y0 h, fun y0 y1 y2 y3 h => e14_1 O R q y0 y1 y2 y3 h, fun y0 y1 y2 y3 y4 h => e14_2 O R q y0 y1 y2 y3 y4 h, fun y0 y1 h => e14_3 O R q y0 y1 h, trivial⟩
/- sprue/sprueref13.Parse -/
def c15 : MFunc := { np := 1, res := [.cell 2 true 6, .t 3], frz := true, body := (.seq (.reg [(oA 2 (.alloc [(.p (.int .i64 0)), (.p (.bool false)), (.p (.int .i64 0)), (.p (.str [])), (.p .nilslice), (.p .nilslice)] false)), (oA 3 (.mv (.k (.v (.c (.p (.int .i64 0)))))))] []) (.seq (.seq (.reg [(oA 6 (.mv (.t 0))), (oA 7 (.len 0 (.t 6))), (oA 8 (.bin .gtr 0 (.t 7) (.k (.v (.c (.p (.int .i64 20000)))))))] []) (.cond (.t 8) (.seq (.reg [(oA 9 (.build [(.p (.int .i64 0)), (.p (.bool false)), (.p (.int .i64 0)), (.p (.str [])), (.p .nilslice), (.p .nilslice)] [])), (oN (.store 6 (.t 2) (.t 9))), (oA 3 (.mv (.k (.v (.c (.p (.int .i64 4)))))))] []) .ret) .skip)) (.seq (.reg [(oA 10 (.mv (.t 0))), (oA 11 (.build [(.p (.str [])), (.p (.int .i64 0)), (.p (.int .i64 0))] [(0, 1, (.t 10))])), (oA 12 (.box (.t 11) false)), (oA 4 (.mv (.t 12)))] []) (.seq (.reg [(oA 13 (.mv (.t 4))), (oA 14 (.call (.k (.v (.c (.func 24 [])))) [(.t 13), (.k (.v (.c (.p (.int .i64 1)))))])), (oA 5 (.alloc [(.p (.int .i64 0)), (.p (.bool false)), (.p (.int .i64 0)), (.p (.str [])), (.p .nilslice), (.p .nilslice)] false)), (oN (.store 6 (.t 5) (.t 14)))] []) (.seq (.reg [(oA 15 (.mv (.t 4))), (oA 16 (.call (.k (.v (.c (.func 25 [])))) [(.t 15)]))] []) (.seq (.seq (.reg [(oA 17 (.mv (.t 4))), (oA 18 (.nilck (.t 17))), (oA 19 (.faddr 1 (.t 18))), (oA 20 (.load false 1 (.t 19))), (oA 21 (.mv (.t 0))), (oA 22 (.len 0 (.t 21))), (oA 23 (.bin .lss 0 (.t 20) (.t 22)))] []) (.cond (.t 23) (.reg [(oA 24 (.mv (.t 4))), (oA 25 (.call (.k (.v (.c (.func 26 [])))) [(.t 24), (.k (.v (.c (.p (.int .i64 12)))))]))] []) .skip)) (.mark 1 [2, 4, 5] (.seq (.seq (.reg [(oA 26 (.mv (.t 4))), (oA 27 (.nilck (.t 26))), (oA 28 (.faddr 2 (.t 27))), (oA 29 (.load false 1 (.t 28))), (oA 30 (.bin .eql 0 (.t 29) (.k (.v (.c (.p (.int .i64 0)))))))] []) (.cond (.t 30) (.reg [(oA 31 (.mv (.t 4))), (oA 32 (.load true 6 (.t 5))), (oA 33 (.call (.k (.v (.c (.func 27 [])))) [(.t 32)])), (oA 34 (.nilck (.t 31))), (oA 35 (.faddr 2 (.t 34))), (oN (.store 1 (.t 35) (.t 33)))] []) .skip)) (.mark 2 [2, 4, 5] (.seq (.seq (.reg [(oA 36 (.mv (.t 4))), (oA 37 (.nilck (.t 36))), (oA 38 (.faddr 2 (.t 37))), (oA 39 (.load false 1 (.t 38))), (oA 40 (.bin .neq 0 (.t 39) (.k (.v (.c (.p (.int .i64 0)))))))] []) (.cond (.t 40) (.seq (.reg [(oA 41 (.build [(.p (.int .i64 0)), (.p (.bool false)), (.p (.int .i64 0)), (.p (.str [])), (.p .nilslice), (.p .nilslice)] [])), (oA 42 (.mv (.t 4))), (oA 43 (.nilck (.t 42))), (oA 44 (.faddr 2 (.t 43))), (oA 45 (.load false 1 (.t 44))), (oN (.store 6 (.t 2) (.t 41))), (oA 3 (.mv (.t 45)))] [(4, 5)]) .ret) .skip)) (.seq (.reg [(oA 46 (.load true 6 (.t 5))), (oN (.store 6 (.t 2) (.t 46))), (oA 3 (.mv (.k (.v (.c (.p (.int .i64 0)))))))] []) .ret))))))))))) }
theorem t15 : compF Tryz.prog (globs2 tabs opq) (fun _ => false) true Tryz.f15 = some c15.erase := by kernel_rfl
noncomputable def b15_0 (O : Oracle) (R : Jump) (q : Nat) (x0 : TVal) (h : Heap) : Res1 :=
 vop O (.alloc [(.p (.int .i64 0)), (.p (.bool false)), (.p (.int .i64 0)), (.p (.str [])), (.p .nilslice), (.p .nilslice)] false) h 2 fun x2 h =>
 vlen O 0 x0 h 7 fun x7 h =>
 vbin .gtr 0 x7 (kI 20000) h fun x8 h =>
 vif x8 (
 vop O (.build [(.p (.int .i64 0)), (.p (.bool false)), (.p (.int .i64 0)), (.p (.str [])), (.p .nilslice), (.p .nilslice)] []) h 9 fun x9 h =>
 vstore 6 x2 x9 h fun _ h =>
 vcell true 6 x2 h fun c0 => tcomp (kI 4) fun c1 => vfin true q [c0, c1] h)
 (vop O (.build [(.p (.str [])), (.p (.int .i64 0)), (.p (.int .i64 0))] [(0, 1, (.k x0))]) h 11 fun x11 h =>
 vop O (.box (.k x11) false) h 12 fun x12 h =>
 vcall O (.v (.c (.func 24 []))) [x12, (kI 1)] h 14 fun x14 h =>
 vop O (.alloc [(.p (.int .i64 0)), (.p (.bool false)), (.p (.int .i64 0)), (.p (.str [])), (.p .nilslice), (.p .nilslice)] false) h 5 fun x5 h =>
 vstore 6 x5 x14 h fun _ h =>
 vcall O (.v (.c (.func 25 []))) [x12] h 16 fun x16 h =>
 vop O (.nilck (.k x12)) h 18 fun x18 h =>
 vfaddr 1 x18 h fun x19 h =>
 vload false 1 x19 h fun x20 h =>
 vlen O 0 x0 h 22 fun x22 h =>
 vbin .lss 0 x20 x22 h fun x23 h =>
 vif x23 (
 vcall O (.v (.c (.func 26 []))) [x12, (kI 12)] h 25 fun x25 h =>
 R 1 [x2, x12, x5] h)
 (R 1 [x2, x12, x5] h))
theorem e15_0 (O : Oracle) (R : Jump) (q : Nat) (x0 : TVal) (h : Heap) : b15_0 O R q x0 h = stepF c15 O R q 0 [x0] h := by kernel_rfl
noncomputable def b15_1 (O : Oracle) (R : Jump) (q : Nat) (x2 x4 x5 : TVal) (h : Heap) : Res1 :=
 vop O (.nilck (.k x4)) h 27 fun x27 h =>
 vfaddr 2 x27 h fun x28 h =>
 vload false 1 x28 h fun x29 h =>
 vbin .eql 0 x29 (kI 0) h fun x30 h =>
 vif x30 (
 vload true 6 x5 h fun x32 h =>
 vcall O (.v (.c (.func 27 []))) [x32] h 33 fun x33 h =>
 vop O (.nilck (.k x4)) h 34 fun x34 h =>
 vfaddr 2 x34 h fun x35 h =>
 vstore 1 x35 x33 h fun _ h =>
 R 2 [x2, x4, x5] h)
 (R 2 [x2, x4, x5] h)
theorem e15_1 (O : Oracle) (R : Jump) (q : Nat) (x2 x4 x5 : TVal) (h : Heap) : b15_1 O R q x2 x4 x5 h = stepF c15 O R q 1 [x2, x4, x5] h := by kernel_rfl
noncomputable def b15_2 (O : Oracle) (R : Jump) (q : Nat) (x2 x4 x5 : TVal) (h : Heap) : Res1 :=
 vop O (.nilck (.k x4)) h 37 fun x37 h =>
 vfaddr 2 x37 h fun x38 h =>
 vload false 1 x38 h fun x39 h =>
 vbin .neq 0 x39 (kI 0) h fun x40 h =>
 vif x40 (
 vtouch O (.build [(.p (.int .i64 0)), (.p (.bool false)), (.p (.int .i64 0)), (.p (.str [])), (.p .nilslice), (.p .nilslice)] []) h 41 fun x41 h t0 =>
 vtouch O (.mv (.k x4)) h 42 fun x42 h t1 =>
 vtouch O (.nilck (.k x42)) h 43 fun x43 h t2 =>
 vtouch O (.faddr 2 (.k x43)) h 44 fun x44 h t3 =>
 vtouch O (.load false 1 (.k x44)) h 45 fun x45 h t4 =>
 vtouch O (.store 6 (.k x2) (.k x41)) h 1000000 fun _ h t5 =>
 vtouch O (.mv (.k x45)) h 3 fun x3 h t6 =>
 bif apartAll [t0, t1, t2, t3, t4, t5, t6] [(4, 5)] then
 vcell true 6 x2 h fun c0 => tcomp x3 fun c1 => vfin true q [c0, c1] h
 else none)
 (vload true 6 x5 h fun x46 h =>
 vstore 6 x2 x46 h fun _ h =>
 vcell true 6 x2 h fun c0 => tcomp (kI 0) fun c1 => vfin true q [c0, c1] h)
theorem e15_2 (O : Oracle) (R : Jump) (q : Nat) (x2 x4 x5 : TVal) (h : Heap) : b15_2 O R q x2 x4 x5 h = stepF c15 O R q 2 [x2, x4, x5] h := by kernel_rfl
noncomputable def d15 : BlkF := fun O R q => [.s fun y0 => .z fun h => b15_0 O R q y0 h, .s fun y0 => .s fun y1 => .s fun y2 => .z fun h => b15_1 O R q y0 y1 y2 h, .s fun y0 => .s fun y1 => .s fun y2 => .z fun h => b15_2 O R q y0 y1 y2 h]
theorem o15 (O : Oracle) (R : Jump) (q : Nat) : HoldsAll c15 O R q 0 (d15 O R q) := ⟨fun y0 h => e15_0 O R q y0 h, fun y0 y1 y2 h => e15_1 O R q y0 y1 y2 h, fun y0 y1 y2 h => e15_2 O R q y0 y1 y2 h, trivial⟩
/- sprue/calls.New -/
def c16 : MFunc := { np := 1, res := [.t 2], frz := false, body := (.seq (.reg [(oA 2 (.mv (.k (.v (.c (.p .nilptr))))))] []) (.seq (.reg [(oA 10 .mkmap), (oA 11 .mkmap), (oA 12 (.build [(.p .nilmap), (.p .nilmap)] [(0, 1, (.t 10)), (1, 1, (.t 11))])), (oA 13 (.box (.t 12) false)), (oA 3 (.mv (.t 13)))] []) (.seq (.seq (.reg [(oA 14 (.mv (.t 0))), (oA 15 (.len 2 (.t 14))), (oA 16 (.mv (.k (.v (.c (.p (.int .i64 0)))))))] []) (.block 0 (.loop 1 [3, 14, 15, 16] (.seq (.reg [(oA 17 (.bin .lss 0 (.t 16) (.t 15)))] []) (.seq (.cond (.t 17) .skip (.exit 0)) (.seq (.block 1 (.seq (.reg [(oA 18 (.iaddr 3 (.t 14) (.t 16))), (oA 19 (.load true 3 (.t 18))), (oA 5 (.alloc [(.p (.str [])), (.p .nilslice), (.p (.int .i64 0))] false)), (oN (.store 3 (.t 5) (.t 19)))] []) (.seq (.seq (.reg [(oA 21 (.mv (.t 3))), (oA 22 (.nilck (.t 21))), (oA 23 (.faddr 0 (.t 22))), (oA 24 (.load false 1 (.t 23))), (oA 25 (.faddr 0 (.t 5))), (oA 26 (.load false 1 (.t 25))), (oA 27 (.lookup 2 (.agg [(.p (.str [])), (.p .nilslice), (.p (.int .i64 0))]) (.t 24) (.t 26) true)), (oA 20 (.mv (.t 27))), (oA 28 (.extract (.t 20) 0)), (oA 29 (.extract (.t 20) 1)), (oA 6 (.alloc [(.p (.str [])), (.p .nilslice), (.p (.int .i64 0))] false)), (oN (.store 3 (.t 6) (.t 28))), (oA 7 (.mv (.t 29)))] [(3, 10), (5, 10), (6, 10)]) (.seq (.reg [(oA 30 (.mv (.t 7)))] []) (.cond (.t 30) (.exit 1) .skip))) (.seq (.reg [(oA 31 (.faddr 1 (.t 5))), (oA 32 (.load false 1 (.t 31))), (oA 33 (.call (.k (.v (.c (.func 28 [])))) [(.t 32)])), (oA 34 (.faddr 1 (.t 5))), (oN (.store 1 (.t 34) (.t 33)))] []) (.seq (.seq (.reg [(oA 35 (.faddr 1 (.t 5))), (oA 36 (.load false 1 (.t 35))), (oA 37 (.len 2 (.t 36))), (oA 38 (.mv (.k (.v (.c (.p (.int .i64 0)))))))] []) (.block 2 (.loop 2 [3, 5, 14, 15, 16, 36, 37, 38] (.seq (.reg [(oA 39 (.bin .lss 0 (.t 38) (.t 37)))] []) (.seq (.cond (.t 39) .skip (.exit 2)) (.seq (.block 3 (.seq (.reg [(oA 40 (.mv (.t 38))), (oA 41 (.iaddr 6 (.t 36) (.t 38))), (oA 42 (.load true 6 (.t 41))), (oA 9 (.alloc [(.p (.int .i64 0)), (.p (.bool false)), (.p (.int .i64 0)), (.p (.str [])), (.p .nilslice), (.p .nilslice)] false)), (oA 8 (.mv (.t 40))), (oN (.store 6 (.t 9) (.t 42)))] []) (.reg [(oA 43 (.faddr 1 (.t 5))), (oA 44 (.load false 1 (.t 43))), (oA 45 (.mv (.t 8))), (oA 46 (.load true 6 (.t 9))), (oA 47 (.call (.k (.v (.c (.func 29 [])))) [(.t 46)])), (oA 48 (.iaddr 6 (.t 44) (.t 45))), (oN (.store 6 (.t 48) (.t 47)))] [(1, 4)]))) (.reg [(oA 49 (.bin .add 0 (.t 38) (.k (.v (.c (.p (.int .i64 1))))))), (oA 38 (.mv (.t 49)))] []))))))) (.mark 3 [3, 5, 14, 15, 16] (.reg [(oA 50 (.mv (.t 3))), (oA 51 (.nilck (.t 50))), (oA 52 (.faddr 0 (.t 51))), (oA 53 (.load false 1 (.t 52))), (oA 54 (.faddr 0 (.t 5))), (oA 55 (.load false 1 (.t 54))), (oA 56 (.load true 3 (.t 5))), (oN (.mapup 2 (.t 53) (.t 55) (.t 56)))] []))))))) (.mark 4 [3, 14, 15, 16] (.reg [(oA 57 (.bin .add 0 (.t 16) (.k (.v (.c (.p (.int .i64 1))))))), (oA 16 (.mv (.t 57)))] [])))))))) (.seq (.reg [(oA 58 (.mv (.t 3))), (oA 2 (.mv (.t 58)))] []) .ret)))) }
theorem t16 : compF Tryz.prog (globs2 tabs opq) (fun _ => false) false Tryz.f16 = some c16.erase := by kernel_rfl
noncomputable def b16_0 (O : Oracle) (R : Jump) (q : Nat) (x0 : TVal) (h : Heap) : Res1 :=
 vop O .mkmap h 10 fun x10 h =>
 vop O .mkmap h 11 fun x11 h =>
 vop O (.build [(.p .nilmap), (.p .nilmap)] [(0, 1, (.k x10)), (1, 1, (.k x11))]) h 12 fun x12 h =>
 vop O (.box (.k x12) false) h 13 fun x13 h =>
 vlen O 2 x0 h 15 fun x15 h =>
 R 1 [x13, x0, x15, (kI 0)] h
theorem e16_0 (O : Oracle) (R : Jump) (q : Nat) (x0 : TVal) (h : Heap) : b16_0 O R q x0 h = stepF c16 O R q 0 [x0] h := by kernel_rfl
noncomputable def b16_1 (O : Oracle) (R : Jump) (q : Nat) (x3 x14 x15 x16 : TVal) (h : Heap) : Res1 :=
 vbin .lss 0 x16 x15 h fun x17 h =>
 vif x17 (
 viaddr 3 x14 x16 h fun x18 h =>
 vload true 3 x18 h fun x19 h =>
 vop O (.alloc [(.p (.str [])), (.p .nilslice), (.p (.int .i64 0))] false) h 5 fun x5 h =>
 vstore 3 x5 x19 h fun _ h =>
 vtouch O (.mv (.k x3)) h 21 fun x21 h t0 =>
 vtouch O (.nilck (.k x21)) h 22 fun x22 h t1 =>
 vtouch O (.faddr 0 (.k x22)) h 23 fun x23 h t2 =>
 vtouch O (.load false 1 (.k x23)) h 24 fun x24 h t3 =>
 vtouch O (.faddr 0 (.k x5)) h 25 fun x25 h t4 =>
 vtouch O (.load false 1 (.k x25)) h 26 fun x26 h t5 =>
 vtouch O (.lookup 2 (.agg [(.p (.str [])), (.p .nilslice), (.p (.int .i64 0))]) (.k x24) (.k x26) true) h 27 fun x27 h t6 =>
 vtouch O (.mv (.k x27)) h 20 fun x20 h t7 =>
 vtouch O (.extract (.k x20) 0) h 28 fun x28 h t8 =>
 vtouch O (.extract (.k x20) 1) h 29 fun x29 h t9 =>
 vtouch O (.alloc [(.p (.str [])), (.p .nilslice), (.p (.int .i64 0))] false) h 6 fun x6 h t10 =>
 vtouch O (.store 3 (.k x6) (.k x28)) h 1000000 fun _ h t11 =>
 vtouch O (.mv (.k x29)) h 7 fun x7 h t12 =>
 bif apartAll [t0, t1, t2, t3, t4, t5, t6, t7, t8, t9, t10, t11, t12] [(3, 10), (5, 10), (6, 10)] then
 vif x7 (
 R 4 [x3, x14, x15, x16] h)
 (vfaddr 1 x5 h fun x31 h =>
 vload false 1 x31 h fun x32 h =>
 vcall O (.v (.c (.func 28 []))) [x32] h 33 fun x33 h =>
 vfaddr 1 x5 h fun x34 h =>
 vstore 1 x34 x33 h fun _ h =>
 vfaddr 1 x5 h fun x35 h =>
 vload false 1 x35 h fun x36 h =>
 vlen O 2 x36 h 37 fun x37 h =>
 R 2 [x3, x5, x14, x15, x16, x36, x37, (kI 0)] h)
 else none)
 (tcomp x3 fun c0 => vfin false q [c0] h)
theorem e16_1 (O : Oracle) (R : Jump) (q : Nat) (x3 x14 x15 x16 : TVal) (h : Heap) : b16_1 O R q x3 x14 x15 x16 h = stepF c16 O R q 1 [x3, x14, x15, x16] h := by kernel_rfl
noncomputable def b16_2 (O : Oracle) (R : Jump) (q : Nat) (x3 x5 x14 x15 x16 x36 x37 x38 : TVal) (h : Heap) : Res1 :=
 vbin .lss 0 x38 x37 h fun x39 h =>
 vif x39 (
 viaddr 6 x36 x38 h fun x41 h =>
 vload true 6 x41 h fun x42 h =>
 vop O (.alloc [(.p (.int .i64 0)), (.p (.bool false)), (.p (.int .i64 0)), (.p (.str [])), (.p .nilslice), (.p .nilslice)] false) h 9 fun x9 h =>
 vstore 6 x9 x42 h fun _ h =>
 vtouch O (.faddr 1 (.k x5)) h 43 fun x43 h t0 =>
 vtouch O (.load false 1 (.k x43)) h 44 fun x44 h t1 =>
 vtouch O (.mv (.k x38)) h 45 fun x45 h t2 =>
 vtouch O (.load true 6 (.k x9)) h 46 fun x46 h t3 =>
 vtouch O (.call (.k (.v (.c (.func 29 [])))) [(.k x46)]) h 47 fun x47 h t4 =>
 vtouch O (.iaddr 6 (.k x44) (.k x45)) h 48 fun x48 h t5 =>
 vtouch O (.store 6 (.k x48) (.k x47)) h 1000000 fun _ h t6 =>
 bif apartAll [t0, t1, t2, t3, t4, t5, t6] [(1, 4)] then
 vbin .add 0 x38 (kI 1) h fun x49 h =>
 R 2 [x3, x5, x14, x15, x16, x36, x37, x49] h
 else none)
 (R 3 [x3, x5, x14, x15, x16] h)
theorem e16_2 (O : Oracle) (R : Jump) (q : Nat) (x3 x5 x14 x15 x16 x36 x37 x38 : TVal) (h : Heap) : b16_2 O R q x3 x5 x14 x15 x16 x36 x37 x38 h = stepF c16 O R q 2 [x3, x5, x14, x15, x16, x36, x37, x38] h := by kernel_rfl
noncomputable def b16_3 (O : Oracle) (R : Jump) (q : Nat) (x3 x5 x14 x15 x16 : TVal) (h : Heap) : Res1 :=
 vop O (.nilck (.k x3)) h 51 fun x51 h =>
 vfaddr 0 x51 h fun x52 h =>
 vload false 1 x52 h fun x53 h =>
 vfaddr 0 x5 h fun x54 h =>
 vload false 1 x54 h fun x55 h =>
 vload true 3 x5 h fun x56 h =>
 vop O (.mapup 2 (.k x53) (.k x55) (.k x56)) h 1000000 fun _ h =>
 R 4 [x3, x14, x15, x16] h
theorem e16_3 (O : Oracle) (R : Jump) (q : Nat) (x3 x5 x14 x15 x16 : TVal) (h : Heap) : b16_3 O R q x3 x5 x14 x15 x16 h = stepF c16 O R q 3 [x3, x5, x14, x15, x16] h := by kernel_rfl
noncomputable def b16_4 (O : Oracle) (R : Jump) (q : Nat) (x3 x14 x15 x16 : TVal) (h : Heap) : Res1 :=
 vbin .add 0 x16 (kI 1) h fun x57 h =>
 R 1 [x3, x14, x15, x57] h
theorem e16_4 (O : Oracle) (R : Jump) (q : Nat) (x3 x14 x15 x16 : TVal) (h : Heap) : b16_4 O R q x3 x14 x15 x16 h = stepF c16 O R q 4 [x3, x14, x15, x16] h := by kernel_rfl
noncomputable def d16 : BlkF := fun O R q => [.s fun y0 => .z fun h => b16_0 O R q y0 h, .s fun y0 => .s fun y1 => .s fun y2 => .s fun y3 => .z fun h => b16_1 O R q y0 y1 y2 y3 h, .s fun y0 => .s fun y1 => .s fun y2 => .s fun y3 => .s fun y4 => .s fun y5 => .s fun y6 => .s fun y7 => .z fun h => b16_2 O R q y0 y1 y2 y3 y4 y5 y6 y7 h, .s fun y0 => .s fun y1 => .s fun y2 => .s fun y3 => .s fun y4 => .z fun h => b16_3 O R q y0 y1 y2 y3 y4 h, .s fun y0 => .s fun y1 => .s fun y2 => .s fun y3 => .z fun h => b16_4 O R q y0 y1 y2 y3 h]
theorem o16 (O : Oracle) (R : Jump) (q : Nat) : HoldsAll c16 O R q 0 (d16 O R q) := ⟨fun y0 h => e16_0 O R q y0 h, fun y0 y1 y2 y3 h => e16_1 O R q y0 y1 y2 y3 h, fun y0 y1 y2 y3 y4 y5 y6 y7 h => e16_2 O R q y0 y1 y2 y3 y4 y5 y6 y7 h, fun y0 y1 y2 y3 y4 h => e16_3 O R q y0 y1 y2 y3 y4 h, fun y0 y1 y2 y3 h => e16_4 O R q y0 y1 y2 y3 h, trivial⟩
/- sprue/interp.Run -/
def c17 : MFunc := { np := 4, res := [.t 8, .t 9, .t 10], frz := true, body := (.seq (.reg [(oA 5 (.box (.t 1) false)), (oA 7 (.box (.t 3) false)), (oA 8 (.mv (.k (.v (.c (.p .nilslice)))))), (oA 9 (.mv (.k (.v (.c (.p (.int .i64 0))))))), (oA 10 (.mv (.k (.v (.c (.p (.int .i64 0)))))))] []) (.seq (.reg [(oA 12 (.faddr 0 (.t 7))), (oA 13 (.load false 1 (.t 12))), (oA 14 (.call (.k (.v (.c (.func 30 [])))) [(.t 13), (.k (.v (.c (.p (.int .i64 5000)))))])), (oA 15 (.faddr 1 (.t 7))), (oA 16 (.load false 1 (.t 15))), (oA 17 (.call (.k (.v (.c (.func 30 [])))) [(.t 16), (.k (.v (.c (.p (.int .i64 12)))))])), (oA 18 (.faddr 2 (.t 7))), (oA 19 (.load false 1 (.t 18))), (oA 20 (.build [(.p (.int .i64 0)), (.p (.int .i64 0)), (.p (.int .i64 0))] [(0, 1, (.t 14)), (1, 1, (.t 17)), (2, 1, (.t 19))])), (oA 21 (.mv (.t 0))), (oA 22 (.mv (.t 2))), (oA 23 (.build [(.p (.int .i64 0)), (.p (.int .i64 0)), (.p (.int .i64 0)), (.p .nilslice), (.p .nilptr), (.p .nilslice), (.p (.int .i64 0))] [(0, 3, (.t 20)), (3, 1, (.t 21)), (4, 1, (.t 22))])), (oA 24 (.box (.t 23) false)), (oA 11 (.mv (.t 24)))] [(2, 4), (2, 7), (5, 7)]) (.seq (.seq (.reg [(oA 25 (.faddr 2 (.t 7))), (oA 26 (.load false 1 (.t 25))), (oA 27 (.bin .lss 0 (.t 26) (.k (.v (.c (.p (.int .i64 0))))))), (oA 28 (.mv (.t 27))), ⟨(some 29), (.faddr 2 (.t 7)), (some (28, false))⟩, ⟨(some 30), (.load false 1 (.t 29)), (some (28, false))⟩, ⟨(some 31), (.bin .gtr 0 (.t 30) (.k (.v (.c (.p (.int .i64 65536)))))), (some (28, false))⟩, (oA 32 (.pick (.t 28) (.k (.v (.c (.p (.bool true))))) (.t 31)))] []) (.cond (.t 32) (.reg [(oA 33 (.mv (.t 11))), (oA 34 (.nilck (.t 33))), (oA 35 (.faddr 0 (.t 34))), (oA 36 (.faddr 2 (.t 35))), (oN (.store 1 (.t 36) (.k (.v (.c (.p (.int .i64 65536)))))))] []) .skip)) (.mark 1 [0, 5, 10, 11] (.seq (.seq (.reg [(oA 37 (.mv (.t 0))), (oA 38 (.len 2 (.t 37))), (oA 39 (.bin .gtr 0 (.t 38) (.k (.v (.c (.p (.int .i64 0)))))))] []) (.cond (.t 39) (.reg [(oA 40 (.mv (.t 11))), (oA 41 (.load true 6 (.t 5))), (oA 42 (.call (.k (.v (.c (.func 32 [])))) [(.t 41)])), (oA 43 (.build [(.p (.int .i64 0)), (.p (.bool false)), (.p (.int .i64 0)), (.p (.str [])), (.p .nilslice), (.p .nilslice), (.p .nilslice), (.p (.int .i64 0))] [(0, 6, (.t 42))])), (oA 44 (.mv (.t 0))), (oA 45 (.iaddr 2 (.t 44) (.k (.v (.c (.p (.int .i64 0))))))), (oA 46 (.faddr 1 (.t 45))), (oA 47 (.load false 1 (.t 46))), (oA 48 (.call (.k (.v (.c (.func 31 [])))) [(.t 40), (.t 43), (.t 47)])), (oA 10 (.mv (.t 48)))] [(2, 7)]) .skip)) (.mark 2 [10, 11] (.seq (.reg [(oA 49 (.mv (.t 11))), (oA 50 (.nilck (.t 49))), (oA 51 (.faddr 5 (.t 50))), (oA 52 (.load false 1 (.t 51))), (oA 53 (.mv (.t 11))), (oA 54 (.nilck (.t 53))), (oA 55 (.faddr 6 (.t 54))), (oA 56 (.load false 1 (.t 55))), (oA 57 (.mv (.t 10))), (oA 8 (.mv (.t 52))), (oA 9 (.mv (.t 56))), (oA 10 (.mv (.t 57)))] []) .ret))))))) }
theorem t17 : compF Tryz.prog (globs2 tabs opq) (fun _ => false) true Tryz.f17 = some c17.erase := by kernel_rfl
noncomputable def b17_0 (O : Oracle) (R : Jump) (q : Nat) (x0 x1 x2 x3 : TVal) (h : Heap) : Res1 :=
 vop O (.box (.k x1) false) h 5 fun x5 h =>
 vop O (.box (.k x3) false) h 7 fun x7 h =>
 vtouch O (.faddr 0 (.k x7)) h 12 fun x12 h t0 =>
 vtouch O (.load false 1 (.k x12)) h 13 fun x13 h t1 =>
 vtouch O (.call (.k (.v (.c (.func 30 [])))) [(.k x13), (.k (kI 5000))]) h 14 fun x14 h t2 =>
 vtouch O (.faddr 1 (.k x7)) h 15 fun x15 h t3 =>
 vtouch O (.load false 1 (.k x15)) h 16 fun x16 h t4 =>
 vtouch O (.call (.k (.v (.c (.func 30 [])))) [(.k x16), (.k (kI 12))]) h 17 fun x17 h t5 =>
 vtouch O (.faddr 2 (.k x7)) h 18 fun x18 h t6 =>
 vtouch O (.load false 1 (.k x18)) h 19 fun x19 h t7 =>
 vtouch O (.build [(.p (.int .i64 0)), (.p (.int .i64 0)), (.p (.int .i64 0))] [(0, 1, (.k x14)), (1, 1, (.k x17)), (2, 1, (.k x19))]) h 20 fun x20 h t8 =>
 vtouch O (.mv (.k x0)) h 21 fun x21 h t9 =>
 vtouch O (.mv (.k x2)) h 22 fun x22 h t10 =>
 vtouch O (.build [(.p (.int .i64 0)), (.p (.int .i64 0)), (.p (.int .i64 0)), (.p .nilslice), (.p .nilptr), (.p .nilslice), (.p (.int .i64 0))] [(0, 3, (.k x20)), (3, 1, (.k x21)), (4, 1, (.k x22))]) h 23 fun x23 h t11 =>
 vtouch O (.box (.k x23) false) h 24 fun x24 h t12 =>
 vtouch O (.mv (.k x24)) h 11 fun x11 h t13 =>
 bif apartAll [t0, t1, t2, t3, t4, t5, t6, t7, t8, t9, t10, t11, t12, t13] [(2, 4), (2, 7), (5, 7)] then
 vfaddr 2 x7 h fun x25 h =>
 vload false 1 x25 h fun x26 h =>
 vbin .lss 0 x26 (kI 0) h fun x27 h =>
 vguard x27 false (fun kk => vfaddr 2 x7 h kk) h fun x29 h =>
 vguard x27 false (fun kk => vload false 1 x29 h kk) h fun x30 h =>
 vguard x27 false (fun kk => vbin .gtr 0 x30 (kI 65536) h kk) h fun x31 h =>
 vop O (.pick (.k x27) (.k (kB true)) (.k x31)) h 32 fun x32 h =>
 vif x32 (
 vop O (.nilck (.k x11)) h 34 fun x34 h =>
 vfaddr 0 x34 h fun x35 h =>
 vfaddr 2 x35 h fun x36 h =>
 vstore 1 x36 (kI 65536) h fun _ h =>
 R 1 [x0, x5, (kI 0), x11] h)
 (R 1 [x0, x5, (kI 0), x11] h)
 else none
theorem e17_0 (O : Oracle) (R : Jump) (q : Nat) (x0 x1 x2 x3 : TVal) (h : Heap) : b17_0 O R q x0 x1 x2 x3 h = stepF c17 O R q 0 [x0, x1, x2, x3] h := by kernel_rfl
noncomputable def b17_1 (O : Oracle) (R : Jump) (q : Nat) (x0 x5 x10 x11 : TVal) (h : Heap) : Res1 :=
 vlen O 2 x0 h 38 fun x38 h =>
 vbin .gtr 0 x38 (kI 0) h fun x39 h =>
 vif x39 (
 vtouch O (.mv (.k x11)) h 40 fun x40 h t0 =>
 vtouch O (.load true 6 (.k x5)) h 41 fun x41 h t1 =>
 vtouch O (.call (.k (.v (.c (.func 32 [])))) [(.k x41)]) h 42 fun x42 h t2 =>
 vtouch O (.build [(.p (.int .i64 0)), (.p (.bool false)), (.p (.int .i64 0)), (.p (.str [])), (.p .nilslice), (.p .nilslice), (.p .nilslice), (.p (.int .i64 0))] [(0, 6, (.k x42))]) h 43 fun x43 h t3 =>
 vtouch O (.mv (.k x0)) h 44 fun x44 h t4 =>
 vtouch O (.iaddr 2 (.k x44) (.k (kI 0))) h 45 fun x45 h t5 =>
 vtouch O (.faddr 1 (.k x45)) h 46 fun x46 h t6 =>
 vtouch O (.load false 1 (.k x46)) h 47 fun x47 h t7 =>
 vtouch O (.call (.k (.v (.c (.func 31 [])))) [(.k x40), (.k x43), (.k x47)]) h 48 fun x48 h t8 =>
 vtouch O (.mv (.k x48)) h 10 fun x10_1 h t9 =>
 bif apartAll [t0, t1, t2, t3, t4, t5, t6, t7, t8, t9] [(2, 7)] then
 R 2 [x10_1, x11] h
 else none)
 (R 2 [x10, x11] h)
theorem e17_1 (O : Oracle) (R : Jump) (q : Nat) (x0 x5 x10 x11 : TVal) (h : Heap) : b17_1 O R q x0 x5 x10 x11 h = stepF c17 O R q 1 [x0, x5, x10, x11] h := by kernel_rfl
noncomputable def b17_2 (O : Oracle) (R : Jump) (q : Nat) (x10 x11 : TVal) (h : Heap) : Res1 :=
 vop O (.nilck (.k x11)) h 50 fun x50 h =>
 vfaddr 5 x50 h fun x51 h =>
 vload false 1 x51 h fun x52 h =>
 vop O (.nilck (.k x11)) h 54 fun x54 h =>
 vfaddr 6 x54 h fun x55 h =>
 vload false 1 x55 h fun x56 h =>
 tcomp x52 fun c0 => tcomp x56 fun c1 => tcomp x10 fun c2 => vfin true q [c0, c1, c2] h
theorem e17_2 (O : Oracle) (R : Jump) (q : Nat) (x10 x11 : TVal) (h : Heap) : b17_2 O R q x10 x11 h = stepF c17 O R q 2 [x10, x11] h := by kernel_rfl
noncomputable def d17 : BlkF := fun O R q => [.s fun y0 => .s fun y1 => .s fun y2 => .s fun y3 => .z fun h => b17_0 O R q y0 y1 y2 y3 h, .s fun y0 => .s fun y1 => .s fun y2 => .s fun y3 => .z fun h => b17_1 O R q y0 y1 y2 y3 h, .s fun y0 => .s fun y1 => .z fun h => b17_2 O R q y0 y1 h]
theorem o17 (O : Oracle) (R : Jump) (q : Nat) : HoldsAll c17 O R q 0 (d17 O R q) := ⟨fun y0 y1 y2 y3 h => e17_0 O R q y0 y1 y2 y3 h, fun y0 y1 y2 y3 h => e17_1 O R q y0 y1 y2 y3 h, fun y0 y1 h => e17_2 O R q y0 y1 h, trivial⟩
/- (*sprue/calls.Calls).Count -/
def c18 : MFunc := { np := 2, res := [.t 4], frz := true, body := (.seq (.reg [(oA 4 (.mv (.k (.v (.c (.p (.int .i64 0)))))))] []) (.seq (.reg [(oA 5 (.mv (.t 0))), (oA 6 (.nilck (.t 5))), (oA 7 (.faddr 1 (.t 6))), (oA 8 (.load false 1 (.t 7))), (oA 9 (.mv (.t 1))), (oA 10 (.lookup 2 (.c (.p (.int .i64 0))) (.t 8) (.t 9) false)), (oA 4 (.mv (.t 10)))] []) .ret)) }
theorem t18 : compF Tryz.prog (globs2 tabs opq) (fun _ => false) true Tryz.f18 = some c18.erase := by kernel_rfl
noncomputable def b18_0 (O : Oracle) (R : Jump) (q : Nat) (x0 x1 : TVal) (h : Heap) : Res1 :=
 vop O (.nilck (.k x0)) h 6 fun x6 h =>
 vfaddr 1 x6 h fun x7 h =>
 vload false 1 x7 h fun x8 h =>
 vop O (.lookup 2 (.c (.p (.int .i64 0))) (.k x8) (.k x1) false) h 10 fun x10 h =>
 tcomp x10 fun c0 => vfin true q [c0] h
theorem e18_0 (O : Oracle) (R : Jump) (q : Nat) (x0 x1 : TVal) (h : Heap) : b18_0 O R q x0 x1 h = stepF c18 O R q 0 [x0, x1] h := by kernel_rfl
noncomputable def d18 : BlkF := fun O R q => [.s fun y0 => .s fun y1 => .z fun h => b18_0 O R q y0 y1 h]
theorem o18 (O : Oracle) (R : Jump) (q : Nat) : HoldsAll c18 O R q 0 (d18 O R q) := ⟨fun y0 y1 h => e18_0 O R q y0 y1 h, trivial⟩
/- sprue/sprueref2.Split -/
def c21 : MFunc := { np := 1, res := [.t 2, .t 3], frz := true, body := (.seq (.reg [(oA 2 (.mv (.k (.v (.c (.p .nilslice)))))), (oA 3 (.mv (.k (.v (.c (.p (.int .i64 0)))))))] []) (.seq (.seq (.reg [(oA 8 (.mv (.t 0))), (oA 9 (.len 0 (.t 8))), (oA 10 (.bin .gtr 0 (.t 9) (.k (.v (.c (.p (.int .i64 1500)))))))] []) (.cond (.t 10) (.seq (.reg [(oA 2 (.mv (.k (.v (.c (.p .nilslice)))))), (oA 3 (.mv (.k (.v (.c (.p (.int .i64 4)))))))] []) .ret) .skip)) (.seq (.reg [(oA 4 (.mv (.k (.v (.c (.p .nilslice))))))] []) (.seq (.reg [(oA 5 (.mv (.k (.v (.c (.p (.int .i64 0))))))), (oA 6 (.mv (.k (.v (.c (.p (.int .i64 0)))))))] []) (.seq (.block 0 (.loop 1 [0, 4, 5, 6] (.seq (.seq (.reg [(oA 11 (.mv (.t 5))), (oA 12 (.mv (.t 0))), (oA 13 (.len 0 (.t 12))), (oA 14 (.bin .lss 0 (.t 11) (.t 13)))] []) (.cond (.t 14) .skip (.exit 0))) (.block 1 (.seq (.seq (.reg [(oA 15 (.mv (.t 5))), (oA 16 (.bin .add 0 (.t 15) (.k (.v (.c (.p (.int .i64 1))))))), (oA 17 (.mv (.t 0))), (oA 18 (.len 0 (.t 17))), (oA 19 (.bin .geq 0 (.t 16) (.t 18))), (oA 20 (.mv (.t 19))), ⟨(some 21), (.mv (.t 0)), (some (20, false))⟩, ⟨(some 22), (.mv (.t 5)), (some (20, false))⟩, ⟨(some 23), (.index (.t 21) (.t 22)), (some (20, false))⟩, ⟨(some 24), (.bin .neq 0 (.t 23) (.k (.v (.c (.p (.int .u8 123)))))), (some (20, false))⟩, (oA 25 (.pick (.t 20) (.k (.v (.c (.p (.bool true))))) (.t 24))), (oA 26 (.mv (.t 25))), ⟨(some 27), (.mv (.t 0)), (some (26, false))⟩, ⟨(some 28), (.mv (.t 5)), (some (26, false))⟩, ⟨(some 29), (.bin .add 0 (.t 28) (.k (.v (.c (.p (.int .i64 1)))))), (some (26, false))⟩, ⟨(some 30), (.index (.t 27) (.t 29)), (some (26, false))⟩, ⟨(some 31), (.bin .neq 0 (.t 30) (.k (.v (.c (.p (.int .u8 123)))))), (some (26, false))⟩, (oA 32 (.pick (.t 26) (.k (.v (.c (.p (.bool true))))) (.t 31)))] []) (.cond (.t 32) (.seq (.reg [(oA 33 (.mv (.t 5))), (oA 34 (.bin .add 0 (.t 33) (.k (.v (.c (.p (.int .i64 1))))))), (oA 5 (.mv (.t 34)))] []) (.exit 1)) .skip)) (.seq (.seq (.reg [(oA 35 (.mv (.t 5))), (oA 36 (.mv (.t 6))), (oA 37 (.bin .gtr 0 (.t 35) (.t 36)))] []) (.cond (.t 37) (.reg [(oA 38 (.mv (.t 4))), (oA 39 (.mv (.t 0))), (oA 40 (.mv (.t 6))), (oA 41 (.mv (.t 5))), (oA 42 (.slice 0 true (.t 39) (some (.t 40)) (some (.t 41)) none)), (oA 43 (.mv (.t 6))), (oA 44 (.build [(.p (.bool false)), (.p (.str [])), (.p (.int .i64 0))] [(1, 1, (.t 42)), (2, 1, (.t 43))])), (oA 45 (.bslice 3 1 [(.p (.bool false)), (.p (.str [])), (.p (.int .i64 0))] [(0, (.t 44))] false)), (oA 46 (.append 3 32 false (.t 38) (.t 45))), (oA 4 (.mv (.t 46)))] []) .skip)) (.mark 2 [0, 4, 5] (.seq (.reg [(oA 47 (.mv (.t 0))), (oA 48 (.mv (.t 5))), (oA 49 (.bin .add 0 (.t 48) (.k (.v (.c (.p (.int .i64 2))))))), (oA 50 (.call (.k (.v (.c (.func 35 [])))) [(.t 47), (.t 49)])), (oA 7 (.mv (.t 50)))] []) (.seq (.seq (.reg [(oA 51 (.mv (.t 7))), (oA 52 (.bin .lss 0 (.t 51) (.k (.v (.c (.p (.int .i64 0)))))))] []) (.cond (.t 52) (.seq (.reg [(oA 2 (.mv (.k (.v (.c (.p .nilslice)))))), (oA 3 (.mv (.k (.v (.c (.p (.int .i64 11)))))))] []) .ret) .skip)) (.seq (.reg [(oA 53 (.mv (.t 4))), (oA 54 (.mv (.t 0))), (oA 55 (.mv (.t 5))), (oA 56 (.bin .add 0 (.t 55) (.k (.v (.c (.p (.int .i64 2))))))), (oA 57 (.mv (.t 7))), (oA 58 (.slice 0 true (.t 54) (some (.t 56)) (some (.t 57)) none)), (oA 59 (.mv (.t 5))), (oA 60 (.build [(.p (.bool false)), (.p (.str [])), (.p (.int .i64 0))] [(0, 1, (.k (.v (.c (.p (.bool true)))))), (1, 1, (.t 58)), (2, 1, (.t 59))])), (oA 61 (.bslice 3 1 [(.p (.bool false)), (.p (.str [])), (.p (.int .i64 0))] [(0, (.t 60))] false)), (oA 62 (.append 3 32 false (.t 53) (.t 61))), (oA 4 (.mv (.t 62)))] []) (.seq (.reg [(oA 63 (.mv (.t 7))), (oA 64 (.bin .add 0 (.t 63) (.k (.v (.c (.p (.int .i64 2))))))), (oA 5 (.mv (.t 64)))] []) (.reg [(oA 65 (.mv (.t 5))), (oA 6 (.mv (.t 65)))] [])))))))))))) (.mark 3 [0, 4, 6] (.seq (.seq (.reg [(oA 66 (.mv (.t 0))), (oA 67 (.len 0 (.t 66))), (oA 68 (.mv (.t 6))), (oA 69 (.bin .gtr 0 (.t 67) (.t 68)))] []) (.cond (.t 69) (.reg [(oA 70 (.mv (.t 4))), (oA 71 (.mv (.t 0))), (oA 72 (.mv (.t 6))), (oA 73 (.slice 0 true (.t 71) (some (.t 72)) none none)), (oA 74 (.mv (.t 6))), (oA 75 (.build [(.p (.bool false)), (.p (.str [])), (.p (.int .i64 0))] [(1, 1, (.t 73)), (2, 1, (.t 74))])), (oA 76 (.bslice 3 1 [(.p (.bool false)), (.p (.str [])), (.p (.int .i64 0))] [(0, (.t 75))] false)), (oA 77 (.append 3 32 false (.t 70) (.t 76))), (oA 4 (.mv (.t 77)))] []) .skip)) (.mark 4 [4] (.seq (.seq (.reg [(oA 78 (.mv (.t 4))), (oA 79 (.len 2 (.t 78))), (oA 80 (.bin .gtr 0 (.t 79) (.k (.v (.c (.p (.int .i64 200)))))))] []) (.cond (.t 80) (.seq (.reg [(oA 2 (.mv (.k (.v (.c (.p .nilslice)))))), (oA 3 (.mv (.k (.v (.c (.p (.int .i64 3)))))))] []) .ret) .skip)) (.seq (.reg [(oA 81 (.mv (.t 4))), (oA 2 (.mv (.t 81))), (oA 3 (.mv (.k (.v (.c (.p (.int .i64 0)))))))] []) .ret)))))))))) }
theorem t21 : compF Tryz.prog (globs2 tabs opq) (fun _ => false) true Tryz.f21 = some c21.erase := by kernel_rfl
noncomputable def b21_0 (O : Oracle) (R : Jump) (q : Nat) (x0 : TVal) (h : Heap) : Res1 :=
 vlen O 0 x0 h 9 fun x9 h =>
 vbin .gtr 0 x9 (kI 1500) h fun x10 h =>
 vif x10 (
 tcomp (.v (.c (.p .nilslice))) fun c0 => tcomp (kI 4) fun c1 => vfin true q [c0, c1] h)
 (R 1 [x0, (.v (.c (.p .nilslice))), (kI 0), (kI 0)] h)
theorem e21_0 (O : Oracle) (R : Jump) (q : Nat) (x0 : TVal) (h : Heap) : b21_0 O R q x0 h = stepF c21 O R q 0 [x0] h := by kernel_rfl
noncomputable def b21_1 (O : Oracle) (R : Jump) (q : Nat) (x0 x4 x5 x6 : TVal) (h : Heap) : Res1 :=
 vlen O 0 x0 h 13 fun x13 h =>
 vbin .lss 0 x5 x13 h fun x14 h =>
 vif x14 (
 vbin .add 0 x5 (kI 1) h fun x16 h =>
 vlen O 0 x0 h 18 fun x18 h =>
 vbin .geq 0 x16 x18 h fun x19 h =>
 vguard x19 false (fun kk => kk x0 h) h fun x21 h =>
 vguard x19 false (fun kk => kk x5 h) h fun x22 h =>
 vguard x19 false (fun kk => vindex x21 x22 h kk) h fun x23 h =>
 vguard x19 false (fun kk => vbin .neq 0 x23 (.v (.c (.p (.int .u8 123)))) h kk) h fun x24 h =>
 vop O (.pick (.k x19) (.k (kB true)) (.k x24)) h 25 fun x25 h =>
 vguard x25 false (fun kk => kk x0 h) h fun x27 h =>
 vguard x25 false (fun kk => kk x5 h) h fun x28 h =>
 vguard x25 false (fun kk => vbin .add 0 x28 (kI 1) h kk) h fun x29 h =>
 vguard x25 false (fun kk => vindex x27 x29 h kk) h fun x30 h =>
 vguard x25 false (fun kk => vbin .neq 0 x30 (.v (.c (.p (.int .u8 123)))) h kk) h fun x31 h =>
 vop O (.pick (.k x25) (.k (kB true)) (.k x31)) h 32 fun x32 h =>
 vif x32 (
 vbin .add 0 x5 (kI 1) h fun x34 h =>
 R 1 [x0, x4, x34, x6] h)
 (vbin .gtr 0 x5 x6 h fun x37 h =>
 vif x37 (
 vop O (.slice 0 true (.k x0) (some (.k x6)) (some (.k x5)) none) h 42 fun x42 h =>
 vop O (.build [(.p (.bool false)), (.p (.str [])), (.p (.int .i64 0))] [(1, 1, (.k x42)), (2, 1, (.k x6))]) h 44 fun x44 h =>
 vop O (.bslice 3 1 [(.p (.bool false)), (.p (.str [])), (.p (.int .i64 0))] [(0, (.k x44))] false) h 45 fun x45 h =>
 vop O (.append 3 32 false (.k x4) (.k x45)) h 46 fun x46 h =>
 R 2 [x0, x46, x5] h)
 (R 2 [x0, x4, x5] h)))
 (R 3 [x0, x4, x6] h)
theorem e21_1 (O : Oracle) (R : Jump) (q : Nat) (x0 x4 x5 x6 : TVal) (h : Heap) : b21_1 O R q x0 x4 x5 x6 h = stepF c21 O R q 1 [x0, x4, x5, x6] h := by kernel_rfl
noncomputable def b21_2 (O : Oracle) (R : Jump) (q : Nat) (x0 x4 x5 : TVal) (h : Heap) : Res1 :=
 vbin .add 0 x5 (kI 2) h fun x49 h =>
 vcall O (.v (.c (.func 35 []))) [x0, x49] h 50 fun x50 h =>
 vbin .lss 0 x50 (kI 0) h fun x52 h =>
 vif x52 (
 tcomp (.v (.c (.p .nilslice))) fun c0 => tcomp (kI 11) fun c1 => vfin true q [c0, c1] h)
 (vbin .add 0 x5 (kI 2) h fun x56 h =>
 vop O (.slice 0 true (.k x0) (some (.k x56)) (some (.k x50)) none) h 58 fun x58 h =>
 vop O (.build [(.p (.bool false)), (.p (.str [])), (.p (.int .i64 0))] [(0, 1, (.k (kB true))), (1, 1, (.k x58)), (2, 1, (.k x5))]) h 60 fun x60 h =>
 vop O (.bslice 3 1 [(.p (.bool false)), (.p (.str [])), (.p (.int .i64 0))] [(0, (.k x60))] false) h 61 fun x61 h =>
 vop O (.append 3 32 false (.k x4) (.k x61)) h 62 fun x62 h =>
 vbin .add 0 x50 (kI 2) h fun x64 h =>
 R 1 [x0, x62, x64, x64] h)
theorem e21_2 (O : Oracle) (R : Jump) (q : Nat) (x0 x4 x5 : TVal) (h : Heap) : b21_2 O R q x0 x4 x5 h = stepF c21 O R q 2 [x0, x4, x5] h := by kernel_rfl
noncomputable def b21_3 (O : Oracle) (R : Jump) (q : Nat) (x0 x4 x6 : TVal) (h : Heap) : Res1 :=
 vlen O 0 x0 h 67 fun x67 h =>
 vbin .gtr 0 x67 x6 h fun x69 h =>
 vif x69 (
 vop O (.slice 0 true (.k x0) (some (.k x6)) none none) h 73 fun x73 h =>
 vop O (.build [(.p (.bool false)), (.p (.str [])), (.p (.int .i64 0))] [(1, 1, (.k x73)), (2, 1, (.k x6))]) h 75 fun x75 h =>
 vop O (.bslice 3 1 [(.p (.bool false)), (.p (.str [])), (.p (.int .i64 0))] [(0, (.k x75))] false) h 76 fun x76 h =>
 vop O (.append 3 32 false (.k x4) (.k x76)) h 77 fun x77 h =>
 R 4 [x77] h)
 (R 4 [x4] h)
theorem e21_3 (O : Oracle) (R : Jump) (q : Nat) (x0 x4 x6 : TVal) (h : Heap) : b21_3 O R q x0 x4 x6 h = stepF c21 O R q 3 [x0, x4, x6] h := by kernel_rfl
noncomputable def b21_4 (O : Oracle) (R : Jump) (q : Nat) (x4 : TVal) (h : Heap) : Res1 :=
 vlen O 2 x4 h 79 fun x79 h =>
 vbin .gtr 0 x79 (kI 200) h fun x80 h =>
 vif x80 (
 tcomp (.v (.c (.p .nilslice))) fun c0 => tcomp (kI 3) fun c1 => vfin true q [c0, c1] h)
 (tcomp x4 fun c0 => tcomp (kI 0) fun c1 => vfin true q [c0, c1] h)
theorem e21_4 (O : Oracle) (R : Jump) (q : Nat) (x4 : TVal) (h : Heap) : b21_4 O R q x4 h = stepF c21 O R q 4 [x4] h := by kernel_rfl
noncomputable def d21 : BlkF := fun O R q => [.s fun y0 => .z fun h => b21_0 O R q y0 h, .s fun y0 => .s fun y1 => .s fun y2 => .s fun y3 => .z fun h => b21_1 O R q y0 y1 y2 y3 h, .s fun y0 => .s fun y1 => .s fun y2 => .z fun h => b21_2 O R q y0 y1 y2 h, .s fun y0 => .s fun y1 => .s fun y2 => .z fun h => b21_3 O R q y0 y1 y2 h, .s fun y0 => .z fun h => b21_4 O R q y0 h]
theorem o21 (O : Oracle) (R : Jump) (q : Nat) : HoldsAll c21 O R q 0 (d21 O R q) := ⟨fun y0 h => e21_0 O R q y0 h, fun y0 y1 y2 y3 h => e21_1 O R q y0 y1 y2 y3 h, fun y0 y1 y2 h => e21_2 O R q y0 y1 y2 h, fun y0 y1 y2 h => e21_3 O R q y0 y1 y2 h, fun y0 h => e21_4 O R q y0 h, trivial⟩
/- (*sprue/sprueref7.parser).action -/
def c22 : MFunc := { np := 2, res := [.t 4], frz := true, body := (.seq (.reg [(oA 3 (.box (.t 1) true)), (oA 4 (.mv (.k (.v (.c (.p (.int .i64 0)))))))] []) (.seq (.reg [(oA 11 (.faddr 1 (.t 3))), (oA 12 (.load false 1 (.t 11))), (oA 13 (.call (.k (.v (.c (.func 36 [])))) [(.t 12)])), (oA 10 (.mv (.t 13))), (oA 14 (.extract (.t 10) 0)), (oA 15 (.extract (.t 10) 1)), (oA 5 (.mv (.t 14))), (oA 6 (.mv (.t 15)))] []) (.seq (.seq (.reg [(oA 16 (.mv (.t 6))), (oA 17 (.bin .neq 0 (.t 16) (.k (.v (.c (.p (.int .i64 0)))))))] []) (.cond (.t 17) (.seq (.reg [(oA 18 (.mv (.t 6))), (oA 4 (.mv (.t 18)))] []) .ret) .skip)) (.seq (.reg [(oA 19 (.mv (.t 5))), (oA 20 (.build [(.p .nilslice), (.p (.int .i64 0)), (.p (.int .i64 0))] [(0, 1, (.t 19))])), (oA 21 (.box (.t 20) true)), (oA 7 (.mv (.t 21)))] []) (.seq (.reg [(oA 22 (.faddr 2 (.t 3))), (oA 23 (.load false 1 (.t 22))), (oA 24 (.build [(.p (.int .i64 0)), (.p (.int .i64 0)), (.p (.str [])), (.p (.str [])), (.p .nilslice), (.p .nilslice), (.p .nilslice), (.p (.bool false)), (.p .nilslice)] [(0, 1, (.k (.v (.c (.p (.int .i64 2)))))), (1, 1, (.t 23))])), (oA 8 (.alloc [(.p (.int .i64 0)), (.p (.int .i64 0)), (.p (.str [])), (.p (.str [])), (.p .nilslice), (.p .nilslice), (.p .nilslice), (.p (.bool false)), (.p .nilslice)] true)), (oN (.store 9 (.t 8) (.t 24)))] []) (.seq (.reg [(oA 9 (.mv (.k (.v (.c (.p (.str [])))))))] []) (.seq (.seq (.reg [(oA 25 (.mv (.t 7))), (oA 26 (.call (.k (.v (.c (.func 37 [])))) [(.t 25), (.k (.v (.c (.p (.int .i64 1)))))])), (oA 27 (.mv (.t 26))), ⟨(some 28), (.mv (.t 5)), (some (27, true))⟩, ⟨(some 29), (.iaddr 4 (.t 28) (.k (.v (.c (.p (.int .i64 0)))))), (some (27, true))⟩, ⟨(some 30), (.faddr 1 (.t 29)), (some (27, true))⟩, ⟨(some 31), (.load false 1 (.t 30)), (some (27, true))⟩, ⟨(some 32), (.call (.k (.v (.c (.func 38 [])))) [(.t 31)]), (some (27, true))⟩, (oA 33 (.pick (.t 27) (.t 32) (.k (.v (.c (.p (.bool false))))))), (oA 34 (.mv (.t 33))), ⟨(some 35), (.mv (.t 5)), (some (34, true))⟩, ⟨(some 36), (.iaddr 4 (.t 35) (.k (.v (.c (.p (.int .i64 0)))))), (some (34, true))⟩, ⟨(some 37), (.faddr 1 (.t 36)), (some (34, true))⟩, ⟨(some 38), (.load false 1 (.t 37)), (some (34, true))⟩, ⟨(some 39), (.bin .neq 0 (.t 38) (.k (.v (.c (.p (.str [116, 114, 117, 101])))))), (some (34, true))⟩, (oA 40 (.pick (.t 34) (.t 39) (.k (.v (.c (.p (.bool false))))))), (oA 41 (.mv (.t 40))), ⟨(some 42), (.mv (.t 5)), (some (41, true))⟩, ⟨(some 43), (.iaddr 4 (.t 42) (.k (.v (.c (.p (.int .i64 0)))))), (some (41, true))⟩, ⟨(some 44), (.faddr 1 (.t 43)), (some (41, true))⟩, ⟨(some 45), (.load false 1 (.t 44)), (some (41, true))⟩, ⟨(some 46), (.bin .neq 0 (.t 45) (.k (.v (.c (.p (.str [102, 97, 108, 115, 101])))))), (some (41, true))⟩, (oA 47 (.pick (.t 41) (.t 46) (.k (.v (.c (.p (.bool false)))))))] []) (.cond (.t 47) (.seq (.reg [(oA 48 (.mv (.t 5))), (oA 49 (.iaddr 4 (.t 48) (.k (.v (.c (.p (.int .i64 0))))))), (oA 50 (.faddr 1 (.t 49))), (oA 51 (.load false 1 (.t 50))), (oA 9 (.mv (.t 51)))] []) (.reg [(oA 52 (.mv (.t 7))), (oA 53 (.nilck (.t 52))), (oA 54 (.faddr 1 (.t 53))), (oA 55 (.load false 1 (.t 54))), (oA 56 (.bin .add 0 (.t 55) (.k (.v (.c (.p (.int .i64 1))))))), (oA 57 (.nilck (.t 52))), (oA 58 (.faddr 1 (.t 57))), (oN (.store 1 (.t 58) (.t 56)))] [])) .skip)) (.mark 1 [0, 5, 7, 8, 9] (.seq (.seq (.reg [(oA 59 (.mv (.t 9)))] []) (.block 0 (.seq (.seq (.reg [(oA 114 (.bin .eql 0 (.t 59) (.k (.v (.c (.p (.str [105, 102]))))))), (oA 113 (.mv (.t 114)))] []) (.cond (.t 113) .skip (.seq (.reg [(oA 115 (.bin .eql 0 (.t 59) (.k (.v (.c (.p (.str [119, 105, 116, 104]))))))), (oA 113 (.mv (.t 115)))] []) (.cond (.t 113) .skip (.seq (.reg [(oA 116 (.bin .eql 0 (.t 59) (.k (.v (.c (.p (.str [114, 97, 110, 103, 101]))))))), (oA 113 (.mv (.t 116)))] []) (.cond (.t 113) .skip (.reg [(oA 117 (.bin .eql 0 (.t 59) (.k (.v (.c (.p (.str [109, 97, 116, 99, 104]))))))), (oA 113 (.mv (.t 117)))] []))))))) (.mark 2 [0, 5, 7, 8, 9, 59, 113] (.cond (.t 113) (.reg [(oA 118 (.mv (.t 9))), (oA 119 (.call (.k (.v (.c (.func 39 [])))) [(.t 118)])), (oA 120 (.mv (.t 7))), (oA 121 (.call (.k (.v (.c (.func 40 [])))) [(.t 120), (.k (.v (.c (.p (.int .i64 0)))))])), (oA 122 (.faddr 0 (.t 8))), (oN (.store 1 (.t 122) (.t 119))), (oA 123 (.faddr 4 (.t 8))), (oN (.store 1 (.t 123) (.t 121)))] []) (.seq (.seq (.reg [(oA 125 (.bin .eql 0 (.t 59) (.k (.v (.c (.p (.str [101, 108, 115, 101]))))))), (oA 124 (.mv (.t 125)))] []) (.cond (.t 124) .skip (.reg [(oA 126 (.bin .eql 0 (.t 59) (.k (.v (.c (.p (.str [101, 110, 100]))))))), (oA 124 (.mv (.t 126)))] []))) (.mark 3 [0, 5, 7, 8, 9, 59, 124] (.cond (.t 124) .skip (.seq (.reg [(oA 128 (.bin .eql 0 (.t 59) (.k (.v (.c (.p (.str [99, 97, 115, 101]))))))), (oA 127 (.mv (.t 128)))] []) (.cond (.t 127) (.reg [(oA 129 (.mv (.t 7))), (oA 130 (.call (.k (.v (.c (.func 41 [])))) [(.t 129), (.k (.v (.c (.p (.int .i64 1)))))])), (oA 131 (.field 1 1 false (.t 130))), (oA 132 (.faddr 3 (.t 8))), (oN (.store 1 (.t 132) (.t 131)))] []) (.seq (.seq (.reg [(oA 134 (.bin .eql 0 (.t 59) (.k (.v (.c (.p (.str [100, 101, 102, 105, 110, 101]))))))), (oA 133 (.mv (.t 134)))] []) (.cond (.t 133) .skip (.reg [(oA 135 (.bin .eql 0 (.t 59) (.k (.v (.c (.p (.str [116, 101, 109, 112, 108, 97, 116, 101]))))))), (oA 133 (.mv (.t 135)))] []))) (.mark 4 [0, 5, 7, 8, 9, 133] (.cond (.t 133) (.seq (.reg [(oA 136 (.mv (.t 7))), (oA 137 (.call (.k (.v (.c (.func 41 [])))) [(.t 136), (.k (.v (.c (.p (.int .i64 2)))))])), (oA 138 (.field 1 1 false (.t 137))), (oA 139 (.faddr 0 (.t 8))), (oN (.store 1 (.t 139) (.k (.v (.c (.p (.int .i64 9))))))), (oA 140 (.faddr 3 (.t 8))), (oN (.store 1 (.t 140) (.t 138)))] []) (.seq (.reg [(oA 141 (.mv (.t 9))), (oA 142 (.bin .eql 0 (.t 141) (.k (.v (.c (.p (.str [116, 101, 109, 112, 108, 97, 116, 101]))))))), (oA 143 (.mv (.t 142))), ⟨(some 144), (.mv (.t 7)), (some (143, true))⟩, ⟨(some 145), (.nilck (.t 144)), (some (143, true))⟩, ⟨(some 146), (.faddr 1 (.t 145)), (some (143, true))⟩, ⟨(some 147), (.load false 1 (.t 146)), (some (143, true))⟩, ⟨(some 148), (.mv (.t 5)), (some (143, true))⟩, ⟨(some 149), (.len 2 (.t 148)), (some (143, true))⟩, ⟨(some 150), (.bin .lss 0 (.t 147) (.t 149)), (some (143, true))⟩, (oA 151 (.pick (.t 143) (.t 150) (.k (.v (.c (.p (.bool false)))))))] []) (.cond (.t 151) (.reg [(oA 152 (.mv (.t 7))), (oA 153 (.call (.k (.v (.c (.func 40 [])))) [(.t 152), (.k (.v (.c (.p (.int .i64 0)))))])), (oA 154 (.faddr 4 (.t 8))), (oN (.store 1 (.t 154) (.t 153)))] []) .skip))) (.seq (.seq (.reg [(oA 60 (.mv (.t 5))), (oA 61 (.len 2 (.t 60))), (oA 62 (.bin .gtr 0 (.t 61) (.k (.v (.c (.p (.int .i64 2))))))), (oA 63 (.mv (.t 62))), ⟨(some 64), (.mv (.t 7)), (some (63, true))⟩, ⟨(some 65), (.call (.k (.v (.c (.func 42 [])))) [(.t 64), (.k (.v (.c (.p (.str [36])))))]), (some (63, true))⟩, (oA 66 (.pick (.t 63) (.t 65) (.k (.v (.c (.p (.bool false))))))), (oA 67 (.mv (.t 66))), ⟨(some 68), (.mv (.t 5)), (some (67, true))⟩, ⟨(some 69), (.iaddr 4 (.t 68) (.k (.v (.c (.p (.int .i64 1)))))), (some (67, true))⟩, ⟨(some 70), (.faddr 0 (.t 69)), (some (67, true))⟩, ⟨(some 71), (.load false 1 (.t 70)), (some (67, true))⟩, ⟨(some 72), (.bin .eql 0 (.t 71) (.k (.v (.c (.p (.int .i64 1)))))), (some (67, true))⟩, (oA 73 (.pick (.t 67) (.t 72) (.k (.v (.c (.p (.bool false))))))), (oA 74 (.mv (.t 73))), ⟨(some 75), (.mv (.t 5)), (some (74, true))⟩, ⟨(some 76), (.iaddr 4 (.t 75) (.k (.v (.c (.p (.int .i64 2)))))), (some (74, true))⟩, ⟨(some 77), (.faddr 0 (.t 76)), (some (74, true))⟩, ⟨(some 78), (.load false 1 (.t 77)), (some (74, true))⟩, ⟨(some 79), (.bin .eql 0 (.t 78) (.k (.v (.c (.p (.int .i64 4)))))), (some (74, true))⟩, (oA 80 (.pick (.t 74) (.t 79) (.k (.v (.c (.p (.bool false))))))), (oA 81 (.mv (.t 80))), ⟨(some 82), (.mv (.t 5)), (some (81, true))⟩, ⟨(some 83), (.iaddr 4 (.t 82) (.k (.v (.c (.p (.int .i64 2)))))), (some (81, true))⟩, ⟨(some 84), (.faddr 1 (.t 83)), (some (81, true))⟩, ⟨(some 85), (.load false 1 (.t 84)), (some (81, true))⟩, ⟨(some 86), (.bin .eql 0 (.t 85) (.k (.v (.c (.p (.str [58, 61])))))), (some (81, true))⟩, ⟨(some 87), (.mv (.t 86)), (some (81, true))⟩, ⟨(some 88), (.mv (.t 5)), (some (87, false))⟩, ⟨(some 89), (.iaddr 4 (.t 88) (.k (.v (.c (.p (.int .i64 2)))))), (some (87, false))⟩, ⟨(some 90), (.faddr 1 (.t 89)), (some (87, false))⟩, ⟨(some 91), (.load false 1 (.t 90)), (some (87, false))⟩, ⟨(some 92), (.bin .eql 0 (.t 91) (.k (.v (.c (.p (.str [61])))))), (some (87, false))⟩, ⟨(some 93), (.pick (.t 87) (.k (.v (.c (.p (.bool true))))) (.t 92)), (some (81, true))⟩, (oA 94 (.pick (.t 81) (.t 93) (.k (.v (.c (.p (.bool false)))))))] []) (.cond (.t 94) (.seq (.reg [(oA 95 (.mv (.t 5))), (oA 96 (.iaddr 4 (.t 95) (.k (.v (.c (.p (.int .i64 1))))))), (oA 97 (.faddr 1 (.t 96))), (oA 98 (.load false 1 (.t 97))), (oA 99 (.faddr 0 (.t 8))), (oN (.store 1 (.t 99) (.k (.v (.c (.p (.int .i64 3))))))), (oA 100 (.faddr 3 (.t 8))), (oN (.store 1 (.t 100) (.t 98)))] [(3, 5)]) (.seq (.seq (.reg [(oA 101 (.mv (.t 5))), (oA 102 (.iaddr 4 (.t 101) (.k (.v (.c (.p (.int .i64 2))))))), (oA 103 (.faddr 1 (.t 102))), (oA 104 (.load false 1 (.t 103))), (oA 105 (.bin .eql 0 (.t 104) (.k (.v (.c (.p (.str [61])))))))] []) (.cond (.t 105) (.reg [(oA 106 (.faddr 0 (.t 8))), (oN (.store 1 (.t 106) (.k (.v (.c (.p (.int .i64 4)))))))] []) .skip)) (.mark 5 [0, 7, 8, 9] (.reg [(oA 107 (.mv (.t 7))), (oA 108 (.nilck (.t 107))), (oA 109 (.faddr 1 (.t 108))), (oN (.store 1 (.t 109) (.k (.v (.c (.p (.int .i64 3)))))))] [])))) .skip)) (.mark 6 [0, 7, 8, 9] (.reg [(oA 110 (.mv (.t 7))), (oA 111 (.call (.k (.v (.c (.func 40 [])))) [(.t 110), (.k (.v (.c (.p (.int .i64 0)))))])), (oA 112 (.faddr 4 (.t 8))), (oN (.store 1 (.t 112) (.t 111)))] [])))))))))))))))) (.mark 7 [0, 7, 8, 9] (.seq (.seq (.reg [(oA 155 (.mv (.t 7))), (oA 156 (.call (.k (.v (.c (.func 43 [])))) [(.t 155)])), (oA 157 (.bin .neq 0 (.t 156) (.k (.v (.c (.p (.int .i64 0)))))))] []) (.cond (.t 157) (.seq (.reg [(oA 158 (.mv (.t 7))), (oA 159 (.nilck (.t 158))), (oA 160 (.faddr 2 (.t 159))), (oA 161 (.load false 1 (.t 160))), (oA 4 (.mv (.t 161)))] []) .ret) .skip)) (.seq (.reg [(oA 162 (.mv (.t 0))), (oA 163 (.mv (.t 9))), (oA 164 (.load true 9 (.t 8))), (oA 165 (.call (.k (.v (.c (.func 44 [])))) [(.t 162), (.t 163), (.t 164)])), (oA 4 (.mv (.t 165)))] []) .ret)))))))))))) }
theorem t22 : compF Tryz.prog (globs2 tabs opq) (fun _ => true) true Tryz.f22 = some c22.erase := by kernel_rfl
noncomputable def b22_0 (O : Oracle) (R : Jump) (q : Nat) (x0 x1 : TVal) (h : Heap) : Res1 :=
 vop O (.box (.k x1) true) h 3 fun x3 h =>
 vfaddr 1 x3 h fun x11 h =>
 vload false 1 x11 h fun x12 h =>
 vcall O (.v (.c (.func 36 []))) [x12] h 13 fun x13 h =>
 vext x13 0 h fun x14 h =>
 vext x13 1 h fun x15 h =>
 vbin .neq 0 x15 (kI 0) h fun x17 h =>
 vif x17 (
 tcomp x15 fun c0 => vfin true q [c0] h)
 (vop O (.build [(.p .nilslice), (.p (.int .i64 0)), (.p (.int .i64 0))] [(0, 1, (.k x14))]) h 20 fun x20 h =>
 vop O (.box (.k x20) true) h 21 fun x21 h =>
 vfaddr 2 x3 h fun x22 h =>
 vload false 1 x22 h fun x23 h =>
 vop O (.build [(.p (.int .i64 0)), (.p (.int .i64 0)), (.p (.str [])), (.p (.str [])), (.p .nilslice), (.p .nilslice), (.p .nilslice), (.p (.bool false)), (.p .nilslice)] [(0, 1, (.k (kI 2))), (1, 1, (.k x23))]) h 24 fun x24 h =>
 vop O (.alloc [(.p (.int .i64 0)), (.p (.int .i64 0)), (.p (.str [])), (.p (.str [])), (.p .nilslice), (.p .nilslice), (.p .nilslice), (.p (.bool false)), (.p .nilslice)] true) h 8 fun x8 h =>
 vstore 9 x8 x24 h fun _ h =>
 vcall O (.v (.c (.func 37 []))) [x21, (kI 1)] h 26 fun x26 h =>
 vguard x26 true (fun kk => kk x14 h) h fun x28 h =>
 vguard x26 true (fun kk => viaddr 4 x28 (kI 0) h kk) h fun x29 h =>
 vguard x26 true (fun kk => vfaddr 1 x29 h kk) h fun x30 h =>
 vguard x26 true (fun kk => vload false 1 x30 h kk) h fun x31 h =>
 vguard x26 true (fun kk => vcall O (.v (.c (.func 38 []))) [x31] h 32 kk) h fun x32 h =>
 vop O (.pick (.k x26) (.k x32) (.k (kB false))) h 33 fun x33 h =>
 vguard x33 true (fun kk => kk x14 h) h fun x35 h =>
 vguard x33 true (fun kk => viaddr 4 x35 (kI 0) h kk) h fun x36 h =>
 vguard x33 true (fun kk => vfaddr 1 x36 h kk) h fun x37 h =>
 vguard x33 true (fun kk => vload false 1 x37 h kk) h fun x38 h =>
 vguard x33 true (fun kk => vbin .neq 0 x38 (kS [116, 114, 117, 101]) h kk) h fun x39 h =>
 vop O (.pick (.k x33) (.k x39) (.k (kB false))) h 40 fun x40 h =>
 vguard x40 true (fun kk => kk x14 h) h fun x42 h =>
 vguard x40 true (fun kk => viaddr 4 x42 (kI 0) h kk) h fun x43 h =>
 vguard x40 true (fun kk => vfaddr 1 x43 h kk) h fun x44 h =>
 vguard x40 true (fun kk => vload false 1 x44 h kk) h fun x45 h =>
 vguard x40 true (fun kk => vbin .neq 0 x45 (kS [102, 97, 108, 115, 101]) h kk) h fun x46 h =>
 vop O (.pick (.k x40) (.k x46) (.k (kB false))) h 47 fun x47 h =>
 vif x47 (
 viaddr 4 x14 (kI 0) h fun x49 h =>
 vfaddr 1 x49 h fun x50 h =>
 vload false 1 x50 h fun x51 h =>
 vop O (.nilck (.k x21)) h 53 fun x53 h =>
 vfaddr 1 x53 h fun x54 h =>
 vload false 1 x54 h fun x55 h =>
 vbin .add 0 x55 (kI 1) h fun x56 h =>
 vop O (.nilck (.k x21)) h 57 fun x57 h =>
 vfaddr 1 x57 h fun x58 h =>
 vstore 1 x58 x56 h fun _ h =>
 R 1 [x0, x14, x21, x8, x51] h)
 (R 1 [x0, x14, x21, x8, (kS [])] h))
theorem e22_0 (O : Oracle) (R : Jump) (q : Nat) (x0 x1 : TVal) (h : Heap) : b22_0 O R q x0 x1 h = stepF c22 O R q 0 [x0, x1] h := by kernel_rfl
noncomputable def b22_1 (O : Oracle) (R : Jump) (q : Nat) (x0 x5 x7 x8 x9 : TVal) (h : Heap) : Res1 :=
 vbin .eql 0 x9 (kS [105, 102]) h fun x114 h =>
 vif x114 (
 R 2 [x0, x5, x7, x8, x9, x9, x114] h)
 (vbin .eql 0 x9 (kS [119, 105, 116, 104]) h fun x115 h =>
 vif x115 (
 R 2 [x0, x5, x7, x8, x9, x9, x115] h)
 (vbin .eql 0 x9 (kS [114, 97, 110, 103, 101]) h fun x116 h =>
 vif x116 (
 R 2 [x0, x5, x7, x8, x9, x9, x116] h)
 (vbin .eql 0 x9 (kS [109, 97, 116, 99, 104]) h fun x117 h =>
 R 2 [x0, x5, x7, x8, x9, x9, x117] h)))
theorem e22_1 (O : Oracle) (R : Jump) (q : Nat) (x0 x5 x7 x8 x9 : TVal) (h : Heap) : b22_1 O R q x0 x5 x7 x8 x9 h = stepF c22 O R q 1 [x0, x5, x7, x8, x9] h := by kernel_rfl
noncomputable def b22_2 (O : Oracle) (R : Jump) (q : Nat) (x0 x5 x7 x8 x9 x59 x113 : TVal) (h : Heap) : Res1 :=
 vif x113 (
 vcall O (.v (.c (.func 39 []))) [x9] h 119 fun x119 h =>
 vcall O (.v (.c (.func 40 []))) [x7, (kI 0)] h 121 fun x121 h =>
 vfaddr 0 x8 h fun x122 h =>
 vstore 1 x122 x119 h fun _ h =>
 vfaddr 4 x8 h fun x123 h =>
 vstore 1 x123 x121 h fun _ h =>
 R 7 [x0, x7, x8, x9] h)
 (vbin .eql 0 x59 (kS [101, 108, 115, 101]) h fun x125 h =>
 vif x125 (
 R 3 [x0, x5, x7, x8, x9, x59, x125] h)
 (vbin .eql 0 x59 (kS [101, 110, 100]) h fun x126 h =>
 R 3 [x0, x5, x7, x8, x9, x59, x126] h))
theorem e22_2 (O : Oracle) (R : Jump) (q : Nat) (x0 x5 x7 x8 x9 x59 x113 : TVal) (h : Heap) : b22_2 O R q x0 x5 x7 x8 x9 x59 x113 h = stepF c22 O R q 2 [x0, x5, x7, x8, x9, x59, x113] h := by kernel_rfl
noncomputable def b22_3 (O : Oracle) (R : Jump) (q : Nat) (x0 x5 x7 x8 x9 x59 x124 : TVal) (h : Heap) : Res1 :=
 vif x124 (
 R 7 [x0, x7, x8, x9] h)
 (vbin .eql 0 x59 (kS [99, 97, 115, 101]) h fun x128 h =>
 vif x128 (
 vcall O (.v (.c (.func 41 []))) [x7, (kI 1)] h 130 fun x130 h =>
 vfield 1 1 false x130 h fun x131 h =>
 vfaddr 3 x8 h fun x132 h =>
 vstore 1 x132 x131 h fun _ h =>
 R 7 [x0, x7, x8, x9] h)
 (vbin .eql 0 x59 (kS [100, 101, 102, 105, 110, 101]) h fun x134 h =>
 vif x134 (
 R 4 [x0, x5, x7, x8, x9, x134] h)
 (vbin .eql 0 x59 (kS [116, 101, 109, 112, 108, 97, 116, 101]) h fun x135 h =>
 R 4 [x0, x5, x7, x8, x9, x135] h)))
theorem e22_3 (O : Oracle) (R : Jump) (q : Nat) (x0 x5 x7 x8 x9 x59 x124 : TVal) (h : Heap) : b22_3 O R q x0 x5 x7 x8 x9 x59 x124 h = stepF c22 O R q 3 [x0, x5, x7, x8, x9, x59, x124] h := by kernel_rfl
noncomputable def b22_4 (O : Oracle) (R : Jump) (q : Nat) (x0 x5 x7 x8 x9 x133 : TVal) (h : Heap) : Res1 :=
 vif x133 (
 vcall O (.v (.c (.func 41 []))) [x7, (kI 2)] h 137 fun x137 h =>
 vfield 1 1 false x137 h fun x138 h =>
 vfaddr 0 x8 h fun x139 h =>
 vstore 1 x139 (kI 9) h fun _ h =>
 vfaddr 3 x8 h fun x140 h =>
 vstore 1 x140 x138 h fun _ h =>
 vbin .eql 0 x9 (kS [116, 101, 109, 112, 108, 97, 116, 101]) h fun x142 h =>
 vguard x142 true (fun kk => kk x7 h) h fun x144 h =>
 vguard x142 true (fun kk => vop O (.nilck (.k x144)) h 145 kk) h fun x145 h =>
 vguard x142 true (fun kk => vfaddr 1 x145 h kk) h fun x146 h =>
 vguard x142 true (fun kk => vload false 1 x146 h kk) h fun x147 h =>
 vguard x142 true (fun kk => kk x5 h) h fun x148 h =>
 vguard x142 true (fun kk => vlen O 2 x148 h 149 kk) h fun x149 h =>
 vguard x142 true (fun kk => vbin .lss 0 x147 x149 h kk) h fun x150 h =>
 vop O (.pick (.k x142) (.k x150) (.k (kB false))) h 151 fun x151 h =>
 vif x151 (
 vcall O (.v (.c (.func 40 []))) [x7, (kI 0)] h 153 fun x153 h =>
 vfaddr 4 x8 h fun x154 h =>
 vstore 1 x154 x153 h fun _ h =>
 R 7 [x0, x7, x8, x9] h)
 (R 7 [x0, x7, x8, x9] h))
 (vlen O 2 x5 h 61 fun x61 h =>
 vbin .gtr 0 x61 (kI 2) h fun x62 h =>
 vguard x62 true (fun kk => kk x7 h) h fun x64 h =>
 vguard x62 true (fun kk => vcall O (.v (.c (.func 42 []))) [x64, (kS [36])] h 65 kk) h fun x65 h =>
 vop O (.pick (.k x62) (.k x65) (.k (kB false))) h 66 fun x66 h =>
 vguard x66 true (fun kk => kk x5 h) h fun x68 h =>
 vguard x66 true (fun kk => viaddr 4 x68 (kI 1) h kk) h fun x69 h =>
 vguard x66 true (fun kk => vfaddr 0 x69 h kk) h fun x70 h =>
 vguard x66 true (fun kk => vload false 1 x70 h kk) h fun x71 h =>
 vguard x66 true (fun kk => vbin .eql 0 x71 (kI 1) h kk) h fun x72 h =>
 vop O (.pick (.k x66) (.k x72) (.k (kB false))) h 73 fun x73 h =>
 vguard x73 true (fun kk => kk x5 h) h fun x75 h =>
 vguard x73 true (fun kk => viaddr 4 x75 (kI 2) h kk) h fun x76 h =>
 vguard x73 true (fun kk => vfaddr 0 x76 h kk) h fun x77 h =>
 vguard x73 true (fun kk => vload false 1 x77 h kk) h fun x78 h =>
 vguard x73 true (fun kk => vbin .eql 0 x78 (kI 4) h kk) h fun x79 h =>
 vop O (.pick (.k x73) (.k x79) (.k (kB false))) h 80 fun x80 h =>
 vguard x80 true (fun kk => kk x5 h) h fun x82 h =>
 vguard x80 true (fun kk => viaddr 4 x82 (kI 2) h kk) h fun x83 h =>
 vguard x80 true (fun kk => vfaddr 1 x83 h kk) h fun x84 h =>
 vguard x80 true (fun kk => vload false 1 x84 h kk) h fun x85 h =>
 vguard x80 true (fun kk => vbin .eql 0 x85 (kS [58, 61]) h kk) h fun x86 h =>
 vguard x80 true (fun kk => kk x86 h) h fun x87 h =>
 vguard x87 false (fun kk => kk x5 h) h fun x88 h =>
 vguard x87 false (fun kk => viaddr 4 x88 (kI 2) h kk) h fun x89 h =>
 vguard x87 false (fun kk => vfaddr 1 x89 h kk) h fun x90 h =>
 vguard x87 false (fun kk => vload false 1 x90 h kk) h fun x91 h =>
 vguard x87 false (fun kk => vbin .eql 0 x91 (kS [61]) h kk) h fun x92 h =>
 vguard x80 true (fun kk => vop O (.pick (.k x87) (.k (kB true)) (.k x92)) h 93 kk) h fun x93 h =>
 vop O (.pick (.k x80) (.k x93) (.k (kB false))) h 94 fun x94 h =>
 vif x94 (
 vtouch O (.mv (.k x5)) h 95 fun x95 h t0 =>
 vtouch O (.iaddr 4 (.k x95) (.k (kI 1))) h 96 fun x96 h t1 =>
 vtouch O (.faddr 1 (.k x96)) h 97 fun x97 h t2 =>
 vtouch O (.load false 1 (.k x97)) h 98 fun x98 h t3 =>
 vtouch O (.faddr 0 (.k x8)) h 99 fun x99 h t4 =>
 vtouch O (.store 1 (.k x99) (.k (kI 3))) h 1000000 fun _ h t5 =>
 vtouch O (.faddr 3 (.k x8)) h 100 fun x100 h t6 =>
 vtouch O (.store 1 (.k x100) (.k x98)) h 1000000 fun _ h t7 =>
 bif apartAll [t0, t1, t2, t3, t4, t5, t6, t7] [(3, 5)] then
 viaddr 4 x5 (kI 2) h fun x102 h =>
 vfaddr 1 x102 h fun x103 h =>
 vload false 1 x103 h fun x104 h =>
 vbin .eql 0 x104 (kS [61]) h fun x105 h =>
 vif x105 (
 vfaddr 0 x8 h fun x106 h =>
 vstore 1 x106 (kI 4) h fun _ h =>
 R 5 [x0, x7, x8, x9] h)
 (R 5 [x0, x7, x8, x9] h)
 else none)
 (R 6 [x0, x7, x8, x9] h))
theorem e22_4 (O : Oracle) (R : Jump) (q : Nat) (x0 x5 x7 x8 x9 x133 : TVal) (h : Heap) : b22_4 O R q x0 x5 x7 x8 x9 x133 h = stepF c22 O R q 4 [x0, x5, x7, x8, x9, x133] h := by kernel_rfl
noncomputable def b22_5 (O : Oracle) (R : Jump) (q : Nat) (x0 x7 x8 x9 : TVal) (h : Heap) : Res1 :=
 vop O (.nilck (.k x7)) h 108 fun x108 h =>
 vfaddr 1 x108 h fun x109 h =>
 vstore 1 x109 (kI 3) h fun _ h =>
 R 6 [x0, x7, x8, x9] h
theorem e22_5 (O : Oracle) (R : Jump) (q : Nat) (x0 x7 x8 x9 : TVal) (h : Heap) : b22_5 O R q x0 x7 x8 x9 h = stepF c22 O R q 5 [x0, x7, x8, x9] h := by kernel_rfl
noncomputable def b22_6 (O : Oracle) (R : Jump) (q : Nat) (x0 x7 x8 x9 : TVal) (h : Heap) : Res1 :=
 vcall O (.v (.c (.func 40 []))) [x7, (kI 0)] h 111 fun x111 h =>
 vfaddr 4 x8 h fun x112 h =>
 vstore 1 x112 x111 h fun _ h =>
 R 7 [x0, x7, x8, x9] h
theorem e22_6 (O : Oracle) (R : Jump) (q : Nat) (x0 x7 x8 x9 : TVal) (h : Heap) : b22_6 O R q x0 x7 x8 x9 h = stepF c22 O R q 6 [x0, x7, x8, x9] h := by kernel_rfl
noncomputable def b22_7 (O : Oracle) (R : Jump) (q : Nat) (x0 x7 x8 x9 : TVal) (h : Heap) : Res1 :=
 vcall O (.v (.c (.func 43 []))) [x7] h 156 fun x156 h =>
 vbin .neq 0 x156 (kI 0) h fun x157 h =>
 vif x157 (
 vop O (.nilck (.k x7)) h 159 fun x159 h =>
 vfaddr 2 x159 h fun x160 h =>
 vload false 1 x160 h fun x161 h =>
 tcomp x161 fun c0 => vfin true q [c0] h)
 (vload true 9 x8 h fun x164 h =>
 vcall O (.v (.c (.func 44 []))) [x0, x9, x164] h 165 fun x165 h =>
 tcomp x165 fun c0 => vfin true q [c0] h)
theorem e22_7 (O : Oracle) (R : Jump) (q : Nat) (x0 x7 x8 x9 : TVal) (h : Heap) : b22_7 O R q x0 x7 x8 x9 h = stepF c22 O R q 7 [x0, x7, x8, x9] h := by kernel_rfl
noncomputable def d22 : BlkF := fun O R q => [.s fun y0 => .s fun y1 => .z fun h => b22_0 O R q y0 y1 h, .s fun y0 => .s fun y1 => .s fun y2 => .s fun y3 => .s fun y4 => .z fun h => b22_1 O R q y0 y1 y2 y3 y4 h, .s fun y0 => .s fun y1 => .s fun y2 => .s fun y3 => .s fun y4 => .s fun y5 => .s fun y6 => .z fun h => b22_2 O R q y0 y1 y2 y3 y4 y5 y6 h, .s fun y0 => .s fun y1 => .s fun y2 => .s fun y3 => .s fun y4 => .s fun y5 => .s fun y6 => .z fun h => b22_3 O R q y0 y1 y2 y3 y4 y5 y6 h, .s fun y0 => .s fun y1 => .s fun y2 => .s fun y3 => .s fun y4 => .s fun y5 => .z fun h => b22_4 O R q y0 y1 y2 y3 y4 y5 h, .s fun y0 => .s fun y1 => .s fun y2 => .s fun y3 => .z fun h => b22_5 O R q y0 y1 y2 y3 h, .s fun y0 => .s fun y1 => .s fun y2 => .s fun y3 => .z fun h => b22_6 O R q y0 y1 y2 y3 h, .s fun y0 => .s fun y1 => .s fun y2 => .s fun y3 => .z fun h => b22_7 O R q y0 y1 y2 y3 h]
theorem o22 (O : Oracle) (R : Jump) (q : Nat) : HoldsAll c22 O R q 0 (d22 O R q) := ⟨fun y0 y1 h => e22_0 O R q y0 y1 h, fun y0 y1 y2 y3 y4 h => e22_1 O R q y0 y1 y2 y3 y4 h, fun y0 y1 y2 y3 y4 y5 y6 h => e22_2 O R q y0 y1 y2 y3 y4 y5 y6 h, fun y0 y1 y2 y3 y4 y5 y6 h => e22_3 O R q y0 y1 y2 y3 y4 y5 y6 h, fun y0 y1 y2 y3 y4 y5 h => e22_4 O R q y0 y1 y2 y3 y4 y5 h, fun y0 y1 y2 y3 h => e22_5 O R q y0 y1 y2 y3 h, fun y0 y1 y2 y3 h => e22_6 O R q y0 y1 y2 y3 h, fun y0 y1 y2 y3 h => e22_7 O R q y0 y1 y2 y3 h, trivial⟩
/- (*sprue/sprueref7.parser).text -/
def c23 : MFunc := { np := 2, res := [.t 4], frz := true, body := (.seq (.reg [(oA 3 (.box (.t 1) true)), (oA 4 (.mv (.k (.v (.c (.p (.int .i64 0)))))))] []) (.seq (.reg [(oA 6 (.faddr 2 (.t 3))), (oA 7 (.load false 1 (.t 6))), (oA 8 (.faddr 1 (.t 3))), (oA 9 (.load false 1 (.t 8))), (oA 10 (.build [(.p (.int .i64 0)), (.p (.int .i64 0)), (.p (.str [])), (.p (.str [])), (.p .nilslice), (.p .nilslice), (.p .nilslice), (.p (.bool false)), (.p .nilslice)] [(0, 1, (.k (.v (.c (.p (.int .i64 1)))))), (1, 1, (.t 7)), (2, 1, (.t 9))])), (oA 5 (.alloc [(.p (.int .i64 0)), (.p (.int .i64 0)), (.p (.str [])), (.p (.str [])), (.p .nilslice), (.p .nilslice), (.p .nilslice), (.p (.bool false)), (.p .nilslice)] true)), (oN (.store 9 (.t 5) (.t 10)))] []) (.seq (.seq (.reg [(oA 11 (.mv (.t 0))), (oA 12 (.load true 9 (.t 5))), (oA 13 (.call (.k (.v (.c (.func 45 [])))) [(.t 11), (.t 12)])), (oA 14 (.mv (.t 13))), ⟨(some 15), (.faddr 1 (.t 3)), (some (14, false))⟩, ⟨(some 16), (.load false 1 (.t 15)), (some (14, false))⟩, ⟨(some 17), (.call (.k (.v (.c (.func 46 [])))) [(.t 16)]), (some (14, false))⟩, (oA 18 (.pick (.t 14) (.k (.v (.c (.p (.bool true))))) (.t 17)))] []) (.cond (.t 18) (.seq (.reg [(oA 4 (.mv (.k (.v (.c (.p (.int .i64 0)))))))] []) .ret) .skip)) (.seq (.reg [(oA 4 (.mv (.k (.v (.c (.p (.int .i64 12)))))))] []) .ret)))) }
theorem t23 : compF Tryz.prog (globs2 tabs opq) (fun _ => true) true Tryz.f23 = some c23.erase := by kernel_rfl
noncomputable def b23_0 (O : Oracle) (R : Jump) (q : Nat) (x0 x1 : TVal) (h : Heap) : Res1 :=
 vop O (.box (.k x1) true) h 3 fun x3 h =>
 vfaddr 2 x3 h fun x6 h =>
 vload false 1 x6 h fun x7 h =>
 vfaddr 1 x3 h fun x8 h =>
 vload false 1 x8 h fun x9 h =>
 vop O (.build [(.p (.int .i64 0)), (.p (.int .i64 0)), (.p (.str [])), (.p (.str [])), (.p .nilslice), (.p .nilslice), (.p .nilslice), (.p (.bool false)), (.p .nilslice)] [(0, 1, (.k (kI 1))), (1, 1, (.k x7)), (2, 1, (.k x9))]) h 10 fun x10 h =>
 vop O (.alloc [(.p (.int .i64 0)), (.p (.int .i64 0)), (.p (.str [])), (.p (.str [])), (.p .nilslice), (.p .nilslice), (.p .nilslice), (.p (.bool false)), (.p .nilslice)] true) h 5 fun x5 h =>
 vstore 9 x5 x10 h fun _ h =>
 vload true 9 x5 h fun x12 h =>
 vcall O (.v (.c (.func 45 []))) [x0, x12] h 13 fun x13 h =>
 vguard x13 false (fun kk => vfaddr 1 x3 h kk) h fun x15 h =>
 vguard x13 false (fun kk => vload false 1 x15 h kk) h fun x16 h =>
 vguard x13 false (fun kk => vcall O (.v (.c (.func 46 []))) [x16] h 17 kk) h fun x17 h =>
 vop O (.pick (.k x13) (.k (kB true)) (.k x17)) h 18 fun x18 h =>
 vif x18 (
 tcomp (kI 0) fun c0 => vfin true q [c0] h)
 (tcomp (kI 12) fun c0 => vfin true q [c0] h)
theorem e23_0 (O : Oracle) (R : Jump) (q : Nat) (x0 x1 : TVal) (h : Heap) : b23_0 O R q x0 x1 h = stepF c23 O R q 0 [x0, x1] h := by kernel_rfl
noncomputable def d23 : BlkF := fun O R q => [.s fun y0 => .s fun y1 => .z fun h => b23_0 O R q y0 y1 h]
theorem o23 (O : Oracle) (R : Jump) (q : Nat) : HoldsAll c23 O R q 0 (d23 O R q) := ⟨fun y0 y1 h => e23_0 O R q y0 y1 h, trivial⟩
/- (*sprue/sprueref13.reader).value -/
def c24 : MFunc := { np := 2, res := [.cell 4 true 6], frz := true, body := (.seq (.reg [(oA 4 (.alloc [(.p (.int .i64 0)), (.p (.bool false)), (.p (.int .i64 0)), (.p (.str [])), (.p .nilslice), (.p .nilslice)] false))] []) (.seq (.reg [(oA 8 (.mv (.t 0))), (oA 9 (.call (.k (.v (.c (.func 25 [])))) [(.t 8)]))] []) (.seq (.seq (.reg [(oA 10 (.mv (.t 0))), (oA 11 (.nilck (.t 10))), (oA 12 (.faddr 2 (.t 11))), (oA 13 (.load false 1 (.t 12))), (oA 14 (.bin .neq 0 (.t 13) (.k (.v (.c (.p (.int .i64 0))))))), (oA 15 (.mv (.t 14))), ⟨(some 16), (.mv (.t 0)), (some (15, false))⟩, ⟨(some 17), (.nilck (.t 16)), (some (15, false))⟩, ⟨(some 18), (.faddr 1 (.t 17)), (some (15, false))⟩, ⟨(some 19), (.load false 1 (.t 18)), (some (15, false))⟩, ⟨(some 20), (.mv (.t 0)), (some (15, false))⟩, ⟨(some 21), (.nilck (.t 20)), (some (15, false))⟩, ⟨(some 22), (.faddr 0 (.t 21)), (some (15, false))⟩, ⟨(some 23), (.load false 1 (.t 22)), (some (15, false))⟩, ⟨(some 24), (.len 0 (.t 23)), (some (15, false))⟩, ⟨(some 25), (.bin .geq 0 (.t 19) (.t 24)), (some (15, false))⟩, (oA 26 (.pick (.t 15) (.k (.v (.c (.p (.bool true))))) (.t 25)))] []) (.cond (.t 26) (.seq (.reg [(oA 27 (.mv (.t 0))), (oA 28 (.call (.k (.v (.c (.func 26 [])))) [(.t 27), (.k (.v (.c (.p (.int .i64 12)))))]))] []) (.seq (.reg [(oA 29 (.build [(.p (.int .i64 0)), (.p (.bool false)), (.p (.int .i64 0)), (.p (.str [])), (.p .nilslice), (.p .nilslice)] [])), (oN (.store 6 (.t 4) (.t 29)))] []) .ret)) .skip)) (.seq (.reg [(oA 30 (.mv (.t 0))), (oA 31 (.nilck (.t 30))), (oA 32 (.faddr 0 (.t 31))), (oA 33 (.load false 1 (.t 32))), (oA 34 (.mv (.t 0))), (oA 35 (.nilck (.t 34))), (oA 36 (.faddr 1 (.t 35))), (oA 37 (.load false 1 (.t 36))), (oA 38 (.index (.t 33) (.t 37))), (oA 5 (.mv (.t 38)))] []) (.seq (.reg [(oA 40 (.mv (.t 0))), (oA 41 (.call (.k (.v (.c (.func 47 [])))) [(.t 40)])), (oA 39 (.mv (.t 41))), (oA 42 (.extract (.t 39) 0)), (oA 43 (.extract (.t 39) 1)), (oA 6 (.alloc [(.p (.int .i64 0)), (.p (.bool false)), (.p (.int .i64 0)), (.p (.str [])), (.p .nilslice), (.p .nilslice)] false)), (oN (.store 6 (.t 6) (.t 42))), (oA 7 (.mv (.t 43)))] []) (.seq (.seq (.reg [(oA 44 (.mv (.t 7))), (oA 45 (.un .not (.t 44))), (oA 46 (.mv (.t 45))), ⟨(some 47), (.mv (.t 5)), (some (46, true))⟩, ⟨(some 48), (.bin .neq 0 (.t 47) (.k (.v (.c (.p (.int .u8 34)))))), (some (46, true))⟩, (oA 49 (.pick (.t 46) (.t 48) (.k (.v (.c (.p (.bool false))))))), (oA 50 (.mv (.t 49))), ⟨(some 51), (.mv (.t 5)), (some (50, true))⟩, ⟨(some 52), (.bin .neq 0 (.t 51) (.k (.v (.c (.p (.int .u8 45)))))), (some (50, true))⟩, (oA 53 (.pick (.t 50) (.t 52) (.k (.v (.c (.p (.bool false))))))), (oA 54 (.mv (.t 53))), ⟨(some 55), (.mv (.t 5)), (some (54, true))⟩, ⟨(some 56), (.call (.k (.v (.c (.func 48 [])))) [(.t 55)]), (some (54, true))⟩, ⟨(some 57), (.un .not (.t 56)), (some (54, true))⟩, (oA 58 (.pick (.t 54) (.t 57) (.k (.v (.c (.p (.bool false))))))), (oA 59 (.mv (.t 58))), ⟨(some 60), (.mv (.t 5)), (some (59, true))⟩, ⟨(some 61), (.bin .neq 0 (.t 60) (.k (.v (.c (.p (.int .u8 91)))))), (some (59, true))⟩, (oA 62 (.pick (.t 59) (.t 61) (.k (.v (.c (.p (.bool false))))))), (oA 63 (.mv (.t 62))), ⟨(some 64), (.mv (.t 5)), (some (63, true))⟩, ⟨(some 65), (.bin .neq 0 (.t 64) (.k (.v (.c (.p (.int .u8 123)))))), (some (63, true))⟩, (oA 66 (.pick (.t 63) (.t 65) (.k (.v (.c (.p (.bool false)))))))] []) (.cond (.t 66) (.seq (.reg [(oA 67 (.mv (.t 0))), (oA 68 (.call (.k (.v (.c (.func 26 [])))) [(.t 67), (.k (.v (.c (.p (.int .i64 12)))))]))] []) (.seq (.reg [(oA 69 (.build [(.p (.int .i64 0)), (.p (.bool false)), (.p (.int .i64 0)), (.p (.str [])), (.p .nilslice), (.p .nilslice)] [])), (oN (.store 6 (.t 4) (.t 69)))] []) .ret)) .skip)) (.seq (.seq (.reg [(oA 70 (.mv (.t 1))), (oA 71 (.bin .gtr 0 (.t 70) (.k (.v (.c (.p (.int .i64 12)))))))] []) (.cond (.t 71) (.seq (.reg [(oA 72 (.mv (.t 0))), (oA 73 (.call (.k (.v (.c (.func 26 [])))) [(.t 72), (.k (.v (.c (.p (.int .i64 13)))))]))] []) (.seq (.reg [(oA 74 (.build [(.p (.int .i64 0)), (.p (.bool false)), (.p (.int .i64 0)), (.p (.str [])), (.p .nilslice), (.p .nilslice)] [])), (oN (.store 6 (.t 4) (.t 74)))] []) .ret)) .skip)) (.seq (.block 0 (.seq (.reg [(oA 76 (.mv (.t 7))), (oA 75 (.mv (.t 76)))] []) (.cond (.t 75) (.seq (.reg [(oA 77 (.load true 6 (.t 6))), (oN (.store 6 (.t 4) (.t 77)))] []) .ret) (.seq (.reg [(oA 79 (.mv (.t 5))), (oA 80 (.bin .eql 0 (.t 79) (.k (.v (.c (.p (.int .u8 34))))))), (oA 78 (.mv (.t 80)))] []) (.cond (.t 78) (.seq (.reg [(oA 81 (.mv (.t 0))), (oA 82 (.call (.k (.v (.c (.func 49 [])))) [(.t 81)])), (oA 83 (.build [(.p (.int .i64 0)), (.p (.bool false)), (.p (.int .i64 0)), (.p (.str [])), (.p .nilslice), (.p .nilslice)] [(0, 1, (.k (.v (.c (.p (.int .i64 3)))))), (3, 1, (.t 82))])), (oN (.store 6 (.t 4) (.t 83)))] []) .ret) (.seq (.reg [(oA 85 (.mv (.t 5))), (oA 86 (.bin .eql 0 (.t 85) (.k (.v (.c (.p (.int .u8 91))))))), (oA 84 (.mv (.t 86)))] []) (.cond (.t 84) (.seq (.reg [(oA 87 (.mv (.t 0))), (oA 88 (.mv (.t 1))), (oA 89 (.call (.k (.v (.c (.func 50 [])))) [(.t 87), (.t 88)])), (oN (.store 6 (.t 4) (.t 89)))] []) .ret) (.seq (.reg [(oA 91 (.mv (.t 5))), (oA 92 (.bin .eql 0 (.t 91) (.k (.v (.c (.p (.int .u8 123))))))), (oA 90 (.mv (.t 92)))] []) (.cond (.t 90) (.seq (.reg [(oA 93 (.mv (.t 0))), (oA 94 (.mv (.t 1))), (oA 95 (.call (.k (.v (.c (.func 51 [])))) [(.t 93), (.t 94)])), (oN (.store 6 (.t 4) (.t 95)))] []) .ret) .skip))))))))) (.seq (.reg [(oA 96 (.mv (.t 0))), (oA 97 (.call (.k (.v (.c (.func 52 [])))) [(.t 96)])), (oN (.store 6 (.t 4) (.t 97)))] []) .ret))))))))) }
theorem t24 : compF Tryz.prog (globs2 tabs opq) (fun _ => false) true Tryz.f24 = some c24.erase := by kernel_rfl
noncomputable def b24_0 (O : Oracle) (R : Jump) (q : Nat) (x0 x1 : TVal) (h : Heap) : Res1 :=
 vop O (.alloc [(.p (.int .i64 0)), (.p (.bool false)), (.p (.int .i64 0)), (.p (.str [])), (.p .nilslice), (.p .nilslice)] false) h 4 fun x4 h =>
 vcall O (.v (.c (.func 25 []))) [x0] h 9 fun x9 h =>
 vop O (.nilck (.k x0)) h 11 fun x11 h =>
 vfaddr 2 x11 h fun x12 h =>
 vload false 1 x12 h fun x13 h =>
 vbin .neq 0 x13 (kI 0) h fun x14 h =>
 vguard x14 false (fun kk => kk x0 h) h fun x16 h =>
 vguard x14 false (fun kk => vop O (.nilck (.k x16)) h 17 kk) h fun x17 h =>
 vguard x14 false (fun kk => vfaddr 1 x17 h kk) h fun x18 h =>
 vguard x14 false (fun kk => vload false 1 x18 h kk) h fun x19 h =>
 vguard x14 false (fun kk => kk x0 h) h fun x20 h =>
 vguard x14 false (fun kk => vop O (.nilck (.k x20)) h 21 kk) h fun x21 h =>
 vguard x14 false (fun kk => vfaddr 0 x21 h kk) h fun x22 h =>
 vguard x14 false (fun kk => vload false 1 x22 h kk) h fun x23 h =>
 vguard x14 false (fun kk => vlen O 0 x23 h 24 kk) h fun x24 h =>
 vguard x14 false (fun kk => vbin .geq 0 x19 x24 h kk) h fun x25 h =>
 vop O (.pick (.k x14) (.k (kB true)) (.k x25)) h 26 fun x26 h =>
 vif x26 (
 vcall O (.v (.c (.func 26 []))) [x0, (kI 12)] h 28 fun x28 h =>
 vop O (.build [(.p (.int .i64 0)), (.p (.bool false)), (.p (.int .i64 0)), (.p (.str [])), (.p .nilslice), (.p .nilslice)] []) h 29 fun x29 h =>
 vstore 6 x4 x29 h fun _ h =>
 vcell true 6 x4 h fun c0 => vfin true q [c0] h)
 (vop O (.nilck (.k x0)) h 31 fun x31 h =>
 vfaddr 0 x31 h fun x32 h =>
 vload false 1 x32 h fun x33 h =>
 vop O (.nilck (.k x0)) h 35 fun x35 h =>
 vfaddr 1 x35 h fun x36 h =>
 vload false 1 x36 h fun x37 h =>
 vindex x33 x37 h fun x38 h =>
 vcall O (.v (.c (.func 47 []))) [x0] h 41 fun x41 h =>
 vext x41 0 h fun x42 h =>
 vext x41 1 h fun x43 h =>
 vop O (.alloc [(.p (.int .i64 0)), (.p (.bool false)), (.p (.int .i64 0)), (.p (.str [])), (.p .nilslice), (.p .nilslice)] false) h 6 fun x6 h =>
 vstore 6 x6 x42 h fun _ h =>
 vop O (.un .not (.k x43)) h 45 fun x45 h =>
 vguard x45 true (fun kk => kk x38 h) h fun x47 h =>
 vguard x45 true (fun kk => vbin .neq 0 x47 (.v (.c (.p (.int .u8 34)))) h kk) h fun x48 h =>
 vop O (.pick (.k x45) (.k x48) (.k (kB false))) h 49 fun x49 h =>
 vguard x49 true (fun kk => kk x38 h) h fun x51 h =>
 vguard x49 true (fun kk => vbin .neq 0 x51 (.v (.c (.p (.int .u8 45)))) h kk) h fun x52 h =>
 vop O (.pick (.k x49) (.k x52) (.k (kB false))) h 53 fun x53 h =>
 vguard x53 true (fun kk => kk x38 h) h fun x55 h =>
 vguard x53 true (fun kk => vcall O (.v (.c (.func 48 []))) [x55] h 56 kk) h fun x56 h =>
 vguard x53 true (fun kk => vop O (.un .not (.k x56)) h 57 kk) h fun x57 h =>
 vop O (.pick (.k x53) (.k x57) (.k (kB false))) h 58 fun x58 h =>
 vguard x58 true (fun kk => kk x38 h) h fun x60 h =>
 vguard x58 true (fun kk => vbin .neq 0 x60 (.v (.c (.p (.int .u8 91)))) h kk) h fun x61 h =>
 vop O (.pick (.k x58) (.k x61) (.k (kB false))) h 62 fun x62 h =>
 vguard x62 true (fun kk => kk x38 h) h fun x64 h =>
 vguard x62 true (fun kk => vbin .neq 0 x64 (.v (.c (.p (.int .u8 123)))) h kk) h fun x65 h =>
 vop O (.pick (.k x62) (.k x65) (.k (kB false))) h 66 fun x66 h =>
 vif x66 (
 vcall O (.v (.c (.func 26 []))) [x0, (kI 12)] h 68 fun x68 h =>
 vop O (.build [(.p (.int .i64 0)), (.p (.bool false)), (.p (.int .i64 0)), (.p (.str [])), (.p .nilslice), (.p .nilslice)] []) h 69 fun x69 h =>
 vstore 6 x4 x69 h fun _ h =>
 vcell true 6 x4 h fun c0 => vfin true q [c0] h)
 (vbin .gtr 0 x1 (kI 12) h fun x71 h =>
 vif x71 (
 vcall O (.v (.c (.func 26 []))) [x0, (kI 13)] h 73 fun x73 h =>
 vop O (.build [(.p (.int .i64 0)), (.p (.bool false)), (.p (.int .i64 0)), (.p (.str [])), (.p .nilslice), (.p .nilslice)] []) h 74 fun x74 h =>
 vstore 6 x4 x74 h fun _ h =>
 vcell true 6 x4 h fun c0 => vfin true q [c0] h)
 (vif x43 (
 vload true 6 x6 h fun x77 h =>
 vstore 6 x4 x77 h fun _ h =>
 vcell true 6 x4 h fun c0 => vfin true q [c0] h)
 (vbin .eql 0 x38 (.v (.c (.p (.int .u8 34)))) h fun x80 h =>
 vif x80 (
 vcall O (.v (.c (.func 49 []))) [x0] h 82 fun x82 h =>
 vop O (.build [(.p (.int .i64 0)), (.p (.bool false)), (.p (.int .i64 0)), (.p (.str [])), (.p .nilslice), (.p .nilslice)] [(0, 1, (.k (kI 3))), (3, 1, (.k x82))]) h 83 fun x83 h =>
 vstore 6 x4 x83 h fun _ h =>
 vcell true 6 x4 h fun c0 => vfin true q [c0] h)
 (vbin .eql 0 x38 (.v (.c (.p (.int .u8 91)))) h fun x86 h =>
 vif x86 (
 vcall O (.v (.c (.func 50 []))) [x0, x1] h 89 fun x89 h =>
 vstore 6 x4 x89 h fun _ h =>
 vcell true 6 x4 h fun c0 => vfin true q [c0] h)
 (vbin .eql 0 x38 (.v (.c (.p (.int .u8 123)))) h fun x92 h =>
 vif x92 (
 vcall O (.v (.c (.func 51 []))) [x0, x1] h 95 fun x95 h =>
 vstore 6 x4 x95 h fun _ h =>
 vcell true 6 x4 h fun c0 => vfin true q [c0] h)
 (vcall O (.v (.c (.func 52 []))) [x0] h 97 fun x97 h =>
 vstore 6 x4 x97 h fun _ h =>
 vcell true 6 x4 h fun c0 => vfin true q [c0] h)))))))
theorem e24_0 (O : Oracle) (R : Jump) (q : Nat) (x0 x1 : TVal) (h : Heap) : b24_0 O R q x0 x1 h = stepF c24 O R q 0 [x0, x1] h := by kernel_rfl
noncomputable def d24 : BlkF := fun O R q => [.s fun y0 => .s fun y1 => .z fun h => b24_0 O R q y0 y1 h]
theorem o24 (O : Oracle) (R : Jump) (q : Nat) : HoldsAll c24 O R q 0 (d24 O R q) := ⟨fun y0 y1 h => e24_0 O R q y0 y1 h, trivial⟩
/- (*sprue/sprueref13.reader).blanks -/
def c25 : MFunc := { np := 1, res := [], frz := true, body := (.block 0 (.loop 1 [0] (.seq (.seq (.reg [(oA 2 (.mv (.t 0))), (oA 3 (.nilck (.t 2))), (oA 4 (.faddr 1 (.t 3))), (oA 5 (.load false 1 (.t 4))), (oA 6 (.mv (.t 0))), (oA 7 (.nilck (.t 6))), (oA 8 (.faddr 0 (.t 7))), (oA 9 (.load false 1 (.t 8))), (oA 10 (.len 0 (.t 9))), (oA 11 (.bin .lss 0 (.t 5) (.t 10))), (oA 12 (.mv (.t 11))), ⟨(some 13), (.mv (.t 0)), (some (12, true))⟩, ⟨(some 14), (.nilck (.t 13)), (some (12, true))⟩, ⟨(some 15), (.faddr 0 (.t 14)), (some (12, true))⟩, ⟨(some 16), (.load false 1 (.t 15)), (some (12, true))⟩, ⟨(some 17), (.mv (.t 0)), (some (12, true))⟩, ⟨(some 18), (.nilck (.t 17)), (some (12, true))⟩, ⟨(some 19), (.faddr 1 (.t 18)), (some (12, true))⟩, ⟨(some 20), (.load false 1 (.t 19)), (some (12, true))⟩, ⟨(some 21), (.index (.t 16) (.t 20)), (some (12, true))⟩, ⟨(some 22), (.bin .eql 0 (.t 21) (.k (.v (.c (.p (.int .u8 32)))))), (some (12, true))⟩, ⟨(some 23), (.mv (.t 22)), (some (12, true))⟩, ⟨(some 24), (.mv (.t 0)), (some (23, false))⟩, ⟨(some 25), (.nilck (.t 24)), (some (23, false))⟩, ⟨(some 26), (.faddr 0 (.t 25)), (some (23, false))⟩, ⟨(some 27), (.load false 1 (.t 26)), (some (23, false))⟩, ⟨(some 28), (.mv (.t 0)), (some (23, false))⟩, ⟨(some 29), (.nilck (.t 28)), (some (23, false))⟩, ⟨(some 30), (.faddr 1 (.t 29)), (some (23, false))⟩, ⟨(some 31), (.load false 1 (.t 30)), (some (23, false))⟩, ⟨(some 32), (.index (.t 27) (.t 31)), (some (23, false))⟩, ⟨(some 33), (.bin .eql 0 (.t 32) (.k (.v (.c (.p (.int .u8 9)))))), (some (23, false))⟩, ⟨(some 34), (.pick (.t 23) (.k (.v (.c (.p (.bool true))))) (.t 33)), (some (12, true))⟩, ⟨(some 35), (.mv (.t 34)), (some (12, true))⟩, ⟨(some 36), (.mv (.t 0)), (some (35, false))⟩, ⟨(some 37), (.nilck (.t 36)), (some (35, false))⟩, ⟨(some 38), (.faddr 0 (.t 37)), (some (35, false))⟩, ⟨(some 39), (.load false 1 (.t 38)), (some (35, false))⟩, ⟨(some 40), (.mv (.t 0)), (some (35, false))⟩, ⟨(some 41), (.nilck (.t 40)), (some (35, false))⟩, ⟨(some 42), (.faddr 1 (.t 41)), (some (35, false))⟩, ⟨(some 43), (.load false 1 (.t 42)), (some (35, false))⟩, ⟨(some 44), (.index (.t 39) (.t 43)), (some (35, false))⟩, ⟨(some 45), (.bin .eql 0 (.t 44) (.k (.v (.c (.p (.int .u8 10)))))), (some (35, false))⟩, ⟨(some 46), (.pick (.t 35) (.k (.v (.c (.p (.bool true))))) (.t 45)), (some (12, true))⟩, ⟨(some 47), (.mv (.t 46)), (some (12, true))⟩, ⟨(some 48), (.mv (.t 0)), (some (47, false))⟩, ⟨(some 49), (.nilck (.t 48)), (some (47, false))⟩, ⟨(some 50), (.faddr 0 (.t 49)), (some (47, false))⟩, ⟨(some 51), (.load false 1 (.t 50)), (some (47, false))⟩, ⟨(some 52), (.mv (.t 0)), (some (47, false))⟩, ⟨(some 53), (.nilck (.t 52)), (some (47, false))⟩, ⟨(some 54), (.faddr 1 (.t 53)), (some (47, false))⟩, ⟨(some 55), (.load false 1 (.t 54)), (some (47, false))⟩, ⟨(some 56), (.index (.t 51) (.t 55)), (some (47, false))⟩, ⟨(some 57), (.bin .eql 0 (.t 56) (.k (.v (.c (.p (.int .u8 13)))))), (some (47, false))⟩, ⟨(some 58), (.pick (.t 47) (.k (.v (.c (.p (.bool true))))) (.t 57)), (some (12, true))⟩, (oA 59 (.pick (.t 12) (.t 58) (.k (.v (.c (.p (.bool false)))))))] []) (.cond (.t 59) .skip (.exit 0))) (.block 1 (.reg [(oA 60 (.mv (.t 0))), (oA 61 (.nilck (.t 60))), (oA 62 (.faddr 1 (.t 61))), (oA 63 (.load false 1 (.t 62))), (oA 64 (.bin .add 0 (.t 63) (.k (.v (.c (.p (.int .i64 1))))))), (oA 65 (.nilck (.t 60))), (oA 66 (.faddr 1 (.t 65))), (oN (.store 1 (.t 66) (.t 64)))] []))))) }
theorem t25 : compF Tryz.prog (globs2 tabs opq) (fun _ => false) true Tryz.f25 = some c25.erase := by kernel_rfl
noncomputable def b25_0 (O : Oracle) (R : Jump) (q : Nat) (x0 : TVal) (h : Heap) : Res1 :=
 R 1 [x0] h
theorem e25_0 (O : Oracle) (R : Jump) (q : Nat) (x0 : TVal) (h : Heap) : b25_0 O R q x0 h = stepF c25 O R q 0 [x0] h := by kernel_rfl
noncomputable def b25_1 (O : Oracle) (R : Jump) (q : Nat) (x0 : TVal) (h : Heap) : Res1 :=
 vop O (.nilck (.k x0)) h 3 fun x3 h =>
 vfaddr 1 x3 h fun x4 h =>
 vload false 1 x4 h fun x5 h =>
 vop O (.nilck (.k x0)) h 7 fun x7 h =>
 vfaddr 0 x7 h fun x8 h =>
 vload false 1 x8 h fun x9 h =>
 vlen O 0 x9 h 10 fun x10 h =>
 vbin .lss 0 x5 x10 h fun x11 h =>
 vguard x11 true (fun kk => kk x0 h) h fun x13 h =>
 vguard x11 true (fun kk => vop O (.nilck (.k x13)) h 14 kk) h fun x14 h =>
 vguard x11 true (fun kk => vfaddr 0 x14 h kk) h fun x15 h =>
 vguard x11 true (fun kk => vload false 1 x15 h kk) h fun x16 h =>
 vguard x11 true (fun kk => kk x0 h) h fun x17 h =>
 vguard x11 true (fun kk => vop O (.nilck (.k x17)) h 18 kk) h fun x18 h =>
 vguard x11 true (fun kk => vfaddr 1 x18 h kk) h fun x19 h =>
 vguard x11 true (fun kk => vload false 1 x19 h kk) h fun x20 h =>
 vguard x11 true (fun kk => vindex x16 x20 h kk) h fun x21 h =>
 vguard x11 true (fun kk => vbin .eql 0 x21 (.v (.c (.p (.int .u8 32)))) h kk) h fun x22 h =>
 vguard x11 true (fun kk => kk x22 h) h fun x23 h =>
 vguard x23 false (fun kk => kk x0 h) h fun x24 h =>
 vguard x23 false (fun kk => vop O (.nilck (.k x24)) h 25 kk) h fun x25 h =>
 vguard x23 false (fun kk => vfaddr 0 x25 h kk) h fun x26 h =>
 vguard x23 false (fun kk => vload false 1 x26 h kk) h fun x27 h =>
 vguard x23 false (fun kk => kk x0 h) h fun x28 h =>
 vguard x23 false (fun kk => vop O (.nilck (.k x28)) h 29 kk) h fun x29 h =>
 vguard x23 false (fun kk => vfaddr 1 x29 h kk) h fun x30 h =>
 vguard x23 false (fun kk => vload false 1 x30 h kk) h fun x31 h =>
 vguard x23 false (fun kk => vindex x27 x31 h kk) h fun x32 h =>
 vguard x23 false (fun kk => vbin .eql 0 x32 (.v (.c (.p (.int .u8 9)))) h kk) h fun x33 h =>
 vguard x11 true (fun kk => vop O (.pick (.k x23) (.k (kB true)) (.k x33)) h 34 kk) h fun x34 h =>
 vguard x11 true (fun kk => kk x34 h) h fun x35 h =>
 vguard x35 false (fun kk => kk x0 h) h fun x36 h =>
 vguard x35 false (fun kk => vop O (.nilck (.k x36)) h 37 kk) h fun x37 h =>
 vguard x35 false (fun kk => vfaddr 0 x37 h kk) h fun x38 h =>
 vguard x35 false (fun kk => vload false 1 x38 h kk) h fun x39 h =>
 vguard x35 false (fun kk => kk x0 h) h fun x40 h =>
 vguard x35 false (fun kk => vop O (.nilck (.k x40)) h 41 kk) h fun x41 h =>
 vguard x35 false (fun kk => vfaddr 1 x41 h kk) h fun x42 h =>
 vguard x35 false (fun kk => vload false 1 x42 h kk) h fun x43 h =>
 vguard x35 false (fun kk => vindex x39 x43 h kk) h fun x44 h =>
 vguard x35 false (fun kk => vbin .eql 0 x44 (.v (.c (.p (.int .u8 10)))) h kk) h fun x45 h =>
 vguard x11 true (fun kk => vop O (.pick (.k x35) (.k (kB true)) (.k x45)) h 46 kk) h fun x46 h =>
 vguard x11 true (fun kk => kk x46 h) h fun x47 h =>
 vguard x47 false (fun kk => kk x0 h) h fun x48 h =>
 vguard x47 false (fun kk => vop O (.nilck (.k x48)) h 49 kk) h fun x49 h =>
 vguard x47 false (fun kk => vfaddr 0 x49 h kk) h fun x50 h =>
 vguard x47 false (fun kk => vload false 1 x50 h kk) h fun x51 h =>
 vguard x47 false (fun kk => kk x0 h) h fun x52 h =>
 vguard x47 false (fun kk => vop O (.nilck (.k x52)) h 53 kk) h fun x53 h =>
 vguard x47 false (fun kk => vfaddr 1 x53 h kk) h fun x54 h =>
 vguard x47 false (fun kk => vload false 1 x54 h kk) h fun x55 h =>
 vguard x47 false (fun kk => vindex x51 x55 h kk) h fun x56 h =>
 vguard x47 false (fun kk => vbin .eql 0 x56 (.v (.c (.p (.int .u8 13)))) h kk) h fun x57 h =>
 vguard x11 true (fun kk => vop O (.pick (.k x47) (.k (kB true)) (.k x57)) h 58 kk) h fun x58 h =>
 vop O (.pick (.k x11) (.k x58) (.k (kB false))) h 59 fun x59 h =>
 vif x59 (
 vop O (.nilck (.k x0)) h 61 fun x61 h =>
 vfaddr 1 x61 h fun x62 h =>
 vload false 1 x62 h fun x63 h =>
 vbin .add 0 x63 (kI 1) h fun x64 h =>
 vop O (.nilck (.k x0)) h 65 fun x65 h =>
 vfaddr 1 x65 h fun x66 h =>
 vstore 1 x66 x64 h fun _ h =>
 R 1 [x0] h)
 (vfin true q [] h)
theorem e25_1 (O : Oracle) (R : Jump) (q : Nat) (x0 : TVal) (h : Heap) : b25_1 O R q x0 h = stepF c25 O R q 1 [x0] h := by kernel_rfl
noncomputable def d25 : BlkF := fun O R q => [.s fun y0 => .z fun h => b25_0 O R q y0 h, .s fun y0 => .z fun h => b25_1 O R q y0 h]
theorem o25 (O : Oracle) (R : Jump) (q : Nat) : HoldsAll c25 O R q 0 (d25 O R q) := ⟨fun y0 h => e25_0 O R q y0 h, fun y0 h => e25_1 O R q y0 h, trivial⟩
/- (*sprue/sprueref13.reader).fail -/
def c26 : MFunc := { np := 2, res := [], frz := true, body := (.seq (.reg [(oA 4 (.mv (.t 0))), (oA 5 (.nilck (.t 4))), (oA 6 (.faddr 2 (.t 5))), (oA 7 (.load false 1 (.t 6))), (oA 8 (.bin .eql 0 (.t 7) (.k (.v (.c (.p (.int .i64 0)))))))] []) (.cond (.t 8) (.reg [(oA 9 (.mv (.t 0))), (oA 10 (.mv (.t 1))), (oA 11 (.nilck (.t 9))), (oA 12 (.faddr 2 (.t 11))), (oN (.store 1 (.t 12) (.t 10)))] []) .skip)) }
theorem t26 : compF Tryz.prog (globs2 tabs opq) (fun _ => false) true Tryz.f26 = some c26.erase := by kernel_rfl
noncomputable def b26_0 (O : Oracle) (R : Jump) (q : Nat) (x0 x1 : TVal) (h : Heap) : Res1 :=
 vop O (.nilck (.k x0)) h 5 fun x5 h =>
 vfaddr 2 x5 h fun x6 h =>
 vload false 1 x6 h fun x7 h =>
 vbin .eql 0 x7 (kI 0) h fun x8 h =>
 vif x8 (
 vop O (.nilck (.k x0)) h 11 fun x11 h =>
 vfaddr 2 x11 h fun x12 h =>
 vstore 1 x12 x1 h fun _ h =>
 vfin true q [] h)
 (vfin true q [] h)
theorem e26_0 (O : Oracle) (R : Jump) (q : Nat) (x0 x1 : TVal) (h : Heap) : b26_0 O R q x0 x1 h = stepF c26 O R q 0 [x0, x1] h := by kernel_rfl
noncomputable def d26 : BlkF := fun O R q => [.s fun y0 => .s fun y1 => .z fun h => b26_0 O R q y0 y1 h]
theorem o26 (O : Oracle) (R : Jump) (q : Nat) : HoldsAll c26 O R q 0 (d26 O R q) := ⟨fun y0 y1 h => e26_0 O R q y0 y1 h, trivial⟩
/- sprue/sprueref13.Check -/
def c27 : MFunc := { np := 1, res := [.t 2], frz := true, body := (.seq (.reg [(oA 1 (.box (.t 0) false)), (oA 2 (.mv (.k (.v (.c (.p (.int .i64 0)))))))] []) (.seq (.reg [(oA 4 (.build [(.p (.int .i64 0))] [])), (oA 5 (.box (.t 4) false)), (oA 3 (.mv (.t 5)))] []) (.seq (.reg [(oA 6 (.mv (.t 3))), (oA 7 (.load true 6 (.t 1))), (oA 8 (.call (.k (.v (.c (.func 53 [])))) [(.t 6), (.t 7), (.k (.v (.c (.p (.int .i64 1)))))])), (oA 2 (.mv (.t 8)))] []) .ret))) }
theorem t27 : compF Tryz.prog (globs2 tabs opq) (fun _ => false) true Tryz.f27 = some c27.erase := by kernel_rfl
noncomputable def b27_0 (O : Oracle) (R : Jump) (q : Nat) (x0 : TVal) (h : Heap) : Res1 :=
 vop O (.box (.k x0) false) h 1 fun x1 h =>
 vop O (.build [(.p (.int .i64 0))] []) h 4 fun x4 h =>
 vop O (.box (.k x4) false) h 5 fun x5 h =>
 vload true 6 x1 h fun x7 h =>
 vcall O (.v (.c (.func 53 []))) [x5, x7, (kI 1)] h 8 fun x8 h =>
 tcomp x8 fun c0 => vfin true q [c0] h
theorem e27_0 (O : Oracle) (R : Jump) (q : Nat) (x0 : TVal) (h : Heap) : b27_0 O R q x0 h = stepF c27 O R q 0 [x0] h := by kernel_rfl
noncomputable def d27 : BlkF := fun O R q => [.s fun y0 => .z fun h => b27_0 O R q y0 h]
theorem o27 (O : Oracle) (R : Jump) (q : Nat) : HoldsAll c27 O R q 0 (d27 O R q) := ⟨fun y0 h => e27_0 O R q y0 h, trivial⟩
/- slices.Clone[[]sprue/api.Value,sprue/api.Value] -/
def c28 : MFunc := { np := 1, res := [.t 2], frz := false, body := (.seq (.reg [(oA 2 (.mv (.k (.v (.c (.p .nilslice))))))] []) (.seq (.seq (.reg [(oA 3 (.mv (.t 0))), (oA 4 (.bin .eql 2 (.t 3) (.k (.v (.c (.p .nilslice))))))] []) (.cond (.t 4) (.seq (.reg [(oA 2 (.mv (.k (.v (.c (.p .nilslice))))))] []) .ret) .skip)) (.seq (.reg [(oA 5 (.bslice 6 0 [(.p (.int .i64 0)), (.p (.bool false)), (.p (.int .i64 0)), (.p (.str [])), (.p .nilslice), (.p .nilslice)] [] true)), (oA 6 (.mv (.t 0))), (oA 7 (.append 6 88 true (.t 5) (.t 6))), (oA 2 (.mv (.t 7)))] []) .ret))) }
theorem t28 : compF Tryz.prog (globs2 tabs opq) (fun _ => true) false Tryz.f28 = some c28.erase := by kernel_rfl
noncomputable def b28_0 (O : Oracle) (R : Jump) (q : Nat) (x0 : TVal) (h : Heap) : Res1 :=
 vbin .eql 2 x0 (.v (.c (.p .nilslice))) h fun x4 h =>
 vif x4 (
 tcomp (.v (.c (.p .nilslice))) fun c0 => vfin false q [c0] h)
 (vop O (.bslice 6 0 [(.p (.int .i64 0)), (.p (.bool false)), (.p (.int .i64 0)), (.p (.str [])), (.p .nilslice), (.p .nilslice)] [] true) h 5 fun x5 h =>
 vop O (.append 6 88 true (.k x5) (.k x0)) h 7 fun x7 h =>
 tcomp x7 fun c0 => vfin false q [c0] h)
theorem e28_0 (O : Oracle) (R : Jump) (q : Nat) (x0 : TVal) (h : Heap) : b28_0 O R q x0 h = stepF c28 O R q 0 [x0] h := by kernel_rfl
noncomputable def d28 : BlkF := fun O R q => [.s fun y0 => .z fun h => b28_0 O R q y0 h]
theorem o28 (O : Oracle) (R : Jump) (q : Nat) : HoldsAll c28 O R q 0 (d28 O R q) := ⟨fun y0 h => e28_0 O R q y0 h, trivial⟩
/- sprue/calls.own -/
def c29 : MFunc := { np := 1, res := [.cell 2 true 6], frz := true, body := (.seq (.reg [(oA 1 (.box (.t 0) false)), (oA 2 (.alloc [(.p (.int .i64 0)), (.p (.bool false)), (.p (.int .i64 0)), (.p (.str [])), (.p .nilslice), (.p .nilslice)] false))] []) (.seq (.reg [(oA 6 (.bslice 1 1 [(.p (.str []))] [(0, (.k (.v (.c (.p (.str []))))))] false)), (oA 7 (.load true 6 (.t 1))), (oA 8 (.bslice 6 1 [(.p (.int .i64 0)), (.p (.bool false)), (.p (.int .i64 0)), (.p (.str [])), (.p .nilslice), (.p .nilslice)] [(0, (.t 7))] false)), (oA 9 (.build [(.p (.int .i64 0)), (.p (.bool false)), (.p (.int .i64 0)), (.p (.str [])), (.p .nilslice), (.p .nilslice)] [(0, 1, (.k (.v (.c (.p (.int .i64 5)))))), (4, 1, (.t 6)), (5, 1, (.t 8))])), (oA 10 (.call (.k (.v (.c (.func 54 [])))) [(.t 9), (.k (.v (.c (.p (.str [])))))])), (oA 5 (.mv (.t 10))), (oA 11 (.extract (.t 5) 0)), (oA 12 (.extract (.t 5) 1)), (oA 3 (.alloc [(.p (.int .i64 0)), (.p (.bool false)), (.p (.int .i64 0)), (.p (.str [])), (.p .nilslice), (.p .nilslice)] false)), (oN (.store 6 (.t 3) (.t 11))), (oA 4 (.mv (.t 12)))] []) (.seq (.reg [(oA 13 (.load true 6 (.t 3))), (oN (.store 6 (.t 2) (.t 13)))] []) .ret))) }
theorem t29 : compF Tryz.prog (globs2 tabs opq) (fun _ => false) true Tryz.f29 = some c29.erase := by kernel_rfl
noncomputable def b29_0 (O : Oracle) (R : Jump) (q : Nat) (x0 : TVal) (h : Heap) : Res1 :=
 vop O (.box (.k x0) false) h 1 fun x1 h =>
 vop O (.alloc [(.p (.int .i64 0)), (.p (.bool false)), (.p (.int .i64 0)), (.p (.str [])), (.p .nilslice), (.p .nilslice)] false) h 2 fun x2 h =>
 vop O (.bslice 1 1 [(.p (.str []))] [(0, (.k (kS [])))] false) h 6 fun x6 h =>
 vload true 6 x1 h fun x7 h =>
 vop O (.bslice 6 1 [(.p (.int .i64 0)), (.p (.bool false)), (.p (.int .i64 0)), (.p (.str [])), (.p .nilslice), (.p .nilslice)] [(0, (.k x7))] false) h 8 fun x8 h =>
 vop O (.build [(.p (.int .i64 0)), (.p (.bool false)), (.p (.int .i64 0)), (.p (.str [])), (.p .nilslice), (.p .nilslice)] [(0, 1, (.k (kI 5))), (4, 1, (.k x6)), (5, 1, (.k x8))]) h 9 fun x9 h =>
 vcall O (.v (.c (.func 54 []))) [x9, (kS [])] h 10 fun x10 h =>
 vext x10 0 h fun x11 h =>
 vext x10 1 h fun x12 h =>
 vop O (.alloc [(.p (.int .i64 0)), (.p (.bool false)), (.p (.int .i64 0)), (.p (.str [])), (.p .nilslice), (.p .nilslice)] false) h 3 fun x3 h =>
 vstore 6 x3 x11 h fun _ h =>
 vload true 6 x3 h fun x13 h =>
 vstore 6 x2 x13 h fun _ h =>
 vcell true 6 x2 h fun c0 => vfin true q [c0] h
theorem e29_0 (O : Oracle) (R : Jump) (q : Nat) (x0 : TVal) (h : Heap) : b29_0 O R q x0 h = stepF c29 O R q 0 [x0] h := by kernel_rfl
noncomputable def d29 : BlkF := fun O R q => [.s fun y0 => .z fun h => b29_0 O R q y0 h]
theorem o29 (O : Oracle) (R : Jump) (q : Nat) : HoldsAll c29 O R q 0 (d29 O R q) := ⟨fun y0 h => e29_0 O R q y0 h, trivial⟩
/- sprue/interp.bound -/
def c30 : MFunc := { np := 2, res := [.t 4], frz := true, body := (.seq (.reg [(oA 4 (.mv (.k (.v (.c (.p (.int .i64 0)))))))] []) (.seq (.reg [(oA 5 (.mv (.t 0))), (oA 6 (.minmax true [(.t 5), (.k (.v (.c (.p (.int .i64 0)))))])), (oA 7 (.mv (.t 1))), (oA 8 (.minmax false [(.t 6), (.t 7)])), (oA 4 (.mv (.t 8)))] []) .ret)) }
theorem t30 : compF Tryz.prog (globs2 tabs opq) (fun _ => false) true Tryz.f30 = some c30.erase := by kernel_rfl
noncomputable def b30_0 (O : Oracle) (R : Jump) (q : Nat) (x0 x1 : TVal) (h : Heap) : Res1 :=
 vop O (.minmax true [(.k x0), (.k (kI 0))]) h 6 fun x6 h =>
 vop O (.minmax false [(.k x6), (.k x1)]) h 8 fun x8 h =>
 tcomp x8 fun c0 => vfin true q [c0] h
theorem e30_0 (O : Oracle) (R : Jump) (q : Nat) (x0 x1 : TVal) (h : Heap) : b30_0 O R q x0 x1 h = stepF c30 O R q 0 [x0, x1] h := by kernel_rfl
noncomputable def d30 : BlkF := fun O R q => [.s fun y0 => .s fun y1 => .z fun h => b30_0 O R q y0 y1 h]
theorem o30 (O : Oracle) (R : Jump) (q : Nat) : HoldsAll c30 O R q 0 (d30 O R q) := ⟨fun y0 y1 h => e30_0 O R q y0 y1 h, trivial⟩
/- (*sprue/interp.run).row -/
def c31 : MFunc := { np := 3, res := [.t 6], frz := true, body := (.seq (.reg [(oA 4 (.box (.t 1) true)), (oA 6 (.mv (.k (.v (.c (.p (.int .i64 0)))))))] []) (.seq (.seq (.reg [(oA 12 (.mv (.t 2))), (oA 13 (.len 2 (.t 12))), (oA 14 (.mv (.k (.v (.c (.p (.int .i64 0)))))))] []) (.block 0 (.loop 1 [0, 4, 12, 13, 14] (.seq (.reg [(oA 15 (.bin .lss 0 (.t 14) (.t 13)))] []) (.seq (.cond (.t 15) .skip (.exit 0)) (.seq (.block 1 (.seq (.reg [(oA 16 (.iaddr 9 (.t 12) (.t 14))), (oA 17 (.load true 9 (.t 16))), (oA 8 (.alloc [(.p (.int .i64 0)), (.p (.int .i64 0)), (.p (.str [])), (.p (.str [])), (.p .nilslice), (.p .nilslice), (.p .nilslice), (.p (.bool false)), (.p .nilslice)] true)), (oN (.store 9 (.t 8) (.t 17)))] []) (.seq (.seq (.reg [(oA 18 (.mv (.t 0))), (oA 19 (.call (.k (.v (.c (.func 55 [])))) [(.t 18)])), (oA 9 (.mv (.t 19)))] []) (.seq (.reg [(oA 20 (.mv (.t 9))), (oA 21 (.bin .neq 0 (.t 20) (.k (.v (.c (.p (.int .i64 0)))))))] []) (.cond (.t 21) (.seq (.reg [(oA 22 (.mv (.t 9))), (oA 6 (.mv (.t 22)))] []) .ret) .skip))) (.seq (.reg [(oA 23 (.faddr 0 (.t 4))), (oA 24 (.load true 6 (.t 23))), (oA 10 (.alloc [(.p (.int .i64 0)), (.p (.bool false)), (.p (.int .i64 0)), (.p (.str [])), (.p .nilslice), (.p .nilslice)] true)), (oN (.store 6 (.t 10) (.t 24))), (oA 11 (.mv (.k (.v (.c (.p (.int .i64 0)))))))] []) (.seq (.block 2 (.seq (.block 5 (.block 4 (.seq (.block 3 (.seq (.seq (.seq (.reg [(oA 26 (.faddr 0 (.t 8))), (oA 27 (.load false 1 (.t 26))), (oA 28 (.bin .eql 0 (.t 27) (.k (.v (.c (.p (.int .i64 1))))))), (oA 25 (.mv (.t 28)))] []) (.cond (.t 25) (.exit 3) .skip)) (.seq (.reg [(oA 30 (.faddr 0 (.t 8))), (oA 31 (.load false 1 (.t 30))), (oA 32 (.bin .eql 0 (.t 31) (.k (.v (.c (.p (.int .i64 9))))))), (oA 33 (.mv (.t 32))), ⟨(some 34), (.faddr 4 (.t 8)), (some (33, true))⟩, ⟨(some 35), (.load false 1 (.t 34)), (some (33, true))⟩, ⟨(some 36), (.len 2 (.t 35)), (some (33, true))⟩, ⟨(some 37), (.bin .eql 0 (.t 36) (.k (.v (.c (.p (.int .i64 0)))))), (some (33, true))⟩, (oA 38 (.pick (.t 33) (.t 37) (.k (.v (.c (.p (.bool false))))))), (oA 29 (.mv (.t 38)))] []) (.cond (.t 29) (.exit 4) .skip))) (.exit 5))) (.seq (.reg [(oA 39 (.mv (.t 0))), (oA 40 (.faddr 2 (.t 8))), (oA 41 (.load false 1 (.t 40))), (oA 42 (.call (.k (.v (.c (.func 56 [])))) [(.t 39), (.t 41)])), (oA 11 (.mv (.t 42)))] []) (.exit 2))))) (.mark 2 [0, 4, 8, 10, 11, 12, 13, 14] (.seq (.seq (.seq (.reg [(oA 43 (.faddr 0 (.t 8))), (oA 44 (.load false 1 (.t 43))), (oA 45 (.bin .neq 0 (.t 44) (.k (.v (.c (.p (.int .i64 9))))))), (oA 46 (.mv (.t 45))), ⟨(some 47), (.faddr 4 (.t 8)), (some (46, false))⟩, ⟨(some 48), (.load false 1 (.t 47)), (some (46, false))⟩, ⟨(some 49), (.len 2 (.t 48)), (some (46, false))⟩, ⟨(some 50), (.bin .gtr 0 (.t 49) (.k (.v (.c (.p (.int .i64 0)))))), (some (46, false))⟩, (oA 51 (.pick (.t 46) (.k (.v (.c (.p (.bool true))))) (.t 50)))] []) (.cond (.t 51) (.reg [(oA 53 (.mv (.t 0))), (oA 54 (.load true 8 (.t 4))), (oA 55 (.faddr 4 (.t 8))), (oA 56 (.load false 1 (.t 55))), (oA 57 (.call (.k (.v (.c (.func 57 [])))) [(.t 53), (.t 54), (.t 56)])), (oA 52 (.mv (.t 57))), (oA 58 (.extract (.t 52) 0)), (oA 59 (.extract (.t 52) 1)), (oN (.store 6 (.t 10) (.t 58))), (oA 11 (.mv (.t 59)))] []) .skip)) (.mark 3 [0, 4, 8, 10, 11, 12, 13, 14] (.seq (.reg [(oA 60 (.mv (.t 11))), (oA 61 (.bin .eql 0 (.t 60) (.k (.v (.c (.p (.int .i64 0)))))))] []) (.cond (.t 61) (.reg [(oA 62 (.mv (.t 0))), (oA 63 (.load true 8 (.t 4))), (oA 64 (.load true 9 (.t 8))), (oA 65 (.load true 6 (.t 10))), (oA 66 (.call (.k (.v (.c (.func 58 [])))) [(.t 62), (.t 63), (.t 64), (.t 65)])), (oA 11 (.mv (.t 66)))] []) .skip)))) (.mark 4 [0, 4, 8, 10, 11, 12, 13, 14] (.exit 2)))))) (.mark 5 [0, 4, 8, 10, 11, 12, 13, 14] (.seq (.seq (.reg [(oA 67 (.mv (.t 11))), (oA 68 (.bin .neq 0 (.t 67) (.k (.v (.c (.p (.int .i64 0)))))))] []) (.cond (.t 68) (.seq (.reg [(oA 69 (.mv (.t 11))), (oA 6 (.mv (.t 69)))] []) .ret) .skip)) (.seq (.reg [(oA 70 (.faddr 0 (.t 8))), (oA 71 (.load false 1 (.t 70))), (oA 72 (.bin .eql 0 (.t 71) (.k (.v (.c (.p (.int .i64 3)))))))] []) (.cond (.t 72) (.reg [(oA 73 (.faddr 6 (.t 4))), (oA 74 (.load false 1 (.t 73))), (oA 75 (.call (.k (.v (.c (.func 59 [])))) [(.t 74)])), (oA 76 (.faddr 3 (.t 8))), (oA 77 (.load false 1 (.t 76))), (oA 78 (.load true 6 (.t 10))), (oA 79 (.build [(.p (.str [])), (.p (.int .i64 0)), (.p (.bool false)), (.p (.int .i64 0)), (.p (.str [])), (.p .nilslice), (.p .nilslice)] [(0, 1, (.t 77)), (1, 6, (.t 78))])), (oA 80 (.box (.t 79) true)), (oA 81 (.bslice 1 1 [(.p .nilptr)] [(0, (.t 80))] true)), (oA 82 (.append 1 8 true (.t 75) (.t 81))), (oA 83 (.faddr 6 (.t 4))), (oN (.store 1 (.t 83) (.t 82)))] [(2, 4), (2, 5), (1, 7), (2, 7), (1, 8), (2, 8)]) .skip))))))))) (.mark 6 [0, 4, 12, 13, 14] (.reg [(oA 84 (.bin .add 0 (.t 14) (.k (.v (.c (.p (.int .i64 1))))))), (oA 14 (.mv (.t 84)))] [])))))))) (.seq (.reg [(oA 6 (.mv (.k (.v (.c (.p (.int .i64 0)))))))] []) .ret))) }
theorem t31 : compF Tryz.prog (globs2 tabs opq) (fun _ => true) true Tryz.f31 = some c31.erase := by kernel_rfl
noncomputable def b31_0 (O : Oracle) (R : Jump) (q : Nat) (x0 x1 x2 : TVal) (h : Heap) : Res1 :=
 vop O (.box (.k x1) true) h 4 fun x4 h =>
 vlen O 2 x2 h 13 fun x13 h =>
 R 1 [x0, x4, x2, x13, (kI 0)] h
theorem e31_0 (O : Oracle) (R : Jump) (q : Nat) (x0 x1 x2 : TVal) (h : Heap) : b31_0 O R q x0 x1 x2 h = stepF c31 O R q 0 [x0, x1, x2] h := by kernel_rfl
noncomputable def b31_1 (O : Oracle) (R : Jump) (q : Nat) (x0 x4 x12 x13 x14 : TVal) (h : Heap) : Res1 :=
 vbin .lss 0 x14 x13 h fun x15 h =>
 vif x15 (
 viaddr 9 x12 x14 h fun x16 h =>
 vload true 9 x16 h fun x17 h =>
 vop O (.alloc [(.p (.int .i64 0)), (.p (.int .i64 0)), (.p (.str [])), (.p (.str [])), (.p .nilslice), (.p .nilslice), (.p .nilslice), (.p (.bool false)), (.p .nilslice)] true) h 8 fun x8 h =>
 vstore 9 x8 x17 h fun _ h =>
 vcall O (.v (.c (.func 55 []))) [x0] h 19 fun x19 h =>
 vbin .neq 0 x19 (kI 0) h fun x21 h =>
 vif x21 (
 tcomp x19 fun c0 => vfin true q [c0] h)
 (vfaddr 0 x4 h fun x23 h =>
 vload true 6 x23 h fun x24 h =>
 vop O (.alloc [(.p (.int .i64 0)), (.p (.bool false)), (.p (.int .i64 0)), (.p (.str [])), (.p .nilslice), (.p .nilslice)] true) h 10 fun x10 h =>
 vstore 6 x10 x24 h fun _ h =>
 vfaddr 0 x8 h fun x26 h =>
 vload false 1 x26 h fun x27 h =>
 vbin .eql 0 x27 (kI 1) h fun x28 h =>
 vif x28 (
 vfaddr 2 x8 h fun x40 h =>
 vload false 1 x40 h fun x41 h =>
 vcall O (.v (.c (.func 56 []))) [x0, x41] h 42 fun x42 h =>
 R 5 [x0, x4, x8, x10, x42, x12, x13, x14] h)
 (vfaddr 0 x8 h fun x30 h =>
 vload false 1 x30 h fun x31 h =>
 vbin .eql 0 x31 (kI 9) h fun x32 h =>
 vguard x32 true (fun kk => vfaddr 4 x8 h kk) h fun x34 h =>
 vguard x32 true (fun kk => vload false 1 x34 h kk) h fun x35 h =>
 vguard x32 true (fun kk => vlen O 2 x35 h 36 kk) h fun x36 h =>
 vguard x32 true (fun kk => vbin .eql 0 x36 (kI 0) h kk) h fun x37 h =>
 vop O (.pick (.k x32) (.k x37) (.k (kB false))) h 38 fun x38 h =>
 vif x38 (
 R 2 [x0, x4, x8, x10, (kI 0), x12, x13, x14] h)
 (R 2 [x0, x4, x8, x10, (kI 0), x12, x13, x14] h))))
 (tcomp (kI 0) fun c0 => vfin true q [c0] h)
theorem e31_1 (O : Oracle) (R : Jump) (q : Nat) (x0 x4 x12 x13 x14 : TVal) (h : Heap) : b31_1 O R q x0 x4 x12 x13 x14 h = stepF c31 O R q 1 [x0, x4, x12, x13, x14] h := by kernel_rfl
noncomputable def b31_2 (O : Oracle) (R : Jump) (q : Nat) (x0 x4 x8 x10 x11 x12 x13 x14 : TVal) (h : Heap) : Res1 :=
 vfaddr 0 x8 h fun x43 h =>
 vload false 1 x43 h fun x44 h =>
 vbin .neq 0 x44 (kI 9) h fun x45 h =>
 vguard x45 false (fun kk => vfaddr 4 x8 h kk) h fun x47 h =>
 vguard x45 false (fun kk => vload false 1 x47 h kk) h fun x48 h =>
 vguard x45 false (fun kk => vlen O 2 x48 h 49 kk) h fun x49 h =>
 vguard x45 false (fun kk => vbin .gtr 0 x49 (kI 0) h kk) h fun x50 h =>
 vop O (.pick (.k x45) (.k (kB true)) (.k x50)) h 51 fun x51 h =>
 vif x51 (
 vload true 8 x4 h fun x54 h =>
 vfaddr 4 x8 h fun x55 h =>
 vload false 1 x55 h fun x56 h =>
 vcall O (.v (.c (.func 57 []))) [x0, x54, x56] h 57 fun x57 h =>
 vext x57 0 h fun x58 h =>
 vext x57 1 h fun x59 h =>
 vstore 6 x10 x58 h fun _ h =>
 R 3 [x0, x4, x8, x10, x59, x12, x13, x14] h)
 (R 3 [x0, x4, x8, x10, x11, x12, x13, x14] h)
theorem e31_2 (O : Oracle) (R : Jump) (q : Nat) (x0 x4 x8 x10 x11 x12 x13 x14 : TVal) (h : Heap) : b31_2 O R q x0 x4 x8 x10 x11 x12 x13 x14 h = stepF c31 O R q 2 [x0, x4, x8, x10, x11, x12, x13, x14] h := by kernel_rfl
noncomputable def b31_3 (O : Oracle) (R : Jump) (q : Nat) (x0 x4 x8 x10 x11 x12 x13 x14 : TVal) (h : Heap) : Res1 :=
 vbin .eql 0 x11 (kI 0) h fun x61 h =>
 vif x61 (
 vload true 8 x4 h fun x63 h =>
 vload true 9 x8 h fun x64 h =>
 vload true 6 x10 h fun x65 h =>
 vcall O (.v (.c (.func 58 []))) [x0, x63, x64, x65] h 66 fun x66 h =>
 R 4 [x0, x4, x8, x10, x66, x12, x13, x14] h)
 (R 4 [x0, x4, x8, x10, x11, x12, x13, x14] h)
theorem e31_3 (O : Oracle) (R : Jump) (q : Nat) (x0 x4 x8 x10 x11 x12 x13 x14 : TVal) (h : Heap) : b31_3 O R q x0 x4 x8 x10 x11 x12 x13 x14 h = stepF c31 O R q 3 [x0, x4, x8, x10, x11, x12, x13, x14] h := by kernel_rfl
noncomputable def b31_4 (O : Oracle) (R : Jump) (q : Nat) (x0 x4 x8 x10 x11 x12 x13 x14 : TVal) (h : Heap) : Res1 :=
 R 5 [x0, x4, x8, x10, x11, x12, x13, x14] h
theorem e31_4 (O : Oracle) (R : Jump) (q : Nat) (x0 x4 x8 x10 x11 x12 x13 x14 : TVal) (h : Heap) : b31_4 O R q x0 x4 x8 x10 x11 x12 x13 x14 h = stepF c31 O R q 4 [x0, x4, x8, x10, x11, x12, x13, x14] h := by kernel_rfl
noncomputable def b31_5 (O : Oracle) (R : Jump) (q : Nat) (x0 x4 x8 x10 x11 x12 x13 x14 : TVal) (h : Heap) : Res1 :=
 vbin .neq 0 x11 (kI 0) h fun x68 h =>
 vif x68 (
 tcomp x11 fun c0 => vfin true q [c0] h)
 (vfaddr 0 x8 h fun x70 h =>
 vload false 1 x70 h fun x71 h =>
 vbin .eql 0 x71 (kI 3) h fun x72 h =>
 vif x72 (
 vtouch O (.faddr 6 (.k x4)) h 73 fun x73 h t0 =>
 vtouch O (.load false 1 (.k x73)) h 74 fun x74 h t1 =>
 vtouch O (.call (.k (.v (.c (.func 59 [])))) [(.k x74)]) h 75 fun x75 h t2 =>
 vtouch O (.faddr 3 (.k x8)) h 76 fun x76 h t3 =>
 vtouch O (.load false 1 (.k x76)) h 77 fun x77 h t4 =>
 vtouch O (.load true 6 (.k x10)) h 78 fun x78 h t5 =>
 vtouch O (.build [(.p (.str [])), (.p (.int .i64 0)), (.p (.bool false)), (.p (.int .i64 0)), (.p (.str [])), (.p .nilslice), (.p .nilslice)] [(0, 1, (.k x77)), (1, 6, (.k x78))]) h 79 fun x79 h t6 =>
 vtouch O (.box (.k x79) true) h 80 fun x80 h t7 =>
 vtouch O (.bslice 1 1 [(.p .nilptr)] [(0, (.k x80))] true) h 81 fun x81 h t8 =>
 vtouch O (.append 1 8 true (.k x75) (.k x81)) h 82 fun x82 h t9 =>
 vtouch O (.faddr 6 (.k x4)) h 83 fun x83 h t10 =>
 vtouch O (.store 1 (.k x83) (.k x82)) h 1000000 fun _ h t11 =>
 bif apartAll [t0, t1, t2, t3, t4, t5, t6, t7, t8, t9, t10, t11] [(2, 4), (2, 5), (1, 7), (2, 7), (1, 8), (2, 8)] then
 R 6 [x0, x4, x12, x13, x14] h
 else none)
 (R 6 [x0, x4, x12, x13, x14] h))
theorem e31_5 (O : Oracle) (R : Jump) (q : Nat) (x0 x4 x8 x10 x11 x12 x13 x14 : TVal) (h : Heap) : b31_5 O R q x0 x4 x8 x10 x11 x12 x13 x14 h = stepF c31 O R q 5 [x0, x4, x8, x10, x11, x12, x13, x14] h := by kernel_rfl
noncomputable def b31_6 (O : Oracle) (R : Jump) (q : Nat) (x0 x4 x12 x13 x14 : TVal) (h : Heap) : Res1 :=
 vbin .add 0 x14 (kI 1) h fun x84 h =>
 R 1 [x0, x4, x12, x13, x84] h
theorem e31_6 (O : Oracle) (R : Jump) (q : Nat) (x0 x4 x12 x13 x14 : TVal) (h : Heap) : b31_6 O R q x0 x4 x12 x13 x14 h = stepF c31 O R q 6 [x0, x4, x12, x13, x14] h := by kernel_rfl
noncomputable def d31 : BlkF := fun O R q => [.s fun y0 => .s fun y1 => .s fun y2 => .z fun h => b31_0 O R q y0 y1 y2 h, .s fun y0 => .s fun y1 => .s fun y2 => .s fun y3 => .s fun y4 => .z fun h => b31_1 O R q y0 y1 y2 y3 y4 h, .s fun y0 => .s fun y1 => .s fun y2 => .s fun y3 => .s fun y4 => .s fun y5 => .s fun y6 => .s fun y7 => .z fun h => b31_2 O R q y0 y1 y2 y3 y4 y5 y6 y7 h, .s fun y0 => .s fun y1 => .s fun y2 => .s fun y3 => .s fun y4 => .s fun y5 => .s fun y6 => .s fun y7 => .z fun h => b31_3 O R q y0 y1 y2 y3 y4 y5 y6 y7 h, .s fun y0 => .s fun y1 => .s fun y2 => .s fun y3 => .s fun y4 => .s fun y5 => .s fun y6 => .s fun y7 => .z fun h => b31_4 O R q y0 y1 y2 y3 y4 y5 y6 y7 h, .s fun y0 => .s fun y1 => .s fun y2 => .s fun y3 => .s fun y4 => .s fun y5 => .s fun y6 => .s fun y7 => .z fun h => b31_5 O R q y0 y1 y2 y3 y4 y5 y6 y7 h, .s fun y0 => .s fun y1 => .s fun y2 => .s fun y3 => .s fun y4 => .z fun h => b31_6 O R q y0 y1 y2 y3 y4 h]
theorem o31 (O : Oracle) (R : Jump) (q : Nat) : HoldsAll c31 O R q 0 (d31 O R q) := ⟨fun y0 y1 y2 h => e31_0 O R q y0 y1 y2 h, fun y0 y1 y2 y3 y4 h => e31_1 O R q y0 y1 y2 y3 y4 h, fun y0 y1 y2 y3 y4 y5 y6 y7 h => e31_2 O R q y0 y1 y2 y3 y4 y5 y6 y7 h, fun y0 y1 y2 y3 y4 y5 y6 y7 h => e31_3 O R q y0 y1 y2 y3 y4 y5 y6 y7 h, fun y0 y1 y2 y3 y4 y5 y6 y7 h => e31_4 O R q y0 y1 y2 y3 y4 y5 y6 y7 h, fun y0 y1 y2 y3 y4 y5 y6 y7 h => e31_5 O R q y0 y1 y2 y3 y4 y5 y6 y7 h, fun y0 y1 y2 y3 y4 h => e31_6 O R q y0 y1 y2 y3 y4 h, trivial⟩
/- sprue/interp.own -/
def c32 : MFunc := { np := 1, res := [.cell 2 true 6], frz := true, body := (.seq (.reg [(oA 1 (.box (.t 0) false)), (oA 2 (.alloc [(.p (.int .i64 0)), (.p (.bool false)), (.p (.int .i64 0)), (.p (.str [])), (.p .nilslice), (.p .nilslice)] false))] []) (.seq (.reg [(oA 6 (.bslice 1 1 [(.p (.str []))] [(0, (.k (.v (.c (.p (.str []))))))] false)), (oA 7 (.load true 6 (.t 1))), (oA 8 (.bslice 6 1 [(.p (.int .i64 0)), (.p (.bool false)), (.p (.int .i64 0)), (.p (.str [])), (.p .nilslice), (.p .nilslice)] [(0, (.t 7))] false)), (oA 9 (.build [(.p (.int .i64 0)), (.p (.bool false)), (.p (.int .i64 0)), (.p (.str [])), (.p .nilslice), (.p .nilslice)] [(0, 1, (.k (.v (.c (.p (.int .i64 5)))))), (4, 1, (.t 6)), (5, 1, (.t 8))])), (oA 10 (.call (.k (.v (.c (.func 54 [])))) [(.t 9), (.k (.v (.c (.p (.str [])))))])), (oA 5 (.mv (.t 10))), (oA 11 (.extract (.t 5) 0)), (oA 12 (.extract (.t 5) 1)), (oA 3 (.alloc [(.p (.int .i64 0)), (.p (.bool false)), (.p (.int .i64 0)), (.p (.str [])), (.p .nilslice), (.p .nilslice)] false)), (oN (.store 6 (.t 3) (.t 11))), (oA 4 (.mv (.t 12)))] []) (.seq (.reg [(oA 13 (.load true 6 (.t 3))), (oN (.store 6 (.t 2) (.t 13)))] []) .ret))) }
theorem t32 : compF Tryz.prog (globs2 tabs opq) (fun _ => false) true Tryz.f32 = some c32.erase := by kernel_rfl
noncomputable def b32_0 (O : Oracle) (R : Jump) (q : Nat) (x0 : TVal) (h : Heap) : Res1 :=
 vop O (.box (.k x0) false) h 1 fun x1 h =>
 vop O (.alloc [(.p (.int .i64 0)), (.p (.bool false)), (.p (.int .i64 0)), (.p (.str [])), (.p .nilslice), (.p .nilslice)] false) h 2 fun x2 h =>
 vop O (.bslice 1 1 [(.p (.str []))] [(0, (.k (kS [])))] false) h 6 fun x6 h =>
 vload true 6 x1 h fun x7 h =>
 vop O (.bslice 6 1 [(.p (.int .i64 0)), (.p (.bool false)), (.p (.int .i64 0)), (.p (.str [])), (.p .nilslice), (.p .nilslice)] [(0, (.k x7))] false) h 8 fun x8 h =>
 vop O (.build [(.p (.int .i64 0)), (.p (.bool false)), (.p (.int .i64 0)), (.p (.str [])), (.p .nilslice), (.p .nilslice)] [(0, 1, (.k (kI 5))), (4, 1, (.k x6)), (5, 1, (.k x8))]) h 9 fun x9 h =>
 vcall O (.v (.c (.func 54 []))) [x9, (kS [])] h 10 fun x10 h =>
 vext x10 0 h fun x11 h =>
 vext x10 1 h fun x12 h =>
 vop O (.alloc [(.p (.int .i64 0)), (.p (.bool false)), (.p (.int .i64 0)), (.p (.str [])), (.p .nilslice), (.p .nilslice)] false) h 3 fun x3 h =>
 vstore 6 x3 x11 h fun _ h =>
 vload true 6 x3 h fun x13 h =>
 vstore 6 x2 x13 h fun _ h =>
 vcell true 6 x2 h fun c0 => vfin true q [c0] h
theorem e32_0 (O : Oracle) (R : Jump) (q : Nat) (x0 : TVal) (h : Heap) : b32_0 O R q x0 h = stepF c32 O R q 0 [x0] h := by kernel_rfl
noncomputable def d32 : BlkF := fun O R q => [.s fun y0 => .z fun h => b32_0 O R q y0 h]
theorem o32 (O : Oracle) (R : Jump) (q : Nat) : HoldsAll c32 O R q 0 (d32 O R q) := ⟨fun y0 h => e32_0 O R q y0 h, trivial⟩
/- sprue/sprueref2.end -/
def c35 : MFunc := { np := 2, res := [.t 4], frz := true, body := (.seq (.reg [(oA 4 (.mv (.k (.v (.c (.p (.int .i64 0)))))))] []) (.seq (.reg [(oA 5 (.mv (.k (.v (.c (.p (.bool false))))))), (oA 6 (.mv (.k (.v (.c (.p (.int .i64 0)))))))] []) (.seq (.block 0 (.loop 1 [0, 1, 5, 6] (.seq (.seq (.reg [(oA 8 (.mv (.t 1))), (oA 9 (.mv (.t 0))), (oA 10 (.len 0 (.t 9))), (oA 11 (.bin .lss 0 (.t 8) (.t 10)))] []) (.cond (.t 11) .skip (.exit 0))) (.block 1 (.seq (.reg [(oA 12 (.mv (.t 0))), (oA 13 (.mv (.t 1))), (oA 14 (.index (.t 12) (.t 13))), (oA 7 (.mv (.t 14)))] []) (.seq (.block 2 (.seq (.reg [(oA 23 (.mv (.t 5))), (oA 24 (.un .not (.t 23))), (oA 25 (.mv (.t 24))), ⟨(some 26), (.mv (.t 7)), (some (25, true))⟩, ⟨(some 27), (.bin .eql 0 (.t 26) (.k (.v (.c (.p (.int .u8 125)))))), (some (25, true))⟩, (oA 28 (.pick (.t 25) (.t 27) (.k (.v (.c (.p (.bool false))))))), (oA 29 (.mv (.t 28))), ⟨(some 30), (.mv (.t 1)), (some (29, true))⟩, ⟨(some 31), (.bin .add 0 (.t 30) (.k (.v (.c (.p (.int .i64 1)))))), (some (29, true))⟩, ⟨(some 32), (.mv (.t 0)), (some (29, true))⟩, ⟨(some 33), (.len 0 (.t 32)), (some (29, true))⟩, ⟨(some 34), (.bin .lss 0 (.t 31) (.t 33)), (some (29, true))⟩, (oA 35 (.pick (.t 29) (.t 34) (.k (.v (.c (.p (.bool false))))))), (oA 36 (.mv (.t 35))), ⟨(some 37), (.mv (.t 0)), (some (36, true))⟩, ⟨(some 38), (.mv (.t 1)), (some (36, true))⟩, ⟨(some 39), (.bin .add 0 (.t 38) (.k (.v (.c (.p (.int .i64 1)))))), (some (36, true))⟩, ⟨(some 40), (.index (.t 37) (.t 39)), (some (36, true))⟩, ⟨(some 41), (.bin .eql 0 (.t 40) (.k (.v (.c (.p (.int .u8 125)))))), (some (36, true))⟩, (oA 42 (.pick (.t 36) (.t 41) (.k (.v (.c (.p (.bool false))))))), (oA 22 (.mv (.t 42)))] []) (.cond (.t 22) (.seq (.reg [(oA 43 (.mv (.t 1))), (oA 4 (.mv (.t 43)))] []) .ret) (.seq (.reg [(oA 45 (.mv (.t 5))), (oA 46 (.un .not (.t 45))), (oA 44 (.mv (.t 46)))] []) (.cond (.t 44) (.seq (.reg [(oA 47 (.mv (.t 7))), (oA 48 (.bin .eql 0 (.t 47) (.k (.v (.c (.p (.int .u8 34))))))), (oA 5 (.mv (.t 48)))] []) (.reg [(oA 6 (.mv (.k (.v (.c (.p (.int .i64 0)))))))] [])) (.seq (.reg [(oA 50 (.mv (.t 7))), (oA 51 (.bin .eql 0 (.t 50) (.k (.v (.c (.p (.int .u8 92))))))), (oA 49 (.mv (.t 51)))] []) (.cond (.t 49) (.reg [(oA 52 (.mv (.t 6))), (oA 53 (.bin .add 0 (.t 52) (.k (.v (.c (.p (.int .i64 1))))))), (oA 6 (.mv (.t 53)))] []) (.seq (.reg [(oA 15 (.mv (.t 7))), (oA 16 (.bin .neq 0 (.t 15) (.k (.v (.c (.p (.int .u8 34))))))), (oA 17 (.mv (.t 16))), ⟨(some 18), (.mv (.t 6)), (some (17, false))⟩, ⟨(some 19), (.bin .rem 0 (.t 18) (.k (.v (.c (.p (.int .i64 2)))))), (some (17, false))⟩, ⟨(some 20), (.bin .eql 0 (.t 19) (.k (.v (.c (.p (.int .i64 1)))))), (some (17, false))⟩, (oA 21 (.pick (.t 17) (.k (.v (.c (.p (.bool true))))) (.t 20))), (oA 5 (.mv (.t 21)))] []) (.reg [(oA 6 (.mv (.k (.v (.c (.p (.int .i64 0)))))))] []))))))))) (.mark 2 [0, 1, 5, 6] (.reg [(oA 54 (.mv (.t 1))), (oA 55 (.bin .add 0 (.t 54) (.k (.v (.c (.p (.int .i64 1))))))), (oA 1 (.mv (.t 55)))] [])))))))) (.seq (.reg [(oA 4 (.mv (.k (.v (.c (.p (.int .i64 (-1))))))))] []) .ret)))) }
theorem t35 : compF Tryz.prog (globs2 tabs opq) (fun _ => false) true Tryz.f35 = some c35.erase := by kernel_rfl
noncomputable def b35_0 (O : Oracle) (R : Jump) (q : Nat) (x0 x1 : TVal) (h : Heap) : Res1 :=
 R 1 [x0, x1, (kB false), (kI 0)] h
theorem e35_0 (O : Oracle) (R : Jump) (q : Nat) (x0 x1 : TVal) (h : Heap) : b35_0 O R q x0 x1 h = stepF c35 O R q 0 [x0, x1] h := by kernel_rfl
noncomputable def b35_1 (O : Oracle) (R : Jump) (q : Nat) (x0 x1 x5 x6 : TVal) (h : Heap) : Res1 :=
 vlen O 0 x0 h 10 fun x10 h =>
 vbin .lss 0 x1 x10 h fun x11 h =>
 vif x11 (
 vindex x0 x1 h fun x14 h =>
 vop O (.un .not (.k x5)) h 24 fun x24 h =>
 vguard x24 true (fun kk => kk x14 h) h fun x26 h =>
 vguard x24 true (fun kk => vbin .eql 0 x26 (.v (.c (.p (.int .u8 125)))) h kk) h fun x27 h =>
 vop O (.pick (.k x24) (.k x27) (.k (kB false))) h 28 fun x28 h =>
 vguard x28 true (fun kk => kk x1 h) h fun x30 h =>
 vguard x28 true (fun kk => vbin .add 0 x30 (kI 1) h kk) h fun x31 h =>
 vguard x28 true (fun kk => kk x0 h) h fun x32 h =>
 vguard x28 true (fun kk => vlen O 0 x32 h 33 kk) h fun x33 h =>
 vguard x28 true (fun kk => vbin .lss 0 x31 x33 h kk) h fun x34 h =>
 vop O (.pick (.k x28) (.k x34) (.k (kB false))) h 35 fun x35 h =>
 vguard x35 true (fun kk => kk x0 h) h fun x37 h =>
 vguard x35 true (fun kk => kk x1 h) h fun x38 h =>
 vguard x35 true (fun kk => vbin .add 0 x38 (kI 1) h kk) h fun x39 h =>
 vguard x35 true (fun kk => vindex x37 x39 h kk) h fun x40 h =>
 vguard x35 true (fun kk => vbin .eql 0 x40 (.v (.c (.p (.int .u8 125)))) h kk) h fun x41 h =>
 vop O (.pick (.k x35) (.k x41) (.k (kB false))) h 42 fun x42 h =>
 vif x42 (
 tcomp x1 fun c0 => vfin true q [c0] h)
 (vop O (.un .not (.k x5)) h 46 fun x46 h =>
 vif x46 (
 vbin .eql 0 x14 (.v (.c (.p (.int .u8 34)))) h fun x48 h =>
 R 2 [x0, x1, x48, (kI 0)] h)
 (vbin .eql 0 x14 (.v (.c (.p (.int .u8 92)))) h fun x51 h =>
 vif x51 (
 vbin .add 0 x6 (kI 1) h fun x53 h =>
 R 2 [x0, x1, x5, x53] h)
 (vbin .neq 0 x14 (.v (.c (.p (.int .u8 34)))) h fun x16 h =>
 vguard x16 false (fun kk => kk x6 h) h fun x18 h =>
 vguard x16 false (fun kk => vbin .rem 0 x18 (kI 2) h kk) h fun x19 h =>
 vguard x16 false (fun kk => vbin .eql 0 x19 (kI 1) h kk) h fun x20 h =>
 vop O (.pick (.k x16) (.k (kB true)) (.k x20)) h 21 fun x21 h =>
 R 2 [x0, x1, x21, (kI 0)] h))))
 (tcomp (kI (-1)) fun c0 => vfin true q [c0] h)
theorem e35_1 (O : Oracle) (R : Jump) (q : Nat) (x0 x1 x5 x6 : TVal) (h : Heap) : b35_1 O R q x0 x1 x5 x6 h = stepF c35 O R q 1 [x0, x1, x5, x6] h := by kernel_rfl
noncomputable def b35_2 (O : Oracle) (R : Jump) (q : Nat) (x0 x1 x5 x6 : TVal) (h : Heap) : Res1 :=
 vbin .add 0 x1 (kI 1) h fun x55 h =>
 R 1 [x0, x55, x5, x6] h
theorem e35_2 (O : Oracle) (R : Jump) (q : Nat) (x0 x1 x5 x6 : TVal) (h : Heap) : b35_2 O R q x0 x1 x5 x6 h = stepF c35 O R q 2 [x0, x1, x5, x6] h := by kernel_rfl
noncomputable def d35 : BlkF := fun O R q => [.s fun y0 => .s fun y1 => .z fun h => b35_0 O R q y0 y1 h, .s fun y0 => .s fun y1 => .s fun y2 => .s fun y3 => .z fun h => b35_1 O R q y0 y1 y2 y3 h, .s fun y0 => .s fun y1 => .s fun y2 => .s fun y3 => .z fun h => b35_2 O R q y0 y1 y2 y3 h]
theorem o35 (O : Oracle) (R : Jump) (q : Nat) : HoldsAll c35 O R q 0 (d35 O R q) := ⟨fun y0 y1 h => e35_0 O R q y0 y1 h, fun y0 y1 y2 y3 h => e35_1 O R q y0 y1 y2 y3 h, fun y0 y1 y2 y3 h => e35_2 O R q y0 y1 y2 y3 h, trivial⟩
/- sprue/sprueref1.Tokens -/
def c36 : MFunc := { np := 1, res := [.t 2, .t 3], frz := true, body := (.seq (.reg [(oA 2 (.mv (.k (.v (.c (.p .nilslice)))))), (oA 3 (.mv (.k (.v (.c (.p (.int .i64 0)))))))] []) (.seq (.seq (.reg [(oA 9 (.mv (.t 0))), (oA 10 (.len 0 (.t 9))), (oA 11 (.bin .gtr 0 (.t 10) (.k (.v (.c (.p (.int .i64 1500)))))))] []) (.cond (.t 11) (.seq (.reg [(oA 2 (.mv (.k (.v (.c (.p .nilslice)))))), (oA 3 (.mv (.k (.v (.c (.p (.int .i64 4)))))))] []) .ret) .skip)) (.seq (.reg [(oA 4 (.mv (.k (.v (.c (.p .nilslice))))))] []) (.seq (.reg [(oA 5 (.mv (.k (.v (.c (.p (.int .i64 0)))))))] []) (.seq (.block 0 (.loop 1 [0, 4, 5] (.seq (.seq (.reg [(oA 12 (.mv (.t 5))), (oA 13 (.mv (.t 0))), (oA 14 (.len 0 (.t 13))), (oA 15 (.bin .lss 0 (.t 12) (.t 14)))] []) (.cond (.t 15) .skip (.exit 0))) (.block 1 (.seq (.seq (.reg [(oA 16 (.mv (.t 0))), (oA 17 (.mv (.t 5))), (oA 18 (.index (.t 16) (.t 17))), (oA 19 (.call (.k (.v (.c (.func 61 [])))) [(.t 18)]))] []) (.cond (.t 19) (.seq (.reg [(oA 20 (.mv (.t 5))), (oA 21 (.bin .add 0 (.t 20) (.k (.v (.c (.p (.int .i64 1))))))), (oA 5 (.mv (.t 21)))] []) (.exit 1)) .skip)) (.seq (.reg [(oA 23 (.mv (.t 0))), (oA 24 (.mv (.t 5))), (oA 25 (.call (.k (.v (.c (.func 62 [])))) [(.t 23), (.t 24)])), (oA 22 (.mv (.t 25))), (oA 26 (.extract (.t 22) 0)), (oA 27 (.extract (.t 22) 1)), (oA 28 (.extract (.t 22) 2)), (oA 6 (.alloc [(.p (.int .i64 0)), (.p (.str [])), (.p (.int .i64 0)), (.p (.int .i64 0))] false)), (oN (.store 4 (.t 6) (.t 26))), (oA 7 (.mv (.t 27))), (oA 8 (.mv (.t 28)))] []) (.seq (.seq (.reg [(oA 29 (.mv (.t 8))), (oA 30 (.bin .neq 0 (.t 29) (.k (.v (.c (.p (.int .i64 0)))))))] []) (.cond (.t 30) (.seq (.reg [(oA 31 (.mv (.t 8))), (oA 2 (.mv (.k (.v (.c (.p .nilslice)))))), (oA 3 (.mv (.t 31)))] []) .ret) .skip)) (.seq (.reg [(oA 32 (.mv (.t 4))), (oA 33 (.load true 4 (.t 6))), (oA 34 (.bslice 4 1 [(.p (.int .i64 0)), (.p (.str [])), (.p (.int .i64 0)), (.p (.int .i64 0))] [(0, (.t 33))] false)), (oA 35 (.append 4 40 false (.t 32) (.t 34))), (oA 4 (.mv (.t 35)))] []) (.reg [(oA 36 (.mv (.t 7))), (oA 5 (.mv (.t 36)))] []))))))))) (.mark 2 [4] (.seq (.seq (.reg [(oA 37 (.mv (.t 4))), (oA 38 (.len 2 (.t 37))), (oA 39 (.bin .gtr 0 (.t 38) (.k (.v (.c (.p (.int .i64 400)))))))] []) (.cond (.t 39) (.seq (.reg [(oA 2 (.mv (.k (.v (.c (.p .nilslice)))))), (oA 3 (.mv (.k (.v (.c (.p (.int .i64 3)))))))] []) .ret) .skip)) (.seq (.reg [(oA 40 (.mv (.t 4))), (oA 2 (.mv (.t 40))), (oA 3 (.mv (.k (.v (.c (.p (.int .i64 0)))))))] []) .ret)))))))) }
theorem t36 : compF Tryz.prog (globs2 tabs opq) (fun _ => false) true Tryz.f36 = some c36.erase := by kernel_rfl
noncomputable def b36_0 (O : Oracle) (R : Jump) (q : Nat) (x0 : TVal) (h : Heap) : Res1 :=
 vlen O 0 x0 h 10 fun x10 h =>
 vbin .gtr 0 x10 (kI 1500) h fun x11 h =>
 vif x11 (
 tcomp (.v (.c (.p .nilslice))) fun c0 => tcomp (kI 4) fun c1 => vfin true q [c0, c1] h)
 (R 1 [x0, (.v (.c (.p .nilslice))), (kI 0)] h)
theorem e36_0 (O : Oracle) (R : Jump) (q : Nat) (x0 : TVal) (h : Heap) : b36_0 O R q x0 h = stepF c36 O R q 0 [x0] h := by kernel_rfl
noncomputable def b36_1 (O : Oracle) (R : Jump) (q : Nat) (x0 x4 x5 : TVal) (h : Heap) : Res1 :=
 vlen O 0 x0 h 14 fun x14 h =>
 vbin .lss 0 x5 x14 h fun x15 h =>
 vif x15 (
 vindex x0 x5 h fun x18 h =>
 vcall O (.v (.c (.func 61 []))) [x18] h 19 fun x19 h =>
 vif x19 (
 vbin .add 0 x5 (kI 1) h fun x21 h =>
 R 1 [x0, x4, x21] h)
 (vcall O (.v (.c (.func 62 []))) [x0, x5] h 25 fun x25 h =>
 vext x25 0 h fun x26 h =>
 vext x25 1 h fun x27 h =>
 vext x25 2 h fun x28 h =>
 vop O (.alloc [(.p (.int .i64 0)), (.p (.str [])), (.p (.int .i64 0)), (.p (.int .i64 0))] false) h 6 fun x6 h =>
 vstore 4 x6 x26 h fun _ h =>
 vbin .neq 0 x28 (kI 0) h fun x30 h =>
 vif x30 (
 tcomp (.v (.c (.p .nilslice))) fun c0 => tcomp x28 fun c1 => vfin true q [c0, c1] h)
 (vload true 4 x6 h fun x33 h =>
 vop O (.bslice 4 1 [(.p (.int .i64 0)), (.p (.str [])), (.p (.int .i64 0)), (.p (.int .i64 0))] [(0, (.k x33))] false) h 34 fun x34 h =>
 vop O (.append 4 40 false (.k x4) (.k x34)) h 35 fun x35 h =>
 R 1 [x0, x35, x27] h)))
 (R 2 [x4] h)
theorem e36_1 (O : Oracle) (R : Jump) (q : Nat) (x0 x4 x5 : TVal) (h : Heap) : b36_1 O R q x0 x4 x5 h = stepF c36 O R q 1 [x0, x4, x5] h := by kernel_rfl
noncomputable def b36_2 (O : Oracle) (R : Jump) (q : Nat) (x4 : TVal) (h : Heap) : Res1 :=
 vlen O 2 x4 h 38 fun x38 h =>
 vbin .gtr 0 x38 (kI 400) h fun x39 h =>
 vif x39 (
 tcomp (.v (.c (.p .nilslice))) fun c0 => tcomp (kI 3) fun c1 => vfin true q [c0, c1] h)
 (tcomp x4 fun c0 => tcomp (kI 0) fun c1 => vfin true q [c0, c1] h)
theorem e36_2 (O : Oracle) (R : Jump) (q : Nat) (x4 : TVal) (h : Heap) : b36_2 O R q x4 h = stepF c36 O R q 2 [x4] h := by kernel_rfl
noncomputable def d36 : BlkF := fun O R q => [.s fun y0 => .z fun h => b36_0 O R q y0 h, .s fun y0 => .s fun y1 => .s fun y2 => .z fun h => b36_1 O R q y0 y1 y2 h, .s fun y0 => .z fun h => b36_2 O R q y0 h]
theorem o36 (O : Oracle) (R : Jump) (q : Nat) : HoldsAll c36 O R q 0 (d36 O R q) := ⟨fun y0 h => e36_0 O R q y0 h, fun y0 y1 y2 h => e36_1 O R q y0 y1 y2 h, fun y0 h => e36_2 O R q y0 h, trivial⟩
/- (*sprue/sprueref7.reader).kind -/
def c37 : MFunc := { np := 2, res := [.t 4], frz := true, body := (.seq (.reg [(oA 4 (.mv (.k (.v (.c (.p (.bool false)))))))] []) (.seq (.reg [(oA 5 (.mv (.t 0))), (oA 6 (.nilck (.t 5))), (oA 7 (.faddr 2 (.t 6))), (oA 8 (.load false 1 (.t 7))), (oA 9 (.bin .eql 0 (.t 8) (.k (.v (.c (.p (.int .i64 0))))))), (oA 10 (.mv (.t 9))), ⟨(some 11), (.mv (.t 0)), (some (10, true))⟩, ⟨(some 12), (.nilck (.t 11)), (some (10, true))⟩, ⟨(some 13), (.faddr 1 (.t 12)), (some (10, true))⟩, ⟨(some 14), (.load false 1 (.t 13)), (some (10, true))⟩, ⟨(some 15), (.mv (.t 0)), (some (10, true))⟩, ⟨(some 16), (.nilck (.t 15)), (some (10, true))⟩, ⟨(some 17), (.faddr 0 (.t 16)), (some (10, true))⟩, ⟨(some 18), (.load false 1 (.t 17)), (some (10, true))⟩, ⟨(some 19), (.len 2 (.t 18)), (some (10, true))⟩, ⟨(some 20), (.bin .lss 0 (.t 14) (.t 19)), (some (10, true))⟩, (oA 21 (.pick (.t 10) (.t 20) (.k (.v (.c (.p (.bool false))))))), (oA 22 (.mv (.t 21))), ⟨(some 23), (.mv (.t 0)), (some (22, true))⟩, ⟨(some 24), (.nilck (.t 23)), (some (22, true))⟩, ⟨(some 25), (.faddr 0 (.t 24)), (some (22, true))⟩, ⟨(some 26), (.load false 1 (.t 25)), (some (22, true))⟩, ⟨(some 27), (.mv (.t 0)), (some (22, true))⟩, ⟨(some 28), (.nilck (.t 27)), (some (22, true))⟩, ⟨(some 29), (.faddr 1 (.t 28)), (some (22, true))⟩, ⟨(some 30), (.load false 1 (.t 29)), (some (22, true))⟩, ⟨(some 31), (.iaddr 4 (.t 26) (.t 30)), (some (22, true))⟩, ⟨(some 32), (.faddr 0 (.t 31)), (some (22, true))⟩, ⟨(some 33), (.load false 1 (.t 32)), (some (22, true))⟩, ⟨(some 34), (.mv (.t 1)), (some (22, true))⟩, ⟨(some 35), (.bin .eql 0 (.t 33) (.t 34)), (some (22, true))⟩, (oA 36 (.pick (.t 22) (.t 35) (.k (.v (.c (.p (.bool false))))))), (oA 4 (.mv (.t 36)))] []) .ret)) }
theorem t37 : compF Tryz.prog (globs2 tabs opq) (fun _ => false) true Tryz.f37 = some c37.erase := by kernel_rfl
noncomputable def b37_0 (O : Oracle) (R : Jump) (q : Nat) (x0 x1 : TVal) (h : Heap) : Res1 :=
 vop O (.nilck (.k x0)) h 6 fun x6 h =>
 vfaddr 2 x6 h fun x7 h =>
 vload false 1 x7 h fun x8 h =>
 vbin .eql 0 x8 (kI 0) h fun x9 h =>
 vguard x9 true (fun kk => kk x0 h) h fun x11 h =>
 vguard x9 true (fun kk => vop O (.nilck (.k x11)) h 12 kk) h fun x12 h =>
 vguard x9 true (fun kk => vfaddr 1 x12 h kk) h fun x13 h =>
 vguard x9 true (fun kk => vload false 1 x13 h kk) h fun x14 h =>
 vguard x9 true (fun kk => kk x0 h) h fun x15 h =>
 vguard x9 true (fun kk => vop O (.nilck (.k x15)) h 16 kk) h fun x16 h =>
 vguard x9 true (fun kk => vfaddr 0 x16 h kk) h fun x17 h =>
 vguard x9 true (fun kk => vload false 1 x17 h kk) h fun x18 h =>
 vguard x9 true (fun kk => vlen O 2 x18 h 19 kk) h fun x19 h =>
 vguard x9 true (fun kk => vbin .lss 0 x14 x19 h kk) h fun x20 h =>
 vop O (.pick (.k x9) (.k x20) (.k (kB false))) h 21 fun x21 h =>
 vguard x21 true (fun kk => kk x0 h) h fun x23 h =>
 vguard x21 true (fun kk => vop O (.nilck (.k x23)) h 24 kk) h fun x24 h =>
 vguard x21 true (fun kk => vfaddr 0 x24 h kk) h fun x25 h =>
 vguard x21 true (fun kk => vload false 1 x25 h kk) h fun x26 h =>
 vguard x21 true (fun kk => kk x0 h) h fun x27 h =>
 vguard x21 true (fun kk => vop O (.nilck (.k x27)) h 28 kk) h fun x28 h =>
 vguard x21 true (fun kk => vfaddr 1 x28 h kk) h fun x29 h =>
 vguard x21 true (fun kk => vload false 1 x29 h kk) h fun x30 h =>
 vguard x21 true (fun kk => viaddr 4 x26 x30 h kk) h fun x31 h =>
 vguard x21 true (fun kk => vfaddr 0 x31 h kk) h fun x32 h =>
 vguard x21 true (fun kk => vload false 1 x32 h kk) h fun x33 h =>
 vguard x21 true (fun kk => kk x1 h) h fun x34 h =>
 vguard x21 true (fun kk => vbin .eql 0 x33 x34 h kk) h fun x35 h =>
 vop O (.pick (.k x21) (.k x35) (.k (kB false))) h 36 fun x36 h =>
 tcomp x36 fun c0 => vfin true q [c0] h
theorem e37_0 (O : Oracle) (R : Jump) (q : Nat) (x0 x1 : TVal) (h : Heap) : b37_0 O R q x0 x1 h = stepF c37 O R q 0 [x0, x1] h := by kernel_rfl
noncomputable def d37 : BlkF := fun O R q => [.s fun y0 => .s fun y1 => .z fun h => b37_0 O R q y0 y1 h]
theorem o37 (O : Oracle) (R : Jump) (q : Nat) : HoldsAll c37 O R q 0 (d37 O R q) := ⟨fun y0 y1 h => e37_0 O R q y0 y1 h, trivial⟩
/- sprue/sprueref7.word -/
def c38 : MFunc := { np := 1, res := [.t 2], frz := true, body := (.seq (.reg [(oA 2 (.mv (.k (.v (.c (.p (.bool false)))))))] []) (.seq (.seq (.reg [(oA 3 (.mv (.t 0)))] []) (.block 0 (.seq (.seq (.reg [(oA 5 (.bin .eql 0 (.t 3) (.k (.v (.c (.p (.str [105, 102]))))))), (oA 4 (.mv (.t 5)))] []) (.cond (.t 4) .skip (.seq (.reg [(oA 6 (.bin .eql 0 (.t 3) (.k (.v (.c (.p (.str [119, 105, 116, 104]))))))), (oA 4 (.mv (.t 6)))] []) (.cond (.t 4) .skip (.seq (.reg [(oA 7 (.bin .eql 0 (.t 3) (.k (.v (.c (.p (.str [114, 97, 110, 103, 101]))))))), (oA 4 (.mv (.t 7)))] []) (.cond (.t 4) .skip (.seq (.reg [(oA 8 (.bin .eql 0 (.t 3) (.k (.v (.c (.p (.str [109, 97, 116, 99, 104]))))))), (oA 4 (.mv (.t 8)))] []) (.cond (.t 4) .skip (.seq (.reg [(oA 9 (.bin .eql 0 (.t 3) (.k (.v (.c (.p (.str [101, 108, 115, 101]))))))), (oA 4 (.mv (.t 9)))] []) (.cond (.t 4) .skip (.seq (.reg [(oA 10 (.bin .eql 0 (.t 3) (.k (.v (.c (.p (.str [101, 110, 100]))))))), (oA 4 (.mv (.t 10)))] []) (.cond (.t 4) .skip (.seq (.reg [(oA 11 (.bin .eql 0 (.t 3) (.k (.v (.c (.p (.str [99, 97, 115, 101]))))))), (oA 4 (.mv (.t 11)))] []) (.cond (.t 4) .skip (.seq (.reg [(oA 12 (.bin .eql 0 (.t 3) (.k (.v (.c (.p (.str [116, 101, 109, 112, 108, 97, 116, 101]))))))), (oA 4 (.mv (.t 12)))] []) (.cond (.t 4) .skip (.seq (.reg [(oA 13 (.bin .eql 0 (.t 3) (.k (.v (.c (.p (.str [100, 101, 102, 105, 110, 101]))))))), (oA 4 (.mv (.t 13)))] []) (.cond (.t 4) .skip (.seq (.reg [(oA 14 (.bin .eql 0 (.t 3) (.k (.v (.c (.p (.str [116, 114, 117, 101]))))))), (oA 4 (.mv (.t 14)))] []) (.cond (.t 4) .skip (.reg [(oA 15 (.bin .eql 0 (.t 3) (.k (.v (.c (.p (.str [102, 97, 108, 115, 101]))))))), (oA 4 (.mv (.t 15)))] []))))))))))))))))))))) (.mark 1 [4] (.cond (.t 4) (.seq (.reg [(oA 2 (.mv (.k (.v (.c (.p (.bool true)))))))] []) .ret) .skip))))) (.seq (.reg [(oA 2 (.mv (.k (.v (.c (.p (.bool false)))))))] []) .ret))) }
theorem t38 : compF Tryz.prog (globs2 tabs opq) (fun _ => false) true Tryz.f38 = some c38.erase := by kernel_rfl
noncomputable def b38_0 (O : Oracle) (R : Jump) (q : Nat) (x0 : TVal) (h : Heap) : Res1 :=
 vbin .eql 0 x0 (kS [105, 102]) h fun x5 h =>
 vif x5 (
 R 1 [x5] h)
 (vbin .eql 0 x0 (kS [119, 105, 116, 104]) h fun x6 h =>
 vif x6 (
 R 1 [x6] h)
 (vbin .eql 0 x0 (kS [114, 97, 110, 103, 101]) h fun x7 h =>
 vif x7 (
 R 1 [x7] h)
 (vbin .eql 0 x0 (kS [109, 97, 116, 99, 104]) h fun x8 h =>
 vif x8 (
 R 1 [x8] h)
 (vbin .eql 0 x0 (kS [101, 108, 115, 101]) h fun x9 h =>
 vif x9 (
 R 1 [x9] h)
 (vbin .eql 0 x0 (kS [101, 110, 100]) h fun x10 h =>
 vif x10 (
 R 1 [x10] h)
 (vbin .eql 0 x0 (kS [99, 97, 115, 101]) h fun x11 h =>
 vif x11 (
 R 1 [x11] h)
 (vbin .eql 0 x0 (kS [116, 101, 109, 112, 108, 97, 116, 101]) h fun x12 h =>
 vif x12 (
 R 1 [x12] h)
 (vbin .eql 0 x0 (kS [100, 101, 102, 105, 110, 101]) h fun x13 h =>
 vif x13 (
 R 1 [x13] h)
 (vbin .eql 0 x0 (kS [116, 114, 117, 101]) h fun x14 h =>
 vif x14 (
 R 1 [x14] h)
 (vbin .eql 0 x0 (kS [102, 97, 108, 115, 101]) h fun x15 h =>
 R 1 [x15] h))))))))))
theorem e38_0 (O : Oracle) (R : Jump) (q : Nat) (x0 : TVal) (h : Heap) : b38_0 O R q x0 h = stepF c38 O R q 0 [x0] h := by kernel_rfl
noncomputable def b38_1 (O : Oracle) (R : Jump) (q : Nat) (x4 : TVal) (h : Heap) : Res1 :=
 vif x4 (
 tcomp (kB true) fun c0 => vfin true q [c0] h)
 (tcomp (kB false) fun c0 => vfin true q [c0] h)
theorem e38_1 (O : Oracle) (R : Jump) (q : Nat) (x4 : TVal) (h : Heap) : b38_1 O R q x4 h = stepF c38 O R q 1 [x4] h := by kernel_rfl
noncomputable def d38 : BlkF := fun O R q => [.s fun y0 => .z fun h => b38_0 O R q y0 h, .s fun y0 => .z fun h => b38_1 O R q y0 h]
theorem o38 (O : Oracle) (R : Jump) (q : Nat) : HoldsAll c38 O R q 0 (d38 O R q) := ⟨fun y0 h => e38_0 O R q y0 h, fun y0 h => e38_1 O R q y0 h, trivial⟩
/- sprue/sprueref7.kind -/
def c39 : MFunc := { np := 1, res := [.t 2], frz := true, body := (.seq (.reg [(oA 2 (.mv (.k (.v (.c (.p (.int .i64 0)))))))] []) (.seq (.seq (.reg [(oA 3 (.mv (.t 0)))] []) (.block 0 (.seq (.reg [(oA 5 (.bin .eql 0 (.t 3) (.k (.v (.c (.p (.str [105, 102]))))))), (oA 4 (.mv (.t 5)))] []) (.cond (.t 4) (.seq (.reg [(oA 2 (.mv (.k (.v (.c (.p (.int .i64 5)))))))] []) .ret) (.seq (.reg [(oA 7 (.bin .eql 0 (.t 3) (.k (.v (.c (.p (.str [119, 105, 116, 104]))))))), (oA 6 (.mv (.t 7)))] []) (.cond (.t 6) (.seq (.reg [(oA 2 (.mv (.k (.v (.c (.p (.int .i64 6)))))))] []) .ret) (.seq (.reg [(oA 9 (.bin .eql 0 (.t 3) (.k (.v (.c (.p (.str [114, 97, 110, 103, 101]))))))), (oA 8 (.mv (.t 9)))] []) (.cond (.t 8) (.seq (.reg [(oA 2 (.mv (.k (.v (.c (.p (.int .i64 7)))))))] []) .ret) .skip)))))))) (.seq (.reg [(oA 2 (.mv (.k (.v (.c (.p (.int .i64 8)))))))] []) .ret))) }
theorem t39 : compF Tryz.prog (globs2 tabs opq) (fun _ => false) true Tryz.f39 = some c39.erase := by kernel_rfl
noncomputable def b39_0 (O : Oracle) (R : Jump) (q : Nat) (x0 : TVal) (h : Heap) : Res1 :=
 vbin .eql 0 x0 (kS [105, 102]) h fun x5 h =>
 vif x5 (
 tcomp (kI 5) fun c0 => vfin true q [c0] h)
 (vbin .eql 0 x0 (kS [119, 105, 116, 104]) h fun x7 h =>
 vif x7 (
 tcomp (kI 6) fun c0 => vfin true q [c0] h)
 (vbin .eql 0 x0 (kS [114, 97, 110, 103, 101]) h fun x9 h =>
 vif x9 (
 tcomp (kI 7) fun c0 => vfin true q [c0] h)
 (tcomp (kI 8) fun c0 => vfin true q [c0] h)))
theorem e39_0 (O : Oracle) (R : Jump) (q : Nat) (x0 : TVal) (h : Heap) : b39_0 O R q x0 h = stepF c39 O R q 0 [x0] h := by kernel_rfl
noncomputable def d39 : BlkF := fun O R q => [.s fun y0 => .z fun h => b39_0 O R q y0 h]
theorem o39 (O : Oracle) (R : Jump) (q : Nat) : HoldsAll c39 O R q 0 (d39 O R q) := ⟨fun y0 h => e39_0 O R q y0 h, trivial⟩
/- (*sprue/sprueref7.reader).pipe -/
def c40 : MFunc := { np := 2, res := [.t 4], frz := true, body := (.seq (.reg [(oA 4 (.mv (.k (.v (.c (.p .nilslice))))))] []) (.seq (.reg [(oA 6 (.mv (.t 0))), (oA 7 (.mv (.t 1))), (oA 8 (.call (.k (.v (.c (.func 63 [])))) [(.t 6), (.t 7)])), (oA 9 (.bslice 1 1 [(.p .nilslice)] [(0, (.t 8))] false)), (oA 5 (.mv (.t 9)))] []) (.seq (.block 0 (.loop 1 [0, 1, 5] (.seq (.seq (.reg [(oA 10 (.mv (.t 0))), (oA 11 (.call (.k (.v (.c (.func 42 [])))) [(.t 10), (.k (.v (.c (.p (.str [124])))))]))] []) (.cond (.t 11) .skip (.exit 0))) (.block 1 (.seq (.reg [(oA 12 (.mv (.t 0))), (oA 13 (.nilck (.t 12))), (oA 14 (.faddr 1 (.t 13))), (oA 15 (.load false 1 (.t 14))), (oA 16 (.bin .add 0 (.t 15) (.k (.v (.c (.p (.int .i64 1))))))), (oA 17 (.nilck (.t 12))), (oA 18 (.faddr 1 (.t 17))), (oN (.store 1 (.t 18) (.t 16)))] []) (.reg [(oA 19 (.mv (.t 5))), (oA 20 (.mv (.t 0))), (oA 21 (.mv (.t 1))), (oA 22 (.call (.k (.v (.c (.func 63 [])))) [(.t 20), (.t 21)])), (oA 23 (.bslice 1 1 [(.p .nilslice)] [(0, (.t 22))] false)), (oA 24 (.append 1 24 false (.t 19) (.t 23))), (oA 5 (.mv (.t 24)))] [])))))) (.seq (.reg [(oA 25 (.mv (.t 5))), (oA 4 (.mv (.t 25)))] []) .ret)))) }
theorem t40 : compF Tryz.prog (globs2 tabs opq) (fun _ => false) true Tryz.f40 = some c40.erase := by kernel_rfl
noncomputable def b40_0 (O : Oracle) (R : Jump) (q : Nat) (x0 x1 : TVal) (h : Heap) : Res1 :=
 vcall O (.v (.c (.func 63 []))) [x0, x1] h 8 fun x8 h =>
 vop O (.bslice 1 1 [(.p .nilslice)] [(0, (.k x8))] false) h 9 fun x9 h =>
 R 1 [x0, x1, x9] h
theorem e40_0 (O : Oracle) (R : Jump) (q : Nat) (x0 x1 : TVal) (h : Heap) : b40_0 O R q x0 x1 h = stepF c40 O R q 0 [x0, x1] h := by kernel_rfl
noncomputable def b40_1 (O : Oracle) (R : Jump) (q : Nat) (x0 x1 x5 : TVal) (h : Heap) : Res1 :=
 vcall O (.v (.c (.func 42 []))) [x0, (kS [124])] h 11 fun x11 h =>
 vif x11 (
 vop O (.nilck (.k x0)) h 13 fun x13 h =>
 vfaddr 1 x13 h fun x14 h =>
 vload false 1 x14 h fun x15 h =>
 vbin .add 0 x15 (kI 1) h fun x16 h =>
 vop O (.nilck (.k x0)) h 17 fun x17 h =>
 vfaddr 1 x17 h fun x18 h =>
 vstore 1 x18 x16 h fun _ h =>
 vcall O (.v (.c (.func 63 []))) [x0, x1] h 22 fun x22 h =>
 vop O (.bslice 1 1 [(.p .nilslice)] [(0, (.k x22))] false) h 23 fun x23 h =>
 vop O (.append 1 24 false (.k x5) (.k x23)) h 24 fun x24 h =>
 R 1 [x0, x1, x24] h)
 (tcomp x5 fun c0 => vfin true q [c0] h)
theorem e40_1 (O : Oracle) (R : Jump) (q : Nat) (x0 x1 x5 : TVal) (h : Heap) : b40_1 O R q x0 x1 x5 h = stepF c40 O R q 1 [x0, x1, x5] h := by kernel_rfl
noncomputable def d40 : BlkF := fun O R q => [.s fun y0 => .s fun y1 => .z fun h => b40_0 O R q y0 y1 h, .s fun y0 => .s fun y1 => .s fun y2 => .z fun h => b40_1 O R q y0 y1 y2 h]
theorem o40 (O : Oracle) (R : Jump) (q : Nat) : HoldsAll c40 O R q 0 (d40 O R q) := ⟨fun y0 y1 h => e40_0 O R q y0 y1 h, fun y0 y1 y2 h => e40_1 O R q y0 y1 y2 h, trivial⟩
/- (*sprue/sprueref7.reader).take -/
def c41 : MFunc := { np := 2, res := [.cell 4 true 4], frz := true, body := (.seq (.reg [(oA 4 (.alloc [(.p (.int .i64 0)), (.p (.str [])), (.p (.int .i64 0)), (.p (.int .i64 0))] false))] []) (.seq (.seq (.reg [(oA 5 (.mv (.t 0))), (oA 6 (.mv (.t 1))), (oA 7 (.call (.k (.v (.c (.func 37 [])))) [(.t 5), (.t 6)])), (oA 8 (.un .not (.t 7)))] []) (.cond (.t 8) (.seq (.reg [(oA 9 (.mv (.t 0))), (oA 10 (.call (.k (.v (.c (.func 64 [])))) [(.t 9), (.k (.v (.c (.p (.int .i64 12)))))]))] []) (.seq (.reg [(oA 11 (.build [(.p (.int .i64 0)), (.p (.str [])), (.p (.int .i64 0)), (.p (.int .i64 0))] [])), (oN (.store 4 (.t 4) (.t 11)))] []) .ret)) .skip)) (.seq (.reg [(oA 12 (.mv (.t 0))), (oA 13 (.nilck (.t 12))), (oA 14 (.faddr 1 (.t 13))), (oA 15 (.load false 1 (.t 14))), (oA 16 (.bin .add 0 (.t 15) (.k (.v (.c (.p (.int .i64 1))))))), (oA 17 (.nilck (.t 12))), (oA 18 (.faddr 1 (.t 17))), (oN (.store 1 (.t 18) (.t 16)))] []) (.seq (.reg [(oA 19 (.mv (.t 0))), (oA 20 (.nilck (.t 19))), (oA 21 (.faddr 0 (.t 20))), (oA 22 (.load false 1 (.t 21))), (oA 23 (.mv (.t 0))), (oA 24 (.nilck (.t 23))), (oA 25 (.faddr 1 (.t 24))), (oA 26 (.load false 1 (.t 25))), (oA 27 (.bin .sub 0 (.t 26) (.k (.v (.c (.p (.int .i64 1))))))), (oA 28 (.iaddr 4 (.t 22) (.t 27))), (oA 29 (.load true 4 (.t 28))), (oN (.store 4 (.t 4) (.t 29)))] []) .ret)))) }
theorem t41 : compF Tryz.prog (globs2 tabs opq) (fun _ => false) true Tryz.f41 = some c41.erase := by kernel_rfl
noncomputable def b41_0 (O : Oracle) (R : Jump) (q : Nat) (x0 x1 : TVal) (h : Heap) : Res1 :=
 vop O (.alloc [(.p (.int .i64 0)), (.p (.str [])), (.p (.int .i64 0)), (.p (.int .i64 0))] false) h 4 fun x4 h =>
 vcall O (.v (.c (.func 37 []))) [x0, x1] h 7 fun x7 h =>
 vop O (.un .not (.k x7)) h 8 fun x8 h =>
 vif x8 (
 vcall O (.v (.c (.func 64 []))) [x0, (kI 12)] h 10 fun x10 h =>
 vop O (.build [(.p (.int .i64 0)), (.p (.str [])), (.p (.int .i64 0)), (.p (.int .i64 0))] []) h 11 fun x11 h =>
 vstore 4 x4 x11 h fun _ h =>
 vcell true 4 x4 h fun c0 => vfin true q [c0] h)
 (vop O (.nilck (.k x0)) h 13 fun x13 h =>
 vfaddr 1 x13 h fun x14 h =>
 vload false 1 x14 h fun x15 h =>
 vbin .add 0 x15 (kI 1) h fun x16 h =>
 vop O (.nilck (.k x0)) h 17 fun x17 h =>
 vfaddr 1 x17 h fun x18 h =>
 vstore 1 x18 x16 h fun _ h =>
 vop O (.nilck (.k x0)) h 20 fun x20 h =>
 vfaddr 0 x20 h fun x21 h =>
 vload false 1 x21 h fun x22 h =>
 vop O (.nilck (.k x0)) h 24 fun x24 h =>
 vfaddr 1 x24 h fun x25 h =>
 vload false 1 x25 h fun x26 h =>
 vbin .sub 0 x26 (kI 1) h fun x27 h =>
 viaddr 4 x22 x27 h fun x28 h =>
 vload true 4 x28 h fun x29 h =>
 vstore 4 x4 x29 h fun _ h =>
 vcell true 4 x4 h fun c0 => vfin true q [c0] h)
theorem e41_0 (O : Oracle) (R : Jump) (q : Nat) (x0 x1 : TVal) (h : Heap) : b41_0 O R q x0 x1 h = stepF c41 O R q 0 [x0, x1] h := by kernel_rfl
noncomputable def d41 : BlkF := fun O R q => [.s fun y0 => .s fun y1 => .z fun h => b41_0 O R q y0 y1 h]
theorem o41 (O : Oracle) (R : Jump) (q : Nat) : HoldsAll c41 O R q 0 (d41 O R q) := ⟨fun y0 y1 h => e41_0 O R q y0 y1 h, trivial⟩
/- (*sprue/sprueref7.reader).sign -/
def c42 : MFunc := { np := 2, res := [.t 4], frz := true, body := (.seq (.reg [(oA 4 (.mv (.k (.v (.c (.p (.bool false)))))))] []) (.seq (.reg [(oA 5 (.mv (.t 0))), (oA 6 (.nilck (.t 5))), (oA 7 (.faddr 2 (.t 6))), (oA 8 (.load false 1 (.t 7))), (oA 9 (.bin .eql 0 (.t 8) (.k (.v (.c (.p (.int .i64 0))))))), (oA 10 (.mv (.t 9))), ⟨(some 11), (.mv (.t 0)), (some (10, true))⟩, ⟨(some 12), (.nilck (.t 11)), (some (10, true))⟩, ⟨(some 13), (.faddr 1 (.t 12)), (some (10, true))⟩, ⟨(some 14), (.load false 1 (.t 13)), (some (10, true))⟩, ⟨(some 15), (.mv (.t 0)), (some (10, true))⟩, ⟨(some 16), (.nilck (.t 15)), (some (10, true))⟩, ⟨(some 17), (.faddr 0 (.t 16)), (some (10, true))⟩, ⟨(some 18), (.load false 1 (.t 17)), (some (10, true))⟩, ⟨(some 19), (.len 2 (.t 18)), (some (10, true))⟩, ⟨(some 20), (.bin .lss 0 (.t 14) (.t 19)), (some (10, true))⟩, (oA 21 (.pick (.t 10) (.t 20) (.k (.v (.c (.p (.bool false))))))), (oA 22 (.mv (.t 21))), ⟨(some 23), (.mv (.t 0)), (some (22, true))⟩, ⟨(some 24), (.nilck (.t 23)), (some (22, true))⟩, ⟨(some 25), (.faddr 0 (.t 24)), (some (22, true))⟩, ⟨(some 26), (.load false 1 (.t 25)), (some (22, true))⟩, ⟨(some 27), (.mv (.t 0)), (some (22, true))⟩, ⟨(some 28), (.nilck (.t 27)), (some (22, true))⟩, ⟨(some 29), (.faddr 1 (.t 28)), (some (22, true))⟩, ⟨(some 30), (.load false 1 (.t 29)), (some (22, true))⟩, ⟨(some 31), (.iaddr 4 (.t 26) (.t 30)), (some (22, true))⟩, ⟨(some 32), (.faddr 0 (.t 31)), (some (22, true))⟩, ⟨(some 33), (.load false 1 (.t 32)), (some (22, true))⟩, ⟨(some 34), (.bin .eql 0 (.t 33) (.k (.v (.c (.p (.int .i64 4)))))), (some (22, true))⟩, (oA 35 (.pick (.t 22) (.t 34) (.k (.v (.c (.p (.bool false))))))), (oA 36 (.mv (.t 35))), ⟨(some 37), (.mv (.t 0)), (some (36, true))⟩, ⟨(some 38), (.nilck (.t 37)), (some (36, true))⟩, ⟨(some 39), (.faddr 0 (.t 38)), (some (36, true))⟩, ⟨(some 40), (.load false 1 (.t 39)), (some (36, true))⟩, ⟨(some 41), (.mv (.t 0)), (some (36, true))⟩, ⟨(some 42), (.nilck (.t 41)), (some (36, true))⟩, ⟨(some 43), (.faddr 1 (.t 42)), (some (36, true))⟩, ⟨(some 44), (.load false 1 (.t 43)), (some (36, true))⟩, ⟨(some 45), (.iaddr 4 (.t 40) (.t 44)), (some (36, true))⟩, ⟨(some 46), (.faddr 1 (.t 45)), (some (36, true))⟩, ⟨(some 47), (.load false 1 (.t 46)), (some (36, true))⟩, ⟨(some 48), (.mv (.t 1)), (some (36, true))⟩, ⟨(some 49), (.bin .eql 0 (.t 47) (.t 48)), (some (36, true))⟩, (oA 50 (.pick (.t 36) (.t 49) (.k (.v (.c (.p (.bool false))))))), (oA 4 (.mv (.t 50)))] []) .ret)) }
theorem t42 : compF Tryz.prog (globs2 tabs opq) (fun _ => false) true Tryz.f42 = some c42.erase := by kernel_rfl
noncomputable def b42_0 (O : Oracle) (R : Jump) (q : Nat) (x0 x1 : TVal) (h : Heap) : Res1 :=
 vop O (.nilck (.k x0)) h 6 fun x6 h =>
 vfaddr 2 x6 h fun x7 h =>
 vload false 1 x7 h fun x8 h =>
 vbin .eql 0 x8 (kI 0) h fun x9 h =>
 vguard x9 true (fun kk => kk x0 h) h fun x11 h =>
 vguard x9 true (fun kk => vop O (.nilck (.k x11)) h 12 kk) h fun x12 h =>
 vguard x9 true (fun kk => vfaddr 1 x12 h kk) h fun x13 h =>
 vguard x9 true (fun kk => vload false 1 x13 h kk) h fun x14 h =>
 vguard x9 true (fun kk => kk x0 h) h fun x15 h =>
 vguard x9 true (fun kk => vop O (.nilck (.k x15)) h 16 kk) h fun x16 h =>
 vguard x9 true (fun kk => vfaddr 0 x16 h kk) h fun x17 h =>
 vguard x9 true (fun kk => vload false 1 x17 h kk) h fun x18 h =>
 vguard x9 true (fun kk => vlen O 2 x18 h 19 kk) h fun x19 h =>
 vguard x9 true (fun kk => vbin .lss 0 x14 x19 h kk) h fun x20 h =>
 vop O (.pick (.k x9) (.k x20) (.k (kB false))) h 21 fun x21 h =>
 vguard x21 true (fun kk => kk x0 h) h fun x23 h =>
 vguard x21 true (fun kk => vop O (.nilck (.k x23)) h 24 kk) h fun x24 h =>
 vguard x21 true (fun kk => vfaddr 0 x24 h kk) h fun x25 h =>
 vguard x21 true (fun kk => vload false 1 x25 h kk) h fun x26 h =>
 vguard x21 true (fun kk => kk x0 h) h fun x27 h =>
 vguard x21 true (fun kk => vop O (.nilck (.k x27)) h 28 kk) h fun x28 h =>
 vguard x21 true (fun kk => vfaddr 1 x28 h kk) h fun x29 h =>
 vguard x21 true (fun kk => vload false 1 x29 h kk) h fun x30 h =>
 vguard x21 true (fun kk => viaddr 4 x26 x30 h kk) h fun x31 h =>
 vguard x21 true (fun kk => vfaddr 0 x31 h kk) h fun x32 h =>
 vguard x21 true (fun kk => vload false 1 x32 h kk) h fun x33 h =>
 vguard x21 true (fun kk => vbin .eql 0 x33 (kI 4) h kk) h fun x34 h =>
 vop O (.pick (.k x21) (.k x34) (.k (kB false))) h 35 fun x35 h =>
 vguard x35 true (fun kk => kk x0 h) h fun x37 h =>
 vguard x35 true (fun kk => vop O (.nilck (.k x37)) h 38 kk) h fun x38 h =>
 vguard x35 true (fun kk => vfaddr 0 x38 h kk) h fun x39 h =>
 vguard x35 true (fun kk => vload false 1 x39 h kk) h fun x40 h =>
 vguard x35 true (fun kk => kk x0 h) h fun x41 h =>
 vguard x35 true (fun kk => vop O (.nilck (.k x41)) h 42 kk) h fun x42 h =>
 vguard x35 true (fun kk => vfaddr 1 x42 h kk) h fun x43 h =>
 vguard x35 true (fun kk => vload false 1 x43 h kk) h fun x44 h =>
 vguard x35 true (fun kk => viaddr 4 x40 x44 h kk) h fun x45 h =>
 vguard x35 true (fun kk => vfaddr 1 x45 h kk) h fun x46 h =>
 vguard x35 true (fun kk => vload false 1 x46 h kk) h fun x47 h =>
 vguard x35 true (fun kk => kk x1 h) h fun x48 h =>
 vguard x35 true (fun kk => vbin .eql 0 x47 x48 h kk) h fun x49 h =>
 vop O (.pick (.k x35) (.k x49) (.k (kB false))) h 50 fun x50 h =>
 tcomp x50 fun c0 => vfin true q [c0] h
theorem e42_0 (O : Oracle) (R : Jump) (q : Nat) (x0 x1 : TVal) (h : Heap) : b42_0 O R q x0 x1 h = stepF c42 O R q 0 [x0, x1] h := by kernel_rfl
noncomputable def d42 : BlkF := fun O R q => [.s fun y0 => .s fun y1 => .z fun h => b42_0 O R q y0 y1 h]
theorem o42 (O : Oracle) (R : Jump) (q : Nat) : HoldsAll c42 O R q 0 (d42 O R q) := ⟨fun y0 y1 h => e42_0 O R q y0 y1 h, trivial⟩
/- (*sprue/sprueref7.reader).end -/
def c43 : MFunc := { np := 1, res := [.t 2], frz := true, body := (.seq (.reg [(oA 2 (.mv (.k (.v (.c (.p (.int .i64 0)))))))] []) (.seq (.seq (.reg [(oA 3 (.mv (.t 0))), (oA 4 (.nilck (.t 3))), (oA 5 (.faddr 1 (.t 4))), (oA 6 (.load false 1 (.t 5))), (oA 7 (.mv (.t 0))), (oA 8 (.nilck (.t 7))), (oA 9 (.faddr 0 (.t 8))), (oA 10 (.load false 1 (.t 9))), (oA 11 (.len 2 (.t 10))), (oA 12 (.bin .lss 0 (.t 6) (.t 11)))] []) (.cond (.t 12) (.reg [(oA 13 (.mv (.t 0))), (oA 14 (.call (.k (.v (.c (.func 64 [])))) [(.t 13), (.k (.v (.c (.p (.int .i64 12)))))]))] []) .skip)) (.mark 1 [0] (.seq (.reg [(oA 15 (.mv (.t 0))), (oA 16 (.nilck (.t 15))), (oA 17 (.faddr 2 (.t 16))), (oA 18 (.load false 1 (.t 17))), (oA 2 (.mv (.t 18)))] []) .ret)))) }
theorem t43 : compF Tryz.prog (globs2 tabs opq) (fun _ => false) true Tryz.f43 = some c43.erase := by kernel_rfl
noncomputable def b43_0 (O : Oracle) (R : Jump) (q : Nat) (x0 : TVal) (h : Heap) : Res1 :=
 vop O (.nilck (.k x0)) h 4 fun x4 h =>
 vfaddr 1 x4 h fun x5 h =>
 vload false 1 x5 h fun x6 h =>
 vop O (.nilck (.k x0)) h 8 fun x8 h =>
 vfaddr 0 x8 h fun x9 h =>
 vload false 1 x9 h fun x10 h =>
 vlen O 2 x10 h 11 fun x11 h =>
 vbin .lss 0 x6 x11 h fun x12 h =>
 vif x12 (
 vcall O (.v (.c (.func 64 []))) [x0, (kI 12)] h 14 fun x14 h =>
 R 1 [x0] h)
 (R 1 [x0] h)
theorem e43_0 (O : Oracle) (R : Jump) (q : Nat) (x0 : TVal) (h : Heap) : b43_0 O R q x0 h = stepF c43 O R q 0 [x0] h := by kernel_rfl
noncomputable def b43_1 (O : Oracle) (R : Jump) (q : Nat) (x0 : TVal) (h : Heap) : Res1 :=
 vop O (.nilck (.k x0)) h 16 fun x16 h =>
 vfaddr 2 x16 h fun x17 h =>
 vload false 1 x17 h fun x18 h =>
 tcomp x18 fun c0 => vfin true q [c0] h
theorem e43_1 (O : Oracle) (R : Jump) (q : Nat) (x0 : TVal) (h : Heap) : b43_1 O R q x0 h = stepF c43 O R q 1 [x0] h := by kernel_rfl
noncomputable def d43 : BlkF := fun O R q => [.s fun y0 => .z fun h => b43_0 O R q y0 h, .s fun y0 => .z fun h => b43_1 O R q y0 h]
theorem o43 (O : Oracle) (R : Jump) (q : Nat) : HoldsAll c43 O R q 0 (d43 O R q) := ⟨fun y0 h => e43_0 O R q y0 h, fun y0 h => e43_1 O R q y0 h, trivial⟩
/- (*sprue/sprueref7.parser).place -/
def c44 : MFunc := { np := 3, res := [.t 6], frz := true, body := (.seq (.reg [(oA 5 (.box (.t 2) true)), (oA 6 (.mv (.k (.v (.c (.p (.int .i64 0)))))))] []) (.seq (.seq (.reg [(oA 7 (.mv (.t 1)))] []) (.block 0 (.seq (.reg [(oA 9 (.bin .eql 0 (.t 7) (.k (.v (.c (.p (.str [109, 97, 116, 99, 104]))))))), (oA 8 (.mv (.t 9)))] []) (.cond (.t 8) (.seq (.reg [(oA 10 (.mv (.t 0))), (oA 11 (.mv (.t 1))), (oA 12 (.load true 9 (.t 5))), (oA 13 (.call (.k (.v (.c (.func 65 [])))) [(.t 10), (.t 11), (.t 12), (.k (.v (.c (.p (.int .i64 3))))), (.k (.v (.c (.p (.str [])))))])), (oA 6 (.mv (.t 13)))] []) .ret) (.seq (.seq (.reg [(oA 15 (.bin .eql 0 (.t 7) (.k (.v (.c (.p (.str [105, 102]))))))), (oA 14 (.mv (.t 15)))] []) (.cond (.t 14) .skip (.seq (.reg [(oA 16 (.bin .eql 0 (.t 7) (.k (.v (.c (.p (.str [119, 105, 116, 104]))))))), (oA 14 (.mv (.t 16)))] []) (.cond (.t 14) .skip (.reg [(oA 17 (.bin .eql 0 (.t 7) (.k (.v (.c (.p (.str [114, 97, 110, 103, 101]))))))), (oA 14 (.mv (.t 17)))] []))))) (.mark 1 [0, 1, 5, 7, 14] (.cond (.t 14) (.seq (.reg [(oA 18 (.mv (.t 0))), (oA 19 (.mv (.t 1))), (oA 20 (.load true 9 (.t 5))), (oA 21 (.call (.k (.v (.c (.func 65 [])))) [(.t 18), (.t 19), (.t 20), (.k (.v (.c (.p (.int .i64 0))))), (.k (.v (.c (.p (.str [])))))])), (oA 6 (.mv (.t 21)))] []) .ret) (.seq (.seq (.reg [(oA 23 (.bin .eql 0 (.t 7) (.k (.v (.c (.p (.str [101, 108, 115, 101]))))))), (oA 22 (.mv (.t 23)))] []) (.cond (.t 22) .skip (.reg [(oA 24 (.bin .eql 0 (.t 7) (.k (.v (.c (.p (.str [99, 97, 115, 101]))))))), (oA 22 (.mv (.t 24)))] []))) (.mark 2 [0, 1, 5, 7, 22] (.cond (.t 22) (.seq (.reg [(oA 25 (.mv (.t 0))), (oA 26 (.mv (.t 1))), (oA 27 (.faddr 3 (.t 5))), (oA 28 (.load false 1 (.t 27))), (oA 29 (.call (.k (.v (.c (.func 66 [])))) [(.t 25), (.t 26), (.t 28)])), (oA 6 (.mv (.t 29)))] []) .ret) (.seq (.reg [(oA 31 (.bin .eql 0 (.t 7) (.k (.v (.c (.p (.str [101, 110, 100]))))))), (oA 30 (.mv (.t 31)))] []) (.cond (.t 30) (.seq (.reg [(oA 32 (.mv (.t 0))), (oA 33 (.call (.k (.v (.c (.func 67 [])))) [(.t 32)])), (oA 6 (.mv (.t 33)))] []) .ret) (.seq (.reg [(oA 35 (.bin .eql 0 (.t 7) (.k (.v (.c (.p (.str [100, 101, 102, 105, 110, 101]))))))), (oA 34 (.mv (.t 35)))] []) (.cond (.t 34) (.seq (.reg [(oA 36 (.mv (.t 0))), (oA 37 (.faddr 3 (.t 5))), (oA 38 (.load false 1 (.t 37))), (oA 39 (.call (.k (.v (.c (.func 68 [])))) [(.t 36), (.t 38)])), (oA 6 (.mv (.t 39)))] []) .ret) (.seq (.reg [(oA 41 (.bin .eql 0 (.t 7) (.k (.v (.c (.p (.str [116, 101, 109, 112, 108, 97, 116, 101]))))))), (oA 40 (.mv (.t 41)))] []) (.cond (.t 40) (.seq (.seq (.reg [(oA 42 (.mv (.t 0))), (oA 43 (.nilck (.t 42))), (oA 44 (.faddr 0 (.t 43))), (oA 45 (.load false 1 (.t 44))), (oA 46 (.len 2 (.t 45))), (oA 47 (.bin .gtr 0 (.t 46) (.k (.v (.c (.p (.int .i64 0))))))), (oA 48 (.mv (.t 47))), ⟨(some 49), (.mv (.t 0)), (some (48, true))⟩, ⟨(some 50), (.nilck (.t 49)), (some (48, true))⟩, ⟨(some 51), (.faddr 0 (.t 50)), (some (48, true))⟩, ⟨(some 52), (.load false 1 (.t 51)), (some (48, true))⟩, ⟨(some 53), (.mv (.t 0)), (some (48, true))⟩, ⟨(some 54), (.nilck (.t 53)), (some (48, true))⟩, ⟨(some 55), (.faddr 0 (.t 54)), (some (48, true))⟩, ⟨(some 56), (.load false 1 (.t 55)), (some (48, true))⟩, ⟨(some 57), (.len 2 (.t 56)), (some (48, true))⟩, ⟨(some 58), (.bin .sub 0 (.t 57) (.k (.v (.c (.p (.int .i64 1)))))), (some (48, true))⟩, ⟨(some 59), (.iaddr 12 (.t 52) (.t 58)), (some (48, true))⟩, ⟨(some 60), (.faddr 10 (.t 59)), (some (48, true))⟩, ⟨(some 61), (.load false 1 (.t 60)), (some (48, true))⟩, ⟨(some 62), (.bin .eql 0 (.t 61) (.k (.v (.c (.p (.int .i64 3)))))), (some (48, true))⟩, (oA 63 (.pick (.t 48) (.t 62) (.k (.v (.c (.p (.bool false)))))))] []) (.cond (.t 63) (.seq (.reg [(oA 6 (.mv (.k (.v (.c (.p (.int .i64 12)))))))] []) .ret) .skip)) (.seq (.reg [(oA 64 (.faddr 3 (.t 5))), (oA 65 (.load false 1 (.t 64))), (oA 66 (.call (.k (.v (.c (.func 69 [])))) [(.t 65)])), (oA 67 (.un .not (.t 66)))] []) (.cond (.t 67) (.seq (.reg [(oA 6 (.mv (.k (.v (.c (.p (.int .i64 15)))))))] []) .ret) .skip))) .skip)))))))))))))))) (.mark 3 [0, 5] (.seq (.seq (.reg [(oA 68 (.mv (.t 0))), (oA 69 (.load true 9 (.t 5))), (oA 70 (.call (.k (.v (.c (.func 45 [])))) [(.t 68), (.t 69)])), (oA 71 (.un .not (.t 70)))] []) (.cond (.t 71) (.seq (.reg [(oA 6 (.mv (.k (.v (.c (.p (.int .i64 12)))))))] []) .ret) .skip)) (.seq (.reg [(oA 6 (.mv (.k (.v (.c (.p (.int .i64 0)))))))] []) .ret))))) }
theorem t44 : compF Tryz.prog (globs2 tabs opq) (fun _ => true) true Tryz.f44 = some c44.erase := by kernel_rfl
noncomputable def b44_0 (O : Oracle) (R : Jump) (q : Nat) (x0 x1 x2 : TVal) (h : Heap) : Res1 :=
 vop O (.box (.k x2) true) h 5 fun x5 h =>
 vbin .eql 0 x1 (kS [109, 97, 116, 99, 104]) h fun x9 h =>
 vif x9 (
 vload true 9 x5 h fun x12 h =>
 vcall O (.v (.c (.func 65 []))) [x0, x1, x12, (kI 3), (kS [])] h 13 fun x13 h =>
 tcomp x13 fun c0 => vfin true q [c0] h)
 (vbin .eql 0 x1 (kS [105, 102]) h fun x15 h =>
 vif x15 (
 R 1 [x0, x1, x5, x1, x15] h)
 (vbin .eql 0 x1 (kS [119, 105, 116, 104]) h fun x16 h =>
 vif x16 (
 R 1 [x0, x1, x5, x1, x16] h)
 (vbin .eql 0 x1 (kS [114, 97, 110, 103, 101]) h fun x17 h =>
 R 1 [x0, x1, x5, x1, x17] h)))
theorem e44_0 (O : Oracle) (R : Jump) (q : Nat) (x0 x1 x2 : TVal) (h : Heap) : b44_0 O R q x0 x1 x2 h = stepF c44 O R q 0 [x0, x1, x2] h := by kernel_rfl
noncomputable def b44_1 (O : Oracle) (R : Jump) (q : Nat) (x0 x1 x5 x7 x14 : TVal) (h : Heap) : Res1 :=
 vif x14 (
 vload true 9 x5 h fun x20 h =>
 vcall O (.v (.c (.func 65 []))) [x0, x1, x20, (kI 0), (kS [])] h 21 fun x21 h =>
 tcomp x21 fun c0 => vfin true q [c0] h)
 (vbin .eql 0 x7 (kS [101, 108, 115, 101]) h fun x23 h =>
 vif x23 (
 R 2 [x0, x1, x5, x7, x23] h)
 (vbin .eql 0 x7 (kS [99, 97, 115, 101]) h fun x24 h =>
 R 2 [x0, x1, x5, x7, x24] h))
theorem e44_1 (O : Oracle) (R : Jump) (q : Nat) (x0 x1 x5 x7 x14 : TVal) (h : Heap) : b44_1 O R q x0 x1 x5 x7 x14 h = stepF c44 O R q 1 [x0, x1, x5, x7, x14] h := by kernel_rfl
noncomputable def b44_2 (O : Oracle) (R : Jump) (q : Nat) (x0 x1 x5 x7 x22 : TVal) (h : Heap) : Res1 :=
 vif x22 (
 vfaddr 3 x5 h fun x27 h =>
 vload false 1 x27 h fun x28 h =>
 vcall O (.v (.c (.func 66 []))) [x0, x1, x28] h 29 fun x29 h =>
 tcomp x29 fun c0 => vfin true q [c0] h)
 (vbin .eql 0 x7 (kS [101, 110, 100]) h fun x31 h =>
 vif x31 (
 vcall O (.v (.c (.func 67 []))) [x0] h 33 fun x33 h =>
 tcomp x33 fun c0 => vfin true q [c0] h)
 (vbin .eql 0 x7 (kS [100, 101, 102, 105, 110, 101]) h fun x35 h =>
 vif x35 (
 vfaddr 3 x5 h fun x37 h =>
 vload false 1 x37 h fun x38 h =>
 vcall O (.v (.c (.func 68 []))) [x0, x38] h 39 fun x39 h =>
 tcomp x39 fun c0 => vfin true q [c0] h)
 (vbin .eql 0 x7 (kS [116, 101, 109, 112, 108, 97, 116, 101]) h fun x41 h =>
 vif x41 (
 vop O (.nilck (.k x0)) h 43 fun x43 h =>
 vfaddr 0 x43 h fun x44 h =>
 vload false 1 x44 h fun x45 h =>
 vlen O 2 x45 h 46 fun x46 h =>
 vbin .gtr 0 x46 (kI 0) h fun x47 h =>
 vguard x47 true (fun kk => kk x0 h) h fun x49 h =>
 vguard x47 true (fun kk => vop O (.nilck (.k x49)) h 50 kk) h fun x50 h =>
 vguard x47 true (fun kk => vfaddr 0 x50 h kk) h fun x51 h =>
 vguard x47 true (fun kk => vload false 1 x51 h kk) h fun x52 h =>
 vguard x47 true (fun kk => kk x0 h) h fun x53 h =>
 vguard x47 true (fun kk => vop O (.nilck (.k x53)) h 54 kk) h fun x54 h =>
 vguard x47 true (fun kk => vfaddr 0 x54 h kk) h fun x55 h =>
 vguard x47 true (fun kk => vload false 1 x55 h kk) h fun x56 h =>
 vguard x47 true (fun kk => vlen O 2 x56 h 57 kk) h fun x57 h =>
 vguard x47 true (fun kk => vbin .sub 0 x57 (kI 1) h kk) h fun x58 h =>
 vguard x47 true (fun kk => viaddr 12 x52 x58 h kk) h fun x59 h =>
 vguard x47 true (fun kk => vfaddr 10 x59 h kk) h fun x60 h =>
 vguard x47 true (fun kk => vload false 1 x60 h kk) h fun x61 h =>
 vguard x47 true (fun kk => vbin .eql 0 x61 (kI 3) h kk) h fun x62 h =>
 vop O (.pick (.k x47) (.k x62) (.k (kB false))) h 63 fun x63 h =>
 vif x63 (
 tcomp (kI 12) fun c0 => vfin true q [c0] h)
 (vfaddr 3 x5 h fun x64 h =>
 vload false 1 x64 h fun x65 h =>
 vcall O (.v (.c (.func 69 []))) [x65] h 66 fun x66 h =>
 vop O (.un .not (.k x66)) h 67 fun x67 h =>
 vif x67 (
 tcomp (kI 15) fun c0 => vfin true q [c0] h)
 (R 3 [x0, x5] h)))
 (R 3 [x0, x5] h))))
theorem e44_2 (O : Oracle) (R : Jump) (q : Nat) (x0 x1 x5 x7 x22 : TVal) (h : Heap) : b44_2 O R q x0 x1 x5 x7 x22 h = stepF c44 O R q 2 [x0, x1, x5, x7, x22] h := by kernel_rfl
noncomputable def b44_3 (O : Oracle) (R : Jump) (q : Nat) (x0 x5 : TVal) (h : Heap) : Res1 :=
 vload true 9 x5 h fun x69 h =>
 vcall O (.v (.c (.func 45 []))) [x0, x69] h 70 fun x70 h =>
 vop O (.un .not (.k x70)) h 71 fun x71 h =>
 vif x71 (
 tcomp (kI 12) fun c0 => vfin true q [c0] h)
 (tcomp (kI 0) fun c0 => vfin true q [c0] h)
theorem e44_3 (O : Oracle) (R : Jump) (q : Nat) (x0 x5 : TVal) (h : Heap) : b44_3 O R q x0 x5 h = stepF c44 O R q 3 [x0, x5] h := by kernel_rfl
noncomputable def d44 : BlkF := fun O R q => [.s fun y0 => .s fun y1 => .s fun y2 => .z fun h => b44_0 O R q y0 y1 y2 h, .s fun y0 => .s fun y1 => .s fun y2 => .s fun y3 => .s fun y4 => .z fun h => b44_1 O R q y0 y1 y2 y3 y4 h, .s fun y0 => .s fun y1 => .s fun y2 => .s fun y3 => .s fun y4 => .z fun h => b44_2 O R q y0 y1 y2 y3 y4 h, .s fun y0 => .s fun y1 => .z fun h => b44_3 O R q y0 y1 h]
theorem o44 (O : Oracle) (R : Jump) (q : Nat) : HoldsAll c44 O R q 0 (d44 O R q) := ⟨fun y0 y1 y2 h => e44_0 O R q y0 y1 y2 h, fun y0 y1 y2 y3 y4 h => e44_1 O R q y0 y1 y2 y3 y4 h, fun y0 y1 y2 y3 y4 h => e44_2 O R q y0 y1 y2 y3 y4 h, fun y0 y1 h => e44_3 O R q y0 y1 h, trivial⟩
end Go.Proofs.YtoaankpddboioaaGreatDoor.Ab
