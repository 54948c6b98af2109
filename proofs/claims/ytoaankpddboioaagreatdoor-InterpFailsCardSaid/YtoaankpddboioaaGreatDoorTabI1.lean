/- Functions of the given program as the abstract interpreter has them (part 1), printed by a program of our own; each is shown to be what 'compF' makes of the given program's. No condition. -/
import Derived.Test.YtoaankpddboioaaGreatDoorTabI0
namespace Go.Proofs.YtoaankpddboioaaGreatDoor.Ab
open Go Go.AI
set_option linter.all false
set_option linter.unusedVariables false
set_option maxRecDepth 100000
/- (*sprue/sprueref7.parser).put -/
def c45 : MFunc := { np := 2, res := [.t 4], frz := true, body := (.seq (.reg [(oA 3 (.box (.t 1) true)), (oA 4 (.mv (.k (.v (.c (.p (.bool false)))))))] []) (.seq (.seq (.reg [(oA 7 (.mv (.t 0))), (oA 8 (.nilck (.t 7))), (oA 9 (.faddr 0 (.t 8))), (oA 10 (.load false 1 (.t 9))), (oA 11 (.len 2 (.t 10))), (oA 12 (.bin .eql 0 (.t 11) (.k (.v (.c (.p (.int .i64 0)))))))] []) (.cond (.t 12) (.seq (.reg [(oA 13 (.mv (.t 0))), (oA 14 (.nilck (.t 13))), (oA 15 (.faddr 1 (.t 14))), (oA 16 (.load false 1 (.t 15))), (oA 17 (.load true 9 (.t 3))), (oA 18 (.len 2 (.t 16))), (oA 19 (.bslice 9 1 [(.p (.int .i64 0)), (.p (.int .i64 0)), (.p (.str [])), (.p (.str [])), (.p .nilslice), (.p .nilslice), (.p .nilslice), (.p (.bool false)), (.p .nilslice)] [(0, (.k (.v (.agg [(.p (.int .i64 0)), (.p (.int .i64 0)), (.p (.str [])), (.p (.str [])), (.p .nilslice), (.p .nilslice), (.p .nilslice), (.p (.bool false)), (.p .nilslice)]))))] true)), (oA 20 (.append 9 152 true (.t 16) (.t 19))), (oA 21 (.iaddr 9 (.t 20) (.t 18))), (oN (.store 9 (.t 21) (.t 17))), (oA 22 (.nilck (.t 13))), (oA 23 (.faddr 1 (.t 22))), (oN (.store 1 (.t 23) (.t 20)))] [(3, 6), (4, 6), (5, 6), (9, 12)]) (.seq (.reg [(oA 4 (.mv (.k (.v (.c (.p (.bool true)))))))] []) .ret)) .skip)) (.seq (.reg [(oA 24 (.mv (.t 0))), (oA 25 (.nilck (.t 24))), (oA 26 (.faddr 0 (.t 25))), (oA 27 (.load false 1 (.t 26))), (oA 28 (.mv (.t 0))), (oA 29 (.nilck (.t 28))), (oA 30 (.faddr 0 (.t 29))), (oA 31 (.load false 1 (.t 30))), (oA 32 (.len 2 (.t 31))), (oA 33 (.bin .sub 0 (.t 32) (.k (.v (.c (.p (.int .i64 1))))))), (oA 34 (.iaddr 12 (.t 27) (.t 33))), (oA 5 (.mv (.t 34)))] []) (.seq (.seq (.reg [(oA 35 (.mv (.t 5))), (oA 36 (.nilck (.t 35))), (oA 37 (.faddr 10 (.t 36))), (oA 38 (.load false 1 (.t 37)))] []) (.block 0 (.seq (.reg [(oA 40 (.bin .eql 0 (.t 38) (.k (.v (.c (.p (.int .i64 0))))))), (oA 39 (.mv (.t 40)))] []) (.cond (.t 39) (.reg [(oA 41 (.mv (.t 5))), (oA 42 (.nilck (.t 41))), (oA 43 (.faddr 1 (.t 42))), (oA 44 (.faddr 5 (.t 43))), (oA 45 (.load false 1 (.t 44))), (oA 46 (.load true 9 (.t 3))), (oA 47 (.len 2 (.t 45))), (oA 48 (.bslice 9 1 [(.p (.int .i64 0)), (.p (.int .i64 0)), (.p (.str [])), (.p (.str [])), (.p .nilslice), (.p .nilslice), (.p .nilslice), (.p (.bool false)), (.p .nilslice)] [(0, (.k (.v (.agg [(.p (.int .i64 0)), (.p (.int .i64 0)), (.p (.str [])), (.p (.str [])), (.p .nilslice), (.p .nilslice), (.p .nilslice), (.p (.bool false)), (.p .nilslice)]))))] true)), (oA 49 (.append 9 152 true (.t 45) (.t 48))), (oA 50 (.iaddr 9 (.t 49) (.t 47))), (oN (.store 9 (.t 50) (.t 46))), (oA 51 (.nilck (.t 41))), (oA 52 (.faddr 1 (.t 51))), (oA 53 (.faddr 5 (.t 52))), (oN (.store 1 (.t 53) (.t 49)))] [(4, 7), (5, 7), (6, 7), (10, 14)]) (.seq (.reg [(oA 55 (.bin .eql 0 (.t 38) (.k (.v (.c (.p (.int .i64 1))))))), (oA 54 (.mv (.t 55)))] []) (.cond (.t 54) (.reg [(oA 56 (.mv (.t 5))), (oA 57 (.nilck (.t 56))), (oA 58 (.faddr 1 (.t 57))), (oA 59 (.faddr 6 (.t 58))), (oA 60 (.load false 1 (.t 59))), (oA 61 (.load true 9 (.t 3))), (oA 62 (.len 2 (.t 60))), (oA 63 (.bslice 9 1 [(.p (.int .i64 0)), (.p (.int .i64 0)), (.p (.str [])), (.p (.str [])), (.p .nilslice), (.p .nilslice), (.p .nilslice), (.p (.bool false)), (.p .nilslice)] [(0, (.k (.v (.agg [(.p (.int .i64 0)), (.p (.int .i64 0)), (.p (.str [])), (.p (.str [])), (.p .nilslice), (.p .nilslice), (.p .nilslice), (.p (.bool false)), (.p .nilslice)]))))] true)), (oA 64 (.append 9 152 true (.t 60) (.t 63))), (oA 65 (.iaddr 9 (.t 64) (.t 62))), (oN (.store 9 (.t 65) (.t 61))), (oA 66 (.nilck (.t 56))), (oA 67 (.faddr 1 (.t 66))), (oA 68 (.faddr 6 (.t 67))), (oN (.store 1 (.t 68) (.t 64)))] [(4, 7), (5, 7), (6, 7), (10, 14)]) (.seq (.reg [(oA 70 (.bin .eql 0 (.t 38) (.k (.v (.c (.p (.int .i64 2))))))), (oA 69 (.mv (.t 70)))] []) (.cond (.t 69) (.seq (.reg [(oA 71 (.mv (.t 5))), (oA 72 (.nilck (.t 71))), (oA 73 (.faddr 1 (.t 72))), (oA 74 (.faddr 8 (.t 73))), (oA 75 (.load false 1 (.t 74))), (oA 76 (.mv (.t 5))), (oA 77 (.nilck (.t 76))), (oA 78 (.faddr 1 (.t 77))), (oA 79 (.faddr 8 (.t 78))), (oA 80 (.load false 1 (.t 79))), (oA 81 (.len 2 (.t 80))), (oA 82 (.bin .sub 0 (.t 81) (.k (.v (.c (.p (.int .i64 1))))))), (oA 83 (.iaddr 2 (.t 75) (.t 82))), (oA 6 (.mv (.t 83)))] []) (.reg [(oA 84 (.mv (.t 6))), (oA 85 (.nilck (.t 84))), (oA 86 (.faddr 1 (.t 85))), (oA 87 (.load false 1 (.t 86))), (oA 88 (.load true 9 (.t 3))), (oA 89 (.len 2 (.t 87))), (oA 90 (.bslice 9 1 [(.p (.int .i64 0)), (.p (.int .i64 0)), (.p (.str [])), (.p (.str [])), (.p .nilslice), (.p .nilslice), (.p .nilslice), (.p (.bool false)), (.p .nilslice)] [(0, (.k (.v (.agg [(.p (.int .i64 0)), (.p (.int .i64 0)), (.p (.str [])), (.p (.str [])), (.p .nilslice), (.p .nilslice), (.p .nilslice), (.p (.bool false)), (.p .nilslice)]))))] true)), (oA 91 (.append 9 152 true (.t 87) (.t 90))), (oA 92 (.iaddr 9 (.t 91) (.t 89))), (oN (.store 9 (.t 92) (.t 88))), (oA 93 (.nilck (.t 84))), (oA 94 (.faddr 1 (.t 93))), (oN (.store 1 (.t 94) (.t 91)))] [(3, 6), (4, 6), (5, 6), (9, 12)])) (.seq (.reg [(oA 4 (.mv (.k (.v (.c (.p (.bool false)))))))] []) .ret))))))))) (.seq (.reg [(oA 4 (.mv (.k (.v (.c (.p (.bool true)))))))] []) .ret))))) }
theorem t45 : compF Tryz.prog (globs2 tabs opq) (fun _ => true) true Tryz.f45 = some c45.erase := by kernel_rfl
noncomputable def b45_0 (O : Oracle) (R : Jump) (q : Nat) (x0 x1 : TVal) (h : Heap) : Res1 :=
 vop O (.box (.k x1) true) h 3 fun x3 h =>
 vop O (.nilck (.k x0)) h 8 fun x8 h =>
 vfaddr 0 x8 h fun x9 h =>
 vload false 1 x9 h fun x10 h =>
 vlen O 2 x10 h 11 fun x11 h =>
 vbin .eql 0 x11 (kI 0) h fun x12 h =>
 vif x12 (
 vtouch O (.mv (.k x0)) h 13 fun x13 h t0 =>
 vtouch O (.nilck (.k x13)) h 14 fun x14 h t1 =>
 vtouch O (.faddr 1 (.k x14)) h 15 fun x15 h t2 =>
 vtouch O (.load false 1 (.k x15)) h 16 fun x16 h t3 =>
 vtouch O (.load true 9 (.k x3)) h 17 fun x17 h t4 =>
 vtouch O (.len 2 (.k x16)) h 18 fun x18 h t5 =>
 vtouch O (.bslice 9 1 [(.p (.int .i64 0)), (.p (.int .i64 0)), (.p (.str [])), (.p (.str [])), (.p .nilslice), (.p .nilslice), (.p .nilslice), (.p (.bool false)), (.p .nilslice)] [(0, (.k (.v (.agg [(.p (.int .i64 0)), (.p (.int .i64 0)), (.p (.str [])), (.p (.str [])), (.p .nilslice), (.p .nilslice), (.p .nilslice), (.p (.bool false)), (.p .nilslice)]))))] true) h 19 fun x19 h t6 =>
 vtouch O (.append 9 152 true (.k x16) (.k x19)) h 20 fun x20 h t7 =>
 vtouch O (.iaddr 9 (.k x20) (.k x18)) h 21 fun x21 h t8 =>
 vtouch O (.store 9 (.k x21) (.k x17)) h 1000000 fun _ h t9 =>
 vtouch O (.nilck (.k x13)) h 22 fun x22 h t10 =>
 vtouch O (.faddr 1 (.k x22)) h 23 fun x23 h t11 =>
 vtouch O (.store 1 (.k x23) (.k x20)) h 1000000 fun _ h t12 =>
 bif apartAll [t0, t1, t2, t3, t4, t5, t6, t7, t8, t9, t10, t11, t12] [(3, 6), (4, 6), (5, 6), (9, 12)] then
 tcomp (kB true) fun c0 => vfin true q [c0] h
 else none)
 (vop O (.nilck (.k x0)) h 25 fun x25 h =>
 vfaddr 0 x25 h fun x26 h =>
 vload false 1 x26 h fun x27 h =>
 vop O (.nilck (.k x0)) h 29 fun x29 h =>
 vfaddr 0 x29 h fun x30 h =>
 vload false 1 x30 h fun x31 h =>
 vlen O 2 x31 h 32 fun x32 h =>
 vbin .sub 0 x32 (kI 1) h fun x33 h =>
 viaddr 12 x27 x33 h fun x34 h =>
 vop O (.nilck (.k x34)) h 36 fun x36 h =>
 vfaddr 10 x36 h fun x37 h =>
 vload false 1 x37 h fun x38 h =>
 vbin .eql 0 x38 (kI 0) h fun x40 h =>
 vif x40 (
 vtouch O (.mv (.k x34)) h 41 fun x41 h t0 =>
 vtouch O (.nilck (.k x41)) h 42 fun x42 h t1 =>
 vtouch O (.faddr 1 (.k x42)) h 43 fun x43 h t2 =>
 vtouch O (.faddr 5 (.k x43)) h 44 fun x44 h t3 =>
 vtouch O (.load false 1 (.k x44)) h 45 fun x45 h t4 =>
 vtouch O (.load true 9 (.k x3)) h 46 fun x46 h t5 =>
 vtouch O (.len 2 (.k x45)) h 47 fun x47 h t6 =>
 vtouch O (.bslice 9 1 [(.p (.int .i64 0)), (.p (.int .i64 0)), (.p (.str [])), (.p (.str [])), (.p .nilslice), (.p .nilslice), (.p .nilslice), (.p (.bool false)), (.p .nilslice)] [(0, (.k (.v (.agg [(.p (.int .i64 0)), (.p (.int .i64 0)), (.p (.str [])), (.p (.str [])), (.p .nilslice), (.p .nilslice), (.p .nilslice), (.p (.bool false)), (.p .nilslice)]))))] true) h 48 fun x48 h t7 =>
 vtouch O (.append 9 152 true (.k x45) (.k x48)) h 49 fun x49 h t8 =>
 vtouch O (.iaddr 9 (.k x49) (.k x47)) h 50 fun x50 h t9 =>
 vtouch O (.store 9 (.k x50) (.k x46)) h 1000000 fun _ h t10 =>
 vtouch O (.nilck (.k x41)) h 51 fun x51 h t11 =>
 vtouch O (.faddr 1 (.k x51)) h 52 fun x52 h t12 =>
 vtouch O (.faddr 5 (.k x52)) h 53 fun x53 h t13 =>
 vtouch O (.store 1 (.k x53) (.k x49)) h 1000000 fun _ h t14 =>
 bif apartAll [t0, t1, t2, t3, t4, t5, t6, t7, t8, t9, t10, t11, t12, t13, t14] [(4, 7), (5, 7), (6, 7), (10, 14)] then
 tcomp (kB true) fun c0 => vfin true q [c0] h
 else none)
 (vbin .eql 0 x38 (kI 1) h fun x55 h =>
 vif x55 (
 vtouch O (.mv (.k x34)) h 56 fun x56 h t0 =>
 vtouch O (.nilck (.k x56)) h 57 fun x57 h t1 =>
 vtouch O (.faddr 1 (.k x57)) h 58 fun x58 h t2 =>
 vtouch O (.faddr 6 (.k x58)) h 59 fun x59 h t3 =>
 vtouch O (.load false 1 (.k x59)) h 60 fun x60 h t4 =>
 vtouch O (.load true 9 (.k x3)) h 61 fun x61 h t5 =>
 vtouch O (.len 2 (.k x60)) h 62 fun x62 h t6 =>
 vtouch O (.bslice 9 1 [(.p (.int .i64 0)), (.p (.int .i64 0)), (.p (.str [])), (.p (.str [])), (.p .nilslice), (.p .nilslice), (.p .nilslice), (.p (.bool false)), (.p .nilslice)] [(0, (.k (.v (.agg [(.p (.int .i64 0)), (.p (.int .i64 0)), (.p (.str [])), (.p (.str [])), (.p .nilslice), (.p .nilslice), (.p .nilslice), (.p (.bool false)), (.p .nilslice)]))))] true) h 63 fun x63 h t7 =>
 vtouch O (.append 9 152 true (.k x60) (.k x63)) h 64 fun x64 h t8 =>
 vtouch O (.iaddr 9 (.k x64) (.k x62)) h 65 fun x65 h t9 =>
 vtouch O (.store 9 (.k x65) (.k x61)) h 1000000 fun _ h t10 =>
 vtouch O (.nilck (.k x56)) h 66 fun x66 h t11 =>
 vtouch O (.faddr 1 (.k x66)) h 67 fun x67 h t12 =>
 vtouch O (.faddr 6 (.k x67)) h 68 fun x68 h t13 =>
 vtouch O (.store 1 (.k x68) (.k x64)) h 1000000 fun _ h t14 =>
 bif apartAll [t0, t1, t2, t3, t4, t5, t6, t7, t8, t9, t10, t11, t12, t13, t14] [(4, 7), (5, 7), (6, 7), (10, 14)] then
 tcomp (kB true) fun c0 => vfin true q [c0] h
 else none)
 (vbin .eql 0 x38 (kI 2) h fun x70 h =>
 vif x70 (
 vop O (.nilck (.k x34)) h 72 fun x72 h =>
 vfaddr 1 x72 h fun x73 h =>
 vfaddr 8 x73 h fun x74 h =>
 vload false 1 x74 h fun x75 h =>
 vop O (.nilck (.k x34)) h 77 fun x77 h =>
 vfaddr 1 x77 h fun x78 h =>
 vfaddr 8 x78 h fun x79 h =>
 vload false 1 x79 h fun x80 h =>
 vlen O 2 x80 h 81 fun x81 h =>
 vbin .sub 0 x81 (kI 1) h fun x82 h =>
 viaddr 2 x75 x82 h fun x83 h =>
 vtouch O (.mv (.k x83)) h 84 fun x84 h t0 =>
 vtouch O (.nilck (.k x84)) h 85 fun x85 h t1 =>
 vtouch O (.faddr 1 (.k x85)) h 86 fun x86 h t2 =>
 vtouch O (.load false 1 (.k x86)) h 87 fun x87 h t3 =>
 vtouch O (.load true 9 (.k x3)) h 88 fun x88 h t4 =>
 vtouch O (.len 2 (.k x87)) h 89 fun x89 h t5 =>
 vtouch O (.bslice 9 1 [(.p (.int .i64 0)), (.p (.int .i64 0)), (.p (.str [])), (.p (.str [])), (.p .nilslice), (.p .nilslice), (.p .nilslice), (.p (.bool false)), (.p .nilslice)] [(0, (.k (.v (.agg [(.p (.int .i64 0)), (.p (.int .i64 0)), (.p (.str [])), (.p (.str [])), (.p .nilslice), (.p .nilslice), (.p .nilslice), (.p (.bool false)), (.p .nilslice)]))))] true) h 90 fun x90 h t6 =>
 vtouch O (.append 9 152 true (.k x87) (.k x90)) h 91 fun x91 h t7 =>
 vtouch O (.iaddr 9 (.k x91) (.k x89)) h 92 fun x92 h t8 =>
 vtouch O (.store 9 (.k x92) (.k x88)) h 1000000 fun _ h t9 =>
 vtouch O (.nilck (.k x84)) h 93 fun x93 h t10 =>
 vtouch O (.faddr 1 (.k x93)) h 94 fun x94 h t11 =>
 vtouch O (.store 1 (.k x94) (.k x91)) h 1000000 fun _ h t12 =>
 bif apartAll [t0, t1, t2, t3, t4, t5, t6, t7, t8, t9, t10, t11, t12] [(3, 6), (4, 6), (5, 6), (9, 12)] then
 tcomp (kB true) fun c0 => vfin true q [c0] h
 else none)
 (tcomp (kB false) fun c0 => vfin true q [c0] h))))
theorem e45_0 (O : Oracle) (R : Jump) (q : Nat) (x0 x1 : TVal) (h : Heap) : b45_0 O R q x0 x1 h = stepF c45 O R q 0 [x0, x1] h := by kernel_rfl
noncomputable def d45 : BlkF := fun O R q => [.s fun y0 => .s fun y1 => .z fun h => b45_0 O R q y0 y1 h]
theorem o45 (O : Oracle) (R : Jump) (q : Nat) : HoldsAll c45 O R q 0 (d45 O R q) := ⟨fun y0 y1 h => e45_0 O R q y0 y1 h, trivial⟩
/- sprue/sprueref7.blanks -/
def c46 : MFunc := { np := 1, res := [.t 2], frz := true, body := (.seq (.reg [(oA 2 (.mv (.k (.v (.c (.p (.bool false)))))))] []) (.seq (.seq (.reg [(oA 3 (.mv (.k (.v (.c (.p (.int .i64 0)))))))] []) (.block 0 (.loop 1 [0, 3] (.seq (.seq (.reg [(oA 4 (.mv (.t 3))), (oA 5 (.mv (.t 0))), (oA 6 (.len 0 (.t 5))), (oA 7 (.bin .lss 0 (.t 4) (.t 6)))] []) (.cond (.t 7) .skip (.exit 0))) (.seq (.block 1 (.seq (.reg [(oA 10 (.mv (.t 0))), (oA 11 (.mv (.t 3))), (oA 12 (.index (.t 10) (.t 11))), (oA 13 (.bin .neq 0 (.t 12) (.k (.v (.c (.p (.int .u8 32))))))), (oA 14 (.mv (.t 13))), ⟨(some 15), (.mv (.t 0)), (some (14, true))⟩, ⟨(some 16), (.mv (.t 3)), (some (14, true))⟩, ⟨(some 17), (.index (.t 15) (.t 16)), (some (14, true))⟩, ⟨(some 18), (.bin .neq 0 (.t 17) (.k (.v (.c (.p (.int .u8 9)))))), (some (14, true))⟩, (oA 19 (.pick (.t 14) (.t 18) (.k (.v (.c (.p (.bool false))))))), (oA 20 (.mv (.t 19))), ⟨(some 21), (.mv (.t 0)), (some (20, true))⟩, ⟨(some 22), (.mv (.t 3)), (some (20, true))⟩, ⟨(some 23), (.index (.t 21) (.t 22)), (some (20, true))⟩, ⟨(some 24), (.bin .neq 0 (.t 23) (.k (.v (.c (.p (.int .u8 10)))))), (some (20, true))⟩, (oA 25 (.pick (.t 20) (.t 24) (.k (.v (.c (.p (.bool false))))))), (oA 26 (.mv (.t 25))), ⟨(some 27), (.mv (.t 0)), (some (26, true))⟩, ⟨(some 28), (.mv (.t 3)), (some (26, true))⟩, ⟨(some 29), (.index (.t 27) (.t 28)), (some (26, true))⟩, ⟨(some 30), (.bin .neq 0 (.t 29) (.k (.v (.c (.p (.int .u8 13)))))), (some (26, true))⟩, (oA 31 (.pick (.t 26) (.t 30) (.k (.v (.c (.p (.bool false)))))))] []) (.cond (.t 31) (.seq (.reg [(oA 2 (.mv (.k (.v (.c (.p (.bool false)))))))] []) .ret) .skip))) (.reg [(oA 8 (.mv (.t 3))), (oA 9 (.bin .add 0 (.t 8) (.k (.v (.c (.p (.int .i64 1))))))), (oA 3 (.mv (.t 9)))] [])))))) (.seq (.reg [(oA 2 (.mv (.k (.v (.c (.p (.bool true)))))))] []) .ret))) }
theorem t46 : compF Tryz.prog (globs2 tabs opq) (fun _ => false) true Tryz.f46 = some c46.erase := by kernel_rfl
noncomputable def b46_0 (O : Oracle) (R : Jump) (q : Nat) (x0 : TVal) (h : Heap) : Res1 :=
 R 1 [x0, (kI 0)] h
theorem e46_0 (O : Oracle) (R : Jump) (q : Nat) (x0 : TVal) (h : Heap) : b46_0 O R q x0 h = stepF c46 O R q 0 [x0] h := by kernel_rfl
noncomputable def b46_1 (O : Oracle) (R : Jump) (q : Nat) (x0 x3 : TVal) (h : Heap) : Res1 :=
 vlen O 0 x0 h 6 fun x6 h =>
 vbin .lss 0 x3 x6 h fun x7 h =>
 vif x7 (
 vindex x0 x3 h fun x12 h =>
 vbin .neq 0 x12 (.v (.c (.p (.int .u8 32)))) h fun x13 h =>
 vguard x13 true (fun kk => kk x0 h) h fun x15 h =>
 vguard x13 true (fun kk => kk x3 h) h fun x16 h =>
 vguard x13 true (fun kk => vindex x15 x16 h kk) h fun x17 h =>
 vguard x13 true (fun kk => vbin .neq 0 x17 (.v (.c (.p (.int .u8 9)))) h kk) h fun x18 h =>
 vop O (.pick (.k x13) (.k x18) (.k (kB false))) h 19 fun x19 h =>
 vguard x19 true (fun kk => kk x0 h) h fun x21 h =>
 vguard x19 true (fun kk => kk x3 h) h fun x22 h =>
 vguard x19 true (fun kk => vindex x21 x22 h kk) h fun x23 h =>
 vguard x19 true (fun kk => vbin .neq 0 x23 (.v (.c (.p (.int .u8 10)))) h kk) h fun x24 h =>
 vop O (.pick (.k x19) (.k x24) (.k (kB false))) h 25 fun x25 h =>
 vguard x25 true (fun kk => kk x0 h) h fun x27 h =>
 vguard x25 true (fun kk => kk x3 h) h fun x28 h =>
 vguard x25 true (fun kk => vindex x27 x28 h kk) h fun x29 h =>
 vguard x25 true (fun kk => vbin .neq 0 x29 (.v (.c (.p (.int .u8 13)))) h kk) h fun x30 h =>
 vop O (.pick (.k x25) (.k x30) (.k (kB false))) h 31 fun x31 h =>
 vif x31 (
 tcomp (kB false) fun c0 => vfin true q [c0] h)
 (vbin .add 0 x3 (kI 1) h fun x9 h =>
 R 1 [x0, x9] h))
 (tcomp (kB true) fun c0 => vfin true q [c0] h)
theorem e46_1 (O : Oracle) (R : Jump) (q : Nat) (x0 x3 : TVal) (h : Heap) : b46_1 O R q x0 x3 h = stepF c46 O R q 1 [x0, x3] h := by kernel_rfl
noncomputable def d46 : BlkF := fun O R q => [.s fun y0 => .z fun h => b46_0 O R q y0 h, .s fun y0 => .s fun y1 => .z fun h => b46_1 O R q y0 y1 h]
theorem o46 (O : Oracle) (R : Jump) (q : Nat) : HoldsAll c46 O R q 0 (d46 O R q) := ⟨fun y0 h => e46_0 O R q y0 h, fun y0 y1 h => e46_1 O R q y0 y1 h, trivial⟩
/- (*sprue/sprueref13.reader).word -/
def c47 : MFunc := { np := 1, res := [.cell 2 true 6, .t 3], frz := true, body := (.seq (.reg [(oA 2 (.alloc [(.p (.int .i64 0)), (.p (.bool false)), (.p (.int .i64 0)), (.p (.str [])), (.p .nilslice), (.p .nilslice)] false)), (oA 3 (.mv (.k (.v (.c (.p (.bool false)))))))] []) (.seq (.reg [(oA 7 (.bslice 1 3 [(.p (.str []))] [(0, (.k (.v (.c (.p (.str [110, 117, 108, 108])))))), (1, (.k (.v (.c (.p (.str [102, 97, 108, 115, 101])))))), (2, (.k (.v (.c (.p (.str [116, 114, 117, 101]))))))] false)), (oA 4 (.mv (.t 7)))] []) (.seq (.seq (.reg [(oA 5 (.mv (.k (.v (.c (.p (.int .i64 0)))))))] []) (.block 0 (.loop 1 [0, 2, 4, 5] (.seq (.seq (.reg [(oA 8 (.mv (.t 5))), (oA 9 (.bin .lss 0 (.t 8) (.k (.v (.c (.p (.int .i64 3)))))))] []) (.cond (.t 9) .skip (.exit 0))) (.seq (.block 1 (.seq (.reg [(oA 12 (.mv (.t 4))), (oA 13 (.mv (.t 5))), (oA 14 (.iaddr 1 (.t 12) (.t 13))), (oA 15 (.load false 1 (.t 14))), (oA 6 (.mv (.t 15)))] []) (.seq (.reg [(oA 16 (.mv (.t 0))), (oA 17 (.nilck (.t 16))), (oA 18 (.faddr 1 (.t 17))), (oA 19 (.load false 1 (.t 18))), (oA 20 (.mv (.t 6))), (oA 21 (.len 0 (.t 20))), (oA 22 (.bin .add 0 (.t 19) (.t 21))), (oA 23 (.mv (.t 0))), (oA 24 (.nilck (.t 23))), (oA 25 (.faddr 0 (.t 24))), (oA 26 (.load false 1 (.t 25))), (oA 27 (.len 0 (.t 26))), (oA 28 (.bin .leq 0 (.t 22) (.t 27))), (oA 29 (.mv (.t 28))), ⟨(some 30), (.mv (.t 0)), (some (29, true))⟩, ⟨(some 31), (.nilck (.t 30)), (some (29, true))⟩, ⟨(some 32), (.faddr 0 (.t 31)), (some (29, true))⟩, ⟨(some 33), (.load false 1 (.t 32)), (some (29, true))⟩, ⟨(some 34), (.mv (.t 0)), (some (29, true))⟩, ⟨(some 35), (.nilck (.t 34)), (some (29, true))⟩, ⟨(some 36), (.faddr 1 (.t 35)), (some (29, true))⟩, ⟨(some 37), (.load false 1 (.t 36)), (some (29, true))⟩, ⟨(some 38), (.mv (.t 0)), (some (29, true))⟩, ⟨(some 39), (.nilck (.t 38)), (some (29, true))⟩, ⟨(some 40), (.faddr 1 (.t 39)), (some (29, true))⟩, ⟨(some 41), (.load false 1 (.t 40)), (some (29, true))⟩, ⟨(some 42), (.mv (.t 6)), (some (29, true))⟩, ⟨(some 43), (.len 0 (.t 42)), (some (29, true))⟩, ⟨(some 44), (.bin .add 0 (.t 41) (.t 43)), (some (29, true))⟩, ⟨(some 45), (.slice 0 true (.t 33) (some (.t 37)) (some (.t 44)) none), (some (29, true))⟩, ⟨(some 46), (.mv (.t 6)), (some (29, true))⟩, ⟨(some 47), (.bin .eql 0 (.t 45) (.t 46)), (some (29, true))⟩, (oA 48 (.pick (.t 29) (.t 47) (.k (.v (.c (.p (.bool false)))))))] []) (.cond (.t 48) (.seq (.reg [(oA 49 (.mv (.t 0))), (oA 50 (.mv (.t 0))), (oA 51 (.nilck (.t 50))), (oA 52 (.faddr 1 (.t 51))), (oA 53 (.load false 1 (.t 52))), (oA 54 (.mv (.t 6))), (oA 55 (.len 0 (.t 54))), (oA 56 (.bin .add 0 (.t 53) (.t 55))), (oA 57 (.nilck (.t 49))), (oA 58 (.faddr 1 (.t 57))), (oN (.store 1 (.t 58) (.t 56)))] []) (.seq (.seq (.reg [(oA 59 (.mv (.t 5))), (oA 60 (.bin .eql 0 (.t 59) (.k (.v (.c (.p (.int .i64 0)))))))] []) (.cond (.t 60) (.seq (.reg [(oA 61 (.build [(.p (.int .i64 0)), (.p (.bool false)), (.p (.int .i64 0)), (.p (.str [])), (.p .nilslice), (.p .nilslice)] [])), (oN (.store 6 (.t 2) (.t 61))), (oA 3 (.mv (.k (.v (.c (.p (.bool true)))))))] []) .ret) .skip)) (.seq (.reg [(oA 62 (.mv (.t 5))), (oA 63 (.bin .eql 0 (.t 62) (.k (.v (.c (.p (.int .i64 2))))))), (oA 64 (.build [(.p (.int .i64 0)), (.p (.bool false)), (.p (.int .i64 0)), (.p (.str [])), (.p .nilslice), (.p .nilslice)] [(0, 1, (.k (.v (.c (.p (.int .i64 1)))))), (1, 1, (.t 63))])), (oN (.store 6 (.t 2) (.t 64))), (oA 3 (.mv (.k (.v (.c (.p (.bool true)))))))] []) .ret))) .skip)))) (.reg [(oA 10 (.mv (.t 5))), (oA 11 (.bin .add 0 (.t 10) (.k (.v (.c (.p (.int .i64 1))))))), (oA 5 (.mv (.t 11)))] [])))))) (.mark 2 [2] (.seq (.reg [(oA 65 (.build [(.p (.int .i64 0)), (.p (.bool false)), (.p (.int .i64 0)), (.p (.str [])), (.p .nilslice), (.p .nilslice)] [])), (oN (.store 6 (.t 2) (.t 65))), (oA 3 (.mv (.k (.v (.c (.p (.bool false)))))))] []) .ret))))) }
theorem t47 : compF Tryz.prog (globs2 tabs opq) (fun _ => false) true Tryz.f47 = some c47.erase := by kernel_rfl
noncomputable def b47_0 (O : Oracle) (R : Jump) (q : Nat) (x0 : TVal) (h : Heap) : Res1 :=
 vop O (.alloc [(.p (.int .i64 0)), (.p (.bool false)), (.p (.int .i64 0)), (.p (.str [])), (.p .nilslice), (.p .nilslice)] false) h 2 fun x2 h =>
 vop O (.bslice 1 3 [(.p (.str []))] [(0, (.k (kS [110, 117, 108, 108]))), (1, (.k (kS [102, 97, 108, 115, 101]))), (2, (.k (kS [116, 114, 117, 101])))] false) h 7 fun x7 h =>
 R 1 [x0, x2, x7, (kI 0)] h
theorem e47_0 (O : Oracle) (R : Jump) (q : Nat) (x0 : TVal) (h : Heap) : b47_0 O R q x0 h = stepF c47 O R q 0 [x0] h := by kernel_rfl
noncomputable def b47_1 (O : Oracle) (R : Jump) (q : Nat) (x0 x2 x4 x5 : TVal) (h : Heap) : Res1 :=
 vbin .lss 0 x5 (kI 3) h fun x9 h =>
 vif x9 (
 viaddr 1 x4 x5 h fun x14 h =>
 vload false 1 x14 h fun x15 h =>
 vop O (.nilck (.k x0)) h 17 fun x17 h =>
 vfaddr 1 x17 h fun x18 h =>
 vload false 1 x18 h fun x19 h =>
 vlen O 0 x15 h 21 fun x21 h =>
 vbin .add 0 x19 x21 h fun x22 h =>
 vop O (.nilck (.k x0)) h 24 fun x24 h =>
 vfaddr 0 x24 h fun x25 h =>
 vload false 1 x25 h fun x26 h =>
 vlen O 0 x26 h 27 fun x27 h =>
 vbin .leq 0 x22 x27 h fun x28 h =>
 vguard x28 true (fun kk => kk x0 h) h fun x30 h =>
 vguard x28 true (fun kk => vop O (.nilck (.k x30)) h 31 kk) h fun x31 h =>
 vguard x28 true (fun kk => vfaddr 0 x31 h kk) h fun x32 h =>
 vguard x28 true (fun kk => vload false 1 x32 h kk) h fun x33 h =>
 vguard x28 true (fun kk => kk x0 h) h fun x34 h =>
 vguard x28 true (fun kk => vop O (.nilck (.k x34)) h 35 kk) h fun x35 h =>
 vguard x28 true (fun kk => vfaddr 1 x35 h kk) h fun x36 h =>
 vguard x28 true (fun kk => vload false 1 x36 h kk) h fun x37 h =>
 vguard x28 true (fun kk => kk x0 h) h fun x38 h =>
 vguard x28 true (fun kk => vop O (.nilck (.k x38)) h 39 kk) h fun x39 h =>
 vguard x28 true (fun kk => vfaddr 1 x39 h kk) h fun x40 h =>
 vguard x28 true (fun kk => vload false 1 x40 h kk) h fun x41 h =>
 vguard x28 true (fun kk => kk x15 h) h fun x42 h =>
 vguard x28 true (fun kk => vlen O 0 x42 h 43 kk) h fun x43 h =>
 vguard x28 true (fun kk => vbin .add 0 x41 x43 h kk) h fun x44 h =>
 vguard x28 true (fun kk => vop O (.slice 0 true (.k x33) (some (.k x37)) (some (.k x44)) none) h 45 kk) h fun x45 h =>
 vguard x28 true (fun kk => kk x15 h) h fun x46 h =>
 vguard x28 true (fun kk => vbin .eql 0 x45 x46 h kk) h fun x47 h =>
 vop O (.pick (.k x28) (.k x47) (.k (kB false))) h 48 fun x48 h =>
 vif x48 (
 vop O (.nilck (.k x0)) h 51 fun x51 h =>
 vfaddr 1 x51 h fun x52 h =>
 vload false 1 x52 h fun x53 h =>
 vlen O 0 x15 h 55 fun x55 h =>
 vbin .add 0 x53 x55 h fun x56 h =>
 vop O (.nilck (.k x0)) h 57 fun x57 h =>
 vfaddr 1 x57 h fun x58 h =>
 vstore 1 x58 x56 h fun _ h =>
 vbin .eql 0 x5 (kI 0) h fun x60 h =>
 vif x60 (
 vop O (.build [(.p (.int .i64 0)), (.p (.bool false)), (.p (.int .i64 0)), (.p (.str [])), (.p .nilslice), (.p .nilslice)] []) h 61 fun x61 h =>
 vstore 6 x2 x61 h fun _ h =>
 vcell true 6 x2 h fun c0 => tcomp (kB true) fun c1 => vfin true q [c0, c1] h)
 (vbin .eql 0 x5 (kI 2) h fun x63 h =>
 vop O (.build [(.p (.int .i64 0)), (.p (.bool false)), (.p (.int .i64 0)), (.p (.str [])), (.p .nilslice), (.p .nilslice)] [(0, 1, (.k (kI 1))), (1, 1, (.k x63))]) h 64 fun x64 h =>
 vstore 6 x2 x64 h fun _ h =>
 vcell true 6 x2 h fun c0 => tcomp (kB true) fun c1 => vfin true q [c0, c1] h))
 (vbin .add 0 x5 (kI 1) h fun x11 h =>
 R 1 [x0, x2, x4, x11] h))
 (R 2 [x2] h)
theorem e47_1 (O : Oracle) (R : Jump) (q : Nat) (x0 x2 x4 x5 : TVal) (h : Heap) : b47_1 O R q x0 x2 x4 x5 h = stepF c47 O R q 1 [x0, x2, x4, x5] h := by kernel_rfl
noncomputable def b47_2 (O : Oracle) (R : Jump) (q : Nat) (x2 : TVal) (h : Heap) : Res1 :=
 vop O (.build [(.p (.int .i64 0)), (.p (.bool false)), (.p (.int .i64 0)), (.p (.str [])), (.p .nilslice), (.p .nilslice)] []) h 65 fun x65 h =>
 vstore 6 x2 x65 h fun _ h =>
 vcell true 6 x2 h fun c0 => tcomp (kB false) fun c1 => vfin true q [c0, c1] h
theorem e47_2 (O : Oracle) (R : Jump) (q : Nat) (x2 : TVal) (h : Heap) : b47_2 O R q x2 h = stepF c47 O R q 2 [x2] h := by kernel_rfl
noncomputable def d47 : BlkF := fun O R q => [.s fun y0 => .z fun h => b47_0 O R q y0 h, .s fun y0 => .s fun y1 => .s fun y2 => .s fun y3 => .z fun h => b47_1 O R q y0 y1 y2 y3 h, .s fun y0 => .z fun h => b47_2 O R q y0 h]
theorem o47 (O : Oracle) (R : Jump) (q : Nat) : HoldsAll c47 O R q 0 (d47 O R q) := ⟨fun y0 h => e47_0 O R q y0 h, fun y0 y1 y2 y3 h => e47_1 O R q y0 y1 y2 y3 h, fun y0 h => e47_2 O R q y0 h, trivial⟩
/- sprue/sprueref13.digit -/
def c48 : MFunc := { np := 1, res := [.t 2], frz := true, body := (.seq (.reg [(oA 2 (.mv (.k (.v (.c (.p (.bool false)))))))] []) (.seq (.reg [(oA 3 (.mv (.t 0))), (oA 4 (.bin .geq 0 (.t 3) (.k (.v (.c (.p (.int .u8 48))))))), (oA 5 (.mv (.t 4))), ⟨(some 6), (.mv (.t 0)), (some (5, true))⟩, ⟨(some 7), (.bin .leq 0 (.t 6) (.k (.v (.c (.p (.int .u8 57)))))), (some (5, true))⟩, (oA 8 (.pick (.t 5) (.t 7) (.k (.v (.c (.p (.bool false))))))), (oA 2 (.mv (.t 8)))] []) .ret)) }
theorem t48 : compF Tryz.prog (globs2 tabs opq) (fun _ => false) true Tryz.f48 = some c48.erase := by kernel_rfl
noncomputable def b48_0 (O : Oracle) (R : Jump) (q : Nat) (x0 : TVal) (h : Heap) : Res1 :=
 vbin .geq 0 x0 (.v (.c (.p (.int .u8 48)))) h fun x4 h =>
 vguard x4 true (fun kk => kk x0 h) h fun x6 h =>
 vguard x4 true (fun kk => vbin .leq 0 x6 (.v (.c (.p (.int .u8 57)))) h kk) h fun x7 h =>
 vop O (.pick (.k x4) (.k x7) (.k (kB false))) h 8 fun x8 h =>
 tcomp x8 fun c0 => vfin true q [c0] h
theorem e48_0 (O : Oracle) (R : Jump) (q : Nat) (x0 : TVal) (h : Heap) : b48_0 O R q x0 h = stepF c48 O R q 0 [x0] h := by kernel_rfl
noncomputable def d48 : BlkF := fun O R q => [.s fun y0 => .z fun h => b48_0 O R q y0 h]
theorem o48 (O : Oracle) (R : Jump) (q : Nat) : HoldsAll c48 O R q 0 (d48 O R q) := ⟨fun y0 h => e48_0 O R q y0 h, trivial⟩
/- (*sprue/sprueref13.reader).text -/
def c49 : MFunc := { np := 1, res := [.t 2], frz := true, body := (.seq (.reg [(oA 2 (.mv (.k (.v (.c (.p (.str [])))))))] []) (.seq (.reg [(oA 6 (.mv (.t 0))), (oA 7 (.nilck (.t 6))), (oA 8 (.faddr 0 (.t 7))), (oA 9 (.load false 1 (.t 8))), (oA 10 (.mv (.t 0))), (oA 11 (.nilck (.t 10))), (oA 12 (.faddr 1 (.t 11))), (oA 13 (.load false 1 (.t 12))), (oA 14 (.call (.k (.v (.c (.func 70 [])))) [(.t 9), (.t 13)])), (oA 5 (.mv (.t 14))), (oA 15 (.extract (.t 5) 0)), (oA 16 (.extract (.t 5) 1)), (oA 3 (.mv (.t 15))), (oA 4 (.mv (.t 16)))] []) (.seq (.seq (.reg [(oA 17 (.mv (.t 4))), (oA 18 (.bin .lss 0 (.t 17) (.k (.v (.c (.p (.int .i64 0)))))))] []) (.cond (.t 18) (.seq (.reg [(oA 19 (.mv (.t 0))), (oA 20 (.call (.k (.v (.c (.func 26 [])))) [(.t 19), (.k (.v (.c (.p (.int .i64 11)))))]))] []) (.seq (.reg [(oA 2 (.mv (.k (.v (.c (.p (.str [])))))))] []) .ret)) .skip)) (.seq (.reg [(oA 21 (.mv (.t 0))), (oA 22 (.mv (.t 4))), (oA 23 (.nilck (.t 21))), (oA 24 (.faddr 1 (.t 23))), (oN (.store 1 (.t 24) (.t 22)))] []) (.seq (.reg [(oA 25 (.mv (.t 3))), (oA 2 (.mv (.t 25)))] []) .ret))))) }
theorem t49 : compF Tryz.prog (globs2 tabs opq) (fun _ => false) true Tryz.f49 = some c49.erase := by kernel_rfl
noncomputable def b49_0 (O : Oracle) (R : Jump) (q : Nat) (x0 : TVal) (h : Heap) : Res1 :=
 vop O (.nilck (.k x0)) h 7 fun x7 h =>
 vfaddr 0 x7 h fun x8 h =>
 vload false 1 x8 h fun x9 h =>
 vop O (.nilck (.k x0)) h 11 fun x11 h =>
 vfaddr 1 x11 h fun x12 h =>
 vload false 1 x12 h fun x13 h =>
 vcall O (.v (.c (.func 70 []))) [x9, x13] h 14 fun x14 h =>
 vext x14 0 h fun x15 h =>
 vext x14 1 h fun x16 h =>
 vbin .lss 0 x16 (kI 0) h fun x18 h =>
 vif x18 (
 vcall O (.v (.c (.func 26 []))) [x0, (kI 11)] h 20 fun x20 h =>
 tcomp (kS []) fun c0 => vfin true q [c0] h)
 (vop O (.nilck (.k x0)) h 23 fun x23 h =>
 vfaddr 1 x23 h fun x24 h =>
 vstore 1 x24 x16 h fun _ h =>
 tcomp x15 fun c0 => vfin true q [c0] h)
theorem e49_0 (O : Oracle) (R : Jump) (q : Nat) (x0 : TVal) (h : Heap) : b49_0 O R q x0 h = stepF c49 O R q 0 [x0] h := by kernel_rfl
noncomputable def d49 : BlkF := fun O R q => [.s fun y0 => .z fun h => b49_0 O R q y0 h]
theorem o49 (O : Oracle) (R : Jump) (q : Nat) : HoldsAll c49 O R q 0 (d49 O R q) := ⟨fun y0 h => e49_0 O R q y0 h, trivial⟩
/- (*sprue/sprueref13.reader).list -/
def c50 : MFunc := { np := 2, res := [.cell 4 true 6], frz := true, body := (.seq (.reg [(oA 4 (.alloc [(.p (.int .i64 0)), (.p (.bool false)), (.p (.int .i64 0)), (.p (.str [])), (.p .nilslice), (.p .nilslice)] false))] []) (.seq (.reg [(oA 6 (.build [(.p (.int .i64 0)), (.p (.bool false)), (.p (.int .i64 0)), (.p (.str [])), (.p .nilslice), (.p .nilslice)] [(0, 1, (.k (.v (.c (.p (.int .i64 4))))))])), (oA 5 (.alloc [(.p (.int .i64 0)), (.p (.bool false)), (.p (.int .i64 0)), (.p (.str [])), (.p .nilslice), (.p .nilslice)] false)), (oN (.store 6 (.t 5) (.t 6)))] []) (.seq (.reg [(oA 7 (.mv (.t 0))), (oA 8 (.nilck (.t 7))), (oA 9 (.faddr 1 (.t 8))), (oA 10 (.load false 1 (.t 9))), (oA 11 (.bin .add 0 (.t 10) (.k (.v (.c (.p (.int .i64 1))))))), (oA 12 (.nilck (.t 7))), (oA 13 (.faddr 1 (.t 12))), (oN (.store 1 (.t 13) (.t 11)))] []) (.seq (.seq (.reg [(oA 14 (.mv (.t 0))), (oA 15 (.call (.k (.v (.c (.func 71 [])))) [(.t 14), (.k (.v (.c (.p (.int .u8 93)))))]))] []) (.cond (.t 15) (.seq (.reg [(oA 16 (.load true 6 (.t 5))), (oN (.store 6 (.t 4) (.t 16)))] []) .ret) .skip)) (.seq (.block 0 (.loop 1 [0, 1, 4, 5] (.seq (.seq (.reg [(oA 17 (.mv (.t 0))), (oA 18 (.nilck (.t 17))), (oA 19 (.faddr 2 (.t 18))), (oA 20 (.load false 1 (.t 19))), (oA 21 (.bin .eql 0 (.t 20) (.k (.v (.c (.p (.int .i64 0)))))))] []) (.cond (.t 21) .skip (.exit 0))) (.block 1 (.seq (.reg [(oA 22 (.faddr 5 (.t 5))), (oA 23 (.load false 1 (.t 22))), (oA 24 (.mv (.t 0))), (oA 25 (.mv (.t 1))), (oA 26 (.bin .add 0 (.t 25) (.k (.v (.c (.p (.int .i64 1))))))), (oA 27 (.call (.k (.v (.c (.func 24 [])))) [(.t 24), (.t 26)])), (oA 28 (.bslice 6 1 [(.p (.int .i64 0)), (.p (.bool false)), (.p (.int .i64 0)), (.p (.str [])), (.p .nilslice), (.p .nilslice)] [(0, (.t 27))] false)), (oA 29 (.append 6 88 false (.t 23) (.t 28))), (oA 30 (.faddr 5 (.t 5))), (oN (.store 1 (.t 30) (.t 29)))] [(1, 5), (1, 6)]) (.seq (.reg [(oA 31 (.mv (.t 0))), (oA 32 (.call (.k (.v (.c (.func 71 [])))) [(.t 31), (.k (.v (.c (.p (.int .u8 44)))))])), (oA 33 (.un .not (.t 32)))] []) (.cond (.t 33) (.exit 0) .skip))))))) (.mark 2 [0, 4, 5] (.seq (.seq (.reg [(oA 34 (.mv (.t 0))), (oA 35 (.call (.k (.v (.c (.func 71 [])))) [(.t 34), (.k (.v (.c (.p (.int .u8 93)))))])), (oA 36 (.un .not (.t 35)))] []) (.cond (.t 36) (.reg [(oA 37 (.mv (.t 0))), (oA 38 (.call (.k (.v (.c (.func 26 [])))) [(.t 37), (.k (.v (.c (.p (.int .i64 12)))))]))] []) .skip)) (.mark 3 [4, 5] (.seq (.reg [(oA 39 (.load true 6 (.t 5))), (oN (.store 6 (.t 4) (.t 39)))] []) .ret))))))))) }
theorem t50 : compF Tryz.prog (globs2 tabs opq) (fun _ => false) true Tryz.f50 = some c50.erase := by kernel_rfl
noncomputable def b50_0 (O : Oracle) (R : Jump) (q : Nat) (x0 x1 : TVal) (h : Heap) : Res1 :=
 vop O (.alloc [(.p (.int .i64 0)), (.p (.bool false)), (.p (.int .i64 0)), (.p (.str [])), (.p .nilslice), (.p .nilslice)] false) h 4 fun x4 h =>
 vop O (.build [(.p (.int .i64 0)), (.p (.bool false)), (.p (.int .i64 0)), (.p (.str [])), (.p .nilslice), (.p .nilslice)] [(0, 1, (.k (kI 4)))]) h 6 fun x6 h =>
 vop O (.alloc [(.p (.int .i64 0)), (.p (.bool false)), (.p (.int .i64 0)), (.p (.str [])), (.p .nilslice), (.p .nilslice)] false) h 5 fun x5 h =>
 vstore 6 x5 x6 h fun _ h =>
 vop O (.nilck (.k x0)) h 8 fun x8 h =>
 vfaddr 1 x8 h fun x9 h =>
 vload false 1 x9 h fun x10 h =>
 vbin .add 0 x10 (kI 1) h fun x11 h =>
 vop O (.nilck (.k x0)) h 12 fun x12 h =>
 vfaddr 1 x12 h fun x13 h =>
 vstore 1 x13 x11 h fun _ h =>
 vcall O (.v (.c (.func 71 []))) [x0, (.v (.c (.p (.int .u8 93))))] h 15 fun x15 h =>
 vif x15 (
 vload true 6 x5 h fun x16 h =>
 vstore 6 x4 x16 h fun _ h =>
 vcell true 6 x4 h fun c0 => vfin true q [c0] h)
 (R 1 [x0, x1, x4, x5] h)
theorem e50_0 (O : Oracle) (R : Jump) (q : Nat) (x0 x1 : TVal) (h : Heap) : b50_0 O R q x0 x1 h = stepF c50 O R q 0 [x0, x1] h := by kernel_rfl
noncomputable def b50_1 (O : Oracle) (R : Jump) (q : Nat) (x0 x1 x4 x5 : TVal) (h : Heap) : Res1 :=
 vop O (.nilck (.k x0)) h 18 fun x18 h =>
 vfaddr 2 x18 h fun x19 h =>
 vload false 1 x19 h fun x20 h =>
 vbin .eql 0 x20 (kI 0) h fun x21 h =>
 vif x21 (
 vtouch O (.faddr 5 (.k x5)) h 22 fun x22 h t0 =>
 vtouch O (.load false 1 (.k x22)) h 23 fun x23 h t1 =>
 vtouch O (.mv (.k x0)) h 24 fun x24 h t2 =>
 vtouch O (.mv (.k x1)) h 25 fun x25 h t3 =>
 vtouch O (.bin .add 0 (.k x25) (.k (kI 1))) h 26 fun x26 h t4 =>
 vtouch O (.call (.k (.v (.c (.func 24 [])))) [(.k x24), (.k x26)]) h 27 fun x27 h t5 =>
 vtouch O (.bslice 6 1 [(.p (.int .i64 0)), (.p (.bool false)), (.p (.int .i64 0)), (.p (.str [])), (.p .nilslice), (.p .nilslice)] [(0, (.k x27))] false) h 28 fun x28 h t6 =>
 vtouch O (.append 6 88 false (.k x23) (.k x28)) h 29 fun x29 h t7 =>
 vtouch O (.faddr 5 (.k x5)) h 30 fun x30 h t8 =>
 vtouch O (.store 1 (.k x30) (.k x29)) h 1000000 fun _ h t9 =>
 bif apartAll [t0, t1, t2, t3, t4, t5, t6, t7, t8, t9] [(1, 5), (1, 6)] then
 vcall O (.v (.c (.func 71 []))) [x0, (.v (.c (.p (.int .u8 44))))] h 32 fun x32 h =>
 vop O (.un .not (.k x32)) h 33 fun x33 h =>
 vif x33 (
 R 2 [x0, x4, x5] h)
 (R 1 [x0, x1, x4, x5] h)
 else none)
 (R 2 [x0, x4, x5] h)
theorem e50_1 (O : Oracle) (R : Jump) (q : Nat) (x0 x1 x4 x5 : TVal) (h : Heap) : b50_1 O R q x0 x1 x4 x5 h = stepF c50 O R q 1 [x0, x1, x4, x5] h := by kernel_rfl
noncomputable def b50_2 (O : Oracle) (R : Jump) (q : Nat) (x0 x4 x5 : TVal) (h : Heap) : Res1 :=
 vcall O (.v (.c (.func 71 []))) [x0, (.v (.c (.p (.int .u8 93))))] h 35 fun x35 h =>
 vop O (.un .not (.k x35)) h 36 fun x36 h =>
 vif x36 (
 vcall O (.v (.c (.func 26 []))) [x0, (kI 12)] h 38 fun x38 h =>
 R 3 [x4, x5] h)
 (R 3 [x4, x5] h)
theorem e50_2 (O : Oracle) (R : Jump) (q : Nat) (x0 x4 x5 : TVal) (h : Heap) : b50_2 O R q x0 x4 x5 h = stepF c50 O R q 2 [x0, x4, x5] h := by kernel_rfl
noncomputable def b50_3 (O : Oracle) (R : Jump) (q : Nat) (x4 x5 : TVal) (h : Heap) : Res1 :=
 vload true 6 x5 h fun x39 h =>
 vstore 6 x4 x39 h fun _ h =>
 vcell true 6 x4 h fun c0 => vfin true q [c0] h
theorem e50_3 (O : Oracle) (R : Jump) (q : Nat) (x4 x5 : TVal) (h : Heap) : b50_3 O R q x4 x5 h = stepF c50 O R q 3 [x4, x5] h := by kernel_rfl
noncomputable def d50 : BlkF := fun O R q => [.s fun y0 => .s fun y1 => .z fun h => b50_0 O R q y0 y1 h, .s fun y0 => .s fun y1 => .s fun y2 => .s fun y3 => .z fun h => b50_1 O R q y0 y1 y2 y3 h, .s fun y0 => .s fun y1 => .s fun y2 => .z fun h => b50_2 O R q y0 y1 y2 h, .s fun y0 => .s fun y1 => .z fun h => b50_3 O R q y0 y1 h]
theorem o50 (O : Oracle) (R : Jump) (q : Nat) : HoldsAll c50 O R q 0 (d50 O R q) := ⟨fun y0 y1 h => e50_0 O R q y0 y1 h, fun y0 y1 y2 y3 h => e50_1 O R q y0 y1 y2 y3 h, fun y0 y1 y2 h => e50_2 O R q y0 y1 y2 h, fun y0 y1 h => e50_3 O R q y0 y1 h, trivial⟩
/- (*sprue/sprueref13.reader).table -/
def c51 : MFunc := { np := 2, res := [.cell 4 true 6], frz := true, body := (.seq (.reg [(oA 4 (.alloc [(.p (.int .i64 0)), (.p (.bool false)), (.p (.int .i64 0)), (.p (.str [])), (.p .nilslice), (.p .nilslice)] false))] []) (.seq (.reg [(oA 12 (.build [(.p (.int .i64 0)), (.p (.bool false)), (.p (.int .i64 0)), (.p (.str [])), (.p .nilslice), (.p .nilslice)] [(0, 1, (.k (.v (.c (.p (.int .i64 5))))))])), (oA 5 (.alloc [(.p (.int .i64 0)), (.p (.bool false)), (.p (.int .i64 0)), (.p (.str [])), (.p .nilslice), (.p .nilslice)] false)), (oN (.store 6 (.t 5) (.t 12)))] []) (.seq (.reg [(oA 13 (.mv (.t 0))), (oA 14 (.nilck (.t 13))), (oA 15 (.faddr 1 (.t 14))), (oA 16 (.load false 1 (.t 15))), (oA 17 (.bin .add 0 (.t 16) (.k (.v (.c (.p (.int .i64 1))))))), (oA 18 (.nilck (.t 13))), (oA 19 (.faddr 1 (.t 18))), (oN (.store 1 (.t 19) (.t 17)))] []) (.seq (.seq (.reg [(oA 20 (.mv (.t 0))), (oA 21 (.call (.k (.v (.c (.func 71 [])))) [(.t 20), (.k (.v (.c (.p (.int .u8 125)))))]))] []) (.cond (.t 21) (.seq (.reg [(oA 22 (.load true 6 (.t 5))), (oN (.store 6 (.t 4) (.t 22)))] []) .ret) .skip)) (.seq (.reg [(oA 6 (.mv (.k (.v (.c (.p (.bool false)))))))] []) (.seq (.block 0 (.loop 1 [0, 1, 4, 5, 6] (.seq (.seq (.reg [(oA 23 (.mv (.t 0))), (oA 24 (.nilck (.t 23))), (oA 25 (.faddr 2 (.t 24))), (oA 26 (.load false 1 (.t 25))), (oA 27 (.bin .eql 0 (.t 26) (.k (.v (.c (.p (.int .i64 0)))))))] []) (.cond (.t 27) .skip (.exit 0))) (.block 1 (.seq (.reg [(oA 28 (.mv (.t 0))), (oA 29 (.call (.k (.v (.c (.func 25 [])))) [(.t 28)]))] []) (.seq (.seq (.reg [(oA 30 (.mv (.t 0))), (oA 31 (.nilck (.t 30))), (oA 32 (.faddr 1 (.t 31))), (oA 33 (.load false 1 (.t 32))), (oA 34 (.mv (.t 0))), (oA 35 (.nilck (.t 34))), (oA 36 (.faddr 0 (.t 35))), (oA 37 (.load false 1 (.t 36))), (oA 38 (.len 0 (.t 37))), (oA 39 (.bin .geq 0 (.t 33) (.t 38))), (oA 40 (.mv (.t 39))), ⟨(some 41), (.mv (.t 0)), (some (40, false))⟩, ⟨(some 42), (.nilck (.t 41)), (some (40, false))⟩, ⟨(some 43), (.faddr 0 (.t 42)), (some (40, false))⟩, ⟨(some 44), (.load false 1 (.t 43)), (some (40, false))⟩, ⟨(some 45), (.mv (.t 0)), (some (40, false))⟩, ⟨(some 46), (.nilck (.t 45)), (some (40, false))⟩, ⟨(some 47), (.faddr 1 (.t 46)), (some (40, false))⟩, ⟨(some 48), (.load false 1 (.t 47)), (some (40, false))⟩, ⟨(some 49), (.index (.t 44) (.t 48)), (some (40, false))⟩, ⟨(some 50), (.bin .neq 0 (.t 49) (.k (.v (.c (.p (.int .u8 34)))))), (some (40, false))⟩, (oA 51 (.pick (.t 40) (.k (.v (.c (.p (.bool true))))) (.t 50)))] []) (.cond (.t 51) (.seq (.reg [(oA 52 (.mv (.t 0))), (oA 53 (.call (.k (.v (.c (.func 26 [])))) [(.t 52), (.k (.v (.c (.p (.int .i64 12)))))]))] []) (.exit 0)) .skip)) (.seq (.reg [(oA 54 (.mv (.t 0))), (oA 55 (.call (.k (.v (.c (.func 49 [])))) [(.t 54)])), (oA 7 (.mv (.t 55)))] []) (.seq (.seq (.reg [(oA 56 (.mv (.t 0))), (oA 57 (.call (.k (.v (.c (.func 71 [])))) [(.t 56), (.k (.v (.c (.p (.int .u8 58)))))])), (oA 58 (.un .not (.t 57)))] []) (.cond (.t 58) (.seq (.reg [(oA 59 (.mv (.t 0))), (oA 60 (.call (.k (.v (.c (.func 26 [])))) [(.t 59), (.k (.v (.c (.p (.int .i64 12)))))]))] []) (.exit 0)) .skip)) (.seq (.reg [(oA 61 (.mv (.t 0))), (oA 62 (.mv (.t 1))), (oA 63 (.bin .add 0 (.t 62) (.k (.v (.c (.p (.int .i64 1))))))), (oA 64 (.call (.k (.v (.c (.func 24 [])))) [(.t 61), (.t 63)])), (oA 8 (.alloc [(.p (.int .i64 0)), (.p (.bool false)), (.p (.int .i64 0)), (.p (.str [])), (.p .nilslice), (.p .nilslice)] false)), (oN (.store 6 (.t 8) (.t 64)))] []) (.seq (.reg [(oA 9 (.mv (.k (.v (.c (.p (.int .i64 0)))))))] []) (.seq (.block 2 (.loop 2 [0, 1, 4, 5, 6, 7, 8, 9] (.seq (.seq (.reg [(oA 65 (.mv (.t 9))), (oA 66 (.faddr 4 (.t 5))), (oA 67 (.load false 1 (.t 66))), (oA 68 (.len 2 (.t 67))), (oA 69 (.bin .lss 0 (.t 65) (.t 68))), (oA 70 (.mv (.t 69))), ⟨(some 71), (.faddr 4 (.t 5)), (some (70, true))⟩, ⟨(some 72), (.load false 1 (.t 71)), (some (70, true))⟩, ⟨(some 73), (.mv (.t 9)), (some (70, true))⟩, ⟨(some 74), (.iaddr 1 (.t 72) (.t 73)), (some (70, true))⟩, ⟨(some 75), (.load false 1 (.t 74)), (some (70, true))⟩, ⟨(some 76), (.mv (.t 7)), (some (70, true))⟩, ⟨(some 77), (.bin .lss 0 (.t 75) (.t 76)), (some (70, true))⟩, (oA 78 (.pick (.t 70) (.t 77) (.k (.v (.c (.p (.bool false)))))))] []) (.cond (.t 78) .skip (.exit 2))) (.block 3 (.reg [(oA 79 (.mv (.t 9))), (oA 80 (.bin .add 0 (.t 79) (.k (.v (.c (.p (.int .i64 1))))))), (oA 9 (.mv (.t 80)))] []))))) (.mark 3 [0, 1, 4, 5, 6, 7, 8, 9] (.seq (.reg [(oA 81 (.mv (.t 6))), (oA 82 (.mv (.t 81))), ⟨(some 83), (.mv (.t 9)), (some (82, false))⟩, ⟨(some 84), (.faddr 4 (.t 5)), (some (82, false))⟩, ⟨(some 85), (.load false 1 (.t 84)), (some (82, false))⟩, ⟨(some 86), (.len 2 (.t 85)), (some (82, false))⟩, ⟨(some 87), (.bin .lss 0 (.t 83) (.t 86)), (some (82, false))⟩, ⟨(some 88), (.mv (.t 87)), (some (82, false))⟩, ⟨(some 89), (.faddr 4 (.t 5)), (some (88, true))⟩, ⟨(some 90), (.load false 1 (.t 89)), (some (88, true))⟩, ⟨(some 91), (.mv (.t 9)), (some (88, true))⟩, ⟨(some 92), (.iaddr 1 (.t 90) (.t 91)), (some (88, true))⟩, ⟨(some 93), (.load false 1 (.t 92)), (some (88, true))⟩, ⟨(some 94), (.mv (.t 7)), (some (88, true))⟩, ⟨(some 95), (.bin .eql 0 (.t 93) (.t 94)), (some (88, true))⟩, ⟨(some 96), (.pick (.t 88) (.t 95) (.k (.v (.c (.p (.bool false)))))), (some (82, false))⟩, (oA 97 (.pick (.t 82) (.k (.v (.c (.p (.bool true))))) (.t 96))), (oA 6 (.mv (.t 97)))] []) (.seq (.reg [(oA 98 (.bslice 1 0 [(.p (.str []))] [] false)), (oA 99 (.faddr 4 (.t 5))), (oA 100 (.load false 1 (.t 99))), (oA 101 (.mv (.t 9))), (oA 102 (.slice 1 false (.t 100) none (some (.t 101)) none)), (oA 103 (.append 1 16 false (.t 98) (.t 102))), (oA 10 (.mv (.t 103)))] []) (.seq (.reg [(oA 104 (.bslice 6 0 [(.p (.int .i64 0)), (.p (.bool false)), (.p (.int .i64 0)), (.p (.str [])), (.p .nilslice), (.p .nilslice)] [] false)), (oA 105 (.faddr 5 (.t 5))), (oA 106 (.load false 1 (.t 105))), (oA 107 (.mv (.t 9))), (oA 108 (.slice 6 false (.t 106) none (some (.t 107)) none)), (oA 109 (.append 6 88 false (.t 104) (.t 108))), (oA 11 (.mv (.t 109)))] []) (.seq (.reg [(oA 110 (.mv (.t 10))), (oA 111 (.mv (.t 7))), (oA 112 (.bslice 1 1 [(.p (.str []))] [(0, (.t 111))] false)), (oA 113 (.append 1 16 false (.t 110) (.t 112))), (oA 114 (.faddr 4 (.t 5))), (oA 115 (.load false 1 (.t 114))), (oA 116 (.mv (.t 9))), (oA 117 (.slice 1 false (.t 115) (some (.t 116)) none none)), (oA 118 (.append 1 16 false (.t 113) (.t 117))), (oA 119 (.mv (.t 11))), (oA 120 (.load true 6 (.t 8))), (oA 121 (.bslice 6 1 [(.p (.int .i64 0)), (.p (.bool false)), (.p (.int .i64 0)), (.p (.str [])), (.p .nilslice), (.p .nilslice)] [(0, (.t 120))] false)), (oA 122 (.append 6 88 false (.t 119) (.t 121))), (oA 123 (.faddr 5 (.t 5))), (oA 124 (.load false 1 (.t 123))), (oA 125 (.mv (.t 9))), (oA 126 (.slice 6 false (.t 124) (some (.t 125)) none none)), (oA 127 (.append 6 88 false (.t 122) (.t 126))), (oA 128 (.faddr 4 (.t 5))), (oN (.store 1 (.t 128) (.t 118))), (oA 129 (.faddr 5 (.t 5))), (oN (.store 1 (.t 129) (.t 127)))] [(2, 5), (3, 5), (2, 10), (3, 10), (8, 10), (2, 11), (3, 11), (5, 11), (8, 11), (2, 14), (3, 14), (8, 14), (11, 14), (12, 14)]) (.seq (.reg [(oA 130 (.mv (.t 0))), (oA 131 (.call (.k (.v (.c (.func 71 [])))) [(.t 130), (.k (.v (.c (.p (.int .u8 44)))))])), (oA 132 (.un .not (.t 131)))] []) (.cond (.t 132) (.exit 0) .skip)))))))))))))))))) (.mark 4 [0, 4, 5, 6] (.seq (.seq (.reg [(oA 133 (.mv (.t 0))), (oA 134 (.call (.k (.v (.c (.func 71 [])))) [(.t 133), (.k (.v (.c (.p (.int .u8 125)))))])), (oA 135 (.un .not (.t 134)))] []) (.cond (.t 135) (.reg [(oA 136 (.mv (.t 0))), (oA 137 (.call (.k (.v (.c (.func 26 [])))) [(.t 136), (.k (.v (.c (.p (.int .i64 12)))))]))] []) .skip)) (.mark 5 [0, 4, 5, 6] (.seq (.seq (.reg [(oA 138 (.mv (.t 6)))] []) (.cond (.t 138) (.reg [(oA 139 (.mv (.t 0))), (oA 140 (.call (.k (.v (.c (.func 26 [])))) [(.t 139), (.k (.v (.c (.p (.int .i64 6)))))]))] []) .skip)) (.mark 6 [4, 5] (.seq (.reg [(oA 141 (.load true 6 (.t 5))), (oN (.store 6 (.t 4) (.t 141)))] []) .ret)))))))))))) }
theorem t51 : compF Tryz.prog (globs2 tabs opq) (fun _ => false) true Tryz.f51 = some c51.erase := by kernel_rfl
noncomputable def b51_0 (O : Oracle) (R : Jump) (q : Nat) (x0 x1 : TVal) (h : Heap) : Res1 :=
 vop O (.alloc [(.p (.int .i64 0)), (.p (.bool false)), (.p (.int .i64 0)), (.p (.str [])), (.p .nilslice), (.p .nilslice)] false) h 4 fun x4 h =>
 vop O (.build [(.p (.int .i64 0)), (.p (.bool false)), (.p (.int .i64 0)), (.p (.str [])), (.p .nilslice), (.p .nilslice)] [(0, 1, (.k (kI 5)))]) h 12 fun x12 h =>
 vop O (.alloc [(.p (.int .i64 0)), (.p (.bool false)), (.p (.int .i64 0)), (.p (.str [])), (.p .nilslice), (.p .nilslice)] false) h 5 fun x5 h =>
 vstore 6 x5 x12 h fun _ h =>
 vop O (.nilck (.k x0)) h 14 fun x14 h =>
 vfaddr 1 x14 h fun x15 h =>
 vload false 1 x15 h fun x16 h =>
 vbin .add 0 x16 (kI 1) h fun x17 h =>
 vop O (.nilck (.k x0)) h 18 fun x18 h =>
 vfaddr 1 x18 h fun x19 h =>
 vstore 1 x19 x17 h fun _ h =>
 vcall O (.v (.c (.func 71 []))) [x0, (.v (.c (.p (.int .u8 125))))] h 21 fun x21 h =>
 vif x21 (
 vload true 6 x5 h fun x22 h =>
 vstore 6 x4 x22 h fun _ h =>
 vcell true 6 x4 h fun c0 => vfin true q [c0] h)
 (R 1 [x0, x1, x4, x5, (kB false)] h)
theorem e51_0 (O : Oracle) (R : Jump) (q : Nat) (x0 x1 : TVal) (h : Heap) : b51_0 O R q x0 x1 h = stepF c51 O R q 0 [x0, x1] h := by kernel_rfl
noncomputable def b51_1 (O : Oracle) (R : Jump) (q : Nat) (x0 x1 x4 x5 x6 : TVal) (h : Heap) : Res1 :=
 vop O (.nilck (.k x0)) h 24 fun x24 h =>
 vfaddr 2 x24 h fun x25 h =>
 vload false 1 x25 h fun x26 h =>
 vbin .eql 0 x26 (kI 0) h fun x27 h =>
 vif x27 (
 vcall O (.v (.c (.func 25 []))) [x0] h 29 fun x29 h =>
 vop O (.nilck (.k x0)) h 31 fun x31 h =>
 vfaddr 1 x31 h fun x32 h =>
 vload false 1 x32 h fun x33 h =>
 vop O (.nilck (.k x0)) h 35 fun x35 h =>
 vfaddr 0 x35 h fun x36 h =>
 vload false 1 x36 h fun x37 h =>
 vlen O 0 x37 h 38 fun x38 h =>
 vbin .geq 0 x33 x38 h fun x39 h =>
 vguard x39 false (fun kk => kk x0 h) h fun x41 h =>
 vguard x39 false (fun kk => vop O (.nilck (.k x41)) h 42 kk) h fun x42 h =>
 vguard x39 false (fun kk => vfaddr 0 x42 h kk) h fun x43 h =>
 vguard x39 false (fun kk => vload false 1 x43 h kk) h fun x44 h =>
 vguard x39 false (fun kk => kk x0 h) h fun x45 h =>
 vguard x39 false (fun kk => vop O (.nilck (.k x45)) h 46 kk) h fun x46 h =>
 vguard x39 false (fun kk => vfaddr 1 x46 h kk) h fun x47 h =>
 vguard x39 false (fun kk => vload false 1 x47 h kk) h fun x48 h =>
 vguard x39 false (fun kk => vindex x44 x48 h kk) h fun x49 h =>
 vguard x39 false (fun kk => vbin .neq 0 x49 (.v (.c (.p (.int .u8 34)))) h kk) h fun x50 h =>
 vop O (.pick (.k x39) (.k (kB true)) (.k x50)) h 51 fun x51 h =>
 vif x51 (
 vcall O (.v (.c (.func 26 []))) [x0, (kI 12)] h 53 fun x53 h =>
 R 4 [x0, x4, x5, x6] h)
 (vcall O (.v (.c (.func 49 []))) [x0] h 55 fun x55 h =>
 vcall O (.v (.c (.func 71 []))) [x0, (.v (.c (.p (.int .u8 58))))] h 57 fun x57 h =>
 vop O (.un .not (.k x57)) h 58 fun x58 h =>
 vif x58 (
 vcall O (.v (.c (.func 26 []))) [x0, (kI 12)] h 60 fun x60 h =>
 R 4 [x0, x4, x5, x6] h)
 (vbin .add 0 x1 (kI 1) h fun x63 h =>
 vcall O (.v (.c (.func 24 []))) [x0, x63] h 64 fun x64 h =>
 vop O (.alloc [(.p (.int .i64 0)), (.p (.bool false)), (.p (.int .i64 0)), (.p (.str [])), (.p .nilslice), (.p .nilslice)] false) h 8 fun x8 h =>
 vstore 6 x8 x64 h fun _ h =>
 R 2 [x0, x1, x4, x5, x6, x55, x8, (kI 0)] h)))
 (R 4 [x0, x4, x5, x6] h)
theorem e51_1 (O : Oracle) (R : Jump) (q : Nat) (x0 x1 x4 x5 x6 : TVal) (h : Heap) : b51_1 O R q x0 x1 x4 x5 x6 h = stepF c51 O R q 1 [x0, x1, x4, x5, x6] h := by kernel_rfl
noncomputable def b51_2 (O : Oracle) (R : Jump) (q : Nat) (x0 x1 x4 x5 x6 x7 x8 x9 : TVal) (h : Heap) : Res1 :=
 vfaddr 4 x5 h fun x66 h =>
 vload false 1 x66 h fun x67 h =>
 vlen O 2 x67 h 68 fun x68 h =>
 vbin .lss 0 x9 x68 h fun x69 h =>
 vguard x69 true (fun kk => vfaddr 4 x5 h kk) h fun x71 h =>
 vguard x69 true (fun kk => vload false 1 x71 h kk) h fun x72 h =>
 vguard x69 true (fun kk => kk x9 h) h fun x73 h =>
 vguard x69 true (fun kk => viaddr 1 x72 x73 h kk) h fun x74 h =>
 vguard x69 true (fun kk => vload false 1 x74 h kk) h fun x75 h =>
 vguard x69 true (fun kk => kk x7 h) h fun x76 h =>
 vguard x69 true (fun kk => vbin .lss 0 x75 x76 h kk) h fun x77 h =>
 vop O (.pick (.k x69) (.k x77) (.k (kB false))) h 78 fun x78 h =>
 vif x78 (
 vbin .add 0 x9 (kI 1) h fun x80 h =>
 R 2 [x0, x1, x4, x5, x6, x7, x8, x80] h)
 (R 3 [x0, x1, x4, x5, x6, x7, x8, x9] h)
theorem e51_2 (O : Oracle) (R : Jump) (q : Nat) (x0 x1 x4 x5 x6 x7 x8 x9 : TVal) (h : Heap) : b51_2 O R q x0 x1 x4 x5 x6 x7 x8 x9 h = stepF c51 O R q 2 [x0, x1, x4, x5, x6, x7, x8, x9] h := by kernel_rfl
noncomputable def b51_3 (O : Oracle) (R : Jump) (q : Nat) (x0 x1 x4 x5 x6 x7 x8 x9 : TVal) (h : Heap) : Res1 :=
 vguard x6 false (fun kk => kk x9 h) h fun x83 h =>
 vguard x6 false (fun kk => vfaddr 4 x5 h kk) h fun x84 h =>
 vguard x6 false (fun kk => vload false 1 x84 h kk) h fun x85 h =>
 vguard x6 false (fun kk => vlen O 2 x85 h 86 kk) h fun x86 h =>
 vguard x6 false (fun kk => vbin .lss 0 x83 x86 h kk) h fun x87 h =>
 vguard x6 false (fun kk => kk x87 h) h fun x88 h =>
 vguard x88 true (fun kk => vfaddr 4 x5 h kk) h fun x89 h =>
 vguard x88 true (fun kk => vload false 1 x89 h kk) h fun x90 h =>
 vguard x88 true (fun kk => kk x9 h) h fun x91 h =>
 vguard x88 true (fun kk => viaddr 1 x90 x91 h kk) h fun x92 h =>
 vguard x88 true (fun kk => vload false 1 x92 h kk) h fun x93 h =>
 vguard x88 true (fun kk => kk x7 h) h fun x94 h =>
 vguard x88 true (fun kk => vbin .eql 0 x93 x94 h kk) h fun x95 h =>
 vguard x6 false (fun kk => vop O (.pick (.k x88) (.k x95) (.k (kB false))) h 96 kk) h fun x96 h =>
 vop O (.pick (.k x6) (.k (kB true)) (.k x96)) h 97 fun x97 h =>
 vop O (.bslice 1 0 [(.p (.str []))] [] false) h 98 fun x98 h =>
 vfaddr 4 x5 h fun x99 h =>
 vload false 1 x99 h fun x100 h =>
 vop O (.slice 1 false (.k x100) none (some (.k x9)) none) h 102 fun x102 h =>
 vop O (.append 1 16 false (.k x98) (.k x102)) h 103 fun x103 h =>
 vop O (.bslice 6 0 [(.p (.int .i64 0)), (.p (.bool false)), (.p (.int .i64 0)), (.p (.str [])), (.p .nilslice), (.p .nilslice)] [] false) h 104 fun x104 h =>
 vfaddr 5 x5 h fun x105 h =>
 vload false 1 x105 h fun x106 h =>
 vop O (.slice 6 false (.k x106) none (some (.k x9)) none) h 108 fun x108 h =>
 vop O (.append 6 88 false (.k x104) (.k x108)) h 109 fun x109 h =>
 vtouch O (.mv (.k x103)) h 110 fun x110 h t0 =>
 vtouch O (.mv (.k x7)) h 111 fun x111 h t1 =>
 vtouch O (.bslice 1 1 [(.p (.str []))] [(0, (.k x111))] false) h 112 fun x112 h t2 =>
 vtouch O (.append 1 16 false (.k x110) (.k x112)) h 113 fun x113 h t3 =>
 vtouch O (.faddr 4 (.k x5)) h 114 fun x114 h t4 =>
 vtouch O (.load false 1 (.k x114)) h 115 fun x115 h t5 =>
 vtouch O (.mv (.k x9)) h 116 fun x116 h t6 =>
 vtouch O (.slice 1 false (.k x115) (some (.k x116)) none none) h 117 fun x117 h t7 =>
 vtouch O (.append 1 16 false (.k x113) (.k x117)) h 118 fun x118 h t8 =>
 vtouch O (.mv (.k x109)) h 119 fun x119 h t9 =>
 vtouch O (.load true 6 (.k x8)) h 120 fun x120 h t10 =>
 vtouch O (.bslice 6 1 [(.p (.int .i64 0)), (.p (.bool false)), (.p (.int .i64 0)), (.p (.str [])), (.p .nilslice), (.p .nilslice)] [(0, (.k x120))] false) h 121 fun x121 h t11 =>
 vtouch O (.append 6 88 false (.k x119) (.k x121)) h 122 fun x122 h t12 =>
 vtouch O (.faddr 5 (.k x5)) h 123 fun x123 h t13 =>
 vtouch O (.load false 1 (.k x123)) h 124 fun x124 h t14 =>
 vtouch O (.mv (.k x9)) h 125 fun x125 h t15 =>
 vtouch O (.slice 6 false (.k x124) (some (.k x125)) none none) h 126 fun x126 h t16 =>
 vtouch O (.append 6 88 false (.k x122) (.k x126)) h 127 fun x127 h t17 =>
 vtouch O (.faddr 4 (.k x5)) h 128 fun x128 h t18 =>
 vtouch O (.store 1 (.k x128) (.k x118)) h 1000000 fun _ h t19 =>
 vtouch O (.faddr 5 (.k x5)) h 129 fun x129 h t20 =>
 vtouch O (.store 1 (.k x129) (.k x127)) h 1000000 fun _ h t21 =>
 bif apartAll [t0, t1, t2, t3, t4, t5, t6, t7, t8, t9, t10, t11, t12, t13, t14, t15, t16, t17, t18, t19, t20, t21] [(2, 5), (3, 5), (2, 10), (3, 10), (8, 10), (2, 11), (3, 11), (5, 11), (8, 11), (2, 14), (3, 14), (8, 14), (11, 14), (12, 14)] then
 vcall O (.v (.c (.func 71 []))) [x0, (.v (.c (.p (.int .u8 44))))] h 131 fun x131 h =>
 vop O (.un .not (.k x131)) h 132 fun x132 h =>
 vif x132 (
 R 4 [x0, x4, x5, x97] h)
 (R 1 [x0, x1, x4, x5, x97] h)
 else none
theorem e51_3 (O : Oracle) (R : Jump) (q : Nat) (x0 x1 x4 x5 x6 x7 x8 x9 : TVal) (h : Heap) : b51_3 O R q x0 x1 x4 x5 x6 x7 x8 x9 h = stepF c51 O R q 3 [x0, x1, x4, x5, x6, x7, x8, x9] h := by kernel_rfl
noncomputable def b51_4 (O : Oracle) (R : Jump) (q : Nat) (x0 x4 x5 x6 : TVal) (h : Heap) : Res1 :=
 vcall O (.v (.c (.func 71 []))) [x0, (.v (.c (.p (.int .u8 125))))] h 134 fun x134 h =>
 vop O (.un .not (.k x134)) h 135 fun x135 h =>
 vif x135 (
 vcall O (.v (.c (.func 26 []))) [x0, (kI 12)] h 137 fun x137 h =>
 R 5 [x0, x4, x5, x6] h)
 (R 5 [x0, x4, x5, x6] h)
theorem e51_4 (O : Oracle) (R : Jump) (q : Nat) (x0 x4 x5 x6 : TVal) (h : Heap) : b51_4 O R q x0 x4 x5 x6 h = stepF c51 O R q 4 [x0, x4, x5, x6] h := by kernel_rfl
noncomputable def b51_5 (O : Oracle) (R : Jump) (q : Nat) (x0 x4 x5 x6 : TVal) (h : Heap) : Res1 :=
 vif x6 (
 vcall O (.v (.c (.func 26 []))) [x0, (kI 6)] h 140 fun x140 h =>
 R 6 [x4, x5] h)
 (R 6 [x4, x5] h)
theorem e51_5 (O : Oracle) (R : Jump) (q : Nat) (x0 x4 x5 x6 : TVal) (h : Heap) : b51_5 O R q x0 x4 x5 x6 h = stepF c51 O R q 5 [x0, x4, x5, x6] h := by kernel_rfl
noncomputable def b51_6 (O : Oracle) (R : Jump) (q : Nat) (x4 x5 : TVal) (h : Heap) : Res1 :=
 vload true 6 x5 h fun x141 h =>
 vstore 6 x4 x141 h fun _ h =>
 vcell true 6 x4 h fun c0 => vfin true q [c0] h
theorem e51_6 (O : Oracle) (R : Jump) (q : Nat) (x4 x5 : TVal) (h : Heap) : b51_6 O R q x4 x5 h = stepF c51 O R q 6 [x4, x5] h := by kernel_rfl
noncomputable def d51 : BlkF := fun O R q => [.s fun y0 => .s fun y1 => .z fun h => b51_0 O R q y0 y1 h, .s fun y0 => .s fun y1 => .s fun y2 => .s fun y3 => .s fun y4 => .z fun h => b51_1 O R q y0 y1 y2 y3 y4 h, .s fun y0 => .s fun y1 => .s fun y2 => .s fun y3 => .s fun y4 => .s fun y5 => .s fun y6 => .s fun y7 => .z fun h => b51_2 O R q y0 y1 y2 y3 y4 y5 y6 y7 h, .s fun y0 => .s fun y1 => .s fun y2 => .s fun y3 => .s fun y4 => .s fun y5 => .s fun y6 => .s fun y7 => .z fun h => b51_3 O R q y0 y1 y2 y3 y4 y5 y6 y7 h, .s fun y0 => .s fun y1 => .s fun y2 => .s fun y3 => .z fun h => b51_4 O R q y0 y1 y2 y3 h, .s fun y0 => .s fun y1 => .s fun y2 => .s fun y3 => .z fun h => b51_5 O R q y0 y1 y2 y3 h, .s fun y0 => .s fun y1 => .z fun h => b51_6 O R q y0 y1 h]
theorem o51 (O : Oracle) (R : Jump) (q : Nat) : HoldsAll c51 O R q 0 (d51 O R q) := ⟨fun y0 y1 h => e51_0 O R q y0 y1 h, fun y0 y1 y2 y3 y4 h => e51_1 O R q y0 y1 y2 y3 y4 h, fun y0 y1 y2 y3 y4 y5 y6 y7 h => e51_2 O R q y0 y1 y2 y3 y4 y5 y6 y7 h, fun y0 y1 y2 y3 y4 y5 y6 y7 h => e51_3 O R q y0 y1 y2 y3 y4 y5 y6 y7 h, fun y0 y1 y2 y3 h => e51_4 O R q y0 y1 y2 y3 h, fun y0 y1 y2 y3 h => e51_5 O R q y0 y1 y2 y3 h, fun y0 y1 h => e51_6 O R q y0 y1 h, trivial⟩
/- (*sprue/sprueref13.reader).number -/
def c52 : MFunc := { np := 1, res := [.cell 2 true 6], frz := true, body := (.seq (.reg [(oA 2 (.alloc [(.p (.int .i64 0)), (.p (.bool false)), (.p (.int .i64 0)), (.p (.str [])), (.p .nilslice), (.p .nilslice)] false))] []) (.seq (.reg [(oA 6 (.mv (.t 0))), (oA 7 (.nilck (.t 6))), (oA 8 (.faddr 1 (.t 7))), (oA 9 (.load false 1 (.t 8))), (oA 3 (.mv (.t 9)))] []) (.seq (.seq (.reg [(oA 10 (.mv (.t 0))), (oA 11 (.nilck (.t 10))), (oA 12 (.faddr 0 (.t 11))), (oA 13 (.load false 1 (.t 12))), (oA 14 (.mv (.t 3))), (oA 15 (.index (.t 13) (.t 14))), (oA 16 (.bin .eql 0 (.t 15) (.k (.v (.c (.p (.int .u8 45)))))))] []) (.cond (.t 16) (.reg [(oA 17 (.mv (.t 3))), (oA 18 (.bin .add 0 (.t 17) (.k (.v (.c (.p (.int .i64 1))))))), (oA 3 (.mv (.t 18)))] []) .skip)) (.mark 1 [0, 2, 3] (.seq (.seq (.reg [(oA 19 (.mv (.t 3))), (oA 20 (.mv (.t 0))), (oA 21 (.nilck (.t 20))), (oA 22 (.faddr 0 (.t 21))), (oA 23 (.load false 1 (.t 22))), (oA 24 (.len 0 (.t 23))), (oA 25 (.bin .geq 0 (.t 19) (.t 24))), (oA 26 (.mv (.t 25))), ⟨(some 27), (.mv (.t 0)), (some (26, false))⟩, ⟨(some 28), (.nilck (.t 27)), (some (26, false))⟩, ⟨(some 29), (.faddr 0 (.t 28)), (some (26, false))⟩, ⟨(some 30), (.load false 1 (.t 29)), (some (26, false))⟩, ⟨(some 31), (.mv (.t 3)), (some (26, false))⟩, ⟨(some 32), (.index (.t 30) (.t 31)), (some (26, false))⟩, ⟨(some 33), (.call (.k (.v (.c (.func 48 [])))) [(.t 32)]), (some (26, false))⟩, ⟨(some 34), (.un .not (.t 33)), (some (26, false))⟩, (oA 35 (.pick (.t 26) (.k (.v (.c (.p (.bool true))))) (.t 34)))] []) (.cond (.t 35) (.seq (.reg [(oA 36 (.mv (.t 0))), (oA 37 (.call (.k (.v (.c (.func 26 [])))) [(.t 36), (.k (.v (.c (.p (.int .i64 12)))))]))] []) (.seq (.reg [(oA 38 (.build [(.p (.int .i64 0)), (.p (.bool false)), (.p (.int .i64 0)), (.p (.str [])), (.p .nilslice), (.p .nilslice)] [])), (oN (.store 6 (.t 2) (.t 38)))] []) .ret)) .skip)) (.seq (.seq (.reg [(oA 39 (.mv (.t 0))), (oA 40 (.nilck (.t 39))), (oA 41 (.faddr 0 (.t 40))), (oA 42 (.load false 1 (.t 41))), (oA 43 (.mv (.t 3))), (oA 44 (.index (.t 42) (.t 43))), (oA 45 (.bin .eql 0 (.t 44) (.k (.v (.c (.p (.int .u8 48)))))))] []) (.cond (.t 45) (.reg [(oA 46 (.mv (.t 3))), (oA 47 (.bin .add 0 (.t 46) (.k (.v (.c (.p (.int .i64 1))))))), (oA 3 (.mv (.t 47)))] []) (.block 0 (.loop 2 [0, 2, 3] (.seq (.seq (.reg [(oA 48 (.mv (.t 3))), (oA 49 (.mv (.t 0))), (oA 50 (.nilck (.t 49))), (oA 51 (.faddr 0 (.t 50))), (oA 52 (.load false 1 (.t 51))), (oA 53 (.len 0 (.t 52))), (oA 54 (.bin .lss 0 (.t 48) (.t 53))), (oA 55 (.mv (.t 54))), ⟨(some 56), (.mv (.t 0)), (some (55, true))⟩, ⟨(some 57), (.nilck (.t 56)), (some (55, true))⟩, ⟨(some 58), (.faddr 0 (.t 57)), (some (55, true))⟩, ⟨(some 59), (.load false 1 (.t 58)), (some (55, true))⟩, ⟨(some 60), (.mv (.t 3)), (some (55, true))⟩, ⟨(some 61), (.index (.t 59) (.t 60)), (some (55, true))⟩, ⟨(some 62), (.call (.k (.v (.c (.func 48 [])))) [(.t 61)]), (some (55, true))⟩, (oA 63 (.pick (.t 55) (.t 62) (.k (.v (.c (.p (.bool false)))))))] []) (.cond (.t 63) .skip (.exit 0))) (.block 1 (.reg [(oA 64 (.mv (.t 3))), (oA 65 (.bin .add 0 (.t 64) (.k (.v (.c (.p (.int .i64 1))))))), (oA 3 (.mv (.t 65)))] []))))))) (.mark 3 [0, 2, 3] (.seq (.reg [(oA 67 (.mv (.t 0))), (oA 68 (.nilck (.t 67))), (oA 69 (.faddr 0 (.t 68))), (oA 70 (.load false 1 (.t 69))), (oA 71 (.mv (.t 0))), (oA 72 (.nilck (.t 71))), (oA 73 (.faddr 1 (.t 72))), (oA 74 (.load false 1 (.t 73))), (oA 75 (.mv (.t 3))), (oA 76 (.slice 0 true (.t 70) (some (.t 74)) (some (.t 75)) none)), (oA 77 (.call (.k (.v (.c (.func 72 [])))) [(.t 76)])), (oA 66 (.mv (.t 77))), (oA 78 (.extract (.t 66) 0)), (oA 79 (.extract (.t 66) 1)), (oA 4 (.mv (.t 78))), (oA 5 (.mv (.t 79)))] []) (.seq (.seq (.reg [(oA 80 (.mv (.t 5))), (oA 81 (.bin .neq 0 (.t 80) (.k (.v (.c (.p (.int .i64 0)))))))] []) (.cond (.t 81) (.seq (.reg [(oA 82 (.mv (.t 0))), (oA 83 (.call (.k (.v (.c (.func 26 [])))) [(.t 82), (.k (.v (.c (.p (.int .i64 11)))))]))] []) (.seq (.reg [(oA 84 (.build [(.p (.int .i64 0)), (.p (.bool false)), (.p (.int .i64 0)), (.p (.str [])), (.p .nilslice), (.p .nilslice)] [])), (oN (.store 6 (.t 2) (.t 84)))] []) .ret)) .skip)) (.seq (.reg [(oA 85 (.mv (.t 0))), (oA 86 (.mv (.t 3))), (oA 87 (.nilck (.t 85))), (oA 88 (.faddr 1 (.t 87))), (oN (.store 1 (.t 88) (.t 86)))] []) (.seq (.reg [(oA 89 (.mv (.t 4))), (oA 90 (.build [(.p (.int .i64 0)), (.p (.bool false)), (.p (.int .i64 0)), (.p (.str [])), (.p .nilslice), (.p .nilslice)] [(0, 1, (.k (.v (.c (.p (.int .i64 2)))))), (2, 1, (.t 89))])), (oN (.store 6 (.t 2) (.t 90)))] []) .ret))))))))))) }
theorem t52 : compF Tryz.prog (globs2 tabs opq) (fun _ => false) true Tryz.f52 = some c52.erase := by kernel_rfl
noncomputable def b52_0 (O : Oracle) (R : Jump) (q : Nat) (x0 : TVal) (h : Heap) : Res1 :=
 vop O (.alloc [(.p (.int .i64 0)), (.p (.bool false)), (.p (.int .i64 0)), (.p (.str [])), (.p .nilslice), (.p .nilslice)] false) h 2 fun x2 h =>
 vop O (.nilck (.k x0)) h 7 fun x7 h =>
 vfaddr 1 x7 h fun x8 h =>
 vload false 1 x8 h fun x9 h =>
 vop O (.nilck (.k x0)) h 11 fun x11 h =>
 vfaddr 0 x11 h fun x12 h =>
 vload false 1 x12 h fun x13 h =>
 vindex x13 x9 h fun x15 h =>
 vbin .eql 0 x15 (.v (.c (.p (.int .u8 45)))) h fun x16 h =>
 vif x16 (
 vbin .add 0 x9 (kI 1) h fun x18 h =>
 R 1 [x0, x2, x18] h)
 (R 1 [x0, x2, x9] h)
theorem e52_0 (O : Oracle) (R : Jump) (q : Nat) (x0 : TVal) (h : Heap) : b52_0 O R q x0 h = stepF c52 O R q 0 [x0] h := by kernel_rfl
noncomputable def b52_1 (O : Oracle) (R : Jump) (q : Nat) (x0 x2 x3 : TVal) (h : Heap) : Res1 :=
 vop O (.nilck (.k x0)) h 21 fun x21 h =>
 vfaddr 0 x21 h fun x22 h =>
 vload false 1 x22 h fun x23 h =>
 vlen O 0 x23 h 24 fun x24 h =>
 vbin .geq 0 x3 x24 h fun x25 h =>
 vguard x25 false (fun kk => kk x0 h) h fun x27 h =>
 vguard x25 false (fun kk => vop O (.nilck (.k x27)) h 28 kk) h fun x28 h =>
 vguard x25 false (fun kk => vfaddr 0 x28 h kk) h fun x29 h =>
 vguard x25 false (fun kk => vload false 1 x29 h kk) h fun x30 h =>
 vguard x25 false (fun kk => kk x3 h) h fun x31 h =>
 vguard x25 false (fun kk => vindex x30 x31 h kk) h fun x32 h =>
 vguard x25 false (fun kk => vcall O (.v (.c (.func 48 []))) [x32] h 33 kk) h fun x33 h =>
 vguard x25 false (fun kk => vop O (.un .not (.k x33)) h 34 kk) h fun x34 h =>
 vop O (.pick (.k x25) (.k (kB true)) (.k x34)) h 35 fun x35 h =>
 vif x35 (
 vcall O (.v (.c (.func 26 []))) [x0, (kI 12)] h 37 fun x37 h =>
 vop O (.build [(.p (.int .i64 0)), (.p (.bool false)), (.p (.int .i64 0)), (.p (.str [])), (.p .nilslice), (.p .nilslice)] []) h 38 fun x38 h =>
 vstore 6 x2 x38 h fun _ h =>
 vcell true 6 x2 h fun c0 => vfin true q [c0] h)
 (vop O (.nilck (.k x0)) h 40 fun x40 h =>
 vfaddr 0 x40 h fun x41 h =>
 vload false 1 x41 h fun x42 h =>
 vindex x42 x3 h fun x44 h =>
 vbin .eql 0 x44 (.v (.c (.p (.int .u8 48)))) h fun x45 h =>
 vif x45 (
 vbin .add 0 x3 (kI 1) h fun x47 h =>
 R 3 [x0, x2, x47] h)
 (R 2 [x0, x2, x3] h))
theorem e52_1 (O : Oracle) (R : Jump) (q : Nat) (x0 x2 x3 : TVal) (h : Heap) : b52_1 O R q x0 x2 x3 h = stepF c52 O R q 1 [x0, x2, x3] h := by kernel_rfl
noncomputable def b52_2 (O : Oracle) (R : Jump) (q : Nat) (x0 x2 x3 : TVal) (h : Heap) : Res1 :=
 vop O (.nilck (.k x0)) h 50 fun x50 h =>
 vfaddr 0 x50 h fun x51 h =>
 vload false 1 x51 h fun x52 h =>
 vlen O 0 x52 h 53 fun x53 h =>
 vbin .lss 0 x3 x53 h fun x54 h =>
 vguard x54 true (fun kk => kk x0 h) h fun x56 h =>
 vguard x54 true (fun kk => vop O (.nilck (.k x56)) h 57 kk) h fun x57 h =>
 vguard x54 true (fun kk => vfaddr 0 x57 h kk) h fun x58 h =>
 vguard x54 true (fun kk => vload false 1 x58 h kk) h fun x59 h =>
 vguard x54 true (fun kk => kk x3 h) h fun x60 h =>
 vguard x54 true (fun kk => vindex x59 x60 h kk) h fun x61 h =>
 vguard x54 true (fun kk => vcall O (.v (.c (.func 48 []))) [x61] h 62 kk) h fun x62 h =>
 vop O (.pick (.k x54) (.k x62) (.k (kB false))) h 63 fun x63 h =>
 vif x63 (
 vbin .add 0 x3 (kI 1) h fun x65 h =>
 R 2 [x0, x2, x65] h)
 (R 3 [x0, x2, x3] h)
theorem e52_2 (O : Oracle) (R : Jump) (q : Nat) (x0 x2 x3 : TVal) (h : Heap) : b52_2 O R q x0 x2 x3 h = stepF c52 O R q 2 [x0, x2, x3] h := by kernel_rfl
noncomputable def b52_3 (O : Oracle) (R : Jump) (q : Nat) (x0 x2 x3 : TVal) (h : Heap) : Res1 :=
 vop O (.nilck (.k x0)) h 68 fun x68 h =>
 vfaddr 0 x68 h fun x69 h =>
 vload false 1 x69 h fun x70 h =>
 vop O (.nilck (.k x0)) h 72 fun x72 h =>
 vfaddr 1 x72 h fun x73 h =>
 vload false 1 x73 h fun x74 h =>
 vop O (.slice 0 true (.k x70) (some (.k x74)) (some (.k x3)) none) h 76 fun x76 h =>
 vcall O (.v (.c (.func 72 []))) [x76] h 77 fun x77 h =>
 vext x77 0 h fun x78 h =>
 vext x77 1 h fun x79 h =>
 vbin .neq 0 x79 (kI 0) h fun x81 h =>
 vif x81 (
 vcall O (.v (.c (.func 26 []))) [x0, (kI 11)] h 83 fun x83 h =>
 vop O (.build [(.p (.int .i64 0)), (.p (.bool false)), (.p (.int .i64 0)), (.p (.str [])), (.p .nilslice), (.p .nilslice)] []) h 84 fun x84 h =>
 vstore 6 x2 x84 h fun _ h =>
 vcell true 6 x2 h fun c0 => vfin true q [c0] h)
 (vop O (.nilck (.k x0)) h 87 fun x87 h =>
 vfaddr 1 x87 h fun x88 h =>
 vstore 1 x88 x3 h fun _ h =>
 vop O (.build [(.p (.int .i64 0)), (.p (.bool false)), (.p (.int .i64 0)), (.p (.str [])), (.p .nilslice), (.p .nilslice)] [(0, 1, (.k (kI 2))), (2, 1, (.k x78))]) h 90 fun x90 h =>
 vstore 6 x2 x90 h fun _ h =>
 vcell true 6 x2 h fun c0 => vfin true q [c0] h)
theorem e52_3 (O : Oracle) (R : Jump) (q : Nat) (x0 x2 x3 : TVal) (h : Heap) : b52_3 O R q x0 x2 x3 h = stepF c52 O R q 3 [x0, x2, x3] h := by kernel_rfl
noncomputable def d52 : BlkF := fun O R q => [.s fun y0 => .z fun h => b52_0 O R q y0 h, .s fun y0 => .s fun y1 => .s fun y2 => .z fun h => b52_1 O R q y0 y1 y2 h, .s fun y0 => .s fun y1 => .s fun y2 => .z fun h => b52_2 O R q y0 y1 y2 h, .s fun y0 => .s fun y1 => .s fun y2 => .z fun h => b52_3 O R q y0 y1 y2 h]
theorem o52 (O : Oracle) (R : Jump) (q : Nat) : HoldsAll c52 O R q 0 (d52 O R q) := ⟨fun y0 h => e52_0 O R q y0 h, fun y0 y1 y2 h => e52_1 O R q y0 y1 y2 h, fun y0 y1 y2 h => e52_2 O R q y0 y1 y2 h, fun y0 y1 y2 h => e52_3 O R q y0 y1 y2 h, trivial⟩
/- (*sprue/sprueref13.walk).check -/
def c53 : MFunc := { np := 3, res := [.t 6], frz := true, body := (.seq (.reg [(oA 4 (.box (.t 1) false)), (oA 6 (.mv (.k (.v (.c (.p (.int .i64 0)))))))] []) (.seq (.reg [(oA 11 (.mv (.t 0))), (oA 12 (.nilck (.t 11))), (oA 13 (.faddr 0 (.t 12))), (oA 14 (.load false 1 (.t 13))), (oA 15 (.bin .add 0 (.t 14) (.k (.v (.c (.p (.int .i64 1))))))), (oA 16 (.nilck (.t 11))), (oA 17 (.faddr 0 (.t 16))), (oN (.store 1 (.t 17) (.t 15)))] []) (.seq (.seq (.reg [(oA 18 (.mv (.t 0))), (oA 19 (.nilck (.t 18))), (oA 20 (.faddr 0 (.t 19))), (oA 21 (.load false 1 (.t 20))), (oA 22 (.bin .gtr 0 (.t 21) (.k (.v (.c (.p (.int .i64 2000)))))))] []) (.cond (.t 22) (.seq (.reg [(oA 6 (.mv (.k (.v (.c (.p (.int .i64 3)))))))] []) .ret) .skip)) (.seq (.seq (.reg [(oA 23 (.load true 6 (.t 4))), (oA 24 (.call (.k (.v (.c (.func 73 [])))) [(.t 23)])), (oA 25 (.un .not (.t 24)))] []) (.cond (.t 25) (.seq (.reg [(oA 6 (.mv (.k (.v (.c (.p (.int .i64 1)))))))] []) .ret) .skip)) (.seq (.seq (.reg [(oA 26 (.mv (.t 2))), (oA 27 (.bin .gtr 0 (.t 26) (.k (.v (.c (.p (.int .i64 12)))))))] []) (.cond (.t 27) (.seq (.reg [(oA 6 (.mv (.k (.v (.c (.p (.int .i64 13)))))))] []) .ret) .skip)) (.seq (.seq (.reg [(oA 28 (.faddr 5 (.t 4))), (oA 29 (.load false 1 (.t 28))), (oA 30 (.len 2 (.t 29))), (oA 31 (.bin .gtr 0 (.t 30) (.k (.v (.c (.p (.int .i64 40)))))))] []) (.cond (.t 31) (.seq (.reg [(oA 6 (.mv (.k (.v (.c (.p (.int .i64 3)))))))] []) .ret) .skip)) (.seq (.seq (.reg [(oA 32 (.faddr 3 (.t 4))), (oA 33 (.load false 1 (.t 32))), (oA 34 (.len 0 (.t 33))), (oA 35 (.bin .gtr 0 (.t 34) (.k (.v (.c (.p (.int .i64 200)))))))] []) (.cond (.t 35) (.seq (.reg [(oA 6 (.mv (.k (.v (.c (.p (.int .i64 4)))))))] []) .ret) .skip)) (.seq (.seq (.reg [(oA 7 (.mv (.k (.v (.c (.p (.int .i64 0)))))))] []) (.block 0 (.loop 1 [0, 2, 4, 7] (.seq (.seq (.reg [(oA 36 (.mv (.t 7))), (oA 37 (.faddr 4 (.t 4))), (oA 38 (.load false 1 (.t 37))), (oA 39 (.len 2 (.t 38))), (oA 40 (.bin .lss 0 (.t 36) (.t 39)))] []) (.cond (.t 40) .skip (.exit 0))) (.seq (.block 1 (.seq (.reg [(oA 43 (.faddr 4 (.t 4))), (oA 44 (.load false 1 (.t 43))), (oA 45 (.mv (.t 7))), (oA 46 (.iaddr 1 (.t 44) (.t 45))), (oA 47 (.load false 1 (.t 46))), (oA 48 (.len 0 (.t 47))), (oA 49 (.bin .gtr 0 (.t 48) (.k (.v (.c (.p (.int .i64 200)))))))] []) (.cond (.t 49) (.seq (.reg [(oA 6 (.mv (.k (.v (.c (.p (.int .i64 4)))))))] []) .ret) .skip))) (.reg [(oA 41 (.mv (.t 7))), (oA 42 (.bin .add 0 (.t 41) (.k (.v (.c (.p (.int .i64 1))))))), (oA 7 (.mv (.t 42)))] [])))))) (.mark 2 [0, 2, 4] (.seq (.seq (.reg [(oA 8 (.mv (.k (.v (.c (.p (.int .i64 1)))))))] []) (.block 2 (.loop 3 [0, 2, 4, 8] (.seq (.seq (.reg [(oA 50 (.mv (.t 8))), (oA 51 (.faddr 4 (.t 4))), (oA 52 (.load false 1 (.t 51))), (oA 53 (.len 2 (.t 52))), (oA 54 (.bin .lss 0 (.t 50) (.t 53)))] []) (.cond (.t 54) .skip (.exit 2))) (.seq (.block 3 (.seq (.reg [(oA 57 (.faddr 4 (.t 4))), (oA 58 (.load false 1 (.t 57))), (oA 59 (.mv (.t 8))), (oA 60 (.iaddr 1 (.t 58) (.t 59))), (oA 61 (.load false 1 (.t 60))), (oA 62 (.faddr 4 (.t 4))), (oA 63 (.load false 1 (.t 62))), (oA 64 (.mv (.t 8))), (oA 65 (.bin .sub 0 (.t 64) (.k (.v (.c (.p (.int .i64 1))))))), (oA 66 (.iaddr 1 (.t 63) (.t 65))), (oA 67 (.load false 1 (.t 66))), (oA 68 (.bin .leq 0 (.t 61) (.t 67)))] []) (.cond (.t 68) (.seq (.reg [(oA 6 (.mv (.k (.v (.c (.p (.int .i64 6)))))))] []) .ret) .skip))) (.reg [(oA 55 (.mv (.t 8))), (oA 56 (.bin .add 0 (.t 55) (.k (.v (.c (.p (.int .i64 1))))))), (oA 8 (.mv (.t 56)))] [])))))) (.mark 4 [0, 2, 4] (.seq (.seq (.reg [(oA 9 (.mv (.k (.v (.c (.p (.int .i64 0)))))))] []) (.block 4 (.loop 5 [0, 2, 4, 9] (.seq (.seq (.reg [(oA 69 (.mv (.t 9))), (oA 70 (.faddr 5 (.t 4))), (oA 71 (.load false 1 (.t 70))), (oA 72 (.len 2 (.t 71))), (oA 73 (.bin .lss 0 (.t 69) (.t 72)))] []) (.cond (.t 73) .skip (.exit 4))) (.seq (.block 5 (.seq (.reg [(oA 76 (.mv (.t 0))), (oA 77 (.faddr 5 (.t 4))), (oA 78 (.load false 1 (.t 77))), (oA 79 (.mv (.t 9))), (oA 80 (.iaddr 6 (.t 78) (.t 79))), (oA 81 (.load true 6 (.t 80))), (oA 82 (.mv (.t 2))), (oA 83 (.bin .add 0 (.t 82) (.k (.v (.c (.p (.int .i64 1))))))), (oA 84 (.call (.k (.v (.c (.func 53 [])))) [(.t 76), (.t 81), (.t 83)])), (oA 10 (.mv (.t 84)))] []) (.seq (.reg [(oA 85 (.mv (.t 10))), (oA 86 (.bin .neq 0 (.t 85) (.k (.v (.c (.p (.int .i64 0)))))))] []) (.cond (.t 86) (.seq (.reg [(oA 87 (.mv (.t 10))), (oA 6 (.mv (.t 87)))] []) .ret) .skip)))) (.reg [(oA 74 (.mv (.t 9))), (oA 75 (.bin .add 0 (.t 74) (.k (.v (.c (.p (.int .i64 1))))))), (oA 9 (.mv (.t 75)))] [])))))) (.seq (.reg [(oA 6 (.mv (.k (.v (.c (.p (.int .i64 0)))))))] []) .ret))))))))))))) }
theorem t53 : compF Tryz.prog (globs2 tabs opq) (fun _ => false) true Tryz.f53 = some c53.erase := by kernel_rfl
noncomputable def b53_0 (O : Oracle) (R : Jump) (q : Nat) (x0 x1 x2 : TVal) (h : Heap) : Res1 :=
 vop O (.box (.k x1) false) h 4 fun x4 h =>
 vop O (.nilck (.k x0)) h 12 fun x12 h =>
 vfaddr 0 x12 h fun x13 h =>
 vload false 1 x13 h fun x14 h =>
 vbin .add 0 x14 (kI 1) h fun x15 h =>
 vop O (.nilck (.k x0)) h 16 fun x16 h =>
 vfaddr 0 x16 h fun x17 h =>
 vstore 1 x17 x15 h fun _ h =>
 vop O (.nilck (.k x0)) h 19 fun x19 h =>
 vfaddr 0 x19 h fun x20 h =>
 vload false 1 x20 h fun x21 h =>
 vbin .gtr 0 x21 (kI 2000) h fun x22 h =>
 vif x22 (
 tcomp (kI 3) fun c0 => vfin true q [c0] h)
 (vload true 6 x4 h fun x23 h =>
 vcall O (.v (.c (.func 73 []))) [x23] h 24 fun x24 h =>
 vop O (.un .not (.k x24)) h 25 fun x25 h =>
 vif x25 (
 tcomp (kI 1) fun c0 => vfin true q [c0] h)
 (vbin .gtr 0 x2 (kI 12) h fun x27 h =>
 vif x27 (
 tcomp (kI 13) fun c0 => vfin true q [c0] h)
 (vfaddr 5 x4 h fun x28 h =>
 vload false 1 x28 h fun x29 h =>
 vlen O 2 x29 h 30 fun x30 h =>
 vbin .gtr 0 x30 (kI 40) h fun x31 h =>
 vif x31 (
 tcomp (kI 3) fun c0 => vfin true q [c0] h)
 (vfaddr 3 x4 h fun x32 h =>
 vload false 1 x32 h fun x33 h =>
 vlen O 0 x33 h 34 fun x34 h =>
 vbin .gtr 0 x34 (kI 200) h fun x35 h =>
 vif x35 (
 tcomp (kI 4) fun c0 => vfin true q [c0] h)
 (R 1 [x0, x2, x4, (kI 0)] h)))))
theorem e53_0 (O : Oracle) (R : Jump) (q : Nat) (x0 x1 x2 : TVal) (h : Heap) : b53_0 O R q x0 x1 x2 h = stepF c53 O R q 0 [x0, x1, x2] h := by kernel_rfl
noncomputable def b53_1 (O : Oracle) (R : Jump) (q : Nat) (x0 x2 x4 x7 : TVal) (h : Heap) : Res1 :=
 vfaddr 4 x4 h fun x37 h =>
 vload false 1 x37 h fun x38 h =>
 vlen O 2 x38 h 39 fun x39 h =>
 vbin .lss 0 x7 x39 h fun x40 h =>
 vif x40 (
 vfaddr 4 x4 h fun x43 h =>
 vload false 1 x43 h fun x44 h =>
 viaddr 1 x44 x7 h fun x46 h =>
 vload false 1 x46 h fun x47 h =>
 vlen O 0 x47 h 48 fun x48 h =>
 vbin .gtr 0 x48 (kI 200) h fun x49 h =>
 vif x49 (
 tcomp (kI 4) fun c0 => vfin true q [c0] h)
 (vbin .add 0 x7 (kI 1) h fun x42 h =>
 R 1 [x0, x2, x4, x42] h))
 (R 2 [x0, x2, x4] h)
theorem e53_1 (O : Oracle) (R : Jump) (q : Nat) (x0 x2 x4 x7 : TVal) (h : Heap) : b53_1 O R q x0 x2 x4 x7 h = stepF c53 O R q 1 [x0, x2, x4, x7] h := by kernel_rfl
noncomputable def b53_2 (O : Oracle) (R : Jump) (q : Nat) (x0 x2 x4 : TVal) (h : Heap) : Res1 :=
 R 3 [x0, x2, x4, (kI 1)] h
theorem e53_2 (O : Oracle) (R : Jump) (q : Nat) (x0 x2 x4 : TVal) (h : Heap) : b53_2 O R q x0 x2 x4 h = stepF c53 O R q 2 [x0, x2, x4] h := by kernel_rfl
noncomputable def b53_3 (O : Oracle) (R : Jump) (q : Nat) (x0 x2 x4 x8 : TVal) (h : Heap) : Res1 :=
 vfaddr 4 x4 h fun x51 h =>
 vload false 1 x51 h fun x52 h =>
 vlen O 2 x52 h 53 fun x53 h =>
 vbin .lss 0 x8 x53 h fun x54 h =>
 vif x54 (
 vfaddr 4 x4 h fun x57 h =>
 vload false 1 x57 h fun x58 h =>
 viaddr 1 x58 x8 h fun x60 h =>
 vload false 1 x60 h fun x61 h =>
 vfaddr 4 x4 h fun x62 h =>
 vload false 1 x62 h fun x63 h =>
 vbin .sub 0 x8 (kI 1) h fun x65 h =>
 viaddr 1 x63 x65 h fun x66 h =>
 vload false 1 x66 h fun x67 h =>
 vbin .leq 0 x61 x67 h fun x68 h =>
 vif x68 (
 tcomp (kI 6) fun c0 => vfin true q [c0] h)
 (vbin .add 0 x8 (kI 1) h fun x56 h =>
 R 3 [x0, x2, x4, x56] h))
 (R 4 [x0, x2, x4] h)
theorem e53_3 (O : Oracle) (R : Jump) (q : Nat) (x0 x2 x4 x8 : TVal) (h : Heap) : b53_3 O R q x0 x2 x4 x8 h = stepF c53 O R q 3 [x0, x2, x4, x8] h := by kernel_rfl
noncomputable def b53_4 (O : Oracle) (R : Jump) (q : Nat) (x0 x2 x4 : TVal) (h : Heap) : Res1 :=
 R 5 [x0, x2, x4, (kI 0)] h
theorem e53_4 (O : Oracle) (R : Jump) (q : Nat) (x0 x2 x4 : TVal) (h : Heap) : b53_4 O R q x0 x2 x4 h = stepF c53 O R q 4 [x0, x2, x4] h := by kernel_rfl
noncomputable def b53_5 (O : Oracle) (R : Jump) (q : Nat) (x0 x2 x4 x9 : TVal) (h : Heap) : Res1 :=
 vfaddr 5 x4 h fun x70 h =>
 vload false 1 x70 h fun x71 h =>
 vlen O 2 x71 h 72 fun x72 h =>
 vbin .lss 0 x9 x72 h fun x73 h =>
 vif x73 (
 vfaddr 5 x4 h fun x77 h =>
 vload false 1 x77 h fun x78 h =>
 viaddr 6 x78 x9 h fun x80 h =>
 vload true 6 x80 h fun x81 h =>
 vbin .add 0 x2 (kI 1) h fun x83 h =>
 vcall O (.v (.c (.func 53 []))) [x0, x81, x83] h 84 fun x84 h =>
 vbin .neq 0 x84 (kI 0) h fun x86 h =>
 vif x86 (
 tcomp x84 fun c0 => vfin true q [c0] h)
 (vbin .add 0 x9 (kI 1) h fun x75 h =>
 R 5 [x0, x2, x4, x75] h))
 (tcomp (kI 0) fun c0 => vfin true q [c0] h)
theorem e53_5 (O : Oracle) (R : Jump) (q : Nat) (x0 x2 x4 x9 : TVal) (h : Heap) : b53_5 O R q x0 x2 x4 x9 h = stepF c53 O R q 5 [x0, x2, x4, x9] h := by kernel_rfl
noncomputable def d53 : BlkF := fun O R q => [.s fun y0 => .s fun y1 => .s fun y2 => .z fun h => b53_0 O R q y0 y1 y2 h, .s fun y0 => .s fun y1 => .s fun y2 => .s fun y3 => .z fun h => b53_1 O R q y0 y1 y2 y3 h, .s fun y0 => .s fun y1 => .s fun y2 => .z fun h => b53_2 O R q y0 y1 y2 h, .s fun y0 => .s fun y1 => .s fun y2 => .s fun y3 => .z fun h => b53_3 O R q y0 y1 y2 y3 h, .s fun y0 => .s fun y1 => .s fun y2 => .z fun h => b53_4 O R q y0 y1 y2 h, .s fun y0 => .s fun y1 => .s fun y2 => .s fun y3 => .z fun h => b53_5 O R q y0 y1 y2 y3 h]
theorem o53 (O : Oracle) (R : Jump) (q : Nat) : HoldsAll c53 O R q 0 (d53 O R q) := ⟨fun y0 y1 y2 h => e53_0 O R q y0 y1 y2 h, fun y0 y1 y2 y3 h => e53_1 O R q y0 y1 y2 y3 h, fun y0 y1 y2 h => e53_2 O R q y0 y1 y2 h, fun y0 y1 y2 y3 h => e53_3 O R q y0 y1 y2 y3 h, fun y0 y1 y2 h => e53_4 O R q y0 y1 y2 h, fun y0 y1 y2 y3 h => e53_5 O R q y0 y1 y2 y3 h, trivial⟩
/- sprue/data.Get -/
def c54 : MFunc := { np := 2, res := [.cell 4 true 6, .t 5], frz := true, body := (.seq (.reg [(oA 2 (.box (.t 0) false)), (oA 4 (.alloc [(.p (.int .i64 0)), (.p (.bool false)), (.p (.int .i64 0)), (.p (.str [])), (.p .nilslice), (.p .nilslice)] false)), (oA 5 (.mv (.k (.v (.c (.p (.bool false)))))))] []) (.seq (.reg [(oA 7 (.faddr 4 (.t 2))), (oA 8 (.load false 1 (.t 7))), (oA 9 (.mv (.t 1))), (oA 10 (.call (.k (.v (.c (.func 74 [])))) [(.t 8), (.t 9)])), (oA 6 (.mv (.t 10)))] []) (.seq (.seq (.reg [(oA 11 (.faddr 0 (.t 2))), (oA 12 (.load false 1 (.t 11))), (oA 13 (.bin .neq 0 (.t 12) (.k (.v (.c (.p (.int .i64 5))))))), (oA 14 (.mv (.t 13))), ⟨(some 15), (.mv (.t 6)), (some (14, false))⟩, ⟨(some 16), (.bin .lss 0 (.t 15) (.k (.v (.c (.p (.int .i64 0)))))), (some (14, false))⟩, (oA 17 (.pick (.t 14) (.k (.v (.c (.p (.bool true))))) (.t 16))), (oA 18 (.mv (.t 17))), ⟨(some 19), (.mv (.t 6)), (some (18, false))⟩, ⟨(some 20), (.faddr 5 (.t 2)), (some (18, false))⟩, ⟨(some 21), (.load false 1 (.t 20)), (some (18, false))⟩, ⟨(some 22), (.len 2 (.t 21)), (some (18, false))⟩, ⟨(some 23), (.bin .geq 0 (.t 19) (.t 22)), (some (18, false))⟩, (oA 24 (.pick (.t 18) (.k (.v (.c (.p (.bool true))))) (.t 23)))] []) (.cond (.t 24) (.seq (.reg [(oA 25 (.build [(.p (.int .i64 0)), (.p (.bool false)), (.p (.int .i64 0)), (.p (.str [])), (.p .nilslice), (.p .nilslice)] [])), (oN (.store 6 (.t 4) (.t 25))), (oA 5 (.mv (.k (.v (.c (.p (.bool false)))))))] []) .ret) .skip)) (.seq (.reg [(oA 26 (.faddr 5 (.t 2))), (oA 27 (.load false 1 (.t 26))), (oA 28 (.mv (.t 6))), (oA 29 (.iaddr 6 (.t 27) (.t 28))), (oA 30 (.load true 6 (.t 29))), (oA 31 (.call (.k (.v (.c (.func 75 [])))) [(.t 30)])), (oN (.store 6 (.t 4) (.t 31))), (oA 5 (.mv (.k (.v (.c (.p (.bool true)))))))] []) .ret)))) }
theorem t54 : compF Tryz.prog (globs2 tabs opq) (fun _ => false) true Tryz.f54 = some c54.erase := by kernel_rfl
noncomputable def b54_0 (O : Oracle) (R : Jump) (q : Nat) (x0 x1 : TVal) (h : Heap) : Res1 :=
 vop O (.box (.k x0) false) h 2 fun x2 h =>
 vop O (.alloc [(.p (.int .i64 0)), (.p (.bool false)), (.p (.int .i64 0)), (.p (.str [])), (.p .nilslice), (.p .nilslice)] false) h 4 fun x4 h =>
 vfaddr 4 x2 h fun x7 h =>
 vload false 1 x7 h fun x8 h =>
 vcall O (.v (.c (.func 74 []))) [x8, x1] h 10 fun x10 h =>
 vfaddr 0 x2 h fun x11 h =>
 vload false 1 x11 h fun x12 h =>
 vbin .neq 0 x12 (kI 5) h fun x13 h =>
 vguard x13 false (fun kk => kk x10 h) h fun x15 h =>
 vguard x13 false (fun kk => vbin .lss 0 x15 (kI 0) h kk) h fun x16 h =>
 vop O (.pick (.k x13) (.k (kB true)) (.k x16)) h 17 fun x17 h =>
 vguard x17 false (fun kk => kk x10 h) h fun x19 h =>
 vguard x17 false (fun kk => vfaddr 5 x2 h kk) h fun x20 h =>
 vguard x17 false (fun kk => vload false 1 x20 h kk) h fun x21 h =>
 vguard x17 false (fun kk => vlen O 2 x21 h 22 kk) h fun x22 h =>
 vguard x17 false (fun kk => vbin .geq 0 x19 x22 h kk) h fun x23 h =>
 vop O (.pick (.k x17) (.k (kB true)) (.k x23)) h 24 fun x24 h =>
 vif x24 (
 vop O (.build [(.p (.int .i64 0)), (.p (.bool false)), (.p (.int .i64 0)), (.p (.str [])), (.p .nilslice), (.p .nilslice)] []) h 25 fun x25 h =>
 vstore 6 x4 x25 h fun _ h =>
 vcell true 6 x4 h fun c0 => tcomp (kB false) fun c1 => vfin true q [c0, c1] h)
 (vfaddr 5 x2 h fun x26 h =>
 vload false 1 x26 h fun x27 h =>
 viaddr 6 x27 x10 h fun x29 h =>
 vload true 6 x29 h fun x30 h =>
 vcall O (.v (.c (.func 75 []))) [x30] h 31 fun x31 h =>
 vstore 6 x4 x31 h fun _ h =>
 vcell true 6 x4 h fun c0 => tcomp (kB true) fun c1 => vfin true q [c0, c1] h)
theorem e54_0 (O : Oracle) (R : Jump) (q : Nat) (x0 x1 : TVal) (h : Heap) : b54_0 O R q x0 x1 h = stepF c54 O R q 0 [x0, x1] h := by kernel_rfl
noncomputable def d54 : BlkF := fun O R q => [.s fun y0 => .s fun y1 => .z fun h => b54_0 O R q y0 y1 h]
theorem o54 (O : Oracle) (R : Jump) (q : Nat) : HoldsAll c54 O R q 0 (d54 O R q) := ⟨fun y0 y1 h => e54_0 O R q y0 y1 h, trivial⟩
/- (*sprue/interp.run).step -/
def c55 : MFunc := { np := 1, res := [.t 2], frz := true, body := (.seq (.reg [(oA 2 (.mv (.k (.v (.c (.p (.int .i64 0)))))))] []) (.seq (.seq (.reg [(oA 3 (.mv (.t 0))), (oA 4 (.nilck (.t 3))), (oA 5 (.faddr 6 (.t 4))), (oA 6 (.load false 1 (.t 5))), (oA 7 (.mv (.t 0))), (oA 8 (.nilck (.t 7))), (oA 9 (.faddr 0 (.t 8))), (oA 10 (.faddr 0 (.t 9))), (oA 11 (.load false 1 (.t 10))), (oA 12 (.bin .geq 0 (.t 6) (.t 11)))] []) (.cond (.t 12) (.seq (.reg [(oA 2 (.mv (.k (.v (.c (.p (.int .i64 36)))))))] []) .ret) .skip)) (.seq (.reg [(oA 13 (.mv (.t 0))), (oA 14 (.nilck (.t 13))), (oA 15 (.faddr 6 (.t 14))), (oA 16 (.load false 1 (.t 15))), (oA 17 (.bin .add 0 (.t 16) (.k (.v (.c (.p (.int .i64 1))))))), (oA 18 (.nilck (.t 13))), (oA 19 (.faddr 6 (.t 18))), (oN (.store 1 (.t 19) (.t 17)))] []) (.seq (.reg [(oA 2 (.mv (.k (.v (.c (.p (.int .i64 0)))))))] []) .ret)))) }
theorem t55 : compF Tryz.prog (globs2 tabs opq) (fun _ => true) true Tryz.f55 = some c55.erase := by kernel_rfl
noncomputable def b55_0 (O : Oracle) (R : Jump) (q : Nat) (x0 : TVal) (h : Heap) : Res1 :=
 vop O (.nilck (.k x0)) h 4 fun x4 h =>
 vfaddr 6 x4 h fun x5 h =>
 vload false 1 x5 h fun x6 h =>
 vop O (.nilck (.k x0)) h 8 fun x8 h =>
 vfaddr 0 x8 h fun x9 h =>
 vfaddr 0 x9 h fun x10 h =>
 vload false 1 x10 h fun x11 h =>
 vbin .geq 0 x6 x11 h fun x12 h =>
 vif x12 (
 tcomp (kI 36) fun c0 => vfin true q [c0] h)
 (vop O (.nilck (.k x0)) h 14 fun x14 h =>
 vfaddr 6 x14 h fun x15 h =>
 vload false 1 x15 h fun x16 h =>
 vbin .add 0 x16 (kI 1) h fun x17 h =>
 vop O (.nilck (.k x0)) h 18 fun x18 h =>
 vfaddr 6 x18 h fun x19 h =>
 vstore 1 x19 x17 h fun _ h =>
 tcomp (kI 0) fun c0 => vfin true q [c0] h)
theorem e55_0 (O : Oracle) (R : Jump) (q : Nat) (x0 : TVal) (h : Heap) : b55_0 O R q x0 h = stepF c55 O R q 0 [x0] h := by kernel_rfl
noncomputable def d55 : BlkF := fun O R q => [.s fun y0 => .z fun h => b55_0 O R q y0 h]
theorem o55 (O : Oracle) (R : Jump) (q : Nat) : HoldsAll c55 O R q 0 (d55 O R q) := ⟨fun y0 h => e55_0 O R q y0 h, trivial⟩
/- (*sprue/interp.run).write -/
def c56 : MFunc := { np := 2, res := [.t 4], frz := true, body := (.seq (.reg [(oA 4 (.mv (.k (.v (.c (.p (.int .i64 0)))))))] []) (.seq (.reg [(oA 6 (.mv (.t 1))), (oA 7 (.len 0 (.t 6))), (oA 8 (.mv (.t 0))), (oA 9 (.nilck (.t 8))), (oA 10 (.faddr 0 (.t 9))), (oA 11 (.faddr 2 (.t 10))), (oA 12 (.load false 1 (.t 11))), (oA 13 (.mv (.t 0))), (oA 14 (.nilck (.t 13))), (oA 15 (.faddr 5 (.t 14))), (oA 16 (.load false 1 (.t 15))), (oA 17 (.len 2 (.t 16))), (oA 18 (.bin .sub 0 (.t 12) (.t 17))), (oA 19 (.minmax false [(.t 7), (.t 18)])), (oA 5 (.mv (.t 19)))] []) (.seq (.reg [(oA 20 (.mv (.t 0))), (oA 21 (.mv (.t 0))), (oA 22 (.nilck (.t 21))), (oA 23 (.faddr 5 (.t 22))), (oA 24 (.load false 1 (.t 23))), (oA 25 (.mv (.t 1))), (oA 26 (.mv (.t 5))), (oA 27 (.slice 0 true (.t 25) none (some (.t 26)) none)), (oA 28 (.append 1 1 true (.t 24) (.t 27))), (oA 29 (.nilck (.t 20))), (oA 30 (.faddr 5 (.t 29))), (oN (.store 1 (.t 30) (.t 28)))] []) (.seq (.seq (.reg [(oA 31 (.mv (.t 5))), (oA 32 (.mv (.t 1))), (oA 33 (.len 0 (.t 32))), (oA 34 (.bin .lss 0 (.t 31) (.t 33)))] []) (.cond (.t 34) (.seq (.reg [(oA 4 (.mv (.k (.v (.c (.p (.int .i64 34)))))))] []) .ret) .skip)) (.seq (.reg [(oA 4 (.mv (.k (.v (.c (.p (.int .i64 0)))))))] []) .ret))))) }
theorem t56 : compF Tryz.prog (globs2 tabs opq) (fun _ => true) true Tryz.f56 = some c56.erase := by kernel_rfl
noncomputable def b56_0 (O : Oracle) (R : Jump) (q : Nat) (x0 x1 : TVal) (h : Heap) : Res1 :=
 vlen O 0 x1 h 7 fun x7 h =>
 vop O (.nilck (.k x0)) h 9 fun x9 h =>
 vfaddr 0 x9 h fun x10 h =>
 vfaddr 2 x10 h fun x11 h =>
 vload false 1 x11 h fun x12 h =>
 vop O (.nilck (.k x0)) h 14 fun x14 h =>
 vfaddr 5 x14 h fun x15 h =>
 vload false 1 x15 h fun x16 h =>
 vlen O 2 x16 h 17 fun x17 h =>
 vbin .sub 0 x12 x17 h fun x18 h =>
 vop O (.minmax false [(.k x7), (.k x18)]) h 19 fun x19 h =>
 vop O (.nilck (.k x0)) h 22 fun x22 h =>
 vfaddr 5 x22 h fun x23 h =>
 vload false 1 x23 h fun x24 h =>
 vop O (.slice 0 true (.k x1) none (some (.k x19)) none) h 27 fun x27 h =>
 vop O (.append 1 1 true (.k x24) (.k x27)) h 28 fun x28 h =>
 vop O (.nilck (.k x0)) h 29 fun x29 h =>
 vfaddr 5 x29 h fun x30 h =>
 vstore 1 x30 x28 h fun _ h =>
 vlen O 0 x1 h 33 fun x33 h =>
 vbin .lss 0 x19 x33 h fun x34 h =>
 vif x34 (
 tcomp (kI 34) fun c0 => vfin true q [c0] h)
 (tcomp (kI 0) fun c0 => vfin true q [c0] h)
theorem e56_0 (O : Oracle) (R : Jump) (q : Nat) (x0 x1 : TVal) (h : Heap) : b56_0 O R q x0 x1 h = stepF c56 O R q 0 [x0, x1] h := by kernel_rfl
noncomputable def d56 : BlkF := fun O R q => [.s fun y0 => .s fun y1 => .z fun h => b56_0 O R q y0 y1 h]
theorem o56 (O : Oracle) (R : Jump) (q : Nat) : HoldsAll c56 O R q 0 (d56 O R q) := ⟨fun y0 y1 h => e56_0 O R q y0 y1 h, trivial⟩
/- (*sprue/interp.run).pipe -/
def c57 : MFunc := { np := 3, res := [.cell 6 true 6, .t 7], frz := true, body := (.seq (.reg [(oA 4 (.box (.t 1) true)), (oA 6 (.alloc [(.p (.int .i64 0)), (.p (.bool false)), (.p (.int .i64 0)), (.p (.str [])), (.p .nilslice), (.p .nilslice)] true)), (oA 7 (.mv (.k (.v (.c (.p (.int .i64 0)))))))] []) (.seq (.reg [(oA 8 (.mv (.k (.v (.c (.p .nilslice))))))] []) (.seq (.seq (.reg [(oA 13 (.mv (.t 2))), (oA 14 (.len 2 (.t 13))), (oA 15 (.mv (.k (.v (.c (.p (.int .i64 0)))))))] []) (.block 0 (.loop 1 [0, 4, 6, 8, 13, 14, 15] (.seq (.reg [(oA 16 (.bin .lss 0 (.t 15) (.t 14)))] []) (.seq (.cond (.t 16) .skip (.exit 0)) (.seq (.block 1 (.seq (.reg [(oA 17 (.iaddr 1 (.t 13) (.t 15))), (oA 18 (.load true 1 (.t 17))), (oA 10 (.alloc [(.p .nilslice)] true)), (oN (.store 1 (.t 10) (.t 18)))] []) (.seq (.reg [(oA 20 (.mv (.t 0))), (oA 21 (.load true 8 (.t 4))), (oA 22 (.load true 1 (.t 10))), (oA 23 (.mv (.t 8))), (oA 24 (.call (.k (.v (.c (.func 76 [])))) [(.t 20), (.t 21), (.t 22), (.t 23)])), (oA 19 (.mv (.t 24))), (oA 25 (.extract (.t 19) 0)), (oA 26 (.extract (.t 19) 1)), (oA 11 (.alloc [(.p (.int .i64 0)), (.p (.bool false)), (.p (.int .i64 0)), (.p (.str [])), (.p .nilslice), (.p .nilslice)] true)), (oN (.store 6 (.t 11) (.t 25))), (oA 12 (.mv (.t 26)))] []) (.seq (.seq (.reg [(oA 27 (.mv (.t 12))), (oA 28 (.bin .neq 0 (.t 27) (.k (.v (.c (.p (.int .i64 0)))))))] []) (.cond (.t 28) (.seq (.reg [(oA 29 (.build [(.p (.int .i64 0)), (.p (.bool false)), (.p (.int .i64 0)), (.p (.str [])), (.p .nilslice), (.p .nilslice)] [])), (oA 30 (.mv (.t 12))), (oN (.store 6 (.t 6) (.t 29))), (oA 7 (.mv (.t 30)))] []) .ret) .skip)) (.reg [(oA 31 (.load true 6 (.t 11))), (oA 32 (.bslice 6 1 [(.p (.int .i64 0)), (.p (.bool false)), (.p (.int .i64 0)), (.p (.str [])), (.p .nilslice), (.p .nilslice)] [(0, (.t 31))] true)), (oA 8 (.mv (.t 32)))] []))))) (.reg [(oA 33 (.bin .add 0 (.t 15) (.k (.v (.c (.p (.int .i64 1))))))), (oA 15 (.mv (.t 33)))] []))))))) (.mark 2 [6, 8] (.seq (.seq (.reg [(oA 34 (.mv (.t 8))), (oA 35 (.len 2 (.t 34))), (oA 36 (.bin .eql 0 (.t 35) (.k (.v (.c (.p (.int .i64 0)))))))] []) (.cond (.t 36) (.seq (.reg [(oA 37 (.build [(.p (.int .i64 0)), (.p (.bool false)), (.p (.int .i64 0)), (.p (.str [])), (.p .nilslice), (.p .nilslice)] [])), (oN (.store 6 (.t 6) (.t 37))), (oA 7 (.mv (.k (.v (.c (.p (.int .i64 12)))))))] []) .ret) .skip)) (.seq (.reg [(oA 38 (.mv (.t 8))), (oA 39 (.iaddr 6 (.t 38) (.k (.v (.c (.p (.int .i64 0))))))), (oA 40 (.load true 6 (.t 39))), (oN (.store 6 (.t 6) (.t 40))), (oA 7 (.mv (.k (.v (.c (.p (.int .i64 0)))))))] []) .ret)))))) }
theorem t57 : compF Tryz.prog (globs2 tabs opq) (fun _ => true) true Tryz.f57 = some c57.erase := by kernel_rfl
noncomputable def b57_0 (O : Oracle) (R : Jump) (q : Nat) (x0 x1 x2 : TVal) (h : Heap) : Res1 :=
 vop O (.box (.k x1) true) h 4 fun x4 h =>
 vop O (.alloc [(.p (.int .i64 0)), (.p (.bool false)), (.p (.int .i64 0)), (.p (.str [])), (.p .nilslice), (.p .nilslice)] true) h 6 fun x6 h =>
 vlen O 2 x2 h 14 fun x14 h =>
 R 1 [x0, x4, x6, (.v (.c (.p .nilslice))), x2, x14, (kI 0)] h
theorem e57_0 (O : Oracle) (R : Jump) (q : Nat) (x0 x1 x2 : TVal) (h : Heap) : b57_0 O R q x0 x1 x2 h = stepF c57 O R q 0 [x0, x1, x2] h := by kernel_rfl
noncomputable def b57_1 (O : Oracle) (R : Jump) (q : Nat) (x0 x4 x6 x8 x13 x14 x15 : TVal) (h : Heap) : Res1 :=
 vbin .lss 0 x15 x14 h fun x16 h =>
 vif x16 (
 viaddr 1 x13 x15 h fun x17 h =>
 vload true 1 x17 h fun x18 h =>
 vop O (.alloc [(.p .nilslice)] true) h 10 fun x10 h =>
 vstore 1 x10 x18 h fun _ h =>
 vload true 8 x4 h fun x21 h =>
 vload true 1 x10 h fun x22 h =>
 vcall O (.v (.c (.func 76 []))) [x0, x21, x22, x8] h 24 fun x24 h =>
 vext x24 0 h fun x25 h =>
 vext x24 1 h fun x26 h =>
 vop O (.alloc [(.p (.int .i64 0)), (.p (.bool false)), (.p (.int .i64 0)), (.p (.str [])), (.p .nilslice), (.p .nilslice)] true) h 11 fun x11 h =>
 vstore 6 x11 x25 h fun _ h =>
 vbin .neq 0 x26 (kI 0) h fun x28 h =>
 vif x28 (
 vop O (.build [(.p (.int .i64 0)), (.p (.bool false)), (.p (.int .i64 0)), (.p (.str [])), (.p .nilslice), (.p .nilslice)] []) h 29 fun x29 h =>
 vstore 6 x6 x29 h fun _ h =>
 vcell true 6 x6 h fun c0 => tcomp x26 fun c1 => vfin true q [c0, c1] h)
 (vload true 6 x11 h fun x31 h =>
 vop O (.bslice 6 1 [(.p (.int .i64 0)), (.p (.bool false)), (.p (.int .i64 0)), (.p (.str [])), (.p .nilslice), (.p .nilslice)] [(0, (.k x31))] true) h 32 fun x32 h =>
 vbin .add 0 x15 (kI 1) h fun x33 h =>
 R 1 [x0, x4, x6, x32, x13, x14, x33] h))
 (R 2 [x6, x8] h)
theorem e57_1 (O : Oracle) (R : Jump) (q : Nat) (x0 x4 x6 x8 x13 x14 x15 : TVal) (h : Heap) : b57_1 O R q x0 x4 x6 x8 x13 x14 x15 h = stepF c57 O R q 1 [x0, x4, x6, x8, x13, x14, x15] h := by kernel_rfl
noncomputable def b57_2 (O : Oracle) (R : Jump) (q : Nat) (x6 x8 : TVal) (h : Heap) : Res1 :=
 vlen O 2 x8 h 35 fun x35 h =>
 vbin .eql 0 x35 (kI 0) h fun x36 h =>
 vif x36 (
 vop O (.build [(.p (.int .i64 0)), (.p (.bool false)), (.p (.int .i64 0)), (.p (.str [])), (.p .nilslice), (.p .nilslice)] []) h 37 fun x37 h =>
 vstore 6 x6 x37 h fun _ h =>
 vcell true 6 x6 h fun c0 => tcomp (kI 12) fun c1 => vfin true q [c0, c1] h)
 (viaddr 6 x8 (kI 0) h fun x39 h =>
 vload true 6 x39 h fun x40 h =>
 vstore 6 x6 x40 h fun _ h =>
 vcell true 6 x6 h fun c0 => tcomp (kI 0) fun c1 => vfin true q [c0, c1] h)
theorem e57_2 (O : Oracle) (R : Jump) (q : Nat) (x6 x8 : TVal) (h : Heap) : b57_2 O R q x6 x8 h = stepF c57 O R q 2 [x6, x8] h := by kernel_rfl
noncomputable def d57 : BlkF := fun O R q => [.s fun y0 => .s fun y1 => .s fun y2 => .z fun h => b57_0 O R q y0 y1 y2 h, .s fun y0 => .s fun y1 => .s fun y2 => .s fun y3 => .s fun y4 => .s fun y5 => .s fun y6 => .z fun h => b57_1 O R q y0 y1 y2 y3 y4 y5 y6 h, .s fun y0 => .s fun y1 => .z fun h => b57_2 O R q y0 y1 h]
theorem o57 (O : Oracle) (R : Jump) (q : Nat) : HoldsAll c57 O R q 0 (d57 O R q) := ⟨fun y0 y1 y2 h => e57_0 O R q y0 y1 y2 h, fun y0 y1 y2 y3 y4 y5 y6 h => e57_1 O R q y0 y1 y2 y3 y4 y5 y6 h, fun y0 y1 h => e57_2 O R q y0 y1 h, trivial⟩
/- (*sprue/interp.run).one -/
def c58 : MFunc := { np := 4, res := [.t 8], frz := true, body := (.seq (.reg [(oA 5 (.box (.t 1) true)), (oA 6 (.box (.t 2) true)), (oA 7 (.box (.t 3) true)), (oA 8 (.mv (.k (.v (.c (.p (.int .i64 0)))))))] []) (.seq (.seq (.reg [(oA 10 (.faddr 0 (.t 6))), (oA 11 (.load false 1 (.t 10)))] []) (.block 0 (.seq (.reg [(oA 13 (.bin .eql 0 (.t 11) (.k (.v (.c (.p (.int .i64 2))))))), (oA 12 (.mv (.t 13)))] []) (.cond (.t 12) (.seq (.reg [(oA 14 (.mv (.t 0))), (oA 15 (.load true 6 (.t 7))), (oA 16 (.call (.k (.v (.c (.func 77 [])))) [(.t 14), (.t 15)])), (oA 8 (.mv (.t 16)))] []) .ret) (.seq (.reg [(oA 18 (.bin .eql 0 (.t 11) (.k (.v (.c (.p (.int .i64 4))))))), (oA 17 (.mv (.t 18)))] []) (.cond (.t 17) (.seq (.reg [(oA 19 (.load true 8 (.t 5))), (oA 20 (.faddr 3 (.t 6))), (oA 21 (.load false 1 (.t 20))), (oA 22 (.call (.k (.v (.c (.func 78 [])))) [(.t 19), (.t 21)])), (oA 9 (.mv (.t 22)))] []) (.seq (.seq (.reg [(oA 23 (.mv (.t 9))), (oA 24 (.bin .eql 1 (.t 23) (.k (.v (.c (.p .nilptr))))))] []) (.cond (.t 24) (.seq (.reg [(oA 8 (.mv (.k (.v (.c (.p (.int .i64 15)))))))] []) .ret) .skip)) (.reg [(oA 25 (.mv (.t 9))), (oA 26 (.load true 6 (.t 7))), (oA 27 (.nilck (.t 25))), (oA 28 (.faddr 1 (.t 27))), (oN (.store 6 (.t 28) (.t 26)))] []))) (.seq (.reg [(oA 30 (.bin .eql 0 (.t 11) (.k (.v (.c (.p (.int .i64 5))))))), (oA 29 (.mv (.t 30)))] []) (.cond (.t 29) (.seq (.seq (.reg [(oA 31 (.faddr 0 (.t 7))), (oA 32 (.load false 1 (.t 31))), (oA 33 (.bin .eql 0 (.t 32) (.k (.v (.c (.p (.int .i64 0))))))), (oA 34 (.mv (.t 33))), ⟨(some 35), (.faddr 0 (.t 7)), (some (34, false))⟩, ⟨(some 36), (.load false 1 (.t 35)), (some (34, false))⟩, ⟨(some 37), (.bin .eql 0 (.t 36) (.k (.v (.c (.p (.int .i64 1)))))), (some (34, false))⟩, ⟨(some 38), (.mv (.t 37)), (some (34, false))⟩, ⟨(some 39), (.faddr 1 (.t 7)), (some (38, true))⟩, ⟨(some 40), (.load false 1 (.t 39)), (some (38, true))⟩, ⟨(some 41), (.un .not (.t 40)), (some (38, true))⟩, ⟨(some 42), (.pick (.t 38) (.t 41) (.k (.v (.c (.p (.bool false)))))), (some (34, false))⟩, (oA 43 (.pick (.t 34) (.k (.v (.c (.p (.bool true))))) (.t 42)))] []) (.cond (.t 43) (.seq (.reg [(oA 44 (.mv (.t 0))), (oA 45 (.load true 8 (.t 5))), (oA 46 (.faddr 6 (.t 6))), (oA 47 (.load false 1 (.t 46))), (oA 48 (.call (.k (.v (.c (.func 31 [])))) [(.t 44), (.t 45), (.t 47)])), (oA 8 (.mv (.t 48)))] []) .ret) .skip)) (.seq (.reg [(oA 49 (.mv (.t 0))), (oA 50 (.load true 8 (.t 5))), (oA 51 (.faddr 5 (.t 6))), (oA 52 (.load false 1 (.t 51))), (oA 53 (.call (.k (.v (.c (.func 31 [])))) [(.t 49), (.t 50), (.t 52)])), (oA 8 (.mv (.t 53)))] []) .ret)) (.seq (.reg [(oA 55 (.bin .eql 0 (.t 11) (.k (.v (.c (.p (.int .i64 6))))))), (oA 54 (.mv (.t 55)))] []) (.cond (.t 54) (.seq (.seq (.reg [(oA 56 (.faddr 0 (.t 7))), (oA 57 (.load false 1 (.t 56))), (oA 58 (.bin .eql 0 (.t 57) (.k (.v (.c (.p (.int .i64 0)))))))] []) (.cond (.t 58) (.seq (.reg [(oA 59 (.mv (.t 0))), (oA 60 (.load true 8 (.t 5))), (oA 61 (.faddr 6 (.t 6))), (oA 62 (.load false 1 (.t 61))), (oA 63 (.call (.k (.v (.c (.func 31 [])))) [(.t 59), (.t 60), (.t 62)])), (oA 8 (.mv (.t 63)))] []) .ret) .skip)) (.seq (.reg [(oA 64 (.mv (.t 0))), (oA 65 (.load true 8 (.t 5))), (oA 66 (.load true 6 (.t 7))), (oA 67 (.call (.k (.v (.c (.func 79 [])))) [(.t 65), (.t 66)])), (oA 68 (.faddr 5 (.t 6))), (oA 69 (.load false 1 (.t 68))), (oA 70 (.call (.k (.v (.c (.func 31 [])))) [(.t 64), (.t 67), (.t 69)])), (oA 8 (.mv (.t 70)))] [(3, 5)]) .ret)) (.seq (.reg [(oA 72 (.bin .eql 0 (.t 11) (.k (.v (.c (.p (.int .i64 7))))))), (oA 71 (.mv (.t 72)))] []) (.cond (.t 71) (.seq (.reg [(oA 73 (.mv (.t 0))), (oA 74 (.load true 8 (.t 5))), (oA 75 (.load true 9 (.t 6))), (oA 76 (.load true 6 (.t 7))), (oA 77 (.call (.k (.v (.c (.func 80 [])))) [(.t 73), (.t 74), (.t 75), (.t 76)])), (oA 8 (.mv (.t 77)))] []) .ret) (.seq (.reg [(oA 79 (.bin .eql 0 (.t 11) (.k (.v (.c (.p (.int .i64 8))))))), (oA 78 (.mv (.t 79)))] []) (.cond (.t 78) (.seq (.reg [(oA 80 (.mv (.t 0))), (oA 81 (.load true 8 (.t 5))), (oA 82 (.load true 9 (.t 6))), (oA 83 (.load true 6 (.t 7))), (oA 84 (.call (.k (.v (.c (.func 81 [])))) [(.t 80), (.t 81), (.t 82), (.t 83)])), (oA 8 (.mv (.t 84)))] []) .ret) (.seq (.reg [(oA 86 (.bin .eql 0 (.t 11) (.k (.v (.c (.p (.int .i64 9))))))), (oA 85 (.mv (.t 86)))] []) (.cond (.t 85) (.seq (.reg [(oA 87 (.mv (.t 0))), (oA 88 (.load true 8 (.t 5))), (oA 89 (.faddr 3 (.t 6))), (oA 90 (.load false 1 (.t 89))), (oA 91 (.load true 6 (.t 7))), (oA 92 (.call (.k (.v (.c (.func 82 [])))) [(.t 87), (.t 88), (.t 90), (.t 91)])), (oA 8 (.mv (.t 92)))] []) .ret) .skip)))))))))))))))) (.seq (.reg [(oA 8 (.mv (.k (.v (.c (.p (.int .i64 0)))))))] []) .ret))) }
theorem t58 : compF Tryz.prog (globs2 tabs opq) (fun _ => true) true Tryz.f58 = some c58.erase := by kernel_rfl
noncomputable def b58_0 (O : Oracle) (R : Jump) (q : Nat) (x0 x1 x2 x3 : TVal) (h : Heap) : Res1 :=
 vop O (.box (.k x1) true) h 5 fun x5 h =>
 vop O (.box (.k x2) true) h 6 fun x6 h =>
 vop O (.box (.k x3) true) h 7 fun x7 h =>
 vfaddr 0 x6 h fun x10 h =>
 vload false 1 x10 h fun x11 h =>
 vbin .eql 0 x11 (kI 2) h fun x13 h =>
 vif x13 (
 vload true 6 x7 h fun x15 h =>
 vcall O (.v (.c (.func 77 []))) [x0, x15] h 16 fun x16 h =>
 tcomp x16 fun c0 => vfin true q [c0] h)
 (vbin .eql 0 x11 (kI 4) h fun x18 h =>
 vif x18 (
 vload true 8 x5 h fun x19 h =>
 vfaddr 3 x6 h fun x20 h =>
 vload false 1 x20 h fun x21 h =>
 vcall O (.v (.c (.func 78 []))) [x19, x21] h 22 fun x22 h =>
 vbin .eql 1 x22 (.v (.c (.p .nilptr))) h fun x24 h =>
 vif x24 (
 tcomp (kI 15) fun c0 => vfin true q [c0] h)
 (vload true 6 x7 h fun x26 h =>
 vop O (.nilck (.k x22)) h 27 fun x27 h =>
 vfaddr 1 x27 h fun x28 h =>
 vstore 6 x28 x26 h fun _ h =>
 tcomp (kI 0) fun c0 => vfin true q [c0] h))
 (vbin .eql 0 x11 (kI 5) h fun x30 h =>
 vif x30 (
 vfaddr 0 x7 h fun x31 h =>
 vload false 1 x31 h fun x32 h =>
 vbin .eql 0 x32 (kI 0) h fun x33 h =>
 vguard x33 false (fun kk => vfaddr 0 x7 h kk) h fun x35 h =>
 vguard x33 false (fun kk => vload false 1 x35 h kk) h fun x36 h =>
 vguard x33 false (fun kk => vbin .eql 0 x36 (kI 1) h kk) h fun x37 h =>
 vguard x33 false (fun kk => kk x37 h) h fun x38 h =>
 vguard x38 true (fun kk => vfaddr 1 x7 h kk) h fun x39 h =>
 vguard x38 true (fun kk => vload false 1 x39 h kk) h fun x40 h =>
 vguard x38 true (fun kk => vop O (.un .not (.k x40)) h 41 kk) h fun x41 h =>
 vguard x33 false (fun kk => vop O (.pick (.k x38) (.k x41) (.k (kB false))) h 42 kk) h fun x42 h =>
 vop O (.pick (.k x33) (.k (kB true)) (.k x42)) h 43 fun x43 h =>
 vif x43 (
 vload true 8 x5 h fun x45 h =>
 vfaddr 6 x6 h fun x46 h =>
 vload false 1 x46 h fun x47 h =>
 vcall O (.v (.c (.func 31 []))) [x0, x45, x47] h 48 fun x48 h =>
 tcomp x48 fun c0 => vfin true q [c0] h)
 (vload true 8 x5 h fun x50 h =>
 vfaddr 5 x6 h fun x51 h =>
 vload false 1 x51 h fun x52 h =>
 vcall O (.v (.c (.func 31 []))) [x0, x50, x52] h 53 fun x53 h =>
 tcomp x53 fun c0 => vfin true q [c0] h))
 (vbin .eql 0 x11 (kI 6) h fun x55 h =>
 vif x55 (
 vfaddr 0 x7 h fun x56 h =>
 vload false 1 x56 h fun x57 h =>
 vbin .eql 0 x57 (kI 0) h fun x58 h =>
 vif x58 (
 vload true 8 x5 h fun x60 h =>
 vfaddr 6 x6 h fun x61 h =>
 vload false 1 x61 h fun x62 h =>
 vcall O (.v (.c (.func 31 []))) [x0, x60, x62] h 63 fun x63 h =>
 tcomp x63 fun c0 => vfin true q [c0] h)
 (vtouch O (.mv (.k x0)) h 64 fun x64 h t0 =>
 vtouch O (.load true 8 (.k x5)) h 65 fun x65 h t1 =>
 vtouch O (.load true 6 (.k x7)) h 66 fun x66 h t2 =>
 vtouch O (.call (.k (.v (.c (.func 79 [])))) [(.k x65), (.k x66)]) h 67 fun x67 h t3 =>
 vtouch O (.faddr 5 (.k x6)) h 68 fun x68 h t4 =>
 vtouch O (.load false 1 (.k x68)) h 69 fun x69 h t5 =>
 vtouch O (.call (.k (.v (.c (.func 31 [])))) [(.k x64), (.k x67), (.k x69)]) h 70 fun x70 h t6 =>
 vtouch O (.mv (.k x70)) h 8 fun x8 h t7 =>
 bif apartAll [t0, t1, t2, t3, t4, t5, t6, t7] [(3, 5)] then
 tcomp x8 fun c0 => vfin true q [c0] h
 else none))
 (vbin .eql 0 x11 (kI 7) h fun x72 h =>
 vif x72 (
 vload true 8 x5 h fun x74 h =>
 vload true 9 x6 h fun x75 h =>
 vload true 6 x7 h fun x76 h =>
 vcall O (.v (.c (.func 80 []))) [x0, x74, x75, x76] h 77 fun x77 h =>
 tcomp x77 fun c0 => vfin true q [c0] h)
 (vbin .eql 0 x11 (kI 8) h fun x79 h =>
 vif x79 (
 vload true 8 x5 h fun x81 h =>
 vload true 9 x6 h fun x82 h =>
 vload true 6 x7 h fun x83 h =>
 vcall O (.v (.c (.func 81 []))) [x0, x81, x82, x83] h 84 fun x84 h =>
 tcomp x84 fun c0 => vfin true q [c0] h)
 (vbin .eql 0 x11 (kI 9) h fun x86 h =>
 vif x86 (
 vload true 8 x5 h fun x88 h =>
 vfaddr 3 x6 h fun x89 h =>
 vload false 1 x89 h fun x90 h =>
 vload true 6 x7 h fun x91 h =>
 vcall O (.v (.c (.func 82 []))) [x0, x88, x90, x91] h 92 fun x92 h =>
 tcomp x92 fun c0 => vfin true q [c0] h)
 (tcomp (kI 0) fun c0 => vfin true q [c0] h)))))))
theorem e58_0 (O : Oracle) (R : Jump) (q : Nat) (x0 x1 x2 x3 : TVal) (h : Heap) : b58_0 O R q x0 x1 x2 x3 h = stepF c58 O R q 0 [x0, x1, x2, x3] h := by kernel_rfl
noncomputable def d58 : BlkF := fun O R q => [.s fun y0 => .s fun y1 => .s fun y2 => .s fun y3 => .z fun h => b58_0 O R q y0 y1 y2 y3 h]
theorem o58 (O : Oracle) (R : Jump) (q : Nat) : HoldsAll c58 O R q 0 (d58 O R q) := ⟨fun y0 y1 y2 y3 h => e58_0 O R q y0 y1 y2 y3 h, trivial⟩
/- slices.Clone[[]*sprue/interp.variable,*sprue/interp.variable] -/
def c59 : MFunc := { np := 1, res := [.t 2], frz := false, body := (.seq (.reg [(oA 2 (.mv (.k (.v (.c (.p .nilslice))))))] []) (.seq (.seq (.reg [(oA 3 (.mv (.t 0))), (oA 4 (.bin .eql 2 (.t 3) (.k (.v (.c (.p .nilslice))))))] []) (.cond (.t 4) (.seq (.reg [(oA 2 (.mv (.k (.v (.c (.p .nilslice))))))] []) .ret) .skip)) (.seq (.reg [(oA 5 (.bslice 1 0 [(.p .nilptr)] [] false)), (oA 6 (.mv (.t 0))), (oA 7 (.append 1 8 false (.t 5) (.t 6))), (oA 2 (.mv (.t 7)))] []) .ret))) }
theorem t59 : compF Tryz.prog (globs2 tabs opq) (fun _ => false) false Tryz.f59 = some c59.erase := by kernel_rfl
noncomputable def b59_0 (O : Oracle) (R : Jump) (q : Nat) (x0 : TVal) (h : Heap) : Res1 :=
 vbin .eql 2 x0 (.v (.c (.p .nilslice))) h fun x4 h =>
 vif x4 (
 tcomp (.v (.c (.p .nilslice))) fun c0 => vfin false q [c0] h)
 (vop O (.bslice 1 0 [(.p .nilptr)] [] false) h 5 fun x5 h =>
 vop O (.append 1 8 false (.k x5) (.k x0)) h 7 fun x7 h =>
 tcomp x7 fun c0 => vfin false q [c0] h)
theorem e59_0 (O : Oracle) (R : Jump) (q : Nat) (x0 : TVal) (h : Heap) : b59_0 O R q x0 h = stepF c59 O R q 0 [x0] h := by kernel_rfl
noncomputable def d59 : BlkF := fun O R q => [.s fun y0 => .z fun h => b59_0 O R q y0 h]
theorem o59 (O : Oracle) (R : Jump) (q : Nat) : HoldsAll c59 O R q 0 (d59 O R q) := ⟨fun y0 h => e59_0 O R q y0 h, trivial⟩
/- sprue/sprueref1.blank -/
def c61 : MFunc := { np := 1, res := [.t 2], frz := true, body := (.seq (.reg [(oA 2 (.mv (.k (.v (.c (.p (.bool false)))))))] []) (.seq (.reg [(oA 3 (.mv (.t 0))), (oA 4 (.bin .eql 0 (.t 3) (.k (.v (.c (.p (.int .u8 32))))))), (oA 5 (.mv (.t 4))), ⟨(some 6), (.mv (.t 0)), (some (5, false))⟩, ⟨(some 7), (.bin .eql 0 (.t 6) (.k (.v (.c (.p (.int .u8 9)))))), (some (5, false))⟩, (oA 8 (.pick (.t 5) (.k (.v (.c (.p (.bool true))))) (.t 7))), (oA 9 (.mv (.t 8))), ⟨(some 10), (.mv (.t 0)), (some (9, false))⟩, ⟨(some 11), (.bin .eql 0 (.t 10) (.k (.v (.c (.p (.int .u8 10)))))), (some (9, false))⟩, (oA 12 (.pick (.t 9) (.k (.v (.c (.p (.bool true))))) (.t 11))), (oA 13 (.mv (.t 12))), ⟨(some 14), (.mv (.t 0)), (some (13, false))⟩, ⟨(some 15), (.bin .eql 0 (.t 14) (.k (.v (.c (.p (.int .u8 13)))))), (some (13, false))⟩, (oA 16 (.pick (.t 13) (.k (.v (.c (.p (.bool true))))) (.t 15))), (oA 2 (.mv (.t 16)))] []) .ret)) }
theorem t61 : compF Tryz.prog (globs2 tabs opq) (fun _ => false) true Tryz.f61 = some c61.erase := by kernel_rfl
noncomputable def b61_0 (O : Oracle) (R : Jump) (q : Nat) (x0 : TVal) (h : Heap) : Res1 :=
 vbin .eql 0 x0 (.v (.c (.p (.int .u8 32)))) h fun x4 h =>
 vguard x4 false (fun kk => kk x0 h) h fun x6 h =>
 vguard x4 false (fun kk => vbin .eql 0 x6 (.v (.c (.p (.int .u8 9)))) h kk) h fun x7 h =>
 vop O (.pick (.k x4) (.k (kB true)) (.k x7)) h 8 fun x8 h =>
 vguard x8 false (fun kk => kk x0 h) h fun x10 h =>
 vguard x8 false (fun kk => vbin .eql 0 x10 (.v (.c (.p (.int .u8 10)))) h kk) h fun x11 h =>
 vop O (.pick (.k x8) (.k (kB true)) (.k x11)) h 12 fun x12 h =>
 vguard x12 false (fun kk => kk x0 h) h fun x14 h =>
 vguard x12 false (fun kk => vbin .eql 0 x14 (.v (.c (.p (.int .u8 13)))) h kk) h fun x15 h =>
 vop O (.pick (.k x12) (.k (kB true)) (.k x15)) h 16 fun x16 h =>
 tcomp x16 fun c0 => vfin true q [c0] h
theorem e61_0 (O : Oracle) (R : Jump) (q : Nat) (x0 : TVal) (h : Heap) : b61_0 O R q x0 h = stepF c61 O R q 0 [x0] h := by kernel_rfl
noncomputable def d61 : BlkF := fun O R q => [.s fun y0 => .z fun h => b61_0 O R q y0 h]
theorem o61 (O : Oracle) (R : Jump) (q : Nat) : HoldsAll c61 O R q 0 (d61 O R q) := ⟨fun y0 h => e61_0 O R q y0 h, trivial⟩
/- sprue/sprueref1.next -/
def c62 : MFunc := { np := 2, res := [.cell 4 true 4, .t 5, .t 6], frz := true, body := (.seq (.reg [(oA 4 (.alloc [(.p (.int .i64 0)), (.p (.str [])), (.p (.int .i64 0)), (.p (.int .i64 0))] false)), (oA 5 (.mv (.k (.v (.c (.p (.int .i64 0))))))), (oA 6 (.mv (.k (.v (.c (.p (.int .i64 0)))))))] []) (.seq (.reg [(oA 14 (.mv (.t 1))), (oA 7 (.mv (.t 14)))] []) (.seq (.block 0 (.seq (.reg [(oA 16 (.mv (.t 0))), (oA 17 (.mv (.t 1))), (oA 18 (.index (.t 16) (.t 17))), (oA 19 (.call (.k (.v (.c (.func 84 [])))) [(.t 18)])), (oA 15 (.mv (.t 19)))] []) (.cond (.t 15) (.seq (.block 1 (.loop 1 [0, 1, 4, 7] (.seq (.seq (.reg [(oA 20 (.mv (.t 7))), (oA 21 (.mv (.t 0))), (oA 22 (.len 0 (.t 21))), (oA 23 (.bin .lss 0 (.t 20) (.t 22))), (oA 24 (.mv (.t 23))), ⟨(some 25), (.mv (.t 0)), (some (24, true))⟩, ⟨(some 26), (.mv (.t 7)), (some (24, true))⟩, ⟨(some 27), (.index (.t 25) (.t 26)), (some (24, true))⟩, ⟨(some 28), (.call (.k (.v (.c (.func 84 [])))) [(.t 27)]), (some (24, true))⟩, ⟨(some 29), (.mv (.t 28)), (some (24, true))⟩, ⟨(some 30), (.mv (.t 0)), (some (29, false))⟩, ⟨(some 31), (.mv (.t 7)), (some (29, false))⟩, ⟨(some 32), (.index (.t 30) (.t 31)), (some (29, false))⟩, ⟨(some 33), (.call (.k (.v (.c (.func 85 [])))) [(.t 32)]), (some (29, false))⟩, ⟨(some 34), (.pick (.t 29) (.k (.v (.c (.p (.bool true))))) (.t 33)), (some (24, true))⟩, (oA 35 (.pick (.t 24) (.t 34) (.k (.v (.c (.p (.bool false)))))))] []) (.cond (.t 35) .skip (.exit 1))) (.block 2 (.reg [(oA 36 (.mv (.t 7))), (oA 37 (.bin .add 0 (.t 36) (.k (.v (.c (.p (.int .i64 1))))))), (oA 7 (.mv (.t 37)))] []))))) (.mark 2 [0, 1, 4, 7] (.seq (.seq (.reg [(oA 38 (.mv (.t 7))), (oA 39 (.mv (.t 1))), (oA 40 (.bin .sub 0 (.t 38) (.t 39))), (oA 41 (.bin .gtr 0 (.t 40) (.k (.v (.c (.p (.int .i64 16)))))))] []) (.cond (.t 41) (.seq (.reg [(oA 42 (.build [(.p (.int .i64 0)), (.p (.str [])), (.p (.int .i64 0)), (.p (.int .i64 0))] [])), (oN (.store 4 (.t 4) (.t 42))), (oA 5 (.mv (.k (.v (.c (.p (.int .i64 0))))))), (oA 6 (.mv (.k (.v (.c (.p (.int .i64 4)))))))] []) .ret) .skip)) (.seq (.reg [(oA 43 (.mv (.t 0))), (oA 44 (.mv (.t 1))), (oA 45 (.mv (.t 7))), (oA 46 (.slice 0 true (.t 43) (some (.t 44)) (some (.t 45)) none)), (oA 47 (.mv (.t 1))), (oA 48 (.build [(.p (.int .i64 0)), (.p (.str [])), (.p (.int .i64 0)), (.p (.int .i64 0))] [(0, 1, (.k (.v (.c (.p (.int .i64 1)))))), (1, 1, (.t 46)), (3, 1, (.t 47))])), (oA 49 (.mv (.t 7))), (oN (.store 4 (.t 4) (.t 48))), (oA 5 (.mv (.t 49))), (oA 6 (.mv (.k (.v (.c (.p (.int .i64 0)))))))] []) .ret)))) (.seq (.reg [(oA 51 (.mv (.t 0))), (oA 52 (.mv (.t 1))), (oA 53 (.index (.t 51) (.t 52))), (oA 54 (.call (.k (.v (.c (.func 85 [])))) [(.t 53)])), (oA 55 (.mv (.t 54))), ⟨(some 56), (.mv (.t 0)), (some (55, false))⟩, ⟨(some 57), (.mv (.t 1)), (some (55, false))⟩, ⟨(some 58), (.index (.t 56) (.t 57)), (some (55, false))⟩, ⟨(some 59), (.bin .eql 0 (.t 58) (.k (.v (.c (.p (.int .u8 45)))))), (some (55, false))⟩, ⟨(some 60), (.mv (.t 59)), (some (55, false))⟩, ⟨(some 61), (.mv (.t 1)), (some (60, true))⟩, ⟨(some 62), (.bin .add 0 (.t 61) (.k (.v (.c (.p (.int .i64 1)))))), (some (60, true))⟩, ⟨(some 63), (.mv (.t 0)), (some (60, true))⟩, ⟨(some 64), (.len 0 (.t 63)), (some (60, true))⟩, ⟨(some 65), (.bin .lss 0 (.t 62) (.t 64)), (some (60, true))⟩, ⟨(some 66), (.pick (.t 60) (.t 65) (.k (.v (.c (.p (.bool false)))))), (some (55, false))⟩, ⟨(some 67), (.mv (.t 66)), (some (55, false))⟩, ⟨(some 68), (.mv (.t 0)), (some (67, true))⟩, ⟨(some 69), (.mv (.t 1)), (some (67, true))⟩, ⟨(some 70), (.bin .add 0 (.t 69) (.k (.v (.c (.p (.int .i64 1)))))), (some (67, true))⟩, ⟨(some 71), (.index (.t 68) (.t 70)), (some (67, true))⟩, ⟨(some 72), (.call (.k (.v (.c (.func 85 [])))) [(.t 71)]), (some (67, true))⟩, ⟨(some 73), (.pick (.t 67) (.t 72) (.k (.v (.c (.p (.bool false)))))), (some (55, false))⟩, (oA 74 (.pick (.t 55) (.k (.v (.c (.p (.bool true))))) (.t 73))), (oA 50 (.mv (.t 74)))] []) (.cond (.t 50) (.seq (.reg [(oA 75 (.mv (.t 7))), (oA 76 (.bin .add 0 (.t 75) (.k (.v (.c (.p (.int .i64 1))))))), (oA 7 (.mv (.t 76)))] []) (.seq (.block 3 (.loop 3 [0, 1, 4, 7] (.seq (.seq (.reg [(oA 77 (.mv (.t 7))), (oA 78 (.mv (.t 0))), (oA 79 (.len 0 (.t 78))), (oA 80 (.bin .lss 0 (.t 77) (.t 79))), (oA 81 (.mv (.t 80))), ⟨(some 82), (.mv (.t 0)), (some (81, true))⟩, ⟨(some 83), (.mv (.t 7)), (some (81, true))⟩, ⟨(some 84), (.index (.t 82) (.t 83)), (some (81, true))⟩, ⟨(some 85), (.call (.k (.v (.c (.func 85 [])))) [(.t 84)]), (some (81, true))⟩, (oA 86 (.pick (.t 81) (.t 85) (.k (.v (.c (.p (.bool false)))))))] []) (.cond (.t 86) .skip (.exit 3))) (.block 4 (.reg [(oA 87 (.mv (.t 7))), (oA 88 (.bin .add 0 (.t 87) (.k (.v (.c (.p (.int .i64 1))))))), (oA 7 (.mv (.t 88)))] []))))) (.mark 4 [0, 1, 4, 7] (.seq (.reg [(oA 90 (.mv (.t 0))), (oA 91 (.mv (.t 1))), (oA 92 (.mv (.t 7))), (oA 93 (.slice 0 true (.t 90) (some (.t 91)) (some (.t 92)) none)), (oA 94 (.call (.k (.v (.c (.func 72 [])))) [(.t 93)])), (oA 89 (.mv (.t 94))), (oA 95 (.extract (.t 89) 0)), (oA 96 (.extract (.t 89) 1)), (oA 8 (.mv (.t 95))), (oA 9 (.mv (.t 96)))] []) (.seq (.reg [(oA 97 (.mv (.t 8))), (oA 98 (.mv (.t 1))), (oA 99 (.build [(.p (.int .i64 0)), (.p (.str [])), (.p (.int .i64 0)), (.p (.int .i64 0))] [(0, 1, (.k (.v (.c (.p (.int .i64 3)))))), (2, 1, (.t 97)), (3, 1, (.t 98))])), (oA 100 (.mv (.t 7))), (oA 101 (.mv (.t 9))), (oN (.store 4 (.t 4) (.t 99))), (oA 5 (.mv (.t 100))), (oA 6 (.mv (.t 101)))] []) .ret))))) (.seq (.reg [(oA 103 (.mv (.t 0))), (oA 104 (.mv (.t 1))), (oA 105 (.index (.t 103) (.t 104))), (oA 106 (.bin .eql 0 (.t 105) (.k (.v (.c (.p (.int .u8 34))))))), (oA 102 (.mv (.t 106)))] []) (.cond (.t 102) (.seq (.reg [(oA 108 (.mv (.t 0))), (oA 109 (.mv (.t 1))), (oA 110 (.call (.k (.v (.c (.func 70 [])))) [(.t 108), (.t 109)])), (oA 107 (.mv (.t 110))), (oA 111 (.extract (.t 107) 0)), (oA 112 (.extract (.t 107) 1)), (oA 10 (.mv (.t 111))), (oA 11 (.mv (.t 112)))] []) (.seq (.seq (.reg [(oA 113 (.mv (.t 11))), (oA 114 (.bin .lss 0 (.t 113) (.k (.v (.c (.p (.int .i64 0)))))))] []) (.cond (.t 114) (.seq (.reg [(oA 115 (.build [(.p (.int .i64 0)), (.p (.str [])), (.p (.int .i64 0)), (.p (.int .i64 0))] [])), (oN (.store 4 (.t 4) (.t 115))), (oA 5 (.mv (.k (.v (.c (.p (.int .i64 0))))))), (oA 6 (.mv (.k (.v (.c (.p (.int .i64 11)))))))] []) .ret) .skip)) (.seq (.seq (.reg [(oA 116 (.mv (.t 10))), (oA 117 (.len 0 (.t 116))), (oA 118 (.bin .gtr 0 (.t 117) (.k (.v (.c (.p (.int .i64 200)))))))] []) (.cond (.t 118) (.seq (.reg [(oA 119 (.build [(.p (.int .i64 0)), (.p (.str [])), (.p (.int .i64 0)), (.p (.int .i64 0))] [])), (oN (.store 4 (.t 4) (.t 119))), (oA 5 (.mv (.k (.v (.c (.p (.int .i64 0))))))), (oA 6 (.mv (.k (.v (.c (.p (.int .i64 4)))))))] []) .ret) .skip)) (.seq (.reg [(oA 120 (.mv (.t 10))), (oA 121 (.mv (.t 1))), (oA 122 (.build [(.p (.int .i64 0)), (.p (.str [])), (.p (.int .i64 0)), (.p (.int .i64 0))] [(0, 1, (.k (.v (.c (.p (.int .i64 2)))))), (1, 1, (.t 120)), (3, 1, (.t 121))])), (oA 123 (.mv (.t 11))), (oN (.store 4 (.t 4) (.t 122))), (oA 5 (.mv (.t 123))), (oA 6 (.mv (.k (.v (.c (.p (.int .i64 0)))))))] []) .ret)))) .skip))))))) (.mark 5 [0, 1, 4] (.seq (.seq (.reg [(oA 124 (.mv (.t 1))), (oA 125 (.bin .add 0 (.t 124) (.k (.v (.c (.p (.int .i64 2))))))), (oA 126 (.mv (.t 0))), (oA 127 (.len 0 (.t 126))), (oA 128 (.bin .leq 0 (.t 125) (.t 127))), (oA 129 (.mv (.t 128))), ⟨(some 130), (.mv (.t 0)), (some (129, true))⟩, ⟨(some 131), (.mv (.t 1)), (some (129, true))⟩, ⟨(some 132), (.mv (.t 1)), (some (129, true))⟩, ⟨(some 133), (.bin .add 0 (.t 132) (.k (.v (.c (.p (.int .i64 2)))))), (some (129, true))⟩, ⟨(some 134), (.slice 0 true (.t 130) (some (.t 131)) (some (.t 133)) none), (some (129, true))⟩, ⟨(some 135), (.bin .eql 0 (.t 134) (.k (.v (.c (.p (.str [45, 62])))))), (some (129, true))⟩, ⟨(some 136), (.mv (.t 135)), (some (129, true))⟩, ⟨(some 137), (.mv (.t 0)), (some (136, false))⟩, ⟨(some 138), (.mv (.t 1)), (some (136, false))⟩, ⟨(some 139), (.mv (.t 1)), (some (136, false))⟩, ⟨(some 140), (.bin .add 0 (.t 139) (.k (.v (.c (.p (.int .i64 2)))))), (some (136, false))⟩, ⟨(some 141), (.slice 0 true (.t 137) (some (.t 138)) (some (.t 140)) none), (some (136, false))⟩, ⟨(some 142), (.bin .eql 0 (.t 141) (.k (.v (.c (.p (.str [58, 61])))))), (some (136, false))⟩, ⟨(some 143), (.pick (.t 136) (.k (.v (.c (.p (.bool true))))) (.t 142)), (some (129, true))⟩, (oA 144 (.pick (.t 129) (.t 143) (.k (.v (.c (.p (.bool false)))))))] []) (.cond (.t 144) (.seq (.reg [(oA 145 (.mv (.t 0))), (oA 146 (.mv (.t 1))), (oA 147 (.mv (.t 1))), (oA 148 (.bin .add 0 (.t 147) (.k (.v (.c (.p (.int .i64 2))))))), (oA 149 (.slice 0 true (.t 145) (some (.t 146)) (some (.t 148)) none)), (oA 150 (.mv (.t 1))), (oA 151 (.build [(.p (.int .i64 0)), (.p (.str [])), (.p (.int .i64 0)), (.p (.int .i64 0))] [(0, 1, (.k (.v (.c (.p (.int .i64 4)))))), (1, 1, (.t 149)), (3, 1, (.t 150))])), (oA 152 (.mv (.t 1))), (oA 153 (.bin .add 0 (.t 152) (.k (.v (.c (.p (.int .i64 2))))))), (oN (.store 4 (.t 4) (.t 151))), (oA 5 (.mv (.t 153))), (oA 6 (.mv (.k (.v (.c (.p (.int .i64 0)))))))] []) .ret) .skip)) (.seq (.reg [(oA 12 (.mv (.k (.v (.c (.p (.str [123, 125, 60, 62, 44, 58, 40, 41, 46, 36, 124, 61, 59])))))))] []) (.seq (.seq (.reg [(oA 13 (.mv (.k (.v (.c (.p (.int .i64 0)))))))] []) (.block 5 (.loop 6 [0, 1, 4, 12, 13] (.seq (.seq (.reg [(oA 154 (.mv (.t 13))), (oA 155 (.mv (.t 12))), (oA 156 (.len 0 (.t 155))), (oA 157 (.bin .lss 0 (.t 154) (.t 156)))] []) (.cond (.t 157) .skip (.exit 5))) (.seq (.block 6 (.seq (.reg [(oA 160 (.mv (.t 12))), (oA 161 (.mv (.t 13))), (oA 162 (.index (.t 160) (.t 161))), (oA 163 (.mv (.t 0))), (oA 164 (.mv (.t 1))), (oA 165 (.index (.t 163) (.t 164))), (oA 166 (.bin .eql 0 (.t 162) (.t 165)))] []) (.cond (.t 166) (.seq (.reg [(oA 167 (.mv (.t 0))), (oA 168 (.mv (.t 1))), (oA 169 (.mv (.t 1))), (oA 170 (.bin .add 0 (.t 169) (.k (.v (.c (.p (.int .i64 1))))))), (oA 171 (.slice 0 true (.t 167) (some (.t 168)) (some (.t 170)) none)), (oA 172 (.mv (.t 1))), (oA 173 (.build [(.p (.int .i64 0)), (.p (.str [])), (.p (.int .i64 0)), (.p (.int .i64 0))] [(0, 1, (.k (.v (.c (.p (.int .i64 4)))))), (1, 1, (.t 171)), (3, 1, (.t 172))])), (oA 174 (.mv (.t 1))), (oA 175 (.bin .add 0 (.t 174) (.k (.v (.c (.p (.int .i64 1))))))), (oN (.store 4 (.t 4) (.t 173))), (oA 5 (.mv (.t 175))), (oA 6 (.mv (.k (.v (.c (.p (.int .i64 0)))))))] []) .ret) .skip))) (.reg [(oA 158 (.mv (.t 13))), (oA 159 (.bin .add 0 (.t 158) (.k (.v (.c (.p (.int .i64 1))))))), (oA 13 (.mv (.t 159)))] [])))))) (.mark 7 [4] (.seq (.reg [(oA 176 (.build [(.p (.int .i64 0)), (.p (.str [])), (.p (.int .i64 0)), (.p (.int .i64 0))] [])), (oN (.store 4 (.t 4) (.t 176))), (oA 5 (.mv (.k (.v (.c (.p (.int .i64 0))))))), (oA 6 (.mv (.k (.v (.c (.p (.int .i64 11)))))))] []) .ret))))))))) }
theorem t62 : compF Tryz.prog (globs2 tabs opq) (fun _ => false) true Tryz.f62 = some c62.erase := by kernel_rfl
noncomputable def b62_0 (O : Oracle) (R : Jump) (q : Nat) (x0 x1 : TVal) (h : Heap) : Res1 :=
 vop O (.alloc [(.p (.int .i64 0)), (.p (.str [])), (.p (.int .i64 0)), (.p (.int .i64 0))] false) h 4 fun x4 h =>
 vindex x0 x1 h fun x18 h =>
 vcall O (.v (.c (.func 84 []))) [x18] h 19 fun x19 h =>
 vif x19 (
 R 1 [x0, x1, x4, x1] h)
 (vindex x0 x1 h fun x53 h =>
 vcall O (.v (.c (.func 85 []))) [x53] h 54 fun x54 h =>
 vguard x54 false (fun kk => kk x0 h) h fun x56 h =>
 vguard x54 false (fun kk => kk x1 h) h fun x57 h =>
 vguard x54 false (fun kk => vindex x56 x57 h kk) h fun x58 h =>
 vguard x54 false (fun kk => vbin .eql 0 x58 (.v (.c (.p (.int .u8 45)))) h kk) h fun x59 h =>
 vguard x54 false (fun kk => kk x59 h) h fun x60 h =>
 vguard x60 true (fun kk => kk x1 h) h fun x61 h =>
 vguard x60 true (fun kk => vbin .add 0 x61 (kI 1) h kk) h fun x62 h =>
 vguard x60 true (fun kk => kk x0 h) h fun x63 h =>
 vguard x60 true (fun kk => vlen O 0 x63 h 64 kk) h fun x64 h =>
 vguard x60 true (fun kk => vbin .lss 0 x62 x64 h kk) h fun x65 h =>
 vguard x54 false (fun kk => vop O (.pick (.k x60) (.k x65) (.k (kB false))) h 66 kk) h fun x66 h =>
 vguard x54 false (fun kk => kk x66 h) h fun x67 h =>
 vguard x67 true (fun kk => kk x0 h) h fun x68 h =>
 vguard x67 true (fun kk => kk x1 h) h fun x69 h =>
 vguard x67 true (fun kk => vbin .add 0 x69 (kI 1) h kk) h fun x70 h =>
 vguard x67 true (fun kk => vindex x68 x70 h kk) h fun x71 h =>
 vguard x67 true (fun kk => vcall O (.v (.c (.func 85 []))) [x71] h 72 kk) h fun x72 h =>
 vguard x54 false (fun kk => vop O (.pick (.k x67) (.k x72) (.k (kB false))) h 73 kk) h fun x73 h =>
 vop O (.pick (.k x54) (.k (kB true)) (.k x73)) h 74 fun x74 h =>
 vif x74 (
 vbin .add 0 x1 (kI 1) h fun x76 h =>
 R 3 [x0, x1, x4, x76] h)
 (vindex x0 x1 h fun x105 h =>
 vbin .eql 0 x105 (.v (.c (.p (.int .u8 34)))) h fun x106 h =>
 vif x106 (
 vcall O (.v (.c (.func 70 []))) [x0, x1] h 110 fun x110 h =>
 vext x110 0 h fun x111 h =>
 vext x110 1 h fun x112 h =>
 vbin .lss 0 x112 (kI 0) h fun x114 h =>
 vif x114 (
 vop O (.build [(.p (.int .i64 0)), (.p (.str [])), (.p (.int .i64 0)), (.p (.int .i64 0))] []) h 115 fun x115 h =>
 vstore 4 x4 x115 h fun _ h =>
 vcell true 4 x4 h fun c0 => tcomp (kI 0) fun c1 => tcomp (kI 11) fun c2 => vfin true q [c0, c1, c2] h)
 (vlen O 0 x111 h 117 fun x117 h =>
 vbin .gtr 0 x117 (kI 200) h fun x118 h =>
 vif x118 (
 vop O (.build [(.p (.int .i64 0)), (.p (.str [])), (.p (.int .i64 0)), (.p (.int .i64 0))] []) h 119 fun x119 h =>
 vstore 4 x4 x119 h fun _ h =>
 vcell true 4 x4 h fun c0 => tcomp (kI 0) fun c1 => tcomp (kI 4) fun c2 => vfin true q [c0, c1, c2] h)
 (vop O (.build [(.p (.int .i64 0)), (.p (.str [])), (.p (.int .i64 0)), (.p (.int .i64 0))] [(0, 1, (.k (kI 2))), (1, 1, (.k x111)), (3, 1, (.k x1))]) h 122 fun x122 h =>
 vstore 4 x4 x122 h fun _ h =>
 vcell true 4 x4 h fun c0 => tcomp x112 fun c1 => tcomp (kI 0) fun c2 => vfin true q [c0, c1, c2] h)))
 (R 5 [x0, x1, x4] h)))
theorem e62_0 (O : Oracle) (R : Jump) (q : Nat) (x0 x1 : TVal) (h : Heap) : b62_0 O R q x0 x1 h = stepF c62 O R q 0 [x0, x1] h := by kernel_rfl
noncomputable def b62_1 (O : Oracle) (R : Jump) (q : Nat) (x0 x1 x4 x7 : TVal) (h : Heap) : Res1 :=
 vlen O 0 x0 h 22 fun x22 h =>
 vbin .lss 0 x7 x22 h fun x23 h =>
 vguard x23 true (fun kk => kk x0 h) h fun x25 h =>
 vguard x23 true (fun kk => kk x7 h) h fun x26 h =>
 vguard x23 true (fun kk => vindex x25 x26 h kk) h fun x27 h =>
 vguard x23 true (fun kk => vcall O (.v (.c (.func 84 []))) [x27] h 28 kk) h fun x28 h =>
 vguard x23 true (fun kk => kk x28 h) h fun x29 h =>
 vguard x29 false (fun kk => kk x0 h) h fun x30 h =>
 vguard x29 false (fun kk => kk x7 h) h fun x31 h =>
 vguard x29 false (fun kk => vindex x30 x31 h kk) h fun x32 h =>
 vguard x29 false (fun kk => vcall O (.v (.c (.func 85 []))) [x32] h 33 kk) h fun x33 h =>
 vguard x23 true (fun kk => vop O (.pick (.k x29) (.k (kB true)) (.k x33)) h 34 kk) h fun x34 h =>
 vop O (.pick (.k x23) (.k x34) (.k (kB false))) h 35 fun x35 h =>
 vif x35 (
 vbin .add 0 x7 (kI 1) h fun x37 h =>
 R 1 [x0, x1, x4, x37] h)
 (R 2 [x0, x1, x4, x7] h)
theorem e62_1 (O : Oracle) (R : Jump) (q : Nat) (x0 x1 x4 x7 : TVal) (h : Heap) : b62_1 O R q x0 x1 x4 x7 h = stepF c62 O R q 1 [x0, x1, x4, x7] h := by kernel_rfl
noncomputable def b62_2 (O : Oracle) (R : Jump) (q : Nat) (x0 x1 x4 x7 : TVal) (h : Heap) : Res1 :=
 vbin .sub 0 x7 x1 h fun x40 h =>
 vbin .gtr 0 x40 (kI 16) h fun x41 h =>
 vif x41 (
 vop O (.build [(.p (.int .i64 0)), (.p (.str [])), (.p (.int .i64 0)), (.p (.int .i64 0))] []) h 42 fun x42 h =>
 vstore 4 x4 x42 h fun _ h =>
 vcell true 4 x4 h fun c0 => tcomp (kI 0) fun c1 => tcomp (kI 4) fun c2 => vfin true q [c0, c1, c2] h)
 (vop O (.slice 0 true (.k x0) (some (.k x1)) (some (.k x7)) none) h 46 fun x46 h =>
 vop O (.build [(.p (.int .i64 0)), (.p (.str [])), (.p (.int .i64 0)), (.p (.int .i64 0))] [(0, 1, (.k (kI 1))), (1, 1, (.k x46)), (3, 1, (.k x1))]) h 48 fun x48 h =>
 vstore 4 x4 x48 h fun _ h =>
 vcell true 4 x4 h fun c0 => tcomp x7 fun c1 => tcomp (kI 0) fun c2 => vfin true q [c0, c1, c2] h)
theorem e62_2 (O : Oracle) (R : Jump) (q : Nat) (x0 x1 x4 x7 : TVal) (h : Heap) : b62_2 O R q x0 x1 x4 x7 h = stepF c62 O R q 2 [x0, x1, x4, x7] h := by kernel_rfl
noncomputable def b62_3 (O : Oracle) (R : Jump) (q : Nat) (x0 x1 x4 x7 : TVal) (h : Heap) : Res1 :=
 vlen O 0 x0 h 79 fun x79 h =>
 vbin .lss 0 x7 x79 h fun x80 h =>
 vguard x80 true (fun kk => kk x0 h) h fun x82 h =>
 vguard x80 true (fun kk => kk x7 h) h fun x83 h =>
 vguard x80 true (fun kk => vindex x82 x83 h kk) h fun x84 h =>
 vguard x80 true (fun kk => vcall O (.v (.c (.func 85 []))) [x84] h 85 kk) h fun x85 h =>
 vop O (.pick (.k x80) (.k x85) (.k (kB false))) h 86 fun x86 h =>
 vif x86 (
 vbin .add 0 x7 (kI 1) h fun x88 h =>
 R 3 [x0, x1, x4, x88] h)
 (R 4 [x0, x1, x4, x7] h)
theorem e62_3 (O : Oracle) (R : Jump) (q : Nat) (x0 x1 x4 x7 : TVal) (h : Heap) : b62_3 O R q x0 x1 x4 x7 h = stepF c62 O R q 3 [x0, x1, x4, x7] h := by kernel_rfl
noncomputable def b62_4 (O : Oracle) (R : Jump) (q : Nat) (x0 x1 x4 x7 : TVal) (h : Heap) : Res1 :=
 vop O (.slice 0 true (.k x0) (some (.k x1)) (some (.k x7)) none) h 93 fun x93 h =>
 vcall O (.v (.c (.func 72 []))) [x93] h 94 fun x94 h =>
 vext x94 0 h fun x95 h =>
 vext x94 1 h fun x96 h =>
 vop O (.build [(.p (.int .i64 0)), (.p (.str [])), (.p (.int .i64 0)), (.p (.int .i64 0))] [(0, 1, (.k (kI 3))), (2, 1, (.k x95)), (3, 1, (.k x1))]) h 99 fun x99 h =>
 vstore 4 x4 x99 h fun _ h =>
 vcell true 4 x4 h fun c0 => tcomp x7 fun c1 => tcomp x96 fun c2 => vfin true q [c0, c1, c2] h
theorem e62_4 (O : Oracle) (R : Jump) (q : Nat) (x0 x1 x4 x7 : TVal) (h : Heap) : b62_4 O R q x0 x1 x4 x7 h = stepF c62 O R q 4 [x0, x1, x4, x7] h := by kernel_rfl
noncomputable def b62_5 (O : Oracle) (R : Jump) (q : Nat) (x0 x1 x4 : TVal) (h : Heap) : Res1 :=
 vbin .add 0 x1 (kI 2) h fun x125 h =>
 vlen O 0 x0 h 127 fun x127 h =>
 vbin .leq 0 x125 x127 h fun x128 h =>
 vguard x128 true (fun kk => kk x0 h) h fun x130 h =>
 vguard x128 true (fun kk => kk x1 h) h fun x131 h =>
 vguard x128 true (fun kk => kk x1 h) h fun x132 h =>
 vguard x128 true (fun kk => vbin .add 0 x132 (kI 2) h kk) h fun x133 h =>
 vguard x128 true (fun kk => vop O (.slice 0 true (.k x130) (some (.k x131)) (some (.k x133)) none) h 134 kk) h fun x134 h =>
 vguard x128 true (fun kk => vbin .eql 0 x134 (kS [45, 62]) h kk) h fun x135 h =>
 vguard x128 true (fun kk => kk x135 h) h fun x136 h =>
 vguard x136 false (fun kk => kk x0 h) h fun x137 h =>
 vguard x136 false (fun kk => kk x1 h) h fun x138 h =>
 vguard x136 false (fun kk => kk x1 h) h fun x139 h =>
 vguard x136 false (fun kk => vbin .add 0 x139 (kI 2) h kk) h fun x140 h =>
 vguard x136 false (fun kk => vop O (.slice 0 true (.k x137) (some (.k x138)) (some (.k x140)) none) h 141 kk) h fun x141 h =>
 vguard x136 false (fun kk => vbin .eql 0 x141 (kS [58, 61]) h kk) h fun x142 h =>
 vguard x128 true (fun kk => vop O (.pick (.k x136) (.k (kB true)) (.k x142)) h 143 kk) h fun x143 h =>
 vop O (.pick (.k x128) (.k x143) (.k (kB false))) h 144 fun x144 h =>
 vif x144 (
 vbin .add 0 x1 (kI 2) h fun x148 h =>
 vop O (.slice 0 true (.k x0) (some (.k x1)) (some (.k x148)) none) h 149 fun x149 h =>
 vop O (.build [(.p (.int .i64 0)), (.p (.str [])), (.p (.int .i64 0)), (.p (.int .i64 0))] [(0, 1, (.k (kI 4))), (1, 1, (.k x149)), (3, 1, (.k x1))]) h 151 fun x151 h =>
 vbin .add 0 x1 (kI 2) h fun x153 h =>
 vstore 4 x4 x151 h fun _ h =>
 vcell true 4 x4 h fun c0 => tcomp x153 fun c1 => tcomp (kI 0) fun c2 => vfin true q [c0, c1, c2] h)
 (R 6 [x0, x1, x4, (kS [123, 125, 60, 62, 44, 58, 40, 41, 46, 36, 124, 61, 59]), (kI 0)] h)
theorem e62_5 (O : Oracle) (R : Jump) (q : Nat) (x0 x1 x4 : TVal) (h : Heap) : b62_5 O R q x0 x1 x4 h = stepF c62 O R q 5 [x0, x1, x4] h := by kernel_rfl
noncomputable def b62_6 (O : Oracle) (R : Jump) (q : Nat) (x0 x1 x4 x12 x13 : TVal) (h : Heap) : Res1 :=
 vlen O 0 x12 h 156 fun x156 h =>
 vbin .lss 0 x13 x156 h fun x157 h =>
 vif x157 (
 vindex x12 x13 h fun x162 h =>
 vindex x0 x1 h fun x165 h =>
 vbin .eql 0 x162 x165 h fun x166 h =>
 vif x166 (
 vbin .add 0 x1 (kI 1) h fun x170 h =>
 vop O (.slice 0 true (.k x0) (some (.k x1)) (some (.k x170)) none) h 171 fun x171 h =>
 vop O (.build [(.p (.int .i64 0)), (.p (.str [])), (.p (.int .i64 0)), (.p (.int .i64 0))] [(0, 1, (.k (kI 4))), (1, 1, (.k x171)), (3, 1, (.k x1))]) h 173 fun x173 h =>
 vbin .add 0 x1 (kI 1) h fun x175 h =>
 vstore 4 x4 x173 h fun _ h =>
 vcell true 4 x4 h fun c0 => tcomp x175 fun c1 => tcomp (kI 0) fun c2 => vfin true q [c0, c1, c2] h)
 (vbin .add 0 x13 (kI 1) h fun x159 h =>
 R 6 [x0, x1, x4, x12, x159] h))
 (R 7 [x4] h)
theorem e62_6 (O : Oracle) (R : Jump) (q : Nat) (x0 x1 x4 x12 x13 : TVal) (h : Heap) : b62_6 O R q x0 x1 x4 x12 x13 h = stepF c62 O R q 6 [x0, x1, x4, x12, x13] h := by kernel_rfl
noncomputable def b62_7 (O : Oracle) (R : Jump) (q : Nat) (x4 : TVal) (h : Heap) : Res1 :=
 vop O (.build [(.p (.int .i64 0)), (.p (.str [])), (.p (.int .i64 0)), (.p (.int .i64 0))] []) h 176 fun x176 h =>
 vstore 4 x4 x176 h fun _ h =>
 vcell true 4 x4 h fun c0 => tcomp (kI 0) fun c1 => tcomp (kI 11) fun c2 => vfin true q [c0, c1, c2] h
theorem e62_7 (O : Oracle) (R : Jump) (q : Nat) (x4 : TVal) (h : Heap) : b62_7 O R q x4 h = stepF c62 O R q 7 [x4] h := by kernel_rfl
noncomputable def d62 : BlkF := fun O R q => [.s fun y0 => .s fun y1 => .z fun h => b62_0 O R q y0 y1 h, .s fun y0 => .s fun y1 => .s fun y2 => .s fun y3 => .z fun h => b62_1 O R q y0 y1 y2 y3 h, .s fun y0 => .s fun y1 => .s fun y2 => .s fun y3 => .z fun h => b62_2 O R q y0 y1 y2 y3 h, .s fun y0 => .s fun y1 => .s fun y2 => .s fun y3 => .z fun h => b62_3 O R q y0 y1 y2 y3 h, .s fun y0 => .s fun y1 => .s fun y2 => .s fun y3 => .z fun h => b62_4 O R q y0 y1 y2 y3 h, .s fun y0 => .s fun y1 => .s fun y2 => .z fun h => b62_5 O R q y0 y1 y2 h, .s fun y0 => .s fun y1 => .s fun y2 => .s fun y3 => .s fun y4 => .z fun h => b62_6 O R q y0 y1 y2 y3 y4 h, .s fun y0 => .z fun h => b62_7 O R q y0 h]
theorem o62 (O : Oracle) (R : Jump) (q : Nat) : HoldsAll c62 O R q 0 (d62 O R q) := ⟨fun y0 y1 h => e62_0 O R q y0 y1 h, fun y0 y1 y2 y3 h => e62_1 O R q y0 y1 y2 y3 h, fun y0 y1 y2 y3 h => e62_2 O R q y0 y1 y2 y3 h, fun y0 y1 y2 y3 h => e62_3 O R q y0 y1 y2 y3 h, fun y0 y1 y2 y3 h => e62_4 O R q y0 y1 y2 y3 h, fun y0 y1 y2 h => e62_5 O R q y0 y1 y2 h, fun y0 y1 y2 y3 y4 h => e62_6 O R q y0 y1 y2 y3 y4 h, fun y0 h => e62_7 O R q y0 h, trivial⟩
/- (*sprue/sprueref7.reader).command -/
def c63 : MFunc := { np := 2, res := [.cell 4 true 1], frz := true, body := (.seq (.reg [(oA 4 (.alloc [(.p .nilslice)] false))] []) (.seq (.seq (.reg [(oA 6 (.mv (.t 0))), (oA 7 (.call (.k (.v (.c (.func 37 [])))) [(.t 6), (.k (.v (.c (.p (.int .i64 1)))))])), (oA 8 (.un .not (.t 7))), (oA 9 (.mv (.t 8))), ⟨(some 10), (.mv (.t 0)), (some (9, false))⟩, ⟨(some 11), (.nilck (.t 10)), (some (9, false))⟩, ⟨(some 12), (.faddr 0 (.t 11)), (some (9, false))⟩, ⟨(some 13), (.load false 1 (.t 12)), (some (9, false))⟩, ⟨(some 14), (.mv (.t 0)), (some (9, false))⟩, ⟨(some 15), (.nilck (.t 14)), (some (9, false))⟩, ⟨(some 16), (.faddr 1 (.t 15)), (some (9, false))⟩, ⟨(some 17), (.load false 1 (.t 16)), (some (9, false))⟩, ⟨(some 18), (.iaddr 4 (.t 13) (.t 17)), (some (9, false))⟩, ⟨(some 19), (.faddr 1 (.t 18)), (some (9, false))⟩, ⟨(some 20), (.load false 1 (.t 19)), (some (9, false))⟩, ⟨(some 21), (.call (.k (.v (.c (.func 38 [])))) [(.t 20)]), (some (9, false))⟩, (oA 22 (.pick (.t 9) (.k (.v (.c (.p (.bool true))))) (.t 21)))] []) (.cond (.t 22) (.seq (.reg [(oA 23 (.mv (.t 0))), (oA 24 (.mv (.t 1))), (oA 25 (.call (.k (.v (.c (.func 86 [])))) [(.t 23), (.t 24)])), (oA 26 (.bslice 7 1 [(.p (.int .i64 0)), (.p (.str [])), (.p .nilslice), (.p (.str [])), (.p (.int .i64 0)), (.p (.bool false)), (.p .nilslice)] [(0, (.t 25))] false)), (oA 27 (.build [(.p .nilslice)] [(0, 1, (.t 26))])), (oN (.store 1 (.t 4) (.t 27)))] []) .ret) .skip)) (.seq (.reg [(oA 28 (.mv (.t 0))), (oA 29 (.call (.k (.v (.c (.func 41 [])))) [(.t 28), (.k (.v (.c (.p (.int .i64 1)))))])), (oA 30 (.field 1 1 false (.t 29))), (oA 31 (.build [(.p (.int .i64 0)), (.p (.str [])), (.p .nilslice), (.p (.str [])), (.p (.int .i64 0)), (.p (.bool false)), (.p .nilslice)] [(0, 1, (.k (.v (.c (.p (.int .i64 6)))))), (3, 1, (.t 30))])), (oA 32 (.bslice 7 1 [(.p (.int .i64 0)), (.p (.str [])), (.p .nilslice), (.p (.str [])), (.p (.int .i64 0)), (.p (.bool false)), (.p .nilslice)] [(0, (.t 31))] false)), (oA 33 (.build [(.p .nilslice)] [(0, 1, (.t 32))])), (oA 5 (.alloc [(.p .nilslice)] false)), (oN (.store 1 (.t 5) (.t 33)))] []) (.seq (.block 0 (.loop 1 [0, 1, 4, 5] (.seq (.seq (.reg [(oA 34 (.mv (.t 0))), (oA 35 (.call (.k (.v (.c (.func 87 [])))) [(.t 34)]))] []) (.cond (.t 35) .skip (.exit 0))) (.block 1 (.seq (.seq (.reg [(oA 36 (.faddr 0 (.t 5))), (oA 37 (.load false 1 (.t 36))), (oA 38 (.len 2 (.t 37))), (oA 39 (.bin .gtr 0 (.t 38) (.k (.v (.c (.p (.int .i64 4)))))))] []) (.cond (.t 39) (.seq (.reg [(oA 40 (.mv (.t 0))), (oA 41 (.call (.k (.v (.c (.func 64 [])))) [(.t 40), (.k (.v (.c (.p (.int .i64 18)))))]))] []) (.seq (.reg [(oA 42 (.load true 1 (.t 5))), (oN (.store 1 (.t 4) (.t 42)))] []) .ret)) .skip)) (.reg [(oA 43 (.faddr 0 (.t 5))), (oA 44 (.load false 1 (.t 43))), (oA 45 (.mv (.t 0))), (oA 46 (.mv (.t 1))), (oA 47 (.call (.k (.v (.c (.func 86 [])))) [(.t 45), (.t 46)])), (oA 48 (.bslice 7 1 [(.p (.int .i64 0)), (.p (.str [])), (.p .nilslice), (.p (.str [])), (.p (.int .i64 0)), (.p (.bool false)), (.p .nilslice)] [(0, (.t 47))] false)), (oA 49 (.append 7 104 false (.t 44) (.t 48))), (oA 50 (.faddr 0 (.t 5))), (oN (.store 1 (.t 50) (.t 49)))] [(1, 4), (1, 5)])))))) (.mark 2 [4, 5] (.seq (.reg [(oA 51 (.load true 1 (.t 5))), (oN (.store 1 (.t 4) (.t 51)))] []) .ret)))))) }
theorem t63 : compF Tryz.prog (globs2 tabs opq) (fun _ => false) true Tryz.f63 = some c63.erase := by kernel_rfl
noncomputable def b63_0 (O : Oracle) (R : Jump) (q : Nat) (x0 x1 : TVal) (h : Heap) : Res1 :=
 vop O (.alloc [(.p .nilslice)] false) h 4 fun x4 h =>
 vcall O (.v (.c (.func 37 []))) [x0, (kI 1)] h 7 fun x7 h =>
 vop O (.un .not (.k x7)) h 8 fun x8 h =>
 vguard x8 false (fun kk => kk x0 h) h fun x10 h =>
 vguard x8 false (fun kk => vop O (.nilck (.k x10)) h 11 kk) h fun x11 h =>
 vguard x8 false (fun kk => vfaddr 0 x11 h kk) h fun x12 h =>
 vguard x8 false (fun kk => vload false 1 x12 h kk) h fun x13 h =>
 vguard x8 false (fun kk => kk x0 h) h fun x14 h =>
 vguard x8 false (fun kk => vop O (.nilck (.k x14)) h 15 kk) h fun x15 h =>
 vguard x8 false (fun kk => vfaddr 1 x15 h kk) h fun x16 h =>
 vguard x8 false (fun kk => vload false 1 x16 h kk) h fun x17 h =>
 vguard x8 false (fun kk => viaddr 4 x13 x17 h kk) h fun x18 h =>
 vguard x8 false (fun kk => vfaddr 1 x18 h kk) h fun x19 h =>
 vguard x8 false (fun kk => vload false 1 x19 h kk) h fun x20 h =>
 vguard x8 false (fun kk => vcall O (.v (.c (.func 38 []))) [x20] h 21 kk) h fun x21 h =>
 vop O (.pick (.k x8) (.k (kB true)) (.k x21)) h 22 fun x22 h =>
 vif x22 (
 vcall O (.v (.c (.func 86 []))) [x0, x1] h 25 fun x25 h =>
 vop O (.bslice 7 1 [(.p (.int .i64 0)), (.p (.str [])), (.p .nilslice), (.p (.str [])), (.p (.int .i64 0)), (.p (.bool false)), (.p .nilslice)] [(0, (.k x25))] false) h 26 fun x26 h =>
 vop O (.build [(.p .nilslice)] [(0, 1, (.k x26))]) h 27 fun x27 h =>
 vstore 1 x4 x27 h fun _ h =>
 vcell true 1 x4 h fun c0 => vfin true q [c0] h)
 (vcall O (.v (.c (.func 41 []))) [x0, (kI 1)] h 29 fun x29 h =>
 vfield 1 1 false x29 h fun x30 h =>
 vop O (.build [(.p (.int .i64 0)), (.p (.str [])), (.p .nilslice), (.p (.str [])), (.p (.int .i64 0)), (.p (.bool false)), (.p .nilslice)] [(0, 1, (.k (kI 6))), (3, 1, (.k x30))]) h 31 fun x31 h =>
 vop O (.bslice 7 1 [(.p (.int .i64 0)), (.p (.str [])), (.p .nilslice), (.p (.str [])), (.p (.int .i64 0)), (.p (.bool false)), (.p .nilslice)] [(0, (.k x31))] false) h 32 fun x32 h =>
 vop O (.build [(.p .nilslice)] [(0, 1, (.k x32))]) h 33 fun x33 h =>
 vop O (.alloc [(.p .nilslice)] false) h 5 fun x5 h =>
 vstore 1 x5 x33 h fun _ h =>
 R 1 [x0, x1, x4, x5] h)
theorem e63_0 (O : Oracle) (R : Jump) (q : Nat) (x0 x1 : TVal) (h : Heap) : b63_0 O R q x0 x1 h = stepF c63 O R q 0 [x0, x1] h := by kernel_rfl
noncomputable def b63_1 (O : Oracle) (R : Jump) (q : Nat) (x0 x1 x4 x5 : TVal) (h : Heap) : Res1 :=
 vcall O (.v (.c (.func 87 []))) [x0] h 35 fun x35 h =>
 vif x35 (
 vfaddr 0 x5 h fun x36 h =>
 vload false 1 x36 h fun x37 h =>
 vlen O 2 x37 h 38 fun x38 h =>
 vbin .gtr 0 x38 (kI 4) h fun x39 h =>
 vif x39 (
 vcall O (.v (.c (.func 64 []))) [x0, (kI 18)] h 41 fun x41 h =>
 vload true 1 x5 h fun x42 h =>
 vstore 1 x4 x42 h fun _ h =>
 vcell true 1 x4 h fun c0 => vfin true q [c0] h)
 (vtouch O (.faddr 0 (.k x5)) h 43 fun x43 h t0 =>
 vtouch O (.load false 1 (.k x43)) h 44 fun x44 h t1 =>
 vtouch O (.mv (.k x0)) h 45 fun x45 h t2 =>
 vtouch O (.mv (.k x1)) h 46 fun x46 h t3 =>
 vtouch O (.call (.k (.v (.c (.func 86 [])))) [(.k x45), (.k x46)]) h 47 fun x47 h t4 =>
 vtouch O (.bslice 7 1 [(.p (.int .i64 0)), (.p (.str [])), (.p .nilslice), (.p (.str [])), (.p (.int .i64 0)), (.p (.bool false)), (.p .nilslice)] [(0, (.k x47))] false) h 48 fun x48 h t5 =>
 vtouch O (.append 7 104 false (.k x44) (.k x48)) h 49 fun x49 h t6 =>
 vtouch O (.faddr 0 (.k x5)) h 50 fun x50 h t7 =>
 vtouch O (.store 1 (.k x50) (.k x49)) h 1000000 fun _ h t8 =>
 bif apartAll [t0, t1, t2, t3, t4, t5, t6, t7, t8] [(1, 4), (1, 5)] then
 R 1 [x0, x1, x4, x5] h
 else none))
 (R 2 [x4, x5] h)
theorem e63_1 (O : Oracle) (R : Jump) (q : Nat) (x0 x1 x4 x5 : TVal) (h : Heap) : b63_1 O R q x0 x1 x4 x5 h = stepF c63 O R q 1 [x0, x1, x4, x5] h := by kernel_rfl
noncomputable def b63_2 (O : Oracle) (R : Jump) (q : Nat) (x4 x5 : TVal) (h : Heap) : Res1 :=
 vload true 1 x5 h fun x51 h =>
 vstore 1 x4 x51 h fun _ h =>
 vcell true 1 x4 h fun c0 => vfin true q [c0] h
theorem e63_2 (O : Oracle) (R : Jump) (q : Nat) (x4 x5 : TVal) (h : Heap) : b63_2 O R q x4 x5 h = stepF c63 O R q 2 [x4, x5] h := by kernel_rfl
noncomputable def d63 : BlkF := fun O R q => [.s fun y0 => .s fun y1 => .z fun h => b63_0 O R q y0 y1 h, .s fun y0 => .s fun y1 => .s fun y2 => .s fun y3 => .z fun h => b63_1 O R q y0 y1 y2 y3 h, .s fun y0 => .s fun y1 => .z fun h => b63_2 O R q y0 y1 h]
theorem o63 (O : Oracle) (R : Jump) (q : Nat) : HoldsAll c63 O R q 0 (d63 O R q) := ⟨fun y0 y1 h => e63_0 O R q y0 y1 h, fun y0 y1 y2 y3 h => e63_1 O R q y0 y1 y2 y3 h, fun y0 y1 h => e63_2 O R q y0 y1 h, trivial⟩
/- (*sprue/sprueref7.reader).fail -/
def c64 : MFunc := { np := 2, res := [], frz := true, body := (.seq (.reg [(oA 4 (.mv (.t 0))), (oA 5 (.nilck (.t 4))), (oA 6 (.faddr 2 (.t 5))), (oA 7 (.load false 1 (.t 6))), (oA 8 (.bin .eql 0 (.t 7) (.k (.v (.c (.p (.int .i64 0)))))))] []) (.cond (.t 8) (.reg [(oA 9 (.mv (.t 0))), (oA 10 (.mv (.t 1))), (oA 11 (.nilck (.t 9))), (oA 12 (.faddr 2 (.t 11))), (oN (.store 1 (.t 12) (.t 10)))] []) .skip)) }
theorem t64 : compF Tryz.prog (globs2 tabs opq) (fun _ => false) true Tryz.f64 = some c64.erase := by kernel_rfl
noncomputable def b64_0 (O : Oracle) (R : Jump) (q : Nat) (x0 x1 : TVal) (h : Heap) : Res1 :=
 vop O (.nilck (.k x0)) h 5 fun x5 h =>
 vfaddr 2 x5 h fun x6 h =>
 vload false 1 x6 h fun x7 h =>
 vbin .eql 0 x7 (kI 0) h fun x8 h =>
 vif x8 (
 vop O (.nilck (.k x0)) h 11 fun x11 h =>
 vfaddr 2 x11 h fun x12 h =>
 vstore 1 x12 x1 h fun _ h =>
 vfin true q [] h)
 (vfin true q [] h)
theorem e64_0 (O : Oracle) (R : Jump) (q : Nat) (x0 x1 : TVal) (h : Heap) : b64_0 O R q x0 x1 h = stepF c64 O R q 0 [x0, x1] h := by kernel_rfl
noncomputable def d64 : BlkF := fun O R q => [.s fun y0 => .s fun y1 => .z fun h => b64_0 O R q y0 y1 h]
theorem o64 (O : Oracle) (R : Jump) (q : Nat) : HoldsAll c64 O R q 0 (d64 O R q) := ⟨fun y0 y1 h => e64_0 O R q y0 y1 h, trivial⟩
/- (*sprue/sprueref7.parser).begin -/
def c65 : MFunc := { np := 5, res := [.t 10], frz := true, body := (.seq (.reg [(oA 7 (.box (.t 2) true)), (oA 10 (.mv (.k (.v (.c (.p (.int .i64 0)))))))] []) (.seq (.seq (.reg [(oA 11 (.mv (.t 1))), (oA 12 (.bin .neq 0 (.t 11) (.k (.v (.c (.p (.str [100, 101, 102, 105, 110, 101]))))))), (oA 13 (.mv (.t 12))), ⟨(some 14), (.mv (.t 0)), (some (13, true))⟩, ⟨(some 15), (.nilck (.t 14)), (some (13, true))⟩, ⟨(some 16), (.faddr 0 (.t 15)), (some (13, true))⟩, ⟨(some 17), (.load false 1 (.t 16)), (some (13, true))⟩, ⟨(some 18), (.len 2 (.t 17)), (some (13, true))⟩, ⟨(some 19), (.bin .gtr 0 (.t 18) (.k (.v (.c (.p (.int .i64 0)))))), (some (13, true))⟩, (oA 20 (.pick (.t 13) (.t 19) (.k (.v (.c (.p (.bool false))))))), (oA 21 (.mv (.t 20))), ⟨(some 22), (.mv (.t 0)), (some (21, true))⟩, ⟨(some 23), (.nilck (.t 22)), (some (21, true))⟩, ⟨(some 24), (.faddr 0 (.t 23)), (some (21, true))⟩, ⟨(some 25), (.load false 1 (.t 24)), (some (21, true))⟩, ⟨(some 26), (.mv (.t 0)), (some (21, true))⟩, ⟨(some 27), (.nilck (.t 26)), (some (21, true))⟩, ⟨(some 28), (.faddr 0 (.t 27)), (some (21, true))⟩, ⟨(some 29), (.load false 1 (.t 28)), (some (21, true))⟩, ⟨(some 30), (.len 2 (.t 29)), (some (21, true))⟩, ⟨(some 31), (.bin .sub 0 (.t 30) (.k (.v (.c (.p (.int .i64 1)))))), (some (21, true))⟩, ⟨(some 32), (.iaddr 12 (.t 25) (.t 31)), (some (21, true))⟩, ⟨(some 33), (.faddr 10 (.t 32)), (some (21, true))⟩, ⟨(some 34), (.load false 1 (.t 33)), (some (21, true))⟩, ⟨(some 35), (.bin .eql 0 (.t 34) (.k (.v (.c (.p (.int .i64 3)))))), (some (21, true))⟩, (oA 36 (.pick (.t 21) (.t 35) (.k (.v (.c (.p (.bool false)))))))] []) (.cond (.t 36) (.seq (.reg [(oA 10 (.mv (.k (.v (.c (.p (.int .i64 12)))))))] []) .ret) .skip)) (.seq (.seq (.reg [(oA 37 (.mv (.t 0))), (oA 38 (.nilck (.t 37))), (oA 39 (.faddr 0 (.t 38))), (oA 40 (.load false 1 (.t 39))), (oA 41 (.len 2 (.t 40))), (oA 42 (.bin .geq 0 (.t 41) (.k (.v (.c (.p (.int .i64 12)))))))] []) (.cond (.t 42) (.seq (.reg [(oA 10 (.mv (.k (.v (.c (.p (.int .i64 13)))))))] []) .ret) .skip)) (.seq (.reg [(oA 43 (.mv (.t 0))), (oA 44 (.mv (.t 0))), (oA 45 (.nilck (.t 44))), (oA 46 (.faddr 0 (.t 45))), (oA 47 (.load false 1 (.t 46))), (oA 48 (.mv (.t 1))), (oA 49 (.load true 9 (.t 7))), (oA 50 (.mv (.t 3))), (oA 51 (.mv (.t 4))), (oA 52 (.build [(.p (.str [])), (.p (.int .i64 0)), (.p (.int .i64 0)), (.p (.str [])), (.p (.str [])), (.p .nilslice), (.p .nilslice), (.p .nilslice), (.p (.bool false)), (.p .nilslice), (.p (.int .i64 0)), (.p (.str []))] [(0, 1, (.t 48)), (1, 9, (.t 49)), (10, 1, (.t 50)), (11, 1, (.t 51))])), (oA 53 (.bslice 12 1 [(.p (.str [])), (.p (.int .i64 0)), (.p (.int .i64 0)), (.p (.str [])), (.p (.str [])), (.p .nilslice), (.p .nilslice), (.p .nilslice), (.p (.bool false)), (.p .nilslice), (.p (.int .i64 0)), (.p (.str []))] [(0, (.t 52))] true)), (oA 54 (.append 12 192 true (.t 47) (.t 53))), (oA 55 (.nilck (.t 43))), (oA 56 (.faddr 0 (.t 55))), (oN (.store 1 (.t 56) (.t 54)))] [(4, 10)]) (.seq (.reg [(oA 10 (.mv (.k (.v (.c (.p (.int .i64 0)))))))] []) .ret))))) }
theorem t65 : compF Tryz.prog (globs2 tabs opq) (fun _ => true) true Tryz.f65 = some c65.erase := by kernel_rfl
noncomputable def b65_0 (O : Oracle) (R : Jump) (q : Nat) (x0 x1 x2 x3 x4 : TVal) (h : Heap) : Res1 :=
 vop O (.box (.k x2) true) h 7 fun x7 h =>
 vbin .neq 0 x1 (kS [100, 101, 102, 105, 110, 101]) h fun x12 h =>
 vguard x12 true (fun kk => kk x0 h) h fun x14 h =>
 vguard x12 true (fun kk => vop O (.nilck (.k x14)) h 15 kk) h fun x15 h =>
 vguard x12 true (fun kk => vfaddr 0 x15 h kk) h fun x16 h =>
 vguard x12 true (fun kk => vload false 1 x16 h kk) h fun x17 h =>
 vguard x12 true (fun kk => vlen O 2 x17 h 18 kk) h fun x18 h =>
 vguard x12 true (fun kk => vbin .gtr 0 x18 (kI 0) h kk) h fun x19 h =>
 vop O (.pick (.k x12) (.k x19) (.k (kB false))) h 20 fun x20 h =>
 vguard x20 true (fun kk => kk x0 h) h fun x22 h =>
 vguard x20 true (fun kk => vop O (.nilck (.k x22)) h 23 kk) h fun x23 h =>
 vguard x20 true (fun kk => vfaddr 0 x23 h kk) h fun x24 h =>
 vguard x20 true (fun kk => vload false 1 x24 h kk) h fun x25 h =>
 vguard x20 true (fun kk => kk x0 h) h fun x26 h =>
 vguard x20 true (fun kk => vop O (.nilck (.k x26)) h 27 kk) h fun x27 h =>
 vguard x20 true (fun kk => vfaddr 0 x27 h kk) h fun x28 h =>
 vguard x20 true (fun kk => vload false 1 x28 h kk) h fun x29 h =>
 vguard x20 true (fun kk => vlen O 2 x29 h 30 kk) h fun x30 h =>
 vguard x20 true (fun kk => vbin .sub 0 x30 (kI 1) h kk) h fun x31 h =>
 vguard x20 true (fun kk => viaddr 12 x25 x31 h kk) h fun x32 h =>
 vguard x20 true (fun kk => vfaddr 10 x32 h kk) h fun x33 h =>
 vguard x20 true (fun kk => vload false 1 x33 h kk) h fun x34 h =>
 vguard x20 true (fun kk => vbin .eql 0 x34 (kI 3) h kk) h fun x35 h =>
 vop O (.pick (.k x20) (.k x35) (.k (kB false))) h 36 fun x36 h =>
 vif x36 (
 tcomp (kI 12) fun c0 => vfin true q [c0] h)
 (vop O (.nilck (.k x0)) h 38 fun x38 h =>
 vfaddr 0 x38 h fun x39 h =>
 vload false 1 x39 h fun x40 h =>
 vlen O 2 x40 h 41 fun x41 h =>
 vbin .geq 0 x41 (kI 12) h fun x42 h =>
 vif x42 (
 tcomp (kI 13) fun c0 => vfin true q [c0] h)
 (vtouch O (.mv (.k x0)) h 43 fun x43 h t0 =>
 vtouch O (.mv (.k x0)) h 44 fun x44 h t1 =>
 vtouch O (.nilck (.k x44)) h 45 fun x45 h t2 =>
 vtouch O (.faddr 0 (.k x45)) h 46 fun x46 h t3 =>
 vtouch O (.load false 1 (.k x46)) h 47 fun x47 h t4 =>
 vtouch O (.mv (.k x1)) h 48 fun x48 h t5 =>
 vtouch O (.load true 9 (.k x7)) h 49 fun x49 h t6 =>
 vtouch O (.mv (.k x3)) h 50 fun x50 h t7 =>
 vtouch O (.mv (.k x4)) h 51 fun x51 h t8 =>
 vtouch O (.build [(.p (.str [])), (.p (.int .i64 0)), (.p (.int .i64 0)), (.p (.str [])), (.p (.str [])), (.p .nilslice), (.p .nilslice), (.p .nilslice), (.p (.bool false)), (.p .nilslice), (.p (.int .i64 0)), (.p (.str []))] [(0, 1, (.k x48)), (1, 9, (.k x49)), (10, 1, (.k x50)), (11, 1, (.k x51))]) h 52 fun x52 h t9 =>
 vtouch O (.bslice 12 1 [(.p (.str [])), (.p (.int .i64 0)), (.p (.int .i64 0)), (.p (.str [])), (.p (.str [])), (.p .nilslice), (.p .nilslice), (.p .nilslice), (.p (.bool false)), (.p .nilslice), (.p (.int .i64 0)), (.p (.str []))] [(0, (.k x52))] true) h 53 fun x53 h t10 =>
 vtouch O (.append 12 192 true (.k x47) (.k x53)) h 54 fun x54 h t11 =>
 vtouch O (.nilck (.k x43)) h 55 fun x55 h t12 =>
 vtouch O (.faddr 0 (.k x55)) h 56 fun x56 h t13 =>
 vtouch O (.store 1 (.k x56) (.k x54)) h 1000000 fun _ h t14 =>
 bif apartAll [t0, t1, t2, t3, t4, t5, t6, t7, t8, t9, t10, t11, t12, t13, t14] [(4, 10)] then
 tcomp (kI 0) fun c0 => vfin true q [c0] h
 else none))
theorem e65_0 (O : Oracle) (R : Jump) (q : Nat) (x0 x1 x2 x3 x4 : TVal) (h : Heap) : b65_0 O R q x0 x1 x2 x3 x4 h = stepF c65 O R q 0 [x0, x1, x2, x3, x4] h := by kernel_rfl
noncomputable def d65 : BlkF := fun O R q => [.s fun y0 => .s fun y1 => .s fun y2 => .s fun y3 => .s fun y4 => .z fun h => b65_0 O R q y0 y1 y2 y3 y4 h]
theorem o65 (O : Oracle) (R : Jump) (q : Nat) : HoldsAll c65 O R q 0 (d65 O R q) := ⟨fun y0 y1 y2 y3 y4 h => e65_0 O R q y0 y1 y2 y3 y4 h, trivial⟩
/- (*sprue/sprueref7.parser).other -/
def c66 : MFunc := { np := 3, res := [.t 6], frz := true, body := (.seq (.reg [(oA 6 (.mv (.k (.v (.c (.p (.int .i64 0)))))))] []) (.seq (.seq (.reg [(oA 8 (.mv (.t 0))), (oA 9 (.nilck (.t 8))), (oA 10 (.faddr 0 (.t 9))), (oA 11 (.load false 1 (.t 10))), (oA 12 (.len 2 (.t 11))), (oA 13 (.bin .eql 0 (.t 12) (.k (.v (.c (.p (.int .i64 0)))))))] []) (.cond (.t 13) (.seq (.reg [(oA 6 (.mv (.k (.v (.c (.p (.int .i64 12)))))))] []) .ret) .skip)) (.seq (.reg [(oA 14 (.mv (.t 0))), (oA 15 (.nilck (.t 14))), (oA 16 (.faddr 0 (.t 15))), (oA 17 (.load false 1 (.t 16))), (oA 18 (.mv (.t 0))), (oA 19 (.nilck (.t 18))), (oA 20 (.faddr 0 (.t 19))), (oA 21 (.load false 1 (.t 20))), (oA 22 (.len 2 (.t 21))), (oA 23 (.bin .sub 0 (.t 22) (.k (.v (.c (.p (.int .i64 1))))))), (oA 24 (.iaddr 12 (.t 17) (.t 23))), (oA 7 (.mv (.t 24)))] []) (.seq (.seq (.reg [(oA 25 (.mv (.t 7))), (oA 26 (.nilck (.t 25))), (oA 27 (.faddr 0 (.t 26))), (oA 28 (.load false 1 (.t 27))), (oA 29 (.bin .eql 0 (.t 28) (.k (.v (.c (.p (.str [100, 101, 102, 105, 110, 101]))))))), (oA 30 (.mv (.t 29))), ⟨(some 31), (.mv (.t 7)), (some (30, false))⟩, ⟨(some 32), (.nilck (.t 31)), (some (30, false))⟩, ⟨(some 33), (.faddr 1 (.t 32)), (some (30, false))⟩, ⟨(some 34), (.faddr 7 (.t 33)), (some (30, false))⟩, ⟨(some 35), (.load false 1 (.t 34)), (some (30, false))⟩, (oA 36 (.pick (.t 30) (.k (.v (.c (.p (.bool true))))) (.t 35))), (oA 37 (.mv (.t 36))), ⟨(some 38), (.mv (.t 1)), (some (37, false))⟩, ⟨(some 39), (.bin .eql 0 (.t 38) (.k (.v (.c (.p (.str [99, 97, 115, 101])))))), (some (37, false))⟩, ⟨(some 40), (.mv (.t 39)), (some (37, false))⟩, ⟨(some 41), (.mv (.t 7)), (some (40, true))⟩, ⟨(some 42), (.nilck (.t 41)), (some (40, true))⟩, ⟨(some 43), (.faddr 0 (.t 42)), (some (40, true))⟩, ⟨(some 44), (.load false 1 (.t 43)), (some (40, true))⟩, ⟨(some 45), (.bin .neq 0 (.t 44) (.k (.v (.c (.p (.str [109, 97, 116, 99, 104])))))), (some (40, true))⟩, ⟨(some 46), (.pick (.t 40) (.t 45) (.k (.v (.c (.p (.bool false)))))), (some (37, false))⟩, (oA 47 (.pick (.t 37) (.k (.v (.c (.p (.bool true))))) (.t 46)))] []) (.cond (.t 47) (.seq (.reg [(oA 6 (.mv (.k (.v (.c (.p (.int .i64 12)))))))] []) .ret) .skip)) (.seq (.seq (.reg [(oA 48 (.mv (.t 1))), (oA 49 (.bin .eql 0 (.t 48) (.k (.v (.c (.p (.str [101, 108, 115, 101])))))))] []) (.cond (.t 49) (.seq (.reg [(oA 50 (.mv (.t 7))), (oA 51 (.nilck (.t 50))), (oA 52 (.faddr 1 (.t 51))), (oA 53 (.faddr 7 (.t 52))), (oN (.store 1 (.t 53) (.k (.v (.c (.p (.bool true)))))))] []) (.seq (.reg [(oA 54 (.mv (.t 7))), (oA 55 (.nilck (.t 54))), (oA 56 (.faddr 10 (.t 55))), (oN (.store 1 (.t 56) (.k (.v (.c (.p (.int .i64 1)))))))] []) (.seq (.reg [(oA 6 (.mv (.k (.v (.c (.p (.int .i64 0)))))))] []) .ret))) .skip)) (.seq (.reg [(oA 57 (.mv (.t 7))), (oA 58 (.mv (.t 7))), (oA 59 (.nilck (.t 58))), (oA 60 (.faddr 1 (.t 59))), (oA 61 (.faddr 8 (.t 60))), (oA 62 (.load false 1 (.t 61))), (oA 63 (.mv (.t 2))), (oA 64 (.build [(.p (.str [])), (.p .nilslice)] [(0, 1, (.t 63))])), (oA 65 (.bslice 2 1 [(.p (.str [])), (.p .nilslice)] [(0, (.t 64))] true)), (oA 66 (.append 2 40 true (.t 62) (.t 65))), (oA 67 (.nilck (.t 57))), (oA 68 (.faddr 1 (.t 67))), (oA 69 (.faddr 8 (.t 68))), (oN (.store 1 (.t 69) (.t 66)))] []) (.seq (.reg [(oA 70 (.mv (.t 7))), (oA 71 (.nilck (.t 70))), (oA 72 (.faddr 10 (.t 71))), (oN (.store 1 (.t 72) (.k (.v (.c (.p (.int .i64 2)))))))] []) (.seq (.reg [(oA 6 (.mv (.k (.v (.c (.p (.int .i64 0)))))))] []) .ret)))))))) }
theorem t66 : compF Tryz.prog (globs2 tabs opq) (fun _ => true) true Tryz.f66 = some c66.erase := by kernel_rfl
noncomputable def b66_0 (O : Oracle) (R : Jump) (q : Nat) (x0 x1 x2 : TVal) (h : Heap) : Res1 :=
 vop O (.nilck (.k x0)) h 9 fun x9 h =>
 vfaddr 0 x9 h fun x10 h =>
 vload false 1 x10 h fun x11 h =>
 vlen O 2 x11 h 12 fun x12 h =>
 vbin .eql 0 x12 (kI 0) h fun x13 h =>
 vif x13 (
 tcomp (kI 12) fun c0 => vfin true q [c0] h)
 (vop O (.nilck (.k x0)) h 15 fun x15 h =>
 vfaddr 0 x15 h fun x16 h =>
 vload false 1 x16 h fun x17 h =>
 vop O (.nilck (.k x0)) h 19 fun x19 h =>
 vfaddr 0 x19 h fun x20 h =>
 vload false 1 x20 h fun x21 h =>
 vlen O 2 x21 h 22 fun x22 h =>
 vbin .sub 0 x22 (kI 1) h fun x23 h =>
 viaddr 12 x17 x23 h fun x24 h =>
 vop O (.nilck (.k x24)) h 26 fun x26 h =>
 vfaddr 0 x26 h fun x27 h =>
 vload false 1 x27 h fun x28 h =>
 vbin .eql 0 x28 (kS [100, 101, 102, 105, 110, 101]) h fun x29 h =>
 vguard x29 false (fun kk => kk x24 h) h fun x31 h =>
 vguard x29 false (fun kk => vop O (.nilck (.k x31)) h 32 kk) h fun x32 h =>
 vguard x29 false (fun kk => vfaddr 1 x32 h kk) h fun x33 h =>
 vguard x29 false (fun kk => vfaddr 7 x33 h kk) h fun x34 h =>
 vguard x29 false (fun kk => vload false 1 x34 h kk) h fun x35 h =>
 vop O (.pick (.k x29) (.k (kB true)) (.k x35)) h 36 fun x36 h =>
 vguard x36 false (fun kk => kk x1 h) h fun x38 h =>
 vguard x36 false (fun kk => vbin .eql 0 x38 (kS [99, 97, 115, 101]) h kk) h fun x39 h =>
 vguard x36 false (fun kk => kk x39 h) h fun x40 h =>
 vguard x40 true (fun kk => kk x24 h) h fun x41 h =>
 vguard x40 true (fun kk => vop O (.nilck (.k x41)) h 42 kk) h fun x42 h =>
 vguard x40 true (fun kk => vfaddr 0 x42 h kk) h fun x43 h =>
 vguard x40 true (fun kk => vload false 1 x43 h kk) h fun x44 h =>
 vguard x40 true (fun kk => vbin .neq 0 x44 (kS [109, 97, 116, 99, 104]) h kk) h fun x45 h =>
 vguard x36 false (fun kk => vop O (.pick (.k x40) (.k x45) (.k (kB false))) h 46 kk) h fun x46 h =>
 vop O (.pick (.k x36) (.k (kB true)) (.k x46)) h 47 fun x47 h =>
 vif x47 (
 tcomp (kI 12) fun c0 => vfin true q [c0] h)
 (vbin .eql 0 x1 (kS [101, 108, 115, 101]) h fun x49 h =>
 vif x49 (
 vop O (.nilck (.k x24)) h 51 fun x51 h =>
 vfaddr 1 x51 h fun x52 h =>
 vfaddr 7 x52 h fun x53 h =>
 vstore 1 x53 (kB true) h fun _ h =>
 vop O (.nilck (.k x24)) h 55 fun x55 h =>
 vfaddr 10 x55 h fun x56 h =>
 vstore 1 x56 (kI 1) h fun _ h =>
 tcomp (kI 0) fun c0 => vfin true q [c0] h)
 (vop O (.nilck (.k x24)) h 59 fun x59 h =>
 vfaddr 1 x59 h fun x60 h =>
 vfaddr 8 x60 h fun x61 h =>
 vload false 1 x61 h fun x62 h =>
 vop O (.build [(.p (.str [])), (.p .nilslice)] [(0, 1, (.k x2))]) h 64 fun x64 h =>
 vop O (.bslice 2 1 [(.p (.str [])), (.p .nilslice)] [(0, (.k x64))] true) h 65 fun x65 h =>
 vop O (.append 2 40 true (.k x62) (.k x65)) h 66 fun x66 h =>
 vop O (.nilck (.k x24)) h 67 fun x67 h =>
 vfaddr 1 x67 h fun x68 h =>
 vfaddr 8 x68 h fun x69 h =>
 vstore 1 x69 x66 h fun _ h =>
 vop O (.nilck (.k x24)) h 71 fun x71 h =>
 vfaddr 10 x71 h fun x72 h =>
 vstore 1 x72 (kI 2) h fun _ h =>
 tcomp (kI 0) fun c0 => vfin true q [c0] h)))
theorem e66_0 (O : Oracle) (R : Jump) (q : Nat) (x0 x1 x2 : TVal) (h : Heap) : b66_0 O R q x0 x1 x2 h = stepF c66 O R q 0 [x0, x1, x2] h := by kernel_rfl
noncomputable def d66 : BlkF := fun O R q => [.s fun y0 => .s fun y1 => .s fun y2 => .z fun h => b66_0 O R q y0 y1 y2 h]
theorem o66 (O : Oracle) (R : Jump) (q : Nat) : HoldsAll c66 O R q 0 (d66 O R q) := ⟨fun y0 y1 y2 h => e66_0 O R q y0 y1 y2 h, trivial⟩
/- (*sprue/sprueref7.parser).close -/
def c67 : MFunc := { np := 1, res := [.t 2], frz := true, body := (.seq (.reg [(oA 2 (.mv (.k (.v (.c (.p (.int .i64 0)))))))] []) (.seq (.seq (.reg [(oA 4 (.mv (.t 0))), (oA 5 (.nilck (.t 4))), (oA 6 (.faddr 0 (.t 5))), (oA 7 (.load false 1 (.t 6))), (oA 8 (.len 2 (.t 7))), (oA 9 (.bin .eql 0 (.t 8) (.k (.v (.c (.p (.int .i64 0)))))))] []) (.cond (.t 9) (.seq (.reg [(oA 2 (.mv (.k (.v (.c (.p (.int .i64 12)))))))] []) .ret) .skip)) (.seq (.reg [(oA 10 (.mv (.t 0))), (oA 11 (.nilck (.t 10))), (oA 12 (.faddr 0 (.t 11))), (oA 13 (.load false 1 (.t 12))), (oA 14 (.mv (.t 0))), (oA 15 (.nilck (.t 14))), (oA 16 (.faddr 0 (.t 15))), (oA 17 (.load false 1 (.t 16))), (oA 18 (.len 2 (.t 17))), (oA 19 (.bin .sub 0 (.t 18) (.k (.v (.c (.p (.int .i64 1))))))), (oA 20 (.iaddr 12 (.t 13) (.t 19))), (oA 21 (.load true 12 (.t 20))), (oA 3 (.alloc [(.p (.str [])), (.p (.int .i64 0)), (.p (.int .i64 0)), (.p (.str [])), (.p (.str [])), (.p .nilslice), (.p .nilslice), (.p .nilslice), (.p (.bool false)), (.p .nilslice), (.p (.int .i64 0)), (.p (.str []))] true)), (oN (.store 12 (.t 3) (.t 21)))] [(3, 12), (7, 12), (8, 12), (11, 12)]) (.seq (.reg [(oA 22 (.mv (.t 0))), (oA 23 (.mv (.t 0))), (oA 24 (.nilck (.t 23))), (oA 25 (.faddr 0 (.t 24))), (oA 26 (.load false 1 (.t 25))), (oA 27 (.mv (.t 0))), (oA 28 (.nilck (.t 27))), (oA 29 (.faddr 0 (.t 28))), (oA 30 (.load false 1 (.t 29))), (oA 31 (.len 2 (.t 30))), (oA 32 (.bin .sub 0 (.t 31) (.k (.v (.c (.p (.int .i64 1))))))), (oA 33 (.slice 12 false (.t 26) none (some (.t 32)) none)), (oA 34 (.nilck (.t 22))), (oA 35 (.faddr 0 (.t 34))), (oN (.store 1 (.t 35) (.t 33)))] []) (.seq (.seq (.reg [(oA 36 (.faddr 0 (.t 3))), (oA 37 (.load false 1 (.t 36))), (oA 38 (.bin .eql 0 (.t 37) (.k (.v (.c (.p (.str [100, 101, 102, 105, 110, 101])))))))] []) (.cond (.t 38) (.reg [(oA 39 (.mv (.t 0))), (oA 40 (.mv (.t 0))), (oA 41 (.nilck (.t 40))), (oA 42 (.faddr 2 (.t 41))), (oA 43 (.load false 1 (.t 42))), (oA 44 (.faddr 11 (.t 3))), (oA 45 (.load false 1 (.t 44))), (oA 46 (.faddr 1 (.t 3))), (oA 47 (.faddr 5 (.t 46))), (oA 48 (.load false 1 (.t 47))), (oA 49 (.build [(.p (.str [])), (.p .nilslice)] [(0, 1, (.t 45)), (1, 1, (.t 48))])), (oA 50 (.bslice 2 1 [(.p (.str [])), (.p .nilslice)] [(0, (.t 49))] true)), (oA 51 (.append 2 40 true (.t 43) (.t 50))), (oA 52 (.nilck (.t 39))), (oA 53 (.faddr 2 (.t 52))), (oN (.store 1 (.t 53) (.t 51)))] [(4, 11)]) (.reg [(oA 54 (.mv (.t 0))), (oA 55 (.faddr 1 (.t 3))), (oA 56 (.load true 9 (.t 55))), (oA 57 (.call (.k (.v (.c (.func 45 [])))) [(.t 54), (.t 56)]))] []))) (.seq (.reg [(oA 2 (.mv (.k (.v (.c (.p (.int .i64 0)))))))] []) .ret)))))) }
theorem t67 : compF Tryz.prog (globs2 tabs opq) (fun _ => true) true Tryz.f67 = some c67.erase := by kernel_rfl
noncomputable def b67_0 (O : Oracle) (R : Jump) (q : Nat) (x0 : TVal) (h : Heap) : Res1 :=
 vop O (.nilck (.k x0)) h 5 fun x5 h =>
 vfaddr 0 x5 h fun x6 h =>
 vload false 1 x6 h fun x7 h =>
 vlen O 2 x7 h 8 fun x8 h =>
 vbin .eql 0 x8 (kI 0) h fun x9 h =>
 vif x9 (
 tcomp (kI 12) fun c0 => vfin true q [c0] h)
 (vtouch O (.mv (.k x0)) h 10 fun x10 h t0 =>
 vtouch O (.nilck (.k x10)) h 11 fun x11 h t1 =>
 vtouch O (.faddr 0 (.k x11)) h 12 fun x12 h t2 =>
 vtouch O (.load false 1 (.k x12)) h 13 fun x13 h t3 =>
 vtouch O (.mv (.k x0)) h 14 fun x14 h t4 =>
 vtouch O (.nilck (.k x14)) h 15 fun x15 h t5 =>
 vtouch O (.faddr 0 (.k x15)) h 16 fun x16 h t6 =>
 vtouch O (.load false 1 (.k x16)) h 17 fun x17 h t7 =>
 vtouch O (.len 2 (.k x17)) h 18 fun x18 h t8 =>
 vtouch O (.bin .sub 0 (.k x18) (.k (kI 1))) h 19 fun x19 h t9 =>
 vtouch O (.iaddr 12 (.k x13) (.k x19)) h 20 fun x20 h t10 =>
 vtouch O (.load true 12 (.k x20)) h 21 fun x21 h t11 =>
 vtouch O (.alloc [(.p (.str [])), (.p (.int .i64 0)), (.p (.int .i64 0)), (.p (.str [])), (.p (.str [])), (.p .nilslice), (.p .nilslice), (.p .nilslice), (.p (.bool false)), (.p .nilslice), (.p (.int .i64 0)), (.p (.str []))] true) h 3 fun x3 h t12 =>
 vtouch O (.store 12 (.k x3) (.k x21)) h 1000000 fun _ h t13 =>
 bif apartAll [t0, t1, t2, t3, t4, t5, t6, t7, t8, t9, t10, t11, t12, t13] [(3, 12), (7, 12), (8, 12), (11, 12)] then
 vop O (.nilck (.k x0)) h 24 fun x24 h =>
 vfaddr 0 x24 h fun x25 h =>
 vload false 1 x25 h fun x26 h =>
 vop O (.nilck (.k x0)) h 28 fun x28 h =>
 vfaddr 0 x28 h fun x29 h =>
 vload false 1 x29 h fun x30 h =>
 vlen O 2 x30 h 31 fun x31 h =>
 vbin .sub 0 x31 (kI 1) h fun x32 h =>
 vop O (.slice 12 false (.k x26) none (some (.k x32)) none) h 33 fun x33 h =>
 vop O (.nilck (.k x0)) h 34 fun x34 h =>
 vfaddr 0 x34 h fun x35 h =>
 vstore 1 x35 x33 h fun _ h =>
 vfaddr 0 x3 h fun x36 h =>
 vload false 1 x36 h fun x37 h =>
 vbin .eql 0 x37 (kS [100, 101, 102, 105, 110, 101]) h fun x38 h =>
 vif x38 (
 vtouch O (.mv (.k x0)) h 39 fun x39 h t0 =>
 vtouch O (.mv (.k x0)) h 40 fun x40 h t1 =>
 vtouch O (.nilck (.k x40)) h 41 fun x41 h t2 =>
 vtouch O (.faddr 2 (.k x41)) h 42 fun x42 h t3 =>
 vtouch O (.load false 1 (.k x42)) h 43 fun x43 h t4 =>
 vtouch O (.faddr 11 (.k x3)) h 44 fun x44 h t5 =>
 vtouch O (.load false 1 (.k x44)) h 45 fun x45 h t6 =>
 vtouch O (.faddr 1 (.k x3)) h 46 fun x46 h t7 =>
 vtouch O (.faddr 5 (.k x46)) h 47 fun x47 h t8 =>
 vtouch O (.load false 1 (.k x47)) h 48 fun x48 h t9 =>
 vtouch O (.build [(.p (.str [])), (.p .nilslice)] [(0, 1, (.k x45)), (1, 1, (.k x48))]) h 49 fun x49 h t10 =>
 vtouch O (.bslice 2 1 [(.p (.str [])), (.p .nilslice)] [(0, (.k x49))] true) h 50 fun x50 h t11 =>
 vtouch O (.append 2 40 true (.k x43) (.k x50)) h 51 fun x51 h t12 =>
 vtouch O (.nilck (.k x39)) h 52 fun x52 h t13 =>
 vtouch O (.faddr 2 (.k x52)) h 53 fun x53 h t14 =>
 vtouch O (.store 1 (.k x53) (.k x51)) h 1000000 fun _ h t15 =>
 bif apartAll [t0, t1, t2, t3, t4, t5, t6, t7, t8, t9, t10, t11, t12, t13, t14, t15] [(4, 11)] then
 tcomp (kI 0) fun c0 => vfin true q [c0] h
 else none)
 (vfaddr 1 x3 h fun x55 h =>
 vload true 9 x55 h fun x56 h =>
 vcall O (.v (.c (.func 45 []))) [x0, x56] h 57 fun x57 h =>
 tcomp (kI 0) fun c0 => vfin true q [c0] h)
 else none)
theorem e67_0 (O : Oracle) (R : Jump) (q : Nat) (x0 : TVal) (h : Heap) : b67_0 O R q x0 h = stepF c67 O R q 0 [x0] h := by kernel_rfl
noncomputable def d67 : BlkF := fun O R q => [.s fun y0 => .z fun h => b67_0 O R q y0 h]
theorem o67 (O : Oracle) (R : Jump) (q : Nat) : HoldsAll c67 O R q 0 (d67 O R q) := ⟨fun y0 h => e67_0 O R q y0 h, trivial⟩
/- (*sprue/sprueref7.parser).define -/
def c68 : MFunc := { np := 2, res := [.t 4], frz := true, body := (.seq (.reg [(oA 4 (.mv (.k (.v (.c (.p (.int .i64 0)))))))] []) (.seq (.seq (.reg [(oA 6 (.mv (.t 0))), (oA 7 (.nilck (.t 6))), (oA 8 (.faddr 0 (.t 7))), (oA 9 (.load false 1 (.t 8))), (oA 10 (.len 2 (.t 9))), (oA 11 (.bin .gtr 0 (.t 10) (.k (.v (.c (.p (.int .i64 0)))))))] []) (.cond (.t 11) (.seq (.reg [(oA 4 (.mv (.k (.v (.c (.p (.int .i64 12)))))))] []) .ret) .skip)) (.seq (.seq (.reg [(oA 12 (.mv (.t 1))), (oA 13 (.call (.k (.v (.c (.func 69 [])))) [(.t 12)])), (oA 14 (.un .not (.t 13)))] []) (.cond (.t 14) (.seq (.reg [(oA 4 (.mv (.k (.v (.c (.p (.int .i64 15)))))))] []) .ret) .skip)) (.seq (.seq (.reg [(oA 5 (.mv (.k (.v (.c (.p (.int .i64 0)))))))] []) (.block 0 (.loop 1 [0, 1, 5] (.seq (.seq (.reg [(oA 15 (.mv (.t 5))), (oA 16 (.mv (.t 0))), (oA 17 (.nilck (.t 16))), (oA 18 (.faddr 2 (.t 17))), (oA 19 (.load false 1 (.t 18))), (oA 20 (.len 2 (.t 19))), (oA 21 (.bin .lss 0 (.t 15) (.t 20)))] []) (.cond (.t 21) .skip (.exit 0))) (.seq (.block 1 (.seq (.reg [(oA 24 (.mv (.t 0))), (oA 25 (.nilck (.t 24))), (oA 26 (.faddr 2 (.t 25))), (oA 27 (.load false 1 (.t 26))), (oA 28 (.mv (.t 5))), (oA 29 (.iaddr 2 (.t 27) (.t 28))), (oA 30 (.faddr 0 (.t 29))), (oA 31 (.load false 1 (.t 30))), (oA 32 (.mv (.t 1))), (oA 33 (.bin .eql 0 (.t 31) (.t 32)))] []) (.cond (.t 33) (.seq (.reg [(oA 4 (.mv (.k (.v (.c (.p (.int .i64 6)))))))] []) .ret) .skip))) (.reg [(oA 22 (.mv (.t 5))), (oA 23 (.bin .add 0 (.t 22) (.k (.v (.c (.p (.int .i64 1))))))), (oA 5 (.mv (.t 23)))] [])))))) (.mark 2 [0, 1] (.seq (.seq (.reg [(oA 34 (.mv (.t 0))), (oA 35 (.nilck (.t 34))), (oA 36 (.faddr 2 (.t 35))), (oA 37 (.load false 1 (.t 36))), (oA 38 (.len 2 (.t 37))), (oA 39 (.bin .geq 0 (.t 38) (.k (.v (.c (.p (.int .i64 12)))))))] []) (.cond (.t 39) (.seq (.reg [(oA 4 (.mv (.k (.v (.c (.p (.int .i64 3)))))))] []) .ret) .skip)) (.seq (.reg [(oA 40 (.mv (.t 0))), (oA 41 (.build [(.p (.int .i64 0)), (.p (.int .i64 0)), (.p (.str [])), (.p (.str [])), (.p .nilslice), (.p .nilslice), (.p .nilslice), (.p (.bool false)), (.p .nilslice)] [])), (oA 42 (.mv (.t 1))), (oA 43 (.call (.k (.v (.c (.func 65 [])))) [(.t 40), (.k (.v (.c (.p (.str [100, 101, 102, 105, 110, 101]))))), (.t 41), (.k (.v (.c (.p (.int .i64 0))))), (.t 42)])), (oA 4 (.mv (.t 43)))] []) .ret))))))) }
theorem t68 : compF Tryz.prog (globs2 tabs opq) (fun _ => true) true Tryz.f68 = some c68.erase := by kernel_rfl
noncomputable def b68_0 (O : Oracle) (R : Jump) (q : Nat) (x0 x1 : TVal) (h : Heap) : Res1 :=
 vop O (.nilck (.k x0)) h 7 fun x7 h =>
 vfaddr 0 x7 h fun x8 h =>
 vload false 1 x8 h fun x9 h =>
 vlen O 2 x9 h 10 fun x10 h =>
 vbin .gtr 0 x10 (kI 0) h fun x11 h =>
 vif x11 (
 tcomp (kI 12) fun c0 => vfin true q [c0] h)
 (vcall O (.v (.c (.func 69 []))) [x1] h 13 fun x13 h =>
 vop O (.un .not (.k x13)) h 14 fun x14 h =>
 vif x14 (
 tcomp (kI 15) fun c0 => vfin true q [c0] h)
 (R 1 [x0, x1, (kI 0)] h))
theorem e68_0 (O : Oracle) (R : Jump) (q : Nat) (x0 x1 : TVal) (h : Heap) : b68_0 O R q x0 x1 h = stepF c68 O R q 0 [x0, x1] h := by kernel_rfl
noncomputable def b68_1 (O : Oracle) (R : Jump) (q : Nat) (x0 x1 x5 : TVal) (h : Heap) : Res1 :=
 vop O (.nilck (.k x0)) h 17 fun x17 h =>
 vfaddr 2 x17 h fun x18 h =>
 vload false 1 x18 h fun x19 h =>
 vlen O 2 x19 h 20 fun x20 h =>
 vbin .lss 0 x5 x20 h fun x21 h =>
 vif x21 (
 vop O (.nilck (.k x0)) h 25 fun x25 h =>
 vfaddr 2 x25 h fun x26 h =>
 vload false 1 x26 h fun x27 h =>
 viaddr 2 x27 x5 h fun x29 h =>
 vfaddr 0 x29 h fun x30 h =>
 vload false 1 x30 h fun x31 h =>
 vbin .eql 0 x31 x1 h fun x33 h =>
 vif x33 (
 tcomp (kI 6) fun c0 => vfin true q [c0] h)
 (vbin .add 0 x5 (kI 1) h fun x23 h =>
 R 1 [x0, x1, x23] h))
 (R 2 [x0, x1] h)
theorem e68_1 (O : Oracle) (R : Jump) (q : Nat) (x0 x1 x5 : TVal) (h : Heap) : b68_1 O R q x0 x1 x5 h = stepF c68 O R q 1 [x0, x1, x5] h := by kernel_rfl
noncomputable def b68_2 (O : Oracle) (R : Jump) (q : Nat) (x0 x1 : TVal) (h : Heap) : Res1 :=
 vop O (.nilck (.k x0)) h 35 fun x35 h =>
 vfaddr 2 x35 h fun x36 h =>
 vload false 1 x36 h fun x37 h =>
 vlen O 2 x37 h 38 fun x38 h =>
 vbin .geq 0 x38 (kI 12) h fun x39 h =>
 vif x39 (
 tcomp (kI 3) fun c0 => vfin true q [c0] h)
 (vop O (.build [(.p (.int .i64 0)), (.p (.int .i64 0)), (.p (.str [])), (.p (.str [])), (.p .nilslice), (.p .nilslice), (.p .nilslice), (.p (.bool false)), (.p .nilslice)] []) h 41 fun x41 h =>
 vcall O (.v (.c (.func 65 []))) [x0, (kS [100, 101, 102, 105, 110, 101]), x41, (kI 0), x1] h 43 fun x43 h =>
 tcomp x43 fun c0 => vfin true q [c0] h)
theorem e68_2 (O : Oracle) (R : Jump) (q : Nat) (x0 x1 : TVal) (h : Heap) : b68_2 O R q x0 x1 h = stepF c68 O R q 2 [x0, x1] h := by kernel_rfl
noncomputable def d68 : BlkF := fun O R q => [.s fun y0 => .s fun y1 => .z fun h => b68_0 O R q y0 y1 h, .s fun y0 => .s fun y1 => .s fun y2 => .z fun h => b68_1 O R q y0 y1 y2 h, .s fun y0 => .s fun y1 => .z fun h => b68_2 O R q y0 y1 h]
theorem o68 (O : Oracle) (R : Jump) (q : Nat) : HoldsAll c68 O R q 0 (d68 O R q) := ⟨fun y0 y1 h => e68_0 O R q y0 y1 h, fun y0 y1 y2 h => e68_1 O R q y0 y1 y2 h, fun y0 y1 h => e68_2 O R q y0 y1 h, trivial⟩
/- sprue/sprueref1.Ident -/
def c69 : MFunc := { np := 1, res := [.t 2], frz := true, body := (.seq (.reg [(oA 2 (.mv (.k (.v (.c (.p (.bool false)))))))] []) (.seq (.seq (.reg [(oA 4 (.mv (.t 0))), (oA 5 (.len 0 (.t 4))), (oA 6 (.bin .eql 0 (.t 5) (.k (.v (.c (.p (.int .i64 0))))))), (oA 7 (.mv (.t 6))), ⟨(some 8), (.mv (.t 0)), (some (7, false))⟩, ⟨(some 9), (.len 0 (.t 8)), (some (7, false))⟩, ⟨(some 10), (.bin .gtr 0 (.t 9) (.k (.v (.c (.p (.int .i64 16)))))), (some (7, false))⟩, (oA 11 (.pick (.t 7) (.k (.v (.c (.p (.bool true))))) (.t 10))), (oA 12 (.mv (.t 11))), ⟨(some 13), (.mv (.t 0)), (some (12, false))⟩, ⟨(some 14), (.index (.t 13) (.k (.v (.c (.p (.int .i64 0)))))), (some (12, false))⟩, ⟨(some 15), (.call (.k (.v (.c (.func 84 [])))) [(.t 14)]), (some (12, false))⟩, ⟨(some 16), (.un .not (.t 15)), (some (12, false))⟩, (oA 17 (.pick (.t 12) (.k (.v (.c (.p (.bool true))))) (.t 16)))] []) (.cond (.t 17) (.seq (.reg [(oA 2 (.mv (.k (.v (.c (.p (.bool false)))))))] []) .ret) .skip)) (.seq (.seq (.reg [(oA 3 (.mv (.k (.v (.c (.p (.int .i64 0)))))))] []) (.block 0 (.loop 1 [0, 3] (.seq (.seq (.reg [(oA 18 (.mv (.t 3))), (oA 19 (.mv (.t 0))), (oA 20 (.len 0 (.t 19))), (oA 21 (.bin .lss 0 (.t 18) (.t 20)))] []) (.cond (.t 21) .skip (.exit 0))) (.seq (.block 1 (.seq (.reg [(oA 24 (.mv (.t 0))), (oA 25 (.mv (.t 3))), (oA 26 (.index (.t 24) (.t 25))), (oA 27 (.call (.k (.v (.c (.func 84 [])))) [(.t 26)])), (oA 28 (.un .not (.t 27))), (oA 29 (.mv (.t 28))), ⟨(some 30), (.mv (.t 0)), (some (29, true))⟩, ⟨(some 31), (.mv (.t 3)), (some (29, true))⟩, ⟨(some 32), (.index (.t 30) (.t 31)), (some (29, true))⟩, ⟨(some 33), (.call (.k (.v (.c (.func 85 [])))) [(.t 32)]), (some (29, true))⟩, ⟨(some 34), (.un .not (.t 33)), (some (29, true))⟩, (oA 35 (.pick (.t 29) (.t 34) (.k (.v (.c (.p (.bool false)))))))] []) (.cond (.t 35) (.seq (.reg [(oA 2 (.mv (.k (.v (.c (.p (.bool false)))))))] []) .ret) .skip))) (.reg [(oA 22 (.mv (.t 3))), (oA 23 (.bin .add 0 (.t 22) (.k (.v (.c (.p (.int .i64 1))))))), (oA 3 (.mv (.t 23)))] [])))))) (.seq (.reg [(oA 2 (.mv (.k (.v (.c (.p (.bool true)))))))] []) .ret)))) }
theorem t69 : compF Tryz.prog (globs2 tabs opq) (fun _ => false) true Tryz.f69 = some c69.erase := by kernel_rfl
noncomputable def b69_0 (O : Oracle) (R : Jump) (q : Nat) (x0 : TVal) (h : Heap) : Res1 :=
 vlen O 0 x0 h 5 fun x5 h =>
 vbin .eql 0 x5 (kI 0) h fun x6 h =>
 vguard x6 false (fun kk => kk x0 h) h fun x8 h =>
 vguard x6 false (fun kk => vlen O 0 x8 h 9 kk) h fun x9 h =>
 vguard x6 false (fun kk => vbin .gtr 0 x9 (kI 16) h kk) h fun x10 h =>
 vop O (.pick (.k x6) (.k (kB true)) (.k x10)) h 11 fun x11 h =>
 vguard x11 false (fun kk => kk x0 h) h fun x13 h =>
 vguard x11 false (fun kk => vindex x13 (kI 0) h kk) h fun x14 h =>
 vguard x11 false (fun kk => vcall O (.v (.c (.func 84 []))) [x14] h 15 kk) h fun x15 h =>
 vguard x11 false (fun kk => vop O (.un .not (.k x15)) h 16 kk) h fun x16 h =>
 vop O (.pick (.k x11) (.k (kB true)) (.k x16)) h 17 fun x17 h =>
 vif x17 (
 tcomp (kB false) fun c0 => vfin true q [c0] h)
 (R 1 [x0, (kI 0)] h)
theorem e69_0 (O : Oracle) (R : Jump) (q : Nat) (x0 : TVal) (h : Heap) : b69_0 O R q x0 h = stepF c69 O R q 0 [x0] h := by kernel_rfl
noncomputable def b69_1 (O : Oracle) (R : Jump) (q : Nat) (x0 x3 : TVal) (h : Heap) : Res1 :=
 vlen O 0 x0 h 20 fun x20 h =>
 vbin .lss 0 x3 x20 h fun x21 h =>
 vif x21 (
 vindex x0 x3 h fun x26 h =>
 vcall O (.v (.c (.func 84 []))) [x26] h 27 fun x27 h =>
 vop O (.un .not (.k x27)) h 28 fun x28 h =>
 vguard x28 true (fun kk => kk x0 h) h fun x30 h =>
 vguard x28 true (fun kk => kk x3 h) h fun x31 h =>
 vguard x28 true (fun kk => vindex x30 x31 h kk) h fun x32 h =>
 vguard x28 true (fun kk => vcall O (.v (.c (.func 85 []))) [x32] h 33 kk) h fun x33 h =>
 vguard x28 true (fun kk => vop O (.un .not (.k x33)) h 34 kk) h fun x34 h =>
 vop O (.pick (.k x28) (.k x34) (.k (kB false))) h 35 fun x35 h =>
 vif x35 (
 tcomp (kB false) fun c0 => vfin true q [c0] h)
 (vbin .add 0 x3 (kI 1) h fun x23 h =>
 R 1 [x0, x23] h))
 (tcomp (kB true) fun c0 => vfin true q [c0] h)
theorem e69_1 (O : Oracle) (R : Jump) (q : Nat) (x0 x3 : TVal) (h : Heap) : b69_1 O R q x0 x3 h = stepF c69 O R q 1 [x0, x3] h := by kernel_rfl
noncomputable def d69 : BlkF := fun O R q => [.s fun y0 => .z fun h => b69_0 O R q y0 h, .s fun y0 => .s fun y1 => .z fun h => b69_1 O R q y0 y1 h]
theorem o69 (O : Oracle) (R : Jump) (q : Nat) : HoldsAll c69 O R q 0 (d69 O R q) := ⟨fun y0 h => e69_0 O R q y0 h, fun y0 y1 h => e69_1 O R q y0 y1 h, trivial⟩
/- sprue/sprueref1.Quoted -/
def c70 : MFunc := { np := 2, res := [.t 4, .t 5], frz := true, body := (.seq (.reg [(oA 4 (.mv (.k (.v (.c (.p (.str []))))))), (oA 5 (.mv (.k (.v (.c (.p (.int .i64 0)))))))] []) (.seq (.reg [(oA 6 (.mv (.k (.v (.c (.p (.str [])))))))] []) (.seq (.reg [(oA 8 (.mv (.t 1))), (oA 9 (.bin .add 0 (.t 8) (.k (.v (.c (.p (.int .i64 1))))))), (oA 1 (.mv (.t 9)))] []) (.seq (.block 0 (.loop 1 [0, 1, 6] (.seq (.seq (.reg [(oA 10 (.mv (.t 1))), (oA 11 (.mv (.t 0))), (oA 12 (.len 0 (.t 11))), (oA 13 (.bin .lss 0 (.t 10) (.t 12)))] []) (.cond (.t 13) .skip (.exit 0))) (.block 1 (.seq (.reg [(oA 14 (.mv (.t 0))), (oA 15 (.mv (.t 1))), (oA 16 (.index (.t 14) (.t 15))), (oA 7 (.mv (.t 16)))] []) (.seq (.block 2 (.seq (.reg [(oA 18 (.mv (.t 7))), (oA 19 (.bin .eql 0 (.t 18) (.k (.v (.c (.p (.int .u8 34))))))), (oA 17 (.mv (.t 19)))] []) (.cond (.t 17) (.seq (.reg [(oA 20 (.mv (.t 6))), (oA 21 (.mv (.t 1))), (oA 22 (.bin .add 0 (.t 21) (.k (.v (.c (.p (.int .i64 1))))))), (oA 4 (.mv (.t 20))), (oA 5 (.mv (.t 22)))] []) .ret) (.seq (.reg [(oA 24 (.mv (.t 7))), (oA 25 (.bin .lss 0 (.t 24) (.k (.v (.c (.p (.int .u8 32))))))), (oA 23 (.mv (.t 25)))] []) (.cond (.t 23) (.seq (.reg [(oA 4 (.mv (.k (.v (.c (.p (.str []))))))), (oA 5 (.mv (.k (.v (.c (.p (.int .i64 (-1))))))))] []) .ret) (.seq (.reg [(oA 27 (.mv (.t 7))), (oA 28 (.bin .neq 0 (.t 27) (.k (.v (.c (.p (.int .u8 92))))))), (oA 26 (.mv (.t 28)))] []) (.cond (.t 26) (.seq (.reg [(oA 29 (.mv (.t 6))), (oA 30 (.mv (.t 0))), (oA 31 (.mv (.t 1))), (oA 32 (.mv (.t 1))), (oA 33 (.bin .add 0 (.t 32) (.k (.v (.c (.p (.int .i64 1))))))), (oA 34 (.slice 0 true (.t 30) (some (.t 31)) (some (.t 33)) none)), (oA 35 (.bin .add 0 (.t 29) (.t 34))), (oA 6 (.mv (.t 35)))] []) (.seq (.reg [(oA 36 (.mv (.t 1))), (oA 37 (.bin .add 0 (.t 36) (.k (.v (.c (.p (.int .i64 1))))))), (oA 1 (.mv (.t 37)))] []) (.exit 1))) .skip))))))) (.seq (.seq (.reg [(oA 38 (.mv (.t 1))), (oA 39 (.bin .add 0 (.t 38) (.k (.v (.c (.p (.int .i64 1))))))), (oA 40 (.mv (.t 0))), (oA 41 (.len 0 (.t 40))), (oA 42 (.bin .geq 0 (.t 39) (.t 41)))] []) (.cond (.t 42) (.seq (.reg [(oA 4 (.mv (.k (.v (.c (.p (.str []))))))), (oA 5 (.mv (.k (.v (.c (.p (.int .i64 (-1))))))))] []) .ret) .skip)) (.seq (.seq (.reg [(oA 43 (.mv (.t 0))), (oA 44 (.mv (.t 1))), (oA 45 (.bin .add 0 (.t 44) (.k (.v (.c (.p (.int .i64 1))))))), (oA 46 (.index (.t 43) (.t 45)))] []) (.block 3 (.seq (.seq (.reg [(oA 48 (.bin .eql 0 (.t 46) (.k (.v (.c (.p (.int .u8 92))))))), (oA 47 (.mv (.t 48)))] []) (.cond (.t 47) .skip (.reg [(oA 49 (.bin .eql 0 (.t 46) (.k (.v (.c (.p (.int .u8 34))))))), (oA 47 (.mv (.t 49)))] []))) (.mark 2 [0, 1, 6, 46, 47] (.cond (.t 47) (.reg [(oA 50 (.mv (.t 6))), (oA 51 (.mv (.t 0))), (oA 52 (.mv (.t 1))), (oA 53 (.bin .add 0 (.t 52) (.k (.v (.c (.p (.int .i64 1))))))), (oA 54 (.mv (.t 1))), (oA 55 (.bin .add 0 (.t 54) (.k (.v (.c (.p (.int .i64 2))))))), (oA 56 (.slice 0 true (.t 51) (some (.t 53)) (some (.t 55)) none)), (oA 57 (.bin .add 0 (.t 50) (.t 56))), (oA 6 (.mv (.t 57)))] []) (.seq (.reg [(oA 59 (.bin .eql 0 (.t 46) (.k (.v (.c (.p (.int .u8 110))))))), (oA 58 (.mv (.t 59)))] []) (.cond (.t 58) (.reg [(oA 60 (.mv (.t 6))), (oA 61 (.bin .add 0 (.t 60) (.k (.v (.c (.p (.str [10]))))))), (oA 6 (.mv (.t 61)))] []) (.seq (.reg [(oA 63 (.bin .eql 0 (.t 46) (.k (.v (.c (.p (.int .u8 116))))))), (oA 62 (.mv (.t 63)))] []) (.cond (.t 62) (.reg [(oA 64 (.mv (.t 6))), (oA 65 (.bin .add 0 (.t 64) (.k (.v (.c (.p (.str [9]))))))), (oA 6 (.mv (.t 65)))] []) (.seq (.reg [(oA 4 (.mv (.k (.v (.c (.p (.str []))))))), (oA 5 (.mv (.k (.v (.c (.p (.int .i64 (-1))))))))] []) .ret)))))))))) (.mark 3 [0, 1, 6] (.reg [(oA 66 (.mv (.t 1))), (oA 67 (.bin .add 0 (.t 66) (.k (.v (.c (.p (.int .i64 2))))))), (oA 1 (.mv (.t 67)))] [])))))))))) (.seq (.reg [(oA 4 (.mv (.k (.v (.c (.p (.str []))))))), (oA 5 (.mv (.k (.v (.c (.p (.int .i64 (-1))))))))] []) .ret))))) }
theorem t70 : compF Tryz.prog (globs2 tabs opq) (fun _ => false) true Tryz.f70 = some c70.erase := by kernel_rfl
noncomputable def b70_0 (O : Oracle) (R : Jump) (q : Nat) (x0 x1 : TVal) (h : Heap) : Res1 :=
 vbin .add 0 x1 (kI 1) h fun x9 h =>
 R 1 [x0, x9, (kS [])] h
theorem e70_0 (O : Oracle) (R : Jump) (q : Nat) (x0 x1 : TVal) (h : Heap) : b70_0 O R q x0 x1 h = stepF c70 O R q 0 [x0, x1] h := by kernel_rfl
noncomputable def b70_1 (O : Oracle) (R : Jump) (q : Nat) (x0 x1 x6 : TVal) (h : Heap) : Res1 :=
 vlen O 0 x0 h 12 fun x12 h =>
 vbin .lss 0 x1 x12 h fun x13 h =>
 vif x13 (
 vindex x0 x1 h fun x16 h =>
 vbin .eql 0 x16 (.v (.c (.p (.int .u8 34)))) h fun x19 h =>
 vif x19 (
 vbin .add 0 x1 (kI 1) h fun x22 h =>
 tcomp x6 fun c0 => tcomp x22 fun c1 => vfin true q [c0, c1] h)
 (vbin .lss 0 x16 (.v (.c (.p (.int .u8 32)))) h fun x25 h =>
 vif x25 (
 tcomp (kS []) fun c0 => tcomp (kI (-1)) fun c1 => vfin true q [c0, c1] h)
 (vbin .neq 0 x16 (.v (.c (.p (.int .u8 92)))) h fun x28 h =>
 vif x28 (
 vbin .add 0 x1 (kI 1) h fun x33 h =>
 vop O (.slice 0 true (.k x0) (some (.k x1)) (some (.k x33)) none) h 34 fun x34 h =>
 vbin .add 0 x6 x34 h fun x35 h =>
 vbin .add 0 x1 (kI 1) h fun x37 h =>
 R 1 [x0, x37, x35] h)
 (vbin .add 0 x1 (kI 1) h fun x39 h =>
 vlen O 0 x0 h 41 fun x41 h =>
 vbin .geq 0 x39 x41 h fun x42 h =>
 vif x42 (
 tcomp (kS []) fun c0 => tcomp (kI (-1)) fun c1 => vfin true q [c0, c1] h)
 (vbin .add 0 x1 (kI 1) h fun x45 h =>
 vindex x0 x45 h fun x46 h =>
 vbin .eql 0 x46 (.v (.c (.p (.int .u8 92)))) h fun x48 h =>
 vif x48 (
 R 2 [x0, x1, x6, x46, x48] h)
 (vbin .eql 0 x46 (.v (.c (.p (.int .u8 34)))) h fun x49 h =>
 R 2 [x0, x1, x6, x46, x49] h))))))
 (tcomp (kS []) fun c0 => tcomp (kI (-1)) fun c1 => vfin true q [c0, c1] h)
theorem e70_1 (O : Oracle) (R : Jump) (q : Nat) (x0 x1 x6 : TVal) (h : Heap) : b70_1 O R q x0 x1 x6 h = stepF c70 O R q 1 [x0, x1, x6] h := by kernel_rfl
noncomputable def b70_2 (O : Oracle) (R : Jump) (q : Nat) (x0 x1 x6 x46 x47 : TVal) (h : Heap) : Res1 :=
 vif x47 (
 vbin .add 0 x1 (kI 1) h fun x53 h =>
 vbin .add 0 x1 (kI 2) h fun x55 h =>
 vop O (.slice 0 true (.k x0) (some (.k x53)) (some (.k x55)) none) h 56 fun x56 h =>
 vbin .add 0 x6 x56 h fun x57 h =>
 R 3 [x0, x1, x57] h)
 (vbin .eql 0 x46 (.v (.c (.p (.int .u8 110)))) h fun x59 h =>
 vif x59 (
 vbin .add 0 x6 (kS [10]) h fun x61 h =>
 R 3 [x0, x1, x61] h)
 (vbin .eql 0 x46 (.v (.c (.p (.int .u8 116)))) h fun x63 h =>
 vif x63 (
 vbin .add 0 x6 (kS [9]) h fun x65 h =>
 R 3 [x0, x1, x65] h)
 (tcomp (kS []) fun c0 => tcomp (kI (-1)) fun c1 => vfin true q [c0, c1] h)))
theorem e70_2 (O : Oracle) (R : Jump) (q : Nat) (x0 x1 x6 x46 x47 : TVal) (h : Heap) : b70_2 O R q x0 x1 x6 x46 x47 h = stepF c70 O R q 2 [x0, x1, x6, x46, x47] h := by kernel_rfl
noncomputable def b70_3 (O : Oracle) (R : Jump) (q : Nat) (x0 x1 x6 : TVal) (h : Heap) : Res1 :=
 vbin .add 0 x1 (kI 2) h fun x67 h =>
 R 1 [x0, x67, x6] h
theorem e70_3 (O : Oracle) (R : Jump) (q : Nat) (x0 x1 x6 : TVal) (h : Heap) : b70_3 O R q x0 x1 x6 h = stepF c70 O R q 3 [x0, x1, x6] h := by kernel_rfl
noncomputable def d70 : BlkF := fun O R q => [.s fun y0 => .s fun y1 => .z fun h => b70_0 O R q y0 y1 h, .s fun y0 => .s fun y1 => .s fun y2 => .z fun h => b70_1 O R q y0 y1 y2 h, .s fun y0 => .s fun y1 => .s fun y2 => .s fun y3 => .s fun y4 => .z fun h => b70_2 O R q y0 y1 y2 y3 y4 h, .s fun y0 => .s fun y1 => .s fun y2 => .z fun h => b70_3 O R q y0 y1 y2 h]
theorem o70 (O : Oracle) (R : Jump) (q : Nat) : HoldsAll c70 O R q 0 (d70 O R q) := ⟨fun y0 y1 h => e70_0 O R q y0 y1 h, fun y0 y1 y2 h => e70_1 O R q y0 y1 y2 h, fun y0 y1 y2 y3 y4 h => e70_2 O R q y0 y1 y2 y3 y4 h, fun y0 y1 y2 h => e70_3 O R q y0 y1 y2 h, trivial⟩
/- (*sprue/sprueref13.reader).is -/
def c71 : MFunc := { np := 2, res := [.t 4], frz := true, body := (.seq (.reg [(oA 4 (.mv (.k (.v (.c (.p (.bool false)))))))] []) (.seq (.reg [(oA 5 (.mv (.t 0))), (oA 6 (.call (.k (.v (.c (.func 25 [])))) [(.t 5)]))] []) (.seq (.seq (.reg [(oA 7 (.mv (.t 0))), (oA 8 (.nilck (.t 7))), (oA 9 (.faddr 2 (.t 8))), (oA 10 (.load false 1 (.t 9))), (oA 11 (.bin .eql 0 (.t 10) (.k (.v (.c (.p (.int .i64 0))))))), (oA 12 (.mv (.t 11))), ⟨(some 13), (.mv (.t 0)), (some (12, true))⟩, ⟨(some 14), (.nilck (.t 13)), (some (12, true))⟩, ⟨(some 15), (.faddr 1 (.t 14)), (some (12, true))⟩, ⟨(some 16), (.load false 1 (.t 15)), (some (12, true))⟩, ⟨(some 17), (.mv (.t 0)), (some (12, true))⟩, ⟨(some 18), (.nilck (.t 17)), (some (12, true))⟩, ⟨(some 19), (.faddr 0 (.t 18)), (some (12, true))⟩, ⟨(some 20), (.load false 1 (.t 19)), (some (12, true))⟩, ⟨(some 21), (.len 0 (.t 20)), (some (12, true))⟩, ⟨(some 22), (.bin .lss 0 (.t 16) (.t 21)), (some (12, true))⟩, (oA 23 (.pick (.t 12) (.t 22) (.k (.v (.c (.p (.bool false))))))), (oA 24 (.mv (.t 23))), ⟨(some 25), (.mv (.t 0)), (some (24, true))⟩, ⟨(some 26), (.nilck (.t 25)), (some (24, true))⟩, ⟨(some 27), (.faddr 0 (.t 26)), (some (24, true))⟩, ⟨(some 28), (.load false 1 (.t 27)), (some (24, true))⟩, ⟨(some 29), (.mv (.t 0)), (some (24, true))⟩, ⟨(some 30), (.nilck (.t 29)), (some (24, true))⟩, ⟨(some 31), (.faddr 1 (.t 30)), (some (24, true))⟩, ⟨(some 32), (.load false 1 (.t 31)), (some (24, true))⟩, ⟨(some 33), (.index (.t 28) (.t 32)), (some (24, true))⟩, ⟨(some 34), (.mv (.t 1)), (some (24, true))⟩, ⟨(some 35), (.bin .eql 0 (.t 33) (.t 34)), (some (24, true))⟩, (oA 36 (.pick (.t 24) (.t 35) (.k (.v (.c (.p (.bool false)))))))] []) (.cond (.t 36) (.seq (.reg [(oA 37 (.mv (.t 0))), (oA 38 (.nilck (.t 37))), (oA 39 (.faddr 1 (.t 38))), (oA 40 (.load false 1 (.t 39))), (oA 41 (.bin .add 0 (.t 40) (.k (.v (.c (.p (.int .i64 1))))))), (oA 42 (.nilck (.t 37))), (oA 43 (.faddr 1 (.t 42))), (oN (.store 1 (.t 43) (.t 41)))] []) (.seq (.reg [(oA 4 (.mv (.k (.v (.c (.p (.bool true)))))))] []) .ret)) .skip)) (.seq (.reg [(oA 4 (.mv (.k (.v (.c (.p (.bool false)))))))] []) .ret)))) }
theorem t71 : compF Tryz.prog (globs2 tabs opq) (fun _ => false) true Tryz.f71 = some c71.erase := by kernel_rfl
noncomputable def b71_0 (O : Oracle) (R : Jump) (q : Nat) (x0 x1 : TVal) (h : Heap) : Res1 :=
 vcall O (.v (.c (.func 25 []))) [x0] h 6 fun x6 h =>
 vop O (.nilck (.k x0)) h 8 fun x8 h =>
 vfaddr 2 x8 h fun x9 h =>
 vload false 1 x9 h fun x10 h =>
 vbin .eql 0 x10 (kI 0) h fun x11 h =>
 vguard x11 true (fun kk => kk x0 h) h fun x13 h =>
 vguard x11 true (fun kk => vop O (.nilck (.k x13)) h 14 kk) h fun x14 h =>
 vguard x11 true (fun kk => vfaddr 1 x14 h kk) h fun x15 h =>
 vguard x11 true (fun kk => vload false 1 x15 h kk) h fun x16 h =>
 vguard x11 true (fun kk => kk x0 h) h fun x17 h =>
 vguard x11 true (fun kk => vop O (.nilck (.k x17)) h 18 kk) h fun x18 h =>
 vguard x11 true (fun kk => vfaddr 0 x18 h kk) h fun x19 h =>
 vguard x11 true (fun kk => vload false 1 x19 h kk) h fun x20 h =>
 vguard x11 true (fun kk => vlen O 0 x20 h 21 kk) h fun x21 h =>
 vguard x11 true (fun kk => vbin .lss 0 x16 x21 h kk) h fun x22 h =>
 vop O (.pick (.k x11) (.k x22) (.k (kB false))) h 23 fun x23 h =>
 vguard x23 true (fun kk => kk x0 h) h fun x25 h =>
 vguard x23 true (fun kk => vop O (.nilck (.k x25)) h 26 kk) h fun x26 h =>
 vguard x23 true (fun kk => vfaddr 0 x26 h kk) h fun x27 h =>
 vguard x23 true (fun kk => vload false 1 x27 h kk) h fun x28 h =>
 vguard x23 true (fun kk => kk x0 h) h fun x29 h =>
 vguard x23 true (fun kk => vop O (.nilck (.k x29)) h 30 kk) h fun x30 h =>
 vguard x23 true (fun kk => vfaddr 1 x30 h kk) h fun x31 h =>
 vguard x23 true (fun kk => vload false 1 x31 h kk) h fun x32 h =>
 vguard x23 true (fun kk => vindex x28 x32 h kk) h fun x33 h =>
 vguard x23 true (fun kk => kk x1 h) h fun x34 h =>
 vguard x23 true (fun kk => vbin .eql 0 x33 x34 h kk) h fun x35 h =>
 vop O (.pick (.k x23) (.k x35) (.k (kB false))) h 36 fun x36 h =>
 vif x36 (
 vop O (.nilck (.k x0)) h 38 fun x38 h =>
 vfaddr 1 x38 h fun x39 h =>
 vload false 1 x39 h fun x40 h =>
 vbin .add 0 x40 (kI 1) h fun x41 h =>
 vop O (.nilck (.k x0)) h 42 fun x42 h =>
 vfaddr 1 x42 h fun x43 h =>
 vstore 1 x43 x41 h fun _ h =>
 tcomp (kB true) fun c0 => vfin true q [c0] h)
 (tcomp (kB false) fun c0 => vfin true q [c0] h)
theorem e71_0 (O : Oracle) (R : Jump) (q : Nat) (x0 x1 : TVal) (h : Heap) : b71_0 O R q x0 x1 h = stepF c71 O R q 0 [x0, x1] h := by kernel_rfl
noncomputable def d71 : BlkF := fun O R q => [.s fun y0 => .s fun y1 => .z fun h => b71_0 O R q y0 y1 h]
theorem o71 (O : Oracle) (R : Jump) (q : Nat) : HoldsAll c71 O R q 0 (d71 O R q) := ⟨fun y0 y1 h => e71_0 O R q y0 y1 h, trivial⟩
/- sprue/sprueref1.Number -/
def c72 : MFunc := { np := 1, res := [.t 2, .t 3], frz := true, body := (.seq (.reg [(oA 2 (.mv (.k (.v (.c (.p (.int .i64 0))))))), (oA 3 (.mv (.k (.v (.c (.p (.int .i64 0)))))))] []) (.seq (.reg [(oA 7 (.mv (.t 0))), (oA 4 (.mv (.t 7)))] []) (.seq (.seq (.reg [(oA 8 (.mv (.t 0))), (oA 9 (.index (.t 8) (.k (.v (.c (.p (.int .i64 0))))))), (oA 10 (.bin .eql 0 (.t 9) (.k (.v (.c (.p (.int .u8 45)))))))] []) (.cond (.t 10) (.reg [(oA 11 (.mv (.t 0))), (oA 12 (.slice 0 true (.t 11) (some (.k (.v (.c (.p (.int .i64 1)))))) none none)), (oA 4 (.mv (.t 12)))] []) .skip)) (.mark 1 [0, 4] (.seq (.seq (.reg [(oA 13 (.mv (.t 4))), (oA 14 (.len 0 (.t 13))), (oA 15 (.bin .gtr 0 (.t 14) (.k (.v (.c (.p (.int .i64 19)))))))] []) (.cond (.t 15) (.seq (.reg [(oA 2 (.mv (.k (.v (.c (.p (.int .i64 0))))))), (oA 3 (.mv (.k (.v (.c (.p (.int .i64 4)))))))] []) .ret) .skip)) (.seq (.reg [(oA 5 (.mv (.k (.v (.c (.p (.int .u64 0)))))))] []) (.seq (.seq (.reg [(oA 6 (.mv (.k (.v (.c (.p (.int .i64 0)))))))] []) (.block 0 (.loop 2 [0, 4, 5, 6] (.seq (.seq (.reg [(oA 16 (.mv (.t 6))), (oA 17 (.mv (.t 4))), (oA 18 (.len 0 (.t 17))), (oA 19 (.bin .lss 0 (.t 16) (.t 18)))] []) (.cond (.t 19) .skip (.exit 0))) (.seq (.block 1 (.reg [(oA 22 (.mv (.t 5))), (oA 23 (.bin .mul 0 (.t 22) (.k (.v (.c (.p (.int .u64 10))))))), (oA 24 (.mv (.t 4))), (oA 25 (.mv (.t 6))), (oA 26 (.index (.t 24) (.t 25))), (oA 27 (.bin .sub 0 (.t 26) (.k (.v (.c (.p (.int .u8 48))))))), (oA 28 (.toInt .u64 (.t 27))), (oA 29 (.bin .add 0 (.t 23) (.t 28))), (oA 5 (.mv (.t 29)))] [])) (.reg [(oA 20 (.mv (.t 6))), (oA 21 (.bin .add 0 (.t 20) (.k (.v (.c (.p (.int .i64 1))))))), (oA 6 (.mv (.t 21)))] [])))))) (.mark 3 [0, 5] (.seq (.seq (.reg [(oA 30 (.mv (.t 0))), (oA 31 (.index (.t 30) (.k (.v (.c (.p (.int .i64 0))))))), (oA 32 (.bin .eql 0 (.t 31) (.k (.v (.c (.p (.int .u8 45)))))))] []) (.cond (.t 32) (.seq (.seq (.reg [(oA 33 (.mv (.t 5))), (oA 34 (.bin .gtr 0 (.t 33) (.k (.v (.c (.p (.int .u64 9223372036854775808)))))))] []) (.cond (.t 34) (.seq (.reg [(oA 2 (.mv (.k (.v (.c (.p (.int .i64 0))))))), (oA 3 (.mv (.k (.v (.c (.p (.int .i64 11)))))))] []) .ret) .skip)) (.seq (.reg [(oA 35 (.mv (.t 5))), (oA 36 (.un .neg (.t 35))), (oA 37 (.toInt .i64 (.t 36))), (oA 2 (.mv (.t 37))), (oA 3 (.mv (.k (.v (.c (.p (.int .i64 0)))))))] []) .ret)) .skip)) (.seq (.seq (.reg [(oA 38 (.mv (.t 5))), (oA 39 (.bin .gtr 0 (.t 38) (.k (.v (.c (.p (.int .u64 9223372036854775807)))))))] []) (.cond (.t 39) (.seq (.reg [(oA 2 (.mv (.k (.v (.c (.p (.int .i64 0))))))), (oA 3 (.mv (.k (.v (.c (.p (.int .i64 11)))))))] []) .ret) .skip)) (.seq (.reg [(oA 40 (.mv (.t 5))), (oA 41 (.toInt .i64 (.t 40))), (oA 2 (.mv (.t 41))), (oA 3 (.mv (.k (.v (.c (.p (.int .i64 0)))))))] []) .ret))))))))))) }
theorem t72 : compF Tryz.prog (globs2 tabs opq) (fun _ => false) true Tryz.f72 = some c72.erase := by kernel_rfl
noncomputable def b72_0 (O : Oracle) (R : Jump) (q : Nat) (x0 : TVal) (h : Heap) : Res1 :=
 vindex x0 (kI 0) h fun x9 h =>
 vbin .eql 0 x9 (.v (.c (.p (.int .u8 45)))) h fun x10 h =>
 vif x10 (
 vop O (.slice 0 true (.k x0) (some (.k (kI 1))) none none) h 12 fun x12 h =>
 R 1 [x0, x12] h)
 (R 1 [x0, x0] h)
theorem e72_0 (O : Oracle) (R : Jump) (q : Nat) (x0 : TVal) (h : Heap) : b72_0 O R q x0 h = stepF c72 O R q 0 [x0] h := by kernel_rfl
noncomputable def b72_1 (O : Oracle) (R : Jump) (q : Nat) (x0 x4 : TVal) (h : Heap) : Res1 :=
 vlen O 0 x4 h 14 fun x14 h =>
 vbin .gtr 0 x14 (kI 19) h fun x15 h =>
 vif x15 (
 tcomp (kI 0) fun c0 => tcomp (kI 4) fun c1 => vfin true q [c0, c1] h)
 (R 2 [x0, x4, (.v (.c (.p (.int .u64 0)))), (kI 0)] h)
theorem e72_1 (O : Oracle) (R : Jump) (q : Nat) (x0 x4 : TVal) (h : Heap) : b72_1 O R q x0 x4 h = stepF c72 O R q 1 [x0, x4] h := by kernel_rfl
noncomputable def b72_2 (O : Oracle) (R : Jump) (q : Nat) (x0 x4 x5 x6 : TVal) (h : Heap) : Res1 :=
 vlen O 0 x4 h 18 fun x18 h =>
 vbin .lss 0 x6 x18 h fun x19 h =>
 vif x19 (
 vbin .mul 0 x5 (.v (.c (.p (.int .u64 10)))) h fun x23 h =>
 vindex x4 x6 h fun x26 h =>
 vbin .sub 0 x26 (.v (.c (.p (.int .u8 48)))) h fun x27 h =>
 vtoInt .u64 x27 h fun x28 h =>
 vbin .add 0 x23 x28 h fun x29 h =>
 vbin .add 0 x6 (kI 1) h fun x21 h =>
 R 2 [x0, x4, x29, x21] h)
 (R 3 [x0, x5] h)
theorem e72_2 (O : Oracle) (R : Jump) (q : Nat) (x0 x4 x5 x6 : TVal) (h : Heap) : b72_2 O R q x0 x4 x5 x6 h = stepF c72 O R q 2 [x0, x4, x5, x6] h := by kernel_rfl
noncomputable def b72_3 (O : Oracle) (R : Jump) (q : Nat) (x0 x5 : TVal) (h : Heap) : Res1 :=
 vindex x0 (kI 0) h fun x31 h =>
 vbin .eql 0 x31 (.v (.c (.p (.int .u8 45)))) h fun x32 h =>
 vif x32 (
 vbin .gtr 0 x5 (.v (.c (.p (.int .u64 9223372036854775808)))) h fun x34 h =>
 vif x34 (
 tcomp (kI 0) fun c0 => tcomp (kI 11) fun c1 => vfin true q [c0, c1] h)
 (vop O (.un .neg (.k x5)) h 36 fun x36 h =>
 vtoInt .i64 x36 h fun x37 h =>
 tcomp x37 fun c0 => tcomp (kI 0) fun c1 => vfin true q [c0, c1] h))
 (vbin .gtr 0 x5 (.v (.c (.p (.int .u64 9223372036854775807)))) h fun x39 h =>
 vif x39 (
 tcomp (kI 0) fun c0 => tcomp (kI 11) fun c1 => vfin true q [c0, c1] h)
 (vtoInt .i64 x5 h fun x41 h =>
 tcomp x41 fun c0 => tcomp (kI 0) fun c1 => vfin true q [c0, c1] h))
theorem e72_3 (O : Oracle) (R : Jump) (q : Nat) (x0 x5 : TVal) (h : Heap) : b72_3 O R q x0 x5 h = stepF c72 O R q 3 [x0, x5] h := by kernel_rfl
noncomputable def d72 : BlkF := fun O R q => [.s fun y0 => .z fun h => b72_0 O R q y0 h, .s fun y0 => .s fun y1 => .z fun h => b72_1 O R q y0 y1 h, .s fun y0 => .s fun y1 => .s fun y2 => .s fun y3 => .z fun h => b72_2 O R q y0 y1 y2 y3 h, .s fun y0 => .s fun y1 => .z fun h => b72_3 O R q y0 y1 h]
theorem o72 (O : Oracle) (R : Jump) (q : Nat) : HoldsAll c72 O R q 0 (d72 O R q) := ⟨fun y0 h => e72_0 O R q y0 h, fun y0 y1 h => e72_1 O R q y0 y1 h, fun y0 y1 y2 y3 h => e72_2 O R q y0 y1 y2 y3 h, fun y0 y1 h => e72_3 O R q y0 y1 h, trivial⟩
/- sprue/sprueref13.clean -/
def c73 : MFunc := { np := 1, res := [.t 2], frz := true, body := (.seq (.reg [(oA 1 (.box (.t 0) false)), (oA 2 (.mv (.k (.v (.c (.p (.bool false)))))))] []) (.seq (.reg [(oA 4 (.faddr 0 (.t 1))), (oA 5 (.load false 1 (.t 4))), (oA 3 (.mv (.t 5)))] []) (.seq (.seq (.reg [(oA 6 (.mv (.t 3))), (oA 7 (.bin .lss 0 (.t 6) (.k (.v (.c (.p (.int .i64 0))))))), (oA 8 (.mv (.t 7))), ⟨(some 9), (.mv (.t 3)), (some (8, false))⟩, ⟨(some 10), (.bin .gtr 0 (.t 9) (.k (.v (.c (.p (.int .i64 5)))))), (some (8, false))⟩, (oA 11 (.pick (.t 8) (.k (.v (.c (.p (.bool true))))) (.t 10)))] []) (.cond (.t 11) (.seq (.reg [(oA 2 (.mv (.k (.v (.c (.p (.bool false)))))))] []) .ret) .skip)) (.seq (.reg [(oA 12 (.mv (.t 3))), (oA 13 (.bin .eql 0 (.t 12) (.k (.v (.c (.p (.int .i64 1))))))), (oA 14 (.mv (.t 13))), ⟨(some 15), (.faddr 1 (.t 1)), (some (14, false))⟩, ⟨(some 16), (.load false 1 (.t 15)), (some (14, false))⟩, ⟨(some 17), (.un .not (.t 16)), (some (14, false))⟩, (oA 18 (.pick (.t 14) (.k (.v (.c (.p (.bool true))))) (.t 17))), (oA 19 (.mv (.t 18))), ⟨(some 20), (.mv (.t 3)), (some (19, true))⟩, ⟨(some 21), (.bin .eql 0 (.t 20) (.k (.v (.c (.p (.int .i64 2)))))), (some (19, true))⟩, ⟨(some 22), (.mv (.t 21)), (some (19, true))⟩, ⟨(some 23), (.faddr 2 (.t 1)), (some (22, false))⟩, ⟨(some 24), (.load false 1 (.t 23)), (some (22, false))⟩, ⟨(some 25), (.bin .eql 0 (.t 24) (.k (.v (.c (.p (.int .i64 0)))))), (some (22, false))⟩, ⟨(some 26), (.pick (.t 22) (.k (.v (.c (.p (.bool true))))) (.t 25)), (some (19, true))⟩, (oA 27 (.pick (.t 19) (.t 26) (.k (.v (.c (.p (.bool false))))))), (oA 28 (.mv (.t 27))), ⟨(some 29), (.mv (.t 3)), (some (28, true))⟩, ⟨(some 30), (.bin .eql 0 (.t 29) (.k (.v (.c (.p (.int .i64 3)))))), (some (28, true))⟩, ⟨(some 31), (.mv (.t 30)), (some (28, true))⟩, ⟨(some 32), (.faddr 3 (.t 1)), (some (31, false))⟩, ⟨(some 33), (.load false 1 (.t 32)), (some (31, false))⟩, ⟨(some 34), (.bin .eql 0 (.t 33) (.k (.v (.c (.p (.str [])))))), (some (31, false))⟩, ⟨(some 35), (.pick (.t 31) (.k (.v (.c (.p (.bool true))))) (.t 34)), (some (28, true))⟩, (oA 36 (.pick (.t 28) (.t 35) (.k (.v (.c (.p (.bool false))))))), (oA 37 (.mv (.t 36))), ⟨(some 38), (.mv (.t 3)), (some (37, true))⟩, ⟨(some 39), (.bin .geq 0 (.t 38) (.k (.v (.c (.p (.int .i64 4)))))), (some (37, true))⟩, ⟨(some 40), (.mv (.t 39)), (some (37, true))⟩, ⟨(some 41), (.faddr 5 (.t 1)), (some (40, false))⟩, ⟨(some 42), (.load false 1 (.t 41)), (some (40, false))⟩, ⟨(some 43), (.len 2 (.t 42)), (some (40, false))⟩, ⟨(some 44), (.bin .eql 0 (.t 43) (.k (.v (.c (.p (.int .i64 0)))))), (some (40, false))⟩, ⟨(some 45), (.pick (.t 40) (.k (.v (.c (.p (.bool true))))) (.t 44)), (some (37, true))⟩, (oA 46 (.pick (.t 37) (.t 45) (.k (.v (.c (.p (.bool false))))))), (oA 47 (.mv (.t 46))), ⟨(some 48), (.mv (.t 3)), (some (47, true))⟩, ⟨(some 49), (.bin .eql 0 (.t 48) (.k (.v (.c (.p (.int .i64 5)))))), (some (47, true))⟩, ⟨(some 50), (.mv (.t 49)), (some (47, true))⟩, ⟨(some 51), (.faddr 4 (.t 1)), (some (50, true))⟩, ⟨(some 52), (.load false 1 (.t 51)), (some (50, true))⟩, ⟨(some 53), (.len 2 (.t 52)), (some (50, true))⟩, ⟨(some 54), (.faddr 5 (.t 1)), (some (50, true))⟩, ⟨(some 55), (.load false 1 (.t 54)), (some (50, true))⟩, ⟨(some 56), (.len 2 (.t 55)), (some (50, true))⟩, ⟨(some 57), (.bin .eql 0 (.t 53) (.t 56)), (some (50, true))⟩, ⟨(some 58), (.pick (.t 50) (.t 57) (.k (.v (.c (.p (.bool false)))))), (some (47, true))⟩, ⟨(some 59), (.mv (.t 58)), (some (47, true))⟩, ⟨(some 60), (.mv (.t 3)), (some (59, false))⟩, ⟨(some 61), (.bin .neq 0 (.t 60) (.k (.v (.c (.p (.int .i64 5)))))), (some (59, false))⟩, ⟨(some 62), (.mv (.t 61)), (some (59, false))⟩, ⟨(some 63), (.faddr 4 (.t 1)), (some (62, true))⟩, ⟨(some 64), (.load false 1 (.t 63)), (some (62, true))⟩, ⟨(some 65), (.len 2 (.t 64)), (some (62, true))⟩, ⟨(some 66), (.bin .eql 0 (.t 65) (.k (.v (.c (.p (.int .i64 0)))))), (some (62, true))⟩, ⟨(some 67), (.pick (.t 62) (.t 66) (.k (.v (.c (.p (.bool false)))))), (some (59, false))⟩, ⟨(some 68), (.pick (.t 59) (.k (.v (.c (.p (.bool true))))) (.t 67)), (some (47, true))⟩, (oA 69 (.pick (.t 47) (.t 68) (.k (.v (.c (.p (.bool false))))))), (oA 2 (.mv (.t 69)))] []) .ret)))) }
theorem t73 : compF Tryz.prog (globs2 tabs opq) (fun _ => false) true Tryz.f73 = some c73.erase := by kernel_rfl
noncomputable def b73_0 (O : Oracle) (R : Jump) (q : Nat) (x0 : TVal) (h : Heap) : Res1 :=
 vop O (.box (.k x0) false) h 1 fun x1 h =>
 vfaddr 0 x1 h fun x4 h =>
 vload false 1 x4 h fun x5 h =>
 vbin .lss 0 x5 (kI 0) h fun x7 h =>
 vguard x7 false (fun kk => kk x5 h) h fun x9 h =>
 vguard x7 false (fun kk => vbin .gtr 0 x9 (kI 5) h kk) h fun x10 h =>
 vop O (.pick (.k x7) (.k (kB true)) (.k x10)) h 11 fun x11 h =>
 vif x11 (
 tcomp (kB false) fun c0 => vfin true q [c0] h)
 (vbin .eql 0 x5 (kI 1) h fun x13 h =>
 vguard x13 false (fun kk => vfaddr 1 x1 h kk) h fun x15 h =>
 vguard x13 false (fun kk => vload false 1 x15 h kk) h fun x16 h =>
 vguard x13 false (fun kk => vop O (.un .not (.k x16)) h 17 kk) h fun x17 h =>
 vop O (.pick (.k x13) (.k (kB true)) (.k x17)) h 18 fun x18 h =>
 vguard x18 true (fun kk => kk x5 h) h fun x20 h =>
 vguard x18 true (fun kk => vbin .eql 0 x20 (kI 2) h kk) h fun x21 h =>
 vguard x18 true (fun kk => kk x21 h) h fun x22 h =>
 vguard x22 false (fun kk => vfaddr 2 x1 h kk) h fun x23 h =>
 vguard x22 false (fun kk => vload false 1 x23 h kk) h fun x24 h =>
 vguard x22 false (fun kk => vbin .eql 0 x24 (kI 0) h kk) h fun x25 h =>
 vguard x18 true (fun kk => vop O (.pick (.k x22) (.k (kB true)) (.k x25)) h 26 kk) h fun x26 h =>
 vop O (.pick (.k x18) (.k x26) (.k (kB false))) h 27 fun x27 h =>
 vguard x27 true (fun kk => kk x5 h) h fun x29 h =>
 vguard x27 true (fun kk => vbin .eql 0 x29 (kI 3) h kk) h fun x30 h =>
 vguard x27 true (fun kk => kk x30 h) h fun x31 h =>
 vguard x31 false (fun kk => vfaddr 3 x1 h kk) h fun x32 h =>
 vguard x31 false (fun kk => vload false 1 x32 h kk) h fun x33 h =>
 vguard x31 false (fun kk => vbin .eql 0 x33 (kS []) h kk) h fun x34 h =>
 vguard x27 true (fun kk => vop O (.pick (.k x31) (.k (kB true)) (.k x34)) h 35 kk) h fun x35 h =>
 vop O (.pick (.k x27) (.k x35) (.k (kB false))) h 36 fun x36 h =>
 vguard x36 true (fun kk => kk x5 h) h fun x38 h =>
 vguard x36 true (fun kk => vbin .geq 0 x38 (kI 4) h kk) h fun x39 h =>
 vguard x36 true (fun kk => kk x39 h) h fun x40 h =>
 vguard x40 false (fun kk => vfaddr 5 x1 h kk) h fun x41 h =>
 vguard x40 false (fun kk => vload false 1 x41 h kk) h fun x42 h =>
 vguard x40 false (fun kk => vlen O 2 x42 h 43 kk) h fun x43 h =>
 vguard x40 false (fun kk => vbin .eql 0 x43 (kI 0) h kk) h fun x44 h =>
 vguard x36 true (fun kk => vop O (.pick (.k x40) (.k (kB true)) (.k x44)) h 45 kk) h fun x45 h =>
 vop O (.pick (.k x36) (.k x45) (.k (kB false))) h 46 fun x46 h =>
 vguard x46 true (fun kk => kk x5 h) h fun x48 h =>
 vguard x46 true (fun kk => vbin .eql 0 x48 (kI 5) h kk) h fun x49 h =>
 vguard x46 true (fun kk => kk x49 h) h fun x50 h =>
 vguard x50 true (fun kk => vfaddr 4 x1 h kk) h fun x51 h =>
 vguard x50 true (fun kk => vload false 1 x51 h kk) h fun x52 h =>
 vguard x50 true (fun kk => vlen O 2 x52 h 53 kk) h fun x53 h =>
 vguard x50 true (fun kk => vfaddr 5 x1 h kk) h fun x54 h =>
 vguard x50 true (fun kk => vload false 1 x54 h kk) h fun x55 h =>
 vguard x50 true (fun kk => vlen O 2 x55 h 56 kk) h fun x56 h =>
 vguard x50 true (fun kk => vbin .eql 0 x53 x56 h kk) h fun x57 h =>
 vguard x46 true (fun kk => vop O (.pick (.k x50) (.k x57) (.k (kB false))) h 58 kk) h fun x58 h =>
 vguard x46 true (fun kk => kk x58 h) h fun x59 h =>
 vguard x59 false (fun kk => kk x5 h) h fun x60 h =>
 vguard x59 false (fun kk => vbin .neq 0 x60 (kI 5) h kk) h fun x61 h =>
 vguard x59 false (fun kk => kk x61 h) h fun x62 h =>
 vguard x62 true (fun kk => vfaddr 4 x1 h kk) h fun x63 h =>
 vguard x62 true (fun kk => vload false 1 x63 h kk) h fun x64 h =>
 vguard x62 true (fun kk => vlen O 2 x64 h 65 kk) h fun x65 h =>
 vguard x62 true (fun kk => vbin .eql 0 x65 (kI 0) h kk) h fun x66 h =>
 vguard x59 false (fun kk => vop O (.pick (.k x62) (.k x66) (.k (kB false))) h 67 kk) h fun x67 h =>
 vguard x46 true (fun kk => vop O (.pick (.k x59) (.k (kB true)) (.k x67)) h 68 kk) h fun x68 h =>
 vop O (.pick (.k x46) (.k x68) (.k (kB false))) h 69 fun x69 h =>
 tcomp x69 fun c0 => vfin true q [c0] h)
theorem e73_0 (O : Oracle) (R : Jump) (q : Nat) (x0 : TVal) (h : Heap) : b73_0 O R q x0 h = stepF c73 O R q 0 [x0] h := by kernel_rfl
noncomputable def d73 : BlkF := fun O R q => [.s fun y0 => .z fun h => b73_0 O R q y0 h]
theorem o73 (O : Oracle) (R : Jump) (q : Nat) : HoldsAll c73 O R q 0 (d73 O R q) := ⟨fun y0 h => e73_0 O R q y0 h, trivial⟩
/- slices.Index[[]string,string] -/
def c74 : MFunc := { np := 2, res := [.t 4], frz := true, body := (.seq (.reg [(oA 4 (.mv (.k (.v (.c (.p (.int .i64 0)))))))] []) (.seq (.seq (.reg [(oA 6 (.mv (.t 0))), (oA 7 (.len 2 (.t 6))), (oA 8 (.mv (.k (.v (.c (.p (.int .i64 0)))))))] []) (.block 0 (.loop 1 [0, 1, 7, 8] (.seq (.reg [(oA 9 (.bin .lss 0 (.t 8) (.t 7)))] []) (.seq (.cond (.t 9) .skip (.exit 0)) (.seq (.block 1 (.seq (.reg [(oA 10 (.mv (.t 8))), (oA 5 (.mv (.t 10)))] []) (.seq (.reg [(oA 11 (.mv (.t 1))), (oA 12 (.mv (.t 0))), (oA 13 (.mv (.t 5))), (oA 14 (.iaddr 1 (.t 12) (.t 13))), (oA 15 (.load false 1 (.t 14))), (oA 16 (.bin .eql 0 (.t 11) (.t 15)))] []) (.cond (.t 16) (.seq (.reg [(oA 17 (.mv (.t 5))), (oA 4 (.mv (.t 17)))] []) .ret) .skip)))) (.reg [(oA 18 (.bin .add 0 (.t 8) (.k (.v (.c (.p (.int .i64 1))))))), (oA 8 (.mv (.t 18)))] []))))))) (.seq (.reg [(oA 4 (.mv (.k (.v (.c (.p (.int .i64 (-1))))))))] []) .ret))) }
theorem t74 : compF Tryz.prog (globs2 tabs opq) (fun _ => false) true Tryz.f74 = some c74.erase := by kernel_rfl
noncomputable def b74_0 (O : Oracle) (R : Jump) (q : Nat) (x0 x1 : TVal) (h : Heap) : Res1 :=
 vlen O 2 x0 h 7 fun x7 h =>
 R 1 [x0, x1, x7, (kI 0)] h
theorem e74_0 (O : Oracle) (R : Jump) (q : Nat) (x0 x1 : TVal) (h : Heap) : b74_0 O R q x0 x1 h = stepF c74 O R q 0 [x0, x1] h := by kernel_rfl
noncomputable def b74_1 (O : Oracle) (R : Jump) (q : Nat) (x0 x1 x7 x8 : TVal) (h : Heap) : Res1 :=
 vbin .lss 0 x8 x7 h fun x9 h =>
 vif x9 (
 viaddr 1 x0 x8 h fun x14 h =>
 vload false 1 x14 h fun x15 h =>
 vbin .eql 0 x1 x15 h fun x16 h =>
 vif x16 (
 tcomp x8 fun c0 => vfin true q [c0] h)
 (vbin .add 0 x8 (kI 1) h fun x18 h =>
 R 1 [x0, x1, x7, x18] h))
 (tcomp (kI (-1)) fun c0 => vfin true q [c0] h)
theorem e74_1 (O : Oracle) (R : Jump) (q : Nat) (x0 x1 x7 x8 : TVal) (h : Heap) : b74_1 O R q x0 x1 x7 x8 h = stepF c74 O R q 1 [x0, x1, x7, x8] h := by kernel_rfl
noncomputable def d74 : BlkF := fun O R q => [.s fun y0 => .s fun y1 => .z fun h => b74_0 O R q y0 y1 h, .s fun y0 => .s fun y1 => .s fun y2 => .s fun y3 => .z fun h => b74_1 O R q y0 y1 y2 y3 h]
theorem o74 (O : Oracle) (R : Jump) (q : Nat) : HoldsAll c74 O R q 0 (d74 O R q) := ⟨fun y0 y1 h => e74_0 O R q y0 y1 h, fun y0 y1 y2 y3 h => e74_1 O R q y0 y1 y2 y3 h, trivial⟩
end Go.Proofs.YtoaankpddboioaaGreatDoor.Ab
