/- Functions of the given program as the abstract interpreter has them (part 2), printed by a program of our own; each is shown to be what 'compF' makes of the given program's. No condition. -/
import Derived.Test.YtoaankpddboioaaGreatDoorTabD1
namespace Go.Proofs.YtoaankpddboioaaGreatDoor.Ab
open Go Go.AI
set_option linter.all false
set_option linter.unusedVariables false
set_option maxRecDepth 100000
/- (*sprue/calls.Calls).Call -/
def c100 : MFunc := { np := 2, res := [.cell 4 true 6, .t 5], frz := true, body := (.seq (.reg [(oA 4 (.alloc [(.p (.int .i64 0)), (.p (.bool false)), (.p (.int .i64 0)), (.p (.str [])), (.p .nilslice), (.p .nilslice)] false)), (oA 5 (.mv (.k (.v (.c (.p (.int .i64 0)))))))] []) (.seq (.reg [(oA 10 (.mv (.t 0))), (oA 11 (.nilck (.t 10))), (oA 12 (.faddr 0 (.t 11))), (oA 13 (.load false 1 (.t 12))), (oA 14 (.mv (.t 1))), (oA 15 (.lookup 2 (.agg [(.p (.str [])), (.p .nilslice), (.p (.int .i64 0))]) (.t 13) (.t 14) true)), (oA 9 (.mv (.t 15))), (oA 16 (.extract (.t 9) 0)), (oA 17 (.extract (.t 9) 1)), (oA 6 (.alloc [(.p (.str [])), (.p .nilslice), (.p (.int .i64 0))] false)), (oN (.store 3 (.t 6) (.t 16))), (oA 7 (.mv (.t 17)))] []) (.seq (.seq (.reg [(oA 18 (.mv (.t 7))), (oA 19 (.un .not (.t 18)))] []) (.cond (.t 19) (.seq (.reg [(oA 20 (.build [(.p (.int .i64 0)), (.p (.bool false)), (.p (.int .i64 0)), (.p (.str [])), (.p .nilslice), (.p .nilslice)] [])), (oN (.store 6 (.t 4) (.t 20))), (oA 5 (.mv (.k (.v (.c (.p (.int .i64 15)))))))] []) .ret) .skip)) (.seq (.reg [(oA 21 (.mv (.t 0))), (oA 22 (.nilck (.t 21))), (oA 23 (.faddr 1 (.t 22))), (oA 24 (.load false 1 (.t 23))), (oA 25 (.mv (.t 1))), (oA 26 (.lookup 2 (.c (.p (.int .i64 0))) (.t 24) (.t 25) false)), (oA 8 (.mv (.t 26)))] []) (.seq (.reg [(oA 27 (.mv (.t 0))), (oA 28 (.nilck (.t 27))), (oA 29 (.faddr 1 (.t 28))), (oA 30 (.load false 1 (.t 29))), (oA 31 (.mv (.t 1))), (oA 32 (.lookup 2 (.c (.p (.int .i64 0))) (.t 30) (.t 31) false)), (oA 33 (.bin .add 0 (.t 32) (.k (.v (.c (.p (.int .i64 1))))))), (oN (.mapup 2 (.t 30) (.t 31) (.t 33)))] []) (.seq (.seq (.reg [(oA 34 (.mv (.t 8))), (oA 35 (.faddr 2 (.t 6))), (oA 36 (.load false 1 (.t 35))), (oA 37 (.bin .eql 0 (.t 34) (.t 36))), (oA 38 (.mv (.t 37))), ⟨(some 39), (.faddr 1 (.t 6)), (some (38, false))⟩, ⟨(some 40), (.load false 1 (.t 39)), (some (38, false))⟩, ⟨(some 41), (.len 2 (.t 40)), (some (38, false))⟩, ⟨(some 42), (.bin .eql 0 (.t 41) (.k (.v (.c (.p (.int .i64 0)))))), (some (38, false))⟩, (oA 43 (.pick (.t 38) (.k (.v (.c (.p (.bool true))))) (.t 42)))] []) (.cond (.t 43) (.seq (.reg [(oA 44 (.build [(.p (.int .i64 0)), (.p (.bool false)), (.p (.int .i64 0)), (.p (.str [])), (.p .nilslice), (.p .nilslice)] [])), (oN (.store 6 (.t 4) (.t 44))), (oA 5 (.mv (.k (.v (.c (.p (.int .i64 33)))))))] []) .ret) .skip)) (.seq (.reg [(oA 45 (.faddr 1 (.t 6))), (oA 46 (.load false 1 (.t 45))), (oA 47 (.mv (.t 8))), (oA 48 (.faddr 1 (.t 6))), (oA 49 (.load false 1 (.t 48))), (oA 50 (.len 2 (.t 49))), (oA 51 (.bin .rem 0 (.t 47) (.t 50))), (oA 52 (.iaddr 6 (.t 46) (.t 51))), (oA 53 (.load true 6 (.t 52))), (oA 54 (.call (.k (.v (.c (.func 29 [])))) [(.t 53)])), (oN (.store 6 (.t 4) (.t 54))), (oA 5 (.mv (.k (.v (.c (.p (.int .i64 0)))))))] []) .ret))))))) }
theorem t100 : compF Tryz.prog (globs2 tabs opq) (fun _ => false) true Tryz.f100 = some c100.erase := by kernel_rfl
noncomputable def b100_0 (O : Oracle) (R : Jump) (q : Nat) (x0 x1 : TVal) (h : Heap) : Res1 :=
 vop O (.alloc [(.p (.int .i64 0)), (.p (.bool false)), (.p (.int .i64 0)), (.p (.str [])), (.p .nilslice), (.p .nilslice)] false) h 4 fun x4 h =>
 vop O (.nilck (.k x0)) h 11 fun x11 h =>
 vfaddr 0 x11 h fun x12 h =>
 vload false 1 x12 h fun x13 h =>
 vop O (.lookup 2 (.agg [(.p (.str [])), (.p .nilslice), (.p (.int .i64 0))]) (.k x13) (.k x1) true) h 15 fun x15 h =>
 vext x15 0 h fun x16 h =>
 vext x15 1 h fun x17 h =>
 vop O (.alloc [(.p (.str [])), (.p .nilslice), (.p (.int .i64 0))] false) h 6 fun x6 h =>
 vstore 3 x6 x16 h fun _ h =>
 vop O (.un .not (.k x17)) h 19 fun x19 h =>
 vif x19 (
 vop O (.build [(.p (.int .i64 0)), (.p (.bool false)), (.p (.int .i64 0)), (.p (.str [])), (.p .nilslice), (.p .nilslice)] []) h 20 fun x20 h =>
 vstore 6 x4 x20 h fun _ h =>
 vcell true 6 x4 h fun c0 => tcomp (kI 15) fun c1 => vfin true q [c0, c1] h)
 (vop O (.nilck (.k x0)) h 22 fun x22 h =>
 vfaddr 1 x22 h fun x23 h =>
 vload false 1 x23 h fun x24 h =>
 vop O (.lookup 2 (.c (.p (.int .i64 0))) (.k x24) (.k x1) false) h 26 fun x26 h =>
 vop O (.nilck (.k x0)) h 28 fun x28 h =>
 vfaddr 1 x28 h fun x29 h =>
 vload false 1 x29 h fun x30 h =>
 vop O (.lookup 2 (.c (.p (.int .i64 0))) (.k x30) (.k x1) false) h 32 fun x32 h =>
 vbin .add 0 x32 (kI 1) h fun x33 h =>
 vop O (.mapup 2 (.k x30) (.k x1) (.k x33)) h 1000000 fun _ h =>
 vfaddr 2 x6 h fun x35 h =>
 vload false 1 x35 h fun x36 h =>
 vbin .eql 0 x26 x36 h fun x37 h =>
 vguard x37 false (fun kk => vfaddr 1 x6 h kk) h fun x39 h =>
 vguard x37 false (fun kk => vload false 1 x39 h kk) h fun x40 h =>
 vguard x37 false (fun kk => vlen O 2 x40 h 41 kk) h fun x41 h =>
 vguard x37 false (fun kk => vbin .eql 0 x41 (kI 0) h kk) h fun x42 h =>
 vop O (.pick (.k x37) (.k (kB true)) (.k x42)) h 43 fun x43 h =>
 vif x43 (
 vop O (.build [(.p (.int .i64 0)), (.p (.bool false)), (.p (.int .i64 0)), (.p (.str [])), (.p .nilslice), (.p .nilslice)] []) h 44 fun x44 h =>
 vstore 6 x4 x44 h fun _ h =>
 vcell true 6 x4 h fun c0 => tcomp (kI 33) fun c1 => vfin true q [c0, c1] h)
 (vfaddr 1 x6 h fun x45 h =>
 vload false 1 x45 h fun x46 h =>
 vfaddr 1 x6 h fun x48 h =>
 vload false 1 x48 h fun x49 h =>
 vlen O 2 x49 h 50 fun x50 h =>
 vbin .rem 0 x26 x50 h fun x51 h =>
 viaddr 6 x46 x51 h fun x52 h =>
 vload true 6 x52 h fun x53 h =>
 vcall O (.v (.c (.func 29 []))) [x53] h 54 fun x54 h =>
 vstore 6 x4 x54 h fun _ h =>
 vcell true 6 x4 h fun c0 => tcomp (kI 0) fun c1 => vfin true q [c0, c1] h))
theorem e100_0 (O : Oracle) (R : Jump) (q : Nat) (x0 x1 : TVal) (h : Heap) : b100_0 O R q x0 x1 h = stepF c100 O R q 0 [x0, x1] h := by kernel_rfl
noncomputable def d100 : BlkF := fun O R q => [.s fun y0 => .s fun y1 => .z fun h => b100_0 O R q y0 y1 h]
theorem o100 (O : Oracle) (R : Jump) (q : Nat) : HoldsAll c100 O R q 0 (d100 O R q) := ⟨fun y0 y1 h => e100_0 O R q y0 y1 h, trivial⟩
/- (sprue/interp.scope).path -/
def c101 : MFunc := { np := 2, res := [.cell 4 true 6, .t 5], frz := true, body := (.seq (.reg [(oA 2 (.box (.t 0) false)), (oA 3 (.box (.t 1) false)), (oA 4 (.alloc [(.p (.int .i64 0)), (.p (.bool false)), (.p (.int .i64 0)), (.p (.str [])), (.p .nilslice), (.p .nilslice)] false)), (oA 5 (.mv (.k (.v (.c (.p (.int .i64 0)))))))] []) (.seq (.reg [(oA 11 (.faddr 0 (.t 2))), (oA 12 (.load true 6 (.t 11))), (oA 6 (.alloc [(.p (.int .i64 0)), (.p (.bool false)), (.p (.int .i64 0)), (.p (.str [])), (.p .nilslice), (.p .nilslice)] false)), (oN (.store 6 (.t 6) (.t 12)))] []) (.seq (.seq (.reg [(oA 13 (.faddr 1 (.t 3))), (oA 14 (.load false 1 (.t 13))), (oA 15 (.bin .neq 0 (.t 14) (.k (.v (.c (.p (.str [])))))))] []) (.cond (.t 15) (.seq (.reg [(oA 16 (.load true 8 (.t 2))), (oA 17 (.faddr 1 (.t 3))), (oA 18 (.load false 1 (.t 17))), (oA 19 (.call (.k (.v (.c (.func 78 [])))) [(.t 16), (.t 18)])), (oA 7 (.mv (.t 19)))] []) (.seq (.seq (.reg [(oA 20 (.mv (.t 7))), (oA 21 (.bin .eql 1 (.t 20) (.k (.v (.c (.p .nilptr))))))] []) (.cond (.t 21) (.seq (.reg [(oA 22 (.build [(.p (.int .i64 0)), (.p (.bool false)), (.p (.int .i64 0)), (.p (.str [])), (.p .nilslice), (.p .nilslice)] [])), (oN (.store 6 (.t 4) (.t 22))), (oA 5 (.mv (.k (.v (.c (.p (.int .i64 15)))))))] []) .ret) .skip)) (.reg [(oA 23 (.mv (.t 7))), (oA 24 (.nilck (.t 23))), (oA 25 (.faddr 1 (.t 24))), (oA 26 (.load true 6 (.t 25))), (oN (.store 6 (.t 6) (.t 26)))] []))) .skip)) (.mark 1 [3, 4, 6] (.seq (.seq (.reg [(oA 27 (.faddr 2 (.t 3))), (oA 28 (.load false 1 (.t 27))), (oA 29 (.len 2 (.t 28))), (oA 30 (.mv (.k (.v (.c (.p (.int .i64 0)))))))] []) (.block 0 (.loop 2 [4, 6, 28, 29, 30] (.seq (.reg [(oA 31 (.bin .lss 0 (.t 30) (.t 29)))] []) (.seq (.cond (.t 31) .skip (.exit 0)) (.seq (.block 1 (.seq (.reg [(oA 32 (.iaddr 1 (.t 28) (.t 30))), (oA 33 (.load false 1 (.t 32))), (oA 9 (.mv (.t 33)))] []) (.seq (.reg [(oA 34 (.faddr 4 (.t 6))), (oA 35 (.load false 1 (.t 34))), (oA 36 (.mv (.t 9))), (oA 37 (.call (.k (.v (.c (.func 74 [])))) [(.t 35), (.t 36)])), (oA 10 (.mv (.t 37)))] []) (.seq (.seq (.reg [(oA 38 (.faddr 0 (.t 6))), (oA 39 (.load false 1 (.t 38))), (oA 40 (.bin .neq 0 (.t 39) (.k (.v (.c (.p (.int .i64 5))))))), (oA 41 (.mv (.t 40))), ⟨(some 42), (.mv (.t 10)), (some (41, false))⟩, ⟨(some 43), (.bin .lss 0 (.t 42) (.k (.v (.c (.p (.int .i64 0)))))), (some (41, false))⟩, (oA 44 (.pick (.t 41) (.k (.v (.c (.p (.bool true))))) (.t 43))), (oA 45 (.mv (.t 44))), ⟨(some 46), (.mv (.t 10)), (some (45, false))⟩, ⟨(some 47), (.faddr 5 (.t 6)), (some (45, false))⟩, ⟨(some 48), (.load false 1 (.t 47)), (some (45, false))⟩, ⟨(some 49), (.len 2 (.t 48)), (some (45, false))⟩, ⟨(some 50), (.bin .geq 0 (.t 46) (.t 49)), (some (45, false))⟩, (oA 51 (.pick (.t 45) (.k (.v (.c (.p (.bool true))))) (.t 50)))] []) (.cond (.t 51) (.seq (.reg [(oA 52 (.build [(.p (.int .i64 0)), (.p (.bool false)), (.p (.int .i64 0)), (.p (.str [])), (.p .nilslice), (.p .nilslice)] [])), (oN (.store 6 (.t 4) (.t 52))), (oA 5 (.mv (.k (.v (.c (.p (.int .i64 16)))))))] []) .ret) .skip)) (.reg [(oA 53 (.faddr 5 (.t 6))), (oA 54 (.load false 1 (.t 53))), (oA 55 (.mv (.t 10))), (oA 56 (.iaddr 6 (.t 54) (.t 55))), (oA 57 (.load true 6 (.t 56))), (oN (.store 6 (.t 6) (.t 57)))] []))))) (.reg [(oA 58 (.bin .add 0 (.t 30) (.k (.v (.c (.p (.int .i64 1))))))), (oA 30 (.mv (.t 58)))] []))))))) (.mark 3 [4, 6] (.seq (.reg [(oA 59 (.load true 6 (.t 6))), (oN (.store 6 (.t 4) (.t 59))), (oA 5 (.mv (.k (.v (.c (.p (.int .i64 0)))))))] []) .ret))))))) }
theorem t101 : compF Tryz.prog (globs2 tabs opq) (fun _ => false) true Tryz.f101 = some c101.erase := by kernel_rfl
noncomputable def b101_0 (O : Oracle) (R : Jump) (q : Nat) (x0 x1 : TVal) (h : Heap) : Res1 :=
 vop O (.box (.k x0) false) h 2 fun x2 h =>
 vop O (.box (.k x1) false) h 3 fun x3 h =>
 vop O (.alloc [(.p (.int .i64 0)), (.p (.bool false)), (.p (.int .i64 0)), (.p (.str [])), (.p .nilslice), (.p .nilslice)] false) h 4 fun x4 h =>
 vfaddr 0 x2 h fun x11 h =>
 vload true 6 x11 h fun x12 h =>
 vop O (.alloc [(.p (.int .i64 0)), (.p (.bool false)), (.p (.int .i64 0)), (.p (.str [])), (.p .nilslice), (.p .nilslice)] false) h 6 fun x6 h =>
 vstore 6 x6 x12 h fun _ h =>
 vfaddr 1 x3 h fun x13 h =>
 vload false 1 x13 h fun x14 h =>
 vbin .neq 0 x14 (kS []) h fun x15 h =>
 vif x15 (
 vload true 8 x2 h fun x16 h =>
 vfaddr 1 x3 h fun x17 h =>
 vload false 1 x17 h fun x18 h =>
 vcall O (.v (.c (.func 78 []))) [x16, x18] h 19 fun x19 h =>
 vbin .eql 1 x19 (.v (.c (.p .nilptr))) h fun x21 h =>
 vif x21 (
 vop O (.build [(.p (.int .i64 0)), (.p (.bool false)), (.p (.int .i64 0)), (.p (.str [])), (.p .nilslice), (.p .nilslice)] []) h 22 fun x22 h =>
 vstore 6 x4 x22 h fun _ h =>
 vcell true 6 x4 h fun c0 => tcomp (kI 15) fun c1 => vfin true q [c0, c1] h)
 (vop O (.nilck (.k x19)) h 24 fun x24 h =>
 vfaddr 1 x24 h fun x25 h =>
 vload true 6 x25 h fun x26 h =>
 vstore 6 x6 x26 h fun _ h =>
 R 1 [x3, x4, x6] h))
 (R 1 [x3, x4, x6] h)
theorem e101_0 (O : Oracle) (R : Jump) (q : Nat) (x0 x1 : TVal) (h : Heap) : b101_0 O R q x0 x1 h = stepF c101 O R q 0 [x0, x1] h := by kernel_rfl
noncomputable def b101_1 (O : Oracle) (R : Jump) (q : Nat) (x3 x4 x6 : TVal) (h : Heap) : Res1 :=
 vfaddr 2 x3 h fun x27 h =>
 vload false 1 x27 h fun x28 h =>
 vlen O 2 x28 h 29 fun x29 h =>
 R 2 [x4, x6, x28, x29, (kI 0)] h
theorem e101_1 (O : Oracle) (R : Jump) (q : Nat) (x3 x4 x6 : TVal) (h : Heap) : b101_1 O R q x3 x4 x6 h = stepF c101 O R q 1 [x3, x4, x6] h := by kernel_rfl
noncomputable def b101_2 (O : Oracle) (R : Jump) (q : Nat) (x4 x6 x28 x29 x30 : TVal) (h : Heap) : Res1 :=
 vbin .lss 0 x30 x29 h fun x31 h =>
 vif x31 (
 viaddr 1 x28 x30 h fun x32 h =>
 vload false 1 x32 h fun x33 h =>
 vfaddr 4 x6 h fun x34 h =>
 vload false 1 x34 h fun x35 h =>
 vcall O (.v (.c (.func 74 []))) [x35, x33] h 37 fun x37 h =>
 vfaddr 0 x6 h fun x38 h =>
 vload false 1 x38 h fun x39 h =>
 vbin .neq 0 x39 (kI 5) h fun x40 h =>
 vguard x40 false (fun kk => kk x37 h) h fun x42 h =>
 vguard x40 false (fun kk => vbin .lss 0 x42 (kI 0) h kk) h fun x43 h =>
 vop O (.pick (.k x40) (.k (kB true)) (.k x43)) h 44 fun x44 h =>
 vguard x44 false (fun kk => kk x37 h) h fun x46 h =>
 vguard x44 false (fun kk => vfaddr 5 x6 h kk) h fun x47 h =>
 vguard x44 false (fun kk => vload false 1 x47 h kk) h fun x48 h =>
 vguard x44 false (fun kk => vlen O 2 x48 h 49 kk) h fun x49 h =>
 vguard x44 false (fun kk => vbin .geq 0 x46 x49 h kk) h fun x50 h =>
 vop O (.pick (.k x44) (.k (kB true)) (.k x50)) h 51 fun x51 h =>
 vif x51 (
 vop O (.build [(.p (.int .i64 0)), (.p (.bool false)), (.p (.int .i64 0)), (.p (.str [])), (.p .nilslice), (.p .nilslice)] []) h 52 fun x52 h =>
 vstore 6 x4 x52 h fun _ h =>
 vcell true 6 x4 h fun c0 => tcomp (kI 16) fun c1 => vfin true q [c0, c1] h)
 (vfaddr 5 x6 h fun x53 h =>
 vload false 1 x53 h fun x54 h =>
 viaddr 6 x54 x37 h fun x56 h =>
 vload true 6 x56 h fun x57 h =>
 vstore 6 x6 x57 h fun _ h =>
 vbin .add 0 x30 (kI 1) h fun x58 h =>
 R 2 [x4, x6, x28, x29, x58] h))
 (R 3 [x4, x6] h)
theorem e101_2 (O : Oracle) (R : Jump) (q : Nat) (x4 x6 x28 x29 x30 : TVal) (h : Heap) : b101_2 O R q x4 x6 x28 x29 x30 h = stepF c101 O R q 2 [x4, x6, x28, x29, x30] h := by kernel_rfl
noncomputable def b101_3 (O : Oracle) (R : Jump) (q : Nat) (x4 x6 : TVal) (h : Heap) : Res1 :=
 vload true 6 x6 h fun x59 h =>
 vstore 6 x4 x59 h fun _ h =>
 vcell true 6 x4 h fun c0 => tcomp (kI 0) fun c1 => vfin true q [c0, c1] h
theorem e101_3 (O : Oracle) (R : Jump) (q : Nat) (x4 x6 : TVal) (h : Heap) : b101_3 O R q x4 x6 h = stepF c101 O R q 3 [x4, x6] h := by kernel_rfl
noncomputable def d101 : BlkF := fun O R q => [.s fun y0 => .s fun y1 => .z fun h => b101_0 O R q y0 y1 h, .s fun y0 => .s fun y1 => .s fun y2 => .z fun h => b101_1 O R q y0 y1 y2 h, .s fun y0 => .s fun y1 => .s fun y2 => .s fun y3 => .s fun y4 => .z fun h => b101_2 O R q y0 y1 y2 y3 y4 h, .s fun y0 => .s fun y1 => .z fun h => b101_3 O R q y0 y1 h]
theorem o101 (O : Oracle) (R : Jump) (q : Nat) : HoldsAll c101 O R q 0 (d101 O R q) := ⟨fun y0 y1 h => e101_0 O R q y0 y1 h, fun y0 y1 y2 h => e101_1 O R q y0 y1 y2 h, fun y0 y1 y2 y3 y4 h => e101_2 O R q y0 y1 y2 y3 y4 h, fun y0 y1 h => e101_3 O R q y0 y1 h, trivial⟩
/- internal/strconv.FormatBool -/
def c102 : MFunc := { np := 1, res := [.t 2], frz := true, body := (.seq (.reg [(oA 2 (.mv (.k (.v (.c (.p (.str [])))))))] []) (.seq (.seq (.reg [(oA 3 (.mv (.t 0)))] []) (.cond (.t 3) (.seq (.reg [(oA 2 (.mv (.k (.v (.c (.p (.str [116, 114, 117, 101])))))))] []) .ret) .skip)) (.seq (.reg [(oA 2 (.mv (.k (.v (.c (.p (.str [102, 97, 108, 115, 101])))))))] []) .ret))) }
theorem t102 : compF Tryz.prog (globs2 tabs opq) (fun _ => false) true Tryz.f102 = some c102.erase := by kernel_rfl
noncomputable def b102_0 (O : Oracle) (R : Jump) (q : Nat) (x0 : TVal) (h : Heap) : Res1 :=
 vif x0 (
 tcomp (kS [116, 114, 117, 101]) fun c0 => vfin true q [c0] h)
 (tcomp (kS [102, 97, 108, 115, 101]) fun c0 => vfin true q [c0] h)
theorem e102_0 (O : Oracle) (R : Jump) (q : Nat) (x0 : TVal) (h : Heap) : b102_0 O R q x0 h = stepF c102 O R q 0 [x0] h := by kernel_rfl
noncomputable def d102 : BlkF := fun O R q => [.s fun y0 => .z fun h => b102_0 O R q y0 h]
theorem o102 (O : Oracle) (R : Jump) (q : Nat) : HoldsAll c102 O R q 0 (d102 O R q) := ⟨fun y0 h => e102_0 O R q y0 h, trivial⟩
/- internal/strconv.FormatInt -/
def c103 : MFunc := { np := 2, res := [.t 4], frz := true, body := (.seq (.reg [(oA 4 (.mv (.k (.v (.c (.p (.str [])))))))] []) (.seq (.seq (.reg [(oA 10 (.mv (.t 1))), (oA 11 (.bin .eql 0 (.t 10) (.k (.v (.c (.p (.int .i64 10)))))))] []) (.cond (.t 11) (.seq (.seq (.reg [(oA 12 (.mv (.t 0))), (oA 13 (.bin .leq 0 (.k (.v (.c (.p (.int .i64 0))))) (.t 12))), (oA 14 (.mv (.t 13))), ⟨(some 15), (.mv (.t 0)), (some (14, true))⟩, ⟨(some 16), (.bin .lss 0 (.t 15) (.k (.v (.c (.p (.int .i64 100)))))), (some (14, true))⟩, (oA 17 (.pick (.t 14) (.t 16) (.k (.v (.c (.p (.bool false)))))))] []) (.cond (.t 17) (.seq (.reg [(oA 18 (.mv (.t 0))), (oA 19 (.call (.k (.v (.c (.func 117 [])))) [(.t 18)])), (oA 4 (.mv (.t 19)))] []) .ret) .skip)) (.seq (.reg [(oA 5 (.alloc [(.p (.int .u8 0)), (.p (.int .u8 0)), (.p (.int .u8 0)), (.p (.int .u8 0)), (.p (.int .u8 0)), (.p (.int .u8 0)), (.p (.int .u8 0)), (.p (.int .u8 0)), (.p (.int .u8 0)), (.p (.int .u8 0)), (.p (.int .u8 0)), (.p (.int .u8 0)), (.p (.int .u8 0)), (.p (.int .u8 0)), (.p (.int .u8 0)), (.p (.int .u8 0)), (.p (.int .u8 0)), (.p (.int .u8 0)), (.p (.int .u8 0)), (.p (.int .u8 0)), (.p (.int .u8 0)), (.p (.int .u8 0)), (.p (.int .u8 0)), (.p (.int .u8 0))] false))] []) (.seq (.reg [(oA 20 (.mv (.t 0))), (oA 21 (.toInt .u64 (.t 20))), (oA 6 (.mv (.t 21)))] []) (.seq (.seq (.reg [(oA 22 (.mv (.t 0))), (oA 23 (.bin .lss 0 (.t 22) (.k (.v (.c (.p (.int .i64 0)))))))] []) (.cond (.t 23) (.reg [(oA 24 (.mv (.t 6))), (oA 25 (.un .neg (.t 24))), (oA 6 (.mv (.t 25)))] []) .skip)) (.mark 1 [0, 5, 6] (.seq (.reg [(oA 26 (.mv (.t 6))), (oA 27 (.call (.k (.v (.c (.func 118 [])))) [(.t 26)])), (oA 7 (.mv (.t 27)))] []) (.seq (.reg [(oA 28 (.mv (.t 7))), (oA 29 (.bin .add 0 (.k (.v (.c (.p (.int .i64 1))))) (.t 28))), (oA 30 (.sliceA 24 1 (.t 5) (some (.k (.v (.c (.p (.int .i64 1)))))) (some (.t 29)))), (oA 31 (.mv (.t 6))), (oA 32 (.call (.k (.v (.c (.func 119 [])))) [(.t 30), (.t 31)]))] []) (.seq (.seq (.reg [(oA 33 (.mv (.t 0))), (oA 34 (.bin .lss 0 (.t 33) (.k (.v (.c (.p (.int .i64 0)))))))] []) (.cond (.t 34) (.seq (.reg [(oA 35 (.iaddrA 24 1 (.t 5) (.k (.v (.c (.p (.int .i64 0))))))), (oN (.store 1 (.t 35) (.k (.v (.c (.p (.int .u8 45)))))))] []) (.seq (.reg [(oA 36 (.mv (.t 7))), (oA 37 (.bin .add 0 (.k (.v (.c (.p (.int .i64 1))))) (.t 36))), (oA 38 (.sliceA 24 1 (.t 5) none (some (.t 37)))), (oA 39 (.toStr (.t 38))), (oA 4 (.mv (.t 39)))] []) .ret)) .skip)) (.seq (.reg [(oA 40 (.mv (.t 7))), (oA 41 (.bin .add 0 (.k (.v (.c (.p (.int .i64 1))))) (.t 40))), (oA 42 (.sliceA 24 1 (.t 5) (some (.k (.v (.c (.p (.int .i64 1)))))) (some (.t 41)))), (oA 43 (.toStr (.t 42))), (oA 4 (.mv (.t 43)))] []) .ret))))))))) .skip)) (.seq (.reg [(oA 45 (.mv (.t 0))), (oA 46 (.toInt .u64 (.t 45))), (oA 47 (.mv (.t 1))), (oA 48 (.mv (.t 0))), (oA 49 (.bin .lss 0 (.t 48) (.k (.v (.c (.p (.int .i64 0))))))), (oA 50 (.call (.k (.v (.c (.func 120 [])))) [(.k (.v (.c (.p .nilslice)))), (.t 46), (.t 47), (.t 49), (.k (.v (.c (.p (.bool false)))))])), (oA 44 (.mv (.t 50))), (oA 51 (.extract (.t 44) 0)), (oA 52 (.extract (.t 44) 1)), (oA 8 (.mv (.t 51))), (oA 9 (.mv (.t 52)))] []) (.seq (.reg [(oA 53 (.mv (.t 9))), (oA 4 (.mv (.t 53)))] []) .ret)))) }
theorem t103 : compF Tryz.prog (globs2 tabs opq) (fun _ => false) true Tryz.f103 = some c103.erase := by kernel_rfl
noncomputable def b103_0 (O : Oracle) (R : Jump) (q : Nat) (x0 x1 : TVal) (h : Heap) : Res1 :=
 vbin .eql 0 x1 (kI 10) h fun x11 h =>
 vif x11 (
 vbin .leq 0 (kI 0) x0 h fun x13 h =>
 vguard x13 true (fun kk => kk x0 h) h fun x15 h =>
 vguard x13 true (fun kk => vbin .lss 0 x15 (kI 100) h kk) h fun x16 h =>
 vop O (.pick (.k x13) (.k x16) (.k (kB false))) h 17 fun x17 h =>
 vif x17 (
 vcall O (.v (.c (.func 117 []))) [x0] h 19 fun x19 h =>
 tcomp x19 fun c0 => vfin true q [c0] h)
 (vop O (.alloc [(.p (.int .u8 0)), (.p (.int .u8 0)), (.p (.int .u8 0)), (.p (.int .u8 0)), (.p (.int .u8 0)), (.p (.int .u8 0)), (.p (.int .u8 0)), (.p (.int .u8 0)), (.p (.int .u8 0)), (.p (.int .u8 0)), (.p (.int .u8 0)), (.p (.int .u8 0)), (.p (.int .u8 0)), (.p (.int .u8 0)), (.p (.int .u8 0)), (.p (.int .u8 0)), (.p (.int .u8 0)), (.p (.int .u8 0)), (.p (.int .u8 0)), (.p (.int .u8 0)), (.p (.int .u8 0)), (.p (.int .u8 0)), (.p (.int .u8 0)), (.p (.int .u8 0))] false) h 5 fun x5 h =>
 vtoInt .u64 x0 h fun x21 h =>
 vbin .lss 0 x0 (kI 0) h fun x23 h =>
 vif x23 (
 vop O (.un .neg (.k x21)) h 25 fun x25 h =>
 R 1 [x0, x5, x25] h)
 (R 1 [x0, x5, x21] h)))
 (vtoInt .u64 x0 h fun x46 h =>
 vbin .lss 0 x0 (kI 0) h fun x49 h =>
 vcall O (.v (.c (.func 120 []))) [(.v (.c (.p .nilslice))), x46, x1, x49, (kB false)] h 50 fun x50 h =>
 vext x50 0 h fun x51 h =>
 vext x50 1 h fun x52 h =>
 tcomp x52 fun c0 => vfin true q [c0] h)
theorem e103_0 (O : Oracle) (R : Jump) (q : Nat) (x0 x1 : TVal) (h : Heap) : b103_0 O R q x0 x1 h = stepF c103 O R q 0 [x0, x1] h := by kernel_rfl
noncomputable def b103_1 (O : Oracle) (R : Jump) (q : Nat) (x0 x5 x6 : TVal) (h : Heap) : Res1 :=
 vcall O (.v (.c (.func 118 []))) [x6] h 27 fun x27 h =>
 vbin .add 0 (kI 1) x27 h fun x29 h =>
 vop O (.sliceA 24 1 (.k x5) (some (.k (kI 1))) (some (.k x29))) h 30 fun x30 h =>
 vcall O (.v (.c (.func 119 []))) [x30, x6] h 32 fun x32 h =>
 vbin .lss 0 x0 (kI 0) h fun x34 h =>
 vif x34 (
 vop O (.iaddrA 24 1 (.k x5) (.k (kI 0))) h 35 fun x35 h =>
 vstore 1 x35 (.v (.c (.p (.int .u8 45)))) h fun _ h =>
 vbin .add 0 (kI 1) x27 h fun x37 h =>
 vop O (.sliceA 24 1 (.k x5) none (some (.k x37))) h 38 fun x38 h =>
 vop O (.toStr (.k x38)) h 39 fun x39 h =>
 tcomp x39 fun c0 => vfin true q [c0] h)
 (vbin .add 0 (kI 1) x27 h fun x41 h =>
 vop O (.sliceA 24 1 (.k x5) (some (.k (kI 1))) (some (.k x41))) h 42 fun x42 h =>
 vop O (.toStr (.k x42)) h 43 fun x43 h =>
 tcomp x43 fun c0 => vfin true q [c0] h)
theorem e103_1 (O : Oracle) (R : Jump) (q : Nat) (x0 x5 x6 : TVal) (h : Heap) : b103_1 O R q x0 x5 x6 h = stepF c103 O R q 1 [x0, x5, x6] h := by kernel_rfl
noncomputable def d103 : BlkF := fun O R q => [.s fun y0 => .s fun y1 => .z fun h => b103_0 O R q y0 y1 h, .s fun y0 => .s fun y1 => .s fun y2 => .z fun h => b103_1 O R q y0 y1 y2 h]
theorem o103 (O : Oracle) (R : Jump) (q : Nat) : HoldsAll c103 O R q 0 (d103 O R q) := ⟨fun y0 y1 h => e103_0 O R q y0 y1 h, fun y0 y1 y2 h => e103_1 O R q y0 y1 y2 h, trivial⟩
/- slices.Backward[[]*sprue/interp.variable,*sprue/interp.variable]$1 -/
def c104 : MFunc := { np := 2, res := [], frz := true, body := (.seq (.reg [(oA 4 (.load false 1 (.t 1))), (oA 5 (.len 2 (.t 4))), (oA 6 (.bin .sub 0 (.t 5) (.k (.v (.c (.p (.int .i64 1))))))), (oA 3 (.mv (.t 6)))] []) (.block 0 (.loop 1 [0, 1, 3] (.seq (.seq (.reg [(oA 7 (.mv (.t 3))), (oA 8 (.bin .geq 0 (.t 7) (.k (.v (.c (.p (.int .i64 0)))))))] []) (.cond (.t 8) .skip (.exit 0))) (.seq (.block 1 (.seq (.reg [(oA 11 (.mv (.t 0))), (oA 12 (.mv (.t 3))), (oA 13 (.load false 1 (.t 1))), (oA 14 (.mv (.t 3))), (oA 15 (.iaddr 1 (.t 13) (.t 14))), (oA 16 (.load false 1 (.t 15))), (oA 17 (.call (.t 11) [(.t 12), (.t 16)])), (oA 18 (.un .not (.t 17)))] []) (.cond (.t 18) .ret .skip))) (.reg [(oA 9 (.mv (.t 3))), (oA 10 (.bin .sub 0 (.t 9) (.k (.v (.c (.p (.int .i64 1))))))), (oA 3 (.mv (.t 10)))] [])))))) }
theorem t104 : compF Tryz.prog (globs2 tabs opq) (fun _ => false) true Tryz.f104 = some c104.erase := by kernel_rfl
noncomputable def b104_0 (O : Oracle) (R : Jump) (q : Nat) (x0 x1 : TVal) (h : Heap) : Res1 :=
 vload false 1 x1 h fun x4 h =>
 vlen O 2 x4 h 5 fun x5 h =>
 vbin .sub 0 x5 (kI 1) h fun x6 h =>
 R 1 [x0, x1, x6] h
theorem e104_0 (O : Oracle) (R : Jump) (q : Nat) (x0 x1 : TVal) (h : Heap) : b104_0 O R q x0 x1 h = stepF c104 O R q 0 [x0, x1] h := by kernel_rfl
noncomputable def b104_1 (O : Oracle) (R : Jump) (q : Nat) (x0 x1 x3 : TVal) (h : Heap) : Res1 :=
 vbin .geq 0 x3 (kI 0) h fun x8 h =>
 vif x8 (
 vload false 1 x1 h fun x13 h =>
 viaddr 1 x13 x3 h fun x15 h =>
 vload false 1 x15 h fun x16 h =>
 vcall O x0 [x3, x16] h 17 fun x17 h =>
 vop O (.un .not (.k x17)) h 18 fun x18 h =>
 vif x18 (
 vfin true q [] h)
 (vbin .sub 0 x3 (kI 1) h fun x10 h =>
 R 1 [x0, x1, x10] h))
 (vfin true q [] h)
theorem e104_1 (O : Oracle) (R : Jump) (q : Nat) (x0 x1 x3 : TVal) (h : Heap) : b104_1 O R q x0 x1 x3 h = stepF c104 O R q 1 [x0, x1, x3] h := by kernel_rfl
noncomputable def d104 : BlkF := fun O R q => [.s fun y0 => .s fun y1 => .z fun h => b104_0 O R q y0 y1 h, .s fun y0 => .s fun y1 => .s fun y2 => .z fun h => b104_1 O R q y0 y1 y2 h]
theorem o104 (O : Oracle) (R : Jump) (q : Nat) : HoldsAll c104 O R q 0 (d104 O R q) := ⟨fun y0 y1 h => e104_0 O R q y0 y1 h, fun y0 y1 y2 h => e104_1 O R q y0 y1 y2 h, trivial⟩
/- sprue/scan.Ident -/
def c105 : MFunc := { np := 1, res := [.t 2], frz := true, body := (.seq (.reg [(oA 2 (.mv (.k (.v (.c (.p (.bool false)))))))] []) (.seq (.reg [(oA 3 (.mv (.t 0))), (oA 4 (.bin .neq 0 (.t 3) (.k (.v (.c (.p (.str []))))))), (oA 5 (.mv (.t 4))), ⟨(some 6), (.mv (.t 0)), (some (5, true))⟩, ⟨(some 7), (.len 0 (.t 6)), (some (5, true))⟩, ⟨(some 8), (.bin .leq 0 (.t 7) (.k (.v (.c (.p (.int .i64 16)))))), (some (5, true))⟩, (oA 9 (.pick (.t 5) (.t 8) (.k (.v (.c (.p (.bool false))))))), (oA 10 (.mv (.t 9))), ⟨(some 11), (.mv (.t 0)), (some (10, true))⟩, ⟨(some 12), (.index (.t 11) (.k (.v (.c (.p (.int .i64 0)))))), (some (10, true))⟩, ⟨(some 13), (.call (.k (.v (.c (.func 121 [])))) [(.t 12)]), (some (10, true))⟩, ⟨(some 14), (.un .not (.t 13)), (some (10, true))⟩, (oA 15 (.pick (.t 10) (.t 14) (.k (.v (.c (.p (.bool false))))))), (oA 16 (.mv (.t 15))), ⟨(some 17), (.mv (.t 0)), (some (16, true))⟩, ⟨(some 18), (.call (.k (.v (.c (.func 122 [])))) [(.t 17)]), (some (16, true))⟩, ⟨(some 19), (.mv (.t 0)), (some (16, true))⟩, ⟨(some 20), (.len 0 (.t 19)), (some (16, true))⟩, ⟨(some 21), (.bin .eql 0 (.t 18) (.t 20)), (some (16, true))⟩, (oA 22 (.pick (.t 16) (.t 21) (.k (.v (.c (.p (.bool false))))))), (oA 2 (.mv (.t 22)))] []) .ret)) }
theorem t105 : compF Tryz.prog (globs2 tabs opq) (fun _ => false) true Tryz.f105 = some c105.erase := by kernel_rfl
noncomputable def b105_0 (O : Oracle) (R : Jump) (q : Nat) (x0 : TVal) (h : Heap) : Res1 :=
 vbin .neq 0 x0 (kS []) h fun x4 h =>
 vguard x4 true (fun kk => kk x0 h) h fun x6 h =>
 vguard x4 true (fun kk => vlen O 0 x6 h 7 kk) h fun x7 h =>
 vguard x4 true (fun kk => vbin .leq 0 x7 (kI 16) h kk) h fun x8 h =>
 vop O (.pick (.k x4) (.k x8) (.k (kB false))) h 9 fun x9 h =>
 vguard x9 true (fun kk => kk x0 h) h fun x11 h =>
 vguard x9 true (fun kk => vindex x11 (kI 0) h kk) h fun x12 h =>
 vguard x9 true (fun kk => vcall O (.v (.c (.func 121 []))) [x12] h 13 kk) h fun x13 h =>
 vguard x9 true (fun kk => vop O (.un .not (.k x13)) h 14 kk) h fun x14 h =>
 vop O (.pick (.k x9) (.k x14) (.k (kB false))) h 15 fun x15 h =>
 vguard x15 true (fun kk => kk x0 h) h fun x17 h =>
 vguard x15 true (fun kk => vcall O (.v (.c (.func 122 []))) [x17] h 18 kk) h fun x18 h =>
 vguard x15 true (fun kk => kk x0 h) h fun x19 h =>
 vguard x15 true (fun kk => vlen O 0 x19 h 20 kk) h fun x20 h =>
 vguard x15 true (fun kk => vbin .eql 0 x18 x20 h kk) h fun x21 h =>
 vop O (.pick (.k x15) (.k x21) (.k (kB false))) h 22 fun x22 h =>
 tcomp x22 fun c0 => vfin true q [c0] h
theorem e105_0 (O : Oracle) (R : Jump) (q : Nat) (x0 : TVal) (h : Heap) : b105_0 O R q x0 h = stepF c105 O R q 0 [x0] h := by kernel_rfl
noncomputable def d105 : BlkF := fun O R q => [.s fun y0 => .z fun h => b105_0 O R q y0 h]
theorem o105 (O : Oracle) (R : Jump) (q : Nat) : HoldsAll c105 O R q 0 (d105 O R q) := ⟨fun y0 h => e105_0 O R q y0 h, trivial⟩
/- strings.Contains -/
def c106 : MFunc := { np := 2, res := [.t 4], frz := true, body := (.seq (.reg [(oA 4 (.mv (.k (.v (.c (.p (.bool false)))))))] []) (.seq (.reg [(oA 5 (.mv (.t 0))), (oA 6 (.mv (.t 1))), (oA 7 (.call (.k (.v (.c (.func 123 [])))) [(.t 5), (.t 6)])), (oA 8 (.bin .geq 0 (.t 7) (.k (.v (.c (.p (.int .i64 0))))))), (oA 4 (.mv (.t 8)))] []) .ret)) }
theorem t106 : compF Tryz.prog (globs2 tabs opq) (fun _ => false) true Tryz.f106 = some c106.erase := by kernel_rfl
noncomputable def b106_0 (O : Oracle) (R : Jump) (q : Nat) (x0 x1 : TVal) (h : Heap) : Res1 :=
 vcall O (.v (.c (.func 123 []))) [x0, x1] h 7 fun x7 h =>
 vbin .geq 0 x7 (kI 0) h fun x8 h =>
 tcomp x8 fun c0 => vfin true q [c0] h
theorem e106_0 (O : Oracle) (R : Jump) (q : Nat) (x0 x1 : TVal) (h : Heap) : b106_0 O R q x0 x1 h = stepF c106 O R q 0 [x0, x1] h := by kernel_rfl
noncomputable def d106 : BlkF := fun O R q => [.s fun y0 => .s fun y1 => .z fun h => b106_0 O R q y0 y1 h]
theorem o106 (O : Oracle) (R : Jump) (q : Nat) : HoldsAll c106 O R q 0 (d106 O R q) := ⟨fun y0 y1 h => e106_0 O R q y0 y1 h, trivial⟩
/- sprue/calls.many -/
def c107 : MFunc := { np := 1, res := [.t 2], frz := true, body := (.seq (.reg [(oA 2 (.mv (.k (.v (.c (.p (.int .i64 0)))))))] []) (.seq (.seq (.reg [(oA 3 (.mv (.t 0)))] []) (.block 0 (.seq (.block 2 (.block 1 (.seq (.seq (.seq (.seq (.reg [(oA 5 (.bin .eql 0 (.t 3) (.k (.v (.c (.p (.str [108, 101, 110]))))))), (oA 4 (.mv (.t 5)))] []) (.cond (.t 4) .skip (.seq (.reg [(oA 6 (.bin .eql 0 (.t 3) (.k (.v (.c (.p (.str [110, 111, 116]))))))), (oA 4 (.mv (.t 6)))] []) (.cond (.t 4) .skip (.seq (.reg [(oA 7 (.bin .eql 0 (.t 3) (.k (.v (.c (.p (.str [116, 101, 120, 116]))))))), (oA 4 (.mv (.t 7)))] []) (.cond (.t 4) .skip (.reg [(oA 8 (.bin .eql 0 (.t 3) (.k (.v (.c (.p (.str [104, 97, 115]))))))), (oA 4 (.mv (.t 8)))] []))))))) (.mark 1 [3, 4] (.cond (.t 4) (.exit 1) .skip))) (.seq (.seq (.reg [(oA 10 (.bin .eql 0 (.t 3) (.k (.v (.c (.p (.str [105, 56]))))))), (oA 9 (.mv (.t 10)))] []) (.cond (.t 9) .skip (.seq (.reg [(oA 11 (.bin .eql 0 (.t 3) (.k (.v (.c (.p (.str [105, 49, 54]))))))), (oA 9 (.mv (.t 11)))] []) (.cond (.t 9) .skip (.seq (.reg [(oA 12 (.bin .eql 0 (.t 3) (.k (.v (.c (.p (.str [105, 51, 50]))))))), (oA 9 (.mv (.t 12)))] []) (.cond (.t 9) .skip (.seq (.reg [(oA 13 (.bin .eql 0 (.t 3) (.k (.v (.c (.p (.str [117, 56]))))))), (oA 9 (.mv (.t 13)))] []) (.cond (.t 9) .skip (.seq (.reg [(oA 14 (.bin .eql 0 (.t 3) (.k (.v (.c (.p (.str [117, 49, 54]))))))), (oA 9 (.mv (.t 14)))] []) (.cond (.t 9) .skip (.reg [(oA 15 (.bin .eql 0 (.t 3) (.k (.v (.c (.p (.str [117, 51, 50]))))))), (oA 9 (.mv (.t 15)))] []))))))))))) (.mark 2 [9] (.cond (.t 9) (.exit 2) .skip)))) (.exit 0)))) (.seq (.seq (.reg [(oA 2 (.mv (.k (.v (.c (.p (.int .i64 1)))))))] []) .ret) (.exit 0))))) (.seq (.reg [(oA 2 (.mv (.k (.v (.c (.p (.int .i64 2)))))))] []) .ret))) }
theorem t107 : compF Tryz.prog (globs2 tabs opq) (fun _ => false) true Tryz.f107 = some c107.erase := by kernel_rfl
noncomputable def b107_0 (O : Oracle) (R : Jump) (q : Nat) (x0 : TVal) (h : Heap) : Res1 :=
 vbin .eql 0 x0 (kS [108, 101, 110]) h fun x5 h =>
 vif x5 (
 R 1 [x0, x5] h)
 (vbin .eql 0 x0 (kS [110, 111, 116]) h fun x6 h =>
 vif x6 (
 R 1 [x0, x6] h)
 (vbin .eql 0 x0 (kS [116, 101, 120, 116]) h fun x7 h =>
 vif x7 (
 R 1 [x0, x7] h)
 (vbin .eql 0 x0 (kS [104, 97, 115]) h fun x8 h =>
 R 1 [x0, x8] h)))
theorem e107_0 (O : Oracle) (R : Jump) (q : Nat) (x0 : TVal) (h : Heap) : b107_0 O R q x0 h = stepF c107 O R q 0 [x0] h := by kernel_rfl
noncomputable def b107_1 (O : Oracle) (R : Jump) (q : Nat) (x3 x4 : TVal) (h : Heap) : Res1 :=
 vif x4 (
 tcomp (kI 1) fun c0 => vfin true q [c0] h)
 (vbin .eql 0 x3 (kS [105, 56]) h fun x10 h =>
 vif x10 (
 R 2 [x10] h)
 (vbin .eql 0 x3 (kS [105, 49, 54]) h fun x11 h =>
 vif x11 (
 R 2 [x11] h)
 (vbin .eql 0 x3 (kS [105, 51, 50]) h fun x12 h =>
 vif x12 (
 R 2 [x12] h)
 (vbin .eql 0 x3 (kS [117, 56]) h fun x13 h =>
 vif x13 (
 R 2 [x13] h)
 (vbin .eql 0 x3 (kS [117, 49, 54]) h fun x14 h =>
 vif x14 (
 R 2 [x14] h)
 (vbin .eql 0 x3 (kS [117, 51, 50]) h fun x15 h =>
 R 2 [x15] h))))))
theorem e107_1 (O : Oracle) (R : Jump) (q : Nat) (x3 x4 : TVal) (h : Heap) : b107_1 O R q x3 x4 h = stepF c107 O R q 1 [x3, x4] h := by kernel_rfl
noncomputable def b107_2 (O : Oracle) (R : Jump) (q : Nat) (x9 : TVal) (h : Heap) : Res1 :=
 vif x9 (
 tcomp (kI 1) fun c0 => vfin true q [c0] h)
 (tcomp (kI 2) fun c0 => vfin true q [c0] h)
theorem e107_2 (O : Oracle) (R : Jump) (q : Nat) (x9 : TVal) (h : Heap) : b107_2 O R q x9 h = stepF c107 O R q 2 [x9] h := by kernel_rfl
noncomputable def d107 : BlkF := fun O R q => [.s fun y0 => .z fun h => b107_0 O R q y0 h, .s fun y0 => .s fun y1 => .z fun h => b107_1 O R q y0 y1 h, .s fun y0 => .z fun h => b107_2 O R q y0 h]
theorem o107 (O : Oracle) (R : Jump) (q : Nat) : HoldsAll c107 O R q 0 (d107 O R q) := ⟨fun y0 h => e107_0 O R q y0 h, fun y0 y1 h => e107_1 O R q y0 y1 h, fun y0 h => e107_2 O R q y0 h, trivial⟩
/- sprue/calls.long -/
def c108 : MFunc := { np := 1, res := [.cell 2 true 6, .t 3], frz := true, body := (.seq (.reg [(oA 1 (.box (.t 0) false)), (oA 2 (.alloc [(.p (.int .i64 0)), (.p (.bool false)), (.p (.int .i64 0)), (.p (.str [])), (.p .nilslice), (.p .nilslice)] false)), (oA 3 (.mv (.k (.v (.c (.p (.int .i64 0)))))))] []) (.seq (.seq (.reg [(oA 4 (.faddr 0 (.t 1))), (oA 5 (.load false 1 (.t 4)))] []) (.block 0 (.seq (.reg [(oA 7 (.bin .eql 0 (.t 5) (.k (.v (.c (.p (.int .i64 3))))))), (oA 6 (.mv (.t 7)))] []) (.cond (.t 6) (.seq (.reg [(oA 8 (.faddr 3 (.t 1))), (oA 9 (.load false 1 (.t 8))), (oA 10 (.len 0 (.t 9))), (oA 11 (.call (.k (.v (.c (.func 124 [])))) [(.t 10)])), (oN (.store 6 (.t 2) (.t 11))), (oA 3 (.mv (.k (.v (.c (.p (.int .i64 0)))))))] []) .ret) (.seq (.seq (.reg [(oA 13 (.bin .eql 0 (.t 5) (.k (.v (.c (.p (.int .i64 4))))))), (oA 12 (.mv (.t 13)))] []) (.cond (.t 12) .skip (.reg [(oA 14 (.bin .eql 0 (.t 5) (.k (.v (.c (.p (.int .i64 5))))))), (oA 12 (.mv (.t 14)))] []))) (.mark 1 [1, 2, 12] (.cond (.t 12) (.seq (.reg [(oA 15 (.faddr 5 (.t 1))), (oA 16 (.load false 1 (.t 15))), (oA 17 (.len 2 (.t 16))), (oA 18 (.call (.k (.v (.c (.func 124 [])))) [(.t 17)])), (oN (.store 6 (.t 2) (.t 18))), (oA 3 (.mv (.k (.v (.c (.p (.int .i64 0)))))))] []) .ret) .skip))))))) (.seq (.reg [(oA 19 (.build [(.p (.int .i64 0)), (.p (.bool false)), (.p (.int .i64 0)), (.p (.str [])), (.p .nilslice), (.p .nilslice)] [])), (oN (.store 6 (.t 2) (.t 19))), (oA 3 (.mv (.k (.v (.c (.p (.int .i64 17)))))))] []) .ret))) }
theorem t108 : compF Tryz.prog (globs2 tabs opq) (fun _ => false) true Tryz.f108 = some c108.erase := by kernel_rfl
noncomputable def b108_0 (O : Oracle) (R : Jump) (q : Nat) (x0 : TVal) (h : Heap) : Res1 :=
 vop O (.box (.k x0) false) h 1 fun x1 h =>
 vop O (.alloc [(.p (.int .i64 0)), (.p (.bool false)), (.p (.int .i64 0)), (.p (.str [])), (.p .nilslice), (.p .nilslice)] false) h 2 fun x2 h =>
 vfaddr 0 x1 h fun x4 h =>
 vload false 1 x4 h fun x5 h =>
 vbin .eql 0 x5 (kI 3) h fun x7 h =>
 vif x7 (
 vfaddr 3 x1 h fun x8 h =>
 vload false 1 x8 h fun x9 h =>
 vlen O 0 x9 h 10 fun x10 h =>
 vcall O (.v (.c (.func 124 []))) [x10] h 11 fun x11 h =>
 vstore 6 x2 x11 h fun _ h =>
 vcell true 6 x2 h fun c0 => tcomp (kI 0) fun c1 => vfin true q [c0, c1] h)
 (vbin .eql 0 x5 (kI 4) h fun x13 h =>
 vif x13 (
 R 1 [x1, x2, x13] h)
 (vbin .eql 0 x5 (kI 5) h fun x14 h =>
 R 1 [x1, x2, x14] h))
theorem e108_0 (O : Oracle) (R : Jump) (q : Nat) (x0 : TVal) (h : Heap) : b108_0 O R q x0 h = stepF c108 O R q 0 [x0] h := by kernel_rfl
noncomputable def b108_1 (O : Oracle) (R : Jump) (q : Nat) (x1 x2 x12 : TVal) (h : Heap) : Res1 :=
 vif x12 (
 vfaddr 5 x1 h fun x15 h =>
 vload false 1 x15 h fun x16 h =>
 vlen O 2 x16 h 17 fun x17 h =>
 vcall O (.v (.c (.func 124 []))) [x17] h 18 fun x18 h =>
 vstore 6 x2 x18 h fun _ h =>
 vcell true 6 x2 h fun c0 => tcomp (kI 0) fun c1 => vfin true q [c0, c1] h)
 (vop O (.build [(.p (.int .i64 0)), (.p (.bool false)), (.p (.int .i64 0)), (.p (.str [])), (.p .nilslice), (.p .nilslice)] []) h 19 fun x19 h =>
 vstore 6 x2 x19 h fun _ h =>
 vcell true 6 x2 h fun c0 => tcomp (kI 17) fun c1 => vfin true q [c0, c1] h)
theorem e108_1 (O : Oracle) (R : Jump) (q : Nat) (x1 x2 x12 : TVal) (h : Heap) : b108_1 O R q x1 x2 x12 h = stepF c108 O R q 1 [x1, x2, x12] h := by kernel_rfl
noncomputable def d108 : BlkF := fun O R q => [.s fun y0 => .z fun h => b108_0 O R q y0 h, .s fun y0 => .s fun y1 => .s fun y2 => .z fun h => b108_1 O R q y0 y1 y2 h]
theorem o108 (O : Oracle) (R : Jump) (q : Nat) : HoldsAll c108 O R q 0 (d108 O R q) := ⟨fun y0 h => e108_0 O R q y0 h, fun y0 y1 y2 h => e108_1 O R q y0 y1 y2 h, trivial⟩
/- sprue/calls.logic -/
def c109 : MFunc := { np := 2, res := [.cell 4 true 6, .t 5], frz := true, body := (.seq (.reg [(oA 4 (.alloc [(.p (.int .i64 0)), (.p (.bool false)), (.p (.int .i64 0)), (.p (.str [])), (.p .nilslice), (.p .nilslice)] false)), (oA 5 (.mv (.k (.v (.c (.p (.int .i64 0)))))))] []) (.seq (.seq (.reg [(oA 6 (.mv (.t 1))), (oA 7 (.call (.k (.v (.c (.func 125 [])))) [(.t 6), (.k (.v (.c (.func 126 []))))]))] []) (.cond (.t 7) (.seq (.reg [(oA 8 (.build [(.p (.int .i64 0)), (.p (.bool false)), (.p (.int .i64 0)), (.p (.str [])), (.p .nilslice), (.p .nilslice)] [])), (oN (.store 6 (.t 4) (.t 8))), (oA 5 (.mv (.k (.v (.c (.p (.int .i64 17)))))))] []) .ret) .skip)) (.seq (.seq (.reg [(oA 9 (.mv (.t 0)))] []) (.block 0 (.seq (.reg [(oA 11 (.bin .eql 0 (.t 9) (.k (.v (.c (.p (.str [110, 111, 116]))))))), (oA 10 (.mv (.t 11)))] []) (.cond (.t 10) (.seq (.reg [(oA 12 (.mv (.t 1))), (oA 13 (.iaddr 6 (.t 12) (.k (.v (.c (.p (.int .i64 0))))))), (oA 14 (.faddr 1 (.t 13))), (oA 15 (.load false 1 (.t 14))), (oA 16 (.un .not (.t 15))), (oA 17 (.call (.k (.v (.c (.func 115 [])))) [(.t 16)])), (oN (.store 6 (.t 4) (.t 17))), (oA 5 (.mv (.k (.v (.c (.p (.int .i64 0)))))))] []) .ret) (.seq (.reg [(oA 19 (.bin .eql 0 (.t 9) (.k (.v (.c (.p (.str [97, 110, 100]))))))), (oA 18 (.mv (.t 19)))] []) (.cond (.t 18) (.seq (.reg [(oA 20 (.mv (.t 1))), (oA 21 (.iaddr 6 (.t 20) (.k (.v (.c (.p (.int .i64 0))))))), (oA 22 (.faddr 1 (.t 21))), (oA 23 (.load false 1 (.t 22))), (oA 24 (.mv (.t 23))), ⟨(some 25), (.mv (.t 1)), (some (24, true))⟩, ⟨(some 26), (.iaddr 6 (.t 25) (.k (.v (.c (.p (.int .i64 1)))))), (some (24, true))⟩, ⟨(some 27), (.faddr 1 (.t 26)), (some (24, true))⟩, ⟨(some 28), (.load false 1 (.t 27)), (some (24, true))⟩, (oA 29 (.pick (.t 24) (.t 28) (.k (.v (.c (.p (.bool false))))))), (oA 30 (.call (.k (.v (.c (.func 115 [])))) [(.t 29)])), (oN (.store 6 (.t 4) (.t 30))), (oA 5 (.mv (.k (.v (.c (.p (.int .i64 0)))))))] []) .ret) .skip)))))) (.seq (.reg [(oA 31 (.mv (.t 1))), (oA 32 (.iaddr 6 (.t 31) (.k (.v (.c (.p (.int .i64 0))))))), (oA 33 (.faddr 1 (.t 32))), (oA 34 (.load false 1 (.t 33))), (oA 35 (.mv (.t 34))), ⟨(some 36), (.mv (.t 1)), (some (35, false))⟩, ⟨(some 37), (.iaddr 6 (.t 36) (.k (.v (.c (.p (.int .i64 1)))))), (some (35, false))⟩, ⟨(some 38), (.faddr 1 (.t 37)), (some (35, false))⟩, ⟨(some 39), (.load false 1 (.t 38)), (some (35, false))⟩, (oA 40 (.pick (.t 35) (.k (.v (.c (.p (.bool true))))) (.t 39))), (oA 41 (.call (.k (.v (.c (.func 115 [])))) [(.t 40)])), (oN (.store 6 (.t 4) (.t 41))), (oA 5 (.mv (.k (.v (.c (.p (.int .i64 0)))))))] []) .ret)))) }
theorem t109 : compF Tryz.prog (globs2 tabs opq) (fun _ => false) true Tryz.f109 = some c109.erase := by kernel_rfl
noncomputable def b109_0 (O : Oracle) (R : Jump) (q : Nat) (x0 x1 : TVal) (h : Heap) : Res1 :=
 vop O (.alloc [(.p (.int .i64 0)), (.p (.bool false)), (.p (.int .i64 0)), (.p (.str [])), (.p .nilslice), (.p .nilslice)] false) h 4 fun x4 h =>
 vcall O (.v (.c (.func 125 []))) [x1, (.v (.c (.func 126 [])))] h 7 fun x7 h =>
 vif x7 (
 vop O (.build [(.p (.int .i64 0)), (.p (.bool false)), (.p (.int .i64 0)), (.p (.str [])), (.p .nilslice), (.p .nilslice)] []) h 8 fun x8 h =>
 vstore 6 x4 x8 h fun _ h =>
 vcell true 6 x4 h fun c0 => tcomp (kI 17) fun c1 => vfin true q [c0, c1] h)
 (vbin .eql 0 x0 (kS [110, 111, 116]) h fun x11 h =>
 vif x11 (
 viaddr 6 x1 (kI 0) h fun x13 h =>
 vfaddr 1 x13 h fun x14 h =>
 vload false 1 x14 h fun x15 h =>
 vop O (.un .not (.k x15)) h 16 fun x16 h =>
 vcall O (.v (.c (.func 115 []))) [x16] h 17 fun x17 h =>
 vstore 6 x4 x17 h fun _ h =>
 vcell true 6 x4 h fun c0 => tcomp (kI 0) fun c1 => vfin true q [c0, c1] h)
 (vbin .eql 0 x0 (kS [97, 110, 100]) h fun x19 h =>
 vif x19 (
 viaddr 6 x1 (kI 0) h fun x21 h =>
 vfaddr 1 x21 h fun x22 h =>
 vload false 1 x22 h fun x23 h =>
 vguard x23 true (fun kk => kk x1 h) h fun x25 h =>
 vguard x23 true (fun kk => viaddr 6 x25 (kI 1) h kk) h fun x26 h =>
 vguard x23 true (fun kk => vfaddr 1 x26 h kk) h fun x27 h =>
 vguard x23 true (fun kk => vload false 1 x27 h kk) h fun x28 h =>
 vop O (.pick (.k x23) (.k x28) (.k (kB false))) h 29 fun x29 h =>
 vcall O (.v (.c (.func 115 []))) [x29] h 30 fun x30 h =>
 vstore 6 x4 x30 h fun _ h =>
 vcell true 6 x4 h fun c0 => tcomp (kI 0) fun c1 => vfin true q [c0, c1] h)
 (viaddr 6 x1 (kI 0) h fun x32 h =>
 vfaddr 1 x32 h fun x33 h =>
 vload false 1 x33 h fun x34 h =>
 vguard x34 false (fun kk => kk x1 h) h fun x36 h =>
 vguard x34 false (fun kk => viaddr 6 x36 (kI 1) h kk) h fun x37 h =>
 vguard x34 false (fun kk => vfaddr 1 x37 h kk) h fun x38 h =>
 vguard x34 false (fun kk => vload false 1 x38 h kk) h fun x39 h =>
 vop O (.pick (.k x34) (.k (kB true)) (.k x39)) h 40 fun x40 h =>
 vcall O (.v (.c (.func 115 []))) [x40] h 41 fun x41 h =>
 vstore 6 x4 x41 h fun _ h =>
 vcell true 6 x4 h fun c0 => tcomp (kI 0) fun c1 => vfin true q [c0, c1] h)))
theorem e109_0 (O : Oracle) (R : Jump) (q : Nat) (x0 x1 : TVal) (h : Heap) : b109_0 O R q x0 x1 h = stepF c109 O R q 0 [x0, x1] h := by kernel_rfl
noncomputable def d109 : BlkF := fun O R q => [.s fun y0 => .s fun y1 => .z fun h => b109_0 O R q y0 y1 h]
theorem o109 (O : Oracle) (R : Jump) (q : Nat) : HoldsAll c109 O R q 0 (d109 O R q) := ⟨fun y0 y1 h => e109_0 O R q y0 y1 h, trivial⟩
/- sprue/calls.same -/
def c110 : MFunc := { np := 1, res := [.cell 2 true 6, .t 3], frz := true, body := (.seq (.reg [(oA 2 (.alloc [(.p (.int .i64 0)), (.p (.bool false)), (.p (.int .i64 0)), (.p (.str [])), (.p .nilslice), (.p .nilslice)] false)), (oA 3 (.mv (.k (.v (.c (.p (.int .i64 0)))))))] []) (.seq (.reg [(oA 5 (.mv (.t 0))), (oA 6 (.iaddr 6 (.t 5) (.k (.v (.c (.p (.int .i64 0))))))), (oA 7 (.faddr 0 (.t 6))), (oA 8 (.load false 1 (.t 7))), (oA 4 (.mv (.t 8)))] []) (.seq (.seq (.reg [(oA 9 (.mv (.t 4))), (oA 10 (.bin .lss 0 (.t 9) (.k (.v (.c (.p (.int .i64 1))))))), (oA 11 (.mv (.t 10))), ⟨(some 12), (.mv (.t 4)), (some (11, false))⟩, ⟨(some 13), (.bin .gtr 0 (.t 12) (.k (.v (.c (.p (.int .i64 3)))))), (some (11, false))⟩, (oA 14 (.pick (.t 11) (.k (.v (.c (.p (.bool true))))) (.t 13))), (oA 15 (.mv (.t 14))), ⟨(some 16), (.mv (.t 0)), (some (15, false))⟩, ⟨(some 17), (.iaddr 6 (.t 16) (.k (.v (.c (.p (.int .i64 1)))))), (some (15, false))⟩, ⟨(some 18), (.faddr 0 (.t 17)), (some (15, false))⟩, ⟨(some 19), (.load false 1 (.t 18)), (some (15, false))⟩, ⟨(some 20), (.mv (.t 4)), (some (15, false))⟩, ⟨(some 21), (.bin .neq 0 (.t 19) (.t 20)), (some (15, false))⟩, (oA 22 (.pick (.t 15) (.k (.v (.c (.p (.bool true))))) (.t 21)))] []) (.cond (.t 22) (.seq (.reg [(oA 23 (.build [(.p (.int .i64 0)), (.p (.bool false)), (.p (.int .i64 0)), (.p (.str [])), (.p .nilslice), (.p .nilslice)] [])), (oN (.store 6 (.t 2) (.t 23))), (oA 3 (.mv (.k (.v (.c (.p (.int .i64 17)))))))] []) .ret) .skip)) (.seq (.reg [(oA 24 (.mv (.t 0))), (oA 25 (.iaddr 6 (.t 24) (.k (.v (.c (.p (.int .i64 0))))))), (oA 26 (.faddr 1 (.t 25))), (oA 27 (.load false 1 (.t 26))), (oA 28 (.mv (.t 0))), (oA 29 (.iaddr 6 (.t 28) (.k (.v (.c (.p (.int .i64 1))))))), (oA 30 (.faddr 1 (.t 29))), (oA 31 (.load false 1 (.t 30))), (oA 32 (.bin .eql 5 (.t 27) (.t 31))), (oA 33 (.mv (.t 32))), ⟨(some 34), (.mv (.t 0)), (some (33, true))⟩, ⟨(some 35), (.iaddr 6 (.t 34) (.k (.v (.c (.p (.int .i64 0)))))), (some (33, true))⟩, ⟨(some 36), (.faddr 2 (.t 35)), (some (33, true))⟩, ⟨(some 37), (.load false 1 (.t 36)), (some (33, true))⟩, ⟨(some 38), (.mv (.t 0)), (some (33, true))⟩, ⟨(some 39), (.iaddr 6 (.t 38) (.k (.v (.c (.p (.int .i64 1)))))), (some (33, true))⟩, ⟨(some 40), (.faddr 2 (.t 39)), (some (33, true))⟩, ⟨(some 41), (.load false 1 (.t 40)), (some (33, true))⟩, ⟨(some 42), (.bin .eql 0 (.t 37) (.t 41)), (some (33, true))⟩, (oA 43 (.pick (.t 33) (.t 42) (.k (.v (.c (.p (.bool false))))))), (oA 44 (.mv (.t 43))), ⟨(some 45), (.mv (.t 0)), (some (44, true))⟩, ⟨(some 46), (.iaddr 6 (.t 45) (.k (.v (.c (.p (.int .i64 0)))))), (some (44, true))⟩, ⟨(some 47), (.faddr 3 (.t 46)), (some (44, true))⟩, ⟨(some 48), (.load false 1 (.t 47)), (some (44, true))⟩, ⟨(some 49), (.mv (.t 0)), (some (44, true))⟩, ⟨(some 50), (.iaddr 6 (.t 49) (.k (.v (.c (.p (.int .i64 1)))))), (some (44, true))⟩, ⟨(some 51), (.faddr 3 (.t 50)), (some (44, true))⟩, ⟨(some 52), (.load false 1 (.t 51)), (some (44, true))⟩, ⟨(some 53), (.bin .eql 0 (.t 48) (.t 52)), (some (44, true))⟩, (oA 54 (.pick (.t 44) (.t 53) (.k (.v (.c (.p (.bool false))))))), (oA 55 (.call (.k (.v (.c (.func 115 [])))) [(.t 54)])), (oN (.store 6 (.t 2) (.t 55))), (oA 3 (.mv (.k (.v (.c (.p (.int .i64 0)))))))] []) .ret)))) }
theorem t110 : compF Tryz.prog (globs2 tabs opq) (fun _ => false) true Tryz.f110 = some c110.erase := by kernel_rfl
noncomputable def b110_0 (O : Oracle) (R : Jump) (q : Nat) (x0 : TVal) (h : Heap) : Res1 :=
 vop O (.alloc [(.p (.int .i64 0)), (.p (.bool false)), (.p (.int .i64 0)), (.p (.str [])), (.p .nilslice), (.p .nilslice)] false) h 2 fun x2 h =>
 viaddr 6 x0 (kI 0) h fun x6 h =>
 vfaddr 0 x6 h fun x7 h =>
 vload false 1 x7 h fun x8 h =>
 vbin .lss 0 x8 (kI 1) h fun x10 h =>
 vguard x10 false (fun kk => kk x8 h) h fun x12 h =>
 vguard x10 false (fun kk => vbin .gtr 0 x12 (kI 3) h kk) h fun x13 h =>
 vop O (.pick (.k x10) (.k (kB true)) (.k x13)) h 14 fun x14 h =>
 vguard x14 false (fun kk => kk x0 h) h fun x16 h =>
 vguard x14 false (fun kk => viaddr 6 x16 (kI 1) h kk) h fun x17 h =>
 vguard x14 false (fun kk => vfaddr 0 x17 h kk) h fun x18 h =>
 vguard x14 false (fun kk => vload false 1 x18 h kk) h fun x19 h =>
 vguard x14 false (fun kk => kk x8 h) h fun x20 h =>
 vguard x14 false (fun kk => vbin .neq 0 x19 x20 h kk) h fun x21 h =>
 vop O (.pick (.k x14) (.k (kB true)) (.k x21)) h 22 fun x22 h =>
 vif x22 (
 vop O (.build [(.p (.int .i64 0)), (.p (.bool false)), (.p (.int .i64 0)), (.p (.str [])), (.p .nilslice), (.p .nilslice)] []) h 23 fun x23 h =>
 vstore 6 x2 x23 h fun _ h =>
 vcell true 6 x2 h fun c0 => tcomp (kI 17) fun c1 => vfin true q [c0, c1] h)
 (viaddr 6 x0 (kI 0) h fun x25 h =>
 vfaddr 1 x25 h fun x26 h =>
 vload false 1 x26 h fun x27 h =>
 viaddr 6 x0 (kI 1) h fun x29 h =>
 vfaddr 1 x29 h fun x30 h =>
 vload false 1 x30 h fun x31 h =>
 vbin .eql 5 x27 x31 h fun x32 h =>
 vguard x32 true (fun kk => kk x0 h) h fun x34 h =>
 vguard x32 true (fun kk => viaddr 6 x34 (kI 0) h kk) h fun x35 h =>
 vguard x32 true (fun kk => vfaddr 2 x35 h kk) h fun x36 h =>
 vguard x32 true (fun kk => vload false 1 x36 h kk) h fun x37 h =>
 vguard x32 true (fun kk => kk x0 h) h fun x38 h =>
 vguard x32 true (fun kk => viaddr 6 x38 (kI 1) h kk) h fun x39 h =>
 vguard x32 true (fun kk => vfaddr 2 x39 h kk) h fun x40 h =>
 vguard x32 true (fun kk => vload false 1 x40 h kk) h fun x41 h =>
 vguard x32 true (fun kk => vbin .eql 0 x37 x41 h kk) h fun x42 h =>
 vop O (.pick (.k x32) (.k x42) (.k (kB false))) h 43 fun x43 h =>
 vguard x43 true (fun kk => kk x0 h) h fun x45 h =>
 vguard x43 true (fun kk => viaddr 6 x45 (kI 0) h kk) h fun x46 h =>
 vguard x43 true (fun kk => vfaddr 3 x46 h kk) h fun x47 h =>
 vguard x43 true (fun kk => vload false 1 x47 h kk) h fun x48 h =>
 vguard x43 true (fun kk => kk x0 h) h fun x49 h =>
 vguard x43 true (fun kk => viaddr 6 x49 (kI 1) h kk) h fun x50 h =>
 vguard x43 true (fun kk => vfaddr 3 x50 h kk) h fun x51 h =>
 vguard x43 true (fun kk => vload false 1 x51 h kk) h fun x52 h =>
 vguard x43 true (fun kk => vbin .eql 0 x48 x52 h kk) h fun x53 h =>
 vop O (.pick (.k x43) (.k x53) (.k (kB false))) h 54 fun x54 h =>
 vcall O (.v (.c (.func 115 []))) [x54] h 55 fun x55 h =>
 vstore 6 x2 x55 h fun _ h =>
 vcell true 6 x2 h fun c0 => tcomp (kI 0) fun c1 => vfin true q [c0, c1] h)
theorem e110_0 (O : Oracle) (R : Jump) (q : Nat) (x0 : TVal) (h : Heap) : b110_0 O R q x0 h = stepF c110 O R q 0 [x0] h := by kernel_rfl
noncomputable def d110 : BlkF := fun O R q => [.s fun y0 => .z fun h => b110_0 O R q y0 h]
theorem o110 (O : Oracle) (R : Jump) (q : Nat) : HoldsAll c110 O R q 0 (d110 O R q) := ⟨fun y0 h => e110_0 O R q y0 h, trivial⟩
/- sprue/calls.cat -/
def c111 : MFunc := { np := 1, res := [.cell 2 true 6, .t 3], frz := true, body := (.seq (.reg [(oA 2 (.alloc [(.p (.int .i64 0)), (.p (.bool false)), (.p (.int .i64 0)), (.p (.str [])), (.p .nilslice), (.p .nilslice)] false)), (oA 3 (.mv (.k (.v (.c (.p (.int .i64 0)))))))] []) (.seq (.block 0 (.seq (.reg [(oA 5 (.mv (.t 0))), (oA 6 (.bslice 1 2 [(.p (.int .i64 0))] [(0, (.k (.v (.c (.p (.int .i64 3)))))), (1, (.k (.v (.c (.p (.int .i64 3))))))] false)), (oA 7 (.call (.k (.v (.c (.func 114 [])))) [(.t 5), (.t 6)])), (oA 8 (.un .not (.t 7))), (oA 4 (.mv (.t 8)))] []) (.cond (.t 4) (.seq (.reg [(oA 9 (.build [(.p (.int .i64 0)), (.p (.bool false)), (.p (.int .i64 0)), (.p (.str [])), (.p .nilslice), (.p .nilslice)] [])), (oN (.store 6 (.t 2) (.t 9))), (oA 3 (.mv (.k (.v (.c (.p (.int .i64 17)))))))] []) .ret) (.seq (.reg [(oA 11 (.mv (.t 0))), (oA 12 (.iaddr 6 (.t 11) (.k (.v (.c (.p (.int .i64 0))))))), (oA 13 (.faddr 3 (.t 12))), (oA 14 (.load false 1 (.t 13))), (oA 15 (.len 0 (.t 14))), (oA 16 (.mv (.t 0))), (oA 17 (.iaddr 6 (.t 16) (.k (.v (.c (.p (.int .i64 1))))))), (oA 18 (.faddr 3 (.t 17))), (oA 19 (.load false 1 (.t 18))), (oA 20 (.len 0 (.t 19))), (oA 21 (.bin .sub 0 (.k (.v (.c (.p (.int .i64 65536))))) (.t 20))), (oA 22 (.bin .gtr 0 (.t 15) (.t 21))), (oA 10 (.mv (.t 22)))] []) (.cond (.t 10) (.seq (.reg [(oA 23 (.build [(.p (.int .i64 0)), (.p (.bool false)), (.p (.int .i64 0)), (.p (.str [])), (.p .nilslice), (.p .nilslice)] [])), (oN (.store 6 (.t 2) (.t 23))), (oA 3 (.mv (.k (.v (.c (.p (.int .i64 34)))))))] []) .ret) .skip))))) (.seq (.reg [(oA 24 (.mv (.t 0))), (oA 25 (.iaddr 6 (.t 24) (.k (.v (.c (.p (.int .i64 0))))))), (oA 26 (.faddr 3 (.t 25))), (oA 27 (.load false 1 (.t 26))), (oA 28 (.mv (.t 0))), (oA 29 (.iaddr 6 (.t 28) (.k (.v (.c (.p (.int .i64 1))))))), (oA 30 (.faddr 3 (.t 29))), (oA 31 (.load false 1 (.t 30))), (oA 32 (.bin .add 0 (.t 27) (.t 31))), (oA 33 (.call (.k (.v (.c (.func 127 [])))) [(.t 32)])), (oN (.store 6 (.t 2) (.t 33))), (oA 3 (.mv (.k (.v (.c (.p (.int .i64 0)))))))] []) .ret))) }
theorem t111 : compF Tryz.prog (globs2 tabs opq) (fun _ => false) true Tryz.f111 = some c111.erase := by kernel_rfl
noncomputable def b111_0 (O : Oracle) (R : Jump) (q : Nat) (x0 : TVal) (h : Heap) : Res1 :=
 vop O (.alloc [(.p (.int .i64 0)), (.p (.bool false)), (.p (.int .i64 0)), (.p (.str [])), (.p .nilslice), (.p .nilslice)] false) h 2 fun x2 h =>
 vop O (.bslice 1 2 [(.p (.int .i64 0))] [(0, (.k (kI 3))), (1, (.k (kI 3)))] false) h 6 fun x6 h =>
 vcall O (.v (.c (.func 114 []))) [x0, x6] h 7 fun x7 h =>
 vop O (.un .not (.k x7)) h 8 fun x8 h =>
 vif x8 (
 vop O (.build [(.p (.int .i64 0)), (.p (.bool false)), (.p (.int .i64 0)), (.p (.str [])), (.p .nilslice), (.p .nilslice)] []) h 9 fun x9 h =>
 vstore 6 x2 x9 h fun _ h =>
 vcell true 6 x2 h fun c0 => tcomp (kI 17) fun c1 => vfin true q [c0, c1] h)
 (viaddr 6 x0 (kI 0) h fun x12 h =>
 vfaddr 3 x12 h fun x13 h =>
 vload false 1 x13 h fun x14 h =>
 vlen O 0 x14 h 15 fun x15 h =>
 viaddr 6 x0 (kI 1) h fun x17 h =>
 vfaddr 3 x17 h fun x18 h =>
 vload false 1 x18 h fun x19 h =>
 vlen O 0 x19 h 20 fun x20 h =>
 vbin .sub 0 (kI 65536) x20 h fun x21 h =>
 vbin .gtr 0 x15 x21 h fun x22 h =>
 vif x22 (
 vop O (.build [(.p (.int .i64 0)), (.p (.bool false)), (.p (.int .i64 0)), (.p (.str [])), (.p .nilslice), (.p .nilslice)] []) h 23 fun x23 h =>
 vstore 6 x2 x23 h fun _ h =>
 vcell true 6 x2 h fun c0 => tcomp (kI 34) fun c1 => vfin true q [c0, c1] h)
 (viaddr 6 x0 (kI 0) h fun x25 h =>
 vfaddr 3 x25 h fun x26 h =>
 vload false 1 x26 h fun x27 h =>
 viaddr 6 x0 (kI 1) h fun x29 h =>
 vfaddr 3 x29 h fun x30 h =>
 vload false 1 x30 h fun x31 h =>
 vbin .add 0 x27 x31 h fun x32 h =>
 vcall O (.v (.c (.func 127 []))) [x32] h 33 fun x33 h =>
 vstore 6 x2 x33 h fun _ h =>
 vcell true 6 x2 h fun c0 => tcomp (kI 0) fun c1 => vfin true q [c0, c1] h))
theorem e111_0 (O : Oracle) (R : Jump) (q : Nat) (x0 : TVal) (h : Heap) : b111_0 O R q x0 h = stepF c111 O R q 0 [x0] h := by kernel_rfl
noncomputable def d111 : BlkF := fun O R q => [.s fun y0 => .z fun h => b111_0 O R q y0 h]
theorem o111 (O : Oracle) (R : Jump) (q : Nat) : HoldsAll c111 O R q 0 (d111 O R q) := ⟨fun y0 h => e111_0 O R q y0 h, trivial⟩
/- sprue/calls.written -/
def c112 : MFunc := { np := 1, res := [.cell 2 true 6, .t 3], frz := true, body := (.seq (.reg [(oA 1 (.box (.t 0) false)), (oA 2 (.alloc [(.p (.int .i64 0)), (.p (.bool false)), (.p (.int .i64 0)), (.p (.str [])), (.p .nilslice), (.p .nilslice)] false)), (oA 3 (.mv (.k (.v (.c (.p (.int .i64 0)))))))] []) (.seq (.seq (.reg [(oA 4 (.faddr 0 (.t 1))), (oA 5 (.load false 1 (.t 4)))] []) (.block 0 (.seq (.reg [(oA 7 (.bin .eql 0 (.t 5) (.k (.v (.c (.p (.int .i64 2))))))), (oA 6 (.mv (.t 7)))] []) (.cond (.t 6) (.seq (.reg [(oA 8 (.faddr 2 (.t 1))), (oA 9 (.load false 1 (.t 8))), (oA 10 (.call (.k (.v (.c (.func 92 [])))) [(.t 9), (.k (.v (.c (.p (.int .i64 10)))))])), (oA 11 (.call (.k (.v (.c (.func 127 [])))) [(.t 10)])), (oN (.store 6 (.t 2) (.t 11))), (oA 3 (.mv (.k (.v (.c (.p (.int .i64 0)))))))] []) .ret) (.seq (.reg [(oA 13 (.bin .eql 0 (.t 5) (.k (.v (.c (.p (.int .i64 1))))))), (oA 12 (.mv (.t 13)))] []) (.cond (.t 12) (.seq (.reg [(oA 14 (.faddr 1 (.t 1))), (oA 15 (.load false 1 (.t 14))), (oA 16 (.call (.k (.v (.c (.func 91 [])))) [(.t 15)])), (oA 17 (.call (.k (.v (.c (.func 127 [])))) [(.t 16)])), (oN (.store 6 (.t 2) (.t 17))), (oA 3 (.mv (.k (.v (.c (.p (.int .i64 0)))))))] []) .ret) .skip)))))) (.seq (.reg [(oA 18 (.build [(.p (.int .i64 0)), (.p (.bool false)), (.p (.int .i64 0)), (.p (.str [])), (.p .nilslice), (.p .nilslice)] [])), (oN (.store 6 (.t 2) (.t 18))), (oA 3 (.mv (.k (.v (.c (.p (.int .i64 17)))))))] []) .ret))) }
theorem t112 : compF Tryz.prog (globs2 tabs opq) (fun _ => false) true Tryz.f112 = some c112.erase := by kernel_rfl
noncomputable def b112_0 (O : Oracle) (R : Jump) (q : Nat) (x0 : TVal) (h : Heap) : Res1 :=
 vop O (.box (.k x0) false) h 1 fun x1 h =>
 vop O (.alloc [(.p (.int .i64 0)), (.p (.bool false)), (.p (.int .i64 0)), (.p (.str [])), (.p .nilslice), (.p .nilslice)] false) h 2 fun x2 h =>
 vfaddr 0 x1 h fun x4 h =>
 vload false 1 x4 h fun x5 h =>
 vbin .eql 0 x5 (kI 2) h fun x7 h =>
 vif x7 (
 vfaddr 2 x1 h fun x8 h =>
 vload false 1 x8 h fun x9 h =>
 vcall O (.v (.c (.func 92 []))) [x9, (kI 10)] h 10 fun x10 h =>
 vcall O (.v (.c (.func 127 []))) [x10] h 11 fun x11 h =>
 vstore 6 x2 x11 h fun _ h =>
 vcell true 6 x2 h fun c0 => tcomp (kI 0) fun c1 => vfin true q [c0, c1] h)
 (vbin .eql 0 x5 (kI 1) h fun x13 h =>
 vif x13 (
 vfaddr 1 x1 h fun x14 h =>
 vload false 1 x14 h fun x15 h =>
 vcall O (.v (.c (.func 91 []))) [x15] h 16 fun x16 h =>
 vcall O (.v (.c (.func 127 []))) [x16] h 17 fun x17 h =>
 vstore 6 x2 x17 h fun _ h =>
 vcell true 6 x2 h fun c0 => tcomp (kI 0) fun c1 => vfin true q [c0, c1] h)
 (vop O (.build [(.p (.int .i64 0)), (.p (.bool false)), (.p (.int .i64 0)), (.p (.str [])), (.p .nilslice), (.p .nilslice)] []) h 18 fun x18 h =>
 vstore 6 x2 x18 h fun _ h =>
 vcell true 6 x2 h fun c0 => tcomp (kI 17) fun c1 => vfin true q [c0, c1] h))
theorem e112_0 (O : Oracle) (R : Jump) (q : Nat) (x0 : TVal) (h : Heap) : b112_0 O R q x0 h = stepF c112 O R q 0 [x0] h := by kernel_rfl
noncomputable def d112 : BlkF := fun O R q => [.s fun y0 => .z fun h => b112_0 O R q y0 h]
theorem o112 (O : Oracle) (R : Jump) (q : Nat) : HoldsAll c112 O R q 0 (d112 O R q) := ⟨fun y0 h => e112_0 O R q y0 h, trivial⟩
/- sprue/calls.at -/
def c113 : MFunc := { np := 1, res := [.cell 2 true 6, .t 3], frz := true, body := (.seq (.reg [(oA 2 (.alloc [(.p (.int .i64 0)), (.p (.bool false)), (.p (.int .i64 0)), (.p (.str [])), (.p .nilslice), (.p .nilslice)] false)), (oA 3 (.mv (.k (.v (.c (.p (.int .i64 0)))))))] []) (.seq (.block 0 (.seq (.reg [(oA 5 (.mv (.t 0))), (oA 6 (.bslice 1 2 [(.p (.int .i64 0))] [(0, (.k (.v (.c (.p (.int .i64 4)))))), (1, (.k (.v (.c (.p (.int .i64 2))))))] false)), (oA 7 (.call (.k (.v (.c (.func 114 [])))) [(.t 5), (.t 6)])), (oA 8 (.un .not (.t 7))), (oA 4 (.mv (.t 8)))] []) (.cond (.t 4) (.seq (.reg [(oA 9 (.build [(.p (.int .i64 0)), (.p (.bool false)), (.p (.int .i64 0)), (.p (.str [])), (.p .nilslice), (.p .nilslice)] [])), (oN (.store 6 (.t 2) (.t 9))), (oA 3 (.mv (.k (.v (.c (.p (.int .i64 17)))))))] []) .ret) (.seq (.reg [(oA 11 (.mv (.t 0))), (oA 12 (.iaddr 6 (.t 11) (.k (.v (.c (.p (.int .i64 1))))))), (oA 13 (.faddr 2 (.t 12))), (oA 14 (.load false 1 (.t 13))), (oA 15 (.bin .lss 0 (.t 14) (.k (.v (.c (.p (.int .i64 0))))))), (oA 16 (.mv (.t 15))), ⟨(some 17), (.mv (.t 0)), (some (16, false))⟩, ⟨(some 18), (.iaddr 6 (.t 17) (.k (.v (.c (.p (.int .i64 1)))))), (some (16, false))⟩, ⟨(some 19), (.faddr 2 (.t 18)), (some (16, false))⟩, ⟨(some 20), (.load false 1 (.t 19)), (some (16, false))⟩, ⟨(some 21), (.mv (.t 0)), (some (16, false))⟩, ⟨(some 22), (.iaddr 6 (.t 21) (.k (.v (.c (.p (.int .i64 0)))))), (some (16, false))⟩, ⟨(some 23), (.faddr 5 (.t 22)), (some (16, false))⟩, ⟨(some 24), (.load false 1 (.t 23)), (some (16, false))⟩, ⟨(some 25), (.len 2 (.t 24)), (some (16, false))⟩, ⟨(some 26), (.bin .geq 0 (.t 20) (.t 25)), (some (16, false))⟩, (oA 27 (.pick (.t 16) (.k (.v (.c (.p (.bool true))))) (.t 26))), (oA 10 (.mv (.t 27)))] []) (.cond (.t 10) (.seq (.reg [(oA 28 (.build [(.p (.int .i64 0)), (.p (.bool false)), (.p (.int .i64 0)), (.p (.str [])), (.p .nilslice), (.p .nilslice)] [])), (oN (.store 6 (.t 2) (.t 28))), (oA 3 (.mv (.k (.v (.c (.p (.int .i64 32)))))))] []) .ret) .skip))))) (.seq (.reg [(oA 29 (.mv (.t 0))), (oA 30 (.iaddr 6 (.t 29) (.k (.v (.c (.p (.int .i64 0))))))), (oA 31 (.faddr 5 (.t 30))), (oA 32 (.load false 1 (.t 31))), (oA 33 (.mv (.t 0))), (oA 34 (.iaddr 6 (.t 33) (.k (.v (.c (.p (.int .i64 1))))))), (oA 35 (.faddr 2 (.t 34))), (oA 36 (.load false 1 (.t 35))), (oA 37 (.iaddr 6 (.t 32) (.t 36))), (oA 38 (.load true 6 (.t 37))), (oA 39 (.call (.k (.v (.c (.func 29 [])))) [(.t 38)])), (oN (.store 6 (.t 2) (.t 39))), (oA 3 (.mv (.k (.v (.c (.p (.int .i64 0)))))))] []) .ret))) }
theorem t113 : compF Tryz.prog (globs2 tabs opq) (fun _ => false) true Tryz.f113 = some c113.erase := by kernel_rfl
noncomputable def b113_0 (O : Oracle) (R : Jump) (q : Nat) (x0 : TVal) (h : Heap) : Res1 :=
 vop O (.alloc [(.p (.int .i64 0)), (.p (.bool false)), (.p (.int .i64 0)), (.p (.str [])), (.p .nilslice), (.p .nilslice)] false) h 2 fun x2 h =>
 vop O (.bslice 1 2 [(.p (.int .i64 0))] [(0, (.k (kI 4))), (1, (.k (kI 2)))] false) h 6 fun x6 h =>
 vcall O (.v (.c (.func 114 []))) [x0, x6] h 7 fun x7 h =>
 vop O (.un .not (.k x7)) h 8 fun x8 h =>
 vif x8 (
 vop O (.build [(.p (.int .i64 0)), (.p (.bool false)), (.p (.int .i64 0)), (.p (.str [])), (.p .nilslice), (.p .nilslice)] []) h 9 fun x9 h =>
 vstore 6 x2 x9 h fun _ h =>
 vcell true 6 x2 h fun c0 => tcomp (kI 17) fun c1 => vfin true q [c0, c1] h)
 (viaddr 6 x0 (kI 1) h fun x12 h =>
 vfaddr 2 x12 h fun x13 h =>
 vload false 1 x13 h fun x14 h =>
 vbin .lss 0 x14 (kI 0) h fun x15 h =>
 vguard x15 false (fun kk => kk x0 h) h fun x17 h =>
 vguard x15 false (fun kk => viaddr 6 x17 (kI 1) h kk) h fun x18 h =>
 vguard x15 false (fun kk => vfaddr 2 x18 h kk) h fun x19 h =>
 vguard x15 false (fun kk => vload false 1 x19 h kk) h fun x20 h =>
 vguard x15 false (fun kk => kk x0 h) h fun x21 h =>
 vguard x15 false (fun kk => viaddr 6 x21 (kI 0) h kk) h fun x22 h =>
 vguard x15 false (fun kk => vfaddr 5 x22 h kk) h fun x23 h =>
 vguard x15 false (fun kk => vload false 1 x23 h kk) h fun x24 h =>
 vguard x15 false (fun kk => vlen O 2 x24 h 25 kk) h fun x25 h =>
 vguard x15 false (fun kk => vbin .geq 0 x20 x25 h kk) h fun x26 h =>
 vop O (.pick (.k x15) (.k (kB true)) (.k x26)) h 27 fun x27 h =>
 vif x27 (
 vop O (.build [(.p (.int .i64 0)), (.p (.bool false)), (.p (.int .i64 0)), (.p (.str [])), (.p .nilslice), (.p .nilslice)] []) h 28 fun x28 h =>
 vstore 6 x2 x28 h fun _ h =>
 vcell true 6 x2 h fun c0 => tcomp (kI 32) fun c1 => vfin true q [c0, c1] h)
 (viaddr 6 x0 (kI 0) h fun x30 h =>
 vfaddr 5 x30 h fun x31 h =>
 vload false 1 x31 h fun x32 h =>
 viaddr 6 x0 (kI 1) h fun x34 h =>
 vfaddr 2 x34 h fun x35 h =>
 vload false 1 x35 h fun x36 h =>
 viaddr 6 x32 x36 h fun x37 h =>
 vload true 6 x37 h fun x38 h =>
 vcall O (.v (.c (.func 29 []))) [x38] h 39 fun x39 h =>
 vstore 6 x2 x39 h fun _ h =>
 vcell true 6 x2 h fun c0 => tcomp (kI 0) fun c1 => vfin true q [c0, c1] h))
theorem e113_0 (O : Oracle) (R : Jump) (q : Nat) (x0 : TVal) (h : Heap) : b113_0 O R q x0 h = stepF c113 O R q 0 [x0] h := by kernel_rfl
noncomputable def d113 : BlkF := fun O R q => [.s fun y0 => .z fun h => b113_0 O R q y0 h]
theorem o113 (O : Oracle) (R : Jump) (q : Nat) : HoldsAll c113 O R q 0 (d113 O R q) := ⟨fun y0 h => e113_0 O R q y0 h, trivial⟩
/- sprue/calls.are -/
def c114 : MFunc := { np := 2, res := [.t 4], frz := true, body := (.seq (.reg [(oA 4 (.mv (.k (.v (.c (.p (.bool false)))))))] []) (.seq (.seq (.reg [(oA 7 (.mv (.t 1))), (oA 8 (.len 2 (.t 7))), (oA 9 (.mv (.k (.v (.c (.p (.int .i64 0)))))))] []) (.block 0 (.loop 1 [0, 7, 8, 9] (.seq (.reg [(oA 10 (.bin .lss 0 (.t 9) (.t 8)))] []) (.seq (.cond (.t 10) .skip (.exit 0)) (.seq (.block 1 (.seq (.reg [(oA 11 (.mv (.t 9))), (oA 12 (.iaddr 1 (.t 7) (.t 9))), (oA 13 (.load false 1 (.t 12))), (oA 5 (.mv (.t 11))), (oA 6 (.mv (.t 13)))] []) (.seq (.reg [(oA 14 (.mv (.t 0))), (oA 15 (.mv (.t 5))), (oA 16 (.iaddr 6 (.t 14) (.t 15))), (oA 17 (.faddr 0 (.t 16))), (oA 18 (.load false 1 (.t 17))), (oA 19 (.mv (.t 6))), (oA 20 (.bin .neq 0 (.t 18) (.t 19)))] []) (.cond (.t 20) (.seq (.reg [(oA 4 (.mv (.k (.v (.c (.p (.bool false)))))))] []) .ret) .skip)))) (.reg [(oA 21 (.bin .add 0 (.t 9) (.k (.v (.c (.p (.int .i64 1))))))), (oA 9 (.mv (.t 21)))] []))))))) (.seq (.reg [(oA 4 (.mv (.k (.v (.c (.p (.bool true)))))))] []) .ret))) }
theorem t114 : compF Tryz.prog (globs2 tabs opq) (fun _ => false) true Tryz.f114 = some c114.erase := by kernel_rfl
noncomputable def b114_0 (O : Oracle) (R : Jump) (q : Nat) (x0 x1 : TVal) (h : Heap) : Res1 :=
 vlen O 2 x1 h 8 fun x8 h =>
 R 1 [x0, x1, x8, (kI 0)] h
theorem e114_0 (O : Oracle) (R : Jump) (q : Nat) (x0 x1 : TVal) (h : Heap) : b114_0 O R q x0 x1 h = stepF c114 O R q 0 [x0, x1] h := by kernel_rfl
noncomputable def b114_1 (O : Oracle) (R : Jump) (q : Nat) (x0 x7 x8 x9 : TVal) (h : Heap) : Res1 :=
 vbin .lss 0 x9 x8 h fun x10 h =>
 vif x10 (
 viaddr 1 x7 x9 h fun x12 h =>
 vload false 1 x12 h fun x13 h =>
 viaddr 6 x0 x9 h fun x16 h =>
 vfaddr 0 x16 h fun x17 h =>
 vload false 1 x17 h fun x18 h =>
 vbin .neq 0 x18 x13 h fun x20 h =>
 vif x20 (
 tcomp (kB false) fun c0 => vfin true q [c0] h)
 (vbin .add 0 x9 (kI 1) h fun x21 h =>
 R 1 [x0, x7, x8, x21] h))
 (tcomp (kB true) fun c0 => vfin true q [c0] h)
theorem e114_1 (O : Oracle) (R : Jump) (q : Nat) (x0 x7 x8 x9 : TVal) (h : Heap) : b114_1 O R q x0 x7 x8 x9 h = stepF c114 O R q 1 [x0, x7, x8, x9] h := by kernel_rfl
noncomputable def d114 : BlkF := fun O R q => [.s fun y0 => .s fun y1 => .z fun h => b114_0 O R q y0 y1 h, .s fun y0 => .s fun y1 => .s fun y2 => .s fun y3 => .z fun h => b114_1 O R q y0 y1 y2 y3 h]
theorem o114 (O : Oracle) (R : Jump) (q : Nat) : HoldsAll c114 O R q 0 (d114 O R q) := ⟨fun y0 y1 h => e114_0 O R q y0 y1 h, fun y0 y1 y2 y3 h => e114_1 O R q y0 y1 y2 y3 h, trivial⟩
/- sprue/calls.truth -/
def c115 : MFunc := { np := 1, res := [.cell 2 true 6], frz := true, body := (.seq (.reg [(oA 2 (.alloc [(.p (.int .i64 0)), (.p (.bool false)), (.p (.int .i64 0)), (.p (.str [])), (.p .nilslice), (.p .nilslice)] false))] []) (.seq (.reg [(oA 3 (.mv (.t 0))), (oA 4 (.build [(.p (.int .i64 0)), (.p (.bool false)), (.p (.int .i64 0)), (.p (.str [])), (.p .nilslice), (.p .nilslice)] [(0, 1, (.k (.v (.c (.p (.int .i64 1)))))), (1, 1, (.t 3))])), (oN (.store 6 (.t 2) (.t 4)))] []) .ret)) }
theorem t115 : compF Tryz.prog (globs2 tabs opq) (fun _ => false) true Tryz.f115 = some c115.erase := by kernel_rfl
noncomputable def b115_0 (O : Oracle) (R : Jump) (q : Nat) (x0 : TVal) (h : Heap) : Res1 :=
 vop O (.alloc [(.p (.int .i64 0)), (.p (.bool false)), (.p (.int .i64 0)), (.p (.str [])), (.p .nilslice), (.p .nilslice)] false) h 2 fun x2 h =>
 vop O (.build [(.p (.int .i64 0)), (.p (.bool false)), (.p (.int .i64 0)), (.p (.str [])), (.p .nilslice), (.p .nilslice)] [(0, 1, (.k (kI 1))), (1, 1, (.k x0))]) h 4 fun x4 h =>
 vstore 6 x2 x4 h fun _ h =>
 vcell true 6 x2 h fun c0 => vfin true q [c0] h
theorem e115_0 (O : Oracle) (R : Jump) (q : Nat) (x0 : TVal) (h : Heap) : b115_0 O R q x0 h = stepF c115 O R q 0 [x0] h := by kernel_rfl
noncomputable def d115 : BlkF := fun O R q => [.s fun y0 => .z fun h => b115_0 O R q y0 h]
theorem o115 (O : Oracle) (R : Jump) (q : Nat) : HoldsAll c115 O R q 0 (d115 O R q) := ⟨fun y0 h => e115_0 O R q y0 h, trivial⟩
/- sprue/calls.numbers -/
def c116 : MFunc := { np := 2, res := [.cell 4 true 6, .t 5], frz := true, body := (.seq (.reg [(oA 4 (.alloc [(.p (.int .i64 0)), (.p (.bool false)), (.p (.int .i64 0)), (.p (.str [])), (.p .nilslice), (.p .nilslice)] false)), (oA 5 (.mv (.k (.v (.c (.p (.int .i64 0)))))))] []) (.seq (.seq (.reg [(oA 6 (.mv (.t 1))), (oA 7 (.call (.k (.v (.c (.func 125 [])))) [(.t 6), (.k (.v (.c (.func 128 []))))]))] []) (.cond (.t 7) (.seq (.reg [(oA 8 (.build [(.p (.int .i64 0)), (.p (.bool false)), (.p (.int .i64 0)), (.p (.str [])), (.p .nilslice), (.p .nilslice)] [])), (oN (.store 6 (.t 4) (.t 8))), (oA 5 (.mv (.k (.v (.c (.p (.int .i64 17)))))))] []) .ret) .skip)) (.seq (.block 0 (.seq (.reg [(oA 10 (.mv (.t 1))), (oA 11 (.len 2 (.t 10))), (oA 12 (.bin .eql 0 (.t 11) (.k (.v (.c (.p (.int .i64 1))))))), (oA 9 (.mv (.t 12)))] []) (.cond (.t 9) (.seq (.reg [(oA 13 (.mv (.t 0))), (oA 14 (.mv (.t 1))), (oA 15 (.iaddr 6 (.t 14) (.k (.v (.c (.p (.int .i64 0))))))), (oA 16 (.faddr 2 (.t 15))), (oA 17 (.load false 1 (.t 16))), (oA 18 (.call (.k (.v (.c (.func 129 [])))) [(.t 13), (.t 17)])), (oA 19 (.call (.k (.v (.c (.func 124 [])))) [(.t 18)])), (oN (.store 6 (.t 4) (.t 19))), (oA 5 (.mv (.k (.v (.c (.p (.int .i64 0)))))))] []) .ret) (.seq (.reg [(oA 21 (.mv (.t 0))), (oA 22 (.bin .eql 0 (.t 21) (.k (.v (.c (.p (.str [108, 116]))))))), (oA 20 (.mv (.t 22)))] []) (.cond (.t 20) (.seq (.reg [(oA 23 (.mv (.t 1))), (oA 24 (.iaddr 6 (.t 23) (.k (.v (.c (.p (.int .i64 0))))))), (oA 25 (.faddr 2 (.t 24))), (oA 26 (.load false 1 (.t 25))), (oA 27 (.mv (.t 1))), (oA 28 (.iaddr 6 (.t 27) (.k (.v (.c (.p (.int .i64 1))))))), (oA 29 (.faddr 2 (.t 28))), (oA 30 (.load false 1 (.t 29))), (oA 31 (.bin .lss 0 (.t 26) (.t 30))), (oA 32 (.call (.k (.v (.c (.func 115 [])))) [(.t 31)])), (oN (.store 6 (.t 4) (.t 32))), (oA 5 (.mv (.k (.v (.c (.p (.int .i64 0)))))))] []) .ret) .skip))))) (.seq (.reg [(oA 33 (.mv (.t 0))), (oA 34 (.mv (.t 1))), (oA 35 (.iaddr 6 (.t 34) (.k (.v (.c (.p (.int .i64 0))))))), (oA 36 (.faddr 2 (.t 35))), (oA 37 (.load false 1 (.t 36))), (oA 38 (.mv (.t 1))), (oA 39 (.iaddr 6 (.t 38) (.k (.v (.c (.p (.int .i64 1))))))), (oA 40 (.faddr 2 (.t 39))), (oA 41 (.load false 1 (.t 40))), (oA 42 (.call (.k (.v (.c (.func 130 [])))) [(.t 33), (.t 37), (.t 41)])), (oA 43 (.call (.k (.v (.c (.func 124 [])))) [(.t 42)])), (oN (.store 6 (.t 4) (.t 43))), (oA 5 (.mv (.k (.v (.c (.p (.int .i64 0)))))))] []) .ret)))) }
theorem t116 : compF Tryz.prog (globs2 tabs opq) (fun _ => false) true Tryz.f116 = some c116.erase := by kernel_rfl
noncomputable def b116_0 (O : Oracle) (R : Jump) (q : Nat) (x0 x1 : TVal) (h : Heap) : Res1 :=
 vop O (.alloc [(.p (.int .i64 0)), (.p (.bool false)), (.p (.int .i64 0)), (.p (.str [])), (.p .nilslice), (.p .nilslice)] false) h 4 fun x4 h =>
 vcall O (.v (.c (.func 125 []))) [x1, (.v (.c (.func 128 [])))] h 7 fun x7 h =>
 vif x7 (
 vop O (.build [(.p (.int .i64 0)), (.p (.bool false)), (.p (.int .i64 0)), (.p (.str [])), (.p .nilslice), (.p .nilslice)] []) h 8 fun x8 h =>
 vstore 6 x4 x8 h fun _ h =>
 vcell true 6 x4 h fun c0 => tcomp (kI 17) fun c1 => vfin true q [c0, c1] h)
 (vlen O 2 x1 h 11 fun x11 h =>
 vbin .eql 0 x11 (kI 1) h fun x12 h =>
 vif x12 (
 viaddr 6 x1 (kI 0) h fun x15 h =>
 vfaddr 2 x15 h fun x16 h =>
 vload false 1 x16 h fun x17 h =>
 vcall O (.v (.c (.func 129 []))) [x0, x17] h 18 fun x18 h =>
 vcall O (.v (.c (.func 124 []))) [x18] h 19 fun x19 h =>
 vstore 6 x4 x19 h fun _ h =>
 vcell true 6 x4 h fun c0 => tcomp (kI 0) fun c1 => vfin true q [c0, c1] h)
 (vbin .eql 0 x0 (kS [108, 116]) h fun x22 h =>
 vif x22 (
 viaddr 6 x1 (kI 0) h fun x24 h =>
 vfaddr 2 x24 h fun x25 h =>
 vload false 1 x25 h fun x26 h =>
 viaddr 6 x1 (kI 1) h fun x28 h =>
 vfaddr 2 x28 h fun x29 h =>
 vload false 1 x29 h fun x30 h =>
 vbin .lss 0 x26 x30 h fun x31 h =>
 vcall O (.v (.c (.func 115 []))) [x31] h 32 fun x32 h =>
 vstore 6 x4 x32 h fun _ h =>
 vcell true 6 x4 h fun c0 => tcomp (kI 0) fun c1 => vfin true q [c0, c1] h)
 (viaddr 6 x1 (kI 0) h fun x35 h =>
 vfaddr 2 x35 h fun x36 h =>
 vload false 1 x36 h fun x37 h =>
 viaddr 6 x1 (kI 1) h fun x39 h =>
 vfaddr 2 x39 h fun x40 h =>
 vload false 1 x40 h fun x41 h =>
 vcall O (.v (.c (.func 130 []))) [x0, x37, x41] h 42 fun x42 h =>
 vcall O (.v (.c (.func 124 []))) [x42] h 43 fun x43 h =>
 vstore 6 x4 x43 h fun _ h =>
 vcell true 6 x4 h fun c0 => tcomp (kI 0) fun c1 => vfin true q [c0, c1] h)))
theorem e116_0 (O : Oracle) (R : Jump) (q : Nat) (x0 x1 : TVal) (h : Heap) : b116_0 O R q x0 x1 h = stepF c116 O R q 0 [x0, x1] h := by kernel_rfl
noncomputable def d116 : BlkF := fun O R q => [.s fun y0 => .s fun y1 => .z fun h => b116_0 O R q y0 y1 h]
theorem o116 (O : Oracle) (R : Jump) (q : Nat) : HoldsAll c116 O R q 0 (d116 O R q) := ⟨fun y0 y1 h => e116_0 O R q y0 y1 h, trivial⟩
/- internal/strconv.small -/
def c117 : MFunc := { np := 1, res := [.t 2], frz := true, body := (.seq (.reg [(oA 2 (.mv (.k (.v (.c (.p (.str [])))))))] []) (.seq (.seq (.reg [(oA 3 (.mv (.t 0))), (oA 4 (.bin .lss 0 (.t 3) (.k (.v (.c (.p (.int .i64 10)))))))] []) (.cond (.t 4) (.seq (.reg [(oA 5 (.mv (.t 0))), (oA 6 (.mv (.t 0))), (oA 7 (.bin .add 0 (.t 6) (.k (.v (.c (.p (.int .i64 1))))))), (oA 8 (.slice 0 true (.k (.v (.c (.p (.str [48, 49, 50, 51, 52, 53, 54, 55, 56, 57, 97, 98, 99, 100, 101, 102, 103, 104, 105, 106, 107, 108, 109, 110, 111, 112, 113, 114, 115, 116, 117, 118, 119, 120, 121, 122]))))) (some (.t 5)) (some (.t 7)) none)), (oA 2 (.mv (.t 8)))] []) .ret) .skip)) (.seq (.reg [(oA 9 (.mv (.t 0))), (oA 10 (.bin .mul 0 (.t 9) (.k (.v (.c (.p (.int .i64 2))))))), (oA 11 (.mv (.t 0))), (oA 12 (.bin .mul 0 (.t 11) (.k (.v (.c (.p (.int .i64 2))))))), (oA 13 (.bin .add 0 (.t 12) (.k (.v (.c (.p (.int .i64 2))))))), (oA 14 (.slice 0 true (.k (.v (.c (.p (.str [48, 48, 48, 49, 48, 50, 48, 51, 48, 52, 48, 53, 48, 54, 48, 55, 48, 56, 48, 57, 49, 48, 49, 49, 49, 50, 49, 51, 49, 52, 49, 53, 49, 54, 49, 55, 49, 56, 49, 57, 50, 48, 50, 49, 50, 50, 50, 51, 50, 52, 50, 53, 50, 54, 50, 55, 50, 56, 50, 57, 51, 48, 51, 49, 51, 50, 51, 51, 51, 52, 51, 53, 51, 54, 51, 55, 51, 56, 51, 57, 52, 48, 52, 49, 52, 50, 52, 51, 52, 52, 52, 53, 52, 54, 52, 55, 52, 56, 52, 57, 53, 48, 53, 49, 53, 50, 53, 51, 53, 52, 53, 53, 53, 54, 53, 55, 53, 56, 53, 57, 54, 48, 54, 49, 54, 50, 54, 51, 54, 52, 54, 53, 54, 54, 54, 55, 54, 56, 54, 57, 55, 48, 55, 49, 55, 50, 55, 51, 55, 52, 55, 53, 55, 54, 55, 55, 55, 56, 55, 57, 56, 48, 56, 49, 56, 50, 56, 51, 56, 52, 56, 53, 56, 54, 56, 55, 56, 56, 56, 57, 57, 48, 57, 49, 57, 50, 57, 51, 57, 52, 57, 53, 57, 54, 57, 55, 57, 56, 57, 57]))))) (some (.t 10)) (some (.t 13)) none)), (oA 2 (.mv (.t 14)))] []) .ret))) }
theorem t117 : compF Tryz.prog (globs2 tabs opq) (fun _ => false) true Tryz.f117 = some c117.erase := by kernel_rfl
noncomputable def b117_0 (O : Oracle) (R : Jump) (q : Nat) (x0 : TVal) (h : Heap) : Res1 :=
 vbin .lss 0 x0 (kI 10) h fun x4 h =>
 vif x4 (
 vbin .add 0 x0 (kI 1) h fun x7 h =>
 vop O (.slice 0 true (.k (kS [48, 49, 50, 51, 52, 53, 54, 55, 56, 57, 97, 98, 99, 100, 101, 102, 103, 104, 105, 106, 107, 108, 109, 110, 111, 112, 113, 114, 115, 116, 117, 118, 119, 120, 121, 122])) (some (.k x0)) (some (.k x7)) none) h 8 fun x8 h =>
 tcomp x8 fun c0 => vfin true q [c0] h)
 (vbin .mul 0 x0 (kI 2) h fun x10 h =>
 vbin .mul 0 x0 (kI 2) h fun x12 h =>
 vbin .add 0 x12 (kI 2) h fun x13 h =>
 vop O (.slice 0 true (.k (kS [48, 48, 48, 49, 48, 50, 48, 51, 48, 52, 48, 53, 48, 54, 48, 55, 48, 56, 48, 57, 49, 48, 49, 49, 49, 50, 49, 51, 49, 52, 49, 53, 49, 54, 49, 55, 49, 56, 49, 57, 50, 48, 50, 49, 50, 50, 50, 51, 50, 52, 50, 53, 50, 54, 50, 55, 50, 56, 50, 57, 51, 48, 51, 49, 51, 50, 51, 51, 51, 52, 51, 53, 51, 54, 51, 55, 51, 56, 51, 57, 52, 48, 52, 49, 52, 50, 52, 51, 52, 52, 52, 53, 52, 54, 52, 55, 52, 56, 52, 57, 53, 48, 53, 49, 53, 50, 53, 51, 53, 52, 53, 53, 53, 54, 53, 55, 53, 56, 53, 57, 54, 48, 54, 49, 54, 50, 54, 51, 54, 52, 54, 53, 54, 54, 54, 55, 54, 56, 54, 57, 55, 48, 55, 49, 55, 50, 55, 51, 55, 52, 55, 53, 55, 54, 55, 55, 55, 56, 55, 57, 56, 48, 56, 49, 56, 50, 56, 51, 56, 52, 56, 53, 56, 54, 56, 55, 56, 56, 56, 57, 57, 48, 57, 49, 57, 50, 57, 51, 57, 52, 57, 53, 57, 54, 57, 55, 57, 56, 57, 57])) (some (.k x10)) (some (.k x13)) none) h 14 fun x14 h =>
 tcomp x14 fun c0 => vfin true q [c0] h)
theorem e117_0 (O : Oracle) (R : Jump) (q : Nat) (x0 : TVal) (h : Heap) : b117_0 O R q x0 h = stepF c117 O R q 0 [x0] h := by kernel_rfl
noncomputable def d117 : BlkF := fun O R q => [.s fun y0 => .z fun h => b117_0 O R q y0 h]
theorem o117 (O : Oracle) (R : Jump) (q : Nat) : HoldsAll c117 O R q 0 (d117 O R q) := ⟨fun y0 h => e117_0 O R q y0 h, trivial⟩
/- internal/strconv.numDigits -/
def c118 : MFunc := { np := 1, res := [.t 2], frz := true, body := (.seq (.reg [(oA 2 (.mv (.k (.v (.c (.p (.int .i64 0)))))))] []) (.seq (.reg [(oA 4 (.mv (.t 0))), (oA 5 (.call (.k (.v (.c (.func 132 [])))) [(.t 4)])), (oA 6 (.call (.k (.v (.c (.func 131 [])))) [(.t 5)])), (oA 3 (.mv (.t 6)))] []) (.seq (.reg [(oA 7 (.mv (.t 3))), (oA 8 (.mv (.t 0))), (oA 9 (.mv (.t 3))), (oA 10 .bad), (oA 11 (.load false 1 (.t 10))), (oA 12 (.bin .geq 0 (.t 8) (.t 11))), (oA 13 (.call (.k (.v (.c (.func 133 [])))) [(.t 12)])), (oA 14 (.bin .add 0 (.t 7) (.t 13))), (oA 2 (.mv (.t 14)))] []) .ret))) }
theorem t118 : compF Tryz.prog (globs2 tabs opq) (fun _ => false) true Tryz.f118 = some c118.erase := by kernel_rfl
noncomputable def b118_0 (O : Oracle) (R : Jump) (q : Nat) (x0 : TVal) (h : Heap) : Res1 :=
 vcall O (.v (.c (.func 132 []))) [x0] h 5 fun x5 h =>
 vcall O (.v (.c (.func 131 []))) [x5] h 6 fun x6 h =>
 none
theorem e118_0 (O : Oracle) (R : Jump) (q : Nat) (x0 : TVal) (h : Heap) : b118_0 O R q x0 h = stepF c118 O R q 0 [x0] h := by kernel_rfl
noncomputable def d118 : BlkF := fun O R q => [.s fun y0 => .z fun h => b118_0 O R q y0 h]
theorem o118 (O : Oracle) (R : Jump) (q : Nat) : HoldsAll c118 O R q 0 (d118 O R q) := ⟨fun y0 h => e118_0 O R q y0 h, trivial⟩
/- internal/strconv.formatBase10 -/
def c119 : MFunc := { np := 2, res := [], frz := true, body := (.seq (.reg [(oA 17 (.mv (.t 0))), (oA 18 (.len 2 (.t 17))), (oA 4 (.mv (.t 18)))] []) (.seq (.block 0 (.loop 1 [0, 1, 4] (.seq (.seq (.reg [(oA 19 (.mv (.t 4))), (oA 20 (.bin .geq 0 (.t 19) (.k (.v (.c (.p (.int .i64 8)))))))] []) (.cond (.t 20) .skip (.exit 0))) (.block 1 (.seq (.reg [(oA 21 (.mv (.t 1))), (oA 22 (.bin .rem 0 (.t 21) (.k (.v (.c (.p (.int .u64 100000000))))))), (oA 23 (.toInt .u32 (.t 22))), (oA 5 (.mv (.t 23)))] []) (.seq (.reg [(oA 24 (.mv (.t 1))), (oA 25 (.bin .quo 0 (.t 24) (.k (.v (.c (.p (.int .u64 100000000))))))), (oA 1 (.mv (.t 25)))] []) (.seq (.reg [(oA 26 (.mv (.t 5))), (oA 27 (.bin .quo 0 (.t 26) (.k (.v (.c (.p (.int .u32 10000))))))), (oA 28 (.mv (.t 5))), (oA 29 (.bin .rem 0 (.t 28) (.k (.v (.c (.p (.int .u32 10000))))))), (oA 6 (.mv (.t 27))), (oA 7 (.mv (.t 29)))] []) (.seq (.reg [(oA 30 (.mv (.t 7))), (oA 31 (.bin .quo 0 (.t 30) (.k (.v (.c (.p (.int .u32 100))))))), (oA 32 (.bin .mul 0 (.t 31) (.k (.v (.c (.p (.int .u32 2))))))), (oA 33 (.mv (.t 7))), (oA 34 (.bin .rem 0 (.t 33) (.k (.v (.c (.p (.int .u32 100))))))), (oA 35 (.bin .mul 0 (.t 34) (.k (.v (.c (.p (.int .u32 2))))))), (oA 8 (.mv (.t 32))), (oA 9 (.mv (.t 35)))] []) (.seq (.reg [(oA 36 (.mv (.t 6))), (oA 37 (.bin .quo 0 (.t 36) (.k (.v (.c (.p (.int .u32 100))))))), (oA 38 (.bin .mul 0 (.t 37) (.k (.v (.c (.p (.int .u32 2))))))), (oA 39 (.mv (.t 6))), (oA 40 (.bin .rem 0 (.t 39) (.k (.v (.c (.p (.int .u32 100))))))), (oA 41 (.bin .mul 0 (.t 40) (.k (.v (.c (.p (.int .u32 2))))))), (oA 10 (.mv (.t 38))), (oA 11 (.mv (.t 41)))] []) (.seq (.reg [(oA 42 (.mv (.t 0))), (oA 43 (.mv (.t 4))), (oA 44 (.bin .sub 0 (.t 43) (.k (.v (.c (.p (.int .i64 1))))))), (oA 45 (.mv (.t 0))), (oA 46 (.mv (.t 4))), (oA 47 (.bin .sub 0 (.t 46) (.k (.v (.c (.p (.int .i64 2))))))), (oA 48 (.mv (.t 9))), (oA 49 (.bin .add 0 (.t 48) (.k (.v (.c (.p (.int .u32 1))))))), (oA 50 (.index (.k (.v (.c (.p (.str [48, 48, 48, 49, 48, 50, 48, 51, 48, 52, 48, 53, 48, 54, 48, 55, 48, 56, 48, 57, 49, 48, 49, 49, 49, 50, 49, 51, 49, 52, 49, 53, 49, 54, 49, 55, 49, 56, 49, 57, 50, 48, 50, 49, 50, 50, 50, 51, 50, 52, 50, 53, 50, 54, 50, 55, 50, 56, 50, 57, 51, 48, 51, 49, 51, 50, 51, 51, 51, 52, 51, 53, 51, 54, 51, 55, 51, 56, 51, 57, 52, 48, 52, 49, 52, 50, 52, 51, 52, 52, 52, 53, 52, 54, 52, 55, 52, 56, 52, 57, 53, 48, 53, 49, 53, 50, 53, 51, 53, 52, 53, 53, 53, 54, 53, 55, 53, 56, 53, 57, 54, 48, 54, 49, 54, 50, 54, 51, 54, 52, 54, 53, 54, 54, 54, 55, 54, 56, 54, 57, 55, 48, 55, 49, 55, 50, 55, 51, 55, 52, 55, 53, 55, 54, 55, 55, 55, 56, 55, 57, 56, 48, 56, 49, 56, 50, 56, 51, 56, 52, 56, 53, 56, 54, 56, 55, 56, 56, 56, 57, 57, 48, 57, 49, 57, 50, 57, 51, 57, 52, 57, 53, 57, 54, 57, 55, 57, 56, 57, 57]))))) (.t 49))), (oA 51 (.mv (.t 9))), (oA 52 (.index (.k (.v (.c (.p (.str [48, 48, 48, 49, 48, 50, 48, 51, 48, 52, 48, 53, 48, 54, 48, 55, 48, 56, 48, 57, 49, 48, 49, 49, 49, 50, 49, 51, 49, 52, 49, 53, 49, 54, 49, 55, 49, 56, 49, 57, 50, 48, 50, 49, 50, 50, 50, 51, 50, 52, 50, 53, 50, 54, 50, 55, 50, 56, 50, 57, 51, 48, 51, 49, 51, 50, 51, 51, 51, 52, 51, 53, 51, 54, 51, 55, 51, 56, 51, 57, 52, 48, 52, 49, 52, 50, 52, 51, 52, 52, 52, 53, 52, 54, 52, 55, 52, 56, 52, 57, 53, 48, 53, 49, 53, 50, 53, 51, 53, 52, 53, 53, 53, 54, 53, 55, 53, 56, 53, 57, 54, 48, 54, 49, 54, 50, 54, 51, 54, 52, 54, 53, 54, 54, 54, 55, 54, 56, 54, 57, 55, 48, 55, 49, 55, 50, 55, 51, 55, 52, 55, 53, 55, 54, 55, 55, 55, 56, 55, 57, 56, 48, 56, 49, 56, 50, 56, 51, 56, 52, 56, 53, 56, 54, 56, 55, 56, 56, 56, 57, 57, 48, 57, 49, 57, 50, 57, 51, 57, 52, 57, 53, 57, 54, 57, 55, 57, 56, 57, 57]))))) (.t 51))), (oA 53 (.iaddr 1 (.t 42) (.t 44))), (oN (.store 1 (.t 53) (.t 50))), (oA 54 (.iaddr 1 (.t 45) (.t 47))), (oN (.store 1 (.t 54) (.t 52)))] []) (.seq (.reg [(oA 55 (.mv (.t 0))), (oA 56 (.mv (.t 4))), (oA 57 (.bin .sub 0 (.t 56) (.k (.v (.c (.p (.int .i64 3))))))), (oA 58 (.mv (.t 0))), (oA 59 (.mv (.t 4))), (oA 60 (.bin .sub 0 (.t 59) (.k (.v (.c (.p (.int .i64 4))))))), (oA 61 (.mv (.t 8))), (oA 62 (.bin .add 0 (.t 61) (.k (.v (.c (.p (.int .u32 1))))))), (oA 63 (.index (.k (.v (.c (.p (.str [48, 48, 48, 49, 48, 50, 48, 51, 48, 52, 48, 53, 48, 54, 48, 55, 48, 56, 48, 57, 49, 48, 49, 49, 49, 50, 49, 51, 49, 52, 49, 53, 49, 54, 49, 55, 49, 56, 49, 57, 50, 48, 50, 49, 50, 50, 50, 51, 50, 52, 50, 53, 50, 54, 50, 55, 50, 56, 50, 57, 51, 48, 51, 49, 51, 50, 51, 51, 51, 52, 51, 53, 51, 54, 51, 55, 51, 56, 51, 57, 52, 48, 52, 49, 52, 50, 52, 51, 52, 52, 52, 53, 52, 54, 52, 55, 52, 56, 52, 57, 53, 48, 53, 49, 53, 50, 53, 51, 53, 52, 53, 53, 53, 54, 53, 55, 53, 56, 53, 57, 54, 48, 54, 49, 54, 50, 54, 51, 54, 52, 54, 53, 54, 54, 54, 55, 54, 56, 54, 57, 55, 48, 55, 49, 55, 50, 55, 51, 55, 52, 55, 53, 55, 54, 55, 55, 55, 56, 55, 57, 56, 48, 56, 49, 56, 50, 56, 51, 56, 52, 56, 53, 56, 54, 56, 55, 56, 56, 56, 57, 57, 48, 57, 49, 57, 50, 57, 51, 57, 52, 57, 53, 57, 54, 57, 55, 57, 56, 57, 57]))))) (.t 62))), (oA 64 (.mv (.t 8))), (oA 65 (.index (.k (.v (.c (.p (.str [48, 48, 48, 49, 48, 50, 48, 51, 48, 52, 48, 53, 48, 54, 48, 55, 48, 56, 48, 57, 49, 48, 49, 49, 49, 50, 49, 51, 49, 52, 49, 53, 49, 54, 49, 55, 49, 56, 49, 57, 50, 48, 50, 49, 50, 50, 50, 51, 50, 52, 50, 53, 50, 54, 50, 55, 50, 56, 50, 57, 51, 48, 51, 49, 51, 50, 51, 51, 51, 52, 51, 53, 51, 54, 51, 55, 51, 56, 51, 57, 52, 48, 52, 49, 52, 50, 52, 51, 52, 52, 52, 53, 52, 54, 52, 55, 52, 56, 52, 57, 53, 48, 53, 49, 53, 50, 53, 51, 53, 52, 53, 53, 53, 54, 53, 55, 53, 56, 53, 57, 54, 48, 54, 49, 54, 50, 54, 51, 54, 52, 54, 53, 54, 54, 54, 55, 54, 56, 54, 57, 55, 48, 55, 49, 55, 50, 55, 51, 55, 52, 55, 53, 55, 54, 55, 55, 55, 56, 55, 57, 56, 48, 56, 49, 56, 50, 56, 51, 56, 52, 56, 53, 56, 54, 56, 55, 56, 56, 56, 57, 57, 48, 57, 49, 57, 50, 57, 51, 57, 52, 57, 53, 57, 54, 57, 55, 57, 56, 57, 57]))))) (.t 64))), (oA 66 (.iaddr 1 (.t 55) (.t 57))), (oN (.store 1 (.t 66) (.t 63))), (oA 67 (.iaddr 1 (.t 58) (.t 60))), (oN (.store 1 (.t 67) (.t 65)))] []) (.seq (.reg [(oA 68 (.mv (.t 0))), (oA 69 (.mv (.t 4))), (oA 70 (.bin .sub 0 (.t 69) (.k (.v (.c (.p (.int .i64 5))))))), (oA 71 (.mv (.t 0))), (oA 72 (.mv (.t 4))), (oA 73 (.bin .sub 0 (.t 72) (.k (.v (.c (.p (.int .i64 6))))))), (oA 74 (.mv (.t 11))), (oA 75 (.bin .add 0 (.t 74) (.k (.v (.c (.p (.int .u32 1))))))), (oA 76 (.index (.k (.v (.c (.p (.str [48, 48, 48, 49, 48, 50, 48, 51, 48, 52, 48, 53, 48, 54, 48, 55, 48, 56, 48, 57, 49, 48, 49, 49, 49, 50, 49, 51, 49, 52, 49, 53, 49, 54, 49, 55, 49, 56, 49, 57, 50, 48, 50, 49, 50, 50, 50, 51, 50, 52, 50, 53, 50, 54, 50, 55, 50, 56, 50, 57, 51, 48, 51, 49, 51, 50, 51, 51, 51, 52, 51, 53, 51, 54, 51, 55, 51, 56, 51, 57, 52, 48, 52, 49, 52, 50, 52, 51, 52, 52, 52, 53, 52, 54, 52, 55, 52, 56, 52, 57, 53, 48, 53, 49, 53, 50, 53, 51, 53, 52, 53, 53, 53, 54, 53, 55, 53, 56, 53, 57, 54, 48, 54, 49, 54, 50, 54, 51, 54, 52, 54, 53, 54, 54, 54, 55, 54, 56, 54, 57, 55, 48, 55, 49, 55, 50, 55, 51, 55, 52, 55, 53, 55, 54, 55, 55, 55, 56, 55, 57, 56, 48, 56, 49, 56, 50, 56, 51, 56, 52, 56, 53, 56, 54, 56, 55, 56, 56, 56, 57, 57, 48, 57, 49, 57, 50, 57, 51, 57, 52, 57, 53, 57, 54, 57, 55, 57, 56, 57, 57]))))) (.t 75))), (oA 77 (.mv (.t 11))), (oA 78 (.index (.k (.v (.c (.p (.str [48, 48, 48, 49, 48, 50, 48, 51, 48, 52, 48, 53, 48, 54, 48, 55, 48, 56, 48, 57, 49, 48, 49, 49, 49, 50, 49, 51, 49, 52, 49, 53, 49, 54, 49, 55, 49, 56, 49, 57, 50, 48, 50, 49, 50, 50, 50, 51, 50, 52, 50, 53, 50, 54, 50, 55, 50, 56, 50, 57, 51, 48, 51, 49, 51, 50, 51, 51, 51, 52, 51, 53, 51, 54, 51, 55, 51, 56, 51, 57, 52, 48, 52, 49, 52, 50, 52, 51, 52, 52, 52, 53, 52, 54, 52, 55, 52, 56, 52, 57, 53, 48, 53, 49, 53, 50, 53, 51, 53, 52, 53, 53, 53, 54, 53, 55, 53, 56, 53, 57, 54, 48, 54, 49, 54, 50, 54, 51, 54, 52, 54, 53, 54, 54, 54, 55, 54, 56, 54, 57, 55, 48, 55, 49, 55, 50, 55, 51, 55, 52, 55, 53, 55, 54, 55, 55, 55, 56, 55, 57, 56, 48, 56, 49, 56, 50, 56, 51, 56, 52, 56, 53, 56, 54, 56, 55, 56, 56, 56, 57, 57, 48, 57, 49, 57, 50, 57, 51, 57, 52, 57, 53, 57, 54, 57, 55, 57, 56, 57, 57]))))) (.t 77))), (oA 79 (.iaddr 1 (.t 68) (.t 70))), (oN (.store 1 (.t 79) (.t 76))), (oA 80 (.iaddr 1 (.t 71) (.t 73))), (oN (.store 1 (.t 80) (.t 78)))] []) (.seq (.reg [(oA 81 (.mv (.t 0))), (oA 82 (.mv (.t 4))), (oA 83 (.bin .sub 0 (.t 82) (.k (.v (.c (.p (.int .i64 7))))))), (oA 84 (.mv (.t 0))), (oA 85 (.mv (.t 4))), (oA 86 (.bin .sub 0 (.t 85) (.k (.v (.c (.p (.int .i64 8))))))), (oA 87 (.mv (.t 10))), (oA 88 (.bin .add 0 (.t 87) (.k (.v (.c (.p (.int .u32 1))))))), (oA 89 (.index (.k (.v (.c (.p (.str [48, 48, 48, 49, 48, 50, 48, 51, 48, 52, 48, 53, 48, 54, 48, 55, 48, 56, 48, 57, 49, 48, 49, 49, 49, 50, 49, 51, 49, 52, 49, 53, 49, 54, 49, 55, 49, 56, 49, 57, 50, 48, 50, 49, 50, 50, 50, 51, 50, 52, 50, 53, 50, 54, 50, 55, 50, 56, 50, 57, 51, 48, 51, 49, 51, 50, 51, 51, 51, 52, 51, 53, 51, 54, 51, 55, 51, 56, 51, 57, 52, 48, 52, 49, 52, 50, 52, 51, 52, 52, 52, 53, 52, 54, 52, 55, 52, 56, 52, 57, 53, 48, 53, 49, 53, 50, 53, 51, 53, 52, 53, 53, 53, 54, 53, 55, 53, 56, 53, 57, 54, 48, 54, 49, 54, 50, 54, 51, 54, 52, 54, 53, 54, 54, 54, 55, 54, 56, 54, 57, 55, 48, 55, 49, 55, 50, 55, 51, 55, 52, 55, 53, 55, 54, 55, 55, 55, 56, 55, 57, 56, 48, 56, 49, 56, 50, 56, 51, 56, 52, 56, 53, 56, 54, 56, 55, 56, 56, 56, 57, 57, 48, 57, 49, 57, 50, 57, 51, 57, 52, 57, 53, 57, 54, 57, 55, 57, 56, 57, 57]))))) (.t 88))), (oA 90 (.mv (.t 10))), (oA 91 (.index (.k (.v (.c (.p (.str [48, 48, 48, 49, 48, 50, 48, 51, 48, 52, 48, 53, 48, 54, 48, 55, 48, 56, 48, 57, 49, 48, 49, 49, 49, 50, 49, 51, 49, 52, 49, 53, 49, 54, 49, 55, 49, 56, 49, 57, 50, 48, 50, 49, 50, 50, 50, 51, 50, 52, 50, 53, 50, 54, 50, 55, 50, 56, 50, 57, 51, 48, 51, 49, 51, 50, 51, 51, 51, 52, 51, 53, 51, 54, 51, 55, 51, 56, 51, 57, 52, 48, 52, 49, 52, 50, 52, 51, 52, 52, 52, 53, 52, 54, 52, 55, 52, 56, 52, 57, 53, 48, 53, 49, 53, 50, 53, 51, 53, 52, 53, 53, 53, 54, 53, 55, 53, 56, 53, 57, 54, 48, 54, 49, 54, 50, 54, 51, 54, 52, 54, 53, 54, 54, 54, 55, 54, 56, 54, 57, 55, 48, 55, 49, 55, 50, 55, 51, 55, 52, 55, 53, 55, 54, 55, 55, 55, 56, 55, 57, 56, 48, 56, 49, 56, 50, 56, 51, 56, 52, 56, 53, 56, 54, 56, 55, 56, 56, 56, 57, 57, 48, 57, 49, 57, 50, 57, 51, 57, 52, 57, 53, 57, 54, 57, 55, 57, 56, 57, 57]))))) (.t 90))), (oA 92 (.iaddr 1 (.t 81) (.t 83))), (oN (.store 1 (.t 92) (.t 89))), (oA 93 (.iaddr 1 (.t 84) (.t 86))), (oN (.store 1 (.t 93) (.t 91)))] []) (.reg [(oA 94 (.mv (.t 4))), (oA 95 (.bin .sub 0 (.t 94) (.k (.v (.c (.p (.int .i64 8))))))), (oA 4 (.mv (.t 95)))] [])))))))))))))) (.mark 2 [0, 1, 4] (.seq (.reg [(oA 96 (.mv (.t 1))), (oA 97 (.toInt .u32 (.t 96))), (oA 12 (.mv (.t 97)))] []) (.seq (.seq (.reg [(oA 98 (.mv (.t 4))), (oA 99 (.bin .geq 0 (.t 98) (.k (.v (.c (.p (.int .i64 4)))))))] []) (.cond (.t 99) (.seq (.reg [(oA 100 (.mv (.t 12))), (oA 101 (.bin .rem 0 (.t 100) (.k (.v (.c (.p (.int .u32 10000))))))), (oA 13 (.mv (.t 101)))] []) (.seq (.reg [(oA 102 (.mv (.t 12))), (oA 103 (.bin .quo 0 (.t 102) (.k (.v (.c (.p (.int .u32 10000))))))), (oA 12 (.mv (.t 103)))] []) (.seq (.reg [(oA 104 (.mv (.t 13))), (oA 105 (.bin .quo 0 (.t 104) (.k (.v (.c (.p (.int .u32 100))))))), (oA 106 (.bin .mul 0 (.t 105) (.k (.v (.c (.p (.int .u32 2))))))), (oA 107 (.mv (.t 13))), (oA 108 (.bin .rem 0 (.t 107) (.k (.v (.c (.p (.int .u32 100))))))), (oA 109 (.bin .mul 0 (.t 108) (.k (.v (.c (.p (.int .u32 2))))))), (oA 14 (.mv (.t 106))), (oA 15 (.mv (.t 109)))] []) (.seq (.reg [(oA 110 (.mv (.t 0))), (oA 111 (.mv (.t 4))), (oA 112 (.bin .sub 0 (.t 111) (.k (.v (.c (.p (.int .i64 1))))))), (oA 113 (.mv (.t 0))), (oA 114 (.mv (.t 4))), (oA 115 (.bin .sub 0 (.t 114) (.k (.v (.c (.p (.int .i64 2))))))), (oA 116 (.mv (.t 15))), (oA 117 (.bin .add 0 (.t 116) (.k (.v (.c (.p (.int .u32 1))))))), (oA 118 (.index (.k (.v (.c (.p (.str [48, 48, 48, 49, 48, 50, 48, 51, 48, 52, 48, 53, 48, 54, 48, 55, 48, 56, 48, 57, 49, 48, 49, 49, 49, 50, 49, 51, 49, 52, 49, 53, 49, 54, 49, 55, 49, 56, 49, 57, 50, 48, 50, 49, 50, 50, 50, 51, 50, 52, 50, 53, 50, 54, 50, 55, 50, 56, 50, 57, 51, 48, 51, 49, 51, 50, 51, 51, 51, 52, 51, 53, 51, 54, 51, 55, 51, 56, 51, 57, 52, 48, 52, 49, 52, 50, 52, 51, 52, 52, 52, 53, 52, 54, 52, 55, 52, 56, 52, 57, 53, 48, 53, 49, 53, 50, 53, 51, 53, 52, 53, 53, 53, 54, 53, 55, 53, 56, 53, 57, 54, 48, 54, 49, 54, 50, 54, 51, 54, 52, 54, 53, 54, 54, 54, 55, 54, 56, 54, 57, 55, 48, 55, 49, 55, 50, 55, 51, 55, 52, 55, 53, 55, 54, 55, 55, 55, 56, 55, 57, 56, 48, 56, 49, 56, 50, 56, 51, 56, 52, 56, 53, 56, 54, 56, 55, 56, 56, 56, 57, 57, 48, 57, 49, 57, 50, 57, 51, 57, 52, 57, 53, 57, 54, 57, 55, 57, 56, 57, 57]))))) (.t 117))), (oA 119 (.mv (.t 15))), (oA 120 (.index (.k (.v (.c (.p (.str [48, 48, 48, 49, 48, 50, 48, 51, 48, 52, 48, 53, 48, 54, 48, 55, 48, 56, 48, 57, 49, 48, 49, 49, 49, 50, 49, 51, 49, 52, 49, 53, 49, 54, 49, 55, 49, 56, 49, 57, 50, 48, 50, 49, 50, 50, 50, 51, 50, 52, 50, 53, 50, 54, 50, 55, 50, 56, 50, 57, 51, 48, 51, 49, 51, 50, 51, 51, 51, 52, 51, 53, 51, 54, 51, 55, 51, 56, 51, 57, 52, 48, 52, 49, 52, 50, 52, 51, 52, 52, 52, 53, 52, 54, 52, 55, 52, 56, 52, 57, 53, 48, 53, 49, 53, 50, 53, 51, 53, 52, 53, 53, 53, 54, 53, 55, 53, 56, 53, 57, 54, 48, 54, 49, 54, 50, 54, 51, 54, 52, 54, 53, 54, 54, 54, 55, 54, 56, 54, 57, 55, 48, 55, 49, 55, 50, 55, 51, 55, 52, 55, 53, 55, 54, 55, 55, 55, 56, 55, 57, 56, 48, 56, 49, 56, 50, 56, 51, 56, 52, 56, 53, 56, 54, 56, 55, 56, 56, 56, 57, 57, 48, 57, 49, 57, 50, 57, 51, 57, 52, 57, 53, 57, 54, 57, 55, 57, 56, 57, 57]))))) (.t 119))), (oA 121 (.iaddr 1 (.t 110) (.t 112))), (oN (.store 1 (.t 121) (.t 118))), (oA 122 (.iaddr 1 (.t 113) (.t 115))), (oN (.store 1 (.t 122) (.t 120)))] []) (.seq (.reg [(oA 123 (.mv (.t 0))), (oA 124 (.mv (.t 4))), (oA 125 (.bin .sub 0 (.t 124) (.k (.v (.c (.p (.int .i64 3))))))), (oA 126 (.mv (.t 0))), (oA 127 (.mv (.t 4))), (oA 128 (.bin .sub 0 (.t 127) (.k (.v (.c (.p (.int .i64 4))))))), (oA 129 (.mv (.t 14))), (oA 130 (.bin .add 0 (.t 129) (.k (.v (.c (.p (.int .u32 1))))))), (oA 131 (.index (.k (.v (.c (.p (.str [48, 48, 48, 49, 48, 50, 48, 51, 48, 52, 48, 53, 48, 54, 48, 55, 48, 56, 48, 57, 49, 48, 49, 49, 49, 50, 49, 51, 49, 52, 49, 53, 49, 54, 49, 55, 49, 56, 49, 57, 50, 48, 50, 49, 50, 50, 50, 51, 50, 52, 50, 53, 50, 54, 50, 55, 50, 56, 50, 57, 51, 48, 51, 49, 51, 50, 51, 51, 51, 52, 51, 53, 51, 54, 51, 55, 51, 56, 51, 57, 52, 48, 52, 49, 52, 50, 52, 51, 52, 52, 52, 53, 52, 54, 52, 55, 52, 56, 52, 57, 53, 48, 53, 49, 53, 50, 53, 51, 53, 52, 53, 53, 53, 54, 53, 55, 53, 56, 53, 57, 54, 48, 54, 49, 54, 50, 54, 51, 54, 52, 54, 53, 54, 54, 54, 55, 54, 56, 54, 57, 55, 48, 55, 49, 55, 50, 55, 51, 55, 52, 55, 53, 55, 54, 55, 55, 55, 56, 55, 57, 56, 48, 56, 49, 56, 50, 56, 51, 56, 52, 56, 53, 56, 54, 56, 55, 56, 56, 56, 57, 57, 48, 57, 49, 57, 50, 57, 51, 57, 52, 57, 53, 57, 54, 57, 55, 57, 56, 57, 57]))))) (.t 130))), (oA 132 (.mv (.t 14))), (oA 133 (.index (.k (.v (.c (.p (.str [48, 48, 48, 49, 48, 50, 48, 51, 48, 52, 48, 53, 48, 54, 48, 55, 48, 56, 48, 57, 49, 48, 49, 49, 49, 50, 49, 51, 49, 52, 49, 53, 49, 54, 49, 55, 49, 56, 49, 57, 50, 48, 50, 49, 50, 50, 50, 51, 50, 52, 50, 53, 50, 54, 50, 55, 50, 56, 50, 57, 51, 48, 51, 49, 51, 50, 51, 51, 51, 52, 51, 53, 51, 54, 51, 55, 51, 56, 51, 57, 52, 48, 52, 49, 52, 50, 52, 51, 52, 52, 52, 53, 52, 54, 52, 55, 52, 56, 52, 57, 53, 48, 53, 49, 53, 50, 53, 51, 53, 52, 53, 53, 53, 54, 53, 55, 53, 56, 53, 57, 54, 48, 54, 49, 54, 50, 54, 51, 54, 52, 54, 53, 54, 54, 54, 55, 54, 56, 54, 57, 55, 48, 55, 49, 55, 50, 55, 51, 55, 52, 55, 53, 55, 54, 55, 55, 55, 56, 55, 57, 56, 48, 56, 49, 56, 50, 56, 51, 56, 52, 56, 53, 56, 54, 56, 55, 56, 56, 56, 57, 57, 48, 57, 49, 57, 50, 57, 51, 57, 52, 57, 53, 57, 54, 57, 55, 57, 56, 57, 57]))))) (.t 132))), (oA 134 (.iaddr 1 (.t 123) (.t 125))), (oN (.store 1 (.t 134) (.t 131))), (oA 135 (.iaddr 1 (.t 126) (.t 128))), (oN (.store 1 (.t 135) (.t 133)))] []) (.reg [(oA 136 (.mv (.t 4))), (oA 137 (.bin .sub 0 (.t 136) (.k (.v (.c (.p (.int .i64 4))))))), (oA 4 (.mv (.t 137)))] [])))))) .skip)) (.mark 3 [0, 4, 12] (.seq (.seq (.reg [(oA 138 (.mv (.t 4))), (oA 139 (.bin .geq 0 (.t 138) (.k (.v (.c (.p (.int .i64 2)))))))] []) (.cond (.t 139) (.seq (.reg [(oA 140 (.mv (.t 12))), (oA 141 (.bin .rem 0 (.t 140) (.k (.v (.c (.p (.int .u32 100))))))), (oA 142 (.bin .mul 0 (.t 141) (.k (.v (.c (.p (.int .u32 2))))))), (oA 16 (.mv (.t 142)))] []) (.seq (.reg [(oA 143 (.mv (.t 12))), (oA 144 (.bin .quo 0 (.t 143) (.k (.v (.c (.p (.int .u32 100))))))), (oA 12 (.mv (.t 144)))] []) (.seq (.reg [(oA 145 (.mv (.t 0))), (oA 146 (.mv (.t 4))), (oA 147 (.bin .sub 0 (.t 146) (.k (.v (.c (.p (.int .i64 1))))))), (oA 148 (.mv (.t 0))), (oA 149 (.mv (.t 4))), (oA 150 (.bin .sub 0 (.t 149) (.k (.v (.c (.p (.int .i64 2))))))), (oA 151 (.mv (.t 16))), (oA 152 (.bin .add 0 (.t 151) (.k (.v (.c (.p (.int .u32 1))))))), (oA 153 (.index (.k (.v (.c (.p (.str [48, 48, 48, 49, 48, 50, 48, 51, 48, 52, 48, 53, 48, 54, 48, 55, 48, 56, 48, 57, 49, 48, 49, 49, 49, 50, 49, 51, 49, 52, 49, 53, 49, 54, 49, 55, 49, 56, 49, 57, 50, 48, 50, 49, 50, 50, 50, 51, 50, 52, 50, 53, 50, 54, 50, 55, 50, 56, 50, 57, 51, 48, 51, 49, 51, 50, 51, 51, 51, 52, 51, 53, 51, 54, 51, 55, 51, 56, 51, 57, 52, 48, 52, 49, 52, 50, 52, 51, 52, 52, 52, 53, 52, 54, 52, 55, 52, 56, 52, 57, 53, 48, 53, 49, 53, 50, 53, 51, 53, 52, 53, 53, 53, 54, 53, 55, 53, 56, 53, 57, 54, 48, 54, 49, 54, 50, 54, 51, 54, 52, 54, 53, 54, 54, 54, 55, 54, 56, 54, 57, 55, 48, 55, 49, 55, 50, 55, 51, 55, 52, 55, 53, 55, 54, 55, 55, 55, 56, 55, 57, 56, 48, 56, 49, 56, 50, 56, 51, 56, 52, 56, 53, 56, 54, 56, 55, 56, 56, 56, 57, 57, 48, 57, 49, 57, 50, 57, 51, 57, 52, 57, 53, 57, 54, 57, 55, 57, 56, 57, 57]))))) (.t 152))), (oA 154 (.mv (.t 16))), (oA 155 (.index (.k (.v (.c (.p (.str [48, 48, 48, 49, 48, 50, 48, 51, 48, 52, 48, 53, 48, 54, 48, 55, 48, 56, 48, 57, 49, 48, 49, 49, 49, 50, 49, 51, 49, 52, 49, 53, 49, 54, 49, 55, 49, 56, 49, 57, 50, 48, 50, 49, 50, 50, 50, 51, 50, 52, 50, 53, 50, 54, 50, 55, 50, 56, 50, 57, 51, 48, 51, 49, 51, 50, 51, 51, 51, 52, 51, 53, 51, 54, 51, 55, 51, 56, 51, 57, 52, 48, 52, 49, 52, 50, 52, 51, 52, 52, 52, 53, 52, 54, 52, 55, 52, 56, 52, 57, 53, 48, 53, 49, 53, 50, 53, 51, 53, 52, 53, 53, 53, 54, 53, 55, 53, 56, 53, 57, 54, 48, 54, 49, 54, 50, 54, 51, 54, 52, 54, 53, 54, 54, 54, 55, 54, 56, 54, 57, 55, 48, 55, 49, 55, 50, 55, 51, 55, 52, 55, 53, 55, 54, 55, 55, 55, 56, 55, 57, 56, 48, 56, 49, 56, 50, 56, 51, 56, 52, 56, 53, 56, 54, 56, 55, 56, 56, 56, 57, 57, 48, 57, 49, 57, 50, 57, 51, 57, 52, 57, 53, 57, 54, 57, 55, 57, 56, 57, 57]))))) (.t 154))), (oA 156 (.iaddr 1 (.t 145) (.t 147))), (oN (.store 1 (.t 156) (.t 153))), (oA 157 (.iaddr 1 (.t 148) (.t 150))), (oN (.store 1 (.t 157) (.t 155)))] []) (.reg [(oA 158 (.mv (.t 4))), (oA 159 (.bin .sub 0 (.t 158) (.k (.v (.c (.p (.int .i64 2))))))), (oA 4 (.mv (.t 159)))] [])))) .skip)) (.mark 4 [0, 4, 12] (.seq (.reg [(oA 160 (.mv (.t 4))), (oA 161 (.bin .gtr 0 (.t 160) (.k (.v (.c (.p (.int .i64 0)))))))] []) (.cond (.t 161) (.reg [(oA 162 (.mv (.t 0))), (oA 163 (.mv (.t 12))), (oA 164 (.bin .add 0 (.k (.v (.c (.p (.int .u32 48))))) (.t 163))), (oA 165 (.toInt .u8 (.t 164))), (oA 166 (.iaddr 1 (.t 162) (.k (.v (.c (.p (.int .i64 0))))))), (oN (.store 1 (.t 166) (.t 165)))] []) .skip)))))))))) }
theorem t119 : compF Tryz.prog (globs2 tabs opq) (fun _ => false) true Tryz.f119 = some c119.erase := by kernel_rfl
noncomputable def b119_0 (O : Oracle) (R : Jump) (q : Nat) (x0 x1 : TVal) (h : Heap) : Res1 :=
 vlen O 2 x0 h 18 fun x18 h =>
 R 1 [x0, x1, x18] h
theorem e119_0 (O : Oracle) (R : Jump) (q : Nat) (x0 x1 : TVal) (h : Heap) : b119_0 O R q x0 x1 h = stepF c119 O R q 0 [x0, x1] h := by kernel_rfl
noncomputable def b119_1 (O : Oracle) (R : Jump) (q : Nat) (x0 x1 x4 : TVal) (h : Heap) : Res1 :=
 vbin .geq 0 x4 (kI 8) h fun x20 h =>
 vif x20 (
 vbin .rem 0 x1 (.v (.c (.p (.int .u64 100000000)))) h fun x22 h =>
 vtoInt .u32 x22 h fun x23 h =>
 vbin .quo 0 x1 (.v (.c (.p (.int .u64 100000000)))) h fun x25 h =>
 vbin .quo 0 x23 (.v (.c (.p (.int .u32 10000)))) h fun x27 h =>
 vbin .rem 0 x23 (.v (.c (.p (.int .u32 10000)))) h fun x29 h =>
 vbin .quo 0 x29 (.v (.c (.p (.int .u32 100)))) h fun x31 h =>
 vbin .mul 0 x31 (.v (.c (.p (.int .u32 2)))) h fun x32 h =>
 vbin .rem 0 x29 (.v (.c (.p (.int .u32 100)))) h fun x34 h =>
 vbin .mul 0 x34 (.v (.c (.p (.int .u32 2)))) h fun x35 h =>
 vbin .quo 0 x27 (.v (.c (.p (.int .u32 100)))) h fun x37 h =>
 vbin .mul 0 x37 (.v (.c (.p (.int .u32 2)))) h fun x38 h =>
 vbin .rem 0 x27 (.v (.c (.p (.int .u32 100)))) h fun x40 h =>
 vbin .mul 0 x40 (.v (.c (.p (.int .u32 2)))) h fun x41 h =>
 vbin .sub 0 x4 (kI 1) h fun x44 h =>
 vbin .sub 0 x4 (kI 2) h fun x47 h =>
 vbin .add 0 x35 (.v (.c (.p (.int .u32 1)))) h fun x49 h =>
 vindex (kS [48, 48, 48, 49, 48, 50, 48, 51, 48, 52, 48, 53, 48, 54, 48, 55, 48, 56, 48, 57, 49, 48, 49, 49, 49, 50, 49, 51, 49, 52, 49, 53, 49, 54, 49, 55, 49, 56, 49, 57, 50, 48, 50, 49, 50, 50, 50, 51, 50, 52, 50, 53, 50, 54, 50, 55, 50, 56, 50, 57, 51, 48, 51, 49, 51, 50, 51, 51, 51, 52, 51, 53, 51, 54, 51, 55, 51, 56, 51, 57, 52, 48, 52, 49, 52, 50, 52, 51, 52, 52, 52, 53, 52, 54, 52, 55, 52, 56, 52, 57, 53, 48, 53, 49, 53, 50, 53, 51, 53, 52, 53, 53, 53, 54, 53, 55, 53, 56, 53, 57, 54, 48, 54, 49, 54, 50, 54, 51, 54, 52, 54, 53, 54, 54, 54, 55, 54, 56, 54, 57, 55, 48, 55, 49, 55, 50, 55, 51, 55, 52, 55, 53, 55, 54, 55, 55, 55, 56, 55, 57, 56, 48, 56, 49, 56, 50, 56, 51, 56, 52, 56, 53, 56, 54, 56, 55, 56, 56, 56, 57, 57, 48, 57, 49, 57, 50, 57, 51, 57, 52, 57, 53, 57, 54, 57, 55, 57, 56, 57, 57]) x49 h fun x50 h =>
 vindex (kS [48, 48, 48, 49, 48, 50, 48, 51, 48, 52, 48, 53, 48, 54, 48, 55, 48, 56, 48, 57, 49, 48, 49, 49, 49, 50, 49, 51, 49, 52, 49, 53, 49, 54, 49, 55, 49, 56, 49, 57, 50, 48, 50, 49, 50, 50, 50, 51, 50, 52, 50, 53, 50, 54, 50, 55, 50, 56, 50, 57, 51, 48, 51, 49, 51, 50, 51, 51, 51, 52, 51, 53, 51, 54, 51, 55, 51, 56, 51, 57, 52, 48, 52, 49, 52, 50, 52, 51, 52, 52, 52, 53, 52, 54, 52, 55, 52, 56, 52, 57, 53, 48, 53, 49, 53, 50, 53, 51, 53, 52, 53, 53, 53, 54, 53, 55, 53, 56, 53, 57, 54, 48, 54, 49, 54, 50, 54, 51, 54, 52, 54, 53, 54, 54, 54, 55, 54, 56, 54, 57, 55, 48, 55, 49, 55, 50, 55, 51, 55, 52, 55, 53, 55, 54, 55, 55, 55, 56, 55, 57, 56, 48, 56, 49, 56, 50, 56, 51, 56, 52, 56, 53, 56, 54, 56, 55, 56, 56, 56, 57, 57, 48, 57, 49, 57, 50, 57, 51, 57, 52, 57, 53, 57, 54, 57, 55, 57, 56, 57, 57]) x35 h fun x52 h =>
 viaddr 1 x0 x44 h fun x53 h =>
 vstore 1 x53 x50 h fun _ h =>
 viaddr 1 x0 x47 h fun x54 h =>
 vstore 1 x54 x52 h fun _ h =>
 vbin .sub 0 x4 (kI 3) h fun x57 h =>
 vbin .sub 0 x4 (kI 4) h fun x60 h =>
 vbin .add 0 x32 (.v (.c (.p (.int .u32 1)))) h fun x62 h =>
 vindex (kS [48, 48, 48, 49, 48, 50, 48, 51, 48, 52, 48, 53, 48, 54, 48, 55, 48, 56, 48, 57, 49, 48, 49, 49, 49, 50, 49, 51, 49, 52, 49, 53, 49, 54, 49, 55, 49, 56, 49, 57, 50, 48, 50, 49, 50, 50, 50, 51, 50, 52, 50, 53, 50, 54, 50, 55, 50, 56, 50, 57, 51, 48, 51, 49, 51, 50, 51, 51, 51, 52, 51, 53, 51, 54, 51, 55, 51, 56, 51, 57, 52, 48, 52, 49, 52, 50, 52, 51, 52, 52, 52, 53, 52, 54, 52, 55, 52, 56, 52, 57, 53, 48, 53, 49, 53, 50, 53, 51, 53, 52, 53, 53, 53, 54, 53, 55, 53, 56, 53, 57, 54, 48, 54, 49, 54, 50, 54, 51, 54, 52, 54, 53, 54, 54, 54, 55, 54, 56, 54, 57, 55, 48, 55, 49, 55, 50, 55, 51, 55, 52, 55, 53, 55, 54, 55, 55, 55, 56, 55, 57, 56, 48, 56, 49, 56, 50, 56, 51, 56, 52, 56, 53, 56, 54, 56, 55, 56, 56, 56, 57, 57, 48, 57, 49, 57, 50, 57, 51, 57, 52, 57, 53, 57, 54, 57, 55, 57, 56, 57, 57]) x62 h fun x63 h =>
 vindex (kS [48, 48, 48, 49, 48, 50, 48, 51, 48, 52, 48, 53, 48, 54, 48, 55, 48, 56, 48, 57, 49, 48, 49, 49, 49, 50, 49, 51, 49, 52, 49, 53, 49, 54, 49, 55, 49, 56, 49, 57, 50, 48, 50, 49, 50, 50, 50, 51, 50, 52, 50, 53, 50, 54, 50, 55, 50, 56, 50, 57, 51, 48, 51, 49, 51, 50, 51, 51, 51, 52, 51, 53, 51, 54, 51, 55, 51, 56, 51, 57, 52, 48, 52, 49, 52, 50, 52, 51, 52, 52, 52, 53, 52, 54, 52, 55, 52, 56, 52, 57, 53, 48, 53, 49, 53, 50, 53, 51, 53, 52, 53, 53, 53, 54, 53, 55, 53, 56, 53, 57, 54, 48, 54, 49, 54, 50, 54, 51, 54, 52, 54, 53, 54, 54, 54, 55, 54, 56, 54, 57, 55, 48, 55, 49, 55, 50, 55, 51, 55, 52, 55, 53, 55, 54, 55, 55, 55, 56, 55, 57, 56, 48, 56, 49, 56, 50, 56, 51, 56, 52, 56, 53, 56, 54, 56, 55, 56, 56, 56, 57, 57, 48, 57, 49, 57, 50, 57, 51, 57, 52, 57, 53, 57, 54, 57, 55, 57, 56, 57, 57]) x32 h fun x65 h =>
 viaddr 1 x0 x57 h fun x66 h =>
 vstore 1 x66 x63 h fun _ h =>
 viaddr 1 x0 x60 h fun x67 h =>
 vstore 1 x67 x65 h fun _ h =>
 vbin .sub 0 x4 (kI 5) h fun x70 h =>
 vbin .sub 0 x4 (kI 6) h fun x73 h =>
 vbin .add 0 x41 (.v (.c (.p (.int .u32 1)))) h fun x75 h =>
 vindex (kS [48, 48, 48, 49, 48, 50, 48, 51, 48, 52, 48, 53, 48, 54, 48, 55, 48, 56, 48, 57, 49, 48, 49, 49, 49, 50, 49, 51, 49, 52, 49, 53, 49, 54, 49, 55, 49, 56, 49, 57, 50, 48, 50, 49, 50, 50, 50, 51, 50, 52, 50, 53, 50, 54, 50, 55, 50, 56, 50, 57, 51, 48, 51, 49, 51, 50, 51, 51, 51, 52, 51, 53, 51, 54, 51, 55, 51, 56, 51, 57, 52, 48, 52, 49, 52, 50, 52, 51, 52, 52, 52, 53, 52, 54, 52, 55, 52, 56, 52, 57, 53, 48, 53, 49, 53, 50, 53, 51, 53, 52, 53, 53, 53, 54, 53, 55, 53, 56, 53, 57, 54, 48, 54, 49, 54, 50, 54, 51, 54, 52, 54, 53, 54, 54, 54, 55, 54, 56, 54, 57, 55, 48, 55, 49, 55, 50, 55, 51, 55, 52, 55, 53, 55, 54, 55, 55, 55, 56, 55, 57, 56, 48, 56, 49, 56, 50, 56, 51, 56, 52, 56, 53, 56, 54, 56, 55, 56, 56, 56, 57, 57, 48, 57, 49, 57, 50, 57, 51, 57, 52, 57, 53, 57, 54, 57, 55, 57, 56, 57, 57]) x75 h fun x76 h =>
 vindex (kS [48, 48, 48, 49, 48, 50, 48, 51, 48, 52, 48, 53, 48, 54, 48, 55, 48, 56, 48, 57, 49, 48, 49, 49, 49, 50, 49, 51, 49, 52, 49, 53, 49, 54, 49, 55, 49, 56, 49, 57, 50, 48, 50, 49, 50, 50, 50, 51, 50, 52, 50, 53, 50, 54, 50, 55, 50, 56, 50, 57, 51, 48, 51, 49, 51, 50, 51, 51, 51, 52, 51, 53, 51, 54, 51, 55, 51, 56, 51, 57, 52, 48, 52, 49, 52, 50, 52, 51, 52, 52, 52, 53, 52, 54, 52, 55, 52, 56, 52, 57, 53, 48, 53, 49, 53, 50, 53, 51, 53, 52, 53, 53, 53, 54, 53, 55, 53, 56, 53, 57, 54, 48, 54, 49, 54, 50, 54, 51, 54, 52, 54, 53, 54, 54, 54, 55, 54, 56, 54, 57, 55, 48, 55, 49, 55, 50, 55, 51, 55, 52, 55, 53, 55, 54, 55, 55, 55, 56, 55, 57, 56, 48, 56, 49, 56, 50, 56, 51, 56, 52, 56, 53, 56, 54, 56, 55, 56, 56, 56, 57, 57, 48, 57, 49, 57, 50, 57, 51, 57, 52, 57, 53, 57, 54, 57, 55, 57, 56, 57, 57]) x41 h fun x78 h =>
 viaddr 1 x0 x70 h fun x79 h =>
 vstore 1 x79 x76 h fun _ h =>
 viaddr 1 x0 x73 h fun x80 h =>
 vstore 1 x80 x78 h fun _ h =>
 vbin .sub 0 x4 (kI 7) h fun x83 h =>
 vbin .sub 0 x4 (kI 8) h fun x86 h =>
 vbin .add 0 x38 (.v (.c (.p (.int .u32 1)))) h fun x88 h =>
 vindex (kS [48, 48, 48, 49, 48, 50, 48, 51, 48, 52, 48, 53, 48, 54, 48, 55, 48, 56, 48, 57, 49, 48, 49, 49, 49, 50, 49, 51, 49, 52, 49, 53, 49, 54, 49, 55, 49, 56, 49, 57, 50, 48, 50, 49, 50, 50, 50, 51, 50, 52, 50, 53, 50, 54, 50, 55, 50, 56, 50, 57, 51, 48, 51, 49, 51, 50, 51, 51, 51, 52, 51, 53, 51, 54, 51, 55, 51, 56, 51, 57, 52, 48, 52, 49, 52, 50, 52, 51, 52, 52, 52, 53, 52, 54, 52, 55, 52, 56, 52, 57, 53, 48, 53, 49, 53, 50, 53, 51, 53, 52, 53, 53, 53, 54, 53, 55, 53, 56, 53, 57, 54, 48, 54, 49, 54, 50, 54, 51, 54, 52, 54, 53, 54, 54, 54, 55, 54, 56, 54, 57, 55, 48, 55, 49, 55, 50, 55, 51, 55, 52, 55, 53, 55, 54, 55, 55, 55, 56, 55, 57, 56, 48, 56, 49, 56, 50, 56, 51, 56, 52, 56, 53, 56, 54, 56, 55, 56, 56, 56, 57, 57, 48, 57, 49, 57, 50, 57, 51, 57, 52, 57, 53, 57, 54, 57, 55, 57, 56, 57, 57]) x88 h fun x89 h =>
 vindex (kS [48, 48, 48, 49, 48, 50, 48, 51, 48, 52, 48, 53, 48, 54, 48, 55, 48, 56, 48, 57, 49, 48, 49, 49, 49, 50, 49, 51, 49, 52, 49, 53, 49, 54, 49, 55, 49, 56, 49, 57, 50, 48, 50, 49, 50, 50, 50, 51, 50, 52, 50, 53, 50, 54, 50, 55, 50, 56, 50, 57, 51, 48, 51, 49, 51, 50, 51, 51, 51, 52, 51, 53, 51, 54, 51, 55, 51, 56, 51, 57, 52, 48, 52, 49, 52, 50, 52, 51, 52, 52, 52, 53, 52, 54, 52, 55, 52, 56, 52, 57, 53, 48, 53, 49, 53, 50, 53, 51, 53, 52, 53, 53, 53, 54, 53, 55, 53, 56, 53, 57, 54, 48, 54, 49, 54, 50, 54, 51, 54, 52, 54, 53, 54, 54, 54, 55, 54, 56, 54, 57, 55, 48, 55, 49, 55, 50, 55, 51, 55, 52, 55, 53, 55, 54, 55, 55, 55, 56, 55, 57, 56, 48, 56, 49, 56, 50, 56, 51, 56, 52, 56, 53, 56, 54, 56, 55, 56, 56, 56, 57, 57, 48, 57, 49, 57, 50, 57, 51, 57, 52, 57, 53, 57, 54, 57, 55, 57, 56, 57, 57]) x38 h fun x91 h =>
 viaddr 1 x0 x83 h fun x92 h =>
 vstore 1 x92 x89 h fun _ h =>
 viaddr 1 x0 x86 h fun x93 h =>
 vstore 1 x93 x91 h fun _ h =>
 vbin .sub 0 x4 (kI 8) h fun x95 h =>
 R 1 [x0, x25, x95] h)
 (R 2 [x0, x1, x4] h)
theorem e119_1 (O : Oracle) (R : Jump) (q : Nat) (x0 x1 x4 : TVal) (h : Heap) : b119_1 O R q x0 x1 x4 h = stepF c119 O R q 1 [x0, x1, x4] h := by kernel_rfl
noncomputable def b119_2 (O : Oracle) (R : Jump) (q : Nat) (x0 x1 x4 : TVal) (h : Heap) : Res1 :=
 vtoInt .u32 x1 h fun x97 h =>
 vbin .geq 0 x4 (kI 4) h fun x99 h =>
 vif x99 (
 vbin .rem 0 x97 (.v (.c (.p (.int .u32 10000)))) h fun x101 h =>
 vbin .quo 0 x97 (.v (.c (.p (.int .u32 10000)))) h fun x103 h =>
 vbin .quo 0 x101 (.v (.c (.p (.int .u32 100)))) h fun x105 h =>
 vbin .mul 0 x105 (.v (.c (.p (.int .u32 2)))) h fun x106 h =>
 vbin .rem 0 x101 (.v (.c (.p (.int .u32 100)))) h fun x108 h =>
 vbin .mul 0 x108 (.v (.c (.p (.int .u32 2)))) h fun x109 h =>
 vbin .sub 0 x4 (kI 1) h fun x112 h =>
 vbin .sub 0 x4 (kI 2) h fun x115 h =>
 vbin .add 0 x109 (.v (.c (.p (.int .u32 1)))) h fun x117 h =>
 vindex (kS [48, 48, 48, 49, 48, 50, 48, 51, 48, 52, 48, 53, 48, 54, 48, 55, 48, 56, 48, 57, 49, 48, 49, 49, 49, 50, 49, 51, 49, 52, 49, 53, 49, 54, 49, 55, 49, 56, 49, 57, 50, 48, 50, 49, 50, 50, 50, 51, 50, 52, 50, 53, 50, 54, 50, 55, 50, 56, 50, 57, 51, 48, 51, 49, 51, 50, 51, 51, 51, 52, 51, 53, 51, 54, 51, 55, 51, 56, 51, 57, 52, 48, 52, 49, 52, 50, 52, 51, 52, 52, 52, 53, 52, 54, 52, 55, 52, 56, 52, 57, 53, 48, 53, 49, 53, 50, 53, 51, 53, 52, 53, 53, 53, 54, 53, 55, 53, 56, 53, 57, 54, 48, 54, 49, 54, 50, 54, 51, 54, 52, 54, 53, 54, 54, 54, 55, 54, 56, 54, 57, 55, 48, 55, 49, 55, 50, 55, 51, 55, 52, 55, 53, 55, 54, 55, 55, 55, 56, 55, 57, 56, 48, 56, 49, 56, 50, 56, 51, 56, 52, 56, 53, 56, 54, 56, 55, 56, 56, 56, 57, 57, 48, 57, 49, 57, 50, 57, 51, 57, 52, 57, 53, 57, 54, 57, 55, 57, 56, 57, 57]) x117 h fun x118 h =>
 vindex (kS [48, 48, 48, 49, 48, 50, 48, 51, 48, 52, 48, 53, 48, 54, 48, 55, 48, 56, 48, 57, 49, 48, 49, 49, 49, 50, 49, 51, 49, 52, 49, 53, 49, 54, 49, 55, 49, 56, 49, 57, 50, 48, 50, 49, 50, 50, 50, 51, 50, 52, 50, 53, 50, 54, 50, 55, 50, 56, 50, 57, 51, 48, 51, 49, 51, 50, 51, 51, 51, 52, 51, 53, 51, 54, 51, 55, 51, 56, 51, 57, 52, 48, 52, 49, 52, 50, 52, 51, 52, 52, 52, 53, 52, 54, 52, 55, 52, 56, 52, 57, 53, 48, 53, 49, 53, 50, 53, 51, 53, 52, 53, 53, 53, 54, 53, 55, 53, 56, 53, 57, 54, 48, 54, 49, 54, 50, 54, 51, 54, 52, 54, 53, 54, 54, 54, 55, 54, 56, 54, 57, 55, 48, 55, 49, 55, 50, 55, 51, 55, 52, 55, 53, 55, 54, 55, 55, 55, 56, 55, 57, 56, 48, 56, 49, 56, 50, 56, 51, 56, 52, 56, 53, 56, 54, 56, 55, 56, 56, 56, 57, 57, 48, 57, 49, 57, 50, 57, 51, 57, 52, 57, 53, 57, 54, 57, 55, 57, 56, 57, 57]) x109 h fun x120 h =>
 viaddr 1 x0 x112 h fun x121 h =>
 vstore 1 x121 x118 h fun _ h =>
 viaddr 1 x0 x115 h fun x122 h =>
 vstore 1 x122 x120 h fun _ h =>
 vbin .sub 0 x4 (kI 3) h fun x125 h =>
 vbin .sub 0 x4 (kI 4) h fun x128 h =>
 vbin .add 0 x106 (.v (.c (.p (.int .u32 1)))) h fun x130 h =>
 vindex (kS [48, 48, 48, 49, 48, 50, 48, 51, 48, 52, 48, 53, 48, 54, 48, 55, 48, 56, 48, 57, 49, 48, 49, 49, 49, 50, 49, 51, 49, 52, 49, 53, 49, 54, 49, 55, 49, 56, 49, 57, 50, 48, 50, 49, 50, 50, 50, 51, 50, 52, 50, 53, 50, 54, 50, 55, 50, 56, 50, 57, 51, 48, 51, 49, 51, 50, 51, 51, 51, 52, 51, 53, 51, 54, 51, 55, 51, 56, 51, 57, 52, 48, 52, 49, 52, 50, 52, 51, 52, 52, 52, 53, 52, 54, 52, 55, 52, 56, 52, 57, 53, 48, 53, 49, 53, 50, 53, 51, 53, 52, 53, 53, 53, 54, 53, 55, 53, 56, 53, 57, 54, 48, 54, 49, 54, 50, 54, 51, 54, 52, 54, 53, 54, 54, 54, 55, 54, 56, 54, 57, 55, 48, 55, 49, 55, 50, 55, 51, 55, 52, 55, 53, 55, 54, 55, 55, 55, 56, 55, 57, 56, 48, 56, 49, 56, 50, 56, 51, 56, 52, 56, 53, 56, 54, 56, 55, 56, 56, 56, 57, 57, 48, 57, 49, 57, 50, 57, 51, 57, 52, 57, 53, 57, 54, 57, 55, 57, 56, 57, 57]) x130 h fun x131 h =>
 vindex (kS [48, 48, 48, 49, 48, 50, 48, 51, 48, 52, 48, 53, 48, 54, 48, 55, 48, 56, 48, 57, 49, 48, 49, 49, 49, 50, 49, 51, 49, 52, 49, 53, 49, 54, 49, 55, 49, 56, 49, 57, 50, 48, 50, 49, 50, 50, 50, 51, 50, 52, 50, 53, 50, 54, 50, 55, 50, 56, 50, 57, 51, 48, 51, 49, 51, 50, 51, 51, 51, 52, 51, 53, 51, 54, 51, 55, 51, 56, 51, 57, 52, 48, 52, 49, 52, 50, 52, 51, 52, 52, 52, 53, 52, 54, 52, 55, 52, 56, 52, 57, 53, 48, 53, 49, 53, 50, 53, 51, 53, 52, 53, 53, 53, 54, 53, 55, 53, 56, 53, 57, 54, 48, 54, 49, 54, 50, 54, 51, 54, 52, 54, 53, 54, 54, 54, 55, 54, 56, 54, 57, 55, 48, 55, 49, 55, 50, 55, 51, 55, 52, 55, 53, 55, 54, 55, 55, 55, 56, 55, 57, 56, 48, 56, 49, 56, 50, 56, 51, 56, 52, 56, 53, 56, 54, 56, 55, 56, 56, 56, 57, 57, 48, 57, 49, 57, 50, 57, 51, 57, 52, 57, 53, 57, 54, 57, 55, 57, 56, 57, 57]) x106 h fun x133 h =>
 viaddr 1 x0 x125 h fun x134 h =>
 vstore 1 x134 x131 h fun _ h =>
 viaddr 1 x0 x128 h fun x135 h =>
 vstore 1 x135 x133 h fun _ h =>
 vbin .sub 0 x4 (kI 4) h fun x137 h =>
 R 3 [x0, x137, x103] h)
 (R 3 [x0, x4, x97] h)
theorem e119_2 (O : Oracle) (R : Jump) (q : Nat) (x0 x1 x4 : TVal) (h : Heap) : b119_2 O R q x0 x1 x4 h = stepF c119 O R q 2 [x0, x1, x4] h := by kernel_rfl
noncomputable def b119_3 (O : Oracle) (R : Jump) (q : Nat) (x0 x4 x12 : TVal) (h : Heap) : Res1 :=
 vbin .geq 0 x4 (kI 2) h fun x139 h =>
 vif x139 (
 vbin .rem 0 x12 (.v (.c (.p (.int .u32 100)))) h fun x141 h =>
 vbin .mul 0 x141 (.v (.c (.p (.int .u32 2)))) h fun x142 h =>
 vbin .quo 0 x12 (.v (.c (.p (.int .u32 100)))) h fun x144 h =>
 vbin .sub 0 x4 (kI 1) h fun x147 h =>
 vbin .sub 0 x4 (kI 2) h fun x150 h =>
 vbin .add 0 x142 (.v (.c (.p (.int .u32 1)))) h fun x152 h =>
 vindex (kS [48, 48, 48, 49, 48, 50, 48, 51, 48, 52, 48, 53, 48, 54, 48, 55, 48, 56, 48, 57, 49, 48, 49, 49, 49, 50, 49, 51, 49, 52, 49, 53, 49, 54, 49, 55, 49, 56, 49, 57, 50, 48, 50, 49, 50, 50, 50, 51, 50, 52, 50, 53, 50, 54, 50, 55, 50, 56, 50, 57, 51, 48, 51, 49, 51, 50, 51, 51, 51, 52, 51, 53, 51, 54, 51, 55, 51, 56, 51, 57, 52, 48, 52, 49, 52, 50, 52, 51, 52, 52, 52, 53, 52, 54, 52, 55, 52, 56, 52, 57, 53, 48, 53, 49, 53, 50, 53, 51, 53, 52, 53, 53, 53, 54, 53, 55, 53, 56, 53, 57, 54, 48, 54, 49, 54, 50, 54, 51, 54, 52, 54, 53, 54, 54, 54, 55, 54, 56, 54, 57, 55, 48, 55, 49, 55, 50, 55, 51, 55, 52, 55, 53, 55, 54, 55, 55, 55, 56, 55, 57, 56, 48, 56, 49, 56, 50, 56, 51, 56, 52, 56, 53, 56, 54, 56, 55, 56, 56, 56, 57, 57, 48, 57, 49, 57, 50, 57, 51, 57, 52, 57, 53, 57, 54, 57, 55, 57, 56, 57, 57]) x152 h fun x153 h =>
 vindex (kS [48, 48, 48, 49, 48, 50, 48, 51, 48, 52, 48, 53, 48, 54, 48, 55, 48, 56, 48, 57, 49, 48, 49, 49, 49, 50, 49, 51, 49, 52, 49, 53, 49, 54, 49, 55, 49, 56, 49, 57, 50, 48, 50, 49, 50, 50, 50, 51, 50, 52, 50, 53, 50, 54, 50, 55, 50, 56, 50, 57, 51, 48, 51, 49, 51, 50, 51, 51, 51, 52, 51, 53, 51, 54, 51, 55, 51, 56, 51, 57, 52, 48, 52, 49, 52, 50, 52, 51, 52, 52, 52, 53, 52, 54, 52, 55, 52, 56, 52, 57, 53, 48, 53, 49, 53, 50, 53, 51, 53, 52, 53, 53, 53, 54, 53, 55, 53, 56, 53, 57, 54, 48, 54, 49, 54, 50, 54, 51, 54, 52, 54, 53, 54, 54, 54, 55, 54, 56, 54, 57, 55, 48, 55, 49, 55, 50, 55, 51, 55, 52, 55, 53, 55, 54, 55, 55, 55, 56, 55, 57, 56, 48, 56, 49, 56, 50, 56, 51, 56, 52, 56, 53, 56, 54, 56, 55, 56, 56, 56, 57, 57, 48, 57, 49, 57, 50, 57, 51, 57, 52, 57, 53, 57, 54, 57, 55, 57, 56, 57, 57]) x142 h fun x155 h =>
 viaddr 1 x0 x147 h fun x156 h =>
 vstore 1 x156 x153 h fun _ h =>
 viaddr 1 x0 x150 h fun x157 h =>
 vstore 1 x157 x155 h fun _ h =>
 vbin .sub 0 x4 (kI 2) h fun x159 h =>
 R 4 [x0, x159, x144] h)
 (R 4 [x0, x4, x12] h)
theorem e119_3 (O : Oracle) (R : Jump) (q : Nat) (x0 x4 x12 : TVal) (h : Heap) : b119_3 O R q x0 x4 x12 h = stepF c119 O R q 3 [x0, x4, x12] h := by kernel_rfl
noncomputable def b119_4 (O : Oracle) (R : Jump) (q : Nat) (x0 x4 x12 : TVal) (h : Heap) : Res1 :=
 vbin .gtr 0 x4 (kI 0) h fun x161 h =>
 vif x161 (
 vbin .add 0 (.v (.c (.p (.int .u32 48)))) x12 h fun x164 h =>
 vtoInt .u8 x164 h fun x165 h =>
 viaddr 1 x0 (kI 0) h fun x166 h =>
 vstore 1 x166 x165 h fun _ h =>
 vfin true q [] h)
 (vfin true q [] h)
theorem e119_4 (O : Oracle) (R : Jump) (q : Nat) (x0 x4 x12 : TVal) (h : Heap) : b119_4 O R q x0 x4 x12 h = stepF c119 O R q 4 [x0, x4, x12] h := by kernel_rfl
noncomputable def d119 : BlkF := fun O R q => [.s fun y0 => .s fun y1 => .z fun h => b119_0 O R q y0 y1 h, .s fun y0 => .s fun y1 => .s fun y2 => .z fun h => b119_1 O R q y0 y1 y2 h, .s fun y0 => .s fun y1 => .s fun y2 => .z fun h => b119_2 O R q y0 y1 y2 h, .s fun y0 => .s fun y1 => .s fun y2 => .z fun h => b119_3 O R q y0 y1 y2 h, .s fun y0 => .s fun y1 => .s fun y2 => .z fun h => b119_4 O R q y0 y1 y2 h]
theorem o119 (O : Oracle) (R : Jump) (q : Nat) : HoldsAll c119 O R q 0 (d119 O R q) := ⟨fun y0 y1 h => e119_0 O R q y0 y1 h, fun y0 y1 y2 h => e119_1 O R q y0 y1 y2 h, fun y0 y1 y2 h => e119_2 O R q y0 y1 y2 h, fun y0 y1 y2 h => e119_3 O R q y0 y1 y2 h, fun y0 y1 y2 h => e119_4 O R q y0 y1 y2 h, trivial⟩
/- internal/strconv.formatBits -/
def c120 : MFunc := { np := 5, res := [.t 10, .t 11], frz := true, body := (.seq (.reg [(oA 10 (.mv (.k (.v (.c (.p .nilslice)))))), (oA 11 (.mv (.k (.v (.c (.p (.str [])))))))] []) (.seq (.seq (.reg [(oA 19 (.mv (.t 2))), (oA 20 (.bin .lss 0 (.t 19) (.k (.v (.c (.p (.int .i64 2))))))), (oA 21 (.mv (.t 20))), ⟨(some 22), (.mv (.t 2)), (some (21, false))⟩, ⟨(some 23), (.bin .eql 0 (.t 22) (.k (.v (.c (.p (.int .i64 10)))))), (some (21, false))⟩, (oA 24 (.pick (.t 21) (.k (.v (.c (.p (.bool true))))) (.t 23))), (oA 25 (.mv (.t 24))), ⟨(some 26), (.mv (.t 2)), (some (25, false))⟩, ⟨(some 27), (.bin .gtr 0 (.t 26) (.k (.v (.c (.p (.int .i64 36)))))), (some (25, false))⟩, (oA 28 (.pick (.t 25) (.k (.v (.c (.p (.bool true))))) (.t 27)))] []) (.cond (.t 28) (.reg [(oA 29 .bad), (oN .bad)] []) .skip)) (.mark 1 [0, 1, 2, 3, 4, 10, 11] (.seq (.reg [(oA 12 (.alloc [(.p (.int .u8 0)), (.p (.int .u8 0)), (.p (.int .u8 0)), (.p (.int .u8 0)), (.p (.int .u8 0)), (.p (.int .u8 0)), (.p (.int .u8 0)), (.p (.int .u8 0)), (.p (.int .u8 0)), (.p (.int .u8 0)), (.p (.int .u8 0)), (.p (.int .u8 0)), (.p (.int .u8 0)), (.p (.int .u8 0)), (.p (.int .u8 0)), (.p (.int .u8 0)), (.p (.int .u8 0)), (.p (.int .u8 0)), (.p (.int .u8 0)), (.p (.int .u8 0)), (.p (.int .u8 0)), (.p (.int .u8 0)), (.p (.int .u8 0)), (.p (.int .u8 0)), (.p (.int .u8 0)), (.p (.int .u8 0)), (.p (.int .u8 0)), (.p (.int .u8 0)), (.p (.int .u8 0)), (.p (.int .u8 0)), (.p (.int .u8 0)), (.p (.int .u8 0)), (.p (.int .u8 0)), (.p (.int .u8 0)), (.p (.int .u8 0)), (.p (.int .u8 0)), (.p (.int .u8 0)), (.p (.int .u8 0)), (.p (.int .u8 0)), (.p (.int .u8 0)), (.p (.int .u8 0)), (.p (.int .u8 0)), (.p (.int .u8 0)), (.p (.int .u8 0)), (.p (.int .u8 0)), (.p (.int .u8 0)), (.p (.int .u8 0)), (.p (.int .u8 0)), (.p (.int .u8 0)), (.p (.int .u8 0)), (.p (.int .u8 0)), (.p (.int .u8 0)), (.p (.int .u8 0)), (.p (.int .u8 0)), (.p (.int .u8 0)), (.p (.int .u8 0)), (.p (.int .u8 0)), (.p (.int .u8 0)), (.p (.int .u8 0)), (.p (.int .u8 0)), (.p (.int .u8 0)), (.p (.int .u8 0)), (.p (.int .u8 0)), (.p (.int .u8 0)), (.p (.int .u8 0))] false))] []) (.seq (.reg [(oA 13 (.mv (.k (.v (.c (.p (.int .i64 65)))))))] []) (.seq (.seq (.reg [(oA 30 (.mv (.t 3)))] []) (.cond (.t 30) (.reg [(oA 31 (.mv (.t 1))), (oA 32 (.un .neg (.t 31))), (oA 1 (.mv (.t 32)))] []) .skip)) (.mark 2 [0, 1, 2, 3, 4, 10, 11, 12, 13] (.seq (.seq (.reg [(oA 33 (.mv (.t 2))), (oA 34 (.call (.k (.v (.c (.func 134 [])))) [(.t 33)]))] []) (.cond (.t 34) (.seq (.reg [(oA 35 (.mv (.t 2))), (oA 36 (.toInt .u64 (.t 35))), (oA 37 (.call (.k (.v (.c (.func 135 [])))) [(.t 36)])), (oA 38 (.toInt .u64 (.t 37))), (oA 14 (.mv (.t 38)))] []) (.seq (.reg [(oA 39 (.mv (.t 2))), (oA 40 (.toInt .u64 (.t 39))), (oA 15 (.mv (.t 40)))] []) (.seq (.reg [(oA 41 (.mv (.t 2))), (oA 42 (.toInt .u64 (.t 41))), (oA 43 (.bin .sub 0 (.t 42) (.k (.v (.c (.p (.int .u64 1))))))), (oA 16 (.mv (.t 43)))] []) (.seq (.block 0 (.loop 3 [0, 1, 3, 4, 10, 11, 12, 13, 14, 15, 16] (.seq (.seq (.reg [(oA 44 (.mv (.t 1))), (oA 45 (.mv (.t 15))), (oA 46 (.bin .geq 0 (.t 44) (.t 45)))] []) (.cond (.t 46) .skip (.exit 0))) (.block 1 (.seq (.reg [(oA 47 (.mv (.t 13))), (oA 48 (.bin .sub 0 (.t 47) (.k (.v (.c (.p (.int .i64 1))))))), (oA 13 (.mv (.t 48)))] []) (.seq (.reg [(oA 49 (.mv (.t 13))), (oA 50 (.mv (.t 1))), (oA 51 (.mv (.t 16))), (oA 52 (.bin .and 0 (.t 50) (.t 51))), (oA 53 (.index (.k (.v (.c (.p (.str [48, 49, 50, 51, 52, 53, 54, 55, 56, 57, 97, 98, 99, 100, 101, 102, 103, 104, 105, 106, 107, 108, 109, 110, 111, 112, 113, 114, 115, 116, 117, 118, 119, 120, 121, 122]))))) (.t 52))), (oA 54 (.iaddrA 65 1 (.t 12) (.t 49))), (oN (.store 1 (.t 54) (.t 53)))] []) (.reg [(oA 55 (.mv (.t 1))), (oA 56 (.mv (.t 14))), (oA 57 (.bin .shr 0 (.t 55) (.t 56))), (oA 1 (.mv (.t 57)))] []))))))) (.mark 4 [0, 1, 3, 4, 10, 11, 12, 13] (.seq (.reg [(oA 58 (.mv (.t 13))), (oA 59 (.bin .sub 0 (.t 58) (.k (.v (.c (.p (.int .i64 1))))))), (oA 13 (.mv (.t 59)))] []) (.reg [(oA 60 (.mv (.t 13))), (oA 61 (.mv (.t 1))), (oA 62 (.index (.k (.v (.c (.p (.str [48, 49, 50, 51, 52, 53, 54, 55, 56, 57, 97, 98, 99, 100, 101, 102, 103, 104, 105, 106, 107, 108, 109, 110, 111, 112, 113, 114, 115, 116, 117, 118, 119, 120, 121, 122]))))) (.t 61))), (oA 63 (.iaddrA 65 1 (.t 12) (.t 60))), (oN (.store 1 (.t 63) (.t 62)))] []))))))) (.seq (.reg [(oA 64 (.mv (.t 2))), (oA 65 (.toInt .u64 (.t 64))), (oA 17 (.mv (.t 65)))] []) (.seq (.block 2 (.loop 5 [0, 1, 3, 4, 10, 11, 12, 13, 17] (.seq (.seq (.reg [(oA 66 (.mv (.t 1))), (oA 67 (.mv (.t 17))), (oA 68 (.bin .geq 0 (.t 66) (.t 67)))] []) (.cond (.t 68) .skip (.exit 2))) (.block 3 (.seq (.reg [(oA 69 (.mv (.t 13))), (oA 70 (.bin .sub 0 (.t 69) (.k (.v (.c (.p (.int .i64 1))))))), (oA 13 (.mv (.t 70)))] []) (.seq (.reg [(oA 71 (.mv (.t 1))), (oA 72 (.mv (.t 17))), (oA 73 (.bin .quo 0 (.t 71) (.t 72))), (oA 18 (.mv (.t 73)))] []) (.seq (.reg [(oA 74 (.mv (.t 13))), (oA 75 (.mv (.t 1))), (oA 76 (.mv (.t 18))), (oA 77 (.mv (.t 17))), (oA 78 (.bin .mul 0 (.t 76) (.t 77))), (oA 79 (.bin .sub 0 (.t 75) (.t 78))), (oA 80 (.index (.k (.v (.c (.p (.str [48, 49, 50, 51, 52, 53, 54, 55, 56, 57, 97, 98, 99, 100, 101, 102, 103, 104, 105, 106, 107, 108, 109, 110, 111, 112, 113, 114, 115, 116, 117, 118, 119, 120, 121, 122]))))) (.t 79))), (oA 81 (.iaddrA 65 1 (.t 12) (.t 74))), (oN (.store 1 (.t 81) (.t 80)))] []) (.reg [(oA 82 (.mv (.t 18))), (oA 1 (.mv (.t 82)))] [])))))))) (.mark 6 [0, 1, 3, 4, 10, 11, 12, 13] (.seq (.reg [(oA 83 (.mv (.t 13))), (oA 84 (.bin .sub 0 (.t 83) (.k (.v (.c (.p (.int .i64 1))))))), (oA 13 (.mv (.t 84)))] []) (.reg [(oA 85 (.mv (.t 13))), (oA 86 (.mv (.t 1))), (oA 87 (.index (.k (.v (.c (.p (.str [48, 49, 50, 51, 52, 53, 54, 55, 56, 57, 97, 98, 99, 100, 101, 102, 103, 104, 105, 106, 107, 108, 109, 110, 111, 112, 113, 114, 115, 116, 117, 118, 119, 120, 121, 122]))))) (.t 86))), (oA 88 (.iaddrA 65 1 (.t 12) (.t 85))), (oN (.store 1 (.t 88) (.t 87)))] []))))))) (.mark 7 [0, 3, 4, 10, 11, 12, 13] (.seq (.seq (.reg [(oA 89 (.mv (.t 3)))] []) (.cond (.t 89) (.seq (.reg [(oA 90 (.mv (.t 13))), (oA 91 (.bin .sub 0 (.t 90) (.k (.v (.c (.p (.int .i64 1))))))), (oA 13 (.mv (.t 91)))] []) (.reg [(oA 92 (.mv (.t 13))), (oA 93 (.iaddrA 65 1 (.t 12) (.t 92))), (oN (.store 1 (.t 93) (.k (.v (.c (.p (.int .u8 45)))))))] [])) .skip)) (.mark 8 [0, 4, 10, 11, 12, 13] (.seq (.seq (.reg [(oA 94 (.mv (.t 4)))] []) (.cond (.t 94) (.seq (.reg [(oA 95 (.mv (.t 0))), (oA 96 (.mv (.t 13))), (oA 97 (.sliceA 65 1 (.t 12) (some (.t 96)) none)), (oA 98 (.append 1 1 false (.t 95) (.t 97))), (oA 10 (.mv (.t 98)))] []) .ret) .skip)) (.seq (.reg [(oA 99 (.mv (.t 13))), (oA 100 (.sliceA 65 1 (.t 12) (some (.t 99)) none)), (oA 101 (.toStr (.t 100))), (oA 11 (.mv (.t 101)))] []) .ret))))))))))))) }
theorem t120 : compF Tryz.prog (globs2 tabs opq) (fun _ => false) true Tryz.f120 = some c120.erase := by kernel_rfl
noncomputable def b120_0 (O : Oracle) (R : Jump) (q : Nat) (x0 x1 x2 x3 x4 : TVal) (h : Heap) : Res1 :=
 vbin .lss 0 x2 (kI 2) h fun x20 h =>
 vguard x20 false (fun kk => kk x2 h) h fun x22 h =>
 vguard x20 false (fun kk => vbin .eql 0 x22 (kI 10) h kk) h fun x23 h =>
 vop O (.pick (.k x20) (.k (kB true)) (.k x23)) h 24 fun x24 h =>
 vguard x24 false (fun kk => kk x2 h) h fun x26 h =>
 vguard x24 false (fun kk => vbin .gtr 0 x26 (kI 36) h kk) h fun x27 h =>
 vop O (.pick (.k x24) (.k (kB true)) (.k x27)) h 28 fun x28 h =>
 vif x28 (
 none)
 (R 1 [x0, x1, x2, x3, x4, (.v (.c (.p .nilslice))), (kS [])] h)
theorem e120_0 (O : Oracle) (R : Jump) (q : Nat) (x0 x1 x2 x3 x4 : TVal) (h : Heap) : b120_0 O R q x0 x1 x2 x3 x4 h = stepF c120 O R q 0 [x0, x1, x2, x3, x4] h := by kernel_rfl
noncomputable def b120_1 (O : Oracle) (R : Jump) (q : Nat) (x0 x1 x2 x3 x4 x10 x11 : TVal) (h : Heap) : Res1 :=
 vop O (.alloc [(.p (.int .u8 0)), (.p (.int .u8 0)), (.p (.int .u8 0)), (.p (.int .u8 0)), (.p (.int .u8 0)), (.p (.int .u8 0)), (.p (.int .u8 0)), (.p (.int .u8 0)), (.p (.int .u8 0)), (.p (.int .u8 0)), (.p (.int .u8 0)), (.p (.int .u8 0)), (.p (.int .u8 0)), (.p (.int .u8 0)), (.p (.int .u8 0)), (.p (.int .u8 0)), (.p (.int .u8 0)), (.p (.int .u8 0)), (.p (.int .u8 0)), (.p (.int .u8 0)), (.p (.int .u8 0)), (.p (.int .u8 0)), (.p (.int .u8 0)), (.p (.int .u8 0)), (.p (.int .u8 0)), (.p (.int .u8 0)), (.p (.int .u8 0)), (.p (.int .u8 0)), (.p (.int .u8 0)), (.p (.int .u8 0)), (.p (.int .u8 0)), (.p (.int .u8 0)), (.p (.int .u8 0)), (.p (.int .u8 0)), (.p (.int .u8 0)), (.p (.int .u8 0)), (.p (.int .u8 0)), (.p (.int .u8 0)), (.p (.int .u8 0)), (.p (.int .u8 0)), (.p (.int .u8 0)), (.p (.int .u8 0)), (.p (.int .u8 0)), (.p (.int .u8 0)), (.p (.int .u8 0)), (.p (.int .u8 0)), (.p (.int .u8 0)), (.p (.int .u8 0)), (.p (.int .u8 0)), (.p (.int .u8 0)), (.p (.int .u8 0)), (.p (.int .u8 0)), (.p (.int .u8 0)), (.p (.int .u8 0)), (.p (.int .u8 0)), (.p (.int .u8 0)), (.p (.int .u8 0)), (.p (.int .u8 0)), (.p (.int .u8 0)), (.p (.int .u8 0)), (.p (.int .u8 0)), (.p (.int .u8 0)), (.p (.int .u8 0)), (.p (.int .u8 0)), (.p (.int .u8 0))] false) h 12 fun x12 h =>
 vif x3 (
 vop O (.un .neg (.k x1)) h 32 fun x32 h =>
 R 2 [x0, x32, x2, x3, x4, x10, x11, x12, (kI 65)] h)
 (R 2 [x0, x1, x2, x3, x4, x10, x11, x12, (kI 65)] h)
theorem e120_1 (O : Oracle) (R : Jump) (q : Nat) (x0 x1 x2 x3 x4 x10 x11 : TVal) (h : Heap) : b120_1 O R q x0 x1 x2 x3 x4 x10 x11 h = stepF c120 O R q 1 [x0, x1, x2, x3, x4, x10, x11] h := by kernel_rfl
noncomputable def b120_2 (O : Oracle) (R : Jump) (q : Nat) (x0 x1 x2 x3 x4 x10 x11 x12 x13 : TVal) (h : Heap) : Res1 :=
 vcall O (.v (.c (.func 134 []))) [x2] h 34 fun x34 h =>
 vif x34 (
 vtoInt .u64 x2 h fun x36 h =>
 vcall O (.v (.c (.func 135 []))) [x36] h 37 fun x37 h =>
 vtoInt .u64 x37 h fun x38 h =>
 vtoInt .u64 x2 h fun x40 h =>
 vtoInt .u64 x2 h fun x42 h =>
 vbin .sub 0 x42 (.v (.c (.p (.int .u64 1)))) h fun x43 h =>
 R 3 [x0, x1, x3, x4, x10, x11, x12, x13, x38, x40, x43] h)
 (vtoInt .u64 x2 h fun x65 h =>
 R 5 [x0, x1, x3, x4, x10, x11, x12, x13, x65] h)
theorem e120_2 (O : Oracle) (R : Jump) (q : Nat) (x0 x1 x2 x3 x4 x10 x11 x12 x13 : TVal) (h : Heap) : b120_2 O R q x0 x1 x2 x3 x4 x10 x11 x12 x13 h = stepF c120 O R q 2 [x0, x1, x2, x3, x4, x10, x11, x12, x13] h := by kernel_rfl
noncomputable def b120_3 (O : Oracle) (R : Jump) (q : Nat) (x0 x1 x3 x4 x10 x11 x12 x13 x14 x15 x16 : TVal) (h : Heap) : Res1 :=
 vbin .geq 0 x1 x15 h fun x46 h =>
 vif x46 (
 vbin .sub 0 x13 (kI 1) h fun x48 h =>
 vbin .and 0 x1 x16 h fun x52 h =>
 vindex (kS [48, 49, 50, 51, 52, 53, 54, 55, 56, 57, 97, 98, 99, 100, 101, 102, 103, 104, 105, 106, 107, 108, 109, 110, 111, 112, 113, 114, 115, 116, 117, 118, 119, 120, 121, 122]) x52 h fun x53 h =>
 vop O (.iaddrA 65 1 (.k x12) (.k x48)) h 54 fun x54 h =>
 vstore 1 x54 x53 h fun _ h =>
 vbin .shr 0 x1 x14 h fun x57 h =>
 R 3 [x0, x57, x3, x4, x10, x11, x12, x48, x14, x15, x16] h)
 (R 4 [x0, x1, x3, x4, x10, x11, x12, x13] h)
theorem e120_3 (O : Oracle) (R : Jump) (q : Nat) (x0 x1 x3 x4 x10 x11 x12 x13 x14 x15 x16 : TVal) (h : Heap) : b120_3 O R q x0 x1 x3 x4 x10 x11 x12 x13 x14 x15 x16 h = stepF c120 O R q 3 [x0, x1, x3, x4, x10, x11, x12, x13, x14, x15, x16] h := by kernel_rfl
noncomputable def b120_4 (O : Oracle) (R : Jump) (q : Nat) (x0 x1 x3 x4 x10 x11 x12 x13 : TVal) (h : Heap) : Res1 :=
 vbin .sub 0 x13 (kI 1) h fun x59 h =>
 vindex (kS [48, 49, 50, 51, 52, 53, 54, 55, 56, 57, 97, 98, 99, 100, 101, 102, 103, 104, 105, 106, 107, 108, 109, 110, 111, 112, 113, 114, 115, 116, 117, 118, 119, 120, 121, 122]) x1 h fun x62 h =>
 vop O (.iaddrA 65 1 (.k x12) (.k x59)) h 63 fun x63 h =>
 vstore 1 x63 x62 h fun _ h =>
 R 7 [x0, x3, x4, x10, x11, x12, x59] h
theorem e120_4 (O : Oracle) (R : Jump) (q : Nat) (x0 x1 x3 x4 x10 x11 x12 x13 : TVal) (h : Heap) : b120_4 O R q x0 x1 x3 x4 x10 x11 x12 x13 h = stepF c120 O R q 4 [x0, x1, x3, x4, x10, x11, x12, x13] h := by kernel_rfl
noncomputable def b120_5 (O : Oracle) (R : Jump) (q : Nat) (x0 x1 x3 x4 x10 x11 x12 x13 x17 : TVal) (h : Heap) : Res1 :=
 vbin .geq 0 x1 x17 h fun x68 h =>
 vif x68 (
 vbin .sub 0 x13 (kI 1) h fun x70 h =>
 vbin .quo 0 x1 x17 h fun x73 h =>
 vbin .mul 0 x73 x17 h fun x78 h =>
 vbin .sub 0 x1 x78 h fun x79 h =>
 vindex (kS [48, 49, 50, 51, 52, 53, 54, 55, 56, 57, 97, 98, 99, 100, 101, 102, 103, 104, 105, 106, 107, 108, 109, 110, 111, 112, 113, 114, 115, 116, 117, 118, 119, 120, 121, 122]) x79 h fun x80 h =>
 vop O (.iaddrA 65 1 (.k x12) (.k x70)) h 81 fun x81 h =>
 vstore 1 x81 x80 h fun _ h =>
 R 5 [x0, x73, x3, x4, x10, x11, x12, x70, x17] h)
 (R 6 [x0, x1, x3, x4, x10, x11, x12, x13] h)
theorem e120_5 (O : Oracle) (R : Jump) (q : Nat) (x0 x1 x3 x4 x10 x11 x12 x13 x17 : TVal) (h : Heap) : b120_5 O R q x0 x1 x3 x4 x10 x11 x12 x13 x17 h = stepF c120 O R q 5 [x0, x1, x3, x4, x10, x11, x12, x13, x17] h := by kernel_rfl
noncomputable def b120_6 (O : Oracle) (R : Jump) (q : Nat) (x0 x1 x3 x4 x10 x11 x12 x13 : TVal) (h : Heap) : Res1 :=
 vbin .sub 0 x13 (kI 1) h fun x84 h =>
 vindex (kS [48, 49, 50, 51, 52, 53, 54, 55, 56, 57, 97, 98, 99, 100, 101, 102, 103, 104, 105, 106, 107, 108, 109, 110, 111, 112, 113, 114, 115, 116, 117, 118, 119, 120, 121, 122]) x1 h fun x87 h =>
 vop O (.iaddrA 65 1 (.k x12) (.k x84)) h 88 fun x88 h =>
 vstore 1 x88 x87 h fun _ h =>
 R 7 [x0, x3, x4, x10, x11, x12, x84] h
theorem e120_6 (O : Oracle) (R : Jump) (q : Nat) (x0 x1 x3 x4 x10 x11 x12 x13 : TVal) (h : Heap) : b120_6 O R q x0 x1 x3 x4 x10 x11 x12 x13 h = stepF c120 O R q 6 [x0, x1, x3, x4, x10, x11, x12, x13] h := by kernel_rfl
noncomputable def b120_7 (O : Oracle) (R : Jump) (q : Nat) (x0 x3 x4 x10 x11 x12 x13 : TVal) (h : Heap) : Res1 :=
 vif x3 (
 vbin .sub 0 x13 (kI 1) h fun x91 h =>
 vop O (.iaddrA 65 1 (.k x12) (.k x91)) h 93 fun x93 h =>
 vstore 1 x93 (.v (.c (.p (.int .u8 45)))) h fun _ h =>
 R 8 [x0, x4, x10, x11, x12, x91] h)
 (R 8 [x0, x4, x10, x11, x12, x13] h)
theorem e120_7 (O : Oracle) (R : Jump) (q : Nat) (x0 x3 x4 x10 x11 x12 x13 : TVal) (h : Heap) : b120_7 O R q x0 x3 x4 x10 x11 x12 x13 h = stepF c120 O R q 7 [x0, x3, x4, x10, x11, x12, x13] h := by kernel_rfl
noncomputable def b120_8 (O : Oracle) (R : Jump) (q : Nat) (x0 x4 x10 x11 x12 x13 : TVal) (h : Heap) : Res1 :=
 vif x4 (
 vop O (.sliceA 65 1 (.k x12) (some (.k x13)) none) h 97 fun x97 h =>
 vop O (.append 1 1 false (.k x0) (.k x97)) h 98 fun x98 h =>
 tcomp x98 fun c0 => tcomp x11 fun c1 => vfin true q [c0, c1] h)
 (vop O (.sliceA 65 1 (.k x12) (some (.k x13)) none) h 100 fun x100 h =>
 vop O (.toStr (.k x100)) h 101 fun x101 h =>
 tcomp x10 fun c0 => tcomp x101 fun c1 => vfin true q [c0, c1] h)
theorem e120_8 (O : Oracle) (R : Jump) (q : Nat) (x0 x4 x10 x11 x12 x13 : TVal) (h : Heap) : b120_8 O R q x0 x4 x10 x11 x12 x13 h = stepF c120 O R q 8 [x0, x4, x10, x11, x12, x13] h := by kernel_rfl
noncomputable def d120 : BlkF := fun O R q => [.s fun y0 => .s fun y1 => .s fun y2 => .s fun y3 => .s fun y4 => .z fun h => b120_0 O R q y0 y1 y2 y3 y4 h, .s fun y0 => .s fun y1 => .s fun y2 => .s fun y3 => .s fun y4 => .s fun y5 => .s fun y6 => .z fun h => b120_1 O R q y0 y1 y2 y3 y4 y5 y6 h, .s fun y0 => .s fun y1 => .s fun y2 => .s fun y3 => .s fun y4 => .s fun y5 => .s fun y6 => .s fun y7 => .s fun y8 => .z fun h => b120_2 O R q y0 y1 y2 y3 y4 y5 y6 y7 y8 h, .s fun y0 => .s fun y1 => .s fun y2 => .s fun y3 => .s fun y4 => .s fun y5 => .s fun y6 => .s fun y7 => .s fun y8 => .s fun y9 => .s fun y10 => .z fun h => b120_3 O R q y0 y1 y2 y3 y4 y5 y6 y7 y8 y9 y10 h, .s fun y0 => .s fun y1 => .s fun y2 => .s fun y3 => .s fun y4 => .s fun y5 => .s fun y6 => .s fun y7 => .z fun h => b120_4 O R q y0 y1 y2 y3 y4 y5 y6 y7 h, .s fun y0 => .s fun y1 => .s fun y2 => .s fun y3 => .s fun y4 => .s fun y5 => .s fun y6 => .s fun y7 => .s fun y8 => .z fun h => b120_5 O R q y0 y1 y2 y3 y4 y5 y6 y7 y8 h, .s fun y0 => .s fun y1 => .s fun y2 => .s fun y3 => .s fun y4 => .s fun y5 => .s fun y6 => .s fun y7 => .z fun h => b120_6 O R q y0 y1 y2 y3 y4 y5 y6 y7 h, .s fun y0 => .s fun y1 => .s fun y2 => .s fun y3 => .s fun y4 => .s fun y5 => .s fun y6 => .z fun h => b120_7 O R q y0 y1 y2 y3 y4 y5 y6 h, .s fun y0 => .s fun y1 => .s fun y2 => .s fun y3 => .s fun y4 => .s fun y5 => .z fun h => b120_8 O R q y0 y1 y2 y3 y4 y5 h]
theorem o120 (O : Oracle) (R : Jump) (q : Nat) : HoldsAll c120 O R q 0 (d120 O R q) := ⟨fun y0 y1 y2 y3 y4 h => e120_0 O R q y0 y1 y2 y3 y4 h, fun y0 y1 y2 y3 y4 y5 y6 h => e120_1 O R q y0 y1 y2 y3 y4 y5 y6 h, fun y0 y1 y2 y3 y4 y5 y6 y7 y8 h => e120_2 O R q y0 y1 y2 y3 y4 y5 y6 y7 y8 h, fun y0 y1 y2 y3 y4 y5 y6 y7 y8 y9 y10 h => e120_3 O R q y0 y1 y2 y3 y4 y5 y6 y7 y8 y9 y10 h, fun y0 y1 y2 y3 y4 y5 y6 y7 h => e120_4 O R q y0 y1 y2 y3 y4 y5 y6 y7 h, fun y0 y1 y2 y3 y4 y5 y6 y7 y8 h => e120_5 O R q y0 y1 y2 y3 y4 y5 y6 y7 y8 h, fun y0 y1 y2 y3 y4 y5 y6 y7 h => e120_6 O R q y0 y1 y2 y3 y4 y5 y6 y7 h, fun y0 y1 y2 y3 y4 y5 y6 h => e120_7 O R q y0 y1 y2 y3 y4 y5 y6 h, fun y0 y1 y2 y3 y4 y5 h => e120_8 O R q y0 y1 y2 y3 y4 y5 h, trivial⟩
/- sprue/scan.digit -/
def c121 : MFunc := { np := 1, res := [.t 2], frz := true, body := (.seq (.reg [(oA 2 (.mv (.k (.v (.c (.p (.bool false)))))))] []) (.seq (.reg [(oA 3 (.mv (.t 0))), (oA 4 (.bin .geq 0 (.t 3) (.k (.v (.c (.p (.int .u8 48))))))), (oA 5 (.mv (.t 4))), ⟨(some 6), (.mv (.t 0)), (some (5, true))⟩, ⟨(some 7), (.bin .leq 0 (.t 6) (.k (.v (.c (.p (.int .u8 57)))))), (some (5, true))⟩, (oA 8 (.pick (.t 5) (.t 7) (.k (.v (.c (.p (.bool false))))))), (oA 2 (.mv (.t 8)))] []) .ret)) }
theorem t121 : compF Tryz.prog (globs2 tabs opq) (fun _ => false) true Tryz.f121 = some c121.erase := by kernel_rfl
noncomputable def b121_0 (O : Oracle) (R : Jump) (q : Nat) (x0 : TVal) (h : Heap) : Res1 :=
 vbin .geq 0 x0 (.v (.c (.p (.int .u8 48)))) h fun x4 h =>
 vguard x4 true (fun kk => kk x0 h) h fun x6 h =>
 vguard x4 true (fun kk => vbin .leq 0 x6 (.v (.c (.p (.int .u8 57)))) h kk) h fun x7 h =>
 vop O (.pick (.k x4) (.k x7) (.k (kB false))) h 8 fun x8 h =>
 tcomp x8 fun c0 => vfin true q [c0] h
theorem e121_0 (O : Oracle) (R : Jump) (q : Nat) (x0 : TVal) (h : Heap) : b121_0 O R q x0 h = stepF c121 O R q 0 [x0] h := by kernel_rfl
noncomputable def d121 : BlkF := fun O R q => [.s fun y0 => .z fun h => b121_0 O R q y0 h]
theorem o121 (O : Oracle) (R : Jump) (q : Nat) : HoldsAll c121 O R q 0 (d121 O R q) := ⟨fun y0 h => e121_0 O R q y0 h, trivial⟩
/- sprue/scan.row -/
def c122 : MFunc := { np := 1, res := [.t 2], frz := true, body := (.seq (.reg [(oA 2 (.mv (.k (.v (.c (.p (.int .i64 0)))))))] []) (.seq (.reg [(oA 3 (.mv (.t 0))), (oA 4 (.call (.k (.v (.c (.func 136 [])))) [(.t 3), (.k (.v (.c (.func 137 []))))])), (oA 2 (.mv (.t 4)))] []) .ret)) }
theorem t122 : compF Tryz.prog (globs2 tabs opq) (fun _ => false) true Tryz.f122 = some c122.erase := by kernel_rfl
noncomputable def b122_0 (O : Oracle) (R : Jump) (q : Nat) (x0 : TVal) (h : Heap) : Res1 :=
 vcall O (.v (.c (.func 136 []))) [x0, (.v (.c (.func 137 [])))] h 4 fun x4 h =>
 tcomp x4 fun c0 => vfin true q [c0] h
theorem e122_0 (O : Oracle) (R : Jump) (q : Nat) (x0 : TVal) (h : Heap) : b122_0 O R q x0 h = stepF c122 O R q 0 [x0] h := by kernel_rfl
noncomputable def d122 : BlkF := fun O R q => [.s fun y0 => .z fun h => b122_0 O R q y0 h]
theorem o122 (O : Oracle) (R : Jump) (q : Nat) : HoldsAll c122 O R q 0 (d122 O R q) := ⟨fun y0 h => e122_0 O R q y0 h, trivial⟩
/- strings.Index -/
def c123 : MFunc := { np := 2, res := [.t 4], frz := true, body := (.seq (.reg [(oA 4 (.mv (.k (.v (.c (.p (.int .i64 0)))))))] []) (.seq (.reg [(oA 5 (.mv (.t 0))), (oA 6 (.mv (.t 1))), (oA 7 (.call (.k (.v (.c (.func 139 [])))) [(.t 5), (.t 6)])), (oA 4 (.mv (.t 7)))] []) .ret)) }
theorem t123 : compF Tryz.prog (globs2 tabs opq) (fun _ => false) true Tryz.f123 = some c123.erase := by kernel_rfl
noncomputable def b123_0 (O : Oracle) (R : Jump) (q : Nat) (x0 x1 : TVal) (h : Heap) : Res1 :=
 vcall O (.v (.c (.func 139 []))) [x0, x1] h 7 fun x7 h =>
 tcomp x7 fun c0 => vfin true q [c0] h
theorem e123_0 (O : Oracle) (R : Jump) (q : Nat) (x0 x1 : TVal) (h : Heap) : b123_0 O R q x0 x1 h = stepF c123 O R q 0 [x0, x1] h := by kernel_rfl
noncomputable def d123 : BlkF := fun O R q => [.s fun y0 => .s fun y1 => .z fun h => b123_0 O R q y0 y1 h]
theorem o123 (O : Oracle) (R : Jump) (q : Nat) : HoldsAll c123 O R q 0 (d123 O R q) := ⟨fun y0 y1 h => e123_0 O R q y0 y1 h, trivial⟩
/- sprue/calls.number -/
def c124 : MFunc := { np := 1, res := [.cell 2 true 6], frz := true, body := (.seq (.reg [(oA 2 (.alloc [(.p (.int .i64 0)), (.p (.bool false)), (.p (.int .i64 0)), (.p (.str [])), (.p .nilslice), (.p .nilslice)] false))] []) (.seq (.reg [(oA 3 (.mv (.t 0))), (oA 4 (.build [(.p (.int .i64 0)), (.p (.bool false)), (.p (.int .i64 0)), (.p (.str [])), (.p .nilslice), (.p .nilslice)] [(0, 1, (.k (.v (.c (.p (.int .i64 2)))))), (2, 1, (.t 3))])), (oN (.store 6 (.t 2) (.t 4)))] []) .ret)) }
theorem t124 : compF Tryz.prog (globs2 tabs opq) (fun _ => false) true Tryz.f124 = some c124.erase := by kernel_rfl
noncomputable def b124_0 (O : Oracle) (R : Jump) (q : Nat) (x0 : TVal) (h : Heap) : Res1 :=
 vop O (.alloc [(.p (.int .i64 0)), (.p (.bool false)), (.p (.int .i64 0)), (.p (.str [])), (.p .nilslice), (.p .nilslice)] false) h 2 fun x2 h =>
 vop O (.build [(.p (.int .i64 0)), (.p (.bool false)), (.p (.int .i64 0)), (.p (.str [])), (.p .nilslice), (.p .nilslice)] [(0, 1, (.k (kI 2))), (2, 1, (.k x0))]) h 4 fun x4 h =>
 vstore 6 x2 x4 h fun _ h =>
 vcell true 6 x2 h fun c0 => vfin true q [c0] h
theorem e124_0 (O : Oracle) (R : Jump) (q : Nat) (x0 : TVal) (h : Heap) : b124_0 O R q x0 h = stepF c124 O R q 0 [x0] h := by kernel_rfl
noncomputable def d124 : BlkF := fun O R q => [.s fun y0 => .z fun h => b124_0 O R q y0 h]
theorem o124 (O : Oracle) (R : Jump) (q : Nat) : HoldsAll c124 O R q 0 (d124 O R q) := ⟨fun y0 h => e124_0 O R q y0 h, trivial⟩
/- slices.ContainsFunc[[]sprue/api.Value,sprue/api.Value] -/
def c125 : MFunc := { np := 2, res := [.t 4], frz := true, body := (.seq (.reg [(oA 4 (.mv (.k (.v (.c (.p (.bool false)))))))] []) (.seq (.reg [(oA 5 (.mv (.t 0))), (oA 6 (.mv (.t 1))), (oA 7 (.call (.k (.v (.c (.func 140 [])))) [(.t 5), (.t 6)])), (oA 8 (.bin .geq 0 (.t 7) (.k (.v (.c (.p (.int .i64 0))))))), (oA 4 (.mv (.t 8)))] []) .ret)) }
theorem t125 : compF Tryz.prog (globs2 tabs opq) (fun _ => false) true Tryz.f125 = some c125.erase := by kernel_rfl
noncomputable def b125_0 (O : Oracle) (R : Jump) (q : Nat) (x0 x1 : TVal) (h : Heap) : Res1 :=
 vcall O (.v (.c (.func 140 []))) [x0, x1] h 7 fun x7 h =>
 vbin .geq 0 x7 (kI 0) h fun x8 h =>
 tcomp x8 fun c0 => vfin true q [c0] h
theorem e125_0 (O : Oracle) (R : Jump) (q : Nat) (x0 x1 : TVal) (h : Heap) : b125_0 O R q x0 x1 h = stepF c125 O R q 0 [x0, x1] h := by kernel_rfl
noncomputable def d125 : BlkF := fun O R q => [.s fun y0 => .s fun y1 => .z fun h => b125_0 O R q y0 y1 h]
theorem o125 (O : Oracle) (R : Jump) (q : Nat) : HoldsAll c125 O R q 0 (d125 O R q) := ⟨fun y0 y1 h => e125_0 O R q y0 y1 h, trivial⟩
/- sprue/calls.logic$1 -/
def c126 : MFunc := { np := 1, res := [.t 2], frz := true, body := (.seq (.reg [(oA 1 (.box (.t 0) false)), (oA 2 (.mv (.k (.v (.c (.p (.bool false)))))))] []) (.seq (.reg [(oA 3 (.faddr 0 (.t 1))), (oA 4 (.load false 1 (.t 3))), (oA 5 (.bin .neq 0 (.t 4) (.k (.v (.c (.p (.int .i64 1))))))), (oA 2 (.mv (.t 5)))] []) .ret)) }
theorem t126 : compF Tryz.prog (globs2 tabs opq) (fun _ => false) true Tryz.f126 = some c126.erase := by kernel_rfl
noncomputable def b126_0 (O : Oracle) (R : Jump) (q : Nat) (x0 : TVal) (h : Heap) : Res1 :=
 vop O (.box (.k x0) false) h 1 fun x1 h =>
 vfaddr 0 x1 h fun x3 h =>
 vload false 1 x3 h fun x4 h =>
 vbin .neq 0 x4 (kI 1) h fun x5 h =>
 tcomp x5 fun c0 => vfin true q [c0] h
theorem e126_0 (O : Oracle) (R : Jump) (q : Nat) (x0 : TVal) (h : Heap) : b126_0 O R q x0 h = stepF c126 O R q 0 [x0] h := by kernel_rfl
noncomputable def d126 : BlkF := fun O R q => [.s fun y0 => .z fun h => b126_0 O R q y0 h]
theorem o126 (O : Oracle) (R : Jump) (q : Nat) : HoldsAll c126 O R q 0 (d126 O R q) := ⟨fun y0 h => e126_0 O R q y0 h, trivial⟩
/- sprue/calls.text -/
def c127 : MFunc := { np := 1, res := [.cell 2 true 6], frz := true, body := (.seq (.reg [(oA 2 (.alloc [(.p (.int .i64 0)), (.p (.bool false)), (.p (.int .i64 0)), (.p (.str [])), (.p .nilslice), (.p .nilslice)] false))] []) (.seq (.reg [(oA 3 (.mv (.t 0))), (oA 4 (.build [(.p (.int .i64 0)), (.p (.bool false)), (.p (.int .i64 0)), (.p (.str [])), (.p .nilslice), (.p .nilslice)] [(0, 1, (.k (.v (.c (.p (.int .i64 3)))))), (3, 1, (.t 3))])), (oN (.store 6 (.t 2) (.t 4)))] []) .ret)) }
theorem t127 : compF Tryz.prog (globs2 tabs opq) (fun _ => false) true Tryz.f127 = some c127.erase := by kernel_rfl
noncomputable def b127_0 (O : Oracle) (R : Jump) (q : Nat) (x0 : TVal) (h : Heap) : Res1 :=
 vop O (.alloc [(.p (.int .i64 0)), (.p (.bool false)), (.p (.int .i64 0)), (.p (.str [])), (.p .nilslice), (.p .nilslice)] false) h 2 fun x2 h =>
 vop O (.build [(.p (.int .i64 0)), (.p (.bool false)), (.p (.int .i64 0)), (.p (.str [])), (.p .nilslice), (.p .nilslice)] [(0, 1, (.k (kI 3))), (3, 1, (.k x0))]) h 4 fun x4 h =>
 vstore 6 x2 x4 h fun _ h =>
 vcell true 6 x2 h fun c0 => vfin true q [c0] h
theorem e127_0 (O : Oracle) (R : Jump) (q : Nat) (x0 : TVal) (h : Heap) : b127_0 O R q x0 h = stepF c127 O R q 0 [x0] h := by kernel_rfl
noncomputable def d127 : BlkF := fun O R q => [.s fun y0 => .z fun h => b127_0 O R q y0 h]
theorem o127 (O : Oracle) (R : Jump) (q : Nat) : HoldsAll c127 O R q 0 (d127 O R q) := ⟨fun y0 h => e127_0 O R q y0 h, trivial⟩
/- sprue/calls.numbers$1 -/
def c128 : MFunc := { np := 1, res := [.t 2], frz := true, body := (.seq (.reg [(oA 1 (.box (.t 0) false)), (oA 2 (.mv (.k (.v (.c (.p (.bool false)))))))] []) (.seq (.reg [(oA 3 (.faddr 0 (.t 1))), (oA 4 (.load false 1 (.t 3))), (oA 5 (.bin .neq 0 (.t 4) (.k (.v (.c (.p (.int .i64 2))))))), (oA 2 (.mv (.t 5)))] []) .ret)) }
theorem t128 : compF Tryz.prog (globs2 tabs opq) (fun _ => false) true Tryz.f128 = some c128.erase := by kernel_rfl
noncomputable def b128_0 (O : Oracle) (R : Jump) (q : Nat) (x0 : TVal) (h : Heap) : Res1 :=
 vop O (.box (.k x0) false) h 1 fun x1 h =>
 vfaddr 0 x1 h fun x3 h =>
 vload false 1 x3 h fun x4 h =>
 vbin .neq 0 x4 (kI 2) h fun x5 h =>
 tcomp x5 fun c0 => vfin true q [c0] h
theorem e128_0 (O : Oracle) (R : Jump) (q : Nat) (x0 : TVal) (h : Heap) : b128_0 O R q x0 h = stepF c128 O R q 0 [x0] h := by kernel_rfl
noncomputable def d128 : BlkF := fun O R q => [.s fun y0 => .z fun h => b128_0 O R q y0 h]
theorem o128 (O : Oracle) (R : Jump) (q : Nat) : HoldsAll c128 O R q 0 (d128 O R q) := ⟨fun y0 h => e128_0 O R q y0 h, trivial⟩
/- sprue/calls.narrow -/
def c129 : MFunc := { np := 2, res := [.t 4], frz := true, body := (.seq (.reg [(oA 4 (.mv (.k (.v (.c (.p (.int .i64 0)))))))] []) (.seq (.seq (.reg [(oA 5 (.mv (.t 0)))] []) (.block 0 (.seq (.reg [(oA 7 (.bin .eql 0 (.t 5) (.k (.v (.c (.p (.str [105, 56]))))))), (oA 6 (.mv (.t 7)))] []) (.cond (.t 6) (.seq (.reg [(oA 8 (.mv (.t 1))), (oA 9 (.toInt .i8 (.t 8))), (oA 10 (.toInt .i64 (.t 9))), (oA 4 (.mv (.t 10)))] []) .ret) (.seq (.reg [(oA 12 (.bin .eql 0 (.t 5) (.k (.v (.c (.p (.str [105, 49, 54]))))))), (oA 11 (.mv (.t 12)))] []) (.cond (.t 11) (.seq (.reg [(oA 13 (.mv (.t 1))), (oA 14 (.toInt .i16 (.t 13))), (oA 15 (.toInt .i64 (.t 14))), (oA 4 (.mv (.t 15)))] []) .ret) (.seq (.reg [(oA 17 (.bin .eql 0 (.t 5) (.k (.v (.c (.p (.str [105, 51, 50]))))))), (oA 16 (.mv (.t 17)))] []) (.cond (.t 16) (.seq (.reg [(oA 18 (.mv (.t 1))), (oA 19 (.toInt .i32 (.t 18))), (oA 20 (.toInt .i64 (.t 19))), (oA 4 (.mv (.t 20)))] []) .ret) (.seq (.reg [(oA 22 (.bin .eql 0 (.t 5) (.k (.v (.c (.p (.str [117, 56]))))))), (oA 21 (.mv (.t 22)))] []) (.cond (.t 21) (.seq (.reg [(oA 23 (.mv (.t 1))), (oA 24 (.toInt .u8 (.t 23))), (oA 25 (.toInt .i64 (.t 24))), (oA 4 (.mv (.t 25)))] []) .ret) (.seq (.reg [(oA 27 (.bin .eql 0 (.t 5) (.k (.v (.c (.p (.str [117, 49, 54]))))))), (oA 26 (.mv (.t 27)))] []) (.cond (.t 26) (.seq (.reg [(oA 28 (.mv (.t 1))), (oA 29 (.toInt .u16 (.t 28))), (oA 30 (.toInt .i64 (.t 29))), (oA 4 (.mv (.t 30)))] []) .ret) .skip)))))))))))) (.seq (.reg [(oA 31 (.mv (.t 1))), (oA 32 (.toInt .u32 (.t 31))), (oA 33 (.toInt .i64 (.t 32))), (oA 4 (.mv (.t 33)))] []) .ret))) }
theorem t129 : compF Tryz.prog (globs2 tabs opq) (fun _ => false) true Tryz.f129 = some c129.erase := by kernel_rfl
noncomputable def b129_0 (O : Oracle) (R : Jump) (q : Nat) (x0 x1 : TVal) (h : Heap) : Res1 :=
 vbin .eql 0 x0 (kS [105, 56]) h fun x7 h =>
 vif x7 (
 vtoInt .i8 x1 h fun x9 h =>
 vtoInt .i64 x9 h fun x10 h =>
 tcomp x10 fun c0 => vfin true q [c0] h)
 (vbin .eql 0 x0 (kS [105, 49, 54]) h fun x12 h =>
 vif x12 (
 vtoInt .i16 x1 h fun x14 h =>
 vtoInt .i64 x14 h fun x15 h =>
 tcomp x15 fun c0 => vfin true q [c0] h)
 (vbin .eql 0 x0 (kS [105, 51, 50]) h fun x17 h =>
 vif x17 (
 vtoInt .i32 x1 h fun x19 h =>
 vtoInt .i64 x19 h fun x20 h =>
 tcomp x20 fun c0 => vfin true q [c0] h)
 (vbin .eql 0 x0 (kS [117, 56]) h fun x22 h =>
 vif x22 (
 vtoInt .u8 x1 h fun x24 h =>
 vtoInt .i64 x24 h fun x25 h =>
 tcomp x25 fun c0 => vfin true q [c0] h)
 (vbin .eql 0 x0 (kS [117, 49, 54]) h fun x27 h =>
 vif x27 (
 vtoInt .u16 x1 h fun x29 h =>
 vtoInt .i64 x29 h fun x30 h =>
 tcomp x30 fun c0 => vfin true q [c0] h)
 (vtoInt .u32 x1 h fun x32 h =>
 vtoInt .i64 x32 h fun x33 h =>
 tcomp x33 fun c0 => vfin true q [c0] h)))))
theorem e129_0 (O : Oracle) (R : Jump) (q : Nat) (x0 x1 : TVal) (h : Heap) : b129_0 O R q x0 x1 h = stepF c129 O R q 0 [x0, x1] h := by kernel_rfl
noncomputable def d129 : BlkF := fun O R q => [.s fun y0 => .s fun y1 => .z fun h => b129_0 O R q y0 y1 h]
theorem o129 (O : Oracle) (R : Jump) (q : Nat) : HoldsAll c129 O R q 0 (d129 O R q) := ⟨fun y0 y1 h => e129_0 O R q y0 y1 h, trivial⟩
/- sprue/calls.reckon -/
def c130 : MFunc := { np := 3, res := [.t 6], frz := true, body := (.seq (.reg [(oA 6 (.mv (.k (.v (.c (.p (.int .i64 0)))))))] []) (.seq (.seq (.reg [(oA 7 (.mv (.t 0)))] []) (.block 0 (.seq (.reg [(oA 9 (.bin .eql 0 (.t 7) (.k (.v (.c (.p (.str [97, 100, 100]))))))), (oA 8 (.mv (.t 9)))] []) (.cond (.t 8) (.seq (.reg [(oA 10 (.mv (.t 1))), (oA 11 (.mv (.t 2))), (oA 12 (.bin .add 0 (.t 10) (.t 11))), (oA 6 (.mv (.t 12)))] []) .ret) (.seq (.reg [(oA 14 (.bin .eql 0 (.t 7) (.k (.v (.c (.p (.str [115, 117, 98]))))))), (oA 13 (.mv (.t 14)))] []) (.cond (.t 13) (.seq (.reg [(oA 15 (.mv (.t 1))), (oA 16 (.mv (.t 2))), (oA 17 (.bin .sub 0 (.t 15) (.t 16))), (oA 6 (.mv (.t 17)))] []) .ret) (.seq (.reg [(oA 19 (.bin .eql 0 (.t 7) (.k (.v (.c (.p (.str [109, 117, 108]))))))), (oA 18 (.mv (.t 19)))] []) (.cond (.t 18) (.seq (.reg [(oA 20 (.mv (.t 1))), (oA 21 (.mv (.t 2))), (oA 22 (.bin .mul 0 (.t 20) (.t 21))), (oA 6 (.mv (.t 22)))] []) .ret) (.seq (.reg [(oA 24 (.bin .eql 0 (.t 7) (.k (.v (.c (.p (.str [115, 104, 108]))))))), (oA 23 (.mv (.t 24)))] []) (.cond (.t 23) (.seq (.reg [(oA 25 (.mv (.t 1))), (oA 26 (.mv (.t 2))), (oA 27 (.toInt .u64 (.t 26))), (oA 28 (.bin .rem 0 (.t 27) (.k (.v (.c (.p (.int .u64 64))))))), (oA 29 (.bin .shl 0 (.t 25) (.t 28))), (oA 6 (.mv (.t 29)))] []) .ret) .skip)))))))))) (.seq (.reg [(oA 30 (.mv (.t 1))), (oA 31 (.mv (.t 2))), (oA 32 (.toInt .u64 (.t 31))), (oA 33 (.bin .rem 0 (.t 32) (.k (.v (.c (.p (.int .u64 64))))))), (oA 34 (.bin .shr 0 (.t 30) (.t 33))), (oA 6 (.mv (.t 34)))] []) .ret))) }
theorem t130 : compF Tryz.prog (globs2 tabs opq) (fun _ => false) true Tryz.f130 = some c130.erase := by kernel_rfl
noncomputable def b130_0 (O : Oracle) (R : Jump) (q : Nat) (x0 x1 x2 : TVal) (h : Heap) : Res1 :=
 vbin .eql 0 x0 (kS [97, 100, 100]) h fun x9 h =>
 vif x9 (
 vbin .add 0 x1 x2 h fun x12 h =>
 tcomp x12 fun c0 => vfin true q [c0] h)
 (vbin .eql 0 x0 (kS [115, 117, 98]) h fun x14 h =>
 vif x14 (
 vbin .sub 0 x1 x2 h fun x17 h =>
 tcomp x17 fun c0 => vfin true q [c0] h)
 (vbin .eql 0 x0 (kS [109, 117, 108]) h fun x19 h =>
 vif x19 (
 vbin .mul 0 x1 x2 h fun x22 h =>
 tcomp x22 fun c0 => vfin true q [c0] h)
 (vbin .eql 0 x0 (kS [115, 104, 108]) h fun x24 h =>
 vif x24 (
 vtoInt .u64 x2 h fun x27 h =>
 vbin .rem 0 x27 (.v (.c (.p (.int .u64 64)))) h fun x28 h =>
 vbin .shl 0 x1 x28 h fun x29 h =>
 tcomp x29 fun c0 => vfin true q [c0] h)
 (vtoInt .u64 x2 h fun x32 h =>
 vbin .rem 0 x32 (.v (.c (.p (.int .u64 64)))) h fun x33 h =>
 vbin .shr 0 x1 x33 h fun x34 h =>
 tcomp x34 fun c0 => vfin true q [c0] h))))
theorem e130_0 (O : Oracle) (R : Jump) (q : Nat) (x0 x1 x2 : TVal) (h : Heap) : b130_0 O R q x0 x1 x2 h = stepF c130 O R q 0 [x0, x1, x2] h := by kernel_rfl
noncomputable def d130 : BlkF := fun O R q => [.s fun y0 => .s fun y1 => .s fun y2 => .z fun h => b130_0 O R q y0 y1 y2 h]
theorem o130 (O : Oracle) (R : Jump) (q : Nat) : HoldsAll c130 O R q 0 (d130 O R q) := ⟨fun y0 y1 y2 h => e130_0 O R q y0 y1 y2 h, trivial⟩
/- internal/strconv.log10Pow2 -/
def c131 : MFunc := { np := 1, res := [.t 2], frz := true, body := (.seq (.reg [(oA 2 (.mv (.k (.v (.c (.p (.int .i64 0)))))))] []) (.seq (.reg [(oA 3 (.mv (.t 0))), (oA 4 (.bin .mul 0 (.t 3) (.k (.v (.c (.p (.int .i64 78913))))))), (oA 5 (.bin .shr 0 (.t 4) (.k (.v (.c (.p (.int .u64 18))))))), (oA 2 (.mv (.t 5)))] []) .ret)) }
theorem t131 : compF Tryz.prog (globs2 tabs opq) (fun _ => false) true Tryz.f131 = some c131.erase := by kernel_rfl
noncomputable def b131_0 (O : Oracle) (R : Jump) (q : Nat) (x0 : TVal) (h : Heap) : Res1 :=
 vbin .mul 0 x0 (kI 78913) h fun x4 h =>
 vbin .shr 0 x4 (.v (.c (.p (.int .u64 18)))) h fun x5 h =>
 tcomp x5 fun c0 => vfin true q [c0] h
theorem e131_0 (O : Oracle) (R : Jump) (q : Nat) (x0 : TVal) (h : Heap) : b131_0 O R q x0 h = stepF c131 O R q 0 [x0] h := by kernel_rfl
noncomputable def d131 : BlkF := fun O R q => [.s fun y0 => .z fun h => b131_0 O R q y0 h]
theorem o131 (O : Oracle) (R : Jump) (q : Nat) : HoldsAll c131 O R q 0 (d131 O R q) := ⟨fun y0 h => e131_0 O R q y0 h, trivial⟩
/- math/bits.Len64 -/
def c132 : MFunc := { np := 1, res := [.t 2], frz := true, body := (.seq (.reg [(oA 2 (.mv (.k (.v (.c (.p (.int .i64 0)))))))] []) (.seq (.seq (.reg [(oA 3 (.mv (.t 0))), (oA 4 (.bin .geq 0 (.t 3) (.k (.v (.c (.p (.int .u64 4294967296)))))))] []) (.cond (.t 4) (.seq (.reg [(oA 5 (.mv (.t 0))), (oA 6 (.bin .shr 0 (.t 5) (.k (.v (.c (.p (.int .u64 32))))))), (oA 0 (.mv (.t 6)))] []) (.reg [(oA 2 (.mv (.k (.v (.c (.p (.int .i64 32)))))))] [])) .skip)) (.mark 1 [0, 2] (.seq (.seq (.reg [(oA 7 (.mv (.t 0))), (oA 8 (.bin .geq 0 (.t 7) (.k (.v (.c (.p (.int .u64 65536)))))))] []) (.cond (.t 8) (.seq (.reg [(oA 9 (.mv (.t 0))), (oA 10 (.bin .shr 0 (.t 9) (.k (.v (.c (.p (.int .u64 16))))))), (oA 0 (.mv (.t 10)))] []) (.reg [(oA 11 (.mv (.t 2))), (oA 12 (.bin .add 0 (.t 11) (.k (.v (.c (.p (.int .i64 16))))))), (oA 2 (.mv (.t 12)))] [])) .skip)) (.mark 2 [0, 2] (.seq (.seq (.reg [(oA 13 (.mv (.t 0))), (oA 14 (.bin .geq 0 (.t 13) (.k (.v (.c (.p (.int .u64 256)))))))] []) (.cond (.t 14) (.seq (.reg [(oA 15 (.mv (.t 0))), (oA 16 (.bin .shr 0 (.t 15) (.k (.v (.c (.p (.int .u64 8))))))), (oA 0 (.mv (.t 16)))] []) (.reg [(oA 17 (.mv (.t 2))), (oA 18 (.bin .add 0 (.t 17) (.k (.v (.c (.p (.int .i64 8))))))), (oA 2 (.mv (.t 18)))] [])) .skip)) (.mark 3 [0, 2] (.seq (.reg [(oA 19 (.mv (.t 2))), (oA 20 (.mv (.t 0))), (oA 21 (.toInt .u8 (.t 20))), (oA 22 (.index (.k (.v (.c (.p (.str [0, 1, 2, 2, 3, 3, 3, 3, 4, 4, 4, 4, 4, 4, 4, 4, 5, 5, 5, 5, 5, 5, 5, 5, 5, 5, 5, 5, 5, 5, 5, 5, 6, 6, 6, 6, 6, 6, 6, 6, 6, 6, 6, 6, 6, 6, 6, 6, 6, 6, 6, 6, 6, 6, 6, 6, 6, 6, 6, 6, 6, 6, 6, 6, 7, 7, 7, 7, 7, 7, 7, 7, 7, 7, 7, 7, 7, 7, 7, 7, 7, 7, 7, 7, 7, 7, 7, 7, 7, 7, 7, 7, 7, 7, 7, 7, 7, 7, 7, 7, 7, 7, 7, 7, 7, 7, 7, 7, 7, 7, 7, 7, 7, 7, 7, 7, 7, 7, 7, 7, 7, 7, 7, 7, 7, 7, 7, 7, 8, 8, 8, 8, 8, 8, 8, 8, 8, 8, 8, 8, 8, 8, 8, 8, 8, 8, 8, 8, 8, 8, 8, 8, 8, 8, 8, 8, 8, 8, 8, 8, 8, 8, 8, 8, 8, 8, 8, 8, 8, 8, 8, 8, 8, 8, 8, 8, 8, 8, 8, 8, 8, 8, 8, 8, 8, 8, 8, 8, 8, 8, 8, 8, 8, 8, 8, 8, 8, 8, 8, 8, 8, 8, 8, 8, 8, 8, 8, 8, 8, 8, 8, 8, 8, 8, 8, 8, 8, 8, 8, 8, 8, 8, 8, 8, 8, 8, 8, 8, 8, 8, 8, 8, 8, 8, 8, 8, 8, 8, 8, 8, 8, 8, 8, 8, 8, 8, 8, 8, 8, 8, 8, 8, 8, 8, 8, 8]))))) (.t 21))), (oA 23 (.toInt .i64 (.t 22))), (oA 24 (.bin .add 0 (.t 19) (.t 23))), (oA 2 (.mv (.t 24)))] []) .ret)))))))) }
theorem t132 : compF Tryz.prog (globs2 tabs opq) (fun _ => false) true Tryz.f132 = some c132.erase := by kernel_rfl
noncomputable def b132_0 (O : Oracle) (R : Jump) (q : Nat) (x0 : TVal) (h : Heap) : Res1 :=
 vbin .geq 0 x0 (.v (.c (.p (.int .u64 4294967296)))) h fun x4 h =>
 vif x4 (
 vbin .shr 0 x0 (.v (.c (.p (.int .u64 32)))) h fun x6 h =>
 R 1 [x6, (kI 32)] h)
 (R 1 [x0, (kI 0)] h)
theorem e132_0 (O : Oracle) (R : Jump) (q : Nat) (x0 : TVal) (h : Heap) : b132_0 O R q x0 h = stepF c132 O R q 0 [x0] h := by kernel_rfl
noncomputable def b132_1 (O : Oracle) (R : Jump) (q : Nat) (x0 x2 : TVal) (h : Heap) : Res1 :=
 vbin .geq 0 x0 (.v (.c (.p (.int .u64 65536)))) h fun x8 h =>
 vif x8 (
 vbin .shr 0 x0 (.v (.c (.p (.int .u64 16)))) h fun x10 h =>
 vbin .add 0 x2 (kI 16) h fun x12 h =>
 R 2 [x10, x12] h)
 (R 2 [x0, x2] h)
theorem e132_1 (O : Oracle) (R : Jump) (q : Nat) (x0 x2 : TVal) (h : Heap) : b132_1 O R q x0 x2 h = stepF c132 O R q 1 [x0, x2] h := by kernel_rfl
noncomputable def b132_2 (O : Oracle) (R : Jump) (q : Nat) (x0 x2 : TVal) (h : Heap) : Res1 :=
 vbin .geq 0 x0 (.v (.c (.p (.int .u64 256)))) h fun x14 h =>
 vif x14 (
 vbin .shr 0 x0 (.v (.c (.p (.int .u64 8)))) h fun x16 h =>
 vbin .add 0 x2 (kI 8) h fun x18 h =>
 R 3 [x16, x18] h)
 (R 3 [x0, x2] h)
theorem e132_2 (O : Oracle) (R : Jump) (q : Nat) (x0 x2 : TVal) (h : Heap) : b132_2 O R q x0 x2 h = stepF c132 O R q 2 [x0, x2] h := by kernel_rfl
noncomputable def b132_3 (O : Oracle) (R : Jump) (q : Nat) (x0 x2 : TVal) (h : Heap) : Res1 :=
 vtoInt .u8 x0 h fun x21 h =>
 vindex (kS [0, 1, 2, 2, 3, 3, 3, 3, 4, 4, 4, 4, 4, 4, 4, 4, 5, 5, 5, 5, 5, 5, 5, 5, 5, 5, 5, 5, 5, 5, 5, 5, 6, 6, 6, 6, 6, 6, 6, 6, 6, 6, 6, 6, 6, 6, 6, 6, 6, 6, 6, 6, 6, 6, 6, 6, 6, 6, 6, 6, 6, 6, 6, 6, 7, 7, 7, 7, 7, 7, 7, 7, 7, 7, 7, 7, 7, 7, 7, 7, 7, 7, 7, 7, 7, 7, 7, 7, 7, 7, 7, 7, 7, 7, 7, 7, 7, 7, 7, 7, 7, 7, 7, 7, 7, 7, 7, 7, 7, 7, 7, 7, 7, 7, 7, 7, 7, 7, 7, 7, 7, 7, 7, 7, 7, 7, 7, 7, 8, 8, 8, 8, 8, 8, 8, 8, 8, 8, 8, 8, 8, 8, 8, 8, 8, 8, 8, 8, 8, 8, 8, 8, 8, 8, 8, 8, 8, 8, 8, 8, 8, 8, 8, 8, 8, 8, 8, 8, 8, 8, 8, 8, 8, 8, 8, 8, 8, 8, 8, 8, 8, 8, 8, 8, 8, 8, 8, 8, 8, 8, 8, 8, 8, 8, 8, 8, 8, 8, 8, 8, 8, 8, 8, 8, 8, 8, 8, 8, 8, 8, 8, 8, 8, 8, 8, 8, 8, 8, 8, 8, 8, 8, 8, 8, 8, 8, 8, 8, 8, 8, 8, 8, 8, 8, 8, 8, 8, 8, 8, 8, 8, 8, 8, 8, 8, 8, 8, 8, 8, 8, 8, 8, 8, 8, 8, 8]) x21 h fun x22 h =>
 vtoInt .i64 x22 h fun x23 h =>
 vbin .add 0 x2 x23 h fun x24 h =>
 tcomp x24 fun c0 => vfin true q [c0] h
theorem e132_3 (O : Oracle) (R : Jump) (q : Nat) (x0 x2 : TVal) (h : Heap) : b132_3 O R q x0 x2 h = stepF c132 O R q 3 [x0, x2] h := by kernel_rfl
noncomputable def d132 : BlkF := fun O R q => [.s fun y0 => .z fun h => b132_0 O R q y0 h, .s fun y0 => .s fun y1 => .z fun h => b132_1 O R q y0 y1 h, .s fun y0 => .s fun y1 => .z fun h => b132_2 O R q y0 y1 h, .s fun y0 => .s fun y1 => .z fun h => b132_3 O R q y0 y1 h]
theorem o132 (O : Oracle) (R : Jump) (q : Nat) : HoldsAll c132 O R q 0 (d132 O R q) := ⟨fun y0 h => e132_0 O R q y0 h, fun y0 y1 h => e132_1 O R q y0 y1 h, fun y0 y1 h => e132_2 O R q y0 y1 h, fun y0 y1 h => e132_3 O R q y0 y1 h, trivial⟩
/- internal/strconv.bool2[int] -/
def c133 : MFunc := { np := 1, res := [.t 2], frz := true, body := (.seq (.reg [(oA 2 (.mv (.k (.v (.c (.p (.int .i64 0)))))))] []) (.seq (.seq (.reg [(oA 3 (.mv (.t 0)))] []) (.cond (.t 3) (.seq (.reg [(oA 2 (.mv (.k (.v (.c (.p (.int .i64 1)))))))] []) .ret) .skip)) (.seq (.reg [(oA 2 (.mv (.k (.v (.c (.p (.int .i64 0)))))))] []) .ret))) }
theorem t133 : compF Tryz.prog (globs2 tabs opq) (fun _ => false) true Tryz.f133 = some c133.erase := by kernel_rfl
noncomputable def b133_0 (O : Oracle) (R : Jump) (q : Nat) (x0 : TVal) (h : Heap) : Res1 :=
 vif x0 (
 tcomp (kI 1) fun c0 => vfin true q [c0] h)
 (tcomp (kI 0) fun c0 => vfin true q [c0] h)
theorem e133_0 (O : Oracle) (R : Jump) (q : Nat) (x0 : TVal) (h : Heap) : b133_0 O R q x0 h = stepF c133 O R q 0 [x0] h := by kernel_rfl
noncomputable def d133 : BlkF := fun O R q => [.s fun y0 => .z fun h => b133_0 O R q y0 h]
theorem o133 (O : Oracle) (R : Jump) (q : Nat) : HoldsAll c133 O R q 0 (d133 O R q) := ⟨fun y0 h => e133_0 O R q y0 h, trivial⟩
/- internal/strconv.isPowerOfTwo -/
def c134 : MFunc := { np := 1, res := [.t 2], frz := true, body := (.seq (.reg [(oA 2 (.mv (.k (.v (.c (.p (.bool false)))))))] []) (.seq (.reg [(oA 3 (.mv (.t 0))), (oA 4 (.mv (.t 0))), (oA 5 (.bin .sub 0 (.t 4) (.k (.v (.c (.p (.int .i64 1))))))), (oA 6 (.bin .and 0 (.t 3) (.t 5))), (oA 7 (.bin .eql 0 (.t 6) (.k (.v (.c (.p (.int .i64 0))))))), (oA 2 (.mv (.t 7)))] []) .ret)) }
theorem t134 : compF Tryz.prog (globs2 tabs opq) (fun _ => false) true Tryz.f134 = some c134.erase := by kernel_rfl
noncomputable def b134_0 (O : Oracle) (R : Jump) (q : Nat) (x0 : TVal) (h : Heap) : Res1 :=
 vbin .sub 0 x0 (kI 1) h fun x5 h =>
 vbin .and 0 x0 x5 h fun x6 h =>
 vbin .eql 0 x6 (kI 0) h fun x7 h =>
 tcomp x7 fun c0 => vfin true q [c0] h
theorem e134_0 (O : Oracle) (R : Jump) (q : Nat) (x0 : TVal) (h : Heap) : b134_0 O R q x0 h = stepF c134 O R q 0 [x0] h := by kernel_rfl
noncomputable def d134 : BlkF := fun O R q => [.s fun y0 => .z fun h => b134_0 O R q y0 h]
theorem o134 (O : Oracle) (R : Jump) (q : Nat) : HoldsAll c134 O R q 0 (d134 O R q) := ⟨fun y0 h => e134_0 O R q y0 h, trivial⟩
/- math/bits.TrailingZeros -/
def c135 : MFunc := { np := 1, res := [.t 2], frz := true, body := (.seq (.reg [(oA 2 (.mv (.k (.v (.c (.p (.int .i64 0)))))))] []) (.seq (.cond (.k (.v (.c (.p (.bool false))))) (.seq (.reg [(oA 3 (.mv (.t 0))), (oA 4 (.toInt .u32 (.t 3))), (oA 5 (.call (.k (.v (.c (.func 141 [])))) [(.t 4)])), (oA 2 (.mv (.t 5)))] []) .ret) .skip) (.seq (.reg [(oA 6 (.mv (.t 0))), (oA 7 (.call (.k (.v (.c (.func 142 [])))) [(.t 6)])), (oA 2 (.mv (.t 7)))] []) .ret))) }
theorem t135 : compF Tryz.prog (globs2 tabs opq) (fun _ => false) true Tryz.f135 = some c135.erase := by kernel_rfl
noncomputable def b135_0 (O : Oracle) (R : Jump) (q : Nat) (x0 : TVal) (h : Heap) : Res1 :=
 vif (kB false) (
 vtoInt .u32 x0 h fun x4 h =>
 vcall O (.v (.c (.func 141 []))) [x4] h 5 fun x5 h =>
 tcomp x5 fun c0 => vfin true q [c0] h)
 (vcall O (.v (.c (.func 142 []))) [x0] h 7 fun x7 h =>
 tcomp x7 fun c0 => vfin true q [c0] h)
theorem e135_0 (O : Oracle) (R : Jump) (q : Nat) (x0 : TVal) (h : Heap) : b135_0 O R q x0 h = stepF c135 O R q 0 [x0] h := by kernel_rfl
noncomputable def d135 : BlkF := fun O R q => [.s fun y0 => .z fun h => b135_0 O R q y0 h]
theorem o135 (O : Oracle) (R : Jump) (q : Nat) : HoldsAll c135 O R q 0 (d135 O R q) := ⟨fun y0 h => e135_0 O R q y0 h, trivial⟩
/- sprue/scan.front -/
def c136 : MFunc := { np := 2, res := [.t 4], frz := true, body := (.seq (.reg [(oA 4 (.mv (.k (.v (.c (.p (.int .i64 0)))))))] []) (.seq (.seq (.reg [(oA 6 (.mv (.t 0))), (oA 7 (.rangeS (.t 6)))] []) (.block 0 (.loop 1 [0, 1, 7] (.seq (.reg [(oA 8 (.nextS (.t 7))), (oA 9 (.extract (.t 8) 0))] []) (.seq (.cond (.t 9) .skip (.exit 0)) (.block 1 (.seq (.reg [(oA 10 (.extract (.t 8) 1)), (oA 5 (.mv (.t 10)))] []) (.seq (.reg [(oA 11 (.mv (.t 1))), (oA 12 (.mv (.t 0))), (oA 13 (.mv (.t 5))), (oA 14 (.index (.t 12) (.t 13))), (oA 15 (.call (.t 11) [(.t 14)])), (oA 16 (.un .not (.t 15)))] []) (.cond (.t 16) (.seq (.reg [(oA 17 (.mv (.t 5))), (oA 4 (.mv (.t 17)))] []) .ret) .skip))))))))) (.mark 2 [0] (.seq (.reg [(oA 18 (.mv (.t 0))), (oA 19 (.len 0 (.t 18))), (oA 4 (.mv (.t 19)))] []) .ret)))) }
theorem t136 : compF Tryz.prog (globs2 tabs opq) (fun _ => false) true Tryz.f136 = some c136.erase := by kernel_rfl
noncomputable def b136_0 (O : Oracle) (R : Jump) (q : Nat) (x0 x1 : TVal) (h : Heap) : Res1 :=
 vop O (.rangeS (.k x0)) h 7 fun x7 h =>
 R 1 [x0, x1, x7] h
theorem e136_0 (O : Oracle) (R : Jump) (q : Nat) (x0 x1 : TVal) (h : Heap) : b136_0 O R q x0 x1 h = stepF c136 O R q 0 [x0, x1] h := by kernel_rfl
noncomputable def b136_1 (O : Oracle) (R : Jump) (q : Nat) (x0 x1 x7 : TVal) (h : Heap) : Res1 :=
 vop O (.nextS (.k x7)) h 8 fun x8 h =>
 vext x8 0 h fun x9 h =>
 vif x9 (
 vext x8 1 h fun x10 h =>
 vindex x0 x10 h fun x14 h =>
 vcall O x1 [x14] h 15 fun x15 h =>
 vop O (.un .not (.k x15)) h 16 fun x16 h =>
 vif x16 (
 tcomp x10 fun c0 => vfin true q [c0] h)
 (R 1 [x0, x1, x7] h))
 (R 2 [x0] h)
theorem e136_1 (O : Oracle) (R : Jump) (q : Nat) (x0 x1 x7 : TVal) (h : Heap) : b136_1 O R q x0 x1 x7 h = stepF c136 O R q 1 [x0, x1, x7] h := by kernel_rfl
noncomputable def b136_2 (O : Oracle) (R : Jump) (q : Nat) (x0 : TVal) (h : Heap) : Res1 :=
 vlen O 0 x0 h 19 fun x19 h =>
 tcomp x19 fun c0 => vfin true q [c0] h
theorem e136_2 (O : Oracle) (R : Jump) (q : Nat) (x0 : TVal) (h : Heap) : b136_2 O R q x0 h = stepF c136 O R q 2 [x0] h := by kernel_rfl
noncomputable def d136 : BlkF := fun O R q => [.s fun y0 => .s fun y1 => .z fun h => b136_0 O R q y0 y1 h, .s fun y0 => .s fun y1 => .s fun y2 => .z fun h => b136_1 O R q y0 y1 y2 h, .s fun y0 => .z fun h => b136_2 O R q y0 h]
theorem o136 (O : Oracle) (R : Jump) (q : Nat) : HoldsAll c136 O R q 0 (d136 O R q) := ⟨fun y0 y1 h => e136_0 O R q y0 y1 h, fun y0 y1 y2 h => e136_1 O R q y0 y1 y2 h, fun y0 h => e136_2 O R q y0 h, trivial⟩
/- sprue/scan.row$1 -/
def c137 : MFunc := { np := 1, res := [.t 2], frz := true, body := (.seq (.reg [(oA 2 (.mv (.k (.v (.c (.p (.bool false)))))))] []) (.seq (.reg [(oA 3 (.mv (.t 0))), (oA 4 (.call (.k (.v (.c (.func 138 [])))) [(.t 3)])), (oA 5 (.mv (.t 4))), ⟨(some 6), (.mv (.t 0)), (some (5, false))⟩, ⟨(some 7), (.call (.k (.v (.c (.func 121 [])))) [(.t 6)]), (some (5, false))⟩, (oA 8 (.pick (.t 5) (.k (.v (.c (.p (.bool true))))) (.t 7))), (oA 2 (.mv (.t 8)))] []) .ret)) }
theorem t137 : compF Tryz.prog (globs2 tabs opq) (fun _ => false) true Tryz.f137 = some c137.erase := by kernel_rfl
noncomputable def b137_0 (O : Oracle) (R : Jump) (q : Nat) (x0 : TVal) (h : Heap) : Res1 :=
 vcall O (.v (.c (.func 138 []))) [x0] h 4 fun x4 h =>
 vguard x4 false (fun kk => kk x0 h) h fun x6 h =>
 vguard x4 false (fun kk => vcall O (.v (.c (.func 121 []))) [x6] h 7 kk) h fun x7 h =>
 vop O (.pick (.k x4) (.k (kB true)) (.k x7)) h 8 fun x8 h =>
 tcomp x8 fun c0 => vfin true q [c0] h
theorem e137_0 (O : Oracle) (R : Jump) (q : Nat) (x0 : TVal) (h : Heap) : b137_0 O R q x0 h = stepF c137 O R q 0 [x0] h := by kernel_rfl
noncomputable def d137 : BlkF := fun O R q => [.s fun y0 => .z fun h => b137_0 O R q y0 h]
theorem o137 (O : Oracle) (R : Jump) (q : Nat) : HoldsAll c137 O R q 0 (d137 O R q) := ⟨fun y0 h => e137_0 O R q y0 h, trivial⟩
/- sprue/scan.letter -/
def c138 : MFunc := { np := 1, res := [.t 2], frz := true, body := (.seq (.reg [(oA 2 (.mv (.k (.v (.c (.p (.bool false)))))))] []) (.seq (.reg [(oA 3 (.mv (.t 0))), (oA 4 (.bin .eql 0 (.t 3) (.k (.v (.c (.p (.int .u8 95))))))), (oA 5 (.mv (.t 4))), ⟨(some 6), (.mv (.t 0)), (some (5, false))⟩, ⟨(some 7), (.bin .or 0 (.t 6) (.k (.v (.c (.p (.int .u8 32)))))), (some (5, false))⟩, ⟨(some 8), (.bin .geq 0 (.t 7) (.k (.v (.c (.p (.int .u8 97)))))), (some (5, false))⟩, ⟨(some 9), (.mv (.t 8)), (some (5, false))⟩, ⟨(some 10), (.mv (.t 0)), (some (9, true))⟩, ⟨(some 11), (.bin .or 0 (.t 10) (.k (.v (.c (.p (.int .u8 32)))))), (some (9, true))⟩, ⟨(some 12), (.bin .leq 0 (.t 11) (.k (.v (.c (.p (.int .u8 122)))))), (some (9, true))⟩, ⟨(some 13), (.pick (.t 9) (.t 12) (.k (.v (.c (.p (.bool false)))))), (some (5, false))⟩, (oA 14 (.pick (.t 5) (.k (.v (.c (.p (.bool true))))) (.t 13))), (oA 2 (.mv (.t 14)))] []) .ret)) }
theorem t138 : compF Tryz.prog (globs2 tabs opq) (fun _ => false) true Tryz.f138 = some c138.erase := by kernel_rfl
noncomputable def b138_0 (O : Oracle) (R : Jump) (q : Nat) (x0 : TVal) (h : Heap) : Res1 :=
 vbin .eql 0 x0 (.v (.c (.p (.int .u8 95)))) h fun x4 h =>
 vguard x4 false (fun kk => kk x0 h) h fun x6 h =>
 vguard x4 false (fun kk => vbin .or 0 x6 (.v (.c (.p (.int .u8 32)))) h kk) h fun x7 h =>
 vguard x4 false (fun kk => vbin .geq 0 x7 (.v (.c (.p (.int .u8 97)))) h kk) h fun x8 h =>
 vguard x4 false (fun kk => kk x8 h) h fun x9 h =>
 vguard x9 true (fun kk => kk x0 h) h fun x10 h =>
 vguard x9 true (fun kk => vbin .or 0 x10 (.v (.c (.p (.int .u8 32)))) h kk) h fun x11 h =>
 vguard x9 true (fun kk => vbin .leq 0 x11 (.v (.c (.p (.int .u8 122)))) h kk) h fun x12 h =>
 vguard x4 false (fun kk => vop O (.pick (.k x9) (.k x12) (.k (kB false))) h 13 kk) h fun x13 h =>
 vop O (.pick (.k x4) (.k (kB true)) (.k x13)) h 14 fun x14 h =>
 tcomp x14 fun c0 => vfin true q [c0] h
theorem e138_0 (O : Oracle) (R : Jump) (q : Nat) (x0 : TVal) (h : Heap) : b138_0 O R q x0 h = stepF c138 O R q 0 [x0] h := by kernel_rfl
noncomputable def d138 : BlkF := fun O R q => [.s fun y0 => .z fun h => b138_0 O R q y0 h]
theorem o138 (O : Oracle) (R : Jump) (q : Nat) : HoldsAll c138 O R q 0 (d138 O R q) := ⟨fun y0 h => e138_0 O R q y0 h, trivial⟩
/- internal/stringslite.Index -/
def c139 : MFunc := { np := 2, res := [.t 4], frz := true, body := (.seq (.reg [(oA 4 (.mv (.k (.v (.c (.p (.int .i64 0)))))))] []) (.seq (.reg [(oA 14 (.mv (.t 1))), (oA 15 (.len 0 (.t 14))), (oA 5 (.mv (.t 15)))] []) (.seq (.block 0 (.seq (.reg [(oA 17 (.mv (.t 5))), (oA 18 (.bin .eql 0 (.t 17) (.k (.v (.c (.p (.int .i64 0))))))), (oA 19 (.mv (.t 18))), ⟨(some 20), (.mv (.t 1)), (some (19, false))⟩, ⟨(some 21), (.mv (.t 0)), (some (19, false))⟩, ⟨(some 22), (.bin .eql 0 (.t 20) (.t 21)), (some (19, false))⟩, (oA 23 (.pick (.t 19) (.k (.v (.c (.p (.bool true))))) (.t 22))), (oA 16 (.mv (.t 23)))] []) (.cond (.t 16) (.seq (.reg [(oA 4 (.mv (.k (.v (.c (.p (.int .i64 0)))))))] []) .ret) (.seq (.reg [(oA 25 (.mv (.t 5))), (oA 26 (.bin .eql 0 (.t 25) (.k (.v (.c (.p (.int .i64 1))))))), (oA 24 (.mv (.t 26)))] []) (.cond (.t 24) (.seq (.reg [(oA 27 (.mv (.t 0))), (oA 28 (.mv (.t 1))), (oA 29 (.index (.t 28) (.k (.v (.c (.p (.int .i64 0))))))), (oA 30 (.call (.k (.v (.c (.func 143 [])))) [(.t 27), (.t 29)])), (oA 4 (.mv (.t 30)))] []) .ret) (.seq (.reg [(oA 32 (.mv (.t 5))), (oA 33 (.mv (.t 0))), (oA 34 (.len 0 (.t 33))), (oA 35 (.bin .geq 0 (.t 32) (.t 34))), (oA 31 (.mv (.t 35)))] []) (.cond (.t 31) (.seq (.reg [(oA 4 (.mv (.k (.v (.c (.p (.int .i64 (-1))))))))] []) .ret) (.seq (.reg [(oA 37 (.mv (.t 5))), (oA 38 (.load false 1 (.k (.v (.c (.p (.pptr [(.sym .i64 63 (.ofNat 0) (.ofNat 1) (.ofNat 0))] 0))))))), (oA 39 (.bin .leq 0 (.t 37) (.t 38))), (oA 40 (.mv (.t 39))), ⟨(some 41), (.mv (.t 0)), (some (40, true))⟩, ⟨(some 42), (.len 0 (.t 41)), (some (40, true))⟩, ⟨(some 43), (.bin .leq 0 (.t 42) (.k (.v (.c (.p (.int .i64 64)))))), (some (40, true))⟩, (oA 44 (.pick (.t 40) (.t 43) (.k (.v (.c (.p (.bool false))))))), (oA 36 (.mv (.t 44)))] []) (.cond (.t 36) (.seq (.reg [(oA 45 (.mv (.t 0))), (oA 46 (.mv (.t 1))), (oA 47 (.call (.k (.v (.c (.func 144 [])))) [(.t 45), (.t 46)])), (oA 4 (.mv (.t 47)))] []) .ret) .skip))))))))) (.seq (.reg [(oA 48 (.mv (.t 1))), (oA 49 (.index (.t 48) (.k (.v (.c (.p (.int .i64 0))))))), (oA 6 (.mv (.t 49)))] []) (.seq (.reg [(oA 50 (.mv (.t 1))), (oA 51 (.index (.t 50) (.k (.v (.c (.p (.int .i64 1))))))), (oA 7 (.mv (.t 51)))] []) (.seq (.reg [(oA 8 (.mv (.k (.v (.c (.p (.int .i64 0)))))))] []) (.seq (.reg [(oA 52 (.mv (.t 0))), (oA 53 (.len 0 (.t 52))), (oA 54 (.mv (.t 5))), (oA 55 (.bin .sub 0 (.t 53) (.t 54))), (oA 56 (.bin .add 0 (.t 55) (.k (.v (.c (.p (.int .i64 1))))))), (oA 9 (.mv (.t 56)))] []) (.seq (.reg [(oA 10 (.mv (.k (.v (.c (.p (.int .i64 0)))))))] []) (.seq (.block 1 (.loop 1 [0, 1, 5, 6, 7, 8, 9, 10] (.seq (.seq (.reg [(oA 57 (.mv (.t 8))), (oA 58 (.mv (.t 9))), (oA 59 (.bin .lss 0 (.t 57) (.t 58)))] []) (.cond (.t 59) .skip (.exit 1))) (.block 2 (.seq (.seq (.reg [(oA 60 (.mv (.t 0))), (oA 61 (.mv (.t 8))), (oA 62 (.index (.t 60) (.t 61))), (oA 63 (.mv (.t 6))), (oA 64 (.bin .neq 0 (.t 62) (.t 63)))] []) (.cond (.t 64) (.seq (.reg [(oA 65 (.mv (.t 0))), (oA 66 (.mv (.t 8))), (oA 67 (.bin .add 0 (.t 66) (.k (.v (.c (.p (.int .i64 1))))))), (oA 68 (.mv (.t 9))), (oA 69 (.slice 0 true (.t 65) (some (.t 67)) (some (.t 68)) none)), (oA 70 (.mv (.t 6))), (oA 71 (.call (.k (.v (.c (.func 143 [])))) [(.t 69), (.t 70)])), (oA 11 (.mv (.t 71)))] []) (.seq (.seq (.reg [(oA 72 (.mv (.t 11))), (oA 73 (.bin .lss 0 (.t 72) (.k (.v (.c (.p (.int .i64 0)))))))] []) (.cond (.t 73) (.seq (.reg [(oA 4 (.mv (.k (.v (.c (.p (.int .i64 (-1))))))))] []) .ret) .skip)) (.reg [(oA 74 (.mv (.t 8))), (oA 75 (.mv (.t 11))), (oA 76 (.bin .add 0 (.t 75) (.k (.v (.c (.p (.int .i64 1))))))), (oA 77 (.bin .add 0 (.t 74) (.t 76))), (oA 8 (.mv (.t 77)))] []))) .skip)) (.mark 2 [0, 1, 5, 6, 7, 8, 9, 10] (.seq (.seq (.reg [(oA 78 (.mv (.t 0))), (oA 79 (.mv (.t 8))), (oA 80 (.bin .add 0 (.t 79) (.k (.v (.c (.p (.int .i64 1))))))), (oA 81 (.index (.t 78) (.t 80))), (oA 82 (.mv (.t 7))), (oA 83 (.bin .eql 0 (.t 81) (.t 82))), (oA 84 (.mv (.t 83))), ⟨(some 85), (.mv (.t 0)), (some (84, true))⟩, ⟨(some 86), (.mv (.t 8)), (some (84, true))⟩, ⟨(some 87), (.mv (.t 8)), (some (84, true))⟩, ⟨(some 88), (.mv (.t 5)), (some (84, true))⟩, ⟨(some 89), (.bin .add 0 (.t 87) (.t 88)), (some (84, true))⟩, ⟨(some 90), (.slice 0 true (.t 85) (some (.t 86)) (some (.t 89)) none), (some (84, true))⟩, ⟨(some 91), (.mv (.t 1)), (some (84, true))⟩, ⟨(some 92), (.bin .eql 0 (.t 90) (.t 91)), (some (84, true))⟩, (oA 93 (.pick (.t 84) (.t 92) (.k (.v (.c (.p (.bool false)))))))] []) (.cond (.t 93) (.seq (.reg [(oA 94 (.mv (.t 8))), (oA 4 (.mv (.t 94)))] []) .ret) .skip)) (.seq (.reg [(oA 95 (.mv (.t 8))), (oA 96 (.bin .add 0 (.t 95) (.k (.v (.c (.p (.int .i64 1))))))), (oA 8 (.mv (.t 96)))] []) (.seq (.reg [(oA 97 (.mv (.t 10))), (oA 98 (.bin .add 0 (.t 97) (.k (.v (.c (.p (.int .i64 1))))))), (oA 10 (.mv (.t 98)))] []) (.seq (.reg [(oA 99 (.mv (.t 5))), (oA 100 (.load false 1 (.k (.v (.c (.p (.pptr [(.sym .i64 63 (.ofNat 0) (.ofNat 1) (.ofNat 0))] 0))))))), (oA 101 (.bin .leq 0 (.t 99) (.t 100))), (oA 102 (.mv (.t 101))), ⟨(some 103), (.mv (.t 10)), (some (102, true))⟩, ⟨(some 104), (.mv (.t 8)), (some (102, true))⟩, ⟨(some 105), (.call (.k (.v (.c (.func 145 [])))) [(.t 104)]), (some (102, true))⟩, ⟨(some 106), (.bin .gtr 0 (.t 103) (.t 105)), (some (102, true))⟩, (oA 107 (.pick (.t 102) (.t 106) (.k (.v (.c (.p (.bool false)))))))] []) (.cond (.t 107) (.seq (.reg [(oA 108 (.mv (.t 0))), (oA 109 (.mv (.t 8))), (oA 110 (.slice 0 true (.t 108) (some (.t 109)) none none)), (oA 111 (.mv (.t 1))), (oA 112 (.call (.k (.v (.c (.func 144 [])))) [(.t 110), (.t 111)])), (oA 12 (.mv (.t 112)))] []) (.seq (.seq (.reg [(oA 113 (.mv (.t 12))), (oA 114 (.bin .geq 0 (.t 113) (.k (.v (.c (.p (.int .i64 0)))))))] []) (.cond (.t 114) (.seq (.reg [(oA 115 (.mv (.t 12))), (oA 116 (.mv (.t 8))), (oA 117 (.bin .add 0 (.t 115) (.t 116))), (oA 4 (.mv (.t 117)))] []) .ret) .skip)) (.seq (.reg [(oA 4 (.mv (.k (.v (.c (.p (.int .i64 (-1))))))))] []) .ret))) (.seq (.reg [(oA 118 (.mv (.t 5))), (oA 119 (.load false 1 (.k (.v (.c (.p (.pptr [(.sym .i64 63 (.ofNat 0) (.ofNat 1) (.ofNat 0))] 0))))))), (oA 120 (.bin .gtr 0 (.t 118) (.t 119))), (oA 121 (.mv (.t 120))), ⟨(some 122), (.mv (.t 10)), (some (121, true))⟩, ⟨(some 123), (.mv (.t 8)), (some (121, true))⟩, ⟨(some 124), (.bin .shr 0 (.t 123) (.k (.v (.c (.p (.int .u64 4)))))), (some (121, true))⟩, ⟨(some 125), (.bin .add 0 (.k (.v (.c (.p (.int .i64 4))))) (.t 124)), (some (121, true))⟩, ⟨(some 126), (.bin .geq 0 (.t 122) (.t 125)), (some (121, true))⟩, (oA 127 (.pick (.t 121) (.t 126) (.k (.v (.c (.p (.bool false))))))), (oA 128 (.mv (.t 127))), ⟨(some 129), (.mv (.t 8)), (some (128, true))⟩, ⟨(some 130), (.mv (.t 9)), (some (128, true))⟩, ⟨(some 131), (.bin .lss 0 (.t 129) (.t 130)), (some (128, true))⟩, (oA 132 (.pick (.t 128) (.t 131) (.k (.v (.c (.p (.bool false)))))))] []) (.cond (.t 132) (.seq (.reg [(oA 133 (.mv (.t 0))), (oA 134 (.mv (.t 8))), (oA 135 (.slice 0 true (.t 133) (some (.t 134)) none none)), (oA 136 (.mv (.t 1))), (oA 137 (.call (.k (.v (.c (.func 146 [])))) [(.t 135), (.t 136)])), (oA 13 (.mv (.t 137)))] []) (.seq (.seq (.reg [(oA 138 (.mv (.t 13))), (oA 139 (.bin .lss 0 (.t 138) (.k (.v (.c (.p (.int .i64 0)))))))] []) (.cond (.t 139) (.seq (.reg [(oA 4 (.mv (.k (.v (.c (.p (.int .i64 (-1))))))))] []) .ret) .skip)) (.seq (.reg [(oA 140 (.mv (.t 8))), (oA 141 (.mv (.t 13))), (oA 142 (.bin .add 0 (.t 140) (.t 141))), (oA 4 (.mv (.t 142)))] []) .ret))) .skip))))))))))))) (.seq (.reg [(oA 4 (.mv (.k (.v (.c (.p (.int .i64 (-1))))))))] []) .ret)))))))))) }
theorem t139 : compF Tryz.prog (globs2 tabs opq) (fun _ => false) true Tryz.f139 = some c139.erase := by kernel_rfl
noncomputable def b139_0 (O : Oracle) (R : Jump) (q : Nat) (x0 x1 : TVal) (h : Heap) : Res1 :=
 vlen O 0 x1 h 15 fun x15 h =>
 vbin .eql 0 x15 (kI 0) h fun x18 h =>
 vguard x18 false (fun kk => kk x1 h) h fun x20 h =>
 vguard x18 false (fun kk => kk x0 h) h fun x21 h =>
 vguard x18 false (fun kk => vbin .eql 0 x20 x21 h kk) h fun x22 h =>
 vop O (.pick (.k x18) (.k (kB true)) (.k x22)) h 23 fun x23 h =>
 vif x23 (
 tcomp (kI 0) fun c0 => vfin true q [c0] h)
 (vbin .eql 0 x15 (kI 1) h fun x26 h =>
 vif x26 (
 vindex x1 (kI 0) h fun x29 h =>
 vcall O (.v (.c (.func 143 []))) [x0, x29] h 30 fun x30 h =>
 tcomp x30 fun c0 => vfin true q [c0] h)
 (vlen O 0 x0 h 34 fun x34 h =>
 vbin .geq 0 x15 x34 h fun x35 h =>
 vif x35 (
 tcomp (kI (-1)) fun c0 => vfin true q [c0] h)
 (vload false 1 (.v (.c (.p (.pptr [(.sym .i64 63 (.ofNat 0) (.ofNat 1) (.ofNat 0))] 0)))) h fun x38 h =>
 vbin .leq 0 x15 x38 h fun x39 h =>
 vguard x39 true (fun kk => kk x0 h) h fun x41 h =>
 vguard x39 true (fun kk => vlen O 0 x41 h 42 kk) h fun x42 h =>
 vguard x39 true (fun kk => vbin .leq 0 x42 (kI 64) h kk) h fun x43 h =>
 vop O (.pick (.k x39) (.k x43) (.k (kB false))) h 44 fun x44 h =>
 vif x44 (
 vcall O (.v (.c (.func 144 []))) [x0, x1] h 47 fun x47 h =>
 tcomp x47 fun c0 => vfin true q [c0] h)
 (vindex x1 (kI 0) h fun x49 h =>
 vindex x1 (kI 1) h fun x51 h =>
 vlen O 0 x0 h 53 fun x53 h =>
 vbin .sub 0 x53 x15 h fun x55 h =>
 vbin .add 0 x55 (kI 1) h fun x56 h =>
 R 1 [x0, x1, x15, x49, x51, (kI 0), x56, (kI 0)] h))))
theorem e139_0 (O : Oracle) (R : Jump) (q : Nat) (x0 x1 : TVal) (h : Heap) : b139_0 O R q x0 x1 h = stepF c139 O R q 0 [x0, x1] h := by kernel_rfl
noncomputable def b139_1 (O : Oracle) (R : Jump) (q : Nat) (x0 x1 x5 x6 x7 x8 x9 x10 : TVal) (h : Heap) : Res1 :=
 vbin .lss 0 x8 x9 h fun x59 h =>
 vif x59 (
 vindex x0 x8 h fun x62 h =>
 vbin .neq 0 x62 x6 h fun x64 h =>
 vif x64 (
 vbin .add 0 x8 (kI 1) h fun x67 h =>
 vop O (.slice 0 true (.k x0) (some (.k x67)) (some (.k x9)) none) h 69 fun x69 h =>
 vcall O (.v (.c (.func 143 []))) [x69, x6] h 71 fun x71 h =>
 vbin .lss 0 x71 (kI 0) h fun x73 h =>
 vif x73 (
 tcomp (kI (-1)) fun c0 => vfin true q [c0] h)
 (vbin .add 0 x71 (kI 1) h fun x76 h =>
 vbin .add 0 x8 x76 h fun x77 h =>
 R 2 [x0, x1, x5, x6, x7, x77, x9, x10] h))
 (R 2 [x0, x1, x5, x6, x7, x8, x9, x10] h))
 (tcomp (kI (-1)) fun c0 => vfin true q [c0] h)
theorem e139_1 (O : Oracle) (R : Jump) (q : Nat) (x0 x1 x5 x6 x7 x8 x9 x10 : TVal) (h : Heap) : b139_1 O R q x0 x1 x5 x6 x7 x8 x9 x10 h = stepF c139 O R q 1 [x0, x1, x5, x6, x7, x8, x9, x10] h := by kernel_rfl
noncomputable def b139_2 (O : Oracle) (R : Jump) (q : Nat) (x0 x1 x5 x6 x7 x8 x9 x10 : TVal) (h : Heap) : Res1 :=
 vbin .add 0 x8 (kI 1) h fun x80 h =>
 vindex x0 x80 h fun x81 h =>
 vbin .eql 0 x81 x7 h fun x83 h =>
 vguard x83 true (fun kk => kk x0 h) h fun x85 h =>
 vguard x83 true (fun kk => kk x8 h) h fun x86 h =>
 vguard x83 true (fun kk => kk x8 h) h fun x87 h =>
 vguard x83 true (fun kk => kk x5 h) h fun x88 h =>
 vguard x83 true (fun kk => vbin .add 0 x87 x88 h kk) h fun x89 h =>
 vguard x83 true (fun kk => vop O (.slice 0 true (.k x85) (some (.k x86)) (some (.k x89)) none) h 90 kk) h fun x90 h =>
 vguard x83 true (fun kk => kk x1 h) h fun x91 h =>
 vguard x83 true (fun kk => vbin .eql 0 x90 x91 h kk) h fun x92 h =>
 vop O (.pick (.k x83) (.k x92) (.k (kB false))) h 93 fun x93 h =>
 vif x93 (
 tcomp x8 fun c0 => vfin true q [c0] h)
 (vbin .add 0 x8 (kI 1) h fun x96 h =>
 vbin .add 0 x10 (kI 1) h fun x98 h =>
 vload false 1 (.v (.c (.p (.pptr [(.sym .i64 63 (.ofNat 0) (.ofNat 1) (.ofNat 0))] 0)))) h fun x100 h =>
 vbin .leq 0 x5 x100 h fun x101 h =>
 vguard x101 true (fun kk => kk x98 h) h fun x103 h =>
 vguard x101 true (fun kk => kk x96 h) h fun x104 h =>
 vguard x101 true (fun kk => vcall O (.v (.c (.func 145 []))) [x104] h 105 kk) h fun x105 h =>
 vguard x101 true (fun kk => vbin .gtr 0 x103 x105 h kk) h fun x106 h =>
 vop O (.pick (.k x101) (.k x106) (.k (kB false))) h 107 fun x107 h =>
 vif x107 (
 vop O (.slice 0 true (.k x0) (some (.k x96)) none none) h 110 fun x110 h =>
 vcall O (.v (.c (.func 144 []))) [x110, x1] h 112 fun x112 h =>
 vbin .geq 0 x112 (kI 0) h fun x114 h =>
 vif x114 (
 vbin .add 0 x112 x96 h fun x117 h =>
 tcomp x117 fun c0 => vfin true q [c0] h)
 (tcomp (kI (-1)) fun c0 => vfin true q [c0] h))
 (vload false 1 (.v (.c (.p (.pptr [(.sym .i64 63 (.ofNat 0) (.ofNat 1) (.ofNat 0))] 0)))) h fun x119 h =>
 vbin .gtr 0 x5 x119 h fun x120 h =>
 vguard x120 true (fun kk => kk x98 h) h fun x122 h =>
 vguard x120 true (fun kk => kk x96 h) h fun x123 h =>
 vguard x120 true (fun kk => vbin .shr 0 x123 (.v (.c (.p (.int .u64 4)))) h kk) h fun x124 h =>
 vguard x120 true (fun kk => vbin .add 0 (kI 4) x124 h kk) h fun x125 h =>
 vguard x120 true (fun kk => vbin .geq 0 x122 x125 h kk) h fun x126 h =>
 vop O (.pick (.k x120) (.k x126) (.k (kB false))) h 127 fun x127 h =>
 vguard x127 true (fun kk => kk x96 h) h fun x129 h =>
 vguard x127 true (fun kk => kk x9 h) h fun x130 h =>
 vguard x127 true (fun kk => vbin .lss 0 x129 x130 h kk) h fun x131 h =>
 vop O (.pick (.k x127) (.k x131) (.k (kB false))) h 132 fun x132 h =>
 vif x132 (
 vop O (.slice 0 true (.k x0) (some (.k x96)) none none) h 135 fun x135 h =>
 vcall O (.v (.c (.func 146 []))) [x135, x1] h 137 fun x137 h =>
 vbin .lss 0 x137 (kI 0) h fun x139 h =>
 vif x139 (
 tcomp (kI (-1)) fun c0 => vfin true q [c0] h)
 (vbin .add 0 x96 x137 h fun x142 h =>
 tcomp x142 fun c0 => vfin true q [c0] h))
 (R 1 [x0, x1, x5, x6, x7, x96, x9, x98] h)))
theorem e139_2 (O : Oracle) (R : Jump) (q : Nat) (x0 x1 x5 x6 x7 x8 x9 x10 : TVal) (h : Heap) : b139_2 O R q x0 x1 x5 x6 x7 x8 x9 x10 h = stepF c139 O R q 2 [x0, x1, x5, x6, x7, x8, x9, x10] h := by kernel_rfl
noncomputable def d139 : BlkF := fun O R q => [.s fun y0 => .s fun y1 => .z fun h => b139_0 O R q y0 y1 h, .s fun y0 => .s fun y1 => .s fun y2 => .s fun y3 => .s fun y4 => .s fun y5 => .s fun y6 => .s fun y7 => .z fun h => b139_1 O R q y0 y1 y2 y3 y4 y5 y6 y7 h, .s fun y0 => .s fun y1 => .s fun y2 => .s fun y3 => .s fun y4 => .s fun y5 => .s fun y6 => .s fun y7 => .z fun h => b139_2 O R q y0 y1 y2 y3 y4 y5 y6 y7 h]
theorem o139 (O : Oracle) (R : Jump) (q : Nat) : HoldsAll c139 O R q 0 (d139 O R q) := ⟨fun y0 y1 h => e139_0 O R q y0 y1 h, fun y0 y1 y2 y3 y4 y5 y6 y7 h => e139_1 O R q y0 y1 y2 y3 y4 y5 y6 y7 h, fun y0 y1 y2 y3 y4 y5 y6 y7 h => e139_2 O R q y0 y1 y2 y3 y4 y5 y6 y7 h, trivial⟩
/- slices.IndexFunc[[]sprue/api.Value,sprue/api.Value] -/
def c140 : MFunc := { np := 2, res := [.t 4], frz := true, body := (.seq (.reg [(oA 4 (.mv (.k (.v (.c (.p (.int .i64 0)))))))] []) (.seq (.seq (.reg [(oA 6 (.mv (.t 0))), (oA 7 (.len 2 (.t 6))), (oA 8 (.mv (.k (.v (.c (.p (.int .i64 0)))))))] []) (.block 0 (.loop 1 [0, 1, 7, 8] (.seq (.reg [(oA 9 (.bin .lss 0 (.t 8) (.t 7)))] []) (.seq (.cond (.t 9) .skip (.exit 0)) (.seq (.block 1 (.seq (.reg [(oA 10 (.mv (.t 8))), (oA 5 (.mv (.t 10)))] []) (.seq (.reg [(oA 11 (.mv (.t 1))), (oA 12 (.mv (.t 0))), (oA 13 (.mv (.t 5))), (oA 14 (.iaddr 6 (.t 12) (.t 13))), (oA 15 (.load true 6 (.t 14))), (oA 16 (.call (.t 11) [(.t 15)]))] []) (.cond (.t 16) (.seq (.reg [(oA 17 (.mv (.t 5))), (oA 4 (.mv (.t 17)))] []) .ret) .skip)))) (.reg [(oA 18 (.bin .add 0 (.t 8) (.k (.v (.c (.p (.int .i64 1))))))), (oA 8 (.mv (.t 18)))] []))))))) (.seq (.reg [(oA 4 (.mv (.k (.v (.c (.p (.int .i64 (-1))))))))] []) .ret))) }
theorem t140 : compF Tryz.prog (globs2 tabs opq) (fun _ => false) true Tryz.f140 = some c140.erase := by kernel_rfl
noncomputable def b140_0 (O : Oracle) (R : Jump) (q : Nat) (x0 x1 : TVal) (h : Heap) : Res1 :=
 vlen O 2 x0 h 7 fun x7 h =>
 R 1 [x0, x1, x7, (kI 0)] h
theorem e140_0 (O : Oracle) (R : Jump) (q : Nat) (x0 x1 : TVal) (h : Heap) : b140_0 O R q x0 x1 h = stepF c140 O R q 0 [x0, x1] h := by kernel_rfl
noncomputable def b140_1 (O : Oracle) (R : Jump) (q : Nat) (x0 x1 x7 x8 : TVal) (h : Heap) : Res1 :=
 vbin .lss 0 x8 x7 h fun x9 h =>
 vif x9 (
 viaddr 6 x0 x8 h fun x14 h =>
 vload true 6 x14 h fun x15 h =>
 vcall O x1 [x15] h 16 fun x16 h =>
 vif x16 (
 tcomp x8 fun c0 => vfin true q [c0] h)
 (vbin .add 0 x8 (kI 1) h fun x18 h =>
 R 1 [x0, x1, x7, x18] h))
 (tcomp (kI (-1)) fun c0 => vfin true q [c0] h)
theorem e140_1 (O : Oracle) (R : Jump) (q : Nat) (x0 x1 x7 x8 : TVal) (h : Heap) : b140_1 O R q x0 x1 x7 x8 h = stepF c140 O R q 1 [x0, x1, x7, x8] h := by kernel_rfl
noncomputable def d140 : BlkF := fun O R q => [.s fun y0 => .s fun y1 => .z fun h => b140_0 O R q y0 y1 h, .s fun y0 => .s fun y1 => .s fun y2 => .s fun y3 => .z fun h => b140_1 O R q y0 y1 y2 y3 h]
theorem o140 (O : Oracle) (R : Jump) (q : Nat) : HoldsAll c140 O R q 0 (d140 O R q) := ⟨fun y0 y1 h => e140_0 O R q y0 y1 h, fun y0 y1 y2 y3 h => e140_1 O R q y0 y1 y2 y3 h, trivial⟩
/- math/bits.TrailingZeros32 -/
def c141 : MFunc := { np := 1, res := [.t 2], frz := true, body := (.seq (.reg [(oA 2 (.mv (.k (.v (.c (.p (.int .i64 0)))))))] []) (.seq (.seq (.reg [(oA 3 (.mv (.t 0))), (oA 4 (.bin .eql 0 (.t 3) (.k (.v (.c (.p (.int .u32 0)))))))] []) (.cond (.t 4) (.seq (.reg [(oA 2 (.mv (.k (.v (.c (.p (.int .i64 32)))))))] []) .ret) .skip)) (.seq (.reg [(oA 5 (.mv (.t 0))), (oA 6 (.mv (.t 0))), (oA 7 (.un .neg (.t 6))), (oA 8 (.bin .and 0 (.t 5) (.t 7))), (oA 9 (.bin .mul 0 (.t 8) (.k (.v (.c (.p (.int .u32 125613361))))))), (oA 10 (.bin .shr 0 (.t 9) (.k (.v (.c (.p (.int .u64 27))))))), (oA 11 .bad), (oA 12 (.load false 1 (.t 11))), (oA 13 (.toInt .i64 (.t 12))), (oA 2 (.mv (.t 13)))] []) .ret))) }
theorem t141 : compF Tryz.prog (globs2 tabs opq) (fun _ => false) true Tryz.f141 = some c141.erase := by kernel_rfl
noncomputable def b141_0 (O : Oracle) (R : Jump) (q : Nat) (x0 : TVal) (h : Heap) : Res1 :=
 vbin .eql 0 x0 (.v (.c (.p (.int .u32 0)))) h fun x4 h =>
 vif x4 (
 tcomp (kI 32) fun c0 => vfin true q [c0] h)
 (vop O (.un .neg (.k x0)) h 7 fun x7 h =>
 vbin .and 0 x0 x7 h fun x8 h =>
 vbin .mul 0 x8 (.v (.c (.p (.int .u32 125613361)))) h fun x9 h =>
 vbin .shr 0 x9 (.v (.c (.p (.int .u64 27)))) h fun x10 h =>
 none)
theorem e141_0 (O : Oracle) (R : Jump) (q : Nat) (x0 : TVal) (h : Heap) : b141_0 O R q x0 h = stepF c141 O R q 0 [x0] h := by kernel_rfl
noncomputable def d141 : BlkF := fun O R q => [.s fun y0 => .z fun h => b141_0 O R q y0 h]
theorem o141 (O : Oracle) (R : Jump) (q : Nat) : HoldsAll c141 O R q 0 (d141 O R q) := ⟨fun y0 h => e141_0 O R q y0 h, trivial⟩
/- math/bits.TrailingZeros64 -/
def c142 : MFunc := { np := 1, res := [.t 2], frz := true, body := (.seq (.reg [(oA 2 (.mv (.k (.v (.c (.p (.int .i64 0)))))))] []) (.seq (.seq (.reg [(oA 3 (.mv (.t 0))), (oA 4 (.bin .eql 0 (.t 3) (.k (.v (.c (.p (.int .u64 0)))))))] []) (.cond (.t 4) (.seq (.reg [(oA 2 (.mv (.k (.v (.c (.p (.int .i64 64)))))))] []) .ret) .skip)) (.seq (.reg [(oA 5 (.mv (.t 0))), (oA 6 (.mv (.t 0))), (oA 7 (.un .neg (.t 6))), (oA 8 (.bin .and 0 (.t 5) (.t 7))), (oA 9 (.bin .mul 0 (.t 8) (.k (.v (.c (.p (.int .u64 285870213051353865))))))), (oA 10 (.bin .shr 0 (.t 9) (.k (.v (.c (.p (.int .u64 58))))))), (oA 11 .bad), (oA 12 (.load false 1 (.t 11))), (oA 13 (.toInt .i64 (.t 12))), (oA 2 (.mv (.t 13)))] []) .ret))) }
theorem t142 : compF Tryz.prog (globs2 tabs opq) (fun _ => false) true Tryz.f142 = some c142.erase := by kernel_rfl
noncomputable def b142_0 (O : Oracle) (R : Jump) (q : Nat) (x0 : TVal) (h : Heap) : Res1 :=
 vbin .eql 0 x0 (.v (.c (.p (.int .u64 0)))) h fun x4 h =>
 vif x4 (
 tcomp (kI 64) fun c0 => vfin true q [c0] h)
 (vop O (.un .neg (.k x0)) h 7 fun x7 h =>
 vbin .and 0 x0 x7 h fun x8 h =>
 vbin .mul 0 x8 (.v (.c (.p (.int .u64 285870213051353865)))) h fun x9 h =>
 vbin .shr 0 x9 (.v (.c (.p (.int .u64 58)))) h fun x10 h =>
 none)
theorem e142_0 (O : Oracle) (R : Jump) (q : Nat) (x0 : TVal) (h : Heap) : b142_0 O R q x0 h = stepF c142 O R q 0 [x0] h := by kernel_rfl
noncomputable def d142 : BlkF := fun O R q => [.s fun y0 => .z fun h => b142_0 O R q y0 h]
theorem o142 (O : Oracle) (R : Jump) (q : Nat) : HoldsAll c142 O R q 0 (d142 O R q) := ⟨fun y0 h => e142_0 O R q y0 h, trivial⟩
/- internal/stringslite.IndexByte -/
def c143 : MFunc := { np := 2, res := [.t 4], frz := true, body := (.seq (.reg [(oA 4 (.mv (.k (.v (.c (.p (.int .i64 0)))))))] []) (.seq (.reg [(oA 5 (.mv (.t 0))), (oA 6 (.mv (.t 1))), (oA 7 (.call (.k (.v (.c (.func 147 [])))) [(.t 5), (.t 6)])), (oA 4 (.mv (.t 7)))] []) .ret)) }
theorem t143 : compF Tryz.prog (globs2 tabs opq) (fun _ => false) true Tryz.f143 = some c143.erase := by kernel_rfl
noncomputable def b143_0 (O : Oracle) (R : Jump) (q : Nat) (x0 x1 : TVal) (h : Heap) : Res1 :=
 vcall O (.v (.c (.func 147 []))) [x0, x1] h 7 fun x7 h =>
 tcomp x7 fun c0 => vfin true q [c0] h
theorem e143_0 (O : Oracle) (R : Jump) (q : Nat) (x0 x1 : TVal) (h : Heap) : b143_0 O R q x0 x1 h = stepF c143 O R q 0 [x0, x1] h := by kernel_rfl
noncomputable def d143 : BlkF := fun O R q => [.s fun y0 => .s fun y1 => .z fun h => b143_0 O R q y0 y1 h]
theorem o143 (O : Oracle) (R : Jump) (q : Nat) : HoldsAll c143 O R q 0 (d143 O R q) := ⟨fun y0 y1 h => e143_0 O R q y0 y1 h, trivial⟩
/- internal/bytealg.Cutover -/
def c145 : MFunc := { np := 1, res := [.t 2], frz := true, body := (.seq (.reg [(oA 2 (.mv (.k (.v (.c (.p (.int .i64 0)))))))] []) (.seq (.reg [(oA 3 (.mv (.t 0))), (oA 4 (.bin .add 0 (.t 3) (.k (.v (.c (.p (.int .i64 16))))))), (oA 5 (.bin .quo 0 (.t 4) (.k (.v (.c (.p (.int .i64 8))))))), (oA 2 (.mv (.t 5)))] []) .ret)) }
theorem t145 : compF Tryz.prog (globs2 tabs opq) (fun _ => false) true Tryz.f145 = some c145.erase := by kernel_rfl
noncomputable def b145_0 (O : Oracle) (R : Jump) (q : Nat) (x0 : TVal) (h : Heap) : Res1 :=
 vbin .add 0 x0 (kI 16) h fun x4 h =>
 vbin .quo 0 x4 (kI 8) h fun x5 h =>
 tcomp x5 fun c0 => vfin true q [c0] h
theorem e145_0 (O : Oracle) (R : Jump) (q : Nat) (x0 : TVal) (h : Heap) : b145_0 O R q x0 h = stepF c145 O R q 0 [x0] h := by kernel_rfl
noncomputable def d145 : BlkF := fun O R q => [.s fun y0 => .z fun h => b145_0 O R q y0 h]
theorem o145 (O : Oracle) (R : Jump) (q : Nat) : HoldsAll c145 O R q 0 (d145 O R q) := ⟨fun y0 h => e145_0 O R q y0 h, trivial⟩
/- internal/bytealg.IndexRabinKarp[string] -/
def c146 : MFunc := { np := 2, res := [.t 4], frz := true, body := (.seq (.reg [(oA 4 (.mv (.k (.v (.c (.p (.int .i64 0)))))))] []) (.seq (.reg [(oA 12 (.mv (.t 1))), (oA 13 (.call (.k (.v (.c (.func 148 [])))) [(.t 12)])), (oA 11 (.mv (.t 13))), (oA 14 (.extract (.t 11) 0)), (oA 15 (.extract (.t 11) 1)), (oA 5 (.mv (.t 14))), (oA 6 (.mv (.t 15)))] []) (.seq (.reg [(oA 16 (.mv (.t 1))), (oA 17 (.len 0 (.t 16))), (oA 7 (.mv (.t 17)))] []) (.seq (.reg [(oA 8 (.mv (.k (.v (.c (.p (.int .u32 0)))))))] []) (.seq (.seq (.reg [(oA 9 (.mv (.k (.v (.c (.p (.int .i64 0)))))))] []) (.block 0 (.loop 1 [0, 1, 5, 6, 7, 8, 9] (.seq (.seq (.reg [(oA 18 (.mv (.t 9))), (oA 19 (.mv (.t 7))), (oA 20 (.bin .lss 0 (.t 18) (.t 19)))] []) (.cond (.t 20) .skip (.exit 0))) (.seq (.block 1 (.reg [(oA 23 (.mv (.t 8))), (oA 24 (.bin .mul 0 (.t 23) (.k (.v (.c (.p (.int .u32 16777619))))))), (oA 25 (.mv (.t 0))), (oA 26 (.mv (.t 9))), (oA 27 (.index (.t 25) (.t 26))), (oA 28 (.toInt .u32 (.t 27))), (oA 29 (.bin .add 0 (.t 24) (.t 28))), (oA 8 (.mv (.t 29)))] [])) (.reg [(oA 21 (.mv (.t 9))), (oA 22 (.bin .add 0 (.t 21) (.k (.v (.c (.p (.int .i64 1))))))), (oA 9 (.mv (.t 22)))] [])))))) (.mark 2 [0, 1, 5, 6, 7, 8] (.seq (.seq (.reg [(oA 30 (.mv (.t 8))), (oA 31 (.mv (.t 5))), (oA 32 (.bin .eql 0 (.t 30) (.t 31))), (oA 33 (.mv (.t 32))), ⟨(some 34), (.mv (.t 0)), (some (33, true))⟩, ⟨(some 35), (.mv (.t 7)), (some (33, true))⟩, ⟨(some 36), (.slice 0 true (.t 34) none (some (.t 35)) none), (some (33, true))⟩, ⟨(some 37), (.mv (.t 1)), (some (33, true))⟩, ⟨(some 38), (.bin .eql 0 (.t 36) (.t 37)), (some (33, true))⟩, (oA 39 (.pick (.t 33) (.t 38) (.k (.v (.c (.p (.bool false)))))))] []) (.cond (.t 39) (.seq (.reg [(oA 4 (.mv (.k (.v (.c (.p (.int .i64 0)))))))] []) .ret) .skip)) (.seq (.seq (.reg [(oA 40 (.mv (.t 7))), (oA 10 (.mv (.t 40)))] []) (.block 2 (.loop 3 [0, 1, 5, 6, 7, 8, 10] (.seq (.seq (.reg [(oA 41 (.mv (.t 10))), (oA 42 (.mv (.t 0))), (oA 43 (.len 0 (.t 42))), (oA 44 (.bin .lss 0 (.t 41) (.t 43)))] []) (.cond (.t 44) .skip (.exit 2))) (.block 3 (.seq (.reg [(oA 45 (.mv (.t 8))), (oA 46 (.bin .mul 0 (.t 45) (.k (.v (.c (.p (.int .u32 16777619))))))), (oA 8 (.mv (.t 46)))] []) (.seq (.reg [(oA 47 (.mv (.t 8))), (oA 48 (.mv (.t 0))), (oA 49 (.mv (.t 10))), (oA 50 (.index (.t 48) (.t 49))), (oA 51 (.toInt .u32 (.t 50))), (oA 52 (.bin .add 0 (.t 47) (.t 51))), (oA 8 (.mv (.t 52)))] []) (.seq (.reg [(oA 53 (.mv (.t 8))), (oA 54 (.mv (.t 6))), (oA 55 (.mv (.t 0))), (oA 56 (.mv (.t 10))), (oA 57 (.mv (.t 7))), (oA 58 (.bin .sub 0 (.t 56) (.t 57))), (oA 59 (.index (.t 55) (.t 58))), (oA 60 (.toInt .u32 (.t 59))), (oA 61 (.bin .mul 0 (.t 54) (.t 60))), (oA 62 (.bin .sub 0 (.t 53) (.t 61))), (oA 8 (.mv (.t 62)))] []) (.seq (.reg [(oA 63 (.mv (.t 10))), (oA 64 (.bin .add 0 (.t 63) (.k (.v (.c (.p (.int .i64 1))))))), (oA 10 (.mv (.t 64)))] []) (.seq (.reg [(oA 65 (.mv (.t 8))), (oA 66 (.mv (.t 5))), (oA 67 (.bin .eql 0 (.t 65) (.t 66))), (oA 68 (.mv (.t 67))), ⟨(some 69), (.mv (.t 0)), (some (68, true))⟩, ⟨(some 70), (.mv (.t 10)), (some (68, true))⟩, ⟨(some 71), (.mv (.t 7)), (some (68, true))⟩, ⟨(some 72), (.bin .sub 0 (.t 70) (.t 71)), (some (68, true))⟩, ⟨(some 73), (.mv (.t 10)), (some (68, true))⟩, ⟨(some 74), (.slice 0 true (.t 69) (some (.t 72)) (some (.t 73)) none), (some (68, true))⟩, ⟨(some 75), (.mv (.t 1)), (some (68, true))⟩, ⟨(some 76), (.bin .eql 0 (.t 74) (.t 75)), (some (68, true))⟩, (oA 77 (.pick (.t 68) (.t 76) (.k (.v (.c (.p (.bool false)))))))] []) (.cond (.t 77) (.seq (.reg [(oA 78 (.mv (.t 10))), (oA 79 (.mv (.t 7))), (oA 80 (.bin .sub 0 (.t 78) (.t 79))), (oA 4 (.mv (.t 80)))] []) .ret) .skip))))))))))) (.seq (.reg [(oA 4 (.mv (.k (.v (.c (.p (.int .i64 (-1))))))))] []) .ret))))))))) }
theorem t146 : compF Tryz.prog (globs2 tabs opq) (fun _ => false) true Tryz.f146 = some c146.erase := by kernel_rfl
noncomputable def b146_0 (O : Oracle) (R : Jump) (q : Nat) (x0 x1 : TVal) (h : Heap) : Res1 :=
 vcall O (.v (.c (.func 148 []))) [x1] h 13 fun x13 h =>
 vext x13 0 h fun x14 h =>
 vext x13 1 h fun x15 h =>
 vlen O 0 x1 h 17 fun x17 h =>
 R 1 [x0, x1, x14, x15, x17, (.v (.c (.p (.int .u32 0)))), (kI 0)] h
theorem e146_0 (O : Oracle) (R : Jump) (q : Nat) (x0 x1 : TVal) (h : Heap) : b146_0 O R q x0 x1 h = stepF c146 O R q 0 [x0, x1] h := by kernel_rfl
noncomputable def b146_1 (O : Oracle) (R : Jump) (q : Nat) (x0 x1 x5 x6 x7 x8 x9 : TVal) (h : Heap) : Res1 :=
 vbin .lss 0 x9 x7 h fun x20 h =>
 vif x20 (
 vbin .mul 0 x8 (.v (.c (.p (.int .u32 16777619)))) h fun x24 h =>
 vindex x0 x9 h fun x27 h =>
 vtoInt .u32 x27 h fun x28 h =>
 vbin .add 0 x24 x28 h fun x29 h =>
 vbin .add 0 x9 (kI 1) h fun x22 h =>
 R 1 [x0, x1, x5, x6, x7, x29, x22] h)
 (R 2 [x0, x1, x5, x6, x7, x8] h)
theorem e146_1 (O : Oracle) (R : Jump) (q : Nat) (x0 x1 x5 x6 x7 x8 x9 : TVal) (h : Heap) : b146_1 O R q x0 x1 x5 x6 x7 x8 x9 h = stepF c146 O R q 1 [x0, x1, x5, x6, x7, x8, x9] h := by kernel_rfl
noncomputable def b146_2 (O : Oracle) (R : Jump) (q : Nat) (x0 x1 x5 x6 x7 x8 : TVal) (h : Heap) : Res1 :=
 vbin .eql 0 x8 x5 h fun x32 h =>
 vguard x32 true (fun kk => kk x0 h) h fun x34 h =>
 vguard x32 true (fun kk => kk x7 h) h fun x35 h =>
 vguard x32 true (fun kk => vop O (.slice 0 true (.k x34) none (some (.k x35)) none) h 36 kk) h fun x36 h =>
 vguard x32 true (fun kk => kk x1 h) h fun x37 h =>
 vguard x32 true (fun kk => vbin .eql 0 x36 x37 h kk) h fun x38 h =>
 vop O (.pick (.k x32) (.k x38) (.k (kB false))) h 39 fun x39 h =>
 vif x39 (
 tcomp (kI 0) fun c0 => vfin true q [c0] h)
 (R 3 [x0, x1, x5, x6, x7, x8, x7] h)
theorem e146_2 (O : Oracle) (R : Jump) (q : Nat) (x0 x1 x5 x6 x7 x8 : TVal) (h : Heap) : b146_2 O R q x0 x1 x5 x6 x7 x8 h = stepF c146 O R q 2 [x0, x1, x5, x6, x7, x8] h := by kernel_rfl
noncomputable def b146_3 (O : Oracle) (R : Jump) (q : Nat) (x0 x1 x5 x6 x7 x8 x10 : TVal) (h : Heap) : Res1 :=
 vlen O 0 x0 h 43 fun x43 h =>
 vbin .lss 0 x10 x43 h fun x44 h =>
 vif x44 (
 vbin .mul 0 x8 (.v (.c (.p (.int .u32 16777619)))) h fun x46 h =>
 vindex x0 x10 h fun x50 h =>
 vtoInt .u32 x50 h fun x51 h =>
 vbin .add 0 x46 x51 h fun x52 h =>
 vbin .sub 0 x10 x7 h fun x58 h =>
 vindex x0 x58 h fun x59 h =>
 vtoInt .u32 x59 h fun x60 h =>
 vbin .mul 0 x6 x60 h fun x61 h =>
 vbin .sub 0 x52 x61 h fun x62 h =>
 vbin .add 0 x10 (kI 1) h fun x64 h =>
 vbin .eql 0 x62 x5 h fun x67 h =>
 vguard x67 true (fun kk => kk x0 h) h fun x69 h =>
 vguard x67 true (fun kk => kk x64 h) h fun x70 h =>
 vguard x67 true (fun kk => kk x7 h) h fun x71 h =>
 vguard x67 true (fun kk => vbin .sub 0 x70 x71 h kk) h fun x72 h =>
 vguard x67 true (fun kk => kk x64 h) h fun x73 h =>
 vguard x67 true (fun kk => vop O (.slice 0 true (.k x69) (some (.k x72)) (some (.k x73)) none) h 74 kk) h fun x74 h =>
 vguard x67 true (fun kk => kk x1 h) h fun x75 h =>
 vguard x67 true (fun kk => vbin .eql 0 x74 x75 h kk) h fun x76 h =>
 vop O (.pick (.k x67) (.k x76) (.k (kB false))) h 77 fun x77 h =>
 vif x77 (
 vbin .sub 0 x64 x7 h fun x80 h =>
 tcomp x80 fun c0 => vfin true q [c0] h)
 (R 3 [x0, x1, x5, x6, x7, x62, x64] h))
 (tcomp (kI (-1)) fun c0 => vfin true q [c0] h)
theorem e146_3 (O : Oracle) (R : Jump) (q : Nat) (x0 x1 x5 x6 x7 x8 x10 : TVal) (h : Heap) : b146_3 O R q x0 x1 x5 x6 x7 x8 x10 h = stepF c146 O R q 3 [x0, x1, x5, x6, x7, x8, x10] h := by kernel_rfl
noncomputable def d146 : BlkF := fun O R q => [.s fun y0 => .s fun y1 => .z fun h => b146_0 O R q y0 y1 h, .s fun y0 => .s fun y1 => .s fun y2 => .s fun y3 => .s fun y4 => .s fun y5 => .s fun y6 => .z fun h => b146_1 O R q y0 y1 y2 y3 y4 y5 y6 h, .s fun y0 => .s fun y1 => .s fun y2 => .s fun y3 => .s fun y4 => .s fun y5 => .z fun h => b146_2 O R q y0 y1 y2 y3 y4 y5 h, .s fun y0 => .s fun y1 => .s fun y2 => .s fun y3 => .s fun y4 => .s fun y5 => .s fun y6 => .z fun h => b146_3 O R q y0 y1 y2 y3 y4 y5 y6 h]
theorem o146 (O : Oracle) (R : Jump) (q : Nat) : HoldsAll c146 O R q 0 (d146 O R q) := ⟨fun y0 y1 h => e146_0 O R q y0 y1 h, fun y0 y1 y2 y3 y4 y5 y6 h => e146_1 O R q y0 y1 y2 y3 y4 y5 y6 h, fun y0 y1 y2 y3 y4 y5 h => e146_2 O R q y0 y1 y2 y3 y4 y5 h, fun y0 y1 y2 y3 y4 y5 y6 h => e146_3 O R q y0 y1 y2 y3 y4 y5 y6 h, trivial⟩
/- internal/bytealg.hashStr[string] -/
def c148 : MFunc := { np := 1, res := [.t 2, .t 3], frz := true, body := (.seq (.reg [(oA 2 (.mv (.k (.v (.c (.p (.int .u32 0))))))), (oA 3 (.mv (.k (.v (.c (.p (.int .u32 0)))))))] []) (.seq (.reg [(oA 4 (.mv (.k (.v (.c (.p (.int .u32 0)))))))] []) (.seq (.seq (.reg [(oA 5 (.mv (.k (.v (.c (.p (.int .i64 0)))))))] []) (.block 0 (.loop 1 [0, 4, 5] (.seq (.seq (.reg [(oA 9 (.mv (.t 5))), (oA 10 (.mv (.t 0))), (oA 11 (.len 0 (.t 10))), (oA 12 (.bin .lss 0 (.t 9) (.t 11)))] []) (.cond (.t 12) .skip (.exit 0))) (.seq (.block 1 (.reg [(oA 15 (.mv (.t 4))), (oA 16 (.bin .mul 0 (.t 15) (.k (.v (.c (.p (.int .u32 16777619))))))), (oA 17 (.mv (.t 0))), (oA 18 (.mv (.t 5))), (oA 19 (.index (.t 17) (.t 18))), (oA 20 (.toInt .u32 (.t 19))), (oA 21 (.bin .add 0 (.t 16) (.t 20))), (oA 4 (.mv (.t 21)))] [])) (.reg [(oA 13 (.mv (.t 5))), (oA 14 (.bin .add 0 (.t 13) (.k (.v (.c (.p (.int .i64 1))))))), (oA 5 (.mv (.t 14)))] [])))))) (.mark 2 [0, 4] (.seq (.reg [(oA 6 (.mv (.k (.v (.c (.p (.int .u32 1))))))), (oA 7 (.mv (.k (.v (.c (.p (.int .u32 16777619)))))))] []) (.seq (.seq (.reg [(oA 22 (.mv (.t 0))), (oA 23 (.len 0 (.t 22))), (oA 8 (.mv (.t 23)))] []) (.block 2 (.loop 3 [4, 6, 7, 8] (.seq (.seq (.reg [(oA 24 (.mv (.t 8))), (oA 25 (.bin .gtr 0 (.t 24) (.k (.v (.c (.p (.int .i64 0)))))))] []) (.cond (.t 25) .skip (.exit 2))) (.seq (.block 3 (.seq (.seq (.reg [(oA 28 (.mv (.t 8))), (oA 29 (.bin .and 0 (.t 28) (.k (.v (.c (.p (.int .i64 1))))))), (oA 30 (.bin .neq 0 (.t 29) (.k (.v (.c (.p (.int .i64 0)))))))] []) (.cond (.t 30) (.reg [(oA 31 (.mv (.t 6))), (oA 32 (.mv (.t 7))), (oA 33 (.bin .mul 0 (.t 31) (.t 32))), (oA 6 (.mv (.t 33)))] []) .skip)) (.mark 4 [4, 6, 7, 8] (.reg [(oA 34 (.mv (.t 7))), (oA 35 (.mv (.t 7))), (oA 36 (.bin .mul 0 (.t 34) (.t 35))), (oA 7 (.mv (.t 36)))] [])))) (.reg [(oA 26 (.mv (.t 8))), (oA 27 (.bin .shr 0 (.t 26) (.k (.v (.c (.p (.int .u64 1))))))), (oA 8 (.mv (.t 27)))] [])))))) (.seq (.reg [(oA 37 (.mv (.t 4))), (oA 38 (.mv (.t 6))), (oA 2 (.mv (.t 37))), (oA 3 (.mv (.t 38)))] []) .ret))))))) }
theorem t148 : compF Tryz.prog (globs2 tabs opq) (fun _ => false) true Tryz.f148 = some c148.erase := by kernel_rfl
noncomputable def b148_0 (O : Oracle) (R : Jump) (q : Nat) (x0 : TVal) (h : Heap) : Res1 :=
 R 1 [x0, (.v (.c (.p (.int .u32 0)))), (kI 0)] h
theorem e148_0 (O : Oracle) (R : Jump) (q : Nat) (x0 : TVal) (h : Heap) : b148_0 O R q x0 h = stepF c148 O R q 0 [x0] h := by kernel_rfl
noncomputable def b148_1 (O : Oracle) (R : Jump) (q : Nat) (x0 x4 x5 : TVal) (h : Heap) : Res1 :=
 vlen O 0 x0 h 11 fun x11 h =>
 vbin .lss 0 x5 x11 h fun x12 h =>
 vif x12 (
 vbin .mul 0 x4 (.v (.c (.p (.int .u32 16777619)))) h fun x16 h =>
 vindex x0 x5 h fun x19 h =>
 vtoInt .u32 x19 h fun x20 h =>
 vbin .add 0 x16 x20 h fun x21 h =>
 vbin .add 0 x5 (kI 1) h fun x14 h =>
 R 1 [x0, x21, x14] h)
 (R 2 [x0, x4] h)
theorem e148_1 (O : Oracle) (R : Jump) (q : Nat) (x0 x4 x5 : TVal) (h : Heap) : b148_1 O R q x0 x4 x5 h = stepF c148 O R q 1 [x0, x4, x5] h := by kernel_rfl
noncomputable def b148_2 (O : Oracle) (R : Jump) (q : Nat) (x0 x4 : TVal) (h : Heap) : Res1 :=
 vlen O 0 x0 h 23 fun x23 h =>
 R 3 [x4, (.v (.c (.p (.int .u32 1)))), (.v (.c (.p (.int .u32 16777619)))), x23] h
theorem e148_2 (O : Oracle) (R : Jump) (q : Nat) (x0 x4 : TVal) (h : Heap) : b148_2 O R q x0 x4 h = stepF c148 O R q 2 [x0, x4] h := by kernel_rfl
noncomputable def b148_3 (O : Oracle) (R : Jump) (q : Nat) (x4 x6 x7 x8 : TVal) (h : Heap) : Res1 :=
 vbin .gtr 0 x8 (kI 0) h fun x25 h =>
 vif x25 (
 vbin .and 0 x8 (kI 1) h fun x29 h =>
 vbin .neq 0 x29 (kI 0) h fun x30 h =>
 vif x30 (
 vbin .mul 0 x6 x7 h fun x33 h =>
 R 4 [x4, x33, x7, x8] h)
 (R 4 [x4, x6, x7, x8] h))
 (tcomp x4 fun c0 => tcomp x6 fun c1 => vfin true q [c0, c1] h)
theorem e148_3 (O : Oracle) (R : Jump) (q : Nat) (x4 x6 x7 x8 : TVal) (h : Heap) : b148_3 O R q x4 x6 x7 x8 h = stepF c148 O R q 3 [x4, x6, x7, x8] h := by kernel_rfl
noncomputable def b148_4 (O : Oracle) (R : Jump) (q : Nat) (x4 x6 x7 x8 : TVal) (h : Heap) : Res1 :=
 vbin .mul 0 x7 x7 h fun x36 h =>
 vbin .shr 0 x8 (.v (.c (.p (.int .u64 1)))) h fun x27 h =>
 R 3 [x4, x6, x36, x27] h
theorem e148_4 (O : Oracle) (R : Jump) (q : Nat) (x4 x6 x7 x8 : TVal) (h : Heap) : b148_4 O R q x4 x6 x7 x8 h = stepF c148 O R q 4 [x4, x6, x7, x8] h := by kernel_rfl
noncomputable def d148 : BlkF := fun O R q => [.s fun y0 => .z fun h => b148_0 O R q y0 h, .s fun y0 => .s fun y1 => .s fun y2 => .z fun h => b148_1 O R q y0 y1 y2 h, .s fun y0 => .s fun y1 => .z fun h => b148_2 O R q y0 y1 h, .s fun y0 => .s fun y1 => .s fun y2 => .s fun y3 => .z fun h => b148_3 O R q y0 y1 y2 y3 h, .s fun y0 => .s fun y1 => .s fun y2 => .s fun y3 => .z fun h => b148_4 O R q y0 y1 y2 y3 h]
theorem o148 (O : Oracle) (R : Jump) (q : Nat) : HoldsAll c148 O R q 0 (d148 O R q) := ⟨fun y0 h => e148_0 O R q y0 h, fun y0 y1 y2 h => e148_1 O R q y0 y1 y2 h, fun y0 y1 h => e148_2 O R q y0 y1 h, fun y0 y1 y2 y3 h => e148_3 O R q y0 y1 y2 y3 h, fun y0 y1 y2 y3 h => e148_4 O R q y0 y1 y2 y3 h, trivial⟩
end Go.Proofs.YtoaankpddboioaaGreatDoor.Ab
