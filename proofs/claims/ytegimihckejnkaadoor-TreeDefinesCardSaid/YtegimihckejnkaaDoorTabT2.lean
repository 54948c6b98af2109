/- Functions of the given program as the abstract interpreter has them (part 2), printed by a program of our own; each is shown to be what 'compF' makes of the given program's. No condition. -/
import Derived.Test.YtegimihckejnkaaDoorTabT1
namespace Go.Proofs.YtegimihckejnkaaDoor.Ab
open Go Go.AI
set_option linter.all false
set_option linter.unusedVariables false
set_option maxRecDepth 100000
/- (*sprue/tree.reader).operand -/
def c93 : MFunc := { np := 1, res := [.cell 2 true 7], frz := true, body := (.seq (.reg [⟨(some 2), (.alloc [(.p (.int .i64 0)), (.p (.str [])), (.p .nilslice), (.p (.str [])), (.p (.int .i64 0)), (.p (.bool false)), (.p .nilslice)] false), none⟩] []) (.seq (.reg [⟨(some 7), (.mv (.t 0)), none⟩, ⟨(some 8), (.call (.k (.v (.c (.func 80 [])))) [(.t 7), (.k (.v (.c (.p (.int .i64 0)))))]), none⟩, ⟨(some 3), (.alloc [(.p (.int .i64 0)), (.p (.str [])), (.p (.int .i64 0)), (.p (.int .i64 0))] false), none⟩, ⟨none, (.store 4 (.t 3) (.t 8)), none⟩] []) (.seq (.reg [⟨(some 9), (.mv (.t 0)), none⟩, ⟨(some 10), (.mv (.t 0)), none⟩, ⟨(some 11), (.call (.k (.v (.c (.func 94 [])))) [(.t 10)]), none⟩, ⟨(some 12), (.call (.k (.v (.c (.func 60 [])))) [(.t 9), (.t 11)]), none⟩] []) (.seq (.reg [⟨(some 13), (.mv (.t 0)), none⟩, ⟨(some 14), (.nilck (.t 13)), none⟩, ⟨(some 15), (.faddr 1 (.t 14)), none⟩, ⟨(some 16), (.load false 1 (.t 15)), none⟩, ⟨(some 17), (.bin .add 0 (.t 16) (.k (.v (.c (.p (.int .i64 1)))))), none⟩, ⟨(some 18), (.nilck (.t 13)), none⟩, ⟨(some 19), (.faddr 1 (.t 18)), none⟩, ⟨none, (.store 1 (.t 19) (.t 17)), none⟩] []) (.seq (.block 0 (.seq (.reg [⟨(some 21), (.faddr 0 (.t 3)), none⟩, ⟨(some 22), (.load false 1 (.t 21)), none⟩, ⟨(some 23), (.bin .eql 0 (.t 22) (.k (.v (.c (.p (.int .i64 2)))))), none⟩, ⟨(some 20), (.mv (.t 23)), none⟩] []) (.cond (.t 20) (.seq (.reg [⟨(some 24), (.faddr 1 (.t 3)), none⟩, ⟨(some 25), (.load false 1 (.t 24)), none⟩, ⟨(some 26), (.build [(.p (.int .i64 0)), (.p (.str [])), (.p .nilslice), (.p (.str [])), (.p (.int .i64 0)), (.p (.bool false)), (.p .nilslice)] [(0, 1, (.k (.v (.c (.p (.int .i64 2)))))), (3, 1, (.t 25))]), none⟩, ⟨none, (.store 7 (.t 2) (.t 26)), none⟩] []) .ret) (.seq (.reg [⟨(some 28), (.faddr 0 (.t 3)), none⟩, ⟨(some 29), (.load false 1 (.t 28)), none⟩, ⟨(some 30), (.bin .eql 0 (.t 29) (.k (.v (.c (.p (.int .i64 3)))))), none⟩, ⟨(some 27), (.mv (.t 30)), none⟩] []) (.cond (.t 27) (.seq (.reg [⟨(some 31), (.faddr 2 (.t 3)), none⟩, ⟨(some 32), (.load false 1 (.t 31)), none⟩, ⟨(some 33), (.build [(.p (.int .i64 0)), (.p (.str [])), (.p .nilslice), (.p (.str [])), (.p (.int .i64 0)), (.p (.bool false)), (.p .nilslice)] [(0, 1, (.k (.v (.c (.p (.int .i64 3)))))), (4, 1, (.t 32))]), none⟩, ⟨none, (.store 7 (.t 2) (.t 33)), none⟩] []) .ret) (.seq (.reg [⟨(some 35), (.faddr 0 (.t 3)), none⟩, ⟨(some 36), (.load false 1 (.t 35)), none⟩, ⟨(some 37), (.bin .eql 0 (.t 36) (.k (.v (.c (.p (.int .i64 1)))))), none⟩, ⟨(some 34), (.mv (.t 37)), none⟩] []) (.cond (.t 34) (.seq (.reg [⟨(some 38), (.faddr 1 (.t 3)), none⟩, ⟨(some 39), (.load false 1 (.t 38)), none⟩, ⟨(some 40), (.bin .eql 0 (.t 39) (.k (.v (.c (.p (.str [116, 114, 117, 101])))))), none⟩, ⟨(some 41), (.build [(.p (.int .i64 0)), (.p (.str [])), (.p .nilslice), (.p (.str [])), (.p (.int .i64 0)), (.p (.bool false)), (.p .nilslice)] [(0, 1, (.k (.v (.c (.p (.int .i64 4)))))), (5, 1, (.t 40))]), none⟩, ⟨none, (.store 7 (.t 2) (.t 41)), none⟩] []) .ret) (.seq (.reg [⟨(some 43), (.load true 4 (.t 3)), none⟩, ⟨(some 44), (.call (.k (.v (.c (.func 81 [])))) [(.t 43), (.k (.v (.c (.p (.str [36])))))]), none⟩, ⟨(some 42), (.mv (.t 44)), none⟩] []) (.cond (.t 42) (.seq (.reg [⟨(some 45), (.mv (.t 0)), none⟩, ⟨(some 46), (.call (.k (.v (.c (.func 80 [])))) [(.t 45), (.k (.v (.c (.p (.int .i64 0)))))]), none⟩, ⟨(some 4), (.alloc [(.p (.int .i64 0)), (.p (.str [])), (.p (.int .i64 0)), (.p (.int .i64 0))] false), none⟩, ⟨none, (.store 4 (.t 4) (.t 46)), none⟩] []) (.seq (.reg [⟨(some 47), (.mv (.t 0)), none⟩, ⟨(some 48), (.call (.k (.v (.c (.func 113 [])))) [(.t 47)]), none⟩, ⟨(some 5), (.mv (.t 48)), none⟩] []) (.seq (.reg [⟨(some 49), (.mv (.t 5)), none⟩, ⟨(some 50), (.mv (.t 0)), none⟩, ⟨(some 51), (.faddr 3 (.t 4)), none⟩, ⟨(some 52), (.load false 1 (.t 51)), none⟩, ⟨(some 53), (.faddr 1 (.t 4)), none⟩, ⟨(some 54), (.load false 1 (.t 53)), none⟩, ⟨(some 55), (.len 0 (.t 54)), none⟩, ⟨(some 56), (.bin .add 0 (.t 52) (.t 55)), none⟩, ⟨(some 57), (.call (.k (.v (.c (.func 121 [])))) [(.t 50), (.t 56)]), none⟩, ⟨(some 58), (.build [(.p (.int .i64 0)), (.p (.str [])), (.p .nilslice), (.p (.str [])), (.p (.int .i64 0)), (.p (.bool false)), (.p .nilslice)] [(0, 1, (.k (.v (.c (.p (.int .i64 1)))))), (1, 1, (.t 49)), (2, 1, (.t 57))]), none⟩, ⟨none, (.store 7 (.t 2) (.t 58)), none⟩] []) .ret))) (.seq (.reg [⟨(some 60), (.load true 4 (.t 3)), none⟩, ⟨(some 61), (.call (.k (.v (.c (.func 81 [])))) [(.t 60), (.k (.v (.c (.p (.str [40])))))]), none⟩, ⟨(some 59), (.mv (.t 61)), none⟩] []) (.cond (.t 59) (.seq (.reg [⟨(some 62), (.mv (.t 0)), none⟩, ⟨(some 63), (.call (.k (.v (.c (.func 122 [])))) [(.t 62)]), none⟩, ⟨none, (.store 7 (.t 2) (.t 63)), none⟩] []) .ret) .skip))))))))))) (.seq (.reg [⟨(some 64), (.mv (.t 0)), none⟩, ⟨(some 65), (.nilck (.t 64)), none⟩, ⟨(some 66), (.faddr 1 (.t 65)), none⟩, ⟨(some 67), (.load false 1 (.t 66)), none⟩, ⟨(some 68), (.bin .sub 0 (.t 67) (.k (.v (.c (.p (.int .i64 1)))))), none⟩, ⟨(some 69), (.nilck (.t 64)), none⟩, ⟨(some 70), (.faddr 1 (.t 69)), none⟩, ⟨none, (.store 1 (.t 70) (.t 68)), none⟩] []) (.seq (.reg [⟨(some 71), (.mv (.t 0)), none⟩, ⟨(some 72), (.faddr 3 (.t 3)), none⟩, ⟨(some 73), (.load false 1 (.t 72)), none⟩, ⟨(some 74), (.call (.k (.v (.c (.func 121 [])))) [(.t 71), (.t 73)]), none⟩, ⟨(some 6), (.mv (.t 74)), none⟩] []) (.seq (.seq (.reg [⟨(some 75), (.mv (.t 6)), none⟩, ⟨(some 76), (.len 2 (.t 75)), none⟩, ⟨(some 77), (.bin .eql 0 (.t 76) (.k (.v (.c (.p (.int .i64 0)))))), none⟩] []) (.cond (.t 77) (.reg [⟨(some 78), (.mv (.t 0)), none⟩, ⟨(some 79), (.nilck (.t 78)), none⟩, ⟨(some 80), (.faddr 1 (.t 79)), none⟩, ⟨(some 81), (.load false 1 (.t 80)), none⟩, ⟨(some 82), (.bin .add 0 (.t 81) (.k (.v (.c (.p (.int .i64 1)))))), none⟩, ⟨(some 83), (.nilck (.t 78)), none⟩, ⟨(some 84), (.faddr 1 (.t 83)), none⟩, ⟨none, (.store 1 (.t 84) (.t 82)), none⟩] []) .skip)) (.mark 1 [2, 6] (.seq (.reg [⟨(some 85), (.mv (.t 6)), none⟩, ⟨(some 86), (.build [(.p (.int .i64 0)), (.p (.str [])), (.p .nilslice), (.p (.str [])), (.p (.int .i64 0)), (.p (.bool false)), (.p .nilslice)] [(0, 1, (.k (.v (.c (.p (.int .i64 1)))))), (2, 1, (.t 85))]), none⟩, ⟨none, (.store 7 (.t 2) (.t 86)), none⟩] []) .ret)))))))))) }
theorem t93 : compF Tryd.prog (globs2 tabs opq) false true Tryd.f93 = some c93.erase := by kernel_rfl
noncomputable def b93_0 (O : Oracle) (R : Jump) (q : Nat) (x0 : TVal) (h : Heap) : Res1 :=
  vop O (.alloc [(.p (.int .i64 0)), (.p (.str [])), (.p .nilslice), (.p (.str [])), (.p (.int .i64 0)), (.p (.bool false)), (.p .nilslice)] false) h 2 fun x2 h =>
  vcall O (.v (.c (.func 80 []))) [x0, (kI 0)] h 8 fun x8 h =>
  vop O (.alloc [(.p (.int .i64 0)), (.p (.str [])), (.p (.int .i64 0)), (.p (.int .i64 0))] false) h 3 fun x3 h =>
  vstore 4 x3 x8 h fun _ h =>
  vcall O (.v (.c (.func 94 []))) [x0] h 11 fun x11 h =>
  vcall O (.v (.c (.func 60 []))) [x0, x11] h 12 fun x12 h =>
  vop O (.nilck (.k x0)) h 14 fun x14 h =>
  vfaddr 1 x14 h fun x15 h =>
  vload false 1 x15 h fun x16 h =>
  vbin .add 0 x16 (kI 1) h fun x17 h =>
  vop O (.nilck (.k x0)) h 18 fun x18 h =>
  vfaddr 1 x18 h fun x19 h =>
  vstore 1 x19 x17 h fun _ h =>
  vfaddr 0 x3 h fun x21 h =>
  vload false 1 x21 h fun x22 h =>
  vbin .eql 0 x22 (kI 2) h fun x23 h =>
  vif x23 (
  vfaddr 1 x3 h fun x24 h =>
  vload false 1 x24 h fun x25 h =>
  vop O (.build [(.p (.int .i64 0)), (.p (.str [])), (.p .nilslice), (.p (.str [])), (.p (.int .i64 0)), (.p (.bool false)), (.p .nilslice)] [(0, 1, (.k (kI 2))), (3, 1, (.k x25))]) h 26 fun x26 h =>
  vstore 7 x2 x26 h fun _ h =>
  vcell true 7 x2 h fun c0 => vfin true q [c0] h)
  (vfaddr 0 x3 h fun x28 h =>
  vload false 1 x28 h fun x29 h =>
  vbin .eql 0 x29 (kI 3) h fun x30 h =>
  vif x30 (
  vfaddr 2 x3 h fun x31 h =>
  vload false 1 x31 h fun x32 h =>
  vop O (.build [(.p (.int .i64 0)), (.p (.str [])), (.p .nilslice), (.p (.str [])), (.p (.int .i64 0)), (.p (.bool false)), (.p .nilslice)] [(0, 1, (.k (kI 3))), (4, 1, (.k x32))]) h 33 fun x33 h =>
  vstore 7 x2 x33 h fun _ h =>
  vcell true 7 x2 h fun c0 => vfin true q [c0] h)
  (vfaddr 0 x3 h fun x35 h =>
  vload false 1 x35 h fun x36 h =>
  vbin .eql 0 x36 (kI 1) h fun x37 h =>
  vif x37 (
  vfaddr 1 x3 h fun x38 h =>
  vload false 1 x38 h fun x39 h =>
  vbin .eql 0 x39 (kS [116, 114, 117, 101]) h fun x40 h =>
  vop O (.build [(.p (.int .i64 0)), (.p (.str [])), (.p .nilslice), (.p (.str [])), (.p (.int .i64 0)), (.p (.bool false)), (.p .nilslice)] [(0, 1, (.k (kI 4))), (5, 1, (.k x40))]) h 41 fun x41 h =>
  vstore 7 x2 x41 h fun _ h =>
  vcell true 7 x2 h fun c0 => vfin true q [c0] h)
  (vload true 4 x3 h fun x43 h =>
  vcall O (.v (.c (.func 81 []))) [x43, (kS [36])] h 44 fun x44 h =>
  vif x44 (
  vcall O (.v (.c (.func 80 []))) [x0, (kI 0)] h 46 fun x46 h =>
  vop O (.alloc [(.p (.int .i64 0)), (.p (.str [])), (.p (.int .i64 0)), (.p (.int .i64 0))] false) h 4 fun x4 h =>
  vstore 4 x4 x46 h fun _ h =>
  vcall O (.v (.c (.func 113 []))) [x0] h 48 fun x48 h =>
  vfaddr 3 x4 h fun x51 h =>
  vload false 1 x51 h fun x52 h =>
  vfaddr 1 x4 h fun x53 h =>
  vload false 1 x53 h fun x54 h =>
  vlen O 0 x54 h 55 fun x55 h =>
  vbin .add 0 x52 x55 h fun x56 h =>
  vcall O (.v (.c (.func 121 []))) [x0, x56] h 57 fun x57 h =>
  vop O (.build [(.p (.int .i64 0)), (.p (.str [])), (.p .nilslice), (.p (.str [])), (.p (.int .i64 0)), (.p (.bool false)), (.p .nilslice)] [(0, 1, (.k (kI 1))), (1, 1, (.k x48)), (2, 1, (.k x57))]) h 58 fun x58 h =>
  vstore 7 x2 x58 h fun _ h =>
  vcell true 7 x2 h fun c0 => vfin true q [c0] h)
  (vload true 4 x3 h fun x60 h =>
  vcall O (.v (.c (.func 81 []))) [x60, (kS [40])] h 61 fun x61 h =>
  vif x61 (
  vcall O (.v (.c (.func 122 []))) [x0] h 63 fun x63 h =>
  vstore 7 x2 x63 h fun _ h =>
  vcell true 7 x2 h fun c0 => vfin true q [c0] h)
  (vop O (.nilck (.k x0)) h 65 fun x65 h =>
  vfaddr 1 x65 h fun x66 h =>
  vload false 1 x66 h fun x67 h =>
  vbin .sub 0 x67 (kI 1) h fun x68 h =>
  vop O (.nilck (.k x0)) h 69 fun x69 h =>
  vfaddr 1 x69 h fun x70 h =>
  vstore 1 x70 x68 h fun _ h =>
  vfaddr 3 x3 h fun x72 h =>
  vload false 1 x72 h fun x73 h =>
  vcall O (.v (.c (.func 121 []))) [x0, x73] h 74 fun x74 h =>
  vlen O 2 x74 h 76 fun x76 h =>
  vbin .eql 0 x76 (kI 0) h fun x77 h =>
  vif x77 (
  vop O (.nilck (.k x0)) h 79 fun x79 h =>
  vfaddr 1 x79 h fun x80 h =>
  vload false 1 x80 h fun x81 h =>
  vbin .add 0 x81 (kI 1) h fun x82 h =>
  vop O (.nilck (.k x0)) h 83 fun x83 h =>
  vfaddr 1 x83 h fun x84 h =>
  vstore 1 x84 x82 h fun _ h =>
  R 1 [x2, x74] h)
  (R 1 [x2, x74] h))))))
theorem e93_0 (O : Oracle) (R : Jump) (q : Nat) (x0 : TVal) (h : Heap) : b93_0 O R q x0 h = stepF c93 O R q 0 [x0] h := by kernel_rfl
noncomputable def b93_1 (O : Oracle) (R : Jump) (q : Nat) (x2 x6 : TVal) (h : Heap) : Res1 :=
  vop O (.build [(.p (.int .i64 0)), (.p (.str [])), (.p .nilslice), (.p (.str [])), (.p (.int .i64 0)), (.p (.bool false)), (.p .nilslice)] [(0, 1, (.k (kI 1))), (2, 1, (.k x6))]) h 86 fun x86 h =>
  vstore 7 x2 x86 h fun _ h =>
  vcell true 7 x2 h fun c0 => vfin true q [c0] h
theorem e93_1 (O : Oracle) (R : Jump) (q : Nat) (x2 x6 : TVal) (h : Heap) : b93_1 O R q x2 x6 h = stepF c93 O R q 1 [x2, x6] h := by kernel_rfl
noncomputable def d93 : BlkF := fun O R q => [.s fun y0 => .z fun h => b93_0 O R q y0 h, .s fun y0 => .s fun y1 => .z fun h => b93_1 O R q y0 y1 h]
theorem o93 (O : Oracle) (R : Jump) (q : Nat) : HoldsAll c93 O R q 0 (d93 O R q) := ⟨fun y0 h => e93_0 O R q y0 h, fun y0 y1 h => e93_1 O R q y0 y1 h, trivial⟩
/- (*sprue/tree.reader).begins -/
def c94 : MFunc := { np := 1, res := [.t 2], frz := true, body := (.seq (.reg [⟨(some 2), (.mv (.k (.v (.c (.p (.bool false)))))), none⟩] []) (.seq (.seq (.reg [⟨(some 4), (.mv (.t 0)), none⟩, ⟨(some 5), (.call (.k (.v (.c (.func 80 [])))) [(.t 4), (.k (.v (.c (.p (.int .i64 0)))))]), none⟩, ⟨(some 3), (.alloc [(.p (.int .i64 0)), (.p (.str [])), (.p (.int .i64 0)), (.p (.int .i64 0))] false), none⟩, ⟨none, (.store 4 (.t 3) (.t 5)), none⟩] []) (.seq (.reg [⟨(some 6), (.faddr 0 (.t 3)), none⟩, ⟨(some 7), (.load false 1 (.t 6)), none⟩] []) (.block 0 (.seq (.seq (.reg [⟨(some 9), (.bin .eql 0 (.t 7) (.k (.v (.c (.p (.int .i64 2)))))), none⟩, ⟨(some 8), (.mv (.t 9)), none⟩] []) (.cond (.t 8) .skip (.reg [⟨(some 10), (.bin .eql 0 (.t 7) (.k (.v (.c (.p (.int .i64 3)))))), none⟩, ⟨(some 8), (.mv (.t 10)), none⟩] []))) (.mark 1 [3, 7, 8] (.cond (.t 8) (.seq (.reg [⟨(some 2), (.mv (.k (.v (.c (.p (.bool true)))))), none⟩] []) .ret) (.seq (.reg [⟨(some 12), (.bin .eql 0 (.t 7) (.k (.v (.c (.p (.int .i64 1)))))), none⟩, ⟨(some 11), (.mv (.t 12)), none⟩] []) (.cond (.t 11) (.seq (.reg [⟨(some 13), (.faddr 1 (.t 3)), none⟩, ⟨(some 14), (.load false 1 (.t 13)), none⟩, ⟨(some 15), (.bin .eql 0 (.t 14) (.k (.v (.c (.p (.str [116, 114, 117, 101])))))), none⟩, ⟨(some 16), (.mv (.t 15)), none⟩, ⟨(some 17), (.faddr 1 (.t 3)), (some (16, false))⟩, ⟨(some 18), (.load false 1 (.t 17)), (some (16, false))⟩, ⟨(some 19), (.bin .eql 0 (.t 18) (.k (.v (.c (.p (.str [102, 97, 108, 115, 101])))))), (some (16, false))⟩, ⟨(some 20), (.pick (.t 16) (.k (.v (.c (.p (.bool true))))) (.t 19)), none⟩, ⟨(some 2), (.mv (.t 20)), none⟩] []) .ret) (.seq (.reg [⟨(some 22), (.bin .eql 0 (.t 7) (.k (.v (.c (.p (.int .i64 4)))))), none⟩, ⟨(some 21), (.mv (.t 22)), none⟩] []) (.cond (.t 21) (.seq (.reg [⟨(some 23), (.faddr 1 (.t 3)), none⟩, ⟨(some 24), (.load false 1 (.t 23)), none⟩, ⟨(some 25), (.bin .eql 0 (.t 24) (.k (.v (.c (.p (.str [46])))))), none⟩, ⟨(some 26), (.mv (.t 25)), none⟩, ⟨(some 27), (.faddr 1 (.t 3)), (some (26, false))⟩, ⟨(some 28), (.load false 1 (.t 27)), (some (26, false))⟩, ⟨(some 29), (.bin .eql 0 (.t 28) (.k (.v (.c (.p (.str [36])))))), (some (26, false))⟩, ⟨(some 30), (.pick (.t 26) (.k (.v (.c (.p (.bool true))))) (.t 29)), none⟩, ⟨(some 31), (.mv (.t 30)), none⟩, ⟨(some 32), (.faddr 1 (.t 3)), (some (31, false))⟩, ⟨(some 33), (.load false 1 (.t 32)), (some (31, false))⟩, ⟨(some 34), (.bin .eql 0 (.t 33) (.k (.v (.c (.p (.str [40])))))), (some (31, false))⟩, ⟨(some 35), (.pick (.t 31) (.k (.v (.c (.p (.bool true))))) (.t 34)), none⟩, ⟨(some 2), (.mv (.t 35)), none⟩] []) .ret) .skip)))))))))) (.seq (.reg [⟨(some 2), (.mv (.k (.v (.c (.p (.bool false)))))), none⟩] []) .ret))) }
theorem t94 : compF Tryd.prog (globs2 tabs opq) false true Tryd.f94 = some c94.erase := by kernel_rfl
noncomputable def b94_0 (O : Oracle) (R : Jump) (q : Nat) (x0 : TVal) (h : Heap) : Res1 :=
  vcall O (.v (.c (.func 80 []))) [x0, (kI 0)] h 5 fun x5 h =>
  vop O (.alloc [(.p (.int .i64 0)), (.p (.str [])), (.p (.int .i64 0)), (.p (.int .i64 0))] false) h 3 fun x3 h =>
  vstore 4 x3 x5 h fun _ h =>
  vfaddr 0 x3 h fun x6 h =>
  vload false 1 x6 h fun x7 h =>
  vbin .eql 0 x7 (kI 2) h fun x9 h =>
  vif x9 (
  R 1 [x3, x7, x9] h)
  (vbin .eql 0 x7 (kI 3) h fun x10 h =>
  R 1 [x3, x7, x10] h)
theorem e94_0 (O : Oracle) (R : Jump) (q : Nat) (x0 : TVal) (h : Heap) : b94_0 O R q x0 h = stepF c94 O R q 0 [x0] h := by kernel_rfl
noncomputable def b94_1 (O : Oracle) (R : Jump) (q : Nat) (x3 x7 x8 : TVal) (h : Heap) : Res1 :=
  vif x8 (
  tcomp (kB true) fun c0 => vfin true q [c0] h)
  (vbin .eql 0 x7 (kI 1) h fun x12 h =>
  vif x12 (
  vfaddr 1 x3 h fun x13 h =>
  vload false 1 x13 h fun x14 h =>
  vbin .eql 0 x14 (kS [116, 114, 117, 101]) h fun x15 h =>
  vguard x15 false (fun kk => vfaddr 1 x3 h kk) h fun x17 h =>
  vguard x15 false (fun kk => vload false 1 x17 h kk) h fun x18 h =>
  vguard x15 false (fun kk => vbin .eql 0 x18 (kS [102, 97, 108, 115, 101]) h kk) h fun x19 h =>
  vop O (.pick (.k x15) (.k (kB true)) (.k x19)) h 20 fun x20 h =>
  tcomp x20 fun c0 => vfin true q [c0] h)
  (vbin .eql 0 x7 (kI 4) h fun x22 h =>
  vif x22 (
  vfaddr 1 x3 h fun x23 h =>
  vload false 1 x23 h fun x24 h =>
  vbin .eql 0 x24 (kS [46]) h fun x25 h =>
  vguard x25 false (fun kk => vfaddr 1 x3 h kk) h fun x27 h =>
  vguard x25 false (fun kk => vload false 1 x27 h kk) h fun x28 h =>
  vguard x25 false (fun kk => vbin .eql 0 x28 (kS [36]) h kk) h fun x29 h =>
  vop O (.pick (.k x25) (.k (kB true)) (.k x29)) h 30 fun x30 h =>
  vguard x30 false (fun kk => vfaddr 1 x3 h kk) h fun x32 h =>
  vguard x30 false (fun kk => vload false 1 x32 h kk) h fun x33 h =>
  vguard x30 false (fun kk => vbin .eql 0 x33 (kS [40]) h kk) h fun x34 h =>
  vop O (.pick (.k x30) (.k (kB true)) (.k x34)) h 35 fun x35 h =>
  tcomp x35 fun c0 => vfin true q [c0] h)
  (tcomp (kB false) fun c0 => vfin true q [c0] h)))
theorem e94_1 (O : Oracle) (R : Jump) (q : Nat) (x3 x7 x8 : TVal) (h : Heap) : b94_1 O R q x3 x7 x8 h = stepF c94 O R q 1 [x3, x7, x8] h := by kernel_rfl
noncomputable def d94 : BlkF := fun O R q => [.s fun y0 => .z fun h => b94_0 O R q y0 h, .s fun y0 => .s fun y1 => .s fun y2 => .z fun h => b94_1 O R q y0 y1 y2 h]
theorem o94 (O : Oracle) (R : Jump) (q : Nat) : HoldsAll c94 O R q 0 (d94 O R q) := ⟨fun y0 h => e94_0 O R q y0 h, fun y0 y1 y2 h => e94_1 O R q y0 y1 y2 h, trivial⟩
/- (*sprue/tree.reader).fail -/
def c95 : MFunc := { np := 2, res := [], frz := true, body := (.seq (.reg [⟨(some 4), (.mv (.t 0)), none⟩, ⟨(some 5), (.nilck (.t 4)), none⟩, ⟨(some 6), (.faddr 2 (.t 5)), none⟩, ⟨(some 7), (.load false 1 (.t 6)), none⟩, ⟨(some 8), (.bin .eql 0 (.t 7) (.k (.v (.c (.p (.int .i64 0)))))), none⟩] []) (.cond (.t 8) (.reg [⟨(some 9), (.mv (.t 0)), none⟩, ⟨(some 10), (.mv (.t 1)), none⟩, ⟨(some 11), (.nilck (.t 9)), none⟩, ⟨(some 12), (.faddr 2 (.t 11)), none⟩, ⟨none, (.store 1 (.t 12) (.t 10)), none⟩] []) .skip)) }
theorem t95 : compF Tryd.prog (globs2 tabs opq) false true Tryd.f95 = some c95.erase := by kernel_rfl
noncomputable def b95_0 (O : Oracle) (R : Jump) (q : Nat) (x0 x1 : TVal) (h : Heap) : Res1 :=
  vop O (.nilck (.k x0)) h 5 fun x5 h =>
  vfaddr 2 x5 h fun x6 h =>
  vload false 1 x6 h fun x7 h =>
  vbin .eql 0 x7 (kI 0) h fun x8 h =>
  vif x8 (
  vop O (.nilck (.k x0)) h 11 fun x11 h =>
  vfaddr 2 x11 h fun x12 h =>
  vstore 1 x12 x1 h fun _ h =>
  vfin true q [] h)
  (vfin true q [] h)
theorem e95_0 (O : Oracle) (R : Jump) (q : Nat) (x0 x1 : TVal) (h : Heap) : b95_0 O R q x0 x1 h = stepF c95 O R q 0 [x0, x1] h := by kernel_rfl
noncomputable def d95 : BlkF := fun O R q => [.s fun y0 => .s fun y1 => .z fun h => b95_0 O R q y0 y1 h]
theorem o95 (O : Oracle) (R : Jump) (q : Nat) : HoldsAll c95 O R q 0 (d95 O R q) := ⟨fun y0 y1 h => e95_0 O R q y0 y1 h, trivial⟩
/- strings.TrimPrefix -/
def c104 : MFunc := { np := 2, res := [.t 4], frz := true, body := (.seq (.reg [⟨(some 4), (.mv (.k (.v (.c (.p (.str [])))))), none⟩] []) (.seq (.reg [⟨(some 5), (.mv (.t 0)), none⟩, ⟨(some 6), (.mv (.t 1)), none⟩, ⟨(some 7), (.call (.k (.v (.c (.func 129 [])))) [(.t 5), (.t 6)]), none⟩, ⟨(some 4), (.mv (.t 7)), none⟩] []) .ret)) }
theorem t104 : compF Tryd.prog (globs2 tabs opq) false true Tryd.f104 = some c104.erase := by kernel_rfl
noncomputable def b104_0 (O : Oracle) (R : Jump) (q : Nat) (x0 x1 : TVal) (h : Heap) : Res1 :=
  vcall O (.v (.c (.func 129 []))) [x0, x1] h 7 fun x7 h =>
  tcomp x7 fun c0 => vfin true q [c0] h
theorem e104_0 (O : Oracle) (R : Jump) (q : Nat) (x0 x1 : TVal) (h : Heap) : b104_0 O R q x0 x1 h = stepF c104 O R q 0 [x0, x1] h := by kernel_rfl
noncomputable def d104 : BlkF := fun O R q => [.s fun y0 => .s fun y1 => .z fun h => b104_0 O R q y0 y1 h]
theorem o104 (O : Oracle) (R : Jump) (q : Nat) : HoldsAll c104 O R q 0 (d104 O R q) := ⟨fun y0 y1 h => e104_0 O R q y0 y1 h, trivial⟩
/- sprue/scan.front -/
def c105 : MFunc := { np := 2, res := [.t 4], frz := true, body := (.seq (.reg [⟨(some 4), (.mv (.k (.v (.c (.p (.int .i64 0)))))), none⟩] []) (.seq (.seq (.reg [⟨(some 6), (.mv (.t 0)), none⟩, ⟨(some 7), (.rangeS (.t 6)), none⟩] []) (.block 0 (.loop 1 [0, 1, 7] (.seq (.reg [⟨(some 8), (.nextS (.t 7)), none⟩, ⟨(some 9), (.extract (.t 8) 0), none⟩] []) (.seq (.cond (.t 9) .skip (.exit 0)) (.block 1 (.seq (.reg [⟨(some 10), (.extract (.t 8) 1), none⟩, ⟨(some 5), (.mv (.t 10)), none⟩] []) (.seq (.reg [⟨(some 11), (.mv (.t 1)), none⟩, ⟨(some 12), (.mv (.t 0)), none⟩, ⟨(some 13), (.mv (.t 5)), none⟩, ⟨(some 14), (.index (.t 12) (.t 13)), none⟩, ⟨(some 15), (.call (.t 11) [(.t 14)]), none⟩, ⟨(some 16), (.un .not (.t 15)), none⟩] []) (.cond (.t 16) (.seq (.reg [⟨(some 17), (.mv (.t 5)), none⟩, ⟨(some 4), (.mv (.t 17)), none⟩] []) .ret) .skip))))))))) (.mark 2 [0] (.seq (.reg [⟨(some 18), (.mv (.t 0)), none⟩, ⟨(some 19), (.len 0 (.t 18)), none⟩, ⟨(some 4), (.mv (.t 19)), none⟩] []) .ret)))) }
theorem t105 : compF Tryd.prog (globs2 tabs opq) false true Tryd.f105 = some c105.erase := by kernel_rfl
noncomputable def b105_0 (O : Oracle) (R : Jump) (q : Nat) (x0 x1 : TVal) (h : Heap) : Res1 :=
  vop O (.rangeS (.k x0)) h 7 fun x7 h =>
  R 1 [x0, x1, x7] h
theorem e105_0 (O : Oracle) (R : Jump) (q : Nat) (x0 x1 : TVal) (h : Heap) : b105_0 O R q x0 x1 h = stepF c105 O R q 0 [x0, x1] h := by kernel_rfl
noncomputable def b105_1 (O : Oracle) (R : Jump) (q : Nat) (x0 x1 x7 : TVal) (h : Heap) : Res1 :=
  vop O (.nextS (.k x7)) h 8 fun x8 h =>
  vext x8 0 h fun x9 h =>
  vif x9 (
  vext x8 1 h fun x10 h =>
  vindex x0 x10 h fun x14 h =>
  vcall O x1 [x14] h 15 fun x15 h =>
  vop O (.un .not (.k x15)) h 16 fun x16 h =>
  vif x16 (
  tcomp x10 fun c0 => vfin true q [c0] h)
  (R 1 [x0, x1, x7] h))
  (R 2 [x0] h)
theorem e105_1 (O : Oracle) (R : Jump) (q : Nat) (x0 x1 x7 : TVal) (h : Heap) : b105_1 O R q x0 x1 x7 h = stepF c105 O R q 1 [x0, x1, x7] h := by kernel_rfl
noncomputable def b105_2 (O : Oracle) (R : Jump) (q : Nat) (x0 : TVal) (h : Heap) : Res1 :=
  vlen O 0 x0 h 19 fun x19 h =>
  tcomp x19 fun c0 => vfin true q [c0] h
theorem e105_2 (O : Oracle) (R : Jump) (q : Nat) (x0 : TVal) (h : Heap) : b105_2 O R q x0 h = stepF c105 O R q 2 [x0] h := by kernel_rfl
noncomputable def d105 : BlkF := fun O R q => [.s fun y0 => .s fun y1 => .z fun h => b105_0 O R q y0 y1 h, .s fun y0 => .s fun y1 => .s fun y2 => .z fun h => b105_1 O R q y0 y1 y2 h, .s fun y0 => .z fun h => b105_2 O R q y0 h]
theorem o105 (O : Oracle) (R : Jump) (q : Nat) : HoldsAll c105 O R q 0 (d105 O R q) := ⟨fun y0 y1 h => e105_0 O R q y0 y1 h, fun y0 y1 y2 h => e105_1 O R q y0 y1 y2 h, fun y0 h => e105_2 O R q y0 h, trivial⟩
/- sprue/scan.meant -/
def c106 : MFunc := { np := 1, res := [.t 2, .t 3], frz := true, body := (.seq (.reg [⟨(some 2), (.mv (.k (.v (.c (.p (.int .u8 0)))))), none⟩, ⟨(some 3), (.mv (.k (.v (.c (.p (.bool false)))))), none⟩] []) (.seq (.seq (.reg [⟨(some 4), (.mv (.t 0)), none⟩] []) (.block 0 (.seq (.block 4 (.block 3 (.seq (.block 2 (.seq (.block 1 (.seq (.seq (.seq (.reg [⟨(some 6), (.bin .eql 0 (.t 4) (.k (.v (.c (.p (.int .u8 110)))))), none⟩, ⟨(some 5), (.mv (.t 6)), none⟩] []) (.cond (.t 5) (.exit 1) .skip)) (.seq (.seq (.reg [⟨(some 8), (.bin .eql 0 (.t 4) (.k (.v (.c (.p (.int .u8 116)))))), none⟩, ⟨(some 7), (.mv (.t 8)), none⟩] []) (.cond (.t 7) (.exit 2) .skip)) (.seq (.seq (.reg [⟨(some 10), (.bin .eql 0 (.t 4) (.k (.v (.c (.p (.int .u8 34)))))), none⟩, ⟨(some 9), (.mv (.t 10)), none⟩] []) (.cond (.t 9) (.exit 3) .skip)) (.seq (.reg [⟨(some 12), (.bin .eql 0 (.t 4) (.k (.v (.c (.p (.int .u8 92)))))), none⟩, ⟨(some 11), (.mv (.t 12)), none⟩] []) (.cond (.t 11) (.exit 4) .skip))))) (.exit 0))) (.seq (.seq (.reg [⟨(some 2), (.mv (.k (.v (.c (.p (.int .u8 10)))))), none⟩, ⟨(some 3), (.mv (.k (.v (.c (.p (.bool true)))))), none⟩] []) .ret) (.exit 0)))) (.seq (.seq (.reg [⟨(some 2), (.mv (.k (.v (.c (.p (.int .u8 9)))))), none⟩, ⟨(some 3), (.mv (.k (.v (.c (.p (.bool true)))))), none⟩] []) .ret) (.exit 0))))) (.seq (.seq (.reg [⟨(some 13), (.mv (.t 0)), none⟩, ⟨(some 2), (.mv (.t 13)), none⟩, ⟨(some 3), (.mv (.k (.v (.c (.p (.bool true)))))), none⟩] []) .ret) (.exit 0))))) (.seq (.reg [⟨(some 2), (.mv (.k (.v (.c (.p (.int .u8 0)))))), none⟩, ⟨(some 3), (.mv (.k (.v (.c (.p (.bool false)))))), none⟩] []) .ret))) }
theorem t106 : compF Tryd.prog (globs2 tabs opq) false true Tryd.f106 = some c106.erase := by kernel_rfl
noncomputable def b106_0 (O : Oracle) (R : Jump) (q : Nat) (x0 : TVal) (h : Heap) : Res1 :=
  vbin .eql 0 x0 (.v (.c (.p (.int .u8 110)))) h fun x6 h =>
  vif x6 (
  tcomp (.v (.c (.p (.int .u8 10)))) fun c0 => tcomp (kB true) fun c1 => vfin true q [c0, c1] h)
  (vbin .eql 0 x0 (.v (.c (.p (.int .u8 116)))) h fun x8 h =>
  vif x8 (
  tcomp (.v (.c (.p (.int .u8 9)))) fun c0 => tcomp (kB true) fun c1 => vfin true q [c0, c1] h)
  (vbin .eql 0 x0 (.v (.c (.p (.int .u8 34)))) h fun x10 h =>
  vif x10 (
  tcomp x0 fun c0 => tcomp (kB true) fun c1 => vfin true q [c0, c1] h)
  (vbin .eql 0 x0 (.v (.c (.p (.int .u8 92)))) h fun x12 h =>
  vif x12 (
  tcomp x0 fun c0 => tcomp (kB true) fun c1 => vfin true q [c0, c1] h)
  (tcomp (.v (.c (.p (.int .u8 0)))) fun c0 => tcomp (kB false) fun c1 => vfin true q [c0, c1] h))))
theorem e106_0 (O : Oracle) (R : Jump) (q : Nat) (x0 : TVal) (h : Heap) : b106_0 O R q x0 h = stepF c106 O R q 0 [x0] h := by kernel_rfl
noncomputable def d106 : BlkF := fun O R q => [.s fun y0 => .z fun h => b106_0 O R q y0 h]
theorem o106 (O : Oracle) (R : Jump) (q : Nat) : HoldsAll c106 O R q 0 (d106 O R q) := ⟨fun y0 h => e106_0 O R q y0 h, trivial⟩
/- strings.Fields -/
def c107 : MFunc := { np := 1, res := [.t 2], frz := true, body := (.seq (.reg [⟨(some 2), (.mv (.k (.v (.c (.p .nilslice))))), none⟩] []) (.seq (.reg [⟨(some 3), (.mv (.k (.v (.c (.p (.int .i64 0)))))), none⟩] []) (.seq (.reg [⟨(some 4), (.mv (.k (.v (.c (.p (.int .i64 1)))))), none⟩] []) (.seq (.reg [⟨(some 5), (.mv (.k (.v (.c (.p (.int .u8 0)))))), none⟩] []) (.seq (.seq (.reg [⟨(some 6), (.mv (.k (.v (.c (.p (.int .i64 0)))))), none⟩] []) (.block 0 (.loop 1 [0, 3, 4, 5, 6] (.seq (.seq (.reg [⟨(some 13), (.mv (.t 6)), none⟩, ⟨(some 14), (.mv (.t 0)), none⟩, ⟨(some 15), (.len 0 (.t 14)), none⟩, ⟨(some 16), (.bin .lss 0 (.t 13) (.t 15)), none⟩] []) (.cond (.t 16) .skip (.exit 0))) (.seq (.block 1 (.seq (.reg [⟨(some 19), (.mv (.t 0)), none⟩, ⟨(some 20), (.mv (.t 6)), none⟩, ⟨(some 21), (.index (.t 19) (.t 20)), none⟩, ⟨(some 7), (.mv (.t 21)), none⟩] []) (.seq (.reg [⟨(some 22), (.mv (.t 5)), none⟩, ⟨(some 23), (.mv (.t 7)), none⟩, ⟨(some 24), (.bin .or 0 (.t 22) (.t 23)), none⟩, ⟨(some 5), (.mv (.t 24)), none⟩] []) (.seq (.reg [⟨(some 25), (.mv (.t 7)), none⟩, ⟨(some 26), (.iaddrA 256 1 (.k (.v (.c (.p (.pptr [(.int .u8 0), (.int .u8 0), (.int .u8 0), (.int .u8 0), (.int .u8 0), (.int .u8 0), (.int .u8 0), (.int .u8 0), (.int .u8 0), (.int .u8 1), (.int .u8 1), (.int .u8 1), (.int .u8 1), (.int .u8 1), (.int .u8 0), (.int .u8 0), (.int .u8 0), (.int .u8 0), (.int .u8 0), (.int .u8 0), (.int .u8 0), (.int .u8 0), (.int .u8 0), (.int .u8 0), (.int .u8 0), (.int .u8 0), (.int .u8 0), (.int .u8 0), (.int .u8 0), (.int .u8 0), (.int .u8 0), (.int .u8 0), (.int .u8 1), (.int .u8 0), (.int .u8 0), (.int .u8 0), (.int .u8 0), (.int .u8 0), (.int .u8 0), (.int .u8 0), (.int .u8 0), (.int .u8 0), (.int .u8 0), (.int .u8 0), (.int .u8 0), (.int .u8 0), (.int .u8 0), (.int .u8 0), (.int .u8 0), (.int .u8 0), (.int .u8 0), (.int .u8 0), (.int .u8 0), (.int .u8 0), (.int .u8 0), (.int .u8 0), (.int .u8 0), (.int .u8 0), (.int .u8 0), (.int .u8 0), (.int .u8 0), (.int .u8 0), (.int .u8 0), (.int .u8 0), (.int .u8 0), (.int .u8 0), (.int .u8 0), (.int .u8 0), (.int .u8 0), (.int .u8 0), (.int .u8 0), (.int .u8 0), (.int .u8 0), (.int .u8 0), (.int .u8 0), (.int .u8 0), (.int .u8 0), (.int .u8 0), (.int .u8 0), (.int .u8 0), (.int .u8 0), (.int .u8 0), (.int .u8 0), (.int .u8 0), (.int .u8 0), (.int .u8 0), (.int .u8 0), (.int .u8 0), (.int .u8 0), (.int .u8 0), (.int .u8 0), (.int .u8 0), (.int .u8 0), (.int .u8 0), (.int .u8 0), (.int .u8 0), (.int .u8 0), (.int .u8 0), (.int .u8 0), (.int .u8 0), (.int .u8 0), (.int .u8 0), (.int .u8 0), (.int .u8 0), (.int .u8 0), (.int .u8 0), (.int .u8 0), (.int .u8 0), (.int .u8 0), (.int .u8 0), (.int .u8 0), (.int .u8 0), (.int .u8 0), (.int .u8 0), (.int .u8 0), (.int .u8 0), (.int .u8 0), (.int .u8 0), (.int .u8 0), (.int .u8 0), (.int .u8 0), (.int .u8 0), (.int .u8 0), (.int .u8 0), (.int .u8 0), (.int .u8 0), (.int .u8 0), (.int .u8 0), (.int .u8 0), (.int .u8 0), (.int .u8 0), (.int .u8 0), (.int .u8 0), (.int .u8 0), (.int .u8 0), (.int .u8 0), (.int .u8 0), (.int .u8 0), (.int .u8 0), (.int .u8 0), (.int .u8 0), (.int .u8 0), (.int .u8 0), (.int .u8 0), (.int .u8 0), (.int .u8 0), (.int .u8 0), (.int .u8 0), (.int .u8 0), (.int .u8 0), (.int .u8 0), (.int .u8 0), (.int .u8 0), (.int .u8 0), (.int .u8 0), (.int .u8 0), (.int .u8 0), (.int .u8 0), (.int .u8 0), (.int .u8 0), (.int .u8 0), (.int .u8 0), (.int .u8 0), (.int .u8 0), (.int .u8 0), (.int .u8 0), (.int .u8 0), (.int .u8 0), (.int .u8 0), (.int .u8 0), (.int .u8 0), (.int .u8 0), (.int .u8 0), (.int .u8 0), (.int .u8 0), (.int .u8 0), (.int .u8 0), (.int .u8 0), (.int .u8 0), (.int .u8 0), (.int .u8 0), (.int .u8 0), (.int .u8 0), (.int .u8 0), (.int .u8 0), (.int .u8 0), (.int .u8 0), (.int .u8 0), (.int .u8 0), (.int .u8 0), (.int .u8 0), (.int .u8 0), (.int .u8 0), (.int .u8 0), (.int .u8 0), (.int .u8 0), (.int .u8 0), (.int .u8 0), (.int .u8 0), (.int .u8 0), (.int .u8 0), (.int .u8 0), (.int .u8 0), (.int .u8 0), (.int .u8 0), (.int .u8 0), (.int .u8 0), (.int .u8 0), (.int .u8 0), (.int .u8 0), (.int .u8 0), (.int .u8 0), (.int .u8 0), (.int .u8 0), (.int .u8 0), (.int .u8 0), (.int .u8 0), (.int .u8 0), (.int .u8 0), (.int .u8 0), (.int .u8 0), (.int .u8 0), (.int .u8 0), (.int .u8 0), (.int .u8 0), (.int .u8 0), (.int .u8 0), (.int .u8 0), (.int .u8 0), (.int .u8 0), (.int .u8 0), (.int .u8 0), (.int .u8 0), (.int .u8 0), (.int .u8 0), (.int .u8 0), (.int .u8 0), (.int .u8 0), (.int .u8 0), (.int .u8 0), (.int .u8 0), (.int .u8 0), (.int .u8 0), (.int .u8 0), (.int .u8 0), (.int .u8 0), (.int .u8 0), (.int .u8 0), (.int .u8 0), (.int .u8 0), (.int .u8 0), (.int .u8 0), (.int .u8 0), (.int .u8 0), (.int .u8 0), (.int .u8 0)] 0))))) (.t 25)), none⟩, ⟨(some 27), (.load false 1 (.t 26)), none⟩, ⟨(some 28), (.toInt .i64 (.t 27)), none⟩, ⟨(some 8), (.mv (.t 28)), none⟩] []) (.seq (.reg [⟨(some 29), (.mv (.t 3)), none⟩, ⟨(some 30), (.mv (.t 4)), none⟩, ⟨(some 31), (.mv (.t 8)), none⟩, ⟨(some 32), (.un .xor (.t 31)), none⟩, ⟨(some 33), (.bin .and 0 (.t 30) (.t 32)), none⟩, ⟨(some 34), (.bin .add 0 (.t 29) (.t 33)), none⟩, ⟨(some 3), (.mv (.t 34)), none⟩] []) (.reg [⟨(some 35), (.mv (.t 8)), none⟩, ⟨(some 4), (.mv (.t 35)), none⟩] [])))))) (.reg [⟨(some 17), (.mv (.t 6)), none⟩, ⟨(some 18), (.bin .add 0 (.t 17) (.k (.v (.c (.p (.int .i64 1)))))), none⟩, ⟨(some 6), (.mv (.t 18)), none⟩] [])))))) (.mark 2 [0, 3, 5] (.seq (.seq (.reg [⟨(some 36), (.mv (.t 5)), none⟩, ⟨(some 37), (.bin .geq 0 (.t 36) (.k (.v (.c (.p (.int .u8 128)))))), none⟩] []) (.cond (.t 37) (.seq (.reg [⟨(some 38), (.mv (.t 0)), none⟩, ⟨(some 39), (.call (.k (.v (.c (.func 130 [])))) [(.t 38), (.k (.v (.c (.func 131 []))))]), none⟩, ⟨(some 2), (.mv (.t 39)), none⟩] []) .ret) .skip)) (.seq (.reg [⟨(some 40), (.mv (.t 3)), none⟩, ⟨(some 41), (.mkslice 1 16 [(.p (.str []))] (.t 40) (.t 40)), none⟩, ⟨(some 9), (.mv (.t 41)), none⟩] []) (.seq (.reg [⟨(some 10), (.mv (.k (.v (.c (.p (.int .i64 0)))))), none⟩] []) (.seq (.reg [⟨(some 11), (.mv (.k (.v (.c (.p (.int .i64 0)))))), none⟩] []) (.seq (.reg [⟨(some 12), (.mv (.k (.v (.c (.p (.int .i64 0)))))), none⟩] []) (.seq (.block 2 (.loop 3 [0, 9, 10, 12] (.seq (.seq (.reg [⟨(some 42), (.mv (.t 12)), none⟩, ⟨(some 43), (.mv (.t 0)), none⟩, ⟨(some 44), (.len 0 (.t 43)), none⟩, ⟨(some 45), (.bin .lss 0 (.t 42) (.t 44)), none⟩, ⟨(some 46), (.mv (.t 45)), none⟩, ⟨(some 47), (.mv (.t 0)), (some (46, true))⟩, ⟨(some 48), (.mv (.t 12)), (some (46, true))⟩, ⟨(some 49), (.index (.t 47) (.t 48)), (some (46, true))⟩, ⟨(some 50), (.iaddrA 256 1 (.k (.v (.c (.p (.pptr [(.int .u8 0), (.int .u8 0), (.int .u8 0), (.int .u8 0), (.int .u8 0), (.int .u8 0), (.int .u8 0), (.int .u8 0), (.int .u8 0), (.int .u8 1), (.int .u8 1), (.int .u8 1), (.int .u8 1), (.int .u8 1), (.int .u8 0), (.int .u8 0), (.int .u8 0), (.int .u8 0), (.int .u8 0), (.int .u8 0), (.int .u8 0), (.int .u8 0), (.int .u8 0), (.int .u8 0), (.int .u8 0), (.int .u8 0), (.int .u8 0), (.int .u8 0), (.int .u8 0), (.int .u8 0), (.int .u8 0), (.int .u8 0), (.int .u8 1), (.int .u8 0), (.int .u8 0), (.int .u8 0), (.int .u8 0), (.int .u8 0), (.int .u8 0), (.int .u8 0), (.int .u8 0), (.int .u8 0), (.int .u8 0), (.int .u8 0), (.int .u8 0), (.int .u8 0), (.int .u8 0), (.int .u8 0), (.int .u8 0), (.int .u8 0), (.int .u8 0), (.int .u8 0), (.int .u8 0), (.int .u8 0), (.int .u8 0), (.int .u8 0), (.int .u8 0), (.int .u8 0), (.int .u8 0), (.int .u8 0), (.int .u8 0), (.int .u8 0), (.int .u8 0), (.int .u8 0), (.int .u8 0), (.int .u8 0), (.int .u8 0), (.int .u8 0), (.int .u8 0), (.int .u8 0), (.int .u8 0), (.int .u8 0), (.int .u8 0), (.int .u8 0), (.int .u8 0), (.int .u8 0), (.int .u8 0), (.int .u8 0), (.int .u8 0), (.int .u8 0), (.int .u8 0), (.int .u8 0), (.int .u8 0), (.int .u8 0), (.int .u8 0), (.int .u8 0), (.int .u8 0), (.int .u8 0), (.int .u8 0), (.int .u8 0), (.int .u8 0), (.int .u8 0), (.int .u8 0), (.int .u8 0), (.int .u8 0), (.int .u8 0), (.int .u8 0), (.int .u8 0), (.int .u8 0), (.int .u8 0), (.int .u8 0), (.int .u8 0), (.int .u8 0), (.int .u8 0), (.int .u8 0), (.int .u8 0), (.int .u8 0), (.int .u8 0), (.int .u8 0), (.int .u8 0), (.int .u8 0), (.int .u8 0), (.int .u8 0), (.int .u8 0), (.int .u8 0), (.int .u8 0), (.int .u8 0), (.int .u8 0), (.int .u8 0), (.int .u8 0), (.int .u8 0), (.int .u8 0), (.int .u8 0), (.int .u8 0), (.int .u8 0), (.int .u8 0), (.int .u8 0), (.int .u8 0), (.int .u8 0), (.int .u8 0), (.int .u8 0), (.int .u8 0), (.int .u8 0), (.int .u8 0), (.int .u8 0), (.int .u8 0), (.int .u8 0), (.int .u8 0), (.int .u8 0), (.int .u8 0), (.int .u8 0), (.int .u8 0), (.int .u8 0), (.int .u8 0), (.int .u8 0), (.int .u8 0), (.int .u8 0), (.int .u8 0), (.int .u8 0), (.int .u8 0), (.int .u8 0), (.int .u8 0), (.int .u8 0), (.int .u8 0), (.int .u8 0), (.int .u8 0), (.int .u8 0), (.int .u8 0), (.int .u8 0), (.int .u8 0), (.int .u8 0), (.int .u8 0), (.int .u8 0), (.int .u8 0), (.int .u8 0), (.int .u8 0), (.int .u8 0), (.int .u8 0), (.int .u8 0), (.int .u8 0), (.int .u8 0), (.int .u8 0), (.int .u8 0), (.int .u8 0), (.int .u8 0), (.int .u8 0), (.int .u8 0), (.int .u8 0), (.int .u8 0), (.int .u8 0), (.int .u8 0), (.int .u8 0), (.int .u8 0), (.int .u8 0), (.int .u8 0), (.int .u8 0), (.int .u8 0), (.int .u8 0), (.int .u8 0), (.int .u8 0), (.int .u8 0), (.int .u8 0), (.int .u8 0), (.int .u8 0), (.int .u8 0), (.int .u8 0), (.int .u8 0), (.int .u8 0), (.int .u8 0), (.int .u8 0), (.int .u8 0), (.int .u8 0), (.int .u8 0), (.int .u8 0), (.int .u8 0), (.int .u8 0), (.int .u8 0), (.int .u8 0), (.int .u8 0), (.int .u8 0), (.int .u8 0), (.int .u8 0), (.int .u8 0), (.int .u8 0), (.int .u8 0), (.int .u8 0), (.int .u8 0), (.int .u8 0), (.int .u8 0), (.int .u8 0), (.int .u8 0), (.int .u8 0), (.int .u8 0), (.int .u8 0), (.int .u8 0), (.int .u8 0), (.int .u8 0), (.int .u8 0), (.int .u8 0), (.int .u8 0), (.int .u8 0), (.int .u8 0), (.int .u8 0), (.int .u8 0), (.int .u8 0), (.int .u8 0), (.int .u8 0), (.int .u8 0), (.int .u8 0), (.int .u8 0), (.int .u8 0), (.int .u8 0), (.int .u8 0), (.int .u8 0), (.int .u8 0), (.int .u8 0), (.int .u8 0), (.int .u8 0), (.int .u8 0), (.int .u8 0), (.int .u8 0), (.int .u8 0), (.int .u8 0), (.int .u8 0), (.int .u8 0), (.int .u8 0)] 0))))) (.t 49)), (some (46, true))⟩, ⟨(some 51), (.load false 1 (.t 50)), (some (46, true))⟩, ⟨(some 52), (.bin .neq 0 (.t 51) (.k (.v (.c (.p (.int .u8 0)))))), (some (46, true))⟩, ⟨(some 53), (.pick (.t 46) (.t 52) (.k (.v (.c (.p (.bool false)))))), none⟩] []) (.cond (.t 53) .skip (.exit 2))) (.block 3 (.reg [⟨(some 54), (.mv (.t 12)), none⟩, ⟨(some 55), (.bin .add 0 (.t 54) (.k (.v (.c (.p (.int .i64 1)))))), none⟩, ⟨(some 12), (.mv (.t 55)), none⟩] []))))) (.mark 4 [0, 9, 10, 12] (.seq (.reg [⟨(some 56), (.mv (.t 12)), none⟩, ⟨(some 11), (.mv (.t 56)), none⟩] []) (.seq (.block 4 (.loop 5 [0, 9, 10, 11, 12] (.seq (.seq (.reg [⟨(some 57), (.mv (.t 12)), none⟩, ⟨(some 58), (.mv (.t 0)), none⟩, ⟨(some 59), (.len 0 (.t 58)), none⟩, ⟨(some 60), (.bin .lss 0 (.t 57) (.t 59)), none⟩] []) (.cond (.t 60) .skip (.exit 4))) (.block 5 (.seq (.seq (.reg [⟨(some 61), (.mv (.t 0)), none⟩, ⟨(some 62), (.mv (.t 12)), none⟩, ⟨(some 63), (.index (.t 61) (.t 62)), none⟩, ⟨(some 64), (.iaddrA 256 1 (.k (.v (.c (.p (.pptr [(.int .u8 0), (.int .u8 0), (.int .u8 0), (.int .u8 0), (.int .u8 0), (.int .u8 0), (.int .u8 0), (.int .u8 0), (.int .u8 0), (.int .u8 1), (.int .u8 1), (.int .u8 1), (.int .u8 1), (.int .u8 1), (.int .u8 0), (.int .u8 0), (.int .u8 0), (.int .u8 0), (.int .u8 0), (.int .u8 0), (.int .u8 0), (.int .u8 0), (.int .u8 0), (.int .u8 0), (.int .u8 0), (.int .u8 0), (.int .u8 0), (.int .u8 0), (.int .u8 0), (.int .u8 0), (.int .u8 0), (.int .u8 0), (.int .u8 1), (.int .u8 0), (.int .u8 0), (.int .u8 0), (.int .u8 0), (.int .u8 0), (.int .u8 0), (.int .u8 0), (.int .u8 0), (.int .u8 0), (.int .u8 0), (.int .u8 0), (.int .u8 0), (.int .u8 0), (.int .u8 0), (.int .u8 0), (.int .u8 0), (.int .u8 0), (.int .u8 0), (.int .u8 0), (.int .u8 0), (.int .u8 0), (.int .u8 0), (.int .u8 0), (.int .u8 0), (.int .u8 0), (.int .u8 0), (.int .u8 0), (.int .u8 0), (.int .u8 0), (.int .u8 0), (.int .u8 0), (.int .u8 0), (.int .u8 0), (.int .u8 0), (.int .u8 0), (.int .u8 0), (.int .u8 0), (.int .u8 0), (.int .u8 0), (.int .u8 0), (.int .u8 0), (.int .u8 0), (.int .u8 0), (.int .u8 0), (.int .u8 0), (.int .u8 0), (.int .u8 0), (.int .u8 0), (.int .u8 0), (.int .u8 0), (.int .u8 0), (.int .u8 0), (.int .u8 0), (.int .u8 0), (.int .u8 0), (.int .u8 0), (.int .u8 0), (.int .u8 0), (.int .u8 0), (.int .u8 0), (.int .u8 0), (.int .u8 0), (.int .u8 0), (.int .u8 0), (.int .u8 0), (.int .u8 0), (.int .u8 0), (.int .u8 0), (.int .u8 0), (.int .u8 0), (.int .u8 0), (.int .u8 0), (.int .u8 0), (.int .u8 0), (.int .u8 0), (.int .u8 0), (.int .u8 0), (.int .u8 0), (.int .u8 0), (.int .u8 0), (.int .u8 0), (.int .u8 0), (.int .u8 0), (.int .u8 0), (.int .u8 0), (.int .u8 0), (.int .u8 0), (.int .u8 0), (.int .u8 0), (.int .u8 0), (.int .u8 0), (.int .u8 0), (.int .u8 0), (.int .u8 0), (.int .u8 0), (.int .u8 0), (.int .u8 0), (.int .u8 0), (.int .u8 0), (.int .u8 0), (.int .u8 0), (.int .u8 0), (.int .u8 0), (.int .u8 0), (.int .u8 0), (.int .u8 0), (.int .u8 0), (.int .u8 0), (.int .u8 0), (.int .u8 0), (.int .u8 0), (.int .u8 0), (.int .u8 0), (.int .u8 0), (.int .u8 0), (.int .u8 0), (.int .u8 0), (.int .u8 0), (.int .u8 0), (.int .u8 0), (.int .u8 0), (.int .u8 0), (.int .u8 0), (.int .u8 0), (.int .u8 0), (.int .u8 0), (.int .u8 0), (.int .u8 0), (.int .u8 0), (.int .u8 0), (.int .u8 0), (.int .u8 0), (.int .u8 0), (.int .u8 0), (.int .u8 0), (.int .u8 0), (.int .u8 0), (.int .u8 0), (.int .u8 0), (.int .u8 0), (.int .u8 0), (.int .u8 0), (.int .u8 0), (.int .u8 0), (.int .u8 0), (.int .u8 0), (.int .u8 0), (.int .u8 0), (.int .u8 0), (.int .u8 0), (.int .u8 0), (.int .u8 0), (.int .u8 0), (.int .u8 0), (.int .u8 0), (.int .u8 0), (.int .u8 0), (.int .u8 0), (.int .u8 0), (.int .u8 0), (.int .u8 0), (.int .u8 0), (.int .u8 0), (.int .u8 0), (.int .u8 0), (.int .u8 0), (.int .u8 0), (.int .u8 0), (.int .u8 0), (.int .u8 0), (.int .u8 0), (.int .u8 0), (.int .u8 0), (.int .u8 0), (.int .u8 0), (.int .u8 0), (.int .u8 0), (.int .u8 0), (.int .u8 0), (.int .u8 0), (.int .u8 0), (.int .u8 0), (.int .u8 0), (.int .u8 0), (.int .u8 0), (.int .u8 0), (.int .u8 0), (.int .u8 0), (.int .u8 0), (.int .u8 0), (.int .u8 0), (.int .u8 0), (.int .u8 0), (.int .u8 0), (.int .u8 0), (.int .u8 0), (.int .u8 0), (.int .u8 0), (.int .u8 0), (.int .u8 0), (.int .u8 0), (.int .u8 0), (.int .u8 0), (.int .u8 0), (.int .u8 0), (.int .u8 0), (.int .u8 0), (.int .u8 0), (.int .u8 0), (.int .u8 0), (.int .u8 0), (.int .u8 0), (.int .u8 0), (.int .u8 0), (.int .u8 0), (.int .u8 0), (.int .u8 0), (.int .u8 0), (.int .u8 0), (.int .u8 0), (.int .u8 0), (.int .u8 0), (.int .u8 0)] 0))))) (.t 63)), none⟩, ⟨(some 65), (.load false 1 (.t 64)), none⟩, ⟨(some 66), (.bin .eql 0 (.t 65) (.k (.v (.c (.p (.int .u8 0)))))), none⟩] []) (.cond (.t 66) (.seq (.reg [⟨(some 67), (.mv (.t 12)), none⟩, ⟨(some 68), (.bin .add 0 (.t 67) (.k (.v (.c (.p (.int .i64 1)))))), none⟩, ⟨(some 12), (.mv (.t 68)), none⟩] []) (.exit 5)) .skip)) (.seq (.reg [⟨(some 69), (.mv (.t 9)), none⟩, ⟨(some 70), (.mv (.t 10)), none⟩, ⟨(some 71), (.mv (.t 0)), none⟩, ⟨(some 72), (.mv (.t 11)), none⟩, ⟨(some 73), (.mv (.t 12)), none⟩, ⟨(some 74), (.slice 0 true (.t 71) (some (.t 72)) (some (.t 73)) none), none⟩, ⟨(some 75), (.iaddr 1 (.t 69) (.t 70)), none⟩, ⟨none, (.store 1 (.t 75) (.t 74)), none⟩] []) (.seq (.reg [⟨(some 76), (.mv (.t 10)), none⟩, ⟨(some 77), (.bin .add 0 (.t 76) (.k (.v (.c (.p (.int .i64 1)))))), none⟩, ⟨(some 10), (.mv (.t 77)), none⟩] []) (.seq (.reg [⟨(some 78), (.mv (.t 12)), none⟩, ⟨(some 79), (.bin .add 0 (.t 78) (.k (.v (.c (.p (.int .i64 1)))))), none⟩, ⟨(some 12), (.mv (.t 79)), none⟩] []) (.seq (.block 6 (.loop 6 [0, 9, 10, 12] (.seq (.seq (.reg [⟨(some 80), (.mv (.t 12)), none⟩, ⟨(some 81), (.mv (.t 0)), none⟩, ⟨(some 82), (.len 0 (.t 81)), none⟩, ⟨(some 83), (.bin .lss 0 (.t 80) (.t 82)), none⟩, ⟨(some 84), (.mv (.t 83)), none⟩, ⟨(some 85), (.mv (.t 0)), (some (84, true))⟩, ⟨(some 86), (.mv (.t 12)), (some (84, true))⟩, ⟨(some 87), (.index (.t 85) (.t 86)), (some (84, true))⟩, ⟨(some 88), (.iaddrA 256 1 (.k (.v (.c (.p (.pptr [(.int .u8 0), (.int .u8 0), (.int .u8 0), (.int .u8 0), (.int .u8 0), (.int .u8 0), (.int .u8 0), (.int .u8 0), (.int .u8 0), (.int .u8 1), (.int .u8 1), (.int .u8 1), (.int .u8 1), (.int .u8 1), (.int .u8 0), (.int .u8 0), (.int .u8 0), (.int .u8 0), (.int .u8 0), (.int .u8 0), (.int .u8 0), (.int .u8 0), (.int .u8 0), (.int .u8 0), (.int .u8 0), (.int .u8 0), (.int .u8 0), (.int .u8 0), (.int .u8 0), (.int .u8 0), (.int .u8 0), (.int .u8 0), (.int .u8 1), (.int .u8 0), (.int .u8 0), (.int .u8 0), (.int .u8 0), (.int .u8 0), (.int .u8 0), (.int .u8 0), (.int .u8 0), (.int .u8 0), (.int .u8 0), (.int .u8 0), (.int .u8 0), (.int .u8 0), (.int .u8 0), (.int .u8 0), (.int .u8 0), (.int .u8 0), (.int .u8 0), (.int .u8 0), (.int .u8 0), (.int .u8 0), (.int .u8 0), (.int .u8 0), (.int .u8 0), (.int .u8 0), (.int .u8 0), (.int .u8 0), (.int .u8 0), (.int .u8 0), (.int .u8 0), (.int .u8 0), (.int .u8 0), (.int .u8 0), (.int .u8 0), (.int .u8 0), (.int .u8 0), (.int .u8 0), (.int .u8 0), (.int .u8 0), (.int .u8 0), (.int .u8 0), (.int .u8 0), (.int .u8 0), (.int .u8 0), (.int .u8 0), (.int .u8 0), (.int .u8 0), (.int .u8 0), (.int .u8 0), (.int .u8 0), (.int .u8 0), (.int .u8 0), (.int .u8 0), (.int .u8 0), (.int .u8 0), (.int .u8 0), (.int .u8 0), (.int .u8 0), (.int .u8 0), (.int .u8 0), (.int .u8 0), (.int .u8 0), (.int .u8 0), (.int .u8 0), (.int .u8 0), (.int .u8 0), (.int .u8 0), (.int .u8 0), (.int .u8 0), (.int .u8 0), (.int .u8 0), (.int .u8 0), (.int .u8 0), (.int .u8 0), (.int .u8 0), (.int .u8 0), (.int .u8 0), (.int .u8 0), (.int .u8 0), (.int .u8 0), (.int .u8 0), (.int .u8 0), (.int .u8 0), (.int .u8 0), (.int .u8 0), (.int .u8 0), (.int .u8 0), (.int .u8 0), (.int .u8 0), (.int .u8 0), (.int .u8 0), (.int .u8 0), (.int .u8 0), (.int .u8 0), (.int .u8 0), (.int .u8 0), (.int .u8 0), (.int .u8 0), (.int .u8 0), (.int .u8 0), (.int .u8 0), (.int .u8 0), (.int .u8 0), (.int .u8 0), (.int .u8 0), (.int .u8 0), (.int .u8 0), (.int .u8 0), (.int .u8 0), (.int .u8 0), (.int .u8 0), (.int .u8 0), (.int .u8 0), (.int .u8 0), (.int .u8 0), (.int .u8 0), (.int .u8 0), (.int .u8 0), (.int .u8 0), (.int .u8 0), (.int .u8 0), (.int .u8 0), (.int .u8 0), (.int .u8 0), (.int .u8 0), (.int .u8 0), (.int .u8 0), (.int .u8 0), (.int .u8 0), (.int .u8 0), (.int .u8 0), (.int .u8 0), (.int .u8 0), (.int .u8 0), (.int .u8 0), (.int .u8 0), (.int .u8 0), (.int .u8 0), (.int .u8 0), (.int .u8 0), (.int .u8 0), (.int .u8 0), (.int .u8 0), (.int .u8 0), (.int .u8 0), (.int .u8 0), (.int .u8 0), (.int .u8 0), (.int .u8 0), (.int .u8 0), (.int .u8 0), (.int .u8 0), (.int .u8 0), (.int .u8 0), (.int .u8 0), (.int .u8 0), (.int .u8 0), (.int .u8 0), (.int .u8 0), (.int .u8 0), (.int .u8 0), (.int .u8 0), (.int .u8 0), (.int .u8 0), (.int .u8 0), (.int .u8 0), (.int .u8 0), (.int .u8 0), (.int .u8 0), (.int .u8 0), (.int .u8 0), (.int .u8 0), (.int .u8 0), (.int .u8 0), (.int .u8 0), (.int .u8 0), (.int .u8 0), (.int .u8 0), (.int .u8 0), (.int .u8 0), (.int .u8 0), (.int .u8 0), (.int .u8 0), (.int .u8 0), (.int .u8 0), (.int .u8 0), (.int .u8 0), (.int .u8 0), (.int .u8 0), (.int .u8 0), (.int .u8 0), (.int .u8 0), (.int .u8 0), (.int .u8 0), (.int .u8 0), (.int .u8 0), (.int .u8 0), (.int .u8 0), (.int .u8 0), (.int .u8 0), (.int .u8 0), (.int .u8 0), (.int .u8 0), (.int .u8 0), (.int .u8 0), (.int .u8 0), (.int .u8 0), (.int .u8 0), (.int .u8 0), (.int .u8 0), (.int .u8 0), (.int .u8 0), (.int .u8 0), (.int .u8 0), (.int .u8 0), (.int .u8 0), (.int .u8 0), (.int .u8 0), (.int .u8 0), (.int .u8 0), (.int .u8 0), (.int .u8 0), (.int .u8 0)] 0))))) (.t 87)), (some (84, true))⟩, ⟨(some 89), (.load false 1 (.t 88)), (some (84, true))⟩, ⟨(some 90), (.bin .neq 0 (.t 89) (.k (.v (.c (.p (.int .u8 0)))))), (some (84, true))⟩, ⟨(some 91), (.pick (.t 84) (.t 90) (.k (.v (.c (.p (.bool false)))))), none⟩] []) (.cond (.t 91) .skip (.exit 6))) (.block 7 (.reg [⟨(some 92), (.mv (.t 12)), none⟩, ⟨(some 93), (.bin .add 0 (.t 92) (.k (.v (.c (.p (.int .i64 1)))))), none⟩, ⟨(some 12), (.mv (.t 93)), none⟩] []))))) (.reg [⟨(some 94), (.mv (.t 12)), none⟩, ⟨(some 11), (.mv (.t 94)), none⟩] [])))))))))) (.mark 7 [0, 9, 10, 11] (.seq (.seq (.reg [⟨(some 95), (.mv (.t 11)), none⟩, ⟨(some 96), (.mv (.t 0)), none⟩, ⟨(some 97), (.len 0 (.t 96)), none⟩, ⟨(some 98), (.bin .lss 0 (.t 95) (.t 97)), none⟩] []) (.cond (.t 98) (.reg [⟨(some 99), (.mv (.t 9)), none⟩, ⟨(some 100), (.mv (.t 10)), none⟩, ⟨(some 101), (.mv (.t 0)), none⟩, ⟨(some 102), (.mv (.t 11)), none⟩, ⟨(some 103), (.slice 0 true (.t 101) (some (.t 102)) none none), none⟩, ⟨(some 104), (.iaddr 1 (.t 99) (.t 100)), none⟩, ⟨none, (.store 1 (.t 104) (.t 103)), none⟩] []) .skip)) (.seq (.reg [⟨(some 105), (.mv (.t 9)), none⟩, ⟨(some 2), (.mv (.t 105)), none⟩] []) .ret)))))))))))))))))) }
theorem t107 : compF Tryd.prog (globs2 tabs opq) false true Tryd.f107 = some c107.erase := by kernel_rfl
noncomputable def b107_0 (O : Oracle) (R : Jump) (q : Nat) (x0 : TVal) (h : Heap) : Res1 :=
  R 1 [x0, (kI 0), (kI 1), (.v (.c (.p (.int .u8 0)))), (kI 0)] h
theorem e107_0 (O : Oracle) (R : Jump) (q : Nat) (x0 : TVal) (h : Heap) : b107_0 O R q x0 h = stepF c107 O R q 0 [x0] h := by kernel_rfl
noncomputable def b107_1 (O : Oracle) (R : Jump) (q : Nat) (x0 x3 x4 x5 x6 : TVal) (h : Heap) : Res1 :=
  vlen O 0 x0 h 15 fun x15 h =>
  vbin .lss 0 x6 x15 h fun x16 h =>
  vif x16 (
  vindex x0 x6 h fun x21 h =>
  vbin .or 0 x5 x21 h fun x24 h =>
  vop O (.iaddrA 256 1 (.k (.v (.c (.p (.pptr [(.int .u8 0), (.int .u8 0), (.int .u8 0), (.int .u8 0), (.int .u8 0), (.int .u8 0), (.int .u8 0), (.int .u8 0), (.int .u8 0), (.int .u8 1), (.int .u8 1), (.int .u8 1), (.int .u8 1), (.int .u8 1), (.int .u8 0), (.int .u8 0), (.int .u8 0), (.int .u8 0), (.int .u8 0), (.int .u8 0), (.int .u8 0), (.int .u8 0), (.int .u8 0), (.int .u8 0), (.int .u8 0), (.int .u8 0), (.int .u8 0), (.int .u8 0), (.int .u8 0), (.int .u8 0), (.int .u8 0), (.int .u8 0), (.int .u8 1), (.int .u8 0), (.int .u8 0), (.int .u8 0), (.int .u8 0), (.int .u8 0), (.int .u8 0), (.int .u8 0), (.int .u8 0), (.int .u8 0), (.int .u8 0), (.int .u8 0), (.int .u8 0), (.int .u8 0), (.int .u8 0), (.int .u8 0), (.int .u8 0), (.int .u8 0), (.int .u8 0), (.int .u8 0), (.int .u8 0), (.int .u8 0), (.int .u8 0), (.int .u8 0), (.int .u8 0), (.int .u8 0), (.int .u8 0), (.int .u8 0), (.int .u8 0), (.int .u8 0), (.int .u8 0), (.int .u8 0), (.int .u8 0), (.int .u8 0), (.int .u8 0), (.int .u8 0), (.int .u8 0), (.int .u8 0), (.int .u8 0), (.int .u8 0), (.int .u8 0), (.int .u8 0), (.int .u8 0), (.int .u8 0), (.int .u8 0), (.int .u8 0), (.int .u8 0), (.int .u8 0), (.int .u8 0), (.int .u8 0), (.int .u8 0), (.int .u8 0), (.int .u8 0), (.int .u8 0), (.int .u8 0), (.int .u8 0), (.int .u8 0), (.int .u8 0), (.int .u8 0), (.int .u8 0), (.int .u8 0), (.int .u8 0), (.int .u8 0), (.int .u8 0), (.int .u8 0), (.int .u8 0), (.int .u8 0), (.int .u8 0), (.int .u8 0), (.int .u8 0), (.int .u8 0), (.int .u8 0), (.int .u8 0), (.int .u8 0), (.int .u8 0), (.int .u8 0), (.int .u8 0), (.int .u8 0), (.int .u8 0), (.int .u8 0), (.int .u8 0), (.int .u8 0), (.int .u8 0), (.int .u8 0), (.int .u8 0), (.int .u8 0), (.int .u8 0), (.int .u8 0), (.int .u8 0), (.int .u8 0), (.int .u8 0), (.int .u8 0), (.int .u8 0), (.int .u8 0), (.int .u8 0), (.int .u8 0), (.int .u8 0), (.int .u8 0), (.int .u8 0), (.int .u8 0), (.int .u8 0), (.int .u8 0), (.int .u8 0), (.int .u8 0), (.int .u8 0), (.int .u8 0), (.int .u8 0), (.int .u8 0), (.int .u8 0), (.int .u8 0), (.int .u8 0), (.int .u8 0), (.int .u8 0), (.int .u8 0), (.int .u8 0), (.int .u8 0), (.int .u8 0), (.int .u8 0), (.int .u8 0), (.int .u8 0), (.int .u8 0), (.int .u8 0), (.int .u8 0), (.int .u8 0), (.int .u8 0), (.int .u8 0), (.int .u8 0), (.int .u8 0), (.int .u8 0), (.int .u8 0), (.int .u8 0), (.int .u8 0), (.int .u8 0), (.int .u8 0), (.int .u8 0), (.int .u8 0), (.int .u8 0), (.int .u8 0), (.int .u8 0), (.int .u8 0), (.int .u8 0), (.int .u8 0), (.int .u8 0), (.int .u8 0), (.int .u8 0), (.int .u8 0), (.int .u8 0), (.int .u8 0), (.int .u8 0), (.int .u8 0), (.int .u8 0), (.int .u8 0), (.int .u8 0), (.int .u8 0), (.int .u8 0), (.int .u8 0), (.int .u8 0), (.int .u8 0), (.int .u8 0), (.int .u8 0), (.int .u8 0), (.int .u8 0), (.int .u8 0), (.int .u8 0), (.int .u8 0), (.int .u8 0), (.int .u8 0), (.int .u8 0), (.int .u8 0), (.int .u8 0), (.int .u8 0), (.int .u8 0), (.int .u8 0), (.int .u8 0), (.int .u8 0), (.int .u8 0), (.int .u8 0), (.int .u8 0), (.int .u8 0), (.int .u8 0), (.int .u8 0), (.int .u8 0), (.int .u8 0), (.int .u8 0), (.int .u8 0), (.int .u8 0), (.int .u8 0), (.int .u8 0), (.int .u8 0), (.int .u8 0), (.int .u8 0), (.int .u8 0), (.int .u8 0), (.int .u8 0), (.int .u8 0), (.int .u8 0), (.int .u8 0), (.int .u8 0), (.int .u8 0), (.int .u8 0), (.int .u8 0), (.int .u8 0), (.int .u8 0), (.int .u8 0), (.int .u8 0), (.int .u8 0), (.int .u8 0), (.int .u8 0), (.int .u8 0), (.int .u8 0), (.int .u8 0), (.int .u8 0), (.int .u8 0), (.int .u8 0), (.int .u8 0), (.int .u8 0), (.int .u8 0), (.int .u8 0), (.int .u8 0), (.int .u8 0), (.int .u8 0), (.int .u8 0), (.int .u8 0), (.int .u8 0)] 0))))) (.k x21)) h 26 fun x26 h =>
  vload false 1 x26 h fun x27 h =>
  vtoInt .i64 x27 h fun x28 h =>
  vop O (.un .xor (.k x28)) h 32 fun x32 h =>
  vbin .and 0 x4 x32 h fun x33 h =>
  vbin .add 0 x3 x33 h fun x34 h =>
  vbin .add 0 x6 (kI 1) h fun x18 h =>
  R 1 [x0, x34, x28, x24, x18] h)
  (R 2 [x0, x3, x5] h)
theorem e107_1 (O : Oracle) (R : Jump) (q : Nat) (x0 x3 x4 x5 x6 : TVal) (h : Heap) : b107_1 O R q x0 x3 x4 x5 x6 h = stepF c107 O R q 1 [x0, x3, x4, x5, x6] h := by kernel_rfl
noncomputable def b107_2 (O : Oracle) (R : Jump) (q : Nat) (x0 x3 x5 : TVal) (h : Heap) : Res1 :=
  vbin .geq 0 x5 (.v (.c (.p (.int .u8 128)))) h fun x37 h =>
  vif x37 (
  vcall O (.v (.c (.func 130 []))) [x0, (.v (.c (.func 131 [])))] h 39 fun x39 h =>
  tcomp x39 fun c0 => vfin true q [c0] h)
  (vop O (.mkslice 1 16 [(.p (.str []))] (.k x3) (.k x3)) h 41 fun x41 h =>
  R 3 [x0, x41, (kI 0), (kI 0)] h)
theorem e107_2 (O : Oracle) (R : Jump) (q : Nat) (x0 x3 x5 : TVal) (h : Heap) : b107_2 O R q x0 x3 x5 h = stepF c107 O R q 2 [x0, x3, x5] h := by kernel_rfl
noncomputable def b107_3 (O : Oracle) (R : Jump) (q : Nat) (x0 x9 x10 x12 : TVal) (h : Heap) : Res1 :=
  vlen O 0 x0 h 44 fun x44 h =>
  vbin .lss 0 x12 x44 h fun x45 h =>
  vguard x45 true (fun kk => kk x0 h) h fun x47 h =>
  vguard x45 true (fun kk => kk x12 h) h fun x48 h =>
  vguard x45 true (fun kk => vindex x47 x48 h kk) h fun x49 h =>
  vguard x45 true (fun kk => vop O (.iaddrA 256 1 (.k (.v (.c (.p (.pptr [(.int .u8 0), (.int .u8 0), (.int .u8 0), (.int .u8 0), (.int .u8 0), (.int .u8 0), (.int .u8 0), (.int .u8 0), (.int .u8 0), (.int .u8 1), (.int .u8 1), (.int .u8 1), (.int .u8 1), (.int .u8 1), (.int .u8 0), (.int .u8 0), (.int .u8 0), (.int .u8 0), (.int .u8 0), (.int .u8 0), (.int .u8 0), (.int .u8 0), (.int .u8 0), (.int .u8 0), (.int .u8 0), (.int .u8 0), (.int .u8 0), (.int .u8 0), (.int .u8 0), (.int .u8 0), (.int .u8 0), (.int .u8 0), (.int .u8 1), (.int .u8 0), (.int .u8 0), (.int .u8 0), (.int .u8 0), (.int .u8 0), (.int .u8 0), (.int .u8 0), (.int .u8 0), (.int .u8 0), (.int .u8 0), (.int .u8 0), (.int .u8 0), (.int .u8 0), (.int .u8 0), (.int .u8 0), (.int .u8 0), (.int .u8 0), (.int .u8 0), (.int .u8 0), (.int .u8 0), (.int .u8 0), (.int .u8 0), (.int .u8 0), (.int .u8 0), (.int .u8 0), (.int .u8 0), (.int .u8 0), (.int .u8 0), (.int .u8 0), (.int .u8 0), (.int .u8 0), (.int .u8 0), (.int .u8 0), (.int .u8 0), (.int .u8 0), (.int .u8 0), (.int .u8 0), (.int .u8 0), (.int .u8 0), (.int .u8 0), (.int .u8 0), (.int .u8 0), (.int .u8 0), (.int .u8 0), (.int .u8 0), (.int .u8 0), (.int .u8 0), (.int .u8 0), (.int .u8 0), (.int .u8 0), (.int .u8 0), (.int .u8 0), (.int .u8 0), (.int .u8 0), (.int .u8 0), (.int .u8 0), (.int .u8 0), (.int .u8 0), (.int .u8 0), (.int .u8 0), (.int .u8 0), (.int .u8 0), (.int .u8 0), (.int .u8 0), (.int .u8 0), (.int .u8 0), (.int .u8 0), (.int .u8 0), (.int .u8 0), (.int .u8 0), (.int .u8 0), (.int .u8 0), (.int .u8 0), (.int .u8 0), (.int .u8 0), (.int .u8 0), (.int .u8 0), (.int .u8 0), (.int .u8 0), (.int .u8 0), (.int .u8 0), (.int .u8 0), (.int .u8 0), (.int .u8 0), (.int .u8 0), (.int .u8 0), (.int .u8 0), (.int .u8 0), (.int .u8 0), (.int .u8 0), (.int .u8 0), (.int .u8 0), (.int .u8 0), (.int .u8 0), (.int .u8 0), (.int .u8 0), (.int .u8 0), (.int .u8 0), (.int .u8 0), (.int .u8 0), (.int .u8 0), (.int .u8 0), (.int .u8 0), (.int .u8 0), (.int .u8 0), (.int .u8 0), (.int .u8 0), (.int .u8 0), (.int .u8 0), (.int .u8 0), (.int .u8 0), (.int .u8 0), (.int .u8 0), (.int .u8 0), (.int .u8 0), (.int .u8 0), (.int .u8 0), (.int .u8 0), (.int .u8 0), (.int .u8 0), (.int .u8 0), (.int .u8 0), (.int .u8 0), (.int .u8 0), (.int .u8 0), (.int .u8 0), (.int .u8 0), (.int .u8 0), (.int .u8 0), (.int .u8 0), (.int .u8 0), (.int .u8 0), (.int .u8 0), (.int .u8 0), (.int .u8 0), (.int .u8 0), (.int .u8 0), (.int .u8 0), (.int .u8 0), (.int .u8 0), (.int .u8 0), (.int .u8 0), (.int .u8 0), (.int .u8 0), (.int .u8 0), (.int .u8 0), (.int .u8 0), (.int .u8 0), (.int .u8 0), (.int .u8 0), (.int .u8 0), (.int .u8 0), (.int .u8 0), (.int .u8 0), (.int .u8 0), (.int .u8 0), (.int .u8 0), (.int .u8 0), (.int .u8 0), (.int .u8 0), (.int .u8 0), (.int .u8 0), (.int .u8 0), (.int .u8 0), (.int .u8 0), (.int .u8 0), (.int .u8 0), (.int .u8 0), (.int .u8 0), (.int .u8 0), (.int .u8 0), (.int .u8 0), (.int .u8 0), (.int .u8 0), (.int .u8 0), (.int .u8 0), (.int .u8 0), (.int .u8 0), (.int .u8 0), (.int .u8 0), (.int .u8 0), (.int .u8 0), (.int .u8 0), (.int .u8 0), (.int .u8 0), (.int .u8 0), (.int .u8 0), (.int .u8 0), (.int .u8 0), (.int .u8 0), (.int .u8 0), (.int .u8 0), (.int .u8 0), (.int .u8 0), (.int .u8 0), (.int .u8 0), (.int .u8 0), (.int .u8 0), (.int .u8 0), (.int .u8 0), (.int .u8 0), (.int .u8 0), (.int .u8 0), (.int .u8 0), (.int .u8 0), (.int .u8 0), (.int .u8 0), (.int .u8 0), (.int .u8 0), (.int .u8 0), (.int .u8 0), (.int .u8 0), (.int .u8 0), (.int .u8 0), (.int .u8 0), (.int .u8 0), (.int .u8 0), (.int .u8 0), (.int .u8 0), (.int .u8 0), (.int .u8 0), (.int .u8 0), (.int .u8 0)] 0))))) (.k x49)) h 50 kk) h fun x50 h =>
  vguard x45 true (fun kk => vload false 1 x50 h kk) h fun x51 h =>
  vguard x45 true (fun kk => vbin .neq 0 x51 (.v (.c (.p (.int .u8 0)))) h kk) h fun x52 h =>
  vop O (.pick (.k x45) (.k x52) (.k (kB false))) h 53 fun x53 h =>
  vif x53 (
  vbin .add 0 x12 (kI 1) h fun x55 h =>
  R 3 [x0, x9, x10, x55] h)
  (R 4 [x0, x9, x10, x12] h)
theorem e107_3 (O : Oracle) (R : Jump) (q : Nat) (x0 x9 x10 x12 : TVal) (h : Heap) : b107_3 O R q x0 x9 x10 x12 h = stepF c107 O R q 3 [x0, x9, x10, x12] h := by kernel_rfl
noncomputable def b107_4 (O : Oracle) (R : Jump) (q : Nat) (x0 x9 x10 x12 : TVal) (h : Heap) : Res1 :=
  R 5 [x0, x9, x10, x12, x12] h
theorem e107_4 (O : Oracle) (R : Jump) (q : Nat) (x0 x9 x10 x12 : TVal) (h : Heap) : b107_4 O R q x0 x9 x10 x12 h = stepF c107 O R q 4 [x0, x9, x10, x12] h := by kernel_rfl
noncomputable def b107_5 (O : Oracle) (R : Jump) (q : Nat) (x0 x9 x10 x11 x12 : TVal) (h : Heap) : Res1 :=
  vlen O 0 x0 h 59 fun x59 h =>
  vbin .lss 0 x12 x59 h fun x60 h =>
  vif x60 (
  vindex x0 x12 h fun x63 h =>
  vop O (.iaddrA 256 1 (.k (.v (.c (.p (.pptr [(.int .u8 0), (.int .u8 0), (.int .u8 0), (.int .u8 0), (.int .u8 0), (.int .u8 0), (.int .u8 0), (.int .u8 0), (.int .u8 0), (.int .u8 1), (.int .u8 1), (.int .u8 1), (.int .u8 1), (.int .u8 1), (.int .u8 0), (.int .u8 0), (.int .u8 0), (.int .u8 0), (.int .u8 0), (.int .u8 0), (.int .u8 0), (.int .u8 0), (.int .u8 0), (.int .u8 0), (.int .u8 0), (.int .u8 0), (.int .u8 0), (.int .u8 0), (.int .u8 0), (.int .u8 0), (.int .u8 0), (.int .u8 0), (.int .u8 1), (.int .u8 0), (.int .u8 0), (.int .u8 0), (.int .u8 0), (.int .u8 0), (.int .u8 0), (.int .u8 0), (.int .u8 0), (.int .u8 0), (.int .u8 0), (.int .u8 0), (.int .u8 0), (.int .u8 0), (.int .u8 0), (.int .u8 0), (.int .u8 0), (.int .u8 0), (.int .u8 0), (.int .u8 0), (.int .u8 0), (.int .u8 0), (.int .u8 0), (.int .u8 0), (.int .u8 0), (.int .u8 0), (.int .u8 0), (.int .u8 0), (.int .u8 0), (.int .u8 0), (.int .u8 0), (.int .u8 0), (.int .u8 0), (.int .u8 0), (.int .u8 0), (.int .u8 0), (.int .u8 0), (.int .u8 0), (.int .u8 0), (.int .u8 0), (.int .u8 0), (.int .u8 0), (.int .u8 0), (.int .u8 0), (.int .u8 0), (.int .u8 0), (.int .u8 0), (.int .u8 0), (.int .u8 0), (.int .u8 0), (.int .u8 0), (.int .u8 0), (.int .u8 0), (.int .u8 0), (.int .u8 0), (.int .u8 0), (.int .u8 0), (.int .u8 0), (.int .u8 0), (.int .u8 0), (.int .u8 0), (.int .u8 0), (.int .u8 0), (.int .u8 0), (.int .u8 0), (.int .u8 0), (.int .u8 0), (.int .u8 0), (.int .u8 0), (.int .u8 0), (.int .u8 0), (.int .u8 0), (.int .u8 0), (.int .u8 0), (.int .u8 0), (.int .u8 0), (.int .u8 0), (.int .u8 0), (.int .u8 0), (.int .u8 0), (.int .u8 0), (.int .u8 0), (.int .u8 0), (.int .u8 0), (.int .u8 0), (.int .u8 0), (.int .u8 0), (.int .u8 0), (.int .u8 0), (.int .u8 0), (.int .u8 0), (.int .u8 0), (.int .u8 0), (.int .u8 0), (.int .u8 0), (.int .u8 0), (.int .u8 0), (.int .u8 0), (.int .u8 0), (.int .u8 0), (.int .u8 0), (.int .u8 0), (.int .u8 0), (.int .u8 0), (.int .u8 0), (.int .u8 0), (.int .u8 0), (.int .u8 0), (.int .u8 0), (.int .u8 0), (.int .u8 0), (.int .u8 0), (.int .u8 0), (.int .u8 0), (.int .u8 0), (.int .u8 0), (.int .u8 0), (.int .u8 0), (.int .u8 0), (.int .u8 0), (.int .u8 0), (.int .u8 0), (.int .u8 0), (.int .u8 0), (.int .u8 0), (.int .u8 0), (.int .u8 0), (.int .u8 0), (.int .u8 0), (.int .u8 0), (.int .u8 0), (.int .u8 0), (.int .u8 0), (.int .u8 0), (.int .u8 0), (.int .u8 0), (.int .u8 0), (.int .u8 0), (.int .u8 0), (.int .u8 0), (.int .u8 0), (.int .u8 0), (.int .u8 0), (.int .u8 0), (.int .u8 0), (.int .u8 0), (.int .u8 0), (.int .u8 0), (.int .u8 0), (.int .u8 0), (.int .u8 0), (.int .u8 0), (.int .u8 0), (.int .u8 0), (.int .u8 0), (.int .u8 0), (.int .u8 0), (.int .u8 0), (.int .u8 0), (.int .u8 0), (.int .u8 0), (.int .u8 0), (.int .u8 0), (.int .u8 0), (.int .u8 0), (.int .u8 0), (.int .u8 0), (.int .u8 0), (.int .u8 0), (.int .u8 0), (.int .u8 0), (.int .u8 0), (.int .u8 0), (.int .u8 0), (.int .u8 0), (.int .u8 0), (.int .u8 0), (.int .u8 0), (.int .u8 0), (.int .u8 0), (.int .u8 0), (.int .u8 0), (.int .u8 0), (.int .u8 0), (.int .u8 0), (.int .u8 0), (.int .u8 0), (.int .u8 0), (.int .u8 0), (.int .u8 0), (.int .u8 0), (.int .u8 0), (.int .u8 0), (.int .u8 0), (.int .u8 0), (.int .u8 0), (.int .u8 0), (.int .u8 0), (.int .u8 0), (.int .u8 0), (.int .u8 0), (.int .u8 0), (.int .u8 0), (.int .u8 0), (.int .u8 0), (.int .u8 0), (.int .u8 0), (.int .u8 0), (.int .u8 0), (.int .u8 0), (.int .u8 0), (.int .u8 0), (.int .u8 0), (.int .u8 0), (.int .u8 0), (.int .u8 0), (.int .u8 0), (.int .u8 0), (.int .u8 0), (.int .u8 0), (.int .u8 0), (.int .u8 0), (.int .u8 0), (.int .u8 0)] 0))))) (.k x63)) h 64 fun x64 h =>
  vload false 1 x64 h fun x65 h =>
  vbin .eql 0 x65 (.v (.c (.p (.int .u8 0)))) h fun x66 h =>
  vif x66 (
  vbin .add 0 x12 (kI 1) h fun x68 h =>
  R 5 [x0, x9, x10, x11, x68] h)
  (vop O (.slice 0 true (.k x0) (some (.k x11)) (some (.k x12)) none) h 74 fun x74 h =>
  viaddr 1 x9 x10 h fun x75 h =>
  vstore 1 x75 x74 h fun _ h =>
  vbin .add 0 x10 (kI 1) h fun x77 h =>
  vbin .add 0 x12 (kI 1) h fun x79 h =>
  R 6 [x0, x9, x77, x79] h))
  (R 7 [x0, x9, x10, x11] h)
theorem e107_5 (O : Oracle) (R : Jump) (q : Nat) (x0 x9 x10 x11 x12 : TVal) (h : Heap) : b107_5 O R q x0 x9 x10 x11 x12 h = stepF c107 O R q 5 [x0, x9, x10, x11, x12] h := by kernel_rfl
noncomputable def b107_6 (O : Oracle) (R : Jump) (q : Nat) (x0 x9 x10 x12 : TVal) (h : Heap) : Res1 :=
  vlen O 0 x0 h 82 fun x82 h =>
  vbin .lss 0 x12 x82 h fun x83 h =>
  vguard x83 true (fun kk => kk x0 h) h fun x85 h =>
  vguard x83 true (fun kk => kk x12 h) h fun x86 h =>
  vguard x83 true (fun kk => vindex x85 x86 h kk) h fun x87 h =>
  vguard x83 true (fun kk => vop O (.iaddrA 256 1 (.k (.v (.c (.p (.pptr [(.int .u8 0), (.int .u8 0), (.int .u8 0), (.int .u8 0), (.int .u8 0), (.int .u8 0), (.int .u8 0), (.int .u8 0), (.int .u8 0), (.int .u8 1), (.int .u8 1), (.int .u8 1), (.int .u8 1), (.int .u8 1), (.int .u8 0), (.int .u8 0), (.int .u8 0), (.int .u8 0), (.int .u8 0), (.int .u8 0), (.int .u8 0), (.int .u8 0), (.int .u8 0), (.int .u8 0), (.int .u8 0), (.int .u8 0), (.int .u8 0), (.int .u8 0), (.int .u8 0), (.int .u8 0), (.int .u8 0), (.int .u8 0), (.int .u8 1), (.int .u8 0), (.int .u8 0), (.int .u8 0), (.int .u8 0), (.int .u8 0), (.int .u8 0), (.int .u8 0), (.int .u8 0), (.int .u8 0), (.int .u8 0), (.int .u8 0), (.int .u8 0), (.int .u8 0), (.int .u8 0), (.int .u8 0), (.int .u8 0), (.int .u8 0), (.int .u8 0), (.int .u8 0), (.int .u8 0), (.int .u8 0), (.int .u8 0), (.int .u8 0), (.int .u8 0), (.int .u8 0), (.int .u8 0), (.int .u8 0), (.int .u8 0), (.int .u8 0), (.int .u8 0), (.int .u8 0), (.int .u8 0), (.int .u8 0), (.int .u8 0), (.int .u8 0), (.int .u8 0), (.int .u8 0), (.int .u8 0), (.int .u8 0), (.int .u8 0), (.int .u8 0), (.int .u8 0), (.int .u8 0), (.int .u8 0), (.int .u8 0), (.int .u8 0), (.int .u8 0), (.int .u8 0), (.int .u8 0), (.int .u8 0), (.int .u8 0), (.int .u8 0), (.int .u8 0), (.int .u8 0), (.int .u8 0), (.int .u8 0), (.int .u8 0), (.int .u8 0), (.int .u8 0), (.int .u8 0), (.int .u8 0), (.int .u8 0), (.int .u8 0), (.int .u8 0), (.int .u8 0), (.int .u8 0), (.int .u8 0), (.int .u8 0), (.int .u8 0), (.int .u8 0), (.int .u8 0), (.int .u8 0), (.int .u8 0), (.int .u8 0), (.int .u8 0), (.int .u8 0), (.int .u8 0), (.int .u8 0), (.int .u8 0), (.int .u8 0), (.int .u8 0), (.int .u8 0), (.int .u8 0), (.int .u8 0), (.int .u8 0), (.int .u8 0), (.int .u8 0), (.int .u8 0), (.int .u8 0), (.int .u8 0), (.int .u8 0), (.int .u8 0), (.int .u8 0), (.int .u8 0), (.int .u8 0), (.int .u8 0), (.int .u8 0), (.int .u8 0), (.int .u8 0), (.int .u8 0), (.int .u8 0), (.int .u8 0), (.int .u8 0), (.int .u8 0), (.int .u8 0), (.int .u8 0), (.int .u8 0), (.int .u8 0), (.int .u8 0), (.int .u8 0), (.int .u8 0), (.int .u8 0), (.int .u8 0), (.int .u8 0), (.int .u8 0), (.int .u8 0), (.int .u8 0), (.int .u8 0), (.int .u8 0), (.int .u8 0), (.int .u8 0), (.int .u8 0), (.int .u8 0), (.int .u8 0), (.int .u8 0), (.int .u8 0), (.int .u8 0), (.int .u8 0), (.int .u8 0), (.int .u8 0), (.int .u8 0), (.int .u8 0), (.int .u8 0), (.int .u8 0), (.int .u8 0), (.int .u8 0), (.int .u8 0), (.int .u8 0), (.int .u8 0), (.int .u8 0), (.int .u8 0), (.int .u8 0), (.int .u8 0), (.int .u8 0), (.int .u8 0), (.int .u8 0), (.int .u8 0), (.int .u8 0), (.int .u8 0), (.int .u8 0), (.int .u8 0), (.int .u8 0), (.int .u8 0), (.int .u8 0), (.int .u8 0), (.int .u8 0), (.int .u8 0), (.int .u8 0), (.int .u8 0), (.int .u8 0), (.int .u8 0), (.int .u8 0), (.int .u8 0), (.int .u8 0), (.int .u8 0), (.int .u8 0), (.int .u8 0), (.int .u8 0), (.int .u8 0), (.int .u8 0), (.int .u8 0), (.int .u8 0), (.int .u8 0), (.int .u8 0), (.int .u8 0), (.int .u8 0), (.int .u8 0), (.int .u8 0), (.int .u8 0), (.int .u8 0), (.int .u8 0), (.int .u8 0), (.int .u8 0), (.int .u8 0), (.int .u8 0), (.int .u8 0), (.int .u8 0), (.int .u8 0), (.int .u8 0), (.int .u8 0), (.int .u8 0), (.int .u8 0), (.int .u8 0), (.int .u8 0), (.int .u8 0), (.int .u8 0), (.int .u8 0), (.int .u8 0), (.int .u8 0), (.int .u8 0), (.int .u8 0), (.int .u8 0), (.int .u8 0), (.int .u8 0), (.int .u8 0), (.int .u8 0), (.int .u8 0), (.int .u8 0), (.int .u8 0), (.int .u8 0), (.int .u8 0), (.int .u8 0), (.int .u8 0), (.int .u8 0), (.int .u8 0), (.int .u8 0), (.int .u8 0), (.int .u8 0), (.int .u8 0), (.int .u8 0), (.int .u8 0), (.int .u8 0), (.int .u8 0)] 0))))) (.k x87)) h 88 kk) h fun x88 h =>
  vguard x83 true (fun kk => vload false 1 x88 h kk) h fun x89 h =>
  vguard x83 true (fun kk => vbin .neq 0 x89 (.v (.c (.p (.int .u8 0)))) h kk) h fun x90 h =>
  vop O (.pick (.k x83) (.k x90) (.k (kB false))) h 91 fun x91 h =>
  vif x91 (
  vbin .add 0 x12 (kI 1) h fun x93 h =>
  R 6 [x0, x9, x10, x93] h)
  (R 5 [x0, x9, x10, x12, x12] h)
theorem e107_6 (O : Oracle) (R : Jump) (q : Nat) (x0 x9 x10 x12 : TVal) (h : Heap) : b107_6 O R q x0 x9 x10 x12 h = stepF c107 O R q 6 [x0, x9, x10, x12] h := by kernel_rfl
noncomputable def b107_7 (O : Oracle) (R : Jump) (q : Nat) (x0 x9 x10 x11 : TVal) (h : Heap) : Res1 :=
  vlen O 0 x0 h 97 fun x97 h =>
  vbin .lss 0 x11 x97 h fun x98 h =>
  vif x98 (
  vop O (.slice 0 true (.k x0) (some (.k x11)) none none) h 103 fun x103 h =>
  viaddr 1 x9 x10 h fun x104 h =>
  vstore 1 x104 x103 h fun _ h =>
  tcomp x9 fun c0 => vfin true q [c0] h)
  (tcomp x9 fun c0 => vfin true q [c0] h)
theorem e107_7 (O : Oracle) (R : Jump) (q : Nat) (x0 x9 x10 x11 : TVal) (h : Heap) : b107_7 O R q x0 x9 x10 x11 h = stepF c107 O R q 7 [x0, x9, x10, x11] h := by kernel_rfl
noncomputable def d107 : BlkF := fun O R q => [.s fun y0 => .z fun h => b107_0 O R q y0 h, .s fun y0 => .s fun y1 => .s fun y2 => .s fun y3 => .s fun y4 => .z fun h => b107_1 O R q y0 y1 y2 y3 y4 h, .s fun y0 => .s fun y1 => .s fun y2 => .z fun h => b107_2 O R q y0 y1 y2 h, .s fun y0 => .s fun y1 => .s fun y2 => .s fun y3 => .z fun h => b107_3 O R q y0 y1 y2 y3 h, .s fun y0 => .s fun y1 => .s fun y2 => .s fun y3 => .z fun h => b107_4 O R q y0 y1 y2 y3 h, .s fun y0 => .s fun y1 => .s fun y2 => .s fun y3 => .s fun y4 => .z fun h => b107_5 O R q y0 y1 y2 y3 y4 h, .s fun y0 => .s fun y1 => .s fun y2 => .s fun y3 => .z fun h => b107_6 O R q y0 y1 y2 y3 h, .s fun y0 => .s fun y1 => .s fun y2 => .s fun y3 => .z fun h => b107_7 O R q y0 y1 y2 y3 h]
theorem o107 (O : Oracle) (R : Jump) (q : Nat) : HoldsAll c107 O R q 0 (d107 O R q) := ⟨fun y0 h => e107_0 O R q y0 h, fun y0 y1 y2 y3 y4 h => e107_1 O R q y0 y1 y2 y3 y4 h, fun y0 y1 y2 h => e107_2 O R q y0 y1 y2 h, fun y0 y1 y2 y3 h => e107_3 O R q y0 y1 y2 y3 h, fun y0 y1 y2 y3 h => e107_4 O R q y0 y1 y2 y3 h, fun y0 y1 y2 y3 y4 h => e107_5 O R q y0 y1 y2 y3 y4 h, fun y0 y1 y2 y3 h => e107_6 O R q y0 y1 y2 y3 h, fun y0 y1 y2 y3 h => e107_7 O R q y0 y1 y2 y3 h, trivial⟩
/- internal/stringslite.IndexByte -/
def c108 : MFunc := { np := 2, res := [.t 4], frz := true, body := (.seq (.reg [⟨(some 4), (.mv (.k (.v (.c (.p (.int .i64 0)))))), none⟩] []) (.seq (.reg [⟨(some 5), (.mv (.t 0)), none⟩, ⟨(some 6), (.mv (.t 1)), none⟩, ⟨(some 7), (.call (.k (.v (.c (.func 132 [])))) [(.t 5), (.t 6)]), none⟩, ⟨(some 4), (.mv (.t 7)), none⟩] []) .ret)) }
theorem t108 : compF Tryd.prog (globs2 tabs opq) false true Tryd.f108 = some c108.erase := by kernel_rfl
noncomputable def b108_0 (O : Oracle) (R : Jump) (q : Nat) (x0 x1 : TVal) (h : Heap) : Res1 :=
  vcall O (.v (.c (.func 132 []))) [x0, x1] h 7 fun x7 h =>
  tcomp x7 fun c0 => vfin true q [c0] h
theorem e108_0 (O : Oracle) (R : Jump) (q : Nat) (x0 x1 : TVal) (h : Heap) : b108_0 O R q x0 x1 h = stepF c108 O R q 0 [x0, x1] h := by kernel_rfl
noncomputable def d108 : BlkF := fun O R q => [.s fun y0 => .s fun y1 => .z fun h => b108_0 O R q y0 y1 h]
theorem o108 (O : Oracle) (R : Jump) (q : Nat) : HoldsAll c108 O R q 0 (d108 O R q) := ⟨fun y0 y1 h => e108_0 O R q y0 y1 h, trivial⟩
/- internal/bytealg.Cutover -/
def c110 : MFunc := { np := 1, res := [.t 2], frz := true, body := (.seq (.reg [⟨(some 2), (.mv (.k (.v (.c (.p (.int .i64 0)))))), none⟩] []) (.seq (.reg [⟨(some 3), (.mv (.t 0)), none⟩, ⟨(some 4), (.bin .add 0 (.t 3) (.k (.v (.c (.p (.int .i64 16)))))), none⟩, ⟨(some 5), (.bin .quo 0 (.t 4) (.k (.v (.c (.p (.int .i64 8)))))), none⟩, ⟨(some 2), (.mv (.t 5)), none⟩] []) .ret)) }
theorem t110 : compF Tryd.prog (globs2 tabs opq) false true Tryd.f110 = some c110.erase := by kernel_rfl
noncomputable def b110_0 (O : Oracle) (R : Jump) (q : Nat) (x0 : TVal) (h : Heap) : Res1 :=
  vbin .add 0 x0 (kI 16) h fun x4 h =>
  vbin .quo 0 x4 (kI 8) h fun x5 h =>
  tcomp x5 fun c0 => vfin true q [c0] h
theorem e110_0 (O : Oracle) (R : Jump) (q : Nat) (x0 : TVal) (h : Heap) : b110_0 O R q x0 h = stepF c110 O R q 0 [x0] h := by kernel_rfl
noncomputable def d110 : BlkF := fun O R q => [.s fun y0 => .z fun h => b110_0 O R q y0 h]
theorem o110 (O : Oracle) (R : Jump) (q : Nat) : HoldsAll c110 O R q 0 (d110 O R q) := ⟨fun y0 h => e110_0 O R q y0 h, trivial⟩
/- internal/bytealg.IndexRabinKarp[string] -/
def c111 : MFunc := { np := 2, res := [.t 4], frz := true, body := (.seq (.reg [⟨(some 4), (.mv (.k (.v (.c (.p (.int .i64 0)))))), none⟩] []) (.seq (.reg [⟨(some 12), (.mv (.t 1)), none⟩, ⟨(some 13), (.call (.k (.v (.c (.func 133 [])))) [(.t 12)]), none⟩, ⟨(some 11), (.mv (.t 13)), none⟩, ⟨(some 14), (.extract (.t 11) 0), none⟩, ⟨(some 15), (.extract (.t 11) 1), none⟩, ⟨(some 5), (.mv (.t 14)), none⟩, ⟨(some 6), (.mv (.t 15)), none⟩] []) (.seq (.reg [⟨(some 16), (.mv (.t 1)), none⟩, ⟨(some 17), (.len 0 (.t 16)), none⟩, ⟨(some 7), (.mv (.t 17)), none⟩] []) (.seq (.reg [⟨(some 8), (.mv (.k (.v (.c (.p (.int .u32 0)))))), none⟩] []) (.seq (.seq (.reg [⟨(some 9), (.mv (.k (.v (.c (.p (.int .i64 0)))))), none⟩] []) (.block 0 (.loop 1 [0, 1, 5, 6, 7, 8, 9] (.seq (.seq (.reg [⟨(some 18), (.mv (.t 9)), none⟩, ⟨(some 19), (.mv (.t 7)), none⟩, ⟨(some 20), (.bin .lss 0 (.t 18) (.t 19)), none⟩] []) (.cond (.t 20) .skip (.exit 0))) (.seq (.block 1 (.reg [⟨(some 23), (.mv (.t 8)), none⟩, ⟨(some 24), (.bin .mul 0 (.t 23) (.k (.v (.c (.p (.int .u32 16777619)))))), none⟩, ⟨(some 25), (.mv (.t 0)), none⟩, ⟨(some 26), (.mv (.t 9)), none⟩, ⟨(some 27), (.index (.t 25) (.t 26)), none⟩, ⟨(some 28), (.toInt .u32 (.t 27)), none⟩, ⟨(some 29), (.bin .add 0 (.t 24) (.t 28)), none⟩, ⟨(some 8), (.mv (.t 29)), none⟩] [])) (.reg [⟨(some 21), (.mv (.t 9)), none⟩, ⟨(some 22), (.bin .add 0 (.t 21) (.k (.v (.c (.p (.int .i64 1)))))), none⟩, ⟨(some 9), (.mv (.t 22)), none⟩] [])))))) (.mark 2 [0, 1, 5, 6, 7, 8] (.seq (.seq (.reg [⟨(some 30), (.mv (.t 8)), none⟩, ⟨(some 31), (.mv (.t 5)), none⟩, ⟨(some 32), (.bin .eql 0 (.t 30) (.t 31)), none⟩, ⟨(some 33), (.mv (.t 32)), none⟩, ⟨(some 34), (.mv (.t 0)), (some (33, true))⟩, ⟨(some 35), (.mv (.t 7)), (some (33, true))⟩, ⟨(some 36), (.slice 0 true (.t 34) none (some (.t 35)) none), (some (33, true))⟩, ⟨(some 37), (.mv (.t 1)), (some (33, true))⟩, ⟨(some 38), (.bin .eql 0 (.t 36) (.t 37)), (some (33, true))⟩, ⟨(some 39), (.pick (.t 33) (.t 38) (.k (.v (.c (.p (.bool false)))))), none⟩] []) (.cond (.t 39) (.seq (.reg [⟨(some 4), (.mv (.k (.v (.c (.p (.int .i64 0)))))), none⟩] []) .ret) .skip)) (.seq (.seq (.reg [⟨(some 40), (.mv (.t 7)), none⟩, ⟨(some 10), (.mv (.t 40)), none⟩] []) (.block 2 (.loop 3 [0, 1, 5, 6, 7, 8, 10] (.seq (.seq (.reg [⟨(some 41), (.mv (.t 10)), none⟩, ⟨(some 42), (.mv (.t 0)), none⟩, ⟨(some 43), (.len 0 (.t 42)), none⟩, ⟨(some 44), (.bin .lss 0 (.t 41) (.t 43)), none⟩] []) (.cond (.t 44) .skip (.exit 2))) (.block 3 (.seq (.reg [⟨(some 45), (.mv (.t 8)), none⟩, ⟨(some 46), (.bin .mul 0 (.t 45) (.k (.v (.c (.p (.int .u32 16777619)))))), none⟩, ⟨(some 8), (.mv (.t 46)), none⟩] []) (.seq (.reg [⟨(some 47), (.mv (.t 8)), none⟩, ⟨(some 48), (.mv (.t 0)), none⟩, ⟨(some 49), (.mv (.t 10)), none⟩, ⟨(some 50), (.index (.t 48) (.t 49)), none⟩, ⟨(some 51), (.toInt .u32 (.t 50)), none⟩, ⟨(some 52), (.bin .add 0 (.t 47) (.t 51)), none⟩, ⟨(some 8), (.mv (.t 52)), none⟩] []) (.seq (.reg [⟨(some 53), (.mv (.t 8)), none⟩, ⟨(some 54), (.mv (.t 6)), none⟩, ⟨(some 55), (.mv (.t 0)), none⟩, ⟨(some 56), (.mv (.t 10)), none⟩, ⟨(some 57), (.mv (.t 7)), none⟩, ⟨(some 58), (.bin .sub 0 (.t 56) (.t 57)), none⟩, ⟨(some 59), (.index (.t 55) (.t 58)), none⟩, ⟨(some 60), (.toInt .u32 (.t 59)), none⟩, ⟨(some 61), (.bin .mul 0 (.t 54) (.t 60)), none⟩, ⟨(some 62), (.bin .sub 0 (.t 53) (.t 61)), none⟩, ⟨(some 8), (.mv (.t 62)), none⟩] []) (.seq (.reg [⟨(some 63), (.mv (.t 10)), none⟩, ⟨(some 64), (.bin .add 0 (.t 63) (.k (.v (.c (.p (.int .i64 1)))))), none⟩, ⟨(some 10), (.mv (.t 64)), none⟩] []) (.seq (.reg [⟨(some 65), (.mv (.t 8)), none⟩, ⟨(some 66), (.mv (.t 5)), none⟩, ⟨(some 67), (.bin .eql 0 (.t 65) (.t 66)), none⟩, ⟨(some 68), (.mv (.t 67)), none⟩, ⟨(some 69), (.mv (.t 0)), (some (68, true))⟩, ⟨(some 70), (.mv (.t 10)), (some (68, true))⟩, ⟨(some 71), (.mv (.t 7)), (some (68, true))⟩, ⟨(some 72), (.bin .sub 0 (.t 70) (.t 71)), (some (68, true))⟩, ⟨(some 73), (.mv (.t 10)), (some (68, true))⟩, ⟨(some 74), (.slice 0 true (.t 69) (some (.t 72)) (some (.t 73)) none), (some (68, true))⟩, ⟨(some 75), (.mv (.t 1)), (some (68, true))⟩, ⟨(some 76), (.bin .eql 0 (.t 74) (.t 75)), (some (68, true))⟩, ⟨(some 77), (.pick (.t 68) (.t 76) (.k (.v (.c (.p (.bool false)))))), none⟩] []) (.cond (.t 77) (.seq (.reg [⟨(some 78), (.mv (.t 10)), none⟩, ⟨(some 79), (.mv (.t 7)), none⟩, ⟨(some 80), (.bin .sub 0 (.t 78) (.t 79)), none⟩, ⟨(some 4), (.mv (.t 80)), none⟩] []) .ret) .skip))))))))))) (.seq (.reg [⟨(some 4), (.mv (.k (.v (.c (.p (.int .i64 (-1))))))), none⟩] []) .ret))))))))) }
theorem t111 : compF Tryd.prog (globs2 tabs opq) false true Tryd.f111 = some c111.erase := by kernel_rfl
noncomputable def b111_0 (O : Oracle) (R : Jump) (q : Nat) (x0 x1 : TVal) (h : Heap) : Res1 :=
  vcall O (.v (.c (.func 133 []))) [x1] h 13 fun x13 h =>
  vext x13 0 h fun x14 h =>
  vext x13 1 h fun x15 h =>
  vlen O 0 x1 h 17 fun x17 h =>
  R 1 [x0, x1, x14, x15, x17, (.v (.c (.p (.int .u32 0)))), (kI 0)] h
theorem e111_0 (O : Oracle) (R : Jump) (q : Nat) (x0 x1 : TVal) (h : Heap) : b111_0 O R q x0 x1 h = stepF c111 O R q 0 [x0, x1] h := by kernel_rfl
noncomputable def b111_1 (O : Oracle) (R : Jump) (q : Nat) (x0 x1 x5 x6 x7 x8 x9 : TVal) (h : Heap) : Res1 :=
  vbin .lss 0 x9 x7 h fun x20 h =>
  vif x20 (
  vbin .mul 0 x8 (.v (.c (.p (.int .u32 16777619)))) h fun x24 h =>
  vindex x0 x9 h fun x27 h =>
  vtoInt .u32 x27 h fun x28 h =>
  vbin .add 0 x24 x28 h fun x29 h =>
  vbin .add 0 x9 (kI 1) h fun x22 h =>
  R 1 [x0, x1, x5, x6, x7, x29, x22] h)
  (R 2 [x0, x1, x5, x6, x7, x8] h)
theorem e111_1 (O : Oracle) (R : Jump) (q : Nat) (x0 x1 x5 x6 x7 x8 x9 : TVal) (h : Heap) : b111_1 O R q x0 x1 x5 x6 x7 x8 x9 h = stepF c111 O R q 1 [x0, x1, x5, x6, x7, x8, x9] h := by kernel_rfl
noncomputable def b111_2 (O : Oracle) (R : Jump) (q : Nat) (x0 x1 x5 x6 x7 x8 : TVal) (h : Heap) : Res1 :=
  vbin .eql 0 x8 x5 h fun x32 h =>
  vguard x32 true (fun kk => kk x0 h) h fun x34 h =>
  vguard x32 true (fun kk => kk x7 h) h fun x35 h =>
  vguard x32 true (fun kk => vop O (.slice 0 true (.k x34) none (some (.k x35)) none) h 36 kk) h fun x36 h =>
  vguard x32 true (fun kk => kk x1 h) h fun x37 h =>
  vguard x32 true (fun kk => vbin .eql 0 x36 x37 h kk) h fun x38 h =>
  vop O (.pick (.k x32) (.k x38) (.k (kB false))) h 39 fun x39 h =>
  vif x39 (
  tcomp (kI 0) fun c0 => vfin true q [c0] h)
  (R 3 [x0, x1, x5, x6, x7, x8, x7] h)
theorem e111_2 (O : Oracle) (R : Jump) (q : Nat) (x0 x1 x5 x6 x7 x8 : TVal) (h : Heap) : b111_2 O R q x0 x1 x5 x6 x7 x8 h = stepF c111 O R q 2 [x0, x1, x5, x6, x7, x8] h := by kernel_rfl
noncomputable def b111_3 (O : Oracle) (R : Jump) (q : Nat) (x0 x1 x5 x6 x7 x8 x10 : TVal) (h : Heap) : Res1 :=
  vlen O 0 x0 h 43 fun x43 h =>
  vbin .lss 0 x10 x43 h fun x44 h =>
  vif x44 (
  vbin .mul 0 x8 (.v (.c (.p (.int .u32 16777619)))) h fun x46 h =>
  vindex x0 x10 h fun x50 h =>
  vtoInt .u32 x50 h fun x51 h =>
  vbin .add 0 x46 x51 h fun x52 h =>
  vbin .sub 0 x10 x7 h fun x58 h =>
  vindex x0 x58 h fun x59 h =>
  vtoInt .u32 x59 h fun x60 h =>
  vbin .mul 0 x6 x60 h fun x61 h =>
  vbin .sub 0 x52 x61 h fun x62 h =>
  vbin .add 0 x10 (kI 1) h fun x64 h =>
  vbin .eql 0 x62 x5 h fun x67 h =>
  vguard x67 true (fun kk => kk x0 h) h fun x69 h =>
  vguard x67 true (fun kk => kk x64 h) h fun x70 h =>
  vguard x67 true (fun kk => kk x7 h) h fun x71 h =>
  vguard x67 true (fun kk => vbin .sub 0 x70 x71 h kk) h fun x72 h =>
  vguard x67 true (fun kk => kk x64 h) h fun x73 h =>
  vguard x67 true (fun kk => vop O (.slice 0 true (.k x69) (some (.k x72)) (some (.k x73)) none) h 74 kk) h fun x74 h =>
  vguard x67 true (fun kk => kk x1 h) h fun x75 h =>
  vguard x67 true (fun kk => vbin .eql 0 x74 x75 h kk) h fun x76 h =>
  vop O (.pick (.k x67) (.k x76) (.k (kB false))) h 77 fun x77 h =>
  vif x77 (
  vbin .sub 0 x64 x7 h fun x80 h =>
  tcomp x80 fun c0 => vfin true q [c0] h)
  (R 3 [x0, x1, x5, x6, x7, x62, x64] h))
  (tcomp (kI (-1)) fun c0 => vfin true q [c0] h)
theorem e111_3 (O : Oracle) (R : Jump) (q : Nat) (x0 x1 x5 x6 x7 x8 x10 : TVal) (h : Heap) : b111_3 O R q x0 x1 x5 x6 x7 x8 x10 h = stepF c111 O R q 3 [x0, x1, x5, x6, x7, x8, x10] h := by kernel_rfl
noncomputable def d111 : BlkF := fun O R q => [.s fun y0 => .s fun y1 => .z fun h => b111_0 O R q y0 y1 h, .s fun y0 => .s fun y1 => .s fun y2 => .s fun y3 => .s fun y4 => .s fun y5 => .s fun y6 => .z fun h => b111_1 O R q y0 y1 y2 y3 y4 y5 y6 h, .s fun y0 => .s fun y1 => .s fun y2 => .s fun y3 => .s fun y4 => .s fun y5 => .z fun h => b111_2 O R q y0 y1 y2 y3 y4 y5 h, .s fun y0 => .s fun y1 => .s fun y2 => .s fun y3 => .s fun y4 => .s fun y5 => .s fun y6 => .z fun h => b111_3 O R q y0 y1 y2 y3 y4 y5 y6 h]
theorem o111 (O : Oracle) (R : Jump) (q : Nat) : HoldsAll c111 O R q 0 (d111 O R q) := ⟨fun y0 y1 h => e111_0 O R q y0 y1 h, fun y0 y1 y2 y3 y4 y5 y6 h => e111_1 O R q y0 y1 y2 y3 y4 y5 y6 h, fun y0 y1 y2 y3 y4 y5 h => e111_2 O R q y0 y1 y2 y3 y4 y5 h, fun y0 y1 y2 y3 y4 y5 y6 h => e111_3 O R q y0 y1 y2 y3 y4 y5 y6 h, trivial⟩
/- internal/stringslite.HasPrefix -/
def c112 : MFunc := { np := 2, res := [.t 4], frz := true, body := (.seq (.reg [⟨(some 4), (.mv (.k (.v (.c (.p (.bool false)))))), none⟩] []) (.seq (.reg [⟨(some 5), (.mv (.t 0)), none⟩, ⟨(some 6), (.len 0 (.t 5)), none⟩, ⟨(some 7), (.mv (.t 1)), none⟩, ⟨(some 8), (.len 0 (.t 7)), none⟩, ⟨(some 9), (.bin .geq 0 (.t 6) (.t 8)), none⟩, ⟨(some 10), (.mv (.t 9)), none⟩, ⟨(some 11), (.mv (.t 0)), (some (10, true))⟩, ⟨(some 12), (.mv (.t 1)), (some (10, true))⟩, ⟨(some 13), (.len 0 (.t 12)), (some (10, true))⟩, ⟨(some 14), (.slice 0 true (.t 11) none (some (.t 13)) none), (some (10, true))⟩, ⟨(some 15), (.mv (.t 1)), (some (10, true))⟩, ⟨(some 16), (.bin .eql 0 (.t 14) (.t 15)), (some (10, true))⟩, ⟨(some 17), (.pick (.t 10) (.t 16) (.k (.v (.c (.p (.bool false)))))), none⟩, ⟨(some 4), (.mv (.t 17)), none⟩] []) .ret)) }
theorem t112 : compF Tryd.prog (globs2 tabs opq) false true Tryd.f112 = some c112.erase := by kernel_rfl
noncomputable def b112_0 (O : Oracle) (R : Jump) (q : Nat) (x0 x1 : TVal) (h : Heap) : Res1 :=
  vlen O 0 x0 h 6 fun x6 h =>
  vlen O 0 x1 h 8 fun x8 h =>
  vbin .geq 0 x6 x8 h fun x9 h =>
  vguard x9 true (fun kk => kk x0 h) h fun x11 h =>
  vguard x9 true (fun kk => kk x1 h) h fun x12 h =>
  vguard x9 true (fun kk => vlen O 0 x12 h 13 kk) h fun x13 h =>
  vguard x9 true (fun kk => vop O (.slice 0 true (.k x11) none (some (.k x13)) none) h 14 kk) h fun x14 h =>
  vguard x9 true (fun kk => kk x1 h) h fun x15 h =>
  vguard x9 true (fun kk => vbin .eql 0 x14 x15 h kk) h fun x16 h =>
  vop O (.pick (.k x9) (.k x16) (.k (kB false))) h 17 fun x17 h =>
  tcomp x17 fun c0 => vfin true q [c0] h
theorem e112_0 (O : Oracle) (R : Jump) (q : Nat) (x0 x1 : TVal) (h : Heap) : b112_0 O R q x0 x1 h = stepF c112 O R q 0 [x0, x1] h := by kernel_rfl
noncomputable def d112 : BlkF := fun O R q => [.s fun y0 => .s fun y1 => .z fun h => b112_0 O R q y0 y1 h]
theorem o112 (O : Oracle) (R : Jump) (q : Nat) : HoldsAll c112 O R q 0 (d112 O R q) := ⟨fun y0 y1 h => e112_0 O R q y0 y1 h, trivial⟩
/- (*sprue/tree.reader).name -/
def c113 : MFunc := { np := 1, res := [.t 2], frz := true, body := (.seq (.reg [⟨(some 2), (.mv (.k (.v (.c (.p (.str [])))))), none⟩] []) (.seq (.reg [⟨(some 4), (.mv (.t 0)), none⟩, ⟨(some 5), (.call (.k (.v (.c (.func 80 [])))) [(.t 4), (.k (.v (.c (.p (.int .i64 0)))))]), none⟩, ⟨(some 3), (.alloc [(.p (.int .i64 0)), (.p (.str [])), (.p (.int .i64 0)), (.p (.int .i64 0))] false), none⟩, ⟨none, (.store 4 (.t 3) (.t 5)), none⟩] []) (.seq (.reg [⟨(some 6), (.mv (.t 0)), none⟩, ⟨(some 7), (.faddr 0 (.t 3)), none⟩, ⟨(some 8), (.load false 1 (.t 7)), none⟩, ⟨(some 9), (.bin .eql 0 (.t 8) (.k (.v (.c (.p (.int .i64 1)))))), none⟩, ⟨(some 10), (.call (.k (.v (.c (.func 60 [])))) [(.t 6), (.t 9)]), none⟩] []) (.seq (.reg [⟨(some 11), (.mv (.t 0)), none⟩, ⟨(some 12), (.nilck (.t 11)), none⟩, ⟨(some 13), (.faddr 1 (.t 12)), none⟩, ⟨(some 14), (.load false 1 (.t 13)), none⟩, ⟨(some 15), (.bin .add 0 (.t 14) (.k (.v (.c (.p (.int .i64 1)))))), none⟩, ⟨(some 16), (.nilck (.t 11)), none⟩, ⟨(some 17), (.faddr 1 (.t 16)), none⟩, ⟨none, (.store 1 (.t 17) (.t 15)), none⟩] []) (.seq (.reg [⟨(some 18), (.faddr 1 (.t 3)), none⟩, ⟨(some 19), (.load false 1 (.t 18)), none⟩, ⟨(some 2), (.mv (.t 19)), none⟩] []) .ret))))) }
theorem t113 : compF Tryd.prog (globs2 tabs opq) false true Tryd.f113 = some c113.erase := by kernel_rfl
noncomputable def b113_0 (O : Oracle) (R : Jump) (q : Nat) (x0 : TVal) (h : Heap) : Res1 :=
  vcall O (.v (.c (.func 80 []))) [x0, (kI 0)] h 5 fun x5 h =>
  vop O (.alloc [(.p (.int .i64 0)), (.p (.str [])), (.p (.int .i64 0)), (.p (.int .i64 0))] false) h 3 fun x3 h =>
  vstore 4 x3 x5 h fun _ h =>
  vfaddr 0 x3 h fun x7 h =>
  vload false 1 x7 h fun x8 h =>
  vbin .eql 0 x8 (kI 1) h fun x9 h =>
  vcall O (.v (.c (.func 60 []))) [x0, x9] h 10 fun x10 h =>
  vop O (.nilck (.k x0)) h 12 fun x12 h =>
  vfaddr 1 x12 h fun x13 h =>
  vload false 1 x13 h fun x14 h =>
  vbin .add 0 x14 (kI 1) h fun x15 h =>
  vop O (.nilck (.k x0)) h 16 fun x16 h =>
  vfaddr 1 x16 h fun x17 h =>
  vstore 1 x17 x15 h fun _ h =>
  vfaddr 1 x3 h fun x18 h =>
  vload false 1 x18 h fun x19 h =>
  tcomp x19 fun c0 => vfin true q [c0] h
theorem e113_0 (O : Oracle) (R : Jump) (q : Nat) (x0 : TVal) (h : Heap) : b113_0 O R q x0 h = stepF c113 O R q 0 [x0] h := by kernel_rfl
noncomputable def d113 : BlkF := fun O R q => [.s fun y0 => .z fun h => b113_0 O R q y0 h]
theorem o113 (O : Oracle) (R : Jump) (q : Nat) : HoldsAll c113 O R q 0 (d113 O R q) := ⟨fun y0 h => e113_0 O R q y0 h, trivial⟩
/- (*sprue/tree.reader).text -/
def c114 : MFunc := { np := 1, res := [.t 2], frz := true, body := (.seq (.reg [⟨(some 2), (.mv (.k (.v (.c (.p (.str [])))))), none⟩] []) (.seq (.reg [⟨(some 4), (.mv (.t 0)), none⟩, ⟨(some 5), (.call (.k (.v (.c (.func 80 [])))) [(.t 4), (.k (.v (.c (.p (.int .i64 0)))))]), none⟩, ⟨(some 3), (.alloc [(.p (.int .i64 0)), (.p (.str [])), (.p (.int .i64 0)), (.p (.int .i64 0))] false), none⟩, ⟨none, (.store 4 (.t 3) (.t 5)), none⟩] []) (.seq (.reg [⟨(some 6), (.mv (.t 0)), none⟩, ⟨(some 7), (.faddr 0 (.t 3)), none⟩, ⟨(some 8), (.load false 1 (.t 7)), none⟩, ⟨(some 9), (.bin .eql 0 (.t 8) (.k (.v (.c (.p (.int .i64 2)))))), none⟩, ⟨(some 10), (.call (.k (.v (.c (.func 60 [])))) [(.t 6), (.t 9)]), none⟩] []) (.seq (.reg [⟨(some 11), (.mv (.t 0)), none⟩, ⟨(some 12), (.nilck (.t 11)), none⟩, ⟨(some 13), (.faddr 1 (.t 12)), none⟩, ⟨(some 14), (.load false 1 (.t 13)), none⟩, ⟨(some 15), (.bin .add 0 (.t 14) (.k (.v (.c (.p (.int .i64 1)))))), none⟩, ⟨(some 16), (.nilck (.t 11)), none⟩, ⟨(some 17), (.faddr 1 (.t 16)), none⟩, ⟨none, (.store 1 (.t 17) (.t 15)), none⟩] []) (.seq (.reg [⟨(some 18), (.faddr 1 (.t 3)), none⟩, ⟨(some 19), (.load false 1 (.t 18)), none⟩, ⟨(some 2), (.mv (.t 19)), none⟩] []) .ret))))) }
theorem t114 : compF Tryd.prog (globs2 tabs opq) false true Tryd.f114 = some c114.erase := by kernel_rfl
noncomputable def b114_0 (O : Oracle) (R : Jump) (q : Nat) (x0 : TVal) (h : Heap) : Res1 :=
  vcall O (.v (.c (.func 80 []))) [x0, (kI 0)] h 5 fun x5 h =>
  vop O (.alloc [(.p (.int .i64 0)), (.p (.str [])), (.p (.int .i64 0)), (.p (.int .i64 0))] false) h 3 fun x3 h =>
  vstore 4 x3 x5 h fun _ h =>
  vfaddr 0 x3 h fun x7 h =>
  vload false 1 x7 h fun x8 h =>
  vbin .eql 0 x8 (kI 2) h fun x9 h =>
  vcall O (.v (.c (.func 60 []))) [x0, x9] h 10 fun x10 h =>
  vop O (.nilck (.k x0)) h 12 fun x12 h =>
  vfaddr 1 x12 h fun x13 h =>
  vload false 1 x13 h fun x14 h =>
  vbin .add 0 x14 (kI 1) h fun x15 h =>
  vop O (.nilck (.k x0)) h 16 fun x16 h =>
  vfaddr 1 x16 h fun x17 h =>
  vstore 1 x17 x15 h fun _ h =>
  vfaddr 1 x3 h fun x18 h =>
  vload false 1 x18 h fun x19 h =>
  tcomp x19 fun c0 => vfin true q [c0] h
theorem e114_0 (O : Oracle) (R : Jump) (q : Nat) (x0 : TVal) (h : Heap) : b114_0 O R q x0 h = stepF c114 O R q 0 [x0] h := by kernel_rfl
noncomputable def d114 : BlkF := fun O R q => [.s fun y0 => .z fun h => b114_0 O R q y0 h]
theorem o114 (O : Oracle) (R : Jump) (q : Nat) : HoldsAll c114 O R q 0 (d114 O R q) := ⟨fun y0 h => e114_0 O R q y0 h, trivial⟩
/- slices.Index[[]string,string] -/
def c115 : MFunc := { np := 2, res := [.t 4], frz := true, body := (.seq (.reg [⟨(some 4), (.mv (.k (.v (.c (.p (.int .i64 0)))))), none⟩] []) (.seq (.seq (.reg [⟨(some 6), (.mv (.t 0)), none⟩, ⟨(some 7), (.len 2 (.t 6)), none⟩, ⟨(some 8), (.mv (.k (.v (.c (.p (.int .i64 0)))))), none⟩] []) (.block 0 (.loop 1 [0, 1, 7, 8] (.seq (.reg [⟨(some 9), (.bin .lss 0 (.t 8) (.t 7)), none⟩] []) (.seq (.cond (.t 9) .skip (.exit 0)) (.seq (.block 1 (.seq (.reg [⟨(some 10), (.mv (.t 8)), none⟩, ⟨(some 5), (.mv (.t 10)), none⟩] []) (.seq (.reg [⟨(some 11), (.mv (.t 1)), none⟩, ⟨(some 12), (.mv (.t 0)), none⟩, ⟨(some 13), (.mv (.t 5)), none⟩, ⟨(some 14), (.iaddr 1 (.t 12) (.t 13)), none⟩, ⟨(some 15), (.load false 1 (.t 14)), none⟩, ⟨(some 16), (.bin .eql 0 (.t 11) (.t 15)), none⟩] []) (.cond (.t 16) (.seq (.reg [⟨(some 17), (.mv (.t 5)), none⟩, ⟨(some 4), (.mv (.t 17)), none⟩] []) .ret) .skip)))) (.reg [⟨(some 18), (.bin .add 0 (.t 8) (.k (.v (.c (.p (.int .i64 1)))))), none⟩, ⟨(some 8), (.mv (.t 18)), none⟩] []))))))) (.seq (.reg [⟨(some 4), (.mv (.k (.v (.c (.p (.int .i64 (-1))))))), none⟩] []) .ret))) }
theorem t115 : compF Tryd.prog (globs2 tabs opq) false true Tryd.f115 = some c115.erase := by kernel_rfl
noncomputable def b115_0 (O : Oracle) (R : Jump) (q : Nat) (x0 x1 : TVal) (h : Heap) : Res1 :=
  vlen O 2 x0 h 7 fun x7 h =>
  R 1 [x0, x1, x7, (kI 0)] h
theorem e115_0 (O : Oracle) (R : Jump) (q : Nat) (x0 x1 : TVal) (h : Heap) : b115_0 O R q x0 x1 h = stepF c115 O R q 0 [x0, x1] h := by kernel_rfl
noncomputable def b115_1 (O : Oracle) (R : Jump) (q : Nat) (x0 x1 x7 x8 : TVal) (h : Heap) : Res1 :=
  vbin .lss 0 x8 x7 h fun x9 h =>
  vif x9 (
  viaddr 1 x0 x8 h fun x14 h =>
  vload false 1 x14 h fun x15 h =>
  vbin .eql 0 x1 x15 h fun x16 h =>
  vif x16 (
  tcomp x8 fun c0 => vfin true q [c0] h)
  (vbin .add 0 x8 (kI 1) h fun x18 h =>
  R 1 [x0, x1, x7, x18] h))
  (tcomp (kI (-1)) fun c0 => vfin true q [c0] h)
theorem e115_1 (O : Oracle) (R : Jump) (q : Nat) (x0 x1 x7 x8 : TVal) (h : Heap) : b115_1 O R q x0 x1 x7 x8 h = stepF c115 O R q 1 [x0, x1, x7, x8] h := by kernel_rfl
noncomputable def d115 : BlkF := fun O R q => [.s fun y0 => .s fun y1 => .z fun h => b115_0 O R q y0 y1 h, .s fun y0 => .s fun y1 => .s fun y2 => .s fun y3 => .z fun h => b115_1 O R q y0 y1 y2 y3 h]
theorem o115 (O : Oracle) (R : Jump) (q : Nat) : HoldsAll c115 O R q 0 (d115 O R q) := ⟨fun y0 y1 h => e115_0 O R q y0 y1 h, fun y0 y1 y2 y3 h => e115_1 O R q y0 y1 y2 y3 h, trivial⟩
/- sprue/scan.row$1 -/
def c116 : MFunc := { np := 1, res := [.t 2], frz := true, body := (.seq (.reg [⟨(some 2), (.mv (.k (.v (.c (.p (.bool false)))))), none⟩] []) (.seq (.reg [⟨(some 3), (.mv (.t 0)), none⟩, ⟨(some 4), (.call (.k (.v (.c (.func 72 [])))) [(.t 3)]), none⟩, ⟨(some 5), (.mv (.t 4)), none⟩, ⟨(some 6), (.mv (.t 0)), (some (5, false))⟩, ⟨(some 7), (.call (.k (.v (.c (.func 74 [])))) [(.t 6)]), (some (5, false))⟩, ⟨(some 8), (.pick (.t 5) (.k (.v (.c (.p (.bool true))))) (.t 7)), none⟩, ⟨(some 2), (.mv (.t 8)), none⟩] []) .ret)) }
theorem t116 : compF Tryd.prog (globs2 tabs opq) false true Tryd.f116 = some c116.erase := by kernel_rfl
noncomputable def b116_0 (O : Oracle) (R : Jump) (q : Nat) (x0 : TVal) (h : Heap) : Res1 :=
  vcall O (.v (.c (.func 72 []))) [x0] h 4 fun x4 h =>
  vguard x4 false (fun kk => kk x0 h) h fun x6 h =>
  vguard x4 false (fun kk => vcall O (.v (.c (.func 74 []))) [x6] h 7 kk) h fun x7 h =>
  vop O (.pick (.k x4) (.k (kB true)) (.k x7)) h 8 fun x8 h =>
  tcomp x8 fun c0 => vfin true q [c0] h
theorem e116_0 (O : Oracle) (R : Jump) (q : Nat) (x0 : TVal) (h : Heap) : b116_0 O R q x0 h = stepF c116 O R q 0 [x0] h := by kernel_rfl
noncomputable def d116 : BlkF := fun O R q => [.s fun y0 => .z fun h => b116_0 O R q y0 h]
theorem o116 (O : Oracle) (R : Jump) (q : Nat) : HoldsAll c116 O R q 0 (d116 O R q) := ⟨fun y0 h => e116_0 O R q y0 h, trivial⟩
/- (*strings.asciiSet).contains -/
def c117 : MFunc := { np := 2, res := [.t 4], frz := true, body := (.seq (.reg [⟨(some 4), (.mv (.k (.v (.c (.p (.bool false)))))), none⟩] []) (.seq (.reg [⟨(some 5), (.mv (.t 0)), none⟩, ⟨(some 6), (.mv (.t 1)), none⟩, ⟨(some 7), (.nilck (.t 5)), none⟩, ⟨(some 8), (.iaddrA 256 1 (.t 7) (.t 6)), none⟩, ⟨(some 9), (.load false 1 (.t 8)), none⟩, ⟨(some 4), (.mv (.t 9)), none⟩] []) .ret)) }
theorem t117 : compF Tryd.prog (globs2 tabs opq) false true Tryd.f117 = some c117.erase := by kernel_rfl
noncomputable def b117_0 (O : Oracle) (R : Jump) (q : Nat) (x0 x1 : TVal) (h : Heap) : Res1 :=
  vop O (.nilck (.k x0)) h 7 fun x7 h =>
  vop O (.iaddrA 256 1 (.k x7) (.k x1)) h 8 fun x8 h =>
  vload false 1 x8 h fun x9 h =>
  tcomp x9 fun c0 => vfin true q [c0] h
theorem e117_0 (O : Oracle) (R : Jump) (q : Nat) (x0 x1 : TVal) (h : Heap) : b117_0 O R q x0 x1 h = stepF c117 O R q 0 [x0, x1] h := by kernel_rfl
noncomputable def d117 : BlkF := fun O R q => [.s fun y0 => .s fun y1 => .z fun h => b117_0 O R q y0 y1 h]
theorem o117 (O : Oracle) (R : Jump) (q : Nat) : HoldsAll c117 O R q 0 (d117 O R q) := ⟨fun y0 y1 h => e117_0 O R q y0 y1 h, trivial⟩
/- unicode/utf8.DecodeRuneInString -/
def c118 : MFunc := { np := 1, res := [.t 2, .t 3], frz := true, body := (.seq (.reg [⟨(some 2), (.mv (.k (.v (.c (.p (.int .i32 0)))))), none⟩, ⟨(some 3), (.mv (.k (.v (.c (.p (.int .i64 0)))))), none⟩] []) (.seq (.seq (.reg [⟨(some 4), (.mv (.t 0)), none⟩, ⟨(some 5), (.bin .neq 0 (.t 4) (.k (.v (.c (.p (.str [])))))), none⟩, ⟨(some 6), (.mv (.t 5)), none⟩, ⟨(some 7), (.mv (.t 0)), (some (6, true))⟩, ⟨(some 8), (.index (.t 7) (.k (.v (.c (.p (.int .i64 0)))))), (some (6, true))⟩, ⟨(some 9), (.bin .lss 0 (.t 8) (.k (.v (.c (.p (.int .u8 128)))))), (some (6, true))⟩, ⟨(some 10), (.pick (.t 6) (.t 9) (.k (.v (.c (.p (.bool false)))))), none⟩] []) (.cond (.t 10) (.seq (.reg [⟨(some 11), (.mv (.t 0)), none⟩, ⟨(some 12), (.index (.t 11) (.k (.v (.c (.p (.int .i64 0)))))), none⟩, ⟨(some 13), (.toInt .i32 (.t 12)), none⟩, ⟨(some 2), (.mv (.t 13)), none⟩, ⟨(some 3), (.mv (.k (.v (.c (.p (.int .i64 1)))))), none⟩] []) .ret) (.reg [⟨(some 15), (.mv (.t 0)), none⟩, ⟨(some 16), (.call (.k (.v (.c (.func 134 [])))) [(.t 15)]), none⟩, ⟨(some 14), (.mv (.t 16)), none⟩, ⟨(some 17), (.extract (.t 14) 0), none⟩, ⟨(some 18), (.extract (.t 14) 1), none⟩, ⟨(some 2), (.mv (.t 17)), none⟩, ⟨(some 3), (.mv (.t 18)), none⟩] []))) .ret)) }
theorem t118 : compF Tryd.prog (globs2 tabs opq) false true Tryd.f118 = some c118.erase := by kernel_rfl
noncomputable def b118_0 (O : Oracle) (R : Jump) (q : Nat) (x0 : TVal) (h : Heap) : Res1 :=
  vbin .neq 0 x0 (kS []) h fun x5 h =>
  vguard x5 true (fun kk => kk x0 h) h fun x7 h =>
  vguard x5 true (fun kk => vindex x7 (kI 0) h kk) h fun x8 h =>
  vguard x5 true (fun kk => vbin .lss 0 x8 (.v (.c (.p (.int .u8 128)))) h kk) h fun x9 h =>
  vop O (.pick (.k x5) (.k x9) (.k (kB false))) h 10 fun x10 h =>
  vif x10 (
  vindex x0 (kI 0) h fun x12 h =>
  vtoInt .i32 x12 h fun x13 h =>
  tcomp x13 fun c0 => tcomp (kI 1) fun c1 => vfin true q [c0, c1] h)
  (vcall O (.v (.c (.func 134 []))) [x0] h 16 fun x16 h =>
  vext x16 0 h fun x17 h =>
  vext x16 1 h fun x18 h =>
  tcomp x17 fun c0 => tcomp x18 fun c1 => vfin true q [c0, c1] h)
theorem e118_0 (O : Oracle) (R : Jump) (q : Nat) (x0 : TVal) (h : Heap) : b118_0 O R q x0 h = stepF c118 O R q 0 [x0] h := by kernel_rfl
noncomputable def d118 : BlkF := fun O R q => [.s fun y0 => .z fun h => b118_0 O R q y0 h]
theorem o118 (O : Oracle) (R : Jump) (q : Nat) : HoldsAll c118 O R q 0 (d118 O R q) := ⟨fun y0 h => e118_0 O R q y0 h, trivial⟩
/- strings.ContainsRune -/
def c119 : MFunc := { np := 2, res := [.t 4], frz := true, body := (.seq (.reg [⟨(some 4), (.mv (.k (.v (.c (.p (.bool false)))))), none⟩] []) (.seq (.reg [⟨(some 5), (.mv (.t 0)), none⟩, ⟨(some 6), (.mv (.t 1)), none⟩, ⟨(some 7), (.call (.k (.v (.c (.func 135 [])))) [(.t 5), (.t 6)]), none⟩, ⟨(some 8), (.bin .geq 0 (.t 7) (.k (.v (.c (.p (.int .i64 0)))))), none⟩, ⟨(some 4), (.mv (.t 8)), none⟩] []) .ret)) }
theorem t119 : compF Tryd.prog (globs2 tabs opq) false true Tryd.f119 = some c119.erase := by kernel_rfl
noncomputable def b119_0 (O : Oracle) (R : Jump) (q : Nat) (x0 x1 : TVal) (h : Heap) : Res1 :=
  vcall O (.v (.c (.func 135 []))) [x0, x1] h 7 fun x7 h =>
  vbin .geq 0 x7 (kI 0) h fun x8 h =>
  tcomp x8 fun c0 => vfin true q [c0] h
theorem e119_0 (O : Oracle) (R : Jump) (q : Nat) (x0 x1 : TVal) (h : Heap) : b119_0 O R q x0 x1 h = stepF c119 O R q 0 [x0, x1] h := by kernel_rfl
noncomputable def d119 : BlkF := fun O R q => [.s fun y0 => .s fun y1 => .z fun h => b119_0 O R q y0 y1 h]
theorem o119 (O : Oracle) (R : Jump) (q : Nat) : HoldsAll c119 O R q 0 (d119 O R q) := ⟨fun y0 y1 h => e119_0 O R q y0 y1 h, trivial⟩
/- unicode/utf8.DecodeLastRuneInString -/
def c120 : MFunc := { np := 1, res := [.t 2, .t 3], frz := true, body := (.seq (.reg [⟨(some 2), (.mv (.k (.v (.c (.p (.int .i32 0)))))), none⟩, ⟨(some 3), (.mv (.k (.v (.c (.p (.int .i64 0)))))), none⟩] []) (.seq (.reg [⟨(some 7), (.mv (.t 0)), none⟩, ⟨(some 8), (.len 0 (.t 7)), none⟩, ⟨(some 4), (.mv (.t 8)), none⟩] []) (.seq (.seq (.reg [⟨(some 9), (.mv (.t 4)), none⟩, ⟨(some 10), (.bin .eql 0 (.t 9) (.k (.v (.c (.p (.int .i64 0)))))), none⟩] []) (.cond (.t 10) (.seq (.reg [⟨(some 2), (.mv (.k (.v (.c (.p (.int .i32 65533)))))), none⟩, ⟨(some 3), (.mv (.k (.v (.c (.p (.int .i64 0)))))), none⟩] []) .ret) .skip)) (.seq (.reg [⟨(some 11), (.mv (.t 4)), none⟩, ⟨(some 12), (.bin .sub 0 (.t 11) (.k (.v (.c (.p (.int .i64 1)))))), none⟩, ⟨(some 5), (.mv (.t 12)), none⟩] []) (.seq (.reg [⟨(some 13), (.mv (.t 0)), none⟩, ⟨(some 14), (.mv (.t 5)), none⟩, ⟨(some 15), (.index (.t 13) (.t 14)), none⟩, ⟨(some 16), (.toInt .i32 (.t 15)), none⟩, ⟨(some 2), (.mv (.t 16)), none⟩] []) (.seq (.seq (.reg [⟨(some 17), (.mv (.t 2)), none⟩, ⟨(some 18), (.bin .lss 0 (.t 17) (.k (.v (.c (.p (.int .i32 128)))))), none⟩] []) (.cond (.t 18) (.seq (.reg [⟨(some 19), (.mv (.t 2)), none⟩, ⟨(some 2), (.mv (.t 19)), none⟩, ⟨(some 3), (.mv (.k (.v (.c (.p (.int .i64 1)))))), none⟩] []) .ret) .skip)) (.seq (.reg [⟨(some 20), (.mv (.t 4)), none⟩, ⟨(some 21), (.bin .sub 0 (.t 20) (.k (.v (.c (.p (.int .i64 4)))))), none⟩, ⟨(some 22), (.minmax true [(.t 21), (.k (.v (.c (.p (.int .i64 0)))))]), none⟩, ⟨(some 6), (.mv (.t 22)), none⟩] []) (.seq (.seq (.reg [⟨(some 23), (.mv (.t 5)), none⟩, ⟨(some 24), (.bin .sub 0 (.t 23) (.k (.v (.c (.p (.int .i64 1)))))), none⟩, ⟨(some 5), (.mv (.t 24)), none⟩] []) (.block 0 (.loop 1 [0, 4, 5, 6] (.seq (.seq (.reg [⟨(some 25), (.mv (.t 5)), none⟩, ⟨(some 26), (.mv (.t 6)), none⟩, ⟨(some 27), (.bin .geq 0 (.t 25) (.t 26)), none⟩] []) (.cond (.t 27) .skip (.exit 0))) (.seq (.block 1 (.seq (.reg [⟨(some 30), (.mv (.t 0)), none⟩, ⟨(some 31), (.mv (.t 5)), none⟩, ⟨(some 32), (.index (.t 30) (.t 31)), none⟩, ⟨(some 33), (.call (.k (.v (.c (.func 136 [])))) [(.t 32)]), none⟩] []) (.cond (.t 33) (.exit 0) .skip))) (.reg [⟨(some 28), (.mv (.t 5)), none⟩, ⟨(some 29), (.bin .sub 0 (.t 28) (.k (.v (.c (.p (.int .i64 1)))))), none⟩, ⟨(some 5), (.mv (.t 29)), none⟩] [])))))) (.mark 2 [0, 4, 5] (.seq (.seq (.reg [⟨(some 34), (.mv (.t 5)), none⟩, ⟨(some 35), (.bin .lss 0 (.t 34) (.k (.v (.c (.p (.int .i64 0)))))), none⟩] []) (.cond (.t 35) (.reg [⟨(some 5), (.mv (.k (.v (.c (.p (.int .i64 0)))))), none⟩] []) .skip)) (.mark 3 [0, 4, 5] (.seq (.reg [⟨(some 37), (.mv (.t 0)), none⟩, ⟨(some 38), (.mv (.t 5)), none⟩, ⟨(some 39), (.mv (.t 4)), none⟩, ⟨(some 40), (.slice 0 true (.t 37) (some (.t 38)) (some (.t 39)) none), none⟩, ⟨(some 41), (.call (.k (.v (.c (.func 118 [])))) [(.t 40)]), none⟩, ⟨(some 36), (.mv (.t 41)), none⟩, ⟨(some 42), (.extract (.t 36) 0), none⟩, ⟨(some 43), (.extract (.t 36) 1), none⟩, ⟨(some 2), (.mv (.t 42)), none⟩, ⟨(some 3), (.mv (.t 43)), none⟩] []) (.seq (.seq (.reg [⟨(some 44), (.mv (.t 5)), none⟩, ⟨(some 45), (.mv (.t 3)), none⟩, ⟨(some 46), (.bin .add 0 (.t 44) (.t 45)), none⟩, ⟨(some 47), (.mv (.t 4)), none⟩, ⟨(some 48), (.bin .neq 0 (.t 46) (.t 47)), none⟩] []) (.cond (.t 48) (.seq (.reg [⟨(some 2), (.mv (.k (.v (.c (.p (.int .i32 65533)))))), none⟩, ⟨(some 3), (.mv (.k (.v (.c (.p (.int .i64 1)))))), none⟩] []) .ret) .skip)) (.seq (.reg [⟨(some 49), (.mv (.t 2)), none⟩, ⟨(some 50), (.mv (.t 3)), none⟩, ⟨(some 2), (.mv (.t 49)), none⟩, ⟨(some 3), (.mv (.t 50)), none⟩] []) .ret)))))))))))))) }
theorem t120 : compF Tryd.prog (globs2 tabs opq) false true Tryd.f120 = some c120.erase := by kernel_rfl
noncomputable def b120_0 (O : Oracle) (R : Jump) (q : Nat) (x0 : TVal) (h : Heap) : Res1 :=
  vlen O 0 x0 h 8 fun x8 h =>
  vbin .eql 0 x8 (kI 0) h fun x10 h =>
  vif x10 (
  tcomp (.v (.c (.p (.int .i32 65533)))) fun c0 => tcomp (kI 0) fun c1 => vfin true q [c0, c1] h)
  (vbin .sub 0 x8 (kI 1) h fun x12 h =>
  vindex x0 x12 h fun x15 h =>
  vtoInt .i32 x15 h fun x16 h =>
  vbin .lss 0 x16 (.v (.c (.p (.int .i32 128)))) h fun x18 h =>
  vif x18 (
  tcomp x16 fun c0 => tcomp (kI 1) fun c1 => vfin true q [c0, c1] h)
  (vbin .sub 0 x8 (kI 4) h fun x21 h =>
  vop O (.minmax true [(.k x21), (.k (kI 0))]) h 22 fun x22 h =>
  vbin .sub 0 x12 (kI 1) h fun x24 h =>
  R 1 [x0, x8, x24, x22] h))
theorem e120_0 (O : Oracle) (R : Jump) (q : Nat) (x0 : TVal) (h : Heap) : b120_0 O R q x0 h = stepF c120 O R q 0 [x0] h := by kernel_rfl
noncomputable def b120_1 (O : Oracle) (R : Jump) (q : Nat) (x0 x4 x5 x6 : TVal) (h : Heap) : Res1 :=
  vbin .geq 0 x5 x6 h fun x27 h =>
  vif x27 (
  vindex x0 x5 h fun x32 h =>
  vcall O (.v (.c (.func 136 []))) [x32] h 33 fun x33 h =>
  vif x33 (
  R 2 [x0, x4, x5] h)
  (vbin .sub 0 x5 (kI 1) h fun x29 h =>
  R 1 [x0, x4, x29, x6] h))
  (R 2 [x0, x4, x5] h)
theorem e120_1 (O : Oracle) (R : Jump) (q : Nat) (x0 x4 x5 x6 : TVal) (h : Heap) : b120_1 O R q x0 x4 x5 x6 h = stepF c120 O R q 1 [x0, x4, x5, x6] h := by kernel_rfl
noncomputable def b120_2 (O : Oracle) (R : Jump) (q : Nat) (x0 x4 x5 : TVal) (h : Heap) : Res1 :=
  vbin .lss 0 x5 (kI 0) h fun x35 h =>
  vif x35 (
  R 3 [x0, x4, (kI 0)] h)
  (R 3 [x0, x4, x5] h)
theorem e120_2 (O : Oracle) (R : Jump) (q : Nat) (x0 x4 x5 : TVal) (h : Heap) : b120_2 O R q x0 x4 x5 h = stepF c120 O R q 2 [x0, x4, x5] h := by kernel_rfl
noncomputable def b120_3 (O : Oracle) (R : Jump) (q : Nat) (x0 x4 x5 : TVal) (h : Heap) : Res1 :=
  vop O (.slice 0 true (.k x0) (some (.k x5)) (some (.k x4)) none) h 40 fun x40 h =>
  vcall O (.v (.c (.func 118 []))) [x40] h 41 fun x41 h =>
  vext x41 0 h fun x42 h =>
  vext x41 1 h fun x43 h =>
  vbin .add 0 x5 x43 h fun x46 h =>
  vbin .neq 0 x46 x4 h fun x48 h =>
  vif x48 (
  tcomp (.v (.c (.p (.int .i32 65533)))) fun c0 => tcomp (kI 1) fun c1 => vfin true q [c0, c1] h)
  (tcomp x42 fun c0 => tcomp x43 fun c1 => vfin true q [c0, c1] h)
theorem e120_3 (O : Oracle) (R : Jump) (q : Nat) (x0 x4 x5 : TVal) (h : Heap) : b120_3 O R q x0 x4 x5 h = stepF c120 O R q 3 [x0, x4, x5] h := by kernel_rfl
noncomputable def d120 : BlkF := fun O R q => [.s fun y0 => .z fun h => b120_0 O R q y0 h, .s fun y0 => .s fun y1 => .s fun y2 => .s fun y3 => .z fun h => b120_1 O R q y0 y1 y2 y3 h, .s fun y0 => .s fun y1 => .s fun y2 => .z fun h => b120_2 O R q y0 y1 y2 h, .s fun y0 => .s fun y1 => .s fun y2 => .z fun h => b120_3 O R q y0 y1 y2 h]
theorem o120 (O : Oracle) (R : Jump) (q : Nat) : HoldsAll c120 O R q 0 (d120 O R q) := ⟨fun y0 h => e120_0 O R q y0 h, fun y0 y1 y2 y3 h => e120_1 O R q y0 y1 y2 y3 h, fun y0 y1 y2 h => e120_2 O R q y0 y1 y2 h, fun y0 y1 y2 h => e120_3 O R q y0 y1 y2 h, trivial⟩
/- (*sprue/tree.reader).path -/
def c121 : MFunc := { np := 2, res := [.t 4], frz := true, body := (.seq (.reg [⟨(some 4), (.mv (.k (.v (.c (.p .nilslice))))), none⟩] []) (.seq (.reg [⟨(some 5), (.mv (.k (.v (.c (.p .nilslice))))), none⟩] []) (.block 0 (.loop 1 [0, 1, 5] (.block 1 (.seq (.reg [⟨(some 8), (.mv (.t 0)), none⟩, ⟨(some 9), (.call (.k (.v (.c (.func 80 [])))) [(.t 8), (.k (.v (.c (.p (.int .i64 0)))))]), none⟩, ⟨(some 10), (.mv (.t 0)), none⟩, ⟨(some 11), (.call (.k (.v (.c (.func 80 [])))) [(.t 10), (.k (.v (.c (.p (.int .i64 1)))))]), none⟩, ⟨(some 6), (.alloc [(.p (.int .i64 0)), (.p (.str [])), (.p (.int .i64 0)), (.p (.int .i64 0))] false), none⟩, ⟨(some 7), (.alloc [(.p (.int .i64 0)), (.p (.str [])), (.p (.int .i64 0)), (.p (.int .i64 0))] false), none⟩, ⟨none, (.store 4 (.t 6) (.t 9)), none⟩, ⟨none, (.store 4 (.t 7) (.t 11)), none⟩] []) (.seq (.seq (.reg [⟨(some 12), (.load true 4 (.t 6)), none⟩, ⟨(some 13), (.call (.k (.v (.c (.func 81 [])))) [(.t 12), (.k (.v (.c (.p (.str [46])))))]), none⟩, ⟨(some 14), (.un .not (.t 13)), none⟩, ⟨(some 15), (.mv (.t 14)), none⟩, ⟨(some 16), (.faddr 3 (.t 6)), (some (15, false))⟩, ⟨(some 17), (.load false 1 (.t 16)), (some (15, false))⟩, ⟨(some 18), (.mv (.t 1)), (some (15, false))⟩, ⟨(some 19), (.bin .neq 0 (.t 17) (.t 18)), (some (15, false))⟩, ⟨(some 20), (.pick (.t 15) (.k (.v (.c (.p (.bool true))))) (.t 19)), none⟩, ⟨(some 21), (.mv (.t 20)), none⟩, ⟨(some 22), (.faddr 0 (.t 7)), (some (21, false))⟩, ⟨(some 23), (.load false 1 (.t 22)), (some (21, false))⟩, ⟨(some 24), (.bin .neq 0 (.t 23) (.k (.v (.c (.p (.int .i64 1)))))), (some (21, false))⟩, ⟨(some 25), (.pick (.t 21) (.k (.v (.c (.p (.bool true))))) (.t 24)), none⟩, ⟨(some 26), (.mv (.t 25)), none⟩, ⟨(some 27), (.faddr 3 (.t 7)), (some (26, false))⟩, ⟨(some 28), (.load false 1 (.t 27)), (some (26, false))⟩, ⟨(some 29), (.mv (.t 1)), (some (26, false))⟩, ⟨(some 30), (.bin .add 0 (.t 29) (.k (.v (.c (.p (.int .i64 1)))))), (some (26, false))⟩, ⟨(some 31), (.bin .neq 0 (.t 28) (.t 30)), (some (26, false))⟩, ⟨(some 32), (.pick (.t 26) (.k (.v (.c (.p (.bool true))))) (.t 31)), none⟩] []) (.cond (.t 32) (.seq (.reg [⟨(some 33), (.mv (.t 5)), none⟩, ⟨(some 4), (.mv (.t 33)), none⟩] []) .ret) .skip)) (.seq (.reg [⟨(some 34), (.mv (.t 5)), none⟩, ⟨(some 35), (.faddr 1 (.t 7)), none⟩, ⟨(some 36), (.load false 1 (.t 35)), none⟩, ⟨(some 37), (.bslice 1 1 [(.p (.str []))] [(0, (.t 36))] false), none⟩, ⟨(some 38), (.append 1 16 false (.t 34) (.t 37)), none⟩, ⟨(some 5), (.mv (.t 38)), none⟩] []) (.seq (.reg [⟨(some 39), (.faddr 3 (.t 7)), none⟩, ⟨(some 40), (.load false 1 (.t 39)), none⟩, ⟨(some 41), (.faddr 1 (.t 7)), none⟩, ⟨(some 42), (.load false 1 (.t 41)), none⟩, ⟨(some 43), (.len 0 (.t 42)), none⟩, ⟨(some 44), (.bin .add 0 (.t 40) (.t 43)), none⟩, ⟨(some 1), (.mv (.t 44)), none⟩] []) (.reg [⟨(some 45), (.mv (.t 0)), none⟩, ⟨(some 46), (.nilck (.t 45)), none⟩, ⟨(some 47), (.faddr 1 (.t 46)), none⟩, ⟨(some 48), (.load false 1 (.t 47)), none⟩, ⟨(some 49), (.bin .add 0 (.t 48) (.k (.v (.c (.p (.int .i64 2)))))), none⟩, ⟨(some 50), (.nilck (.t 45)), none⟩, ⟨(some 51), (.faddr 1 (.t 50)), none⟩, ⟨none, (.store 1 (.t 51) (.t 49)), none⟩] [])))))))))) }
theorem t121 : compF Tryd.prog (globs2 tabs opq) false true Tryd.f121 = some c121.erase := by kernel_rfl
noncomputable def b121_0 (O : Oracle) (R : Jump) (q : Nat) (x0 x1 : TVal) (h : Heap) : Res1 :=
  R 1 [x0, x1, (.v (.c (.p .nilslice)))] h
theorem e121_0 (O : Oracle) (R : Jump) (q : Nat) (x0 x1 : TVal) (h : Heap) : b121_0 O R q x0 x1 h = stepF c121 O R q 0 [x0, x1] h := by kernel_rfl
noncomputable def b121_1 (O : Oracle) (R : Jump) (q : Nat) (x0 x1 x5 : TVal) (h : Heap) : Res1 :=
  vcall O (.v (.c (.func 80 []))) [x0, (kI 0)] h 9 fun x9 h =>
  vcall O (.v (.c (.func 80 []))) [x0, (kI 1)] h 11 fun x11 h =>
  vop O (.alloc [(.p (.int .i64 0)), (.p (.str [])), (.p (.int .i64 0)), (.p (.int .i64 0))] false) h 6 fun x6 h =>
  vop O (.alloc [(.p (.int .i64 0)), (.p (.str [])), (.p (.int .i64 0)), (.p (.int .i64 0))] false) h 7 fun x7 h =>
  vstore 4 x6 x9 h fun _ h =>
  vstore 4 x7 x11 h fun _ h =>
  vload true 4 x6 h fun x12 h =>
  vcall O (.v (.c (.func 81 []))) [x12, (kS [46])] h 13 fun x13 h =>
  vop O (.un .not (.k x13)) h 14 fun x14 h =>
  vguard x14 false (fun kk => vfaddr 3 x6 h kk) h fun x16 h =>
  vguard x14 false (fun kk => vload false 1 x16 h kk) h fun x17 h =>
  vguard x14 false (fun kk => kk x1 h) h fun x18 h =>
  vguard x14 false (fun kk => vbin .neq 0 x17 x18 h kk) h fun x19 h =>
  vop O (.pick (.k x14) (.k (kB true)) (.k x19)) h 20 fun x20 h =>
  vguard x20 false (fun kk => vfaddr 0 x7 h kk) h fun x22 h =>
  vguard x20 false (fun kk => vload false 1 x22 h kk) h fun x23 h =>
  vguard x20 false (fun kk => vbin .neq 0 x23 (kI 1) h kk) h fun x24 h =>
  vop O (.pick (.k x20) (.k (kB true)) (.k x24)) h 25 fun x25 h =>
  vguard x25 false (fun kk => vfaddr 3 x7 h kk) h fun x27 h =>
  vguard x25 false (fun kk => vload false 1 x27 h kk) h fun x28 h =>
  vguard x25 false (fun kk => kk x1 h) h fun x29 h =>
  vguard x25 false (fun kk => vbin .add 0 x29 (kI 1) h kk) h fun x30 h =>
  vguard x25 false (fun kk => vbin .neq 0 x28 x30 h kk) h fun x31 h =>
  vop O (.pick (.k x25) (.k (kB true)) (.k x31)) h 32 fun x32 h =>
  vif x32 (
  tcomp x5 fun c0 => vfin true q [c0] h)
  (vfaddr 1 x7 h fun x35 h =>
  vload false 1 x35 h fun x36 h =>
  vop O (.bslice 1 1 [(.p (.str []))] [(0, (.k x36))] false) h 37 fun x37 h =>
  vop O (.append 1 16 false (.k x5) (.k x37)) h 38 fun x38 h =>
  vfaddr 3 x7 h fun x39 h =>
  vload false 1 x39 h fun x40 h =>
  vfaddr 1 x7 h fun x41 h =>
  vload false 1 x41 h fun x42 h =>
  vlen O 0 x42 h 43 fun x43 h =>
  vbin .add 0 x40 x43 h fun x44 h =>
  vop O (.nilck (.k x0)) h 46 fun x46 h =>
  vfaddr 1 x46 h fun x47 h =>
  vload false 1 x47 h fun x48 h =>
  vbin .add 0 x48 (kI 2) h fun x49 h =>
  vop O (.nilck (.k x0)) h 50 fun x50 h =>
  vfaddr 1 x50 h fun x51 h =>
  vstore 1 x51 x49 h fun _ h =>
  R 1 [x0, x44, x38] h)
theorem e121_1 (O : Oracle) (R : Jump) (q : Nat) (x0 x1 x5 : TVal) (h : Heap) : b121_1 O R q x0 x1 x5 h = stepF c121 O R q 1 [x0, x1, x5] h := by kernel_rfl
noncomputable def d121 : BlkF := fun O R q => [.s fun y0 => .s fun y1 => .z fun h => b121_0 O R q y0 y1 h, .s fun y0 => .s fun y1 => .s fun y2 => .z fun h => b121_1 O R q y0 y1 y2 h]
theorem o121 (O : Oracle) (R : Jump) (q : Nat) : HoldsAll c121 O R q 0 (d121 O R q) := ⟨fun y0 y1 h => e121_0 O R q y0 y1 h, fun y0 y1 y2 h => e121_1 O R q y0 y1 y2 h, trivial⟩
/- (*sprue/tree.reader).brackets -/
def c122 : MFunc := { np := 1, res := [.cell 2 true 7], frz := true, body := (.seq (.reg [⟨(some 2), (.alloc [(.p (.int .i64 0)), (.p (.str [])), (.p .nilslice), (.p (.str [])), (.p (.int .i64 0)), (.p (.bool false)), (.p .nilslice)] false), none⟩] []) (.seq (.reg [⟨(some 4), (.mv (.t 0)), none⟩, ⟨(some 5), (.nilck (.t 4)), none⟩, ⟨(some 6), (.faddr 3 (.t 5)), none⟩, ⟨(some 7), (.load false 1 (.t 6)), none⟩, ⟨(some 8), (.bin .add 0 (.t 7) (.k (.v (.c (.p (.int .i64 1)))))), none⟩, ⟨(some 9), (.nilck (.t 4)), none⟩, ⟨(some 10), (.faddr 3 (.t 9)), none⟩, ⟨none, (.store 1 (.t 10) (.t 8)), none⟩] []) (.seq (.seq (.reg [⟨(some 11), (.mv (.t 0)), none⟩, ⟨(some 12), (.nilck (.t 11)), none⟩, ⟨(some 13), (.faddr 3 (.t 12)), none⟩, ⟨(some 14), (.load false 1 (.t 13)), none⟩, ⟨(some 15), (.bin .gtr 0 (.t 14) (.k (.v (.c (.p (.int .i64 12)))))), none⟩] []) (.cond (.t 15) (.seq (.reg [⟨(some 16), (.mv (.t 0)), none⟩, ⟨(some 17), (.call (.k (.v (.c (.func 95 [])))) [(.t 16), (.k (.v (.c (.p (.int .i64 13)))))]), none⟩] []) (.seq (.reg [⟨(some 18), (.build [(.p (.int .i64 0)), (.p (.str [])), (.p .nilslice), (.p (.str [])), (.p (.int .i64 0)), (.p (.bool false)), (.p .nilslice)] []), none⟩, ⟨none, (.store 7 (.t 2) (.t 18)), none⟩] []) .ret)) .skip)) (.seq (.reg [⟨(some 19), (.mv (.t 0)), none⟩, ⟨(some 20), (.call (.k (.v (.c (.func 30 [])))) [(.t 19)]), none⟩, ⟨(some 3), (.mv (.t 20)), none⟩] []) (.seq (.reg [⟨(some 21), (.mv (.t 0)), none⟩, ⟨(some 22), (.mv (.t 0)), none⟩, ⟨(some 23), (.call (.k (.v (.c (.func 59 [])))) [(.t 22), (.k (.v (.c (.p (.str [41])))))]), none⟩, ⟨(some 24), (.call (.k (.v (.c (.func 60 [])))) [(.t 21), (.t 23)]), none⟩] []) (.seq (.reg [⟨(some 25), (.mv (.t 0)), none⟩, ⟨(some 26), (.nilck (.t 25)), none⟩, ⟨(some 27), (.faddr 3 (.t 26)), none⟩, ⟨(some 28), (.load false 1 (.t 27)), none⟩, ⟨(some 29), (.bin .sub 0 (.t 28) (.k (.v (.c (.p (.int .i64 1)))))), none⟩, ⟨(some 30), (.nilck (.t 25)), none⟩, ⟨(some 31), (.faddr 3 (.t 30)), none⟩, ⟨none, (.store 1 (.t 31) (.t 29)), none⟩] []) (.seq (.reg [⟨(some 32), (.mv (.t 3)), none⟩, ⟨(some 33), (.build [(.p (.int .i64 0)), (.p (.str [])), (.p .nilslice), (.p (.str [])), (.p (.int .i64 0)), (.p (.bool false)), (.p .nilslice)] [(0, 1, (.k (.v (.c (.p (.int .i64 5)))))), (6, 1, (.t 32))]), none⟩, ⟨none, (.store 7 (.t 2) (.t 33)), none⟩] []) .ret))))))) }
theorem t122 : compF Tryd.prog (globs2 tabs opq) false true Tryd.f122 = some c122.erase := by kernel_rfl
noncomputable def b122_0 (O : Oracle) (R : Jump) (q : Nat) (x0 : TVal) (h : Heap) : Res1 :=
  vop O (.alloc [(.p (.int .i64 0)), (.p (.str [])), (.p .nilslice), (.p (.str [])), (.p (.int .i64 0)), (.p (.bool false)), (.p .nilslice)] false) h 2 fun x2 h =>
  vop O (.nilck (.k x0)) h 5 fun x5 h =>
  vfaddr 3 x5 h fun x6 h =>
  vload false 1 x6 h fun x7 h =>
  vbin .add 0 x7 (kI 1) h fun x8 h =>
  vop O (.nilck (.k x0)) h 9 fun x9 h =>
  vfaddr 3 x9 h fun x10 h =>
  vstore 1 x10 x8 h fun _ h =>
  vop O (.nilck (.k x0)) h 12 fun x12 h =>
  vfaddr 3 x12 h fun x13 h =>
  vload false 1 x13 h fun x14 h =>
  vbin .gtr 0 x14 (kI 12) h fun x15 h =>
  vif x15 (
  vcall O (.v (.c (.func 95 []))) [x0, (kI 13)] h 17 fun x17 h =>
  vop O (.build [(.p (.int .i64 0)), (.p (.str [])), (.p .nilslice), (.p (.str [])), (.p (.int .i64 0)), (.p (.bool false)), (.p .nilslice)] []) h 18 fun x18 h =>
  vstore 7 x2 x18 h fun _ h =>
  vcell true 7 x2 h fun c0 => vfin true q [c0] h)
  (vcall O (.v (.c (.func 30 []))) [x0] h 20 fun x20 h =>
  vcall O (.v (.c (.func 59 []))) [x0, (kS [41])] h 23 fun x23 h =>
  vcall O (.v (.c (.func 60 []))) [x0, x23] h 24 fun x24 h =>
  vop O (.nilck (.k x0)) h 26 fun x26 h =>
  vfaddr 3 x26 h fun x27 h =>
  vload false 1 x27 h fun x28 h =>
  vbin .sub 0 x28 (kI 1) h fun x29 h =>
  vop O (.nilck (.k x0)) h 30 fun x30 h =>
  vfaddr 3 x30 h fun x31 h =>
  vstore 1 x31 x29 h fun _ h =>
  vop O (.build [(.p (.int .i64 0)), (.p (.str [])), (.p .nilslice), (.p (.str [])), (.p (.int .i64 0)), (.p (.bool false)), (.p .nilslice)] [(0, 1, (.k (kI 5))), (6, 1, (.k x20))]) h 33 fun x33 h =>
  vstore 7 x2 x33 h fun _ h =>
  vcell true 7 x2 h fun c0 => vfin true q [c0] h)
theorem e122_0 (O : Oracle) (R : Jump) (q : Nat) (x0 : TVal) (h : Heap) : b122_0 O R q x0 h = stepF c122 O R q 0 [x0] h := by kernel_rfl
noncomputable def d122 : BlkF := fun O R q => [.s fun y0 => .z fun h => b122_0 O R q y0 h]
theorem o122 (O : Oracle) (R : Jump) (q : Nat) : HoldsAll c122 O R q 0 (d122 O R q) := ⟨fun y0 h => e122_0 O R q y0 h, trivial⟩
/- internal/stringslite.TrimPrefix -/
def c129 : MFunc := { np := 2, res := [.t 4], frz := true, body := (.seq (.reg [⟨(some 4), (.mv (.k (.v (.c (.p (.str [])))))), none⟩] []) (.seq (.seq (.reg [⟨(some 5), (.mv (.t 0)), none⟩, ⟨(some 6), (.mv (.t 1)), none⟩, ⟨(some 7), (.call (.k (.v (.c (.func 112 [])))) [(.t 5), (.t 6)]), none⟩] []) (.cond (.t 7) (.seq (.reg [⟨(some 8), (.mv (.t 0)), none⟩, ⟨(some 9), (.mv (.t 1)), none⟩, ⟨(some 10), (.len 0 (.t 9)), none⟩, ⟨(some 11), (.slice 0 true (.t 8) (some (.t 10)) none none), none⟩, ⟨(some 4), (.mv (.t 11)), none⟩] []) .ret) .skip)) (.seq (.reg [⟨(some 12), (.mv (.t 0)), none⟩, ⟨(some 4), (.mv (.t 12)), none⟩] []) .ret))) }
theorem t129 : compF Tryd.prog (globs2 tabs opq) false true Tryd.f129 = some c129.erase := by kernel_rfl
noncomputable def b129_0 (O : Oracle) (R : Jump) (q : Nat) (x0 x1 : TVal) (h : Heap) : Res1 :=
  vcall O (.v (.c (.func 112 []))) [x0, x1] h 7 fun x7 h =>
  vif x7 (
  vlen O 0 x1 h 10 fun x10 h =>
  vop O (.slice 0 true (.k x0) (some (.k x10)) none none) h 11 fun x11 h =>
  tcomp x11 fun c0 => vfin true q [c0] h)
  (tcomp x0 fun c0 => vfin true q [c0] h)
theorem e129_0 (O : Oracle) (R : Jump) (q : Nat) (x0 x1 : TVal) (h : Heap) : b129_0 O R q x0 x1 h = stepF c129 O R q 0 [x0, x1] h := by kernel_rfl
noncomputable def d129 : BlkF := fun O R q => [.s fun y0 => .s fun y1 => .z fun h => b129_0 O R q y0 y1 h]
theorem o129 (O : Oracle) (R : Jump) (q : Nat) : HoldsAll c129 O R q 0 (d129 O R q) := ⟨fun y0 y1 h => e129_0 O R q y0 y1 h, trivial⟩
/- strings.FieldsFunc -/
def c130 : MFunc := { np := 2, res := [.t 4], frz := true, body := (.seq (.reg [⟨(some 4), (.mv (.k (.v (.c (.p .nilslice))))), none⟩] []) (.seq (.reg [⟨(some 12), (.mkslice 2 16 [(.p (.int .i64 0)), (.p (.int .i64 0))] (.k (.v (.c (.p (.int .i64 0))))) (.k (.v (.c (.p (.int .i64 32)))))), none⟩, ⟨(some 5), (.mv (.t 12)), none⟩] []) (.seq (.reg [⟨(some 6), (.mv (.k (.v (.c (.p (.int .i64 (-1))))))), none⟩] []) (.seq (.seq (.reg [⟨(some 13), (.mv (.t 0)), none⟩, ⟨(some 14), (.rangeS (.t 13)), none⟩] []) (.block 0 (.loop 1 [0, 1, 5, 6, 14] (.seq (.reg [⟨(some 15), (.nextS (.t 14)), none⟩, ⟨(some 16), (.extract (.t 15) 0), none⟩] []) (.seq (.cond (.t 16) .skip (.exit 0)) (.block 1 (.seq (.reg [⟨(some 17), (.extract (.t 15) 1), none⟩, ⟨(some 18), (.extract (.t 15) 2), none⟩, ⟨(some 7), (.mv (.t 17)), none⟩, ⟨(some 8), (.mv (.t 18)), none⟩] []) (.seq (.reg [⟨(some 19), (.mv (.t 1)), none⟩, ⟨(some 20), (.mv (.t 8)), none⟩, ⟨(some 21), (.call (.t 19) [(.t 20)]), none⟩] []) (.cond (.t 21) (.seq (.reg [⟨(some 22), (.mv (.t 6)), none⟩, ⟨(some 23), (.bin .geq 0 (.t 22) (.k (.v (.c (.p (.int .i64 0)))))), none⟩] []) (.cond (.t 23) (.seq (.reg [⟨(some 24), (.mv (.t 5)), none⟩, ⟨(some 25), (.mv (.t 6)), none⟩, ⟨(some 26), (.mv (.t 7)), none⟩, ⟨(some 27), (.build [(.p (.int .i64 0)), (.p (.int .i64 0))] [(0, 1, (.t 25)), (1, 1, (.t 26))]), none⟩, ⟨(some 28), (.bslice 2 1 [(.p (.int .i64 0)), (.p (.int .i64 0))] [(0, (.t 27))] false), none⟩, ⟨(some 29), (.append 2 16 false (.t 24) (.t 28)), none⟩, ⟨(some 5), (.mv (.t 29)), none⟩] []) (.reg [⟨(some 30), (.mv (.t 6)), none⟩, ⟨(some 31), (.un .xor (.t 30)), none⟩, ⟨(some 6), (.mv (.t 31)), none⟩] [])) .skip)) (.seq (.reg [⟨(some 32), (.mv (.t 6)), none⟩, ⟨(some 33), (.bin .lss 0 (.t 32) (.k (.v (.c (.p (.int .i64 0)))))), none⟩] []) (.cond (.t 33) (.reg [⟨(some 34), (.mv (.t 7)), none⟩, ⟨(some 6), (.mv (.t 34)), none⟩] []) .skip))))))))))) (.mark 2 [0, 5, 6] (.seq (.seq (.reg [⟨(some 35), (.mv (.t 6)), none⟩, ⟨(some 36), (.bin .geq 0 (.t 35) (.k (.v (.c (.p (.int .i64 0)))))), none⟩] []) (.cond (.t 36) (.reg [⟨(some 37), (.mv (.t 5)), none⟩, ⟨(some 38), (.mv (.t 6)), none⟩, ⟨(some 39), (.mv (.t 0)), none⟩, ⟨(some 40), (.len 0 (.t 39)), none⟩, ⟨(some 41), (.build [(.p (.int .i64 0)), (.p (.int .i64 0))] [(0, 1, (.t 38)), (1, 1, (.t 40))]), none⟩, ⟨(some 42), (.bslice 2 1 [(.p (.int .i64 0)), (.p (.int .i64 0))] [(0, (.t 41))] false), none⟩, ⟨(some 43), (.append 2 16 false (.t 37) (.t 42)), none⟩, ⟨(some 5), (.mv (.t 43)), none⟩] []) .skip)) (.mark 3 [0, 5] (.seq (.reg [⟨(some 44), (.mv (.t 5)), none⟩, ⟨(some 45), (.len 2 (.t 44)), none⟩, ⟨(some 46), (.mkslice 1 16 [(.p (.str []))] (.t 45) (.t 45)), none⟩, ⟨(some 9), (.mv (.t 46)), none⟩] []) (.seq (.seq (.reg [⟨(some 47), (.mv (.t 5)), none⟩, ⟨(some 48), (.len 2 (.t 47)), none⟩, ⟨(some 49), (.mv (.k (.v (.c (.p (.int .i64 0)))))), none⟩] []) (.block 2 (.loop 4 [0, 9, 47, 48, 49] (.seq (.reg [⟨(some 50), (.bin .lss 0 (.t 49) (.t 48)), none⟩] []) (.seq (.cond (.t 50) .skip (.exit 2)) (.seq (.block 3 (.seq (.reg [⟨(some 51), (.mv (.t 49)), none⟩, ⟨(some 52), (.iaddr 2 (.t 47) (.t 49)), none⟩, ⟨(some 53), (.load true 2 (.t 52)), none⟩, ⟨(some 11), (.alloc [(.p (.int .i64 0)), (.p (.int .i64 0))] false), none⟩, ⟨(some 10), (.mv (.t 51)), none⟩, ⟨none, (.store 2 (.t 11) (.t 53)), none⟩] []) (.reg [⟨(some 54), (.mv (.t 9)), none⟩, ⟨(some 55), (.mv (.t 10)), none⟩, ⟨(some 56), (.mv (.t 0)), none⟩, ⟨(some 57), (.faddr 0 (.t 11)), none⟩, ⟨(some 58), (.load false 1 (.t 57)), none⟩, ⟨(some 59), (.faddr 1 (.t 11)), none⟩, ⟨(some 60), (.load false 1 (.t 59)), none⟩, ⟨(some 61), (.slice 0 true (.t 56) (some (.t 58)) (some (.t 60)) none), none⟩, ⟨(some 62), (.iaddr 1 (.t 54) (.t 55)), none⟩, ⟨none, (.store 1 (.t 62) (.t 61)), none⟩] []))) (.reg [⟨(some 63), (.bin .add 0 (.t 49) (.k (.v (.c (.p (.int .i64 1)))))), none⟩, ⟨(some 49), (.mv (.t 63)), none⟩] []))))))) (.seq (.reg [⟨(some 64), (.mv (.t 9)), none⟩, ⟨(some 4), (.mv (.t 64)), none⟩] []) .ret)))))))))) }
theorem t130 : compF Tryd.prog (globs2 tabs opq) false true Tryd.f130 = some c130.erase := by kernel_rfl
noncomputable def b130_0 (O : Oracle) (R : Jump) (q : Nat) (x0 x1 : TVal) (h : Heap) : Res1 :=
  vop O (.mkslice 2 16 [(.p (.int .i64 0)), (.p (.int .i64 0))] (.k (kI 0)) (.k (kI 32))) h 12 fun x12 h =>
  vop O (.rangeS (.k x0)) h 14 fun x14 h =>
  R 1 [x0, x1, x12, (kI (-1)), x14] h
theorem e130_0 (O : Oracle) (R : Jump) (q : Nat) (x0 x1 : TVal) (h : Heap) : b130_0 O R q x0 x1 h = stepF c130 O R q 0 [x0, x1] h := by kernel_rfl
noncomputable def b130_1 (O : Oracle) (R : Jump) (q : Nat) (x0 x1 x5 x6 x14 : TVal) (h : Heap) : Res1 :=
  vop O (.nextS (.k x14)) h 15 fun x15 h =>
  vext x15 0 h fun x16 h =>
  vif x16 (
  vext x15 1 h fun x17 h =>
  vext x15 2 h fun x18 h =>
  vcall O x1 [x18] h 21 fun x21 h =>
  vif x21 (
  vbin .geq 0 x6 (kI 0) h fun x23 h =>
  vif x23 (
  vop O (.build [(.p (.int .i64 0)), (.p (.int .i64 0))] [(0, 1, (.k x6)), (1, 1, (.k x17))]) h 27 fun x27 h =>
  vop O (.bslice 2 1 [(.p (.int .i64 0)), (.p (.int .i64 0))] [(0, (.k x27))] false) h 28 fun x28 h =>
  vop O (.append 2 16 false (.k x5) (.k x28)) h 29 fun x29 h =>
  vop O (.un .xor (.k x6)) h 31 fun x31 h =>
  R 1 [x0, x1, x29, x31, x14] h)
  (R 1 [x0, x1, x5, x6, x14] h))
  (vbin .lss 0 x6 (kI 0) h fun x33 h =>
  vif x33 (
  R 1 [x0, x1, x5, x17, x14] h)
  (R 1 [x0, x1, x5, x6, x14] h)))
  (R 2 [x0, x5, x6] h)
theorem e130_1 (O : Oracle) (R : Jump) (q : Nat) (x0 x1 x5 x6 x14 : TVal) (h : Heap) : b130_1 O R q x0 x1 x5 x6 x14 h = stepF c130 O R q 1 [x0, x1, x5, x6, x14] h := by kernel_rfl
noncomputable def b130_2 (O : Oracle) (R : Jump) (q : Nat) (x0 x5 x6 : TVal) (h : Heap) : Res1 :=
  vbin .geq 0 x6 (kI 0) h fun x36 h =>
  vif x36 (
  vlen O 0 x0 h 40 fun x40 h =>
  vop O (.build [(.p (.int .i64 0)), (.p (.int .i64 0))] [(0, 1, (.k x6)), (1, 1, (.k x40))]) h 41 fun x41 h =>
  vop O (.bslice 2 1 [(.p (.int .i64 0)), (.p (.int .i64 0))] [(0, (.k x41))] false) h 42 fun x42 h =>
  vop O (.append 2 16 false (.k x5) (.k x42)) h 43 fun x43 h =>
  R 3 [x0, x43] h)
  (R 3 [x0, x5] h)
theorem e130_2 (O : Oracle) (R : Jump) (q : Nat) (x0 x5 x6 : TVal) (h : Heap) : b130_2 O R q x0 x5 x6 h = stepF c130 O R q 2 [x0, x5, x6] h := by kernel_rfl
noncomputable def b130_3 (O : Oracle) (R : Jump) (q : Nat) (x0 x5 : TVal) (h : Heap) : Res1 :=
  vlen O 2 x5 h 45 fun x45 h =>
  vop O (.mkslice 1 16 [(.p (.str []))] (.k x45) (.k x45)) h 46 fun x46 h =>
  vlen O 2 x5 h 48 fun x48 h =>
  R 4 [x0, x46, x5, x48, (kI 0)] h
theorem e130_3 (O : Oracle) (R : Jump) (q : Nat) (x0 x5 : TVal) (h : Heap) : b130_3 O R q x0 x5 h = stepF c130 O R q 3 [x0, x5] h := by kernel_rfl
noncomputable def b130_4 (O : Oracle) (R : Jump) (q : Nat) (x0 x9 x47 x48 x49 : TVal) (h : Heap) : Res1 :=
  vbin .lss 0 x49 x48 h fun x50 h =>
  vif x50 (
  viaddr 2 x47 x49 h fun x52 h =>
  vload true 2 x52 h fun x53 h =>
  vop O (.alloc [(.p (.int .i64 0)), (.p (.int .i64 0))] false) h 11 fun x11 h =>
  vstore 2 x11 x53 h fun _ h =>
  vfaddr 0 x11 h fun x57 h =>
  vload false 1 x57 h fun x58 h =>
  vfaddr 1 x11 h fun x59 h =>
  vload false 1 x59 h fun x60 h =>
  vop O (.slice 0 true (.k x0) (some (.k x58)) (some (.k x60)) none) h 61 fun x61 h =>
  viaddr 1 x9 x49 h fun x62 h =>
  vstore 1 x62 x61 h fun _ h =>
  vbin .add 0 x49 (kI 1) h fun x63 h =>
  R 4 [x0, x9, x47, x48, x63] h)
  (tcomp x9 fun c0 => vfin true q [c0] h)
theorem e130_4 (O : Oracle) (R : Jump) (q : Nat) (x0 x9 x47 x48 x49 : TVal) (h : Heap) : b130_4 O R q x0 x9 x47 x48 x49 h = stepF c130 O R q 4 [x0, x9, x47, x48, x49] h := by kernel_rfl
noncomputable def d130 : BlkF := fun O R q => [.s fun y0 => .s fun y1 => .z fun h => b130_0 O R q y0 y1 h, .s fun y0 => .s fun y1 => .s fun y2 => .s fun y3 => .s fun y4 => .z fun h => b130_1 O R q y0 y1 y2 y3 y4 h, .s fun y0 => .s fun y1 => .s fun y2 => .z fun h => b130_2 O R q y0 y1 y2 h, .s fun y0 => .s fun y1 => .z fun h => b130_3 O R q y0 y1 h, .s fun y0 => .s fun y1 => .s fun y2 => .s fun y3 => .s fun y4 => .z fun h => b130_4 O R q y0 y1 y2 y3 y4 h]
theorem o130 (O : Oracle) (R : Jump) (q : Nat) : HoldsAll c130 O R q 0 (d130 O R q) := ⟨fun y0 y1 h => e130_0 O R q y0 y1 h, fun y0 y1 y2 y3 y4 h => e130_1 O R q y0 y1 y2 y3 y4 h, fun y0 y1 y2 h => e130_2 O R q y0 y1 y2 h, fun y0 y1 h => e130_3 O R q y0 y1 h, fun y0 y1 y2 y3 y4 h => e130_4 O R q y0 y1 y2 y3 y4 h, trivial⟩
/- unicode.IsSpace -/
def c131 : MFunc := { np := 1, res := [.t 2], frz := true, body := (.seq (.reg [⟨(some 2), (.mv (.k (.v (.c (.p (.bool false)))))), none⟩] []) (.seq (.seq (.reg [⟨(some 3), (.mv (.t 0)), none⟩, ⟨(some 4), (.toInt .u32 (.t 3)), none⟩, ⟨(some 5), (.bin .leq 0 (.t 4) (.k (.v (.c (.p (.int .u32 255)))))), none⟩] []) (.cond (.t 5) (.seq (.seq (.reg [⟨(some 6), (.mv (.t 0)), none⟩] []) (.block 0 (.seq (.seq (.reg [⟨(some 8), (.bin .eql 0 (.t 6) (.k (.v (.c (.p (.int .i32 9)))))), none⟩, ⟨(some 7), (.mv (.t 8)), none⟩] []) (.cond (.t 7) .skip (.seq (.reg [⟨(some 9), (.bin .eql 0 (.t 6) (.k (.v (.c (.p (.int .i32 10)))))), none⟩, ⟨(some 7), (.mv (.t 9)), none⟩] []) (.cond (.t 7) .skip (.seq (.reg [⟨(some 10), (.bin .eql 0 (.t 6) (.k (.v (.c (.p (.int .i32 11)))))), none⟩, ⟨(some 7), (.mv (.t 10)), none⟩] []) (.cond (.t 7) .skip (.seq (.reg [⟨(some 11), (.bin .eql 0 (.t 6) (.k (.v (.c (.p (.int .i32 12)))))), none⟩, ⟨(some 7), (.mv (.t 11)), none⟩] []) (.cond (.t 7) .skip (.seq (.reg [⟨(some 12), (.bin .eql 0 (.t 6) (.k (.v (.c (.p (.int .i32 13)))))), none⟩, ⟨(some 7), (.mv (.t 12)), none⟩] []) (.cond (.t 7) .skip (.seq (.reg [⟨(some 13), (.bin .eql 0 (.t 6) (.k (.v (.c (.p (.int .i32 32)))))), none⟩, ⟨(some 7), (.mv (.t 13)), none⟩] []) (.cond (.t 7) .skip (.seq (.reg [⟨(some 14), (.bin .eql 0 (.t 6) (.k (.v (.c (.p (.int .i32 133)))))), none⟩, ⟨(some 7), (.mv (.t 14)), none⟩] []) (.cond (.t 7) .skip (.reg [⟨(some 15), (.bin .eql 0 (.t 6) (.k (.v (.c (.p (.int .i32 160)))))), none⟩, ⟨(some 7), (.mv (.t 15)), none⟩] []))))))))))))))) (.mark 1 [7] (.cond (.t 7) (.seq (.reg [⟨(some 2), (.mv (.k (.v (.c (.p (.bool true)))))), none⟩] []) .ret) .skip))))) (.seq (.reg [⟨(some 2), (.mv (.k (.v (.c (.p (.bool false)))))), none⟩] []) .ret)) .skip)) (.seq (.reg [⟨(some 16), .bad, none⟩, ⟨(some 17), (.mv (.t 0)), none⟩, ⟨(some 18), (.call (.k (.v (.c (.func 143 [])))) [(.t 16), (.t 17)]), none⟩, ⟨(some 2), (.mv (.t 18)), none⟩] []) .ret))) }
theorem t131 : compF Tryd.prog (globs2 tabs opq) false true Tryd.f131 = some c131.erase := by kernel_rfl
noncomputable def b131_0 (O : Oracle) (R : Jump) (q : Nat) (x0 : TVal) (h : Heap) : Res1 :=
  vtoInt .u32 x0 h fun x4 h =>
  vbin .leq 0 x4 (.v (.c (.p (.int .u32 255)))) h fun x5 h =>
  vif x5 (
  vbin .eql 0 x0 (.v (.c (.p (.int .i32 9)))) h fun x8 h =>
  vif x8 (
  R 1 [x8] h)
  (vbin .eql 0 x0 (.v (.c (.p (.int .i32 10)))) h fun x9 h =>
  vif x9 (
  R 1 [x9] h)
  (vbin .eql 0 x0 (.v (.c (.p (.int .i32 11)))) h fun x10 h =>
  vif x10 (
  R 1 [x10] h)
  (vbin .eql 0 x0 (.v (.c (.p (.int .i32 12)))) h fun x11 h =>
  vif x11 (
  R 1 [x11] h)
  (vbin .eql 0 x0 (.v (.c (.p (.int .i32 13)))) h fun x12 h =>
  vif x12 (
  R 1 [x12] h)
  (vbin .eql 0 x0 (.v (.c (.p (.int .i32 32)))) h fun x13 h =>
  vif x13 (
  R 1 [x13] h)
  (vbin .eql 0 x0 (.v (.c (.p (.int .i32 133)))) h fun x14 h =>
  vif x14 (
  R 1 [x14] h)
  (vbin .eql 0 x0 (.v (.c (.p (.int .i32 160)))) h fun x15 h =>
  R 1 [x15] h))))))))
  (none)
theorem e131_0 (O : Oracle) (R : Jump) (q : Nat) (x0 : TVal) (h : Heap) : b131_0 O R q x0 h = stepF c131 O R q 0 [x0] h := by kernel_rfl
noncomputable def b131_1 (O : Oracle) (R : Jump) (q : Nat) (x7 : TVal) (h : Heap) : Res1 :=
  vif x7 (
  tcomp (kB true) fun c0 => vfin true q [c0] h)
  (tcomp (kB false) fun c0 => vfin true q [c0] h)
theorem e131_1 (O : Oracle) (R : Jump) (q : Nat) (x7 : TVal) (h : Heap) : b131_1 O R q x7 h = stepF c131 O R q 1 [x7] h := by kernel_rfl
noncomputable def d131 : BlkF := fun O R q => [.s fun y0 => .z fun h => b131_0 O R q y0 h, .s fun y0 => .z fun h => b131_1 O R q y0 h]
theorem o131 (O : Oracle) (R : Jump) (q : Nat) : HoldsAll c131 O R q 0 (d131 O R q) := ⟨fun y0 h => e131_0 O R q y0 h, fun y0 h => e131_1 O R q y0 h, trivial⟩
/- internal/bytealg.hashStr[string] -/
def c133 : MFunc := { np := 1, res := [.t 2, .t 3], frz := true, body := (.seq (.reg [⟨(some 2), (.mv (.k (.v (.c (.p (.int .u32 0)))))), none⟩, ⟨(some 3), (.mv (.k (.v (.c (.p (.int .u32 0)))))), none⟩] []) (.seq (.reg [⟨(some 4), (.mv (.k (.v (.c (.p (.int .u32 0)))))), none⟩] []) (.seq (.seq (.reg [⟨(some 5), (.mv (.k (.v (.c (.p (.int .i64 0)))))), none⟩] []) (.block 0 (.loop 1 [0, 4, 5] (.seq (.seq (.reg [⟨(some 9), (.mv (.t 5)), none⟩, ⟨(some 10), (.mv (.t 0)), none⟩, ⟨(some 11), (.len 0 (.t 10)), none⟩, ⟨(some 12), (.bin .lss 0 (.t 9) (.t 11)), none⟩] []) (.cond (.t 12) .skip (.exit 0))) (.seq (.block 1 (.reg [⟨(some 15), (.mv (.t 4)), none⟩, ⟨(some 16), (.bin .mul 0 (.t 15) (.k (.v (.c (.p (.int .u32 16777619)))))), none⟩, ⟨(some 17), (.mv (.t 0)), none⟩, ⟨(some 18), (.mv (.t 5)), none⟩, ⟨(some 19), (.index (.t 17) (.t 18)), none⟩, ⟨(some 20), (.toInt .u32 (.t 19)), none⟩, ⟨(some 21), (.bin .add 0 (.t 16) (.t 20)), none⟩, ⟨(some 4), (.mv (.t 21)), none⟩] [])) (.reg [⟨(some 13), (.mv (.t 5)), none⟩, ⟨(some 14), (.bin .add 0 (.t 13) (.k (.v (.c (.p (.int .i64 1)))))), none⟩, ⟨(some 5), (.mv (.t 14)), none⟩] [])))))) (.mark 2 [0, 4] (.seq (.reg [⟨(some 6), (.mv (.k (.v (.c (.p (.int .u32 1)))))), none⟩, ⟨(some 7), (.mv (.k (.v (.c (.p (.int .u32 16777619)))))), none⟩] []) (.seq (.seq (.reg [⟨(some 22), (.mv (.t 0)), none⟩, ⟨(some 23), (.len 0 (.t 22)), none⟩, ⟨(some 8), (.mv (.t 23)), none⟩] []) (.block 2 (.loop 3 [4, 6, 7, 8] (.seq (.seq (.reg [⟨(some 24), (.mv (.t 8)), none⟩, ⟨(some 25), (.bin .gtr 0 (.t 24) (.k (.v (.c (.p (.int .i64 0)))))), none⟩] []) (.cond (.t 25) .skip (.exit 2))) (.seq (.block 3 (.seq (.seq (.reg [⟨(some 28), (.mv (.t 8)), none⟩, ⟨(some 29), (.bin .and 0 (.t 28) (.k (.v (.c (.p (.int .i64 1)))))), none⟩, ⟨(some 30), (.bin .neq 0 (.t 29) (.k (.v (.c (.p (.int .i64 0)))))), none⟩] []) (.cond (.t 30) (.reg [⟨(some 31), (.mv (.t 6)), none⟩, ⟨(some 32), (.mv (.t 7)), none⟩, ⟨(some 33), (.bin .mul 0 (.t 31) (.t 32)), none⟩, ⟨(some 6), (.mv (.t 33)), none⟩] []) .skip)) (.mark 4 [4, 6, 7, 8] (.reg [⟨(some 34), (.mv (.t 7)), none⟩, ⟨(some 35), (.mv (.t 7)), none⟩, ⟨(some 36), (.bin .mul 0 (.t 34) (.t 35)), none⟩, ⟨(some 7), (.mv (.t 36)), none⟩] [])))) (.reg [⟨(some 26), (.mv (.t 8)), none⟩, ⟨(some 27), (.bin .shr 0 (.t 26) (.k (.v (.c (.p (.int .u64 1)))))), none⟩, ⟨(some 8), (.mv (.t 27)), none⟩] [])))))) (.seq (.reg [⟨(some 37), (.mv (.t 4)), none⟩, ⟨(some 38), (.mv (.t 6)), none⟩, ⟨(some 2), (.mv (.t 37)), none⟩, ⟨(some 3), (.mv (.t 38)), none⟩] []) .ret))))))) }
theorem t133 : compF Tryd.prog (globs2 tabs opq) false true Tryd.f133 = some c133.erase := by kernel_rfl
noncomputable def b133_0 (O : Oracle) (R : Jump) (q : Nat) (x0 : TVal) (h : Heap) : Res1 :=
  R 1 [x0, (.v (.c (.p (.int .u32 0)))), (kI 0)] h
theorem e133_0 (O : Oracle) (R : Jump) (q : Nat) (x0 : TVal) (h : Heap) : b133_0 O R q x0 h = stepF c133 O R q 0 [x0] h := by kernel_rfl
noncomputable def b133_1 (O : Oracle) (R : Jump) (q : Nat) (x0 x4 x5 : TVal) (h : Heap) : Res1 :=
  vlen O 0 x0 h 11 fun x11 h =>
  vbin .lss 0 x5 x11 h fun x12 h =>
  vif x12 (
  vbin .mul 0 x4 (.v (.c (.p (.int .u32 16777619)))) h fun x16 h =>
  vindex x0 x5 h fun x19 h =>
  vtoInt .u32 x19 h fun x20 h =>
  vbin .add 0 x16 x20 h fun x21 h =>
  vbin .add 0 x5 (kI 1) h fun x14 h =>
  R 1 [x0, x21, x14] h)
  (R 2 [x0, x4] h)
theorem e133_1 (O : Oracle) (R : Jump) (q : Nat) (x0 x4 x5 : TVal) (h : Heap) : b133_1 O R q x0 x4 x5 h = stepF c133 O R q 1 [x0, x4, x5] h := by kernel_rfl
noncomputable def b133_2 (O : Oracle) (R : Jump) (q : Nat) (x0 x4 : TVal) (h : Heap) : Res1 :=
  vlen O 0 x0 h 23 fun x23 h =>
  R 3 [x4, (.v (.c (.p (.int .u32 1)))), (.v (.c (.p (.int .u32 16777619)))), x23] h
theorem e133_2 (O : Oracle) (R : Jump) (q : Nat) (x0 x4 : TVal) (h : Heap) : b133_2 O R q x0 x4 h = stepF c133 O R q 2 [x0, x4] h := by kernel_rfl
noncomputable def b133_3 (O : Oracle) (R : Jump) (q : Nat) (x4 x6 x7 x8 : TVal) (h : Heap) : Res1 :=
  vbin .gtr 0 x8 (kI 0) h fun x25 h =>
  vif x25 (
  vbin .and 0 x8 (kI 1) h fun x29 h =>
  vbin .neq 0 x29 (kI 0) h fun x30 h =>
  vif x30 (
  vbin .mul 0 x6 x7 h fun x33 h =>
  R 4 [x4, x33, x7, x8] h)
  (R 4 [x4, x6, x7, x8] h))
  (tcomp x4 fun c0 => tcomp x6 fun c1 => vfin true q [c0, c1] h)
theorem e133_3 (O : Oracle) (R : Jump) (q : Nat) (x4 x6 x7 x8 : TVal) (h : Heap) : b133_3 O R q x4 x6 x7 x8 h = stepF c133 O R q 3 [x4, x6, x7, x8] h := by kernel_rfl
noncomputable def b133_4 (O : Oracle) (R : Jump) (q : Nat) (x4 x6 x7 x8 : TVal) (h : Heap) : Res1 :=
  vbin .mul 0 x7 x7 h fun x36 h =>
  vbin .shr 0 x8 (.v (.c (.p (.int .u64 1)))) h fun x27 h =>
  R 3 [x4, x6, x36, x27] h
theorem e133_4 (O : Oracle) (R : Jump) (q : Nat) (x4 x6 x7 x8 : TVal) (h : Heap) : b133_4 O R q x4 x6 x7 x8 h = stepF c133 O R q 4 [x4, x6, x7, x8] h := by kernel_rfl
noncomputable def d133 : BlkF := fun O R q => [.s fun y0 => .z fun h => b133_0 O R q y0 h, .s fun y0 => .s fun y1 => .s fun y2 => .z fun h => b133_1 O R q y0 y1 y2 h, .s fun y0 => .s fun y1 => .z fun h => b133_2 O R q y0 y1 h, .s fun y0 => .s fun y1 => .s fun y2 => .s fun y3 => .z fun h => b133_3 O R q y0 y1 y2 y3 h, .s fun y0 => .s fun y1 => .s fun y2 => .s fun y3 => .z fun h => b133_4 O R q y0 y1 y2 y3 h]
theorem o133 (O : Oracle) (R : Jump) (q : Nat) : HoldsAll c133 O R q 0 (d133 O R q) := ⟨fun y0 h => e133_0 O R q y0 h, fun y0 y1 y2 h => e133_1 O R q y0 y1 y2 h, fun y0 y1 h => e133_2 O R q y0 y1 h, fun y0 y1 y2 y3 h => e133_3 O R q y0 y1 y2 y3 h, fun y0 y1 y2 y3 h => e133_4 O R q y0 y1 y2 y3 h, trivial⟩
/- unicode/utf8.decodeRuneInStringSlow -/
def c134 : MFunc := { np := 1, res := [.t 2, .t 3], frz := true, body := (.seq (.reg [⟨(some 2), (.mv (.k (.v (.c (.p (.int .i32 0)))))), none⟩, ⟨(some 3), (.mv (.k (.v (.c (.p (.int .i64 0)))))), none⟩] []) (.seq (.reg [⟨(some 13), (.mv (.t 0)), none⟩, ⟨(some 14), (.len 0 (.t 13)), none⟩, ⟨(some 4), (.mv (.t 14)), none⟩] []) (.seq (.seq (.reg [⟨(some 15), (.mv (.t 4)), none⟩, ⟨(some 16), (.bin .lss 0 (.t 15) (.k (.v (.c (.p (.int .i64 1)))))), none⟩] []) (.cond (.t 16) (.seq (.reg [⟨(some 2), (.mv (.k (.v (.c (.p (.int .i32 65533)))))), none⟩, ⟨(some 3), (.mv (.k (.v (.c (.p (.int .i64 0)))))), none⟩] []) .ret) .skip)) (.seq (.reg [⟨(some 17), (.mv (.t 0)), none⟩, ⟨(some 18), (.index (.t 17) (.k (.v (.c (.p (.int .i64 0)))))), none⟩, ⟨(some 5), (.mv (.t 18)), none⟩] []) (.seq (.reg [⟨(some 19), (.mv (.t 5)), none⟩, ⟨(some 20), .bad, none⟩, ⟨(some 21), (.load false 1 (.t 20)), none⟩, ⟨(some 6), (.mv (.t 21)), none⟩] []) (.seq (.seq (.reg [⟨(some 22), (.mv (.t 6)), none⟩, ⟨(some 23), (.bin .geq 0 (.t 22) (.k (.v (.c (.p (.int .u8 240)))))), none⟩] []) (.cond (.t 23) (.seq (.reg [⟨(some 24), (.mv (.t 6)), none⟩, ⟨(some 25), (.toInt .i32 (.t 24)), none⟩, ⟨(some 26), (.bin .shl 0 (.t 25) (.k (.v (.c (.p (.int .u64 31)))))), none⟩, ⟨(some 27), (.bin .shr 0 (.t 26) (.k (.v (.c (.p (.int .u64 31)))))), none⟩, ⟨(some 7), (.mv (.t 27)), none⟩] []) (.seq (.reg [⟨(some 28), (.mv (.t 0)), none⟩, ⟨(some 29), (.index (.t 28) (.k (.v (.c (.p (.int .i64 0)))))), none⟩, ⟨(some 30), (.toInt .i32 (.t 29)), none⟩, ⟨(some 31), (.mv (.t 7)), none⟩, ⟨(some 32), (.bin .andNot 0 (.t 30) (.t 31)), none⟩, ⟨(some 33), (.mv (.t 7)), none⟩, ⟨(some 34), (.bin .and 0 (.k (.v (.c (.p (.int .i32 65533))))) (.t 33)), none⟩, ⟨(some 35), (.bin .or 0 (.t 32) (.t 34)), none⟩, ⟨(some 2), (.mv (.t 35)), none⟩, ⟨(some 3), (.mv (.k (.v (.c (.p (.int .i64 1)))))), none⟩] []) .ret)) .skip)) (.seq (.reg [⟨(some 36), (.mv (.t 6)), none⟩, ⟨(some 37), (.bin .and 0 (.t 36) (.k (.v (.c (.p (.int .u8 7)))))), none⟩, ⟨(some 38), (.toInt .i64 (.t 37)), none⟩, ⟨(some 8), (.mv (.t 38)), none⟩] []) (.seq (.reg [⟨(some 39), (.mv (.t 6)), none⟩, ⟨(some 40), (.bin .shr 0 (.t 39) (.k (.v (.c (.p (.int .u64 4)))))), none⟩, ⟨(some 41), .bad, none⟩, ⟨(some 42), (.load true 2 (.t 41)), none⟩, ⟨(some 9), (.alloc [(.p (.int .u8 0)), (.p (.int .u8 0))] false), none⟩, ⟨none, (.store 2 (.t 9) (.t 42)), none⟩] []) (.seq (.seq (.reg [⟨(some 43), (.mv (.t 4)), none⟩, ⟨(some 44), (.mv (.t 8)), none⟩, ⟨(some 45), (.bin .lss 0 (.t 43) (.t 44)), none⟩] []) (.cond (.t 45) (.seq (.reg [⟨(some 2), (.mv (.k (.v (.c (.p (.int .i32 65533)))))), none⟩, ⟨(some 3), (.mv (.k (.v (.c (.p (.int .i64 1)))))), none⟩] []) .ret) .skip)) (.seq (.reg [⟨(some 46), (.mv (.t 0)), none⟩, ⟨(some 47), (.index (.t 46) (.k (.v (.c (.p (.int .i64 1)))))), none⟩, ⟨(some 10), (.mv (.t 47)), none⟩] []) (.seq (.seq (.reg [⟨(some 48), (.mv (.t 10)), none⟩, ⟨(some 49), (.faddr 0 (.t 9)), none⟩, ⟨(some 50), (.load false 1 (.t 49)), none⟩, ⟨(some 51), (.bin .lss 0 (.t 48) (.t 50)), none⟩, ⟨(some 52), (.mv (.t 51)), none⟩, ⟨(some 53), (.faddr 1 (.t 9)), (some (52, false))⟩, ⟨(some 54), (.load false 1 (.t 53)), (some (52, false))⟩, ⟨(some 55), (.mv (.t 10)), (some (52, false))⟩, ⟨(some 56), (.bin .lss 0 (.t 54) (.t 55)), (some (52, false))⟩, ⟨(some 57), (.pick (.t 52) (.k (.v (.c (.p (.bool true))))) (.t 56)), none⟩] []) (.cond (.t 57) (.seq (.reg [⟨(some 2), (.mv (.k (.v (.c (.p (.int .i32 65533)))))), none⟩, ⟨(some 3), (.mv (.k (.v (.c (.p (.int .i64 1)))))), none⟩] []) .ret) .skip)) (.seq (.seq (.reg [⟨(some 58), (.mv (.t 8)), none⟩, ⟨(some 59), (.bin .leq 0 (.t 58) (.k (.v (.c (.p (.int .i64 2)))))), none⟩] []) (.cond (.t 59) (.seq (.reg [⟨(some 60), (.mv (.t 5)), none⟩, ⟨(some 61), (.bin .and 0 (.t 60) (.k (.v (.c (.p (.int .u8 31)))))), none⟩, ⟨(some 62), (.toInt .i32 (.t 61)), none⟩, ⟨(some 63), (.bin .shl 0 (.t 62) (.k (.v (.c (.p (.int .u64 6)))))), none⟩, ⟨(some 64), (.mv (.t 10)), none⟩, ⟨(some 65), (.bin .and 0 (.t 64) (.k (.v (.c (.p (.int .u8 63)))))), none⟩, ⟨(some 66), (.toInt .i32 (.t 65)), none⟩, ⟨(some 67), (.bin .or 0 (.t 63) (.t 66)), none⟩, ⟨(some 2), (.mv (.t 67)), none⟩, ⟨(some 3), (.mv (.k (.v (.c (.p (.int .i64 2)))))), none⟩] []) .ret) .skip)) (.seq (.reg [⟨(some 68), (.mv (.t 0)), none⟩, ⟨(some 69), (.index (.t 68) (.k (.v (.c (.p (.int .i64 2)))))), none⟩, ⟨(some 11), (.mv (.t 69)), none⟩] []) (.seq (.seq (.reg [⟨(some 70), (.mv (.t 11)), none⟩, ⟨(some 71), (.bin .lss 0 (.t 70) (.k (.v (.c (.p (.int .u8 128)))))), none⟩, ⟨(some 72), (.mv (.t 71)), none⟩, ⟨(some 73), (.mv (.t 11)), (some (72, false))⟩, ⟨(some 74), (.bin .lss 0 (.k (.v (.c (.p (.int .u8 191))))) (.t 73)), (some (72, false))⟩, ⟨(some 75), (.pick (.t 72) (.k (.v (.c (.p (.bool true))))) (.t 74)), none⟩] []) (.cond (.t 75) (.seq (.reg [⟨(some 2), (.mv (.k (.v (.c (.p (.int .i32 65533)))))), none⟩, ⟨(some 3), (.mv (.k (.v (.c (.p (.int .i64 1)))))), none⟩] []) .ret) .skip)) (.seq (.seq (.reg [⟨(some 76), (.mv (.t 8)), none⟩, ⟨(some 77), (.bin .leq 0 (.t 76) (.k (.v (.c (.p (.int .i64 3)))))), none⟩] []) (.cond (.t 77) (.seq (.reg [⟨(some 78), (.mv (.t 5)), none⟩, ⟨(some 79), (.bin .and 0 (.t 78) (.k (.v (.c (.p (.int .u8 15)))))), none⟩, ⟨(some 80), (.toInt .i32 (.t 79)), none⟩, ⟨(some 81), (.bin .shl 0 (.t 80) (.k (.v (.c (.p (.int .u64 12)))))), none⟩, ⟨(some 82), (.mv (.t 10)), none⟩, ⟨(some 83), (.bin .and 0 (.t 82) (.k (.v (.c (.p (.int .u8 63)))))), none⟩, ⟨(some 84), (.toInt .i32 (.t 83)), none⟩, ⟨(some 85), (.bin .shl 0 (.t 84) (.k (.v (.c (.p (.int .u64 6)))))), none⟩, ⟨(some 86), (.bin .or 0 (.t 81) (.t 85)), none⟩, ⟨(some 87), (.mv (.t 11)), none⟩, ⟨(some 88), (.bin .and 0 (.t 87) (.k (.v (.c (.p (.int .u8 63)))))), none⟩, ⟨(some 89), (.toInt .i32 (.t 88)), none⟩, ⟨(some 90), (.bin .or 0 (.t 86) (.t 89)), none⟩, ⟨(some 2), (.mv (.t 90)), none⟩, ⟨(some 3), (.mv (.k (.v (.c (.p (.int .i64 3)))))), none⟩] []) .ret) .skip)) (.seq (.reg [⟨(some 91), (.mv (.t 0)), none⟩, ⟨(some 92), (.index (.t 91) (.k (.v (.c (.p (.int .i64 3)))))), none⟩, ⟨(some 12), (.mv (.t 92)), none⟩] []) (.seq (.seq (.reg [⟨(some 93), (.mv (.t 12)), none⟩, ⟨(some 94), (.bin .lss 0 (.t 93) (.k (.v (.c (.p (.int .u8 128)))))), none⟩, ⟨(some 95), (.mv (.t 94)), none⟩, ⟨(some 96), (.mv (.t 12)), (some (95, false))⟩, ⟨(some 97), (.bin .lss 0 (.k (.v (.c (.p (.int .u8 191))))) (.t 96)), (some (95, false))⟩, ⟨(some 98), (.pick (.t 95) (.k (.v (.c (.p (.bool true))))) (.t 97)), none⟩] []) (.cond (.t 98) (.seq (.reg [⟨(some 2), (.mv (.k (.v (.c (.p (.int .i32 65533)))))), none⟩, ⟨(some 3), (.mv (.k (.v (.c (.p (.int .i64 1)))))), none⟩] []) .ret) .skip)) (.seq (.reg [⟨(some 99), (.mv (.t 5)), none⟩, ⟨(some 100), (.bin .and 0 (.t 99) (.k (.v (.c (.p (.int .u8 7)))))), none⟩, ⟨(some 101), (.toInt .i32 (.t 100)), none⟩, ⟨(some 102), (.bin .shl 0 (.t 101) (.k (.v (.c (.p (.int .u64 18)))))), none⟩, ⟨(some 103), (.mv (.t 10)), none⟩, ⟨(some 104), (.bin .and 0 (.t 103) (.k (.v (.c (.p (.int .u8 63)))))), none⟩, ⟨(some 105), (.toInt .i32 (.t 104)), none⟩, ⟨(some 106), (.bin .shl 0 (.t 105) (.k (.v (.c (.p (.int .u64 12)))))), none⟩, ⟨(some 107), (.bin .or 0 (.t 102) (.t 106)), none⟩, ⟨(some 108), (.mv (.t 11)), none⟩, ⟨(some 109), (.bin .and 0 (.t 108) (.k (.v (.c (.p (.int .u8 63)))))), none⟩, ⟨(some 110), (.toInt .i32 (.t 109)), none⟩, ⟨(some 111), (.bin .shl 0 (.t 110) (.k (.v (.c (.p (.int .u64 6)))))), none⟩, ⟨(some 112), (.bin .or 0 (.t 107) (.t 111)), none⟩, ⟨(some 113), (.mv (.t 12)), none⟩, ⟨(some 114), (.bin .and 0 (.t 113) (.k (.v (.c (.p (.int .u8 63)))))), none⟩, ⟨(some 115), (.toInt .i32 (.t 114)), none⟩, ⟨(some 116), (.bin .or 0 (.t 112) (.t 115)), none⟩, ⟨(some 2), (.mv (.t 116)), none⟩, ⟨(some 3), (.mv (.k (.v (.c (.p (.int .i64 4)))))), none⟩] []) .ret)))))))))))))))))) }
theorem t134 : compF Tryd.prog (globs2 tabs opq) false true Tryd.f134 = some c134.erase := by kernel_rfl
noncomputable def b134_0 (O : Oracle) (R : Jump) (q : Nat) (x0 : TVal) (h : Heap) : Res1 :=
  vlen O 0 x0 h 14 fun x14 h =>
  vbin .lss 0 x14 (kI 1) h fun x16 h =>
  vif x16 (
  tcomp (.v (.c (.p (.int .i32 65533)))) fun c0 => tcomp (kI 0) fun c1 => vfin true q [c0, c1] h)
  (vindex x0 (kI 0) h fun x18 h =>
  none)
theorem e134_0 (O : Oracle) (R : Jump) (q : Nat) (x0 : TVal) (h : Heap) : b134_0 O R q x0 h = stepF c134 O R q 0 [x0] h := by kernel_rfl
noncomputable def d134 : BlkF := fun O R q => [.s fun y0 => .z fun h => b134_0 O R q y0 h]
theorem o134 (O : Oracle) (R : Jump) (q : Nat) : HoldsAll c134 O R q 0 (d134 O R q) := ⟨fun y0 h => e134_0 O R q y0 h, trivial⟩
/- strings.IndexRune -/
def c135 : MFunc := { np := 2, res := [.t 4], frz := true, body := (.seq (.reg [⟨(some 4), (.mv (.k (.v (.c (.p (.int .i64 0)))))), none⟩] []) (.block 0 (.seq (.reg [⟨(some 161), (.mv (.t 1)), none⟩, ⟨(some 162), (.bin .leq 0 (.k (.v (.c (.p (.int .i32 0))))) (.t 161)), none⟩, ⟨(some 163), (.mv (.t 162)), none⟩, ⟨(some 164), (.mv (.t 1)), (some (163, true))⟩, ⟨(some 165), (.bin .lss 0 (.t 164) (.k (.v (.c (.p (.int .i32 128)))))), (some (163, true))⟩, ⟨(some 166), (.pick (.t 163) (.t 165) (.k (.v (.c (.p (.bool false)))))), none⟩, ⟨(some 160), (.mv (.t 166)), none⟩] []) (.cond (.t 160) (.seq (.reg [⟨(some 167), (.mv (.t 0)), none⟩, ⟨(some 168), (.mv (.t 1)), none⟩, ⟨(some 169), (.toInt .u8 (.t 168)), none⟩, ⟨(some 170), (.call (.k (.v (.c (.func 144 [])))) [(.t 167), (.t 169)]), none⟩, ⟨(some 4), (.mv (.t 170)), none⟩] []) .ret) (.seq (.reg [⟨(some 172), (.mv (.t 1)), none⟩, ⟨(some 173), (.bin .eql 0 (.t 172) (.k (.v (.c (.p (.int .i32 65533)))))), none⟩, ⟨(some 171), (.mv (.t 173)), none⟩] []) (.cond (.t 171) (.seq (.seq (.reg [⟨(some 174), (.mv (.t 0)), none⟩, ⟨(some 175), (.rangeS (.t 174)), none⟩] []) (.block 9 (.loop 1 [175] (.seq (.reg [⟨(some 176), (.nextS (.t 175)), none⟩, ⟨(some 177), (.extract (.t 176) 0), none⟩] []) (.seq (.cond (.t 177) .skip (.exit 9)) (.block 10 (.seq (.reg [⟨(some 178), (.extract (.t 176) 1), none⟩, ⟨(some 179), (.extract (.t 176) 2), none⟩, ⟨(some 5), (.mv (.t 178)), none⟩, ⟨(some 6), (.mv (.t 179)), none⟩] []) (.seq (.reg [⟨(some 180), (.mv (.t 6)), none⟩, ⟨(some 181), (.bin .eql 0 (.t 180) (.k (.v (.c (.p (.int .i32 65533)))))), none⟩] []) (.cond (.t 181) (.seq (.reg [⟨(some 182), (.mv (.t 5)), none⟩, ⟨(some 4), (.mv (.t 182)), none⟩] []) .ret) .skip))))))))) (.seq (.reg [⟨(some 4), (.mv (.k (.v (.c (.p (.int .i64 (-1))))))), none⟩] []) .ret)) (.seq (.reg [⟨(some 184), (.mv (.t 1)), none⟩, ⟨(some 185), (.call (.k (.v (.c (.func 145 [])))) [(.t 184)]), none⟩, ⟨(some 186), (.un .not (.t 185)), none⟩, ⟨(some 183), (.mv (.t 186)), none⟩] []) (.cond (.t 183) (.seq (.reg [⟨(some 4), (.mv (.k (.v (.c (.p (.int .i64 (-1))))))), none⟩] []) .ret) (.scope (.seq (.reg [⟨(some 17), (.mv (.t 1)), none⟩, ⟨(some 18), .bad, none⟩, ⟨(some 7), (.mv (.t 18)), none⟩] []) (.seq (.reg [⟨(some 19), (.mv (.t 7)), none⟩, ⟨(some 20), (.len 0 (.t 19)), none⟩, ⟨(some 21), (.bin .sub 0 (.t 20) (.k (.v (.c (.p (.int .i64 1)))))), none⟩, ⟨(some 8), (.mv (.t 21)), none⟩] []) (.seq (.reg [⟨(some 22), (.mv (.t 8)), none⟩, ⟨(some 9), (.mv (.t 22)), none⟩] []) (.seq (.reg [⟨(some 10), (.mv (.k (.v (.c (.p (.int .i64 0)))))), none⟩] []) (.seq (.block 1 (.loop 2 [0, 7, 8, 9] (.seq (.seq (.reg [⟨(some 23), (.mv (.t 9)), none⟩, ⟨(some 24), (.mv (.t 0)), none⟩, ⟨(some 25), (.len 0 (.t 24)), none⟩, ⟨(some 26), (.bin .lss 0 (.t 23) (.t 25)), none⟩] []) (.cond (.t 26) .skip (.exit 1))) (.block 2 (.scope (.seq (.seq (.reg [⟨(some 27), (.mv (.t 0)), none⟩, ⟨(some 28), (.mv (.t 9)), none⟩, ⟨(some 29), (.index (.t 27) (.t 28)), none⟩, ⟨(some 30), (.mv (.t 7)), none⟩, ⟨(some 31), (.mv (.t 8)), none⟩, ⟨(some 32), (.index (.t 30) (.t 31)), none⟩, ⟨(some 33), (.bin .neq 0 (.t 29) (.t 32)), none⟩] []) (.cond (.t 33) (.seq (.reg [⟨(some 34), (.mv (.t 0)), none⟩, ⟨(some 35), (.mv (.t 9)), none⟩, ⟨(some 36), (.bin .add 0 (.t 35) (.k (.v (.c (.p (.int .i64 1)))))), none⟩, ⟨(some 37), (.slice 0 true (.t 34) (some (.t 36)) none none), none⟩, ⟨(some 38), (.mv (.t 7)), none⟩, ⟨(some 39), (.mv (.t 8)), none⟩, ⟨(some 40), (.index (.t 38) (.t 39)), none⟩, ⟨(some 41), (.call (.k (.v (.c (.func 144 [])))) [(.t 37), (.t 40)]), none⟩, ⟨(some 11), (.mv (.t 41)), none⟩] []) (.seq (.seq (.reg [⟨(some 42), (.mv (.t 11)), none⟩, ⟨(some 43), (.bin .lss 0 (.t 42) (.k (.v (.c (.p (.int .i64 0)))))), none⟩] []) (.cond (.t 43) (.seq (.reg [⟨(some 4), (.mv (.k (.v (.c (.p (.int .i64 (-1))))))), none⟩] []) .ret) .skip)) (.reg [⟨(some 44), (.mv (.t 9)), none⟩, ⟨(some 45), (.mv (.t 11)), none⟩, ⟨(some 46), (.bin .add 0 (.t 45) (.k (.v (.c (.p (.int .i64 1)))))), none⟩, ⟨(some 47), (.bin .add 0 (.t 44) (.t 46)), none⟩, ⟨(some 9), (.mv (.t 47)), none⟩] []))) .skip)) (.mark 3 [0, 7, 8, 9] (.seq (.seq (.reg [⟨(some 12), (.mv (.k (.v (.c (.p (.int .i64 1)))))), none⟩] []) (.block 3 (.loop 4 [0, 7, 8, 9, 12] (.seq (.seq (.reg [⟨(some 48), (.mv (.t 12)), none⟩, ⟨(some 49), (.mv (.t 7)), none⟩, ⟨(some 50), (.len 0 (.t 49)), none⟩, ⟨(some 51), (.bin .lss 0 (.t 48) (.t 50)), none⟩] []) (.cond (.t 51) .skip (.exit 3))) (.seq (.block 4 (.seq (.reg [⟨(some 54), (.mv (.t 0)), none⟩, ⟨(some 55), (.mv (.t 9)), none⟩, ⟨(some 56), (.mv (.t 12)), none⟩, ⟨(some 57), (.bin .sub 0 (.t 55) (.t 56)), none⟩, ⟨(some 58), (.index (.t 54) (.t 57)), none⟩, ⟨(some 59), (.mv (.t 7)), none⟩, ⟨(some 60), (.mv (.t 8)), none⟩, ⟨(some 61), (.mv (.t 12)), none⟩, ⟨(some 62), (.bin .sub 0 (.t 60) (.t 61)), none⟩, ⟨(some 63), (.index (.t 59) (.t 62)), none⟩, ⟨(some 64), (.bin .neq 0 (.t 58) (.t 63)), none⟩] []) (.cond (.t 64) .bad .skip))) (.reg [⟨(some 52), (.mv (.t 12)), none⟩, ⟨(some 53), (.bin .add 0 (.t 52) (.k (.v (.c (.p (.int .i64 1)))))), none⟩, ⟨(some 12), (.mv (.t 53)), none⟩] [])))))) (.mark 5 [8, 9] (.seq (.seq (.reg [⟨(some 65), (.mv (.t 9)), none⟩, ⟨(some 66), (.mv (.t 8)), none⟩, ⟨(some 67), (.bin .sub 0 (.t 65) (.t 66)), none⟩, ⟨(some 4), (.mv (.t 67)), none⟩] []) .ret) (.seq .skip (.seq (.reg [⟨(some 68), (.mv (.t 10)), none⟩, ⟨(some 69), (.bin .add 0 (.t 68) (.k (.v (.c (.p (.int .i64 1)))))), none⟩, ⟨(some 10), (.mv (.t 69)), none⟩] []) (.seq (.reg [⟨(some 70), (.mv (.t 9)), none⟩, ⟨(some 71), (.bin .add 0 (.t 70) (.k (.v (.c (.p (.int .i64 1)))))), none⟩, ⟨(some 9), (.mv (.t 71)), none⟩] []) (.seq (.reg [⟨(some 72), (.mv (.k (.v (.c (.p (.bool true)))))), none⟩, ⟨(some 73), (.mv (.t 10)), (some (72, true))⟩, ⟨(some 74), (.mv (.t 9)), (some (72, true))⟩, ⟨(some 75), (.call (.k (.v (.c (.func 110 [])))) [(.t 74)]), (some (72, true))⟩, ⟨(some 76), (.bin .gtr 0 (.t 73) (.t 75)), (some (72, true))⟩, ⟨(some 77), (.pick (.t 72) (.t 76) (.k (.v (.c (.p (.bool false)))))), none⟩, ⟨(some 78), (.mv (.t 77)), none⟩, ⟨(some 79), (.mv (.t 9)), (some (78, true))⟩, ⟨(some 80), (.mv (.t 0)), (some (78, true))⟩, ⟨(some 81), (.len 0 (.t 80)), (some (78, true))⟩, ⟨(some 82), (.bin .lss 0 (.t 79) (.t 81)), (some (78, true))⟩, ⟨(some 83), (.pick (.t 78) (.t 82) (.k (.v (.c (.p (.bool false)))))), none⟩, ⟨(some 84), (.mv (.t 83)), none⟩, ⟨(some 85), (.mv (.k (.v (.c (.p (.bool false)))))), (some (84, false))⟩, ⟨(some 86), (.mv (.t 10)), (some (85, true))⟩, ⟨(some 87), (.mv (.t 9)), (some (85, true))⟩, ⟨(some 88), (.bin .shr 0 (.t 87) (.k (.v (.c (.p (.int .u64 4)))))), (some (85, true))⟩, ⟨(some 89), (.bin .add 0 (.k (.v (.c (.p (.int .i64 4))))) (.t 88)), (some (85, true))⟩, ⟨(some 90), (.bin .geq 0 (.t 86) (.t 89)), (some (85, true))⟩, ⟨(some 91), (.pick (.t 85) (.t 90) (.k (.v (.c (.p (.bool false)))))), (some (84, false))⟩, ⟨(some 92), (.mv (.t 91)), (some (84, false))⟩, ⟨(some 93), (.mv (.t 9)), (some (92, true))⟩, ⟨(some 94), (.mv (.t 0)), (some (92, true))⟩, ⟨(some 95), (.len 0 (.t 94)), (some (92, true))⟩, ⟨(some 96), (.bin .lss 0 (.t 93) (.t 95)), (some (92, true))⟩, ⟨(some 97), (.pick (.t 92) (.t 96) (.k (.v (.c (.p (.bool false)))))), (some (84, false))⟩, ⟨(some 98), (.pick (.t 84) (.k (.v (.c (.p (.bool true))))) (.t 97)), none⟩] []) (.cond (.t 98) .bad .skip))))))))))))))) (.mark 6 [] (.seq (.seq (.reg [⟨(some 4), (.mv (.k (.v (.c (.p (.int .i64 (-1))))))), none⟩] []) .ret) (.seq .skip (.seq (.cond (.k (.v (.c (.p (.bool true))))) (.seq (.reg [⟨(some 99), (.mv (.t 0)), none⟩, ⟨(some 100), (.mv (.t 9)), none⟩, ⟨(some 101), (.mv (.t 8)), none⟩, ⟨(some 102), (.bin .sub 0 (.t 100) (.t 101)), none⟩, ⟨(some 103), (.slice 0 true (.t 99) (some (.t 102)) none none), none⟩, ⟨(some 104), (.mv (.t 1)), none⟩, ⟨(some 105), .bad, none⟩, ⟨(some 106), (.call (.k (.v (.c (.func 109 [])))) [(.t 103), (.t 105)]), none⟩, ⟨(some 13), (.mv (.t 106)), none⟩] []) (.seq (.reg [⟨(some 107), (.mv (.t 13)), none⟩, ⟨(some 108), (.bin .geq 0 (.t 107) (.k (.v (.c (.p (.int .i64 0)))))), none⟩] []) (.cond (.t 108) (.seq (.reg [⟨(some 109), (.mv (.t 9)), none⟩, ⟨(some 110), (.mv (.t 13)), none⟩, ⟨(some 111), (.bin .add 0 (.t 109) (.t 110)), none⟩, ⟨(some 112), (.mv (.t 8)), none⟩, ⟨(some 113), (.bin .sub 0 (.t 111) (.t 112)), none⟩, ⟨(some 4), (.mv (.t 113)), none⟩] []) .ret) .skip))) (.scope (.seq (.reg [⟨(some 114), (.mv (.t 7)), none⟩, ⟨(some 115), (.mv (.t 8)), none⟩, ⟨(some 116), (.index (.t 114) (.t 115)), none⟩, ⟨(some 14), (.mv (.t 116)), none⟩] []) (.seq (.reg [⟨(some 117), (.mv (.t 7)), none⟩, ⟨(some 118), (.mv (.t 8)), none⟩, ⟨(some 119), (.bin .sub 0 (.t 118) (.k (.v (.c (.p (.int .i64 1)))))), none⟩, ⟨(some 120), (.index (.t 117) (.t 119)), none⟩, ⟨(some 15), (.mv (.t 120)), none⟩] []) (.seq .skip (.block 5 (.loop 7 [0, 7, 8, 9, 14, 15] (.seq (.seq (.reg [⟨(some 121), (.mv (.t 9)), none⟩, ⟨(some 122), (.mv (.t 0)), none⟩, ⟨(some 123), (.len 0 (.t 122)), none⟩, ⟨(some 124), (.bin .lss 0 (.t 121) (.t 123)), none⟩] []) (.cond (.t 124) .skip (.exit 5))) (.seq (.block 6 (.seq (.reg [⟨(some 127), (.mv (.t 0)), none⟩, ⟨(some 128), (.mv (.t 9)), none⟩, ⟨(some 129), (.index (.t 127) (.t 128)), none⟩, ⟨(some 130), (.mv (.t 14)), none⟩, ⟨(some 131), (.bin .eql 0 (.t 129) (.t 130)), none⟩, ⟨(some 132), (.mv (.t 131)), none⟩, ⟨(some 133), (.mv (.t 0)), (some (132, true))⟩, ⟨(some 134), (.mv (.t 9)), (some (132, true))⟩, ⟨(some 135), (.bin .sub 0 (.t 134) (.k (.v (.c (.p (.int .i64 1)))))), (some (132, true))⟩, ⟨(some 136), (.index (.t 133) (.t 135)), (some (132, true))⟩, ⟨(some 137), (.mv (.t 15)), (some (132, true))⟩, ⟨(some 138), (.bin .eql 0 (.t 136) (.t 137)), (some (132, true))⟩, ⟨(some 139), (.pick (.t 132) (.t 138) (.k (.v (.c (.p (.bool false)))))), none⟩] []) (.cond (.t 139) (.seq (.seq (.reg [⟨(some 16), (.mv (.k (.v (.c (.p (.int .i64 2)))))), none⟩] []) (.block 7 (.loop 8 [0, 7, 8, 9, 14, 15, 16] (.seq (.seq (.reg [⟨(some 140), (.mv (.t 16)), none⟩, ⟨(some 141), (.mv (.t 7)), none⟩, ⟨(some 142), (.len 0 (.t 141)), none⟩, ⟨(some 143), (.bin .lss 0 (.t 140) (.t 142)), none⟩] []) (.cond (.t 143) .skip (.exit 7))) (.seq (.block 8 (.seq (.reg [⟨(some 146), (.mv (.t 0)), none⟩, ⟨(some 147), (.mv (.t 9)), none⟩, ⟨(some 148), (.mv (.t 16)), none⟩, ⟨(some 149), (.bin .sub 0 (.t 147) (.t 148)), none⟩, ⟨(some 150), (.index (.t 146) (.t 149)), none⟩, ⟨(some 151), (.mv (.t 7)), none⟩, ⟨(some 152), (.mv (.t 8)), none⟩, ⟨(some 153), (.mv (.t 16)), none⟩, ⟨(some 154), (.bin .sub 0 (.t 152) (.t 153)), none⟩, ⟨(some 155), (.index (.t 151) (.t 154)), none⟩, ⟨(some 156), (.bin .neq 0 (.t 150) (.t 155)), none⟩] []) (.cond (.t 156) (.exit 6) .skip))) (.reg [⟨(some 144), (.mv (.t 16)), none⟩, ⟨(some 145), (.bin .add 0 (.t 144) (.k (.v (.c (.p (.int .i64 1)))))), none⟩, ⟨(some 16), (.mv (.t 145)), none⟩] [])))))) (.mark 9 [8, 9] (.seq (.reg [⟨(some 157), (.mv (.t 9)), none⟩, ⟨(some 158), (.mv (.t 8)), none⟩, ⟨(some 159), (.bin .sub 0 (.t 157) (.t 158)), none⟩, ⟨(some 4), (.mv (.t 159)), none⟩] []) .ret))) .skip))) (.mark 10 [0, 7, 8, 9, 14, 15] (.reg [⟨(some 125), (.mv (.t 9)), none⟩, ⟨(some 126), (.bin .add 0 (.t 125) (.k (.v (.c (.p (.int .i64 1)))))), none⟩, ⟨(some 9), (.mv (.t 126)), none⟩] []))))))))))) (.seq (.reg [⟨(some 4), (.mv (.k (.v (.c (.p (.int .i64 (-1))))))), none⟩] []) .ret))))))))))))))))))) }
theorem t135 : compF Tryd.prog (globs2 tabs opq) false true Tryd.f135 = some c135.erase := by kernel_rfl
noncomputable def b135_0 (O : Oracle) (R : Jump) (q : Nat) (x0 x1 : TVal) (h : Heap) : Res1 :=
  vbin .leq 0 (.v (.c (.p (.int .i32 0)))) x1 h fun x162 h =>
  vguard x162 true (fun kk => kk x1 h) h fun x164 h =>
  vguard x162 true (fun kk => vbin .lss 0 x164 (.v (.c (.p (.int .i32 128)))) h kk) h fun x165 h =>
  vop O (.pick (.k x162) (.k x165) (.k (kB false))) h 166 fun x166 h =>
  vif x166 (
  vtoInt .u8 x1 h fun x169 h =>
  vcall O (.v (.c (.func 144 []))) [x0, x169] h 170 fun x170 h =>
  tcomp x170 fun c0 => vfin true q [c0] h)
  (vbin .eql 0 x1 (.v (.c (.p (.int .i32 65533)))) h fun x173 h =>
  vif x173 (
  vop O (.rangeS (.k x0)) h 175 fun x175 h =>
  R 1 [x175] h)
  (vcall O (.v (.c (.func 145 []))) [x1] h 185 fun x185 h =>
  vop O (.un .not (.k x185)) h 186 fun x186 h =>
  vif x186 (
  tcomp (kI (-1)) fun c0 => vfin true q [c0] h)
  (none)))
theorem e135_0 (O : Oracle) (R : Jump) (q : Nat) (x0 x1 : TVal) (h : Heap) : b135_0 O R q x0 x1 h = stepF c135 O R q 0 [x0, x1] h := by kernel_rfl
noncomputable def b135_1 (O : Oracle) (R : Jump) (q : Nat) (x175 : TVal) (h : Heap) : Res1 :=
  vop O (.nextS (.k x175)) h 176 fun x176 h =>
  vext x176 0 h fun x177 h =>
  vif x177 (
  vext x176 1 h fun x178 h =>
  vext x176 2 h fun x179 h =>
  vbin .eql 0 x179 (.v (.c (.p (.int .i32 65533)))) h fun x181 h =>
  vif x181 (
  tcomp x178 fun c0 => vfin true q [c0] h)
  (R 1 [x175] h))
  (tcomp (kI (-1)) fun c0 => vfin true q [c0] h)
theorem e135_1 (O : Oracle) (R : Jump) (q : Nat) (x175 : TVal) (h : Heap) : b135_1 O R q x175 h = stepF c135 O R q 1 [x175] h := by kernel_rfl
noncomputable def b135_2 (O : Oracle) (R : Jump) (q : Nat) (x0 x7 x8 x9 : TVal) (h : Heap) : Res1 :=
  vlen O 0 x0 h 25 fun x25 h =>
  vbin .lss 0 x9 x25 h fun x26 h =>
  vif x26 (
  vindex x0 x9 h fun x29 h =>
  vindex x7 x8 h fun x32 h =>
  vbin .neq 0 x29 x32 h fun x33 h =>
  vif x33 (
  vbin .add 0 x9 (kI 1) h fun x36 h =>
  vop O (.slice 0 true (.k x0) (some (.k x36)) none none) h 37 fun x37 h =>
  vindex x7 x8 h fun x40 h =>
  vcall O (.v (.c (.func 144 []))) [x37, x40] h 41 fun x41 h =>
  vbin .lss 0 x41 (kI 0) h fun x43 h =>
  vif x43 (
  tcomp (kI (-1)) fun c0 => vfin true q [c0] h)
  (vbin .add 0 x41 (kI 1) h fun x46 h =>
  vbin .add 0 x9 x46 h fun x47 h =>
  R 3 [x0, x7, x8, x47] h))
  (R 3 [x0, x7, x8, x9] h))
  (R 6 [] h)
theorem e135_2 (O : Oracle) (R : Jump) (q : Nat) (x0 x7 x8 x9 : TVal) (h : Heap) : b135_2 O R q x0 x7 x8 x9 h = stepF c135 O R q 2 [x0, x7, x8, x9] h := by kernel_rfl
noncomputable def b135_3 (O : Oracle) (R : Jump) (q : Nat) (x0 x7 x8 x9 : TVal) (h : Heap) : Res1 :=
  R 4 [x0, x7, x8, x9, (kI 1)] h
theorem e135_3 (O : Oracle) (R : Jump) (q : Nat) (x0 x7 x8 x9 : TVal) (h : Heap) : b135_3 O R q x0 x7 x8 x9 h = stepF c135 O R q 3 [x0, x7, x8, x9] h := by kernel_rfl
noncomputable def b135_4 (O : Oracle) (R : Jump) (q : Nat) (x0 x7 x8 x9 x12 : TVal) (h : Heap) : Res1 :=
  vlen O 0 x7 h 50 fun x50 h =>
  vbin .lss 0 x12 x50 h fun x51 h =>
  vif x51 (
  vbin .sub 0 x9 x12 h fun x57 h =>
  vindex x0 x57 h fun x58 h =>
  vbin .sub 0 x8 x12 h fun x62 h =>
  vindex x7 x62 h fun x63 h =>
  vbin .neq 0 x58 x63 h fun x64 h =>
  vif x64 (
  none)
  (vbin .add 0 x12 (kI 1) h fun x53 h =>
  R 4 [x0, x7, x8, x9, x53] h))
  (R 5 [x8, x9] h)
theorem e135_4 (O : Oracle) (R : Jump) (q : Nat) (x0 x7 x8 x9 x12 : TVal) (h : Heap) : b135_4 O R q x0 x7 x8 x9 x12 h = stepF c135 O R q 4 [x0, x7, x8, x9, x12] h := by kernel_rfl
noncomputable def b135_5 (O : Oracle) (R : Jump) (q : Nat) (x8 x9 : TVal) (h : Heap) : Res1 :=
  vbin .sub 0 x9 x8 h fun x67 h =>
  tcomp x67 fun c0 => vfin true q [c0] h
theorem e135_5 (O : Oracle) (R : Jump) (q : Nat) (x8 x9 : TVal) (h : Heap) : b135_5 O R q x8 x9 h = stepF c135 O R q 5 [x8, x9] h := by kernel_rfl
noncomputable def b135_6 (O : Oracle) (R : Jump) (q : Nat) (h : Heap) : Res1 :=
  tcomp (kI (-1)) fun c0 => vfin true q [c0] h
theorem e135_6 (O : Oracle) (R : Jump) (q : Nat) (h : Heap) : b135_6 O R q  h = stepF c135 O R q 6 [] h := by kernel_rfl
noncomputable def b135_7 (O : Oracle) (R : Jump) (q : Nat) (x0 x7 x8 x9 x14 x15 : TVal) (h : Heap) : Res1 :=
  vlen O 0 x0 h 123 fun x123 h =>
  vbin .lss 0 x9 x123 h fun x124 h =>
  vif x124 (
  vindex x0 x9 h fun x129 h =>
  vbin .eql 0 x129 x14 h fun x131 h =>
  vguard x131 true (fun kk => kk x0 h) h fun x133 h =>
  vguard x131 true (fun kk => kk x9 h) h fun x134 h =>
  vguard x131 true (fun kk => vbin .sub 0 x134 (kI 1) h kk) h fun x135 h =>
  vguard x131 true (fun kk => vindex x133 x135 h kk) h fun x136 h =>
  vguard x131 true (fun kk => kk x15 h) h fun x137 h =>
  vguard x131 true (fun kk => vbin .eql 0 x136 x137 h kk) h fun x138 h =>
  vop O (.pick (.k x131) (.k x138) (.k (kB false))) h 139 fun x139 h =>
  vif x139 (
  R 8 [x0, x7, x8, x9, x14, x15, (kI 2)] h)
  (R 10 [x0, x7, x8, x9, x14, x15] h))
  (tcomp (kI (-1)) fun c0 => vfin true q [c0] h)
theorem e135_7 (O : Oracle) (R : Jump) (q : Nat) (x0 x7 x8 x9 x14 x15 : TVal) (h : Heap) : b135_7 O R q x0 x7 x8 x9 x14 x15 h = stepF c135 O R q 7 [x0, x7, x8, x9, x14, x15] h := by kernel_rfl
noncomputable def b135_8 (O : Oracle) (R : Jump) (q : Nat) (x0 x7 x8 x9 x14 x15 x16 : TVal) (h : Heap) : Res1 :=
  vlen O 0 x7 h 142 fun x142 h =>
  vbin .lss 0 x16 x142 h fun x143 h =>
  vif x143 (
  vbin .sub 0 x9 x16 h fun x149 h =>
  vindex x0 x149 h fun x150 h =>
  vbin .sub 0 x8 x16 h fun x154 h =>
  vindex x7 x154 h fun x155 h =>
  vbin .neq 0 x150 x155 h fun x156 h =>
  vif x156 (
  R 10 [x0, x7, x8, x9, x14, x15] h)
  (vbin .add 0 x16 (kI 1) h fun x145 h =>
  R 8 [x0, x7, x8, x9, x14, x15, x145] h))
  (R 9 [x8, x9] h)
theorem e135_8 (O : Oracle) (R : Jump) (q : Nat) (x0 x7 x8 x9 x14 x15 x16 : TVal) (h : Heap) : b135_8 O R q x0 x7 x8 x9 x14 x15 x16 h = stepF c135 O R q 8 [x0, x7, x8, x9, x14, x15, x16] h := by kernel_rfl
noncomputable def b135_9 (O : Oracle) (R : Jump) (q : Nat) (x8 x9 : TVal) (h : Heap) : Res1 :=
  vbin .sub 0 x9 x8 h fun x159 h =>
  tcomp x159 fun c0 => vfin true q [c0] h
theorem e135_9 (O : Oracle) (R : Jump) (q : Nat) (x8 x9 : TVal) (h : Heap) : b135_9 O R q x8 x9 h = stepF c135 O R q 9 [x8, x9] h := by kernel_rfl
noncomputable def b135_10 (O : Oracle) (R : Jump) (q : Nat) (x0 x7 x8 x9 x14 x15 : TVal) (h : Heap) : Res1 :=
  vbin .add 0 x9 (kI 1) h fun x126 h =>
  R 7 [x0, x7, x8, x126, x14, x15] h
theorem e135_10 (O : Oracle) (R : Jump) (q : Nat) (x0 x7 x8 x9 x14 x15 : TVal) (h : Heap) : b135_10 O R q x0 x7 x8 x9 x14 x15 h = stepF c135 O R q 10 [x0, x7, x8, x9, x14, x15] h := by kernel_rfl
noncomputable def d135 : BlkF := fun O R q => [.s fun y0 => .s fun y1 => .z fun h => b135_0 O R q y0 y1 h, .s fun y0 => .z fun h => b135_1 O R q y0 h, .s fun y0 => .s fun y1 => .s fun y2 => .s fun y3 => .z fun h => b135_2 O R q y0 y1 y2 y3 h, .s fun y0 => .s fun y1 => .s fun y2 => .s fun y3 => .z fun h => b135_3 O R q y0 y1 y2 y3 h, .s fun y0 => .s fun y1 => .s fun y2 => .s fun y3 => .s fun y4 => .z fun h => b135_4 O R q y0 y1 y2 y3 y4 h, .s fun y0 => .s fun y1 => .z fun h => b135_5 O R q y0 y1 h, .z fun h => b135_6 O R q  h, .s fun y0 => .s fun y1 => .s fun y2 => .s fun y3 => .s fun y4 => .s fun y5 => .z fun h => b135_7 O R q y0 y1 y2 y3 y4 y5 h, .s fun y0 => .s fun y1 => .s fun y2 => .s fun y3 => .s fun y4 => .s fun y5 => .s fun y6 => .z fun h => b135_8 O R q y0 y1 y2 y3 y4 y5 y6 h, .s fun y0 => .s fun y1 => .z fun h => b135_9 O R q y0 y1 h, .s fun y0 => .s fun y1 => .s fun y2 => .s fun y3 => .s fun y4 => .s fun y5 => .z fun h => b135_10 O R q y0 y1 y2 y3 y4 y5 h]
theorem o135 (O : Oracle) (R : Jump) (q : Nat) : HoldsAll c135 O R q 0 (d135 O R q) := ⟨fun y0 y1 h => e135_0 O R q y0 y1 h, fun y0 h => e135_1 O R q y0 h, fun y0 y1 y2 y3 h => e135_2 O R q y0 y1 y2 y3 h, fun y0 y1 y2 y3 h => e135_3 O R q y0 y1 y2 y3 h, fun y0 y1 y2 y3 y4 h => e135_4 O R q y0 y1 y2 y3 y4 h, fun y0 y1 h => e135_5 O R q y0 y1 h, fun  h => e135_6 O R q  h, fun y0 y1 y2 y3 y4 y5 h => e135_7 O R q y0 y1 y2 y3 y4 y5 h, fun y0 y1 y2 y3 y4 y5 y6 h => e135_8 O R q y0 y1 y2 y3 y4 y5 y6 h, fun y0 y1 h => e135_9 O R q y0 y1 h, fun y0 y1 y2 y3 y4 y5 h => e135_10 O R q y0 y1 y2 y3 y4 y5 h, trivial⟩
/- unicode/utf8.RuneStart -/
def c136 : MFunc := { np := 1, res := [.t 2], frz := true, body := (.seq (.reg [⟨(some 2), (.mv (.k (.v (.c (.p (.bool false)))))), none⟩] []) (.seq (.reg [⟨(some 3), (.mv (.t 0)), none⟩, ⟨(some 4), (.bin .and 0 (.t 3) (.k (.v (.c (.p (.int .u8 192)))))), none⟩, ⟨(some 5), (.bin .neq 0 (.t 4) (.k (.v (.c (.p (.int .u8 128)))))), none⟩, ⟨(some 2), (.mv (.t 5)), none⟩] []) .ret)) }
theorem t136 : compF Tryd.prog (globs2 tabs opq) false true Tryd.f136 = some c136.erase := by kernel_rfl
noncomputable def b136_0 (O : Oracle) (R : Jump) (q : Nat) (x0 : TVal) (h : Heap) : Res1 :=
  vbin .and 0 x0 (.v (.c (.p (.int .u8 192)))) h fun x4 h =>
  vbin .neq 0 x4 (.v (.c (.p (.int .u8 128)))) h fun x5 h =>
  tcomp x5 fun c0 => vfin true q [c0] h
theorem e136_0 (O : Oracle) (R : Jump) (q : Nat) (x0 : TVal) (h : Heap) : b136_0 O R q x0 h = stepF c136 O R q 0 [x0] h := by kernel_rfl
noncomputable def d136 : BlkF := fun O R q => [.s fun y0 => .z fun h => b136_0 O R q y0 h]
theorem o136 (O : Oracle) (R : Jump) (q : Nat) : HoldsAll c136 O R q 0 (d136 O R q) := ⟨fun y0 h => e136_0 O R q y0 h, trivial⟩
/- unicode.isExcludingLatin -/
def c143 : MFunc := { np := 2, res := [.t 4], frz := true, body := (.seq (.reg [⟨(some 4), (.mv (.k (.v (.c (.p (.bool false)))))), none⟩] []) (.seq (.reg [⟨(some 8), (.mv (.t 0)), none⟩, ⟨(some 9), (.nilck (.t 8)), none⟩, ⟨(some 10), (.faddr 0 (.t 9)), none⟩, ⟨(some 11), (.load false 1 (.t 10)), none⟩, ⟨(some 5), (.mv (.t 11)), none⟩] []) (.seq (.seq (.reg [⟨(some 12), (.mv (.t 0)), none⟩, ⟨(some 13), (.nilck (.t 12)), none⟩, ⟨(some 14), (.faddr 2 (.t 13)), none⟩, ⟨(some 15), (.load false 1 (.t 14)), none⟩, ⟨(some 6), (.mv (.t 15)), none⟩] []) (.seq (.reg [⟨(some 16), (.mv (.t 5)), none⟩, ⟨(some 17), (.len 2 (.t 16)), none⟩, ⟨(some 18), (.mv (.t 6)), none⟩, ⟨(some 19), (.bin .gtr 0 (.t 17) (.t 18)), none⟩, ⟨(some 20), (.mv (.t 19)), none⟩, ⟨(some 21), (.mv (.t 1)), (some (20, true))⟩, ⟨(some 22), (.toInt .u32 (.t 21)), (some (20, true))⟩, ⟨(some 23), (.mv (.t 5)), (some (20, true))⟩, ⟨(some 24), (.mv (.t 5)), (some (20, true))⟩, ⟨(some 25), (.len 2 (.t 24)), (some (20, true))⟩, ⟨(some 26), (.bin .sub 0 (.t 25) (.k (.v (.c (.p (.int .i64 1)))))), (some (20, true))⟩, ⟨(some 27), (.iaddr 3 (.t 23) (.t 26)), (some (20, true))⟩, ⟨(some 28), (.faddr 1 (.t 27)), (some (20, true))⟩, ⟨(some 29), (.load false 1 (.t 28)), (some (20, true))⟩, ⟨(some 30), (.toInt .u32 (.t 29)), (some (20, true))⟩, ⟨(some 31), (.bin .leq 0 (.t 22) (.t 30)), (some (20, true))⟩, ⟨(some 32), (.pick (.t 20) (.t 31) (.k (.v (.c (.p (.bool false)))))), none⟩] []) (.cond (.t 32) (.seq (.reg [⟨(some 33), (.mv (.t 5)), none⟩, ⟨(some 34), (.mv (.t 6)), none⟩, ⟨(some 35), (.slice 3 false (.t 33) (some (.t 34)) none none), none⟩, ⟨(some 36), (.mv (.t 1)), none⟩, ⟨(some 37), (.toInt .u16 (.t 36)), none⟩, ⟨(some 38), (.call (.k (.v (.c (.func 149 [])))) [(.t 35), (.t 37)]), none⟩, ⟨(some 4), (.mv (.t 38)), none⟩] []) .ret) .skip))) (.seq (.reg [⟨(some 39), (.mv (.t 0)), none⟩, ⟨(some 40), (.nilck (.t 39)), none⟩, ⟨(some 41), (.faddr 1 (.t 40)), none⟩, ⟨(some 42), (.load false 1 (.t 41)), none⟩, ⟨(some 7), (.mv (.t 42)), none⟩] []) (.seq (.seq (.reg [⟨(some 43), (.mv (.t 7)), none⟩, ⟨(some 44), (.len 2 (.t 43)), none⟩, ⟨(some 45), (.bin .gtr 0 (.t 44) (.k (.v (.c (.p (.int .i64 0)))))), none⟩, ⟨(some 46), (.mv (.t 45)), none⟩, ⟨(some 47), (.mv (.t 1)), (some (46, true))⟩, ⟨(some 48), (.mv (.t 7)), (some (46, true))⟩, ⟨(some 49), (.iaddr 3 (.t 48) (.k (.v (.c (.p (.int .i64 0)))))), (some (46, true))⟩, ⟨(some 50), (.faddr 0 (.t 49)), (some (46, true))⟩, ⟨(some 51), (.load false 1 (.t 50)), (some (46, true))⟩, ⟨(some 52), (.toInt .i32 (.t 51)), (some (46, true))⟩, ⟨(some 53), (.bin .geq 0 (.t 47) (.t 52)), (some (46, true))⟩, ⟨(some 54), (.pick (.t 46) (.t 53) (.k (.v (.c (.p (.bool false)))))), none⟩] []) (.cond (.t 54) (.seq (.reg [⟨(some 55), (.mv (.t 7)), none⟩, ⟨(some 56), (.mv (.t 1)), none⟩, ⟨(some 57), (.toInt .u32 (.t 56)), none⟩, ⟨(some 58), (.call (.k (.v (.c (.func 150 [])))) [(.t 55), (.t 57)]), none⟩, ⟨(some 4), (.mv (.t 58)), none⟩] []) .ret) .skip)) (.seq (.reg [⟨(some 4), (.mv (.k (.v (.c (.p (.bool false)))))), none⟩] []) .ret)))))) }
theorem t143 : compF Tryd.prog (globs2 tabs opq) false true Tryd.f143 = some c143.erase := by kernel_rfl
noncomputable def b143_0 (O : Oracle) (R : Jump) (q : Nat) (x0 x1 : TVal) (h : Heap) : Res1 :=
  vop O (.nilck (.k x0)) h 9 fun x9 h =>
  vfaddr 0 x9 h fun x10 h =>
  vload false 1 x10 h fun x11 h =>
  vop O (.nilck (.k x0)) h 13 fun x13 h =>
  vfaddr 2 x13 h fun x14 h =>
  vload false 1 x14 h fun x15 h =>
  vlen O 2 x11 h 17 fun x17 h =>
  vbin .gtr 0 x17 x15 h fun x19 h =>
  vguard x19 true (fun kk => kk x1 h) h fun x21 h =>
  vguard x19 true (fun kk => vtoInt .u32 x21 h kk) h fun x22 h =>
  vguard x19 true (fun kk => kk x11 h) h fun x23 h =>
  vguard x19 true (fun kk => kk x11 h) h fun x24 h =>
  vguard x19 true (fun kk => vlen O 2 x24 h 25 kk) h fun x25 h =>
  vguard x19 true (fun kk => vbin .sub 0 x25 (kI 1) h kk) h fun x26 h =>
  vguard x19 true (fun kk => viaddr 3 x23 x26 h kk) h fun x27 h =>
  vguard x19 true (fun kk => vfaddr 1 x27 h kk) h fun x28 h =>
  vguard x19 true (fun kk => vload false 1 x28 h kk) h fun x29 h =>
  vguard x19 true (fun kk => vtoInt .u32 x29 h kk) h fun x30 h =>
  vguard x19 true (fun kk => vbin .leq 0 x22 x30 h kk) h fun x31 h =>
  vop O (.pick (.k x19) (.k x31) (.k (kB false))) h 32 fun x32 h =>
  vif x32 (
  vop O (.slice 3 false (.k x11) (some (.k x15)) none none) h 35 fun x35 h =>
  vtoInt .u16 x1 h fun x37 h =>
  vcall O (.v (.c (.func 149 []))) [x35, x37] h 38 fun x38 h =>
  tcomp x38 fun c0 => vfin true q [c0] h)
  (vop O (.nilck (.k x0)) h 40 fun x40 h =>
  vfaddr 1 x40 h fun x41 h =>
  vload false 1 x41 h fun x42 h =>
  vlen O 2 x42 h 44 fun x44 h =>
  vbin .gtr 0 x44 (kI 0) h fun x45 h =>
  vguard x45 true (fun kk => kk x1 h) h fun x47 h =>
  vguard x45 true (fun kk => kk x42 h) h fun x48 h =>
  vguard x45 true (fun kk => viaddr 3 x48 (kI 0) h kk) h fun x49 h =>
  vguard x45 true (fun kk => vfaddr 0 x49 h kk) h fun x50 h =>
  vguard x45 true (fun kk => vload false 1 x50 h kk) h fun x51 h =>
  vguard x45 true (fun kk => vtoInt .i32 x51 h kk) h fun x52 h =>
  vguard x45 true (fun kk => vbin .geq 0 x47 x52 h kk) h fun x53 h =>
  vop O (.pick (.k x45) (.k x53) (.k (kB false))) h 54 fun x54 h =>
  vif x54 (
  vtoInt .u32 x1 h fun x57 h =>
  vcall O (.v (.c (.func 150 []))) [x42, x57] h 58 fun x58 h =>
  tcomp x58 fun c0 => vfin true q [c0] h)
  (tcomp (kB false) fun c0 => vfin true q [c0] h))
theorem e143_0 (O : Oracle) (R : Jump) (q : Nat) (x0 x1 : TVal) (h : Heap) : b143_0 O R q x0 x1 h = stepF c143 O R q 0 [x0, x1] h := by kernel_rfl
noncomputable def d143 : BlkF := fun O R q => [.s fun y0 => .s fun y1 => .z fun h => b143_0 O R q y0 y1 h]
theorem o143 (O : Oracle) (R : Jump) (q : Nat) : HoldsAll c143 O R q 0 (d143 O R q) := ⟨fun y0 y1 h => e143_0 O R q y0 y1 h, trivial⟩
/- strings.IndexByte -/
def c144 : MFunc := { np := 2, res := [.t 4], frz := true, body := (.seq (.reg [⟨(some 4), (.mv (.k (.v (.c (.p (.int .i64 0)))))), none⟩] []) (.seq (.reg [⟨(some 5), (.mv (.t 0)), none⟩, ⟨(some 6), (.mv (.t 1)), none⟩, ⟨(some 7), (.call (.k (.v (.c (.func 108 [])))) [(.t 5), (.t 6)]), none⟩, ⟨(some 4), (.mv (.t 7)), none⟩] []) .ret)) }
theorem t144 : compF Tryd.prog (globs2 tabs opq) false true Tryd.f144 = some c144.erase := by kernel_rfl
noncomputable def b144_0 (O : Oracle) (R : Jump) (q : Nat) (x0 x1 : TVal) (h : Heap) : Res1 :=
  vcall O (.v (.c (.func 108 []))) [x0, x1] h 7 fun x7 h =>
  tcomp x7 fun c0 => vfin true q [c0] h
theorem e144_0 (O : Oracle) (R : Jump) (q : Nat) (x0 x1 : TVal) (h : Heap) : b144_0 O R q x0 x1 h = stepF c144 O R q 0 [x0, x1] h := by kernel_rfl
noncomputable def d144 : BlkF := fun O R q => [.s fun y0 => .s fun y1 => .z fun h => b144_0 O R q y0 y1 h]
theorem o144 (O : Oracle) (R : Jump) (q : Nat) : HoldsAll c144 O R q 0 (d144 O R q) := ⟨fun y0 y1 h => e144_0 O R q y0 y1 h, trivial⟩
/- unicode/utf8.ValidRune -/
def c145 : MFunc := { np := 1, res := [.t 2], frz := true, body := (.seq (.reg [⟨(some 2), (.mv (.k (.v (.c (.p (.bool false)))))), none⟩] []) (.seq (.block 0 (.seq (.reg [⟨(some 4), (.mv (.t 0)), none⟩, ⟨(some 5), (.bin .leq 0 (.k (.v (.c (.p (.int .i32 0))))) (.t 4)), none⟩, ⟨(some 6), (.mv (.t 5)), none⟩, ⟨(some 7), (.mv (.t 0)), (some (6, true))⟩, ⟨(some 8), (.bin .lss 0 (.t 7) (.k (.v (.c (.p (.int .i32 55296)))))), (some (6, true))⟩, ⟨(some 9), (.pick (.t 6) (.t 8) (.k (.v (.c (.p (.bool false)))))), none⟩, ⟨(some 3), (.mv (.t 9)), none⟩] []) (.cond (.t 3) (.seq (.reg [⟨(some 2), (.mv (.k (.v (.c (.p (.bool true)))))), none⟩] []) .ret) (.seq (.reg [⟨(some 11), (.mv (.t 0)), none⟩, ⟨(some 12), (.bin .lss 0 (.k (.v (.c (.p (.int .i32 57343))))) (.t 11)), none⟩, ⟨(some 13), (.mv (.t 12)), none⟩, ⟨(some 14), (.mv (.t 0)), (some (13, true))⟩, ⟨(some 15), (.bin .leq 0 (.t 14) (.k (.v (.c (.p (.int .i32 1114111)))))), (some (13, true))⟩, ⟨(some 16), (.pick (.t 13) (.t 15) (.k (.v (.c (.p (.bool false)))))), none⟩, ⟨(some 10), (.mv (.t 16)), none⟩] []) (.cond (.t 10) (.seq (.reg [⟨(some 2), (.mv (.k (.v (.c (.p (.bool true)))))), none⟩] []) .ret) .skip))))) (.seq (.reg [⟨(some 2), (.mv (.k (.v (.c (.p (.bool false)))))), none⟩] []) .ret))) }
theorem t145 : compF Tryd.prog (globs2 tabs opq) false true Tryd.f145 = some c145.erase := by kernel_rfl
noncomputable def b145_0 (O : Oracle) (R : Jump) (q : Nat) (x0 : TVal) (h : Heap) : Res1 :=
  vbin .leq 0 (.v (.c (.p (.int .i32 0)))) x0 h fun x5 h =>
  vguard x5 true (fun kk => kk x0 h) h fun x7 h =>
  vguard x5 true (fun kk => vbin .lss 0 x7 (.v (.c (.p (.int .i32 55296)))) h kk) h fun x8 h =>
  vop O (.pick (.k x5) (.k x8) (.k (kB false))) h 9 fun x9 h =>
  vif x9 (
  tcomp (kB true) fun c0 => vfin true q [c0] h)
  (vbin .lss 0 (.v (.c (.p (.int .i32 57343)))) x0 h fun x12 h =>
  vguard x12 true (fun kk => kk x0 h) h fun x14 h =>
  vguard x12 true (fun kk => vbin .leq 0 x14 (.v (.c (.p (.int .i32 1114111)))) h kk) h fun x15 h =>
  vop O (.pick (.k x12) (.k x15) (.k (kB false))) h 16 fun x16 h =>
  vif x16 (
  tcomp (kB true) fun c0 => vfin true q [c0] h)
  (tcomp (kB false) fun c0 => vfin true q [c0] h))
theorem e145_0 (O : Oracle) (R : Jump) (q : Nat) (x0 : TVal) (h : Heap) : b145_0 O R q x0 h = stepF c145 O R q 0 [x0] h := by kernel_rfl
noncomputable def d145 : BlkF := fun O R q => [.s fun y0 => .z fun h => b145_0 O R q y0 h]
theorem o145 (O : Oracle) (R : Jump) (q : Nat) : HoldsAll c145 O R q 0 (d145 O R q) := ⟨fun y0 h => e145_0 O R q y0 h, trivial⟩
/- unicode.is16 -/
def c149 : MFunc := { np := 2, res := [.t 4], frz := true, body := (.seq (.reg [⟨(some 4), (.mv (.k (.v (.c (.p (.bool false)))))), none⟩] []) (.seq (.seq (.reg [⟨(some 11), (.mv (.t 0)), none⟩, ⟨(some 12), (.len 2 (.t 11)), none⟩, ⟨(some 13), (.bin .leq 0 (.t 12) (.k (.v (.c (.p (.int .i64 18)))))), none⟩, ⟨(some 14), (.mv (.t 13)), none⟩, ⟨(some 15), (.mv (.t 1)), (some (14, false))⟩, ⟨(some 16), (.bin .leq 0 (.t 15) (.k (.v (.c (.p (.int .u16 255)))))), (some (14, false))⟩, ⟨(some 17), (.pick (.t 14) (.k (.v (.c (.p (.bool true))))) (.t 16)), none⟩] []) (.cond (.t 17) (.seq (.seq (.reg [⟨(some 18), (.mv (.t 0)), none⟩, ⟨(some 19), (.len 2 (.t 18)), none⟩, ⟨(some 20), (.mv (.k (.v (.c (.p (.int .i64 0)))))), none⟩] []) (.block 0 (.loop 1 [0, 1, 19, 20] (.seq (.reg [⟨(some 21), (.bin .lss 0 (.t 20) (.t 19)), none⟩] []) (.seq (.cond (.t 21) .skip (.exit 0)) (.seq (.block 1 (.seq (.reg [⟨(some 22), (.mv (.t 20)), none⟩, ⟨(some 5), (.mv (.t 22)), none⟩] []) (.seq (.reg [⟨(some 23), (.mv (.t 0)), none⟩, ⟨(some 24), (.mv (.t 5)), none⟩, ⟨(some 25), (.iaddr 3 (.t 23) (.t 24)), none⟩, ⟨(some 6), (.mv (.t 25)), none⟩] []) (.seq (.seq (.reg [⟨(some 26), (.mv (.t 1)), none⟩, ⟨(some 27), (.mv (.t 6)), none⟩, ⟨(some 28), (.nilck (.t 27)), none⟩, ⟨(some 29), (.faddr 0 (.t 28)), none⟩, ⟨(some 30), (.load false 1 (.t 29)), none⟩, ⟨(some 31), (.bin .lss 0 (.t 26) (.t 30)), none⟩] []) (.cond (.t 31) (.seq (.reg [⟨(some 4), (.mv (.k (.v (.c (.p (.bool false)))))), none⟩] []) .ret) .skip)) (.seq (.reg [⟨(some 32), (.mv (.t 1)), none⟩, ⟨(some 33), (.mv (.t 6)), none⟩, ⟨(some 34), (.nilck (.t 33)), none⟩, ⟨(some 35), (.faddr 1 (.t 34)), none⟩, ⟨(some 36), (.load false 1 (.t 35)), none⟩, ⟨(some 37), (.bin .leq 0 (.t 32) (.t 36)), none⟩] []) (.cond (.t 37) (.seq (.reg [⟨(some 38), (.mv (.t 6)), none⟩, ⟨(some 39), (.nilck (.t 38)), none⟩, ⟨(some 40), (.faddr 2 (.t 39)), none⟩, ⟨(some 41), (.load false 1 (.t 40)), none⟩, ⟨(some 42), (.bin .eql 0 (.t 41) (.k (.v (.c (.p (.int .u16 1)))))), none⟩, ⟨(some 43), (.mv (.t 42)), none⟩, ⟨(some 44), (.mv (.t 1)), (some (43, false))⟩, ⟨(some 45), (.mv (.t 6)), (some (43, false))⟩, ⟨(some 46), (.nilck (.t 45)), (some (43, false))⟩, ⟨(some 47), (.faddr 0 (.t 46)), (some (43, false))⟩, ⟨(some 48), (.load false 1 (.t 47)), (some (43, false))⟩, ⟨(some 49), (.bin .sub 0 (.t 44) (.t 48)), (some (43, false))⟩, ⟨(some 50), (.mv (.t 6)), (some (43, false))⟩, ⟨(some 51), (.nilck (.t 50)), (some (43, false))⟩, ⟨(some 52), (.faddr 2 (.t 51)), (some (43, false))⟩, ⟨(some 53), (.load false 1 (.t 52)), (some (43, false))⟩, ⟨(some 54), (.bin .rem 0 (.t 49) (.t 53)), (some (43, false))⟩, ⟨(some 55), (.bin .eql 0 (.t 54) (.k (.v (.c (.p (.int .u16 0)))))), (some (43, false))⟩, ⟨(some 56), (.pick (.t 43) (.k (.v (.c (.p (.bool true))))) (.t 55)), none⟩, ⟨(some 4), (.mv (.t 56)), none⟩] []) .ret) .skip)))))) (.reg [⟨(some 57), (.bin .add 0 (.t 20) (.k (.v (.c (.p (.int .i64 1)))))), none⟩, ⟨(some 20), (.mv (.t 57)), none⟩] []))))))) (.mark 2 [] (.seq (.reg [⟨(some 4), (.mv (.k (.v (.c (.p (.bool false)))))), none⟩] []) .ret))) .skip)) (.mark 3 [0, 1] (.seq (.reg [⟨(some 7), (.mv (.k (.v (.c (.p (.int .i64 0)))))), none⟩] []) (.seq (.reg [⟨(some 58), (.mv (.t 0)), none⟩, ⟨(some 59), (.len 2 (.t 58)), none⟩, ⟨(some 8), (.mv (.t 59)), none⟩] []) (.seq (.block 2 (.loop 4 [0, 1, 7, 8] (.seq (.seq (.reg [⟨(some 60), (.mv (.t 7)), none⟩, ⟨(some 61), (.mv (.t 8)), none⟩, ⟨(some 62), (.bin .lss 0 (.t 60) (.t 61)), none⟩] []) (.cond (.t 62) .skip (.exit 2))) (.block 3 (.seq (.reg [⟨(some 63), (.mv (.t 7)), none⟩, ⟨(some 64), (.mv (.t 8)), none⟩, ⟨(some 65), (.bin .add 0 (.t 63) (.t 64)), none⟩, ⟨(some 66), (.toInt .u64 (.t 65)), none⟩, ⟨(some 67), (.bin .shr 0 (.t 66) (.k (.v (.c (.p (.int .u64 1)))))), none⟩, ⟨(some 68), (.toInt .i64 (.t 67)), none⟩, ⟨(some 9), (.mv (.t 68)), none⟩] []) (.seq (.reg [⟨(some 69), (.mv (.t 0)), none⟩, ⟨(some 70), (.mv (.t 9)), none⟩, ⟨(some 71), (.iaddr 3 (.t 69) (.t 70)), none⟩, ⟨(some 10), (.mv (.t 71)), none⟩] []) (.seq (.seq (.reg [⟨(some 72), (.mv (.t 10)), none⟩, ⟨(some 73), (.nilck (.t 72)), none⟩, ⟨(some 74), (.faddr 0 (.t 73)), none⟩, ⟨(some 75), (.load false 1 (.t 74)), none⟩, ⟨(some 76), (.mv (.t 1)), none⟩, ⟨(some 77), (.bin .leq 0 (.t 75) (.t 76)), none⟩, ⟨(some 78), (.mv (.t 77)), none⟩, ⟨(some 79), (.mv (.t 1)), (some (78, true))⟩, ⟨(some 80), (.mv (.t 10)), (some (78, true))⟩, ⟨(some 81), (.nilck (.t 80)), (some (78, true))⟩, ⟨(some 82), (.faddr 1 (.t 81)), (some (78, true))⟩, ⟨(some 83), (.load false 1 (.t 82)), (some (78, true))⟩, ⟨(some 84), (.bin .leq 0 (.t 79) (.t 83)), (some (78, true))⟩, ⟨(some 85), (.pick (.t 78) (.t 84) (.k (.v (.c (.p (.bool false)))))), none⟩] []) (.cond (.t 85) (.seq (.reg [⟨(some 86), (.mv (.t 10)), none⟩, ⟨(some 87), (.nilck (.t 86)), none⟩, ⟨(some 88), (.faddr 2 (.t 87)), none⟩, ⟨(some 89), (.load false 1 (.t 88)), none⟩, ⟨(some 90), (.bin .eql 0 (.t 89) (.k (.v (.c (.p (.int .u16 1)))))), none⟩, ⟨(some 91), (.mv (.t 90)), none⟩, ⟨(some 92), (.mv (.t 1)), (some (91, false))⟩, ⟨(some 93), (.mv (.t 10)), (some (91, false))⟩, ⟨(some 94), (.nilck (.t 93)), (some (91, false))⟩, ⟨(some 95), (.faddr 0 (.t 94)), (some (91, false))⟩, ⟨(some 96), (.load false 1 (.t 95)), (some (91, false))⟩, ⟨(some 97), (.bin .sub 0 (.t 92) (.t 96)), (some (91, false))⟩, ⟨(some 98), (.mv (.t 10)), (some (91, false))⟩, ⟨(some 99), (.nilck (.t 98)), (some (91, false))⟩, ⟨(some 100), (.faddr 2 (.t 99)), (some (91, false))⟩, ⟨(some 101), (.load false 1 (.t 100)), (some (91, false))⟩, ⟨(some 102), (.bin .rem 0 (.t 97) (.t 101)), (some (91, false))⟩, ⟨(some 103), (.bin .eql 0 (.t 102) (.k (.v (.c (.p (.int .u16 0)))))), (some (91, false))⟩, ⟨(some 104), (.pick (.t 91) (.k (.v (.c (.p (.bool true))))) (.t 103)), none⟩, ⟨(some 4), (.mv (.t 104)), none⟩] []) .ret) .skip)) (.seq (.reg [⟨(some 105), (.mv (.t 1)), none⟩, ⟨(some 106), (.mv (.t 10)), none⟩, ⟨(some 107), (.nilck (.t 106)), none⟩, ⟨(some 108), (.faddr 0 (.t 107)), none⟩, ⟨(some 109), (.load false 1 (.t 108)), none⟩, ⟨(some 110), (.bin .lss 0 (.t 105) (.t 109)), none⟩] []) (.cond (.t 110) (.reg [⟨(some 111), (.mv (.t 9)), none⟩, ⟨(some 8), (.mv (.t 111)), none⟩] []) (.reg [⟨(some 112), (.mv (.t 9)), none⟩, ⟨(some 113), (.bin .add 0 (.t 112) (.k (.v (.c (.p (.int .i64 1)))))), none⟩, ⟨(some 7), (.mv (.t 113)), none⟩] [])))))))))) (.seq (.reg [⟨(some 4), (.mv (.k (.v (.c (.p (.bool false)))))), none⟩] []) .ret))))))) }
theorem t149 : compF Tryd.prog (globs2 tabs opq) false true Tryd.f149 = some c149.erase := by kernel_rfl
noncomputable def b149_0 (O : Oracle) (R : Jump) (q : Nat) (x0 x1 : TVal) (h : Heap) : Res1 :=
  vlen O 2 x0 h 12 fun x12 h =>
  vbin .leq 0 x12 (kI 18) h fun x13 h =>
  vguard x13 false (fun kk => kk x1 h) h fun x15 h =>
  vguard x13 false (fun kk => vbin .leq 0 x15 (.v (.c (.p (.int .u16 255)))) h kk) h fun x16 h =>
  vop O (.pick (.k x13) (.k (kB true)) (.k x16)) h 17 fun x17 h =>
  vif x17 (
  vlen O 2 x0 h 19 fun x19 h =>
  R 1 [x0, x1, x19, (kI 0)] h)
  (R 3 [x0, x1] h)
theorem e149_0 (O : Oracle) (R : Jump) (q : Nat) (x0 x1 : TVal) (h : Heap) : b149_0 O R q x0 x1 h = stepF c149 O R q 0 [x0, x1] h := by kernel_rfl
noncomputable def b149_1 (O : Oracle) (R : Jump) (q : Nat) (x0 x1 x19 x20 : TVal) (h : Heap) : Res1 :=
  vbin .lss 0 x20 x19 h fun x21 h =>
  vif x21 (
  viaddr 3 x0 x20 h fun x25 h =>
  vop O (.nilck (.k x25)) h 28 fun x28 h =>
  vfaddr 0 x28 h fun x29 h =>
  vload false 1 x29 h fun x30 h =>
  vbin .lss 0 x1 x30 h fun x31 h =>
  vif x31 (
  tcomp (kB false) fun c0 => vfin true q [c0] h)
  (vop O (.nilck (.k x25)) h 34 fun x34 h =>
  vfaddr 1 x34 h fun x35 h =>
  vload false 1 x35 h fun x36 h =>
  vbin .leq 0 x1 x36 h fun x37 h =>
  vif x37 (
  vop O (.nilck (.k x25)) h 39 fun x39 h =>
  vfaddr 2 x39 h fun x40 h =>
  vload false 1 x40 h fun x41 h =>
  vbin .eql 0 x41 (.v (.c (.p (.int .u16 1)))) h fun x42 h =>
  vguard x42 false (fun kk => kk x1 h) h fun x44 h =>
  vguard x42 false (fun kk => kk x25 h) h fun x45 h =>
  vguard x42 false (fun kk => vop O (.nilck (.k x45)) h 46 kk) h fun x46 h =>
  vguard x42 false (fun kk => vfaddr 0 x46 h kk) h fun x47 h =>
  vguard x42 false (fun kk => vload false 1 x47 h kk) h fun x48 h =>
  vguard x42 false (fun kk => vbin .sub 0 x44 x48 h kk) h fun x49 h =>
  vguard x42 false (fun kk => kk x25 h) h fun x50 h =>
  vguard x42 false (fun kk => vop O (.nilck (.k x50)) h 51 kk) h fun x51 h =>
  vguard x42 false (fun kk => vfaddr 2 x51 h kk) h fun x52 h =>
  vguard x42 false (fun kk => vload false 1 x52 h kk) h fun x53 h =>
  vguard x42 false (fun kk => vbin .rem 0 x49 x53 h kk) h fun x54 h =>
  vguard x42 false (fun kk => vbin .eql 0 x54 (.v (.c (.p (.int .u16 0)))) h kk) h fun x55 h =>
  vop O (.pick (.k x42) (.k (kB true)) (.k x55)) h 56 fun x56 h =>
  tcomp x56 fun c0 => vfin true q [c0] h)
  (vbin .add 0 x20 (kI 1) h fun x57 h =>
  R 1 [x0, x1, x19, x57] h)))
  (R 2 [] h)
theorem e149_1 (O : Oracle) (R : Jump) (q : Nat) (x0 x1 x19 x20 : TVal) (h : Heap) : b149_1 O R q x0 x1 x19 x20 h = stepF c149 O R q 1 [x0, x1, x19, x20] h := by kernel_rfl
noncomputable def b149_2 (O : Oracle) (R : Jump) (q : Nat) (h : Heap) : Res1 :=
  tcomp (kB false) fun c0 => vfin true q [c0] h
theorem e149_2 (O : Oracle) (R : Jump) (q : Nat) (h : Heap) : b149_2 O R q  h = stepF c149 O R q 2 [] h := by kernel_rfl
noncomputable def b149_3 (O : Oracle) (R : Jump) (q : Nat) (x0 x1 : TVal) (h : Heap) : Res1 :=
  vlen O 2 x0 h 59 fun x59 h =>
  R 4 [x0, x1, (kI 0), x59] h
theorem e149_3 (O : Oracle) (R : Jump) (q : Nat) (x0 x1 : TVal) (h : Heap) : b149_3 O R q x0 x1 h = stepF c149 O R q 3 [x0, x1] h := by kernel_rfl
noncomputable def b149_4 (O : Oracle) (R : Jump) (q : Nat) (x0 x1 x7 x8 : TVal) (h : Heap) : Res1 :=
  vbin .lss 0 x7 x8 h fun x62 h =>
  vif x62 (
  vbin .add 0 x7 x8 h fun x65 h =>
  vtoInt .u64 x65 h fun x66 h =>
  vbin .shr 0 x66 (.v (.c (.p (.int .u64 1)))) h fun x67 h =>
  vtoInt .i64 x67 h fun x68 h =>
  viaddr 3 x0 x68 h fun x71 h =>
  vop O (.nilck (.k x71)) h 73 fun x73 h =>
  vfaddr 0 x73 h fun x74 h =>
  vload false 1 x74 h fun x75 h =>
  vbin .leq 0 x75 x1 h fun x77 h =>
  vguard x77 true (fun kk => kk x1 h) h fun x79 h =>
  vguard x77 true (fun kk => kk x71 h) h fun x80 h =>
  vguard x77 true (fun kk => vop O (.nilck (.k x80)) h 81 kk) h fun x81 h =>
  vguard x77 true (fun kk => vfaddr 1 x81 h kk) h fun x82 h =>
  vguard x77 true (fun kk => vload false 1 x82 h kk) h fun x83 h =>
  vguard x77 true (fun kk => vbin .leq 0 x79 x83 h kk) h fun x84 h =>
  vop O (.pick (.k x77) (.k x84) (.k (kB false))) h 85 fun x85 h =>
  vif x85 (
  vop O (.nilck (.k x71)) h 87 fun x87 h =>
  vfaddr 2 x87 h fun x88 h =>
  vload false 1 x88 h fun x89 h =>
  vbin .eql 0 x89 (.v (.c (.p (.int .u16 1)))) h fun x90 h =>
  vguard x90 false (fun kk => kk x1 h) h fun x92 h =>
  vguard x90 false (fun kk => kk x71 h) h fun x93 h =>
  vguard x90 false (fun kk => vop O (.nilck (.k x93)) h 94 kk) h fun x94 h =>
  vguard x90 false (fun kk => vfaddr 0 x94 h kk) h fun x95 h =>
  vguard x90 false (fun kk => vload false 1 x95 h kk) h fun x96 h =>
  vguard x90 false (fun kk => vbin .sub 0 x92 x96 h kk) h fun x97 h =>
  vguard x90 false (fun kk => kk x71 h) h fun x98 h =>
  vguard x90 false (fun kk => vop O (.nilck (.k x98)) h 99 kk) h fun x99 h =>
  vguard x90 false (fun kk => vfaddr 2 x99 h kk) h fun x100 h =>
  vguard x90 false (fun kk => vload false 1 x100 h kk) h fun x101 h =>
  vguard x90 false (fun kk => vbin .rem 0 x97 x101 h kk) h fun x102 h =>
  vguard x90 false (fun kk => vbin .eql 0 x102 (.v (.c (.p (.int .u16 0)))) h kk) h fun x103 h =>
  vop O (.pick (.k x90) (.k (kB true)) (.k x103)) h 104 fun x104 h =>
  tcomp x104 fun c0 => vfin true q [c0] h)
  (vop O (.nilck (.k x71)) h 107 fun x107 h =>
  vfaddr 0 x107 h fun x108 h =>
  vload false 1 x108 h fun x109 h =>
  vbin .lss 0 x1 x109 h fun x110 h =>
  vif x110 (
  R 4 [x0, x1, x7, x68] h)
  (vbin .add 0 x68 (kI 1) h fun x113 h =>
  R 4 [x0, x1, x113, x8] h)))
  (tcomp (kB false) fun c0 => vfin true q [c0] h)
theorem e149_4 (O : Oracle) (R : Jump) (q : Nat) (x0 x1 x7 x8 : TVal) (h : Heap) : b149_4 O R q x0 x1 x7 x8 h = stepF c149 O R q 4 [x0, x1, x7, x8] h := by kernel_rfl
noncomputable def d149 : BlkF := fun O R q => [.s fun y0 => .s fun y1 => .z fun h => b149_0 O R q y0 y1 h, .s fun y0 => .s fun y1 => .s fun y2 => .s fun y3 => .z fun h => b149_1 O R q y0 y1 y2 y3 h, .z fun h => b149_2 O R q  h, .s fun y0 => .s fun y1 => .z fun h => b149_3 O R q y0 y1 h, .s fun y0 => .s fun y1 => .s fun y2 => .s fun y3 => .z fun h => b149_4 O R q y0 y1 y2 y3 h]
theorem o149 (O : Oracle) (R : Jump) (q : Nat) : HoldsAll c149 O R q 0 (d149 O R q) := ⟨fun y0 y1 h => e149_0 O R q y0 y1 h, fun y0 y1 y2 y3 h => e149_1 O R q y0 y1 y2 y3 h, fun  h => e149_2 O R q  h, fun y0 y1 h => e149_3 O R q y0 y1 h, fun y0 y1 y2 y3 h => e149_4 O R q y0 y1 y2 y3 h, trivial⟩
end Go.Proofs.YtegimihckejnkaaDoor.Ab
