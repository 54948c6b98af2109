/- Functions of the given program as the abstract interpreter has them (part 3), printed by a program of our own; each is shown to be what 'compF' makes of the given program's. No condition. -/
import Derived.Test.YtegimihckejnkaaDoorTabT2
namespace Go.Proofs.YtegimihckejnkaaDoor.Ab
open Go Go.AI
set_option linter.all false
set_option linter.unusedVariables false
set_option maxRecDepth 100000
/- unicode.is32 -/
def c150 : MFunc := { np := 2, res := [.t 4], frz := true, body := (.seq (.reg [⟨(some 4), (.mv (.k (.v (.c (.p (.bool false)))))), none⟩] []) (.seq (.seq (.reg [⟨(some 11), (.mv (.t 0)), none⟩, ⟨(some 12), (.len 2 (.t 11)), none⟩, ⟨(some 13), (.bin .leq 0 (.t 12) (.k (.v (.c (.p (.int .i64 18)))))), none⟩] []) (.cond (.t 13) (.seq (.seq (.reg [⟨(some 14), (.mv (.t 0)), none⟩, ⟨(some 15), (.len 2 (.t 14)), none⟩, ⟨(some 16), (.mv (.k (.v (.c (.p (.int .i64 0)))))), none⟩] []) (.block 0 (.loop 1 [0, 1, 15, 16] (.seq (.reg [⟨(some 17), (.bin .lss 0 (.t 16) (.t 15)), none⟩] []) (.seq (.cond (.t 17) .skip (.exit 0)) (.seq (.block 1 (.seq (.reg [⟨(some 18), (.mv (.t 16)), none⟩, ⟨(some 5), (.mv (.t 18)), none⟩] []) (.seq (.reg [⟨(some 19), (.mv (.t 0)), none⟩, ⟨(some 20), (.mv (.t 5)), none⟩, ⟨(some 21), (.iaddr 3 (.t 19) (.t 20)), none⟩, ⟨(some 6), (.mv (.t 21)), none⟩] []) (.seq (.seq (.reg [⟨(some 22), (.mv (.t 1)), none⟩, ⟨(some 23), (.mv (.t 6)), none⟩, ⟨(some 24), (.nilck (.t 23)), none⟩, ⟨(some 25), (.faddr 0 (.t 24)), none⟩, ⟨(some 26), (.load false 1 (.t 25)), none⟩, ⟨(some 27), (.bin .lss 0 (.t 22) (.t 26)), none⟩] []) (.cond (.t 27) (.seq (.reg [⟨(some 4), (.mv (.k (.v (.c (.p (.bool false)))))), none⟩] []) .ret) .skip)) (.seq (.reg [⟨(some 28), (.mv (.t 1)), none⟩, ⟨(some 29), (.mv (.t 6)), none⟩, ⟨(some 30), (.nilck (.t 29)), none⟩, ⟨(some 31), (.faddr 1 (.t 30)), none⟩, ⟨(some 32), (.load false 1 (.t 31)), none⟩, ⟨(some 33), (.bin .leq 0 (.t 28) (.t 32)), none⟩] []) (.cond (.t 33) (.seq (.reg [⟨(some 34), (.mv (.t 6)), none⟩, ⟨(some 35), (.nilck (.t 34)), none⟩, ⟨(some 36), (.faddr 2 (.t 35)), none⟩, ⟨(some 37), (.load false 1 (.t 36)), none⟩, ⟨(some 38), (.bin .eql 0 (.t 37) (.k (.v (.c (.p (.int .u32 1)))))), none⟩, ⟨(some 39), (.mv (.t 38)), none⟩, ⟨(some 40), (.mv (.t 1)), (some (39, false))⟩, ⟨(some 41), (.mv (.t 6)), (some (39, false))⟩, ⟨(some 42), (.nilck (.t 41)), (some (39, false))⟩, ⟨(some 43), (.faddr 0 (.t 42)), (some (39, false))⟩, ⟨(some 44), (.load false 1 (.t 43)), (some (39, false))⟩, ⟨(some 45), (.bin .sub 0 (.t 40) (.t 44)), (some (39, false))⟩, ⟨(some 46), (.mv (.t 6)), (some (39, false))⟩, ⟨(some 47), (.nilck (.t 46)), (some (39, false))⟩, ⟨(some 48), (.faddr 2 (.t 47)), (some (39, false))⟩, ⟨(some 49), (.load false 1 (.t 48)), (some (39, false))⟩, ⟨(some 50), (.bin .rem 0 (.t 45) (.t 49)), (some (39, false))⟩, ⟨(some 51), (.bin .eql 0 (.t 50) (.k (.v (.c (.p (.int .u32 0)))))), (some (39, false))⟩, ⟨(some 52), (.pick (.t 39) (.k (.v (.c (.p (.bool true))))) (.t 51)), none⟩, ⟨(some 4), (.mv (.t 52)), none⟩] []) .ret) .skip)))))) (.reg [⟨(some 53), (.bin .add 0 (.t 16) (.k (.v (.c (.p (.int .i64 1)))))), none⟩, ⟨(some 16), (.mv (.t 53)), none⟩] []))))))) (.mark 2 [] (.seq (.reg [⟨(some 4), (.mv (.k (.v (.c (.p (.bool false)))))), none⟩] []) .ret))) .skip)) (.mark 3 [0, 1] (.seq (.reg [⟨(some 7), (.mv (.k (.v (.c (.p (.int .i64 0)))))), none⟩] []) (.seq (.reg [⟨(some 54), (.mv (.t 0)), none⟩, ⟨(some 55), (.len 2 (.t 54)), none⟩, ⟨(some 8), (.mv (.t 55)), none⟩] []) (.seq (.block 2 (.loop 4 [0, 1, 7, 8] (.seq (.seq (.reg [⟨(some 56), (.mv (.t 7)), none⟩, ⟨(some 57), (.mv (.t 8)), none⟩, ⟨(some 58), (.bin .lss 0 (.t 56) (.t 57)), none⟩] []) (.cond (.t 58) .skip (.exit 2))) (.block 3 (.seq (.reg [⟨(some 59), (.mv (.t 7)), none⟩, ⟨(some 60), (.mv (.t 8)), none⟩, ⟨(some 61), (.bin .add 0 (.t 59) (.t 60)), none⟩, ⟨(some 62), (.toInt .u64 (.t 61)), none⟩, ⟨(some 63), (.bin .shr 0 (.t 62) (.k (.v (.c (.p (.int .u64 1)))))), none⟩, ⟨(some 64), (.toInt .i64 (.t 63)), none⟩, ⟨(some 9), (.mv (.t 64)), none⟩] []) (.seq (.reg [⟨(some 65), (.mv (.t 0)), none⟩, ⟨(some 66), (.mv (.t 9)), none⟩, ⟨(some 67), (.iaddr 3 (.t 65) (.t 66)), none⟩, ⟨(some 68), (.load true 3 (.t 67)), none⟩, ⟨(some 10), (.alloc [(.p (.int .u32 0)), (.p (.int .u32 0)), (.p (.int .u32 0))] false), none⟩, ⟨none, (.store 3 (.t 10) (.t 68)), none⟩] []) (.seq (.seq (.reg [⟨(some 69), (.faddr 0 (.t 10)), none⟩, ⟨(some 70), (.load false 1 (.t 69)), none⟩, ⟨(some 71), (.mv (.t 1)), none⟩, ⟨(some 72), (.bin .leq 0 (.t 70) (.t 71)), none⟩, ⟨(some 73), (.mv (.t 72)), none⟩, ⟨(some 74), (.mv (.t 1)), (some (73, true))⟩, ⟨(some 75), (.faddr 1 (.t 10)), (some (73, true))⟩, ⟨(some 76), (.load false 1 (.t 75)), (some (73, true))⟩, ⟨(some 77), (.bin .leq 0 (.t 74) (.t 76)), (some (73, true))⟩, ⟨(some 78), (.pick (.t 73) (.t 77) (.k (.v (.c (.p (.bool false)))))), none⟩] []) (.cond (.t 78) (.seq (.reg [⟨(some 79), (.faddr 2 (.t 10)), none⟩, ⟨(some 80), (.load false 1 (.t 79)), none⟩, ⟨(some 81), (.bin .eql 0 (.t 80) (.k (.v (.c (.p (.int .u32 1)))))), none⟩, ⟨(some 82), (.mv (.t 81)), none⟩, ⟨(some 83), (.mv (.t 1)), (some (82, false))⟩, ⟨(some 84), (.faddr 0 (.t 10)), (some (82, false))⟩, ⟨(some 85), (.load false 1 (.t 84)), (some (82, false))⟩, ⟨(some 86), (.bin .sub 0 (.t 83) (.t 85)), (some (82, false))⟩, ⟨(some 87), (.faddr 2 (.t 10)), (some (82, false))⟩, ⟨(some 88), (.load false 1 (.t 87)), (some (82, false))⟩, ⟨(some 89), (.bin .rem 0 (.t 86) (.t 88)), (some (82, false))⟩, ⟨(some 90), (.bin .eql 0 (.t 89) (.k (.v (.c (.p (.int .u32 0)))))), (some (82, false))⟩, ⟨(some 91), (.pick (.t 82) (.k (.v (.c (.p (.bool true))))) (.t 90)), none⟩, ⟨(some 4), (.mv (.t 91)), none⟩] []) .ret) .skip)) (.seq (.reg [⟨(some 92), (.mv (.t 1)), none⟩, ⟨(some 93), (.faddr 0 (.t 10)), none⟩, ⟨(some 94), (.load false 1 (.t 93)), none⟩, ⟨(some 95), (.bin .lss 0 (.t 92) (.t 94)), none⟩] []) (.cond (.t 95) (.reg [⟨(some 96), (.mv (.t 9)), none⟩, ⟨(some 8), (.mv (.t 96)), none⟩] []) (.reg [⟨(some 97), (.mv (.t 9)), none⟩, ⟨(some 98), (.bin .add 0 (.t 97) (.k (.v (.c (.p (.int .i64 1)))))), none⟩, ⟨(some 7), (.mv (.t 98)), none⟩] [])))))))))) (.seq (.reg [⟨(some 4), (.mv (.k (.v (.c (.p (.bool false)))))), none⟩] []) .ret))))))) }
theorem t150 : compF Tryd.prog (globs2 tabs opq) false true Tryd.f150 = some c150.erase := by kernel_rfl
noncomputable def b150_0 (O : Oracle) (R : Jump) (q : Nat) (x0 x1 : TVal) (h : Heap) : Res1 :=
  vlen O 2 x0 h 12 fun x12 h =>
  vbin .leq 0 x12 (kI 18) h fun x13 h =>
  vif x13 (
  vlen O 2 x0 h 15 fun x15 h =>
  R 1 [x0, x1, x15, (kI 0)] h)
  (R 3 [x0, x1] h)
theorem e150_0 (O : Oracle) (R : Jump) (q : Nat) (x0 x1 : TVal) (h : Heap) : b150_0 O R q x0 x1 h = stepF c150 O R q 0 [x0, x1] h := by kernel_rfl
noncomputable def b150_1 (O : Oracle) (R : Jump) (q : Nat) (x0 x1 x15 x16 : TVal) (h : Heap) : Res1 :=
  vbin .lss 0 x16 x15 h fun x17 h =>
  vif x17 (
  viaddr 3 x0 x16 h fun x21 h =>
  vop O (.nilck (.k x21)) h 24 fun x24 h =>
  vfaddr 0 x24 h fun x25 h =>
  vload false 1 x25 h fun x26 h =>
  vbin .lss 0 x1 x26 h fun x27 h =>
  vif x27 (
  tcomp (kB false) fun c0 => vfin true q [c0] h)
  (vop O (.nilck (.k x21)) h 30 fun x30 h =>
  vfaddr 1 x30 h fun x31 h =>
  vload false 1 x31 h fun x32 h =>
  vbin .leq 0 x1 x32 h fun x33 h =>
  vif x33 (
  vop O (.nilck (.k x21)) h 35 fun x35 h =>
  vfaddr 2 x35 h fun x36 h =>
  vload false 1 x36 h fun x37 h =>
  vbin .eql 0 x37 (.v (.c (.p (.int .u32 1)))) h fun x38 h =>
  vguard x38 false (fun kk => kk x1 h) h fun x40 h =>
  vguard x38 false (fun kk => kk x21 h) h fun x41 h =>
  vguard x38 false (fun kk => vop O (.nilck (.k x41)) h 42 kk) h fun x42 h =>
  vguard x38 false (fun kk => vfaddr 0 x42 h kk) h fun x43 h =>
  vguard x38 false (fun kk => vload false 1 x43 h kk) h fun x44 h =>
  vguard x38 false (fun kk => vbin .sub 0 x40 x44 h kk) h fun x45 h =>
  vguard x38 false (fun kk => kk x21 h) h fun x46 h =>
  vguard x38 false (fun kk => vop O (.nilck (.k x46)) h 47 kk) h fun x47 h =>
  vguard x38 false (fun kk => vfaddr 2 x47 h kk) h fun x48 h =>
  vguard x38 false (fun kk => vload false 1 x48 h kk) h fun x49 h =>
  vguard x38 false (fun kk => vbin .rem 0 x45 x49 h kk) h fun x50 h =>
  vguard x38 false (fun kk => vbin .eql 0 x50 (.v (.c (.p (.int .u32 0)))) h kk) h fun x51 h =>
  vop O (.pick (.k x38) (.k (kB true)) (.k x51)) h 52 fun x52 h =>
  tcomp x52 fun c0 => vfin true q [c0] h)
  (vbin .add 0 x16 (kI 1) h fun x53 h =>
  R 1 [x0, x1, x15, x53] h)))
  (R 2 [] h)
theorem e150_1 (O : Oracle) (R : Jump) (q : Nat) (x0 x1 x15 x16 : TVal) (h : Heap) : b150_1 O R q x0 x1 x15 x16 h = stepF c150 O R q 1 [x0, x1, x15, x16] h := by kernel_rfl
noncomputable def b150_2 (O : Oracle) (R : Jump) (q : Nat) (h : Heap) : Res1 :=
  tcomp (kB false) fun c0 => vfin true q [c0] h
theorem e150_2 (O : Oracle) (R : Jump) (q : Nat) (h : Heap) : b150_2 O R q  h = stepF c150 O R q 2 [] h := by kernel_rfl
noncomputable def b150_3 (O : Oracle) (R : Jump) (q : Nat) (x0 x1 : TVal) (h : Heap) : Res1 :=
  vlen O 2 x0 h 55 fun x55 h =>
  R 4 [x0, x1, (kI 0), x55] h
theorem e150_3 (O : Oracle) (R : Jump) (q : Nat) (x0 x1 : TVal) (h : Heap) : b150_3 O R q x0 x1 h = stepF c150 O R q 3 [x0, x1] h := by kernel_rfl
noncomputable def b150_4 (O : Oracle) (R : Jump) (q : Nat) (x0 x1 x7 x8 : TVal) (h : Heap) : Res1 :=
  vbin .lss 0 x7 x8 h fun x58 h =>
  vif x58 (
  vbin .add 0 x7 x8 h fun x61 h =>
  vtoInt .u64 x61 h fun x62 h =>
  vbin .shr 0 x62 (.v (.c (.p (.int .u64 1)))) h fun x63 h =>
  vtoInt .i64 x63 h fun x64 h =>
  viaddr 3 x0 x64 h fun x67 h =>
  vload true 3 x67 h fun x68 h =>
  vop O (.alloc [(.p (.int .u32 0)), (.p (.int .u32 0)), (.p (.int .u32 0))] false) h 10 fun x10 h =>
  vstore 3 x10 x68 h fun _ h =>
  vfaddr 0 x10 h fun x69 h =>
  vload false 1 x69 h fun x70 h =>
  vbin .leq 0 x70 x1 h fun x72 h =>
  vguard x72 true (fun kk => kk x1 h) h fun x74 h =>
  vguard x72 true (fun kk => vfaddr 1 x10 h kk) h fun x75 h =>
  vguard x72 true (fun kk => vload false 1 x75 h kk) h fun x76 h =>
  vguard x72 true (fun kk => vbin .leq 0 x74 x76 h kk) h fun x77 h =>
  vop O (.pick (.k x72) (.k x77) (.k (kB false))) h 78 fun x78 h =>
  vif x78 (
  vfaddr 2 x10 h fun x79 h =>
  vload false 1 x79 h fun x80 h =>
  vbin .eql 0 x80 (.v (.c (.p (.int .u32 1)))) h fun x81 h =>
  vguard x81 false (fun kk => kk x1 h) h fun x83 h =>
  vguard x81 false (fun kk => vfaddr 0 x10 h kk) h fun x84 h =>
  vguard x81 false (fun kk => vload false 1 x84 h kk) h fun x85 h =>
  vguard x81 false (fun kk => vbin .sub 0 x83 x85 h kk) h fun x86 h =>
  vguard x81 false (fun kk => vfaddr 2 x10 h kk) h fun x87 h =>
  vguard x81 false (fun kk => vload false 1 x87 h kk) h fun x88 h =>
  vguard x81 false (fun kk => vbin .rem 0 x86 x88 h kk) h fun x89 h =>
  vguard x81 false (fun kk => vbin .eql 0 x89 (.v (.c (.p (.int .u32 0)))) h kk) h fun x90 h =>
  vop O (.pick (.k x81) (.k (kB true)) (.k x90)) h 91 fun x91 h =>
  tcomp x91 fun c0 => vfin true q [c0] h)
  (vfaddr 0 x10 h fun x93 h =>
  vload false 1 x93 h fun x94 h =>
  vbin .lss 0 x1 x94 h fun x95 h =>
  vif x95 (
  R 4 [x0, x1, x7, x64] h)
  (vbin .add 0 x64 (kI 1) h fun x98 h =>
  R 4 [x0, x1, x98, x8] h)))
  (tcomp (kB false) fun c0 => vfin true q [c0] h)
theorem e150_4 (O : Oracle) (R : Jump) (q : Nat) (x0 x1 x7 x8 : TVal) (h : Heap) : b150_4 O R q x0 x1 x7 x8 h = stepF c150 O R q 4 [x0, x1, x7, x8] h := by kernel_rfl
noncomputable def d150 : BlkF := fun O R q => [.s fun y0 => .s fun y1 => .z fun h => b150_0 O R q y0 y1 h, .s fun y0 => .s fun y1 => .s fun y2 => .s fun y3 => .z fun h => b150_1 O R q y0 y1 y2 y3 h, .z fun h => b150_2 O R q  h, .s fun y0 => .s fun y1 => .z fun h => b150_3 O R q y0 y1 h, .s fun y0 => .s fun y1 => .s fun y2 => .s fun y3 => .z fun h => b150_4 O R q y0 y1 y2 y3 h]
theorem o150 (O : Oracle) (R : Jump) (q : Nat) : HoldsAll c150 O R q 0 (d150 O R q) := ⟨fun y0 y1 h => e150_0 O R q y0 y1 h, fun y0 y1 y2 y3 h => e150_1 O R q y0 y1 y2 y3 h, fun  h => e150_2 O R q  h, fun y0 y1 h => e150_3 O R q y0 y1 h, fun y0 y1 y2 y3 h => e150_4 O R q y0 y1 y2 y3 h, trivial⟩
end Go.Proofs.YtegimihckejnkaaDoor.Ab
