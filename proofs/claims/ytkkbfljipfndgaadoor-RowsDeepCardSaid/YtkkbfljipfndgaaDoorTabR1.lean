/- Functions of the given program as the abstract interpreter has them (part 1), printed by a program of our own; each is shown to be what 'compF' makes of the given program's. No condition. -/
import Derived.Test.YtkkbfljipfndgaaDoorTabR0
namespace Go.Proofs.YtkkbfljipfndgaaDoor.Ab
open Go Go.AI
set_option linter.all false
set_option linter.unusedVariables false
set_option maxRecDepth 100000
/- (*sprue/sprueref13.reader).blanks -/
def c51 : MFunc := { np := 1, res := [], frz := true, body := (.block 0 (.loop 1 [0] (.seq (.seq (.reg [⟨(some 2), (.mv (.t 0)), none⟩, ⟨(some 3), (.nilck (.t 2)), none⟩, ⟨(some 4), (.faddr 1 (.t 3)), none⟩, ⟨(some 5), (.load false 1 (.t 4)), none⟩, ⟨(some 6), (.mv (.t 0)), none⟩, ⟨(some 7), (.nilck (.t 6)), none⟩, ⟨(some 8), (.faddr 0 (.t 7)), none⟩, ⟨(some 9), (.load false 1 (.t 8)), none⟩, ⟨(some 10), (.len 0 (.t 9)), none⟩, ⟨(some 11), (.bin .lss 0 (.t 5) (.t 10)), none⟩, ⟨(some 12), (.mv (.t 11)), none⟩, ⟨(some 13), (.mv (.t 0)), (some (12, true))⟩, ⟨(some 14), (.nilck (.t 13)), (some (12, true))⟩, ⟨(some 15), (.faddr 0 (.t 14)), (some (12, true))⟩, ⟨(some 16), (.load false 1 (.t 15)), (some (12, true))⟩, ⟨(some 17), (.mv (.t 0)), (some (12, true))⟩, ⟨(some 18), (.nilck (.t 17)), (some (12, true))⟩, ⟨(some 19), (.faddr 1 (.t 18)), (some (12, true))⟩, ⟨(some 20), (.load false 1 (.t 19)), (some (12, true))⟩, ⟨(some 21), (.index (.t 16) (.t 20)), (some (12, true))⟩, ⟨(some 22), (.bin .eql 0 (.t 21) (.k (.v (.c (.p (.int .u8 32)))))), (some (12, true))⟩, ⟨(some 23), (.mv (.t 22)), (some (12, true))⟩, ⟨(some 24), (.mv (.t 0)), (some (23, false))⟩, ⟨(some 25), (.nilck (.t 24)), (some (23, false))⟩, ⟨(some 26), (.faddr 0 (.t 25)), (some (23, false))⟩, ⟨(some 27), (.load false 1 (.t 26)), (some (23, false))⟩, ⟨(some 28), (.mv (.t 0)), (some (23, false))⟩, ⟨(some 29), (.nilck (.t 28)), (some (23, false))⟩, ⟨(some 30), (.faddr 1 (.t 29)), (some (23, false))⟩, ⟨(some 31), (.load false 1 (.t 30)), (some (23, false))⟩, ⟨(some 32), (.index (.t 27) (.t 31)), (some (23, false))⟩, ⟨(some 33), (.bin .eql 0 (.t 32) (.k (.v (.c (.p (.int .u8 9)))))), (some (23, false))⟩, ⟨(some 34), (.pick (.t 23) (.k (.v (.c (.p (.bool true))))) (.t 33)), (some (12, true))⟩, ⟨(some 35), (.mv (.t 34)), (some (12, true))⟩, ⟨(some 36), (.mv (.t 0)), (some (35, false))⟩, ⟨(some 37), (.nilck (.t 36)), (some (35, false))⟩, ⟨(some 38), (.faddr 0 (.t 37)), (some (35, false))⟩, ⟨(some 39), (.load false 1 (.t 38)), (some (35, false))⟩, ⟨(some 40), (.mv (.t 0)), (some (35, false))⟩, ⟨(some 41), (.nilck (.t 40)), (some (35, false))⟩, ⟨(some 42), (.faddr 1 (.t 41)), (some (35, false))⟩, ⟨(some 43), (.load false 1 (.t 42)), (some (35, false))⟩, ⟨(some 44), (.index (.t 39) (.t 43)), (some (35, false))⟩, ⟨(some 45), (.bin .eql 0 (.t 44) (.k (.v (.c (.p (.int .u8 10)))))), (some (35, false))⟩, ⟨(some 46), (.pick (.t 35) (.k (.v (.c (.p (.bool true))))) (.t 45)), (some (12, true))⟩, ⟨(some 47), (.mv (.t 46)), (some (12, true))⟩, ⟨(some 48), (.mv (.t 0)), (some (47, false))⟩, ⟨(some 49), (.nilck (.t 48)), (some (47, false))⟩, ⟨(some 50), (.faddr 0 (.t 49)), (some (47, false))⟩, ⟨(some 51), (.load false 1 (.t 50)), (some (47, false))⟩, ⟨(some 52), (.mv (.t 0)), (some (47, false))⟩, ⟨(some 53), (.nilck (.t 52)), (some (47, false))⟩, ⟨(some 54), (.faddr 1 (.t 53)), (some (47, false))⟩, ⟨(some 55), (.load false 1 (.t 54)), (some (47, false))⟩, ⟨(some 56), (.index (.t 51) (.t 55)), (some (47, false))⟩, ⟨(some 57), (.bin .eql 0 (.t 56) (.k (.v (.c (.p (.int .u8 13)))))), (some (47, false))⟩, ⟨(some 58), (.pick (.t 47) (.k (.v (.c (.p (.bool true))))) (.t 57)), (some (12, true))⟩, ⟨(some 59), (.pick (.t 12) (.t 58) (.k (.v (.c (.p (.bool false)))))), none⟩] []) (.cond (.t 59) .skip (.exit 0))) (.block 1 (.reg [⟨(some 60), (.mv (.t 0)), none⟩, ⟨(some 61), (.nilck (.t 60)), none⟩, ⟨(some 62), (.faddr 1 (.t 61)), none⟩, ⟨(some 63), (.load false 1 (.t 62)), none⟩, ⟨(some 64), (.bin .add 0 (.t 63) (.k (.v (.c (.p (.int .i64 1)))))), none⟩, ⟨(some 65), (.nilck (.t 60)), none⟩, ⟨(some 66), (.faddr 1 (.t 65)), none⟩, ⟨none, (.store 1 (.t 66) (.t 64)), none⟩] []))))) }
theorem t51 : compF Tryd.prog (globs2 tabs opq) false true Tryd.f51 = some c51.erase := by kernel_rfl
noncomputable def b51_0 (O : Oracle) (R : Jump) (q : Nat) (x0 : TVal) (h : Heap) : Res1 :=
  R 1 [x0] h
theorem e51_0 (O : Oracle) (R : Jump) (q : Nat) (x0 : TVal) (h : Heap) : b51_0 O R q x0 h = stepF c51 O R q 0 [x0] h := by kernel_rfl
noncomputable def b51_1 (O : Oracle) (R : Jump) (q : Nat) (x0 : TVal) (h : Heap) : Res1 :=
  vop O (.nilck (.k x0)) h 3 fun x3 h =>
  vfaddr 1 x3 h fun x4 h =>
  vload false 1 x4 h fun x5 h =>
  vop O (.nilck (.k x0)) h 7 fun x7 h =>
  vfaddr 0 x7 h fun x8 h =>
  vload false 1 x8 h fun x9 h =>
  vlen O 0 x9 h 10 fun x10 h =>
  vbin .lss 0 x5 x10 h fun x11 h =>
  vguard x11 true (fun kk => kk x0 h) h fun x13 h =>
  vguard x11 true (fun kk => vop O (.nilck (.k x13)) h 14 kk) h fun x14 h =>
  vguard x11 true (fun kk => vfaddr 0 x14 h kk) h fun x15 h =>
  vguard x11 true (fun kk => vload false 1 x15 h kk) h fun x16 h =>
  vguard x11 true (fun kk => kk x0 h) h fun x17 h =>
  vguard x11 true (fun kk => vop O (.nilck (.k x17)) h 18 kk) h fun x18 h =>
  vguard x11 true (fun kk => vfaddr 1 x18 h kk) h fun x19 h =>
  vguard x11 true (fun kk => vload false 1 x19 h kk) h fun x20 h =>
  vguard x11 true (fun kk => vindex x16 x20 h kk) h fun x21 h =>
  vguard x11 true (fun kk => vbin .eql 0 x21 (.v (.c (.p (.int .u8 32)))) h kk) h fun x22 h =>
  vguard x11 true (fun kk => kk x22 h) h fun x23 h =>
  vguard x23 false (fun kk => kk x0 h) h fun x24 h =>
  vguard x23 false (fun kk => vop O (.nilck (.k x24)) h 25 kk) h fun x25 h =>
  vguard x23 false (fun kk => vfaddr 0 x25 h kk) h fun x26 h =>
  vguard x23 false (fun kk => vload false 1 x26 h kk) h fun x27 h =>
  vguard x23 false (fun kk => kk x0 h) h fun x28 h =>
  vguard x23 false (fun kk => vop O (.nilck (.k x28)) h 29 kk) h fun x29 h =>
  vguard x23 false (fun kk => vfaddr 1 x29 h kk) h fun x30 h =>
  vguard x23 false (fun kk => vload false 1 x30 h kk) h fun x31 h =>
  vguard x23 false (fun kk => vindex x27 x31 h kk) h fun x32 h =>
  vguard x23 false (fun kk => vbin .eql 0 x32 (.v (.c (.p (.int .u8 9)))) h kk) h fun x33 h =>
  vguard x11 true (fun kk => vop O (.pick (.k x23) (.k (kB true)) (.k x33)) h 34 kk) h fun x34 h =>
  vguard x11 true (fun kk => kk x34 h) h fun x35 h =>
  vguard x35 false (fun kk => kk x0 h) h fun x36 h =>
  vguard x35 false (fun kk => vop O (.nilck (.k x36)) h 37 kk) h fun x37 h =>
  vguard x35 false (fun kk => vfaddr 0 x37 h kk) h fun x38 h =>
  vguard x35 false (fun kk => vload false 1 x38 h kk) h fun x39 h =>
  vguard x35 false (fun kk => kk x0 h) h fun x40 h =>
  vguard x35 false (fun kk => vop O (.nilck (.k x40)) h 41 kk) h fun x41 h =>
  vguard x35 false (fun kk => vfaddr 1 x41 h kk) h fun x42 h =>
  vguard x35 false (fun kk => vload false 1 x42 h kk) h fun x43 h =>
  vguard x35 false (fun kk => vindex x39 x43 h kk) h fun x44 h =>
  vguard x35 false (fun kk => vbin .eql 0 x44 (.v (.c (.p (.int .u8 10)))) h kk) h fun x45 h =>
  vguard x11 true (fun kk => vop O (.pick (.k x35) (.k (kB true)) (.k x45)) h 46 kk) h fun x46 h =>
  vguard x11 true (fun kk => kk x46 h) h fun x47 h =>
  vguard x47 false (fun kk => kk x0 h) h fun x48 h =>
  vguard x47 false (fun kk => vop O (.nilck (.k x48)) h 49 kk) h fun x49 h =>
  vguard x47 false (fun kk => vfaddr 0 x49 h kk) h fun x50 h =>
  vguard x47 false (fun kk => vload false 1 x50 h kk) h fun x51 h =>
  vguard x47 false (fun kk => kk x0 h) h fun x52 h =>
  vguard x47 false (fun kk => vop O (.nilck (.k x52)) h 53 kk) h fun x53 h =>
  vguard x47 false (fun kk => vfaddr 1 x53 h kk) h fun x54 h =>
  vguard x47 false (fun kk => vload false 1 x54 h kk) h fun x55 h =>
  vguard x47 false (fun kk => vindex x51 x55 h kk) h fun x56 h =>
  vguard x47 false (fun kk => vbin .eql 0 x56 (.v (.c (.p (.int .u8 13)))) h kk) h fun x57 h =>
  vguard x11 true (fun kk => vop O (.pick (.k x47) (.k (kB true)) (.k x57)) h 58 kk) h fun x58 h =>
  vop O (.pick (.k x11) (.k x58) (.k (kB false))) h 59 fun x59 h =>
  vif x59 (
  vop O (.nilck (.k x0)) h 61 fun x61 h =>
  vfaddr 1 x61 h fun x62 h =>
  vload false 1 x62 h fun x63 h =>
  vbin .add 0 x63 (kI 1) h fun x64 h =>
  vop O (.nilck (.k x0)) h 65 fun x65 h =>
  vfaddr 1 x65 h fun x66 h =>
  vstore 1 x66 x64 h fun _ h =>
  R 1 [x0] h)
  (vfin true q [] h)
theorem e51_1 (O : Oracle) (R : Jump) (q : Nat) (x0 : TVal) (h : Heap) : b51_1 O R q x0 h = stepF c51 O R q 1 [x0] h := by kernel_rfl
noncomputable def d51 : BlkF := fun O R q => [.s fun y0 => .z fun h => b51_0 O R q y0 h, .s fun y0 => .z fun h => b51_1 O R q y0 h]
theorem o51 (O : Oracle) (R : Jump) (q : Nat) : HoldsAll c51 O R q 0 (d51 O R q) := ⟨fun y0 h => e51_0 O R q y0 h, fun y0 h => e51_1 O R q y0 h, trivial⟩
/- (*sprue/sprueref13.reader).fail -/
def c52 : MFunc := { np := 2, res := [], frz := true, body := (.seq (.reg [⟨(some 4), (.mv (.t 0)), none⟩, ⟨(some 5), (.nilck (.t 4)), none⟩, ⟨(some 6), (.faddr 2 (.t 5)), none⟩, ⟨(some 7), (.load false 1 (.t 6)), none⟩, ⟨(some 8), (.bin .eql 0 (.t 7) (.k (.v (.c (.p (.int .i64 0)))))), none⟩] []) (.cond (.t 8) (.reg [⟨(some 9), (.mv (.t 0)), none⟩, ⟨(some 10), (.mv (.t 1)), none⟩, ⟨(some 11), (.nilck (.t 9)), none⟩, ⟨(some 12), (.faddr 2 (.t 11)), none⟩, ⟨none, (.store 1 (.t 12) (.t 10)), none⟩] []) .skip)) }
theorem t52 : compF Tryd.prog (globs2 tabs opq) false true Tryd.f52 = some c52.erase := by kernel_rfl
noncomputable def b52_0 (O : Oracle) (R : Jump) (q : Nat) (x0 x1 : TVal) (h : Heap) : Res1 :=
  vop O (.nilck (.k x0)) h 5 fun x5 h =>
  vfaddr 2 x5 h fun x6 h =>
  vload false 1 x6 h fun x7 h =>
  vbin .eql 0 x7 (kI 0) h fun x8 h =>
  vif x8 (
  vop O (.nilck (.k x0)) h 11 fun x11 h =>
  vfaddr 2 x11 h fun x12 h =>
  vstore 1 x12 x1 h fun _ h =>
  vfin true q [] h)
  (vfin true q [] h)
theorem e52_0 (O : Oracle) (R : Jump) (q : Nat) (x0 x1 : TVal) (h : Heap) : b52_0 O R q x0 x1 h = stepF c52 O R q 0 [x0, x1] h := by kernel_rfl
noncomputable def d52 : BlkF := fun O R q => [.s fun y0 => .s fun y1 => .z fun h => b52_0 O R q y0 y1 h]
theorem o52 (O : Oracle) (R : Jump) (q : Nat) : HoldsAll c52 O R q 0 (d52 O R q) := ⟨fun y0 y1 h => e52_0 O R q y0 y1 h, trivial⟩
/- sprue/sprueref13.Check -/
def c53 : MFunc := { np := 1, res := [.t 2], frz := true, body := (.seq (.reg [⟨(some 1), (.box (.t 0) false), none⟩, ⟨(some 2), (.mv (.k (.v (.c (.p (.int .i64 0)))))), none⟩] []) (.seq (.reg [⟨(some 4), (.build [(.p (.int .i64 0))] []), none⟩, ⟨(some 5), (.box (.t 4) false), none⟩, ⟨(some 3), (.mv (.t 5)), none⟩] []) (.seq (.reg [⟨(some 6), (.mv (.t 3)), none⟩, ⟨(some 7), (.load true 6 (.t 1)), none⟩, ⟨(some 8), (.call (.k (.v (.c (.func 91 [])))) [(.t 6), (.t 7), (.k (.v (.c (.p (.int .i64 1)))))]), none⟩, ⟨(some 2), (.mv (.t 8)), none⟩] []) .ret))) }
theorem t53 : compF Tryd.prog (globs2 tabs opq) false true Tryd.f53 = some c53.erase := by kernel_rfl
noncomputable def b53_0 (O : Oracle) (R : Jump) (q : Nat) (x0 : TVal) (h : Heap) : Res1 :=
  vop O (.box (.k x0) false) h 1 fun x1 h =>
  vop O (.build [(.p (.int .i64 0))] []) h 4 fun x4 h =>
  vop O (.box (.k x4) false) h 5 fun x5 h =>
  vload true 6 x1 h fun x7 h =>
  vcall O (.v (.c (.func 91 []))) [x5, x7, (kI 1)] h 8 fun x8 h =>
  tcomp x8 fun c0 => vfin true q [c0] h
theorem e53_0 (O : Oracle) (R : Jump) (q : Nat) (x0 : TVal) (h : Heap) : b53_0 O R q x0 h = stepF c53 O R q 0 [x0] h := by kernel_rfl
noncomputable def d53 : BlkF := fun O R q => [.s fun y0 => .z fun h => b53_0 O R q y0 h]
theorem o53 (O : Oracle) (R : Jump) (q : Nat) : HoldsAll c53 O R q 0 (d53 O R q) := ⟨fun y0 h => e53_0 O R q y0 h, trivial⟩
/- sprue/sprueref7.PipeText -/
def c54 : MFunc := { np := 1, res := [.t 2], frz := true, body := (.seq (.reg [⟨(some 2), (.mv (.k (.v (.c (.p (.str [])))))), none⟩] []) (.seq (.reg [⟨(some 3), (.mv (.k (.v (.c (.p (.str [])))))), none⟩] []) (.seq (.seq (.reg [⟨(some 4), (.mv (.k (.v (.c (.p (.int .i64 0)))))), none⟩] []) (.block 0 (.loop 1 [0, 3, 4] (.seq (.seq (.reg [⟨(some 6), (.mv (.t 4)), none⟩, ⟨(some 7), (.mv (.t 0)), none⟩, ⟨(some 8), (.len 2 (.t 7)), none⟩, ⟨(some 9), (.bin .lss 0 (.t 6) (.t 8)), none⟩] []) (.cond (.t 9) .skip (.exit 0))) (.seq (.block 1 (.seq (.seq (.reg [⟨(some 12), (.mv (.t 4)), none⟩, ⟨(some 13), (.bin .gtr 0 (.t 12) (.k (.v (.c (.p (.int .i64 0)))))), none⟩] []) (.cond (.t 13) (.reg [⟨(some 14), (.mv (.t 3)), none⟩, ⟨(some 15), (.bin .add 0 (.t 14) (.k (.v (.c (.p (.str [32, 124, 32])))))), none⟩, ⟨(some 3), (.mv (.t 15)), none⟩] []) .skip)) (.mark 2 [0, 3, 4] (.seq (.reg [⟨(some 5), (.mv (.k (.v (.c (.p (.int .i64 0)))))), none⟩] []) (.block 2 (.loop 3 [0, 3, 4, 5] (.seq (.seq (.reg [⟨(some 16), (.mv (.t 5)), none⟩, ⟨(some 17), (.mv (.t 0)), none⟩, ⟨(some 18), (.mv (.t 4)), none⟩, ⟨(some 19), (.iaddr 1 (.t 17) (.t 18)), none⟩, ⟨(some 20), (.faddr 0 (.t 19)), none⟩, ⟨(some 21), (.load false 1 (.t 20)), none⟩, ⟨(some 22), (.len 2 (.t 21)), none⟩, ⟨(some 23), (.bin .lss 0 (.t 16) (.t 22)), none⟩] []) (.cond (.t 23) .skip (.exit 2))) (.seq (.block 3 (.seq (.seq (.reg [⟨(some 26), (.mv (.t 5)), none⟩, ⟨(some 27), (.bin .gtr 0 (.t 26) (.k (.v (.c (.p (.int .i64 0)))))), none⟩] []) (.cond (.t 27) (.reg [⟨(some 28), (.mv (.t 3)), none⟩, ⟨(some 29), (.bin .add 0 (.t 28) (.k (.v (.c (.p (.str [32])))))), none⟩, ⟨(some 3), (.mv (.t 29)), none⟩] []) .skip)) (.mark 4 [0, 3, 4, 5] (.reg [⟨(some 30), (.mv (.t 3)), none⟩, ⟨(some 31), (.mv (.t 0)), none⟩, ⟨(some 32), (.mv (.t 4)), none⟩, ⟨(some 33), (.iaddr 1 (.t 31) (.t 32)), none⟩, ⟨(some 34), (.faddr 0 (.t 33)), none⟩, ⟨(some 35), (.load false 1 (.t 34)), none⟩, ⟨(some 36), (.mv (.t 5)), none⟩, ⟨(some 37), (.iaddr 7 (.t 35) (.t 36)), none⟩, ⟨(some 38), (.load true 7 (.t 37)), none⟩, ⟨(some 39), (.call (.k (.v (.c (.func 92 [])))) [(.t 38)]), none⟩, ⟨(some 40), (.bin .add 0 (.t 30) (.t 39)), none⟩, ⟨(some 3), (.mv (.t 40)), none⟩] [])))) (.reg [⟨(some 24), (.mv (.t 5)), none⟩, ⟨(some 25), (.bin .add 0 (.t 24) (.k (.v (.c (.p (.int .i64 1)))))), none⟩, ⟨(some 5), (.mv (.t 25)), none⟩] []))))))))) (.mark 5 [0, 3, 4] (.reg [⟨(some 10), (.mv (.t 4)), none⟩, ⟨(some 11), (.bin .add 0 (.t 10) (.k (.v (.c (.p (.int .i64 1)))))), none⟩, ⟨(some 4), (.mv (.t 11)), none⟩] []))))))) (.seq (.reg [⟨(some 41), (.mv (.t 3)), none⟩, ⟨(some 2), (.mv (.t 41)), none⟩] []) .ret)))) }
theorem t54 : compF Tryd.prog (globs2 tabs opq) false true Tryd.f54 = some c54.erase := by kernel_rfl
noncomputable def b54_0 (O : Oracle) (R : Jump) (q : Nat) (x0 : TVal) (h : Heap) : Res1 :=
  R 1 [x0, (kS []), (kI 0)] h
theorem e54_0 (O : Oracle) (R : Jump) (q : Nat) (x0 : TVal) (h : Heap) : b54_0 O R q x0 h = stepF c54 O R q 0 [x0] h := by kernel_rfl
noncomputable def b54_1 (O : Oracle) (R : Jump) (q : Nat) (x0 x3 x4 : TVal) (h : Heap) : Res1 :=
  vlen O 2 x0 h 8 fun x8 h =>
  vbin .lss 0 x4 x8 h fun x9 h =>
  vif x9 (
  vbin .gtr 0 x4 (kI 0) h fun x13 h =>
  vif x13 (
  vbin .add 0 x3 (kS [32, 124, 32]) h fun x15 h =>
  R 2 [x0, x15, x4] h)
  (R 2 [x0, x3, x4] h))
  (tcomp x3 fun c0 => vfin true q [c0] h)
theorem e54_1 (O : Oracle) (R : Jump) (q : Nat) (x0 x3 x4 : TVal) (h : Heap) : b54_1 O R q x0 x3 x4 h = stepF c54 O R q 1 [x0, x3, x4] h := by kernel_rfl
noncomputable def b54_2 (O : Oracle) (R : Jump) (q : Nat) (x0 x3 x4 : TVal) (h : Heap) : Res1 :=
  R 3 [x0, x3, x4, (kI 0)] h
theorem e54_2 (O : Oracle) (R : Jump) (q : Nat) (x0 x3 x4 : TVal) (h : Heap) : b54_2 O R q x0 x3 x4 h = stepF c54 O R q 2 [x0, x3, x4] h := by kernel_rfl
noncomputable def b54_3 (O : Oracle) (R : Jump) (q : Nat) (x0 x3 x4 x5 : TVal) (h : Heap) : Res1 :=
  viaddr 1 x0 x4 h fun x19 h =>
  vfaddr 0 x19 h fun x20 h =>
  vload false 1 x20 h fun x21 h =>
  vlen O 2 x21 h 22 fun x22 h =>
  vbin .lss 0 x5 x22 h fun x23 h =>
  vif x23 (
  vbin .gtr 0 x5 (kI 0) h fun x27 h =>
  vif x27 (
  vbin .add 0 x3 (kS [32]) h fun x29 h =>
  R 4 [x0, x29, x4, x5] h)
  (R 4 [x0, x3, x4, x5] h))
  (R 5 [x0, x3, x4] h)
theorem e54_3 (O : Oracle) (R : Jump) (q : Nat) (x0 x3 x4 x5 : TVal) (h : Heap) : b54_3 O R q x0 x3 x4 x5 h = stepF c54 O R q 3 [x0, x3, x4, x5] h := by kernel_rfl
noncomputable def b54_4 (O : Oracle) (R : Jump) (q : Nat) (x0 x3 x4 x5 : TVal) (h : Heap) : Res1 :=
  viaddr 1 x0 x4 h fun x33 h =>
  vfaddr 0 x33 h fun x34 h =>
  vload false 1 x34 h fun x35 h =>
  viaddr 7 x35 x5 h fun x37 h =>
  vload true 7 x37 h fun x38 h =>
  vcall O (.v (.c (.func 92 []))) [x38] h 39 fun x39 h =>
  vbin .add 0 x3 x39 h fun x40 h =>
  vbin .add 0 x5 (kI 1) h fun x25 h =>
  R 3 [x0, x40, x4, x25] h
theorem e54_4 (O : Oracle) (R : Jump) (q : Nat) (x0 x3 x4 x5 : TVal) (h : Heap) : b54_4 O R q x0 x3 x4 x5 h = stepF c54 O R q 4 [x0, x3, x4, x5] h := by kernel_rfl
noncomputable def b54_5 (O : Oracle) (R : Jump) (q : Nat) (x0 x3 x4 : TVal) (h : Heap) : Res1 :=
  vbin .add 0 x4 (kI 1) h fun x11 h =>
  R 1 [x0, x3, x11] h
theorem e54_5 (O : Oracle) (R : Jump) (q : Nat) (x0 x3 x4 : TVal) (h : Heap) : b54_5 O R q x0 x3 x4 h = stepF c54 O R q 5 [x0, x3, x4] h := by kernel_rfl
noncomputable def d54 : BlkF := fun O R q => [.s fun y0 => .z fun h => b54_0 O R q y0 h, .s fun y0 => .s fun y1 => .s fun y2 => .z fun h => b54_1 O R q y0 y1 y2 h, .s fun y0 => .s fun y1 => .s fun y2 => .z fun h => b54_2 O R q y0 y1 y2 h, .s fun y0 => .s fun y1 => .s fun y2 => .s fun y3 => .z fun h => b54_3 O R q y0 y1 y2 y3 h, .s fun y0 => .s fun y1 => .s fun y2 => .s fun y3 => .z fun h => b54_4 O R q y0 y1 y2 y3 h, .s fun y0 => .s fun y1 => .s fun y2 => .z fun h => b54_5 O R q y0 y1 y2 h]
theorem o54 (O : Oracle) (R : Jump) (q : Nat) : HoldsAll c54 O R q 0 (d54 O R q) := ⟨fun y0 h => e54_0 O R q y0 h, fun y0 y1 y2 h => e54_1 O R q y0 y1 y2 h, fun y0 y1 y2 h => e54_2 O R q y0 y1 y2 h, fun y0 y1 y2 y3 h => e54_3 O R q y0 y1 y2 y3 h, fun y0 y1 y2 y3 h => e54_4 O R q y0 y1 y2 y3 h, fun y0 y1 y2 h => e54_5 O R q y0 y1 y2 h, trivial⟩
/- sprue/sprueref7.Quote -/
def c55 : MFunc := { np := 1, res := [.t 2], frz := true, body := (.seq (.reg [⟨(some 2), (.mv (.k (.v (.c (.p (.str [])))))), none⟩] []) (.seq (.reg [⟨(some 3), (.mv (.k (.v (.c (.p (.str [34])))))), none⟩] []) (.seq (.seq (.reg [⟨(some 4), (.mv (.k (.v (.c (.p (.int .i64 0)))))), none⟩] []) (.block 0 (.loop 1 [0, 3, 4] (.seq (.seq (.reg [⟨(some 5), (.mv (.t 4)), none⟩, ⟨(some 6), (.mv (.t 0)), none⟩, ⟨(some 7), (.len 0 (.t 6)), none⟩, ⟨(some 8), (.bin .lss 0 (.t 5) (.t 7)), none⟩] []) (.cond (.t 8) .skip (.exit 0))) (.seq (.block 1 (.seq (.reg [⟨(some 11), (.mv (.t 0)), none⟩, ⟨(some 12), (.mv (.t 4)), none⟩, ⟨(some 13), (.index (.t 11) (.t 12)), none⟩] []) (.block 2 (.seq (.seq (.reg [⟨(some 22), (.bin .eql 0 (.t 13) (.k (.v (.c (.p (.int .u8 92)))))), none⟩, ⟨(some 21), (.mv (.t 22)), none⟩] []) (.cond (.t 21) .skip (.reg [⟨(some 23), (.bin .eql 0 (.t 13) (.k (.v (.c (.p (.int .u8 34)))))), none⟩, ⟨(some 21), (.mv (.t 23)), none⟩] []))) (.mark 2 [0, 3, 4, 13, 21] (.cond (.t 21) (.reg [⟨(some 24), (.mv (.t 3)), none⟩, ⟨(some 25), (.bin .add 0 (.t 24) (.k (.v (.c (.p (.str [92])))))), none⟩, ⟨(some 26), (.mv (.t 0)), none⟩, ⟨(some 27), (.mv (.t 4)), none⟩, ⟨(some 28), (.mv (.t 4)), none⟩, ⟨(some 29), (.bin .add 0 (.t 28) (.k (.v (.c (.p (.int .i64 1)))))), none⟩, ⟨(some 30), (.slice 0 true (.t 26) (some (.t 27)) (some (.t 29)) none), none⟩, ⟨(some 31), (.bin .add 0 (.t 25) (.t 30)), none⟩, ⟨(some 3), (.mv (.t 31)), none⟩] []) (.seq (.reg [⟨(some 33), (.bin .eql 0 (.t 13) (.k (.v (.c (.p (.int .u8 10)))))), none⟩, ⟨(some 32), (.mv (.t 33)), none⟩] []) (.cond (.t 32) (.reg [⟨(some 34), (.mv (.t 3)), none⟩, ⟨(some 35), (.bin .add 0 (.t 34) (.k (.v (.c (.p (.str [92, 110])))))), none⟩, ⟨(some 3), (.mv (.t 35)), none⟩] []) (.seq (.reg [⟨(some 37), (.bin .eql 0 (.t 13) (.k (.v (.c (.p (.int .u8 9)))))), none⟩, ⟨(some 36), (.mv (.t 37)), none⟩] []) (.cond (.t 36) (.reg [⟨(some 38), (.mv (.t 3)), none⟩, ⟨(some 39), (.bin .add 0 (.t 38) (.k (.v (.c (.p (.str [92, 116])))))), none⟩, ⟨(some 3), (.mv (.t 39)), none⟩] []) (.reg [⟨(some 14), (.mv (.t 3)), none⟩, ⟨(some 15), (.mv (.t 0)), none⟩, ⟨(some 16), (.mv (.t 4)), none⟩, ⟨(some 17), (.mv (.t 4)), none⟩, ⟨(some 18), (.bin .add 0 (.t 17) (.k (.v (.c (.p (.int .i64 1)))))), none⟩, ⟨(some 19), (.slice 0 true (.t 15) (some (.t 16)) (some (.t 18)) none), none⟩, ⟨(some 20), (.bin .add 0 (.t 14) (.t 19)), none⟩, ⟨(some 3), (.mv (.t 20)), none⟩] []))))))))))) (.mark 3 [0, 3, 4] (.reg [⟨(some 9), (.mv (.t 4)), none⟩, ⟨(some 10), (.bin .add 0 (.t 9) (.k (.v (.c (.p (.int .i64 1)))))), none⟩, ⟨(some 4), (.mv (.t 10)), none⟩] []))))))) (.mark 4 [3] (.seq (.reg [⟨(some 40), (.mv (.t 3)), none⟩, ⟨(some 41), (.bin .add 0 (.t 40) (.k (.v (.c (.p (.str [34])))))), none⟩, ⟨(some 2), (.mv (.t 41)), none⟩] []) .ret))))) }
theorem t55 : compF Tryd.prog (globs2 tabs opq) false true Tryd.f55 = some c55.erase := by kernel_rfl
noncomputable def b55_0 (O : Oracle) (R : Jump) (q : Nat) (x0 : TVal) (h : Heap) : Res1 :=
  R 1 [x0, (kS [34]), (kI 0)] h
theorem e55_0 (O : Oracle) (R : Jump) (q : Nat) (x0 : TVal) (h : Heap) : b55_0 O R q x0 h = stepF c55 O R q 0 [x0] h := by kernel_rfl
noncomputable def b55_1 (O : Oracle) (R : Jump) (q : Nat) (x0 x3 x4 : TVal) (h : Heap) : Res1 :=
  vlen O 0 x0 h 7 fun x7 h =>
  vbin .lss 0 x4 x7 h fun x8 h =>
  vif x8 (
  vindex x0 x4 h fun x13 h =>
  vbin .eql 0 x13 (.v (.c (.p (.int .u8 92)))) h fun x22 h =>
  vif x22 (
  R 2 [x0, x3, x4, x13, x22] h)
  (vbin .eql 0 x13 (.v (.c (.p (.int .u8 34)))) h fun x23 h =>
  R 2 [x0, x3, x4, x13, x23] h))
  (R 4 [x3] h)
theorem e55_1 (O : Oracle) (R : Jump) (q : Nat) (x0 x3 x4 : TVal) (h : Heap) : b55_1 O R q x0 x3 x4 h = stepF c55 O R q 1 [x0, x3, x4] h := by kernel_rfl
noncomputable def b55_2 (O : Oracle) (R : Jump) (q : Nat) (x0 x3 x4 x13 x21 : TVal) (h : Heap) : Res1 :=
  vif x21 (
  vbin .add 0 x3 (kS [92]) h fun x25 h =>
  vbin .add 0 x4 (kI 1) h fun x29 h =>
  vop O (.slice 0 true (.k x0) (some (.k x4)) (some (.k x29)) none) h 30 fun x30 h =>
  vbin .add 0 x25 x30 h fun x31 h =>
  R 3 [x0, x31, x4] h)
  (vbin .eql 0 x13 (.v (.c (.p (.int .u8 10)))) h fun x33 h =>
  vif x33 (
  vbin .add 0 x3 (kS [92, 110]) h fun x35 h =>
  R 3 [x0, x35, x4] h)
  (vbin .eql 0 x13 (.v (.c (.p (.int .u8 9)))) h fun x37 h =>
  vif x37 (
  vbin .add 0 x3 (kS [92, 116]) h fun x39 h =>
  R 3 [x0, x39, x4] h)
  (vbin .add 0 x4 (kI 1) h fun x18 h =>
  vop O (.slice 0 true (.k x0) (some (.k x4)) (some (.k x18)) none) h 19 fun x19 h =>
  vbin .add 0 x3 x19 h fun x20 h =>
  R 3 [x0, x20, x4] h)))
theorem e55_2 (O : Oracle) (R : Jump) (q : Nat) (x0 x3 x4 x13 x21 : TVal) (h : Heap) : b55_2 O R q x0 x3 x4 x13 x21 h = stepF c55 O R q 2 [x0, x3, x4, x13, x21] h := by kernel_rfl
noncomputable def b55_3 (O : Oracle) (R : Jump) (q : Nat) (x0 x3 x4 : TVal) (h : Heap) : Res1 :=
  vbin .add 0 x4 (kI 1) h fun x10 h =>
  R 1 [x0, x3, x10] h
theorem e55_3 (O : Oracle) (R : Jump) (q : Nat) (x0 x3 x4 : TVal) (h : Heap) : b55_3 O R q x0 x3 x4 h = stepF c55 O R q 3 [x0, x3, x4] h := by kernel_rfl
noncomputable def b55_4 (O : Oracle) (R : Jump) (q : Nat) (x3 : TVal) (h : Heap) : Res1 :=
  vbin .add 0 x3 (kS [34]) h fun x41 h =>
  tcomp x41 fun c0 => vfin true q [c0] h
theorem e55_4 (O : Oracle) (R : Jump) (q : Nat) (x3 : TVal) (h : Heap) : b55_4 O R q x3 h = stepF c55 O R q 4 [x3] h := by kernel_rfl
noncomputable def d55 : BlkF := fun O R q => [.s fun y0 => .z fun h => b55_0 O R q y0 h, .s fun y0 => .s fun y1 => .s fun y2 => .z fun h => b55_1 O R q y0 y1 y2 h, .s fun y0 => .s fun y1 => .s fun y2 => .s fun y3 => .s fun y4 => .z fun h => b55_2 O R q y0 y1 y2 y3 y4 h, .s fun y0 => .s fun y1 => .s fun y2 => .z fun h => b55_3 O R q y0 y1 y2 h, .s fun y0 => .z fun h => b55_4 O R q y0 h]
theorem o55 (O : Oracle) (R : Jump) (q : Nat) : HoldsAll c55 O R q 0 (d55 O R q) := ⟨fun y0 h => e55_0 O R q y0 h, fun y0 y1 y2 h => e55_1 O R q y0 y1 y2 h, fun y0 y1 y2 y3 y4 h => e55_2 O R q y0 y1 y2 y3 y4 h, fun y0 y1 y2 h => e55_3 O R q y0 y1 y2 h, fun y0 h => e55_4 O R q y0 h, trivial⟩
/- slices.Index[[]string,string] -/
def c64 : MFunc := { np := 2, res := [.t 4], frz := true, body := (.seq (.reg [⟨(some 4), (.mv (.k (.v (.c (.p (.int .i64 0)))))), none⟩] []) (.seq (.seq (.reg [⟨(some 6), (.mv (.t 0)), none⟩, ⟨(some 7), (.len 2 (.t 6)), none⟩, ⟨(some 8), (.mv (.k (.v (.c (.p (.int .i64 0)))))), none⟩] []) (.block 0 (.loop 1 [0, 1, 7, 8] (.seq (.reg [⟨(some 9), (.bin .lss 0 (.t 8) (.t 7)), none⟩] []) (.seq (.cond (.t 9) .skip (.exit 0)) (.seq (.block 1 (.seq (.reg [⟨(some 10), (.mv (.t 8)), none⟩, ⟨(some 5), (.mv (.t 10)), none⟩] []) (.seq (.reg [⟨(some 11), (.mv (.t 1)), none⟩, ⟨(some 12), (.mv (.t 0)), none⟩, ⟨(some 13), (.mv (.t 5)), none⟩, ⟨(some 14), (.iaddr 1 (.t 12) (.t 13)), none⟩, ⟨(some 15), (.load false 1 (.t 14)), none⟩, ⟨(some 16), (.bin .eql 0 (.t 11) (.t 15)), none⟩] []) (.cond (.t 16) (.seq (.reg [⟨(some 17), (.mv (.t 5)), none⟩, ⟨(some 4), (.mv (.t 17)), none⟩] []) .ret) .skip)))) (.reg [⟨(some 18), (.bin .add 0 (.t 8) (.k (.v (.c (.p (.int .i64 1)))))), none⟩, ⟨(some 8), (.mv (.t 18)), none⟩] []))))))) (.seq (.reg [⟨(some 4), (.mv (.k (.v (.c (.p (.int .i64 (-1))))))), none⟩] []) .ret))) }
theorem t64 : compF Tryd.prog (globs2 tabs opq) false true Tryd.f64 = some c64.erase := by kernel_rfl
noncomputable def b64_0 (O : Oracle) (R : Jump) (q : Nat) (x0 x1 : TVal) (h : Heap) : Res1 :=
  vlen O 2 x0 h 7 fun x7 h =>
  R 1 [x0, x1, x7, (kI 0)] h
theorem e64_0 (O : Oracle) (R : Jump) (q : Nat) (x0 x1 : TVal) (h : Heap) : b64_0 O R q x0 x1 h = stepF c64 O R q 0 [x0, x1] h := by kernel_rfl
noncomputable def b64_1 (O : Oracle) (R : Jump) (q : Nat) (x0 x1 x7 x8 : TVal) (h : Heap) : Res1 :=
  vbin .lss 0 x8 x7 h fun x9 h =>
  vif x9 (
  viaddr 1 x0 x8 h fun x14 h =>
  vload false 1 x14 h fun x15 h =>
  vbin .eql 0 x1 x15 h fun x16 h =>
  vif x16 (
  tcomp x8 fun c0 => vfin true q [c0] h)
  (vbin .add 0 x8 (kI 1) h fun x18 h =>
  R 1 [x0, x1, x7, x18] h))
  (tcomp (kI (-1)) fun c0 => vfin true q [c0] h)
theorem e64_1 (O : Oracle) (R : Jump) (q : Nat) (x0 x1 x7 x8 : TVal) (h : Heap) : b64_1 O R q x0 x1 x7 x8 h = stepF c64 O R q 1 [x0, x1, x7, x8] h := by kernel_rfl
noncomputable def d64 : BlkF := fun O R q => [.s fun y0 => .s fun y1 => .z fun h => b64_0 O R q y0 y1 h, .s fun y0 => .s fun y1 => .s fun y2 => .s fun y3 => .z fun h => b64_1 O R q y0 y1 y2 y3 h]
theorem o64 (O : Oracle) (R : Jump) (q : Nat) : HoldsAll c64 O R q 0 (d64 O R q) := ⟨fun y0 y1 h => e64_0 O R q y0 y1 h, fun y0 y1 y2 y3 h => e64_1 O R q y0 y1 y2 y3 h, trivial⟩
/- sprue/fits.made -/
def c69 : MFunc := { np := 1, res := [.t 2], frz := true, body := (.seq (.reg [⟨(some 1), (.box (.t 0) false), none⟩, ⟨(some 2), (.mv (.k (.v (.c (.p .nilmap))))), none⟩] []) (.seq (.reg [⟨(some 6), .mkmap, none⟩, ⟨(some 3), (.mv (.t 6)), none⟩] []) (.seq (.seq (.reg [⟨(some 7), (.faddr 4 (.t 1)), none⟩, ⟨(some 8), (.load false 1 (.t 7)), none⟩, ⟨(some 9), (.len 2 (.t 8)), none⟩, ⟨(some 10), (.mv (.k (.v (.c (.p (.int .i64 0)))))), none⟩] []) (.block 0 (.loop 1 [3, 8, 9, 10] (.seq (.reg [⟨(some 11), (.bin .lss 0 (.t 10) (.t 9)), none⟩] []) (.seq (.cond (.t 11) .skip (.exit 0)) (.seq (.block 1 (.seq (.reg [⟨(some 12), (.iaddr 5 (.t 8) (.t 10)), none⟩, ⟨(some 13), (.load true 5 (.t 12)), none⟩, ⟨(some 5), (.alloc [(.p (.str [])), (.p (.int .i64 0)), (.p (.str [])), (.p .nilslice), (.p .nilslice)] false), none⟩, ⟨none, (.store 5 (.t 5) (.t 13)), none⟩] []) (.reg [⟨(some 14), (.mv (.t 3)), none⟩, ⟨(some 15), (.faddr 0 (.t 5)), none⟩, ⟨(some 16), (.load false 1 (.t 15)), none⟩, ⟨(some 17), (.faddr 1 (.t 5)), none⟩, ⟨(some 18), (.load true 4 (.t 17)), none⟩, ⟨none, (.mapup 2 (.t 14) (.t 16) (.t 18)), none⟩] []))) (.reg [⟨(some 19), (.bin .add 0 (.t 10) (.k (.v (.c (.p (.int .i64 1)))))), none⟩, ⟨(some 10), (.mv (.t 19)), none⟩] []))))))) (.seq (.reg [⟨(some 20), (.mv (.t 3)), none⟩, ⟨(some 2), (.mv (.t 20)), none⟩] []) .ret)))) }
theorem t69 : compF Tryd.prog (globs2 tabs opq) false true Tryd.f69 = some c69.erase := by kernel_rfl
noncomputable def b69_0 (O : Oracle) (R : Jump) (q : Nat) (x0 : TVal) (h : Heap) : Res1 :=
  vop O (.box (.k x0) false) h 1 fun x1 h =>
  vop O .mkmap h 6 fun x6 h =>
  vfaddr 4 x1 h fun x7 h =>
  vload false 1 x7 h fun x8 h =>
  vlen O 2 x8 h 9 fun x9 h =>
  R 1 [x6, x8, x9, (kI 0)] h
theorem e69_0 (O : Oracle) (R : Jump) (q : Nat) (x0 : TVal) (h : Heap) : b69_0 O R q x0 h = stepF c69 O R q 0 [x0] h := by kernel_rfl
noncomputable def b69_1 (O : Oracle) (R : Jump) (q : Nat) (x3 x8 x9 x10 : TVal) (h : Heap) : Res1 :=
  vbin .lss 0 x10 x9 h fun x11 h =>
  vif x11 (
  viaddr 5 x8 x10 h fun x12 h =>
  vload true 5 x12 h fun x13 h =>
  vop O (.alloc [(.p (.str [])), (.p (.int .i64 0)), (.p (.str [])), (.p .nilslice), (.p .nilslice)] false) h 5 fun x5 h =>
  vstore 5 x5 x13 h fun _ h =>
  vfaddr 0 x5 h fun x15 h =>
  vload false 1 x15 h fun x16 h =>
  vfaddr 1 x5 h fun x17 h =>
  vload true 4 x17 h fun x18 h =>
  vop O (.mapup 2 (.k x3) (.k x16) (.k x18)) h 1000000 fun _ h =>
  vbin .add 0 x10 (kI 1) h fun x19 h =>
  R 1 [x3, x8, x9, x19] h)
  (tcomp x3 fun c0 => vfin true q [c0] h)
theorem e69_1 (O : Oracle) (R : Jump) (q : Nat) (x3 x8 x9 x10 : TVal) (h : Heap) : b69_1 O R q x3 x8 x9 x10 h = stepF c69 O R q 1 [x3, x8, x9, x10] h := by kernel_rfl
noncomputable def d69 : BlkF := fun O R q => [.s fun y0 => .z fun h => b69_0 O R q y0 h, .s fun y0 => .s fun y1 => .s fun y2 => .s fun y3 => .z fun h => b69_1 O R q y0 y1 y2 y3 h]
theorem o69 (O : Oracle) (R : Jump) (q : Nat) : HoldsAll c69 O R q 0 (d69 O R q) := ⟨fun y0 h => e69_0 O R q y0 h, fun y0 y1 y2 y3 h => e69_1 O R q y0 y1 y2 y3 h, trivial⟩
/- (sprue/fits.fitter).fit -/
def c70 : MFunc := { np := 3, res := [.t 6, .t 7], frz := true, body := (.seq (.reg [⟨(some 4), (.box (.t 1) false), none⟩, ⟨(some 5), (.box (.t 2) false), none⟩, ⟨(some 6), (.mv (.k (.v (.c (.p (.str [])))))), none⟩, ⟨(some 7), (.mv (.k (.v (.c (.p (.bool false)))))), none⟩] []) (.seq (.seq (.reg [⟨(some 8), (.mv (.t 0)), none⟩, ⟨(some 9), (.load true 4 (.t 4)), none⟩, ⟨(some 10), (.call (.k (.v (.c (.func 100 [])))) [(.t 8), (.t 9)]), none⟩, ⟨none, (.store 4 (.t 4) (.t 10)), none⟩] []) (.seq (.reg [⟨(some 11), (.faddr 0 (.t 4)), none⟩, ⟨(some 12), (.load false 1 (.t 11)), none⟩] []) (.block 0 (.seq (.reg [⟨(some 14), (.bin .eql 0 (.t 12) (.k (.v (.c (.p (.int .i64 1)))))), none⟩, ⟨(some 13), (.mv (.t 14)), none⟩] []) (.cond (.t 13) (.seq (.reg [⟨(some 15), (.faddr 0 (.t 5)), none⟩, ⟨(some 16), (.load false 1 (.t 15)), none⟩, ⟨(some 17), (.bin .eql 0 (.t 16) (.k (.v (.c (.p (.int .i64 1)))))), none⟩, ⟨(some 6), (.mv (.k (.v (.c (.p (.str [])))))), none⟩, ⟨(some 7), (.mv (.t 17)), none⟩] []) .ret) (.seq (.reg [⟨(some 19), (.bin .eql 0 (.t 12) (.k (.v (.c (.p (.int .i64 2)))))), none⟩, ⟨(some 18), (.mv (.t 19)), none⟩] []) (.cond (.t 18) (.seq (.reg [⟨(some 20), (.faddr 0 (.t 5)), none⟩, ⟨(some 21), (.load false 1 (.t 20)), none⟩, ⟨(some 22), (.bin .eql 0 (.t 21) (.k (.v (.c (.p (.int .i64 2)))))), none⟩, ⟨(some 6), (.mv (.k (.v (.c (.p (.str [])))))), none⟩, ⟨(some 7), (.mv (.t 22)), none⟩] []) .ret) (.seq (.reg [⟨(some 24), (.bin .eql 0 (.t 12) (.k (.v (.c (.p (.int .i64 3)))))), none⟩, ⟨(some 23), (.mv (.t 24)), none⟩] []) (.cond (.t 23) (.seq (.reg [⟨(some 25), (.faddr 0 (.t 5)), none⟩, ⟨(some 26), (.load false 1 (.t 25)), none⟩, ⟨(some 27), (.bin .eql 0 (.t 26) (.k (.v (.c (.p (.int .i64 3)))))), none⟩, ⟨(some 6), (.mv (.k (.v (.c (.p (.str [])))))), none⟩, ⟨(some 7), (.mv (.t 27)), none⟩] []) .ret) (.seq (.reg [⟨(some 29), (.bin .eql 0 (.t 12) (.k (.v (.c (.p (.int .i64 4)))))), none⟩, ⟨(some 28), (.mv (.t 29)), none⟩] []) (.cond (.t 28) (.seq (.reg [⟨(some 30), (.mv (.t 0)), none⟩, ⟨(some 31), (.load true 4 (.t 4)), none⟩, ⟨(some 32), (.load true 6 (.t 5)), none⟩, ⟨(some 33), (.call (.k (.v (.c (.func 101 [])))) [(.t 30), (.t 31), (.t 32), (.k (.v (.c (.p (.int .i64 4))))), (.k (.v (.c (.func 102 []))))]), none⟩, ⟨(some 34), (.extract (.t 33) 0), none⟩, ⟨(some 35), (.extract (.t 33) 1), none⟩, ⟨(some 6), (.mv (.t 34)), none⟩, ⟨(some 7), (.mv (.t 35)), none⟩] []) .ret) (.seq (.reg [⟨(some 37), (.bin .eql 0 (.t 12) (.k (.v (.c (.p (.int .i64 5)))))), none⟩, ⟨(some 36), (.mv (.t 37)), none⟩] []) (.cond (.t 36) (.seq (.reg [⟨(some 38), (.mv (.t 0)), none⟩, ⟨(some 39), (.load true 4 (.t 4)), none⟩, ⟨(some 40), (.load true 6 (.t 5)), none⟩, ⟨(some 41), (.mkfn 104 [(.t 5)]), none⟩, ⟨(some 42), (.call (.k (.v (.c (.func 101 [])))) [(.t 38), (.t 39), (.t 40), (.k (.v (.c (.p (.int .i64 5))))), (.t 41)]), none⟩, ⟨(some 43), (.extract (.t 42) 0), none⟩, ⟨(some 44), (.extract (.t 42) 1), none⟩, ⟨(some 6), (.mv (.t 43)), none⟩, ⟨(some 7), (.mv (.t 44)), none⟩] []) .ret) (.seq (.reg [⟨(some 46), (.bin .eql 0 (.t 12) (.k (.v (.c (.p (.int .i64 6)))))), none⟩, ⟨(some 45), (.mv (.t 46)), none⟩] []) (.cond (.t 45) (.seq (.seq (.reg [⟨(some 47), (.faddr 0 (.t 5)), none⟩, ⟨(some 48), (.load false 1 (.t 47)), none⟩, ⟨(some 49), (.bin .eql 0 (.t 48) (.k (.v (.c (.p (.int .i64 0)))))), none⟩, ⟨(some 50), (.mv (.t 49)), none⟩, ⟨(some 51), (.faddr 3 (.t 4)), (some (50, false))⟩, ⟨(some 52), (.load false 1 (.t 51)), (some (50, false))⟩, ⟨(some 53), (.len 2 (.t 52)), (some (50, false))⟩, ⟨(some 54), (.bin .neq 0 (.t 53) (.k (.v (.c (.p (.int .i64 1)))))), (some (50, false))⟩, ⟨(some 55), (.pick (.t 50) (.k (.v (.c (.p (.bool true))))) (.t 54)), none⟩] []) (.cond (.t 55) (.seq (.reg [⟨(some 56), (.faddr 0 (.t 5)), none⟩, ⟨(some 57), (.load false 1 (.t 56)), none⟩, ⟨(some 58), (.bin .eql 0 (.t 57) (.k (.v (.c (.p (.int .i64 0)))))), none⟩, ⟨(some 6), (.mv (.k (.v (.c (.p (.str [])))))), none⟩, ⟨(some 7), (.mv (.t 58)), none⟩] []) .ret) .skip)) (.seq (.reg [⟨(some 59), (.mv (.t 0)), none⟩, ⟨(some 60), (.faddr 3 (.t 4)), none⟩, ⟨(some 61), (.load false 1 (.t 60)), none⟩, ⟨(some 62), (.iaddr 4 (.t 61) (.k (.v (.c (.p (.int .i64 0)))))), none⟩, ⟨(some 63), (.load true 4 (.t 62)), none⟩, ⟨(some 64), (.load true 6 (.t 5)), none⟩, ⟨(some 65), (.call (.k (.v (.c (.func 70 [])))) [(.t 59), (.t 63), (.t 64)]), none⟩, ⟨(some 66), (.extract (.t 65) 0), none⟩, ⟨(some 67), (.extract (.t 65) 1), none⟩, ⟨(some 6), (.mv (.t 66)), none⟩, ⟨(some 7), (.mv (.t 67)), none⟩] []) .ret)) (.seq (.reg [⟨(some 69), (.bin .eql 0 (.t 12) (.k (.v (.c (.p (.int .i64 7)))))), none⟩, ⟨(some 68), (.mv (.t 69)), none⟩] []) (.cond (.t 68) (.seq (.reg [⟨(some 70), (.mv (.t 0)), none⟩, ⟨(some 71), (.load true 4 (.t 4)), none⟩, ⟨(some 72), (.load true 6 (.t 5)), none⟩, ⟨(some 73), (.call (.k (.v (.c (.func 105 [])))) [(.t 70), (.t 71), (.t 72)]), none⟩, ⟨(some 74), (.extract (.t 73) 0), none⟩, ⟨(some 75), (.extract (.t 73) 1), none⟩, ⟨(some 6), (.mv (.t 74)), none⟩, ⟨(some 7), (.mv (.t 75)), none⟩] []) .ret) (.seq (.reg [⟨(some 77), (.bin .eql 0 (.t 12) (.k (.v (.c (.p (.int .i64 8)))))), none⟩, ⟨(some 76), (.mv (.t 77)), none⟩] []) (.cond (.t 76) (.seq (.reg [⟨(some 78), (.mv (.t 0)), none⟩, ⟨(some 79), (.load true 4 (.t 4)), none⟩, ⟨(some 80), (.load true 6 (.t 5)), none⟩, ⟨(some 81), (.call (.k (.v (.c (.func 106 [])))) [(.t 78), (.t 79), (.t 80)]), none⟩, ⟨(some 82), (.extract (.t 81) 0), none⟩, ⟨(some 83), (.extract (.t 81) 1), none⟩, ⟨(some 6), (.mv (.t 82)), none⟩, ⟨(some 7), (.mv (.t 83)), none⟩] []) .ret) .skip))))))))))))))))))) (.seq (.reg [⟨(some 6), (.mv (.k (.v (.c (.p (.str [])))))), none⟩, ⟨(some 7), (.mv (.k (.v (.c (.p (.bool false)))))), none⟩] []) .ret))) }
theorem t70 : compF Tryd.prog (globs2 tabs opq) false true Tryd.f70 = some c70.erase := by kernel_rfl
noncomputable def b70_0 (O : Oracle) (R : Jump) (q : Nat) (x0 x1 x2 : TVal) (h : Heap) : Res1 :=
  vop O (.box (.k x1) false) h 4 fun x4 h =>
  vop O (.box (.k x2) false) h 5 fun x5 h =>
  vload true 4 x4 h fun x9 h =>
  vcall O (.v (.c (.func 100 []))) [x0, x9] h 10 fun x10 h =>
  vstore 4 x4 x10 h fun _ h =>
  vfaddr 0 x4 h fun x11 h =>
  vload false 1 x11 h fun x12 h =>
  vbin .eql 0 x12 (kI 1) h fun x14 h =>
  vif x14 (
  vfaddr 0 x5 h fun x15 h =>
  vload false 1 x15 h fun x16 h =>
  vbin .eql 0 x16 (kI 1) h fun x17 h =>
  tcomp (kS []) fun c0 => tcomp x17 fun c1 => vfin true q [c0, c1] h)
  (vbin .eql 0 x12 (kI 2) h fun x19 h =>
  vif x19 (
  vfaddr 0 x5 h fun x20 h =>
  vload false 1 x20 h fun x21 h =>
  vbin .eql 0 x21 (kI 2) h fun x22 h =>
  tcomp (kS []) fun c0 => tcomp x22 fun c1 => vfin true q [c0, c1] h)
  (vbin .eql 0 x12 (kI 3) h fun x24 h =>
  vif x24 (
  vfaddr 0 x5 h fun x25 h =>
  vload false 1 x25 h fun x26 h =>
  vbin .eql 0 x26 (kI 3) h fun x27 h =>
  tcomp (kS []) fun c0 => tcomp x27 fun c1 => vfin true q [c0, c1] h)
  (vbin .eql 0 x12 (kI 4) h fun x29 h =>
  vif x29 (
  vload true 4 x4 h fun x31 h =>
  vload true 6 x5 h fun x32 h =>
  vcall O (.v (.c (.func 101 []))) [x0, x31, x32, (kI 4), (.v (.c (.func 102 [])))] h 33 fun x33 h =>
  vext x33 0 h fun x34 h =>
  vext x33 1 h fun x35 h =>
  tcomp x34 fun c0 => tcomp x35 fun c1 => vfin true q [c0, c1] h)
  (vbin .eql 0 x12 (kI 5) h fun x37 h =>
  vif x37 (
  vload true 4 x4 h fun x39 h =>
  vload true 6 x5 h fun x40 h =>
  vop O (.mkfn 104 [(.k x5)]) h 41 fun x41 h =>
  vcall O (.v (.c (.func 101 []))) [x0, x39, x40, (kI 5), x41] h 42 fun x42 h =>
  vext x42 0 h fun x43 h =>
  vext x42 1 h fun x44 h =>
  tcomp x43 fun c0 => tcomp x44 fun c1 => vfin true q [c0, c1] h)
  (vbin .eql 0 x12 (kI 6) h fun x46 h =>
  vif x46 (
  vfaddr 0 x5 h fun x47 h =>
  vload false 1 x47 h fun x48 h =>
  vbin .eql 0 x48 (kI 0) h fun x49 h =>
  vguard x49 false (fun kk => vfaddr 3 x4 h kk) h fun x51 h =>
  vguard x49 false (fun kk => vload false 1 x51 h kk) h fun x52 h =>
  vguard x49 false (fun kk => vlen O 2 x52 h 53 kk) h fun x53 h =>
  vguard x49 false (fun kk => vbin .neq 0 x53 (kI 1) h kk) h fun x54 h =>
  vop O (.pick (.k x49) (.k (kB true)) (.k x54)) h 55 fun x55 h =>
  vif x55 (
  vfaddr 0 x5 h fun x56 h =>
  vload false 1 x56 h fun x57 h =>
  vbin .eql 0 x57 (kI 0) h fun x58 h =>
  tcomp (kS []) fun c0 => tcomp x58 fun c1 => vfin true q [c0, c1] h)
  (vfaddr 3 x4 h fun x60 h =>
  vload false 1 x60 h fun x61 h =>
  viaddr 4 x61 (kI 0) h fun x62 h =>
  vload true 4 x62 h fun x63 h =>
  vload true 6 x5 h fun x64 h =>
  vcall O (.v (.c (.func 70 []))) [x0, x63, x64] h 65 fun x65 h =>
  vext x65 0 h fun x66 h =>
  vext x65 1 h fun x67 h =>
  tcomp x66 fun c0 => tcomp x67 fun c1 => vfin true q [c0, c1] h))
  (vbin .eql 0 x12 (kI 7) h fun x69 h =>
  vif x69 (
  vload true 4 x4 h fun x71 h =>
  vload true 6 x5 h fun x72 h =>
  vcall O (.v (.c (.func 105 []))) [x0, x71, x72] h 73 fun x73 h =>
  vext x73 0 h fun x74 h =>
  vext x73 1 h fun x75 h =>
  tcomp x74 fun c0 => tcomp x75 fun c1 => vfin true q [c0, c1] h)
  (vbin .eql 0 x12 (kI 8) h fun x77 h =>
  vif x77 (
  vload true 4 x4 h fun x79 h =>
  vload true 6 x5 h fun x80 h =>
  vcall O (.v (.c (.func 106 []))) [x0, x79, x80] h 81 fun x81 h =>
  vext x81 0 h fun x82 h =>
  vext x81 1 h fun x83 h =>
  tcomp x82 fun c0 => tcomp x83 fun c1 => vfin true q [c0, c1] h)
  (tcomp (kS []) fun c0 => tcomp (kB false) fun c1 => vfin true q [c0, c1] h))))))))
theorem e70_0 (O : Oracle) (R : Jump) (q : Nat) (x0 x1 x2 : TVal) (h : Heap) : b70_0 O R q x0 x1 x2 h = stepF c70 O R q 0 [x0, x1, x2] h := by kernel_rfl
noncomputable def d70 : BlkF := fun O R q => [.s fun y0 => .s fun y1 => .s fun y2 => .z fun h => b70_0 O R q y0 y1 y2 h]
theorem o70 (O : Oracle) (R : Jump) (q : Nat) : HoldsAll c70 O R q 0 (d70 O R q) := ⟨fun y0 y1 y2 h => e70_0 O R q y0 y1 y2 h, trivial⟩
/- (*sprue/rows.Heap).open -/
def c71 : MFunc := { np := 2, res := [.cell 4 true 4], frz := true, body := (.seq (.reg [⟨(some 3), (.box (.t 1) false), none⟩, ⟨(some 4), (.alloc [(.p (.int .i64 0)), (.p (.str [])), (.p .nilslice), (.p .nilslice)] false), none⟩] []) (.seq (.seq (.reg [⟨(some 5), (.mv (.t 0)), none⟩, ⟨(some 6), (.nilck (.t 5)), none⟩, ⟨(some 7), (.faddr 3 (.t 6)), none⟩, ⟨(some 8), (.load false 1 (.t 7)), none⟩, ⟨(some 9), (.len 3 (.t 8)), none⟩, ⟨(some 10), (.mv (.k (.v (.c (.p (.int .i64 0)))))), none⟩] []) (.block 0 (.loop 1 [0, 3, 4, 9, 10] (.seq (.reg [⟨(some 11), (.bin .lss 0 (.t 10) (.t 9)), none⟩] []) (.seq (.cond (.t 11) .skip (.exit 0)) (.seq (.block 1 (.seq (.reg [⟨(some 12), (.faddr 0 (.t 3)), none⟩, ⟨(some 13), (.load false 1 (.t 12)), none⟩, ⟨(some 14), (.bin .eql 0 (.t 13) (.k (.v (.c (.p (.int .i64 9)))))), none⟩] []) (.cond (.t 14) (.reg [⟨(some 15), (.mv (.t 0)), none⟩, ⟨(some 16), (.nilck (.t 15)), none⟩, ⟨(some 17), (.faddr 3 (.t 16)), none⟩, ⟨(some 18), (.load false 1 (.t 17)), none⟩, ⟨(some 19), (.faddr 1 (.t 3)), none⟩, ⟨(some 20), (.load false 1 (.t 19)), none⟩, ⟨(some 21), (.lookup 2 (.agg [(.p (.int .i64 0)), (.p (.str [])), (.p .nilslice), (.p .nilslice)]) (.t 18) (.t 20) false), none⟩, ⟨none, (.store 4 (.t 3) (.t 21)), none⟩] []) .skip))) (.mark 2 [0, 3, 4, 9, 10] (.reg [⟨(some 22), (.bin .add 0 (.t 10) (.k (.v (.c (.p (.int .i64 1)))))), none⟩, ⟨(some 10), (.mv (.t 22)), none⟩] [])))))))) (.mark 3 [3, 4] (.seq (.reg [⟨(some 23), (.load true 4 (.t 3)), none⟩, ⟨none, (.store 4 (.t 4) (.t 23)), none⟩] []) .ret)))) }
theorem t71 : compF Tryd.prog (globs2 tabs opq) false true Tryd.f71 = some c71.erase := by kernel_rfl
noncomputable def b71_0 (O : Oracle) (R : Jump) (q : Nat) (x0 x1 : TVal) (h : Heap) : Res1 :=
  vop O (.box (.k x1) false) h 3 fun x3 h =>
  vop O (.alloc [(.p (.int .i64 0)), (.p (.str [])), (.p .nilslice), (.p .nilslice)] false) h 4 fun x4 h =>
  vop O (.nilck (.k x0)) h 6 fun x6 h =>
  vfaddr 3 x6 h fun x7 h =>
  vload false 1 x7 h fun x8 h =>
  vlen O 3 x8 h 9 fun x9 h =>
  R 1 [x0, x3, x4, x9, (kI 0)] h
theorem e71_0 (O : Oracle) (R : Jump) (q : Nat) (x0 x1 : TVal) (h : Heap) : b71_0 O R q x0 x1 h = stepF c71 O R q 0 [x0, x1] h := by kernel_rfl
noncomputable def b71_1 (O : Oracle) (R : Jump) (q : Nat) (x0 x3 x4 x9 x10 : TVal) (h : Heap) : Res1 :=
  vbin .lss 0 x10 x9 h fun x11 h =>
  vif x11 (
  vfaddr 0 x3 h fun x12 h =>
  vload false 1 x12 h fun x13 h =>
  vbin .eql 0 x13 (kI 9) h fun x14 h =>
  vif x14 (
  vop O (.nilck (.k x0)) h 16 fun x16 h =>
  vfaddr 3 x16 h fun x17 h =>
  vload false 1 x17 h fun x18 h =>
  vfaddr 1 x3 h fun x19 h =>
  vload false 1 x19 h fun x20 h =>
  vop O (.lookup 2 (.agg [(.p (.int .i64 0)), (.p (.str [])), (.p .nilslice), (.p .nilslice)]) (.k x18) (.k x20) false) h 21 fun x21 h =>
  vstore 4 x3 x21 h fun _ h =>
  R 2 [x0, x3, x4, x9, x10] h)
  (R 2 [x0, x3, x4, x9, x10] h))
  (R 3 [x3, x4] h)
theorem e71_1 (O : Oracle) (R : Jump) (q : Nat) (x0 x3 x4 x9 x10 : TVal) (h : Heap) : b71_1 O R q x0 x3 x4 x9 x10 h = stepF c71 O R q 1 [x0, x3, x4, x9, x10] h := by kernel_rfl
noncomputable def b71_2 (O : Oracle) (R : Jump) (q : Nat) (x0 x3 x4 x9 x10 : TVal) (h : Heap) : Res1 :=
  vbin .add 0 x10 (kI 1) h fun x22 h =>
  R 1 [x0, x3, x4, x9, x22] h
theorem e71_2 (O : Oracle) (R : Jump) (q : Nat) (x0 x3 x4 x9 x10 : TVal) (h : Heap) : b71_2 O R q x0 x3 x4 x9 x10 h = stepF c71 O R q 2 [x0, x3, x4, x9, x10] h := by kernel_rfl
noncomputable def b71_3 (O : Oracle) (R : Jump) (q : Nat) (x3 x4 : TVal) (h : Heap) : Res1 :=
  vload true 4 x3 h fun x23 h =>
  vstore 4 x4 x23 h fun _ h =>
  vcell true 4 x4 h fun c0 => vfin true q [c0] h
theorem e71_3 (O : Oracle) (R : Jump) (q : Nat) (x3 x4 : TVal) (h : Heap) : b71_3 O R q x3 x4 h = stepF c71 O R q 3 [x3, x4] h := by kernel_rfl
noncomputable def d71 : BlkF := fun O R q => [.s fun y0 => .s fun y1 => .z fun h => b71_0 O R q y0 y1 h, .s fun y0 => .s fun y1 => .s fun y2 => .s fun y3 => .s fun y4 => .z fun h => b71_1 O R q y0 y1 y2 y3 y4 h, .s fun y0 => .s fun y1 => .s fun y2 => .s fun y3 => .s fun y4 => .z fun h => b71_2 O R q y0 y1 y2 y3 y4 h, .s fun y0 => .s fun y1 => .z fun h => b71_3 O R q y0 y1 h]
theorem o71 (O : Oracle) (R : Jump) (q : Nat) : HoldsAll c71 O R q 0 (d71 O R q) := ⟨fun y0 y1 h => e71_0 O R q y0 y1 h, fun y0 y1 y2 y3 y4 h => e71_1 O R q y0 y1 y2 y3 y4 h, fun y0 y1 y2 y3 y4 h => e71_2 O R q y0 y1 y2 y3 y4 h, fun y0 y1 h => e71_3 O R q y0 y1 h, trivial⟩
/- (*sprue/rows.Heap).Number -/
def c72 : MFunc := { np := 2, res := [.t 4], frz := true, body := (.seq (.reg [⟨(some 4), (.mv (.k (.v (.c (.p (.int .u64 0)))))), none⟩] []) (.seq (.reg [⟨(some 8), (.mv (.t 0)), none⟩, ⟨(some 9), (.nilck (.t 8)), none⟩, ⟨(some 10), (.faddr 2 (.t 9)), none⟩, ⟨(some 11), (.load false 1 (.t 10)), none⟩, ⟨(some 12), (.mv (.t 1)), none⟩, ⟨(some 13), (.lookup 2 (.c (.p (.int .u64 0))) (.t 11) (.t 12) true), none⟩, ⟨(some 7), (.mv (.t 13)), none⟩, ⟨(some 14), (.extract (.t 7) 0), none⟩, ⟨(some 15), (.extract (.t 7) 1), none⟩, ⟨(some 5), (.mv (.t 14)), none⟩, ⟨(some 6), (.mv (.t 15)), none⟩] []) (.seq (.seq (.reg [⟨(some 16), (.mv (.t 6)), none⟩, ⟨(some 17), (.un .not (.t 16)), none⟩] []) (.cond (.t 17) (.seq (.reg [⟨(some 18), (.mv (.t 0)), none⟩, ⟨(some 19), (.nilck (.t 18)), none⟩, ⟨(some 20), (.faddr 1 (.t 19)), none⟩, ⟨(some 21), (.load false 1 (.t 20)), none⟩, ⟨(some 22), (.len 2 (.t 21)), none⟩, ⟨(some 23), (.toInt .u64 (.t 22)), none⟩, ⟨(some 5), (.mv (.t 23)), none⟩] []) (.seq (.reg [⟨(some 24), (.mv (.t 0)), none⟩, ⟨(some 25), (.nilck (.t 24)), none⟩, ⟨(some 26), (.faddr 2 (.t 25)), none⟩, ⟨(some 27), (.load false 1 (.t 26)), none⟩, ⟨(some 28), (.mv (.t 1)), none⟩, ⟨(some 29), (.mv (.t 5)), none⟩, ⟨none, (.mapup 2 (.t 27) (.t 28) (.t 29)), none⟩] []) (.reg [⟨(some 30), (.mv (.t 0)), none⟩, ⟨(some 31), (.mv (.t 0)), none⟩, ⟨(some 32), (.nilck (.t 31)), none⟩, ⟨(some 33), (.faddr 1 (.t 32)), none⟩, ⟨(some 34), (.load false 1 (.t 33)), none⟩, ⟨(some 35), (.mv (.t 1)), none⟩, ⟨(some 36), (.bslice 1 1 [(.p (.str []))] [(0, (.t 35))] false), none⟩, ⟨(some 37), (.append 1 16 false (.t 34) (.t 36)), none⟩, ⟨(some 38), (.nilck (.t 30)), none⟩, ⟨(some 39), (.faddr 1 (.t 38)), none⟩, ⟨none, (.store 1 (.t 39) (.t 37)), none⟩] []))) .skip)) (.seq (.reg [⟨(some 40), (.mv (.t 5)), none⟩, ⟨(some 4), (.mv (.t 40)), none⟩] []) .ret)))) }
theorem t72 : compF Tryd.prog (globs2 tabs opq) false true Tryd.f72 = some c72.erase := by kernel_rfl
noncomputable def b72_0 (O : Oracle) (R : Jump) (q : Nat) (x0 x1 : TVal) (h : Heap) : Res1 :=
  vop O (.nilck (.k x0)) h 9 fun x9 h =>
  vfaddr 2 x9 h fun x10 h =>
  vload false 1 x10 h fun x11 h =>
  vop O (.lookup 2 (.c (.p (.int .u64 0))) (.k x11) (.k x1) true) h 13 fun x13 h =>
  vext x13 0 h fun x14 h =>
  vext x13 1 h fun x15 h =>
  vop O (.un .not (.k x15)) h 17 fun x17 h =>
  vif x17 (
  vop O (.nilck (.k x0)) h 19 fun x19 h =>
  vfaddr 1 x19 h fun x20 h =>
  vload false 1 x20 h fun x21 h =>
  vlen O 2 x21 h 22 fun x22 h =>
  vtoInt .u64 x22 h fun x23 h =>
  vop O (.nilck (.k x0)) h 25 fun x25 h =>
  vfaddr 2 x25 h fun x26 h =>
  vload false 1 x26 h fun x27 h =>
  vop O (.mapup 2 (.k x27) (.k x1) (.k x23)) h 1000000 fun _ h =>
  vop O (.nilck (.k x0)) h 32 fun x32 h =>
  vfaddr 1 x32 h fun x33 h =>
  vload false 1 x33 h fun x34 h =>
  vop O (.bslice 1 1 [(.p (.str []))] [(0, (.k x1))] false) h 36 fun x36 h =>
  vop O (.append 1 16 false (.k x34) (.k x36)) h 37 fun x37 h =>
  vop O (.nilck (.k x0)) h 38 fun x38 h =>
  vfaddr 1 x38 h fun x39 h =>
  vstore 1 x39 x37 h fun _ h =>
  tcomp x23 fun c0 => vfin true q [c0] h)
  (tcomp x14 fun c0 => vfin true q [c0] h)
theorem e72_0 (O : Oracle) (R : Jump) (q : Nat) (x0 x1 : TVal) (h : Heap) : b72_0 O R q x0 x1 h = stepF c72 O R q 0 [x0, x1] h := by kernel_rfl
noncomputable def d72 : BlkF := fun O R q => [.s fun y0 => .s fun y1 => .z fun h => b72_0 O R q y0 y1 h]
theorem o72 (O : Oracle) (R : Jump) (q : Nat) : HoldsAll c72 O R q 0 (d72 O R q) := ⟨fun y0 y1 h => e72_0 O R q y0 y1 h, trivial⟩
/- (*sprue/rows.Heap).list -/
def c73 : MFunc := { np := 3, res := [.t 6], frz := true, body := (.seq (.reg [⟨(some 4), (.box (.t 1) false), none⟩, ⟨(some 5), (.box (.t 2) false), none⟩, ⟨(some 6), (.mv (.k (.v (.c (.p (.int .u64 0)))))), none⟩] []) (.seq (.reg [⟨(some 11), (.faddr 5 (.t 5)), none⟩, ⟨(some 12), (.load false 1 (.t 11)), none⟩, ⟨(some 13), (.len 2 (.t 12)), none⟩, ⟨(some 14), (.toInt .u64 (.t 13)), none⟩, ⟨(some 15), (.bslice 1 1 [(.p (.int .u64 0))] [(0, (.t 14))] false), none⟩, ⟨(some 7), (.mv (.t 15)), none⟩] []) (.seq (.seq (.reg [⟨(some 16), (.faddr 5 (.t 5)), none⟩, ⟨(some 17), (.load false 1 (.t 16)), none⟩, ⟨(some 18), (.len 2 (.t 17)), none⟩, ⟨(some 19), (.mv (.k (.v (.c (.p (.int .i64 0)))))), none⟩] []) (.block 0 (.loop 1 [0, 4, 5, 7, 17, 18, 19] (.seq (.reg [⟨(some 20), (.bin .lss 0 (.t 19) (.t 18)), none⟩] []) (.seq (.cond (.t 20) .skip (.exit 0)) (.seq (.block 1 (.seq (.reg [⟨(some 21), (.mv (.t 19)), none⟩, ⟨(some 22), (.iaddr 6 (.t 17) (.t 19)), none⟩, ⟨(some 23), (.load true 6 (.t 22)), none⟩, ⟨(some 9), (.alloc [(.p (.int .i64 0)), (.p (.bool false)), (.p (.int .i64 0)), (.p (.str [])), (.p .nilslice), (.p .nilslice)] false), none⟩, ⟨(some 8), (.mv (.t 21)), none⟩, ⟨none, (.store 6 (.t 9) (.t 23)), none⟩] []) (.seq (.seq (.reg [⟨(some 24), (.faddr 0 (.t 4)), none⟩, ⟨(some 25), (.load false 1 (.t 24)), none⟩, ⟨(some 26), (.bin .eql 0 (.t 25) (.k (.v (.c (.p (.int .i64 5)))))), none⟩] []) (.cond (.t 26) (.seq (.reg [⟨(some 10), (.mv (.k (.v (.c (.p (.str [])))))), none⟩] []) (.seq (.seq (.reg [⟨(some 27), (.mv (.t 8)), none⟩, ⟨(some 28), (.faddr 4 (.t 5)), none⟩, ⟨(some 29), (.load false 1 (.t 28)), none⟩, ⟨(some 30), (.len 2 (.t 29)), none⟩, ⟨(some 31), (.bin .lss 0 (.t 27) (.t 30)), none⟩] []) (.cond (.t 31) (.reg [⟨(some 32), (.faddr 4 (.t 5)), none⟩, ⟨(some 33), (.load false 1 (.t 32)), none⟩, ⟨(some 34), (.mv (.t 8)), none⟩, ⟨(some 35), (.iaddr 1 (.t 33) (.t 34)), none⟩, ⟨(some 36), (.load false 1 (.t 35)), none⟩, ⟨(some 10), (.mv (.t 36)), none⟩] []) .skip)) (.mark 2 [0, 4, 5, 7, 9, 10, 17, 18, 19] (.reg [⟨(some 37), (.mv (.t 7)), none⟩, ⟨(some 38), (.mv (.t 0)), none⟩, ⟨(some 39), (.mv (.t 10)), none⟩, ⟨(some 40), (.call (.k (.v (.c (.func 72 [])))) [(.t 38), (.t 39)]), none⟩, ⟨(some 41), (.bslice 1 1 [(.p (.int .u64 0))] [(0, (.t 40))] false), none⟩, ⟨(some 42), (.append 1 8 false (.t 37) (.t 41)), none⟩, ⟨(some 7), (.mv (.t 42)), none⟩] [])))) .skip)) (.mark 3 [0, 4, 5, 7, 9, 17, 18, 19] (.reg [⟨(some 43), (.mv (.t 7)), none⟩, ⟨(some 44), (.mv (.t 0)), none⟩, ⟨(some 45), (.load true 4 (.t 4)), none⟩, ⟨(some 46), (.call (.k (.v (.c (.func 74 [])))) [(.t 45), (.k (.v (.c (.p (.int .i64 0)))))]), none⟩, ⟨(some 47), (.load true 6 (.t 9)), none⟩, ⟨(some 48), (.call (.k (.v (.c (.func 40 [])))) [(.t 44), (.t 46), (.t 47)]), none⟩, ⟨(some 49), (.bslice 1 1 [(.p (.int .u64 0))] [(0, (.t 48))] false), none⟩, ⟨(some 50), (.append 1 8 false (.t 43) (.t 49)), none⟩, ⟨(some 7), (.mv (.t 50)), none⟩] [(3, 4)]))))) (.reg [⟨(some 51), (.bin .add 0 (.t 19) (.k (.v (.c (.p (.int .i64 1)))))), none⟩, ⟨(some 19), (.mv (.t 51)), none⟩] []))))))) (.mark 4 [0, 7] (.seq (.reg [⟨(some 52), (.mv (.t 0)), none⟩, ⟨(some 53), (.mv (.t 7)), none⟩, ⟨(some 54), (.call (.k (.v (.c (.func 41 [])))) [(.t 52), (.t 53)]), none⟩, ⟨(some 6), (.mv (.t 54)), none⟩] []) .ret))))) }
theorem t73 : compF Tryd.prog (globs2 tabs opq) false true Tryd.f73 = some c73.erase := by kernel_rfl
noncomputable def b73_0 (O : Oracle) (R : Jump) (q : Nat) (x0 x1 x2 : TVal) (h : Heap) : Res1 :=
  vop O (.box (.k x1) false) h 4 fun x4 h =>
  vop O (.box (.k x2) false) h 5 fun x5 h =>
  vfaddr 5 x5 h fun x11 h =>
  vload false 1 x11 h fun x12 h =>
  vlen O 2 x12 h 13 fun x13 h =>
  vtoInt .u64 x13 h fun x14 h =>
  vop O (.bslice 1 1 [(.p (.int .u64 0))] [(0, (.k x14))] false) h 15 fun x15 h =>
  vfaddr 5 x5 h fun x16 h =>
  vload false 1 x16 h fun x17 h =>
  vlen O 2 x17 h 18 fun x18 h =>
  R 1 [x0, x4, x5, x15, x17, x18, (kI 0)] h
theorem e73_0 (O : Oracle) (R : Jump) (q : Nat) (x0 x1 x2 : TVal) (h : Heap) : b73_0 O R q x0 x1 x2 h = stepF c73 O R q 0 [x0, x1, x2] h := by kernel_rfl
noncomputable def b73_1 (O : Oracle) (R : Jump) (q : Nat) (x0 x4 x5 x7 x17 x18 x19 : TVal) (h : Heap) : Res1 :=
  vbin .lss 0 x19 x18 h fun x20 h =>
  vif x20 (
  viaddr 6 x17 x19 h fun x22 h =>
  vload true 6 x22 h fun x23 h =>
  vop O (.alloc [(.p (.int .i64 0)), (.p (.bool false)), (.p (.int .i64 0)), (.p (.str [])), (.p .nilslice), (.p .nilslice)] false) h 9 fun x9 h =>
  vstore 6 x9 x23 h fun _ h =>
  vfaddr 0 x4 h fun x24 h =>
  vload false 1 x24 h fun x25 h =>
  vbin .eql 0 x25 (kI 5) h fun x26 h =>
  vif x26 (
  vfaddr 4 x5 h fun x28 h =>
  vload false 1 x28 h fun x29 h =>
  vlen O 2 x29 h 30 fun x30 h =>
  vbin .lss 0 x19 x30 h fun x31 h =>
  vif x31 (
  vfaddr 4 x5 h fun x32 h =>
  vload false 1 x32 h fun x33 h =>
  viaddr 1 x33 x19 h fun x35 h =>
  vload false 1 x35 h fun x36 h =>
  R 2 [x0, x4, x5, x7, x9, x36, x17, x18, x19] h)
  (R 2 [x0, x4, x5, x7, x9, (kS []), x17, x18, x19] h))
  (R 3 [x0, x4, x5, x7, x9, x17, x18, x19] h))
  (R 4 [x0, x7] h)
theorem e73_1 (O : Oracle) (R : Jump) (q : Nat) (x0 x4 x5 x7 x17 x18 x19 : TVal) (h : Heap) : b73_1 O R q x0 x4 x5 x7 x17 x18 x19 h = stepF c73 O R q 1 [x0, x4, x5, x7, x17, x18, x19] h := by kernel_rfl
noncomputable def b73_2 (O : Oracle) (R : Jump) (q : Nat) (x0 x4 x5 x7 x9 x10 x17 x18 x19 : TVal) (h : Heap) : Res1 :=
  vcall O (.v (.c (.func 72 []))) [x0, x10] h 40 fun x40 h =>
  vop O (.bslice 1 1 [(.p (.int .u64 0))] [(0, (.k x40))] false) h 41 fun x41 h =>
  vop O (.append 1 8 false (.k x7) (.k x41)) h 42 fun x42 h =>
  R 3 [x0, x4, x5, x42, x9, x17, x18, x19] h
theorem e73_2 (O : Oracle) (R : Jump) (q : Nat) (x0 x4 x5 x7 x9 x10 x17 x18 x19 : TVal) (h : Heap) : b73_2 O R q x0 x4 x5 x7 x9 x10 x17 x18 x19 h = stepF c73 O R q 2 [x0, x4, x5, x7, x9, x10, x17, x18, x19] h := by kernel_rfl
noncomputable def b73_3 (O : Oracle) (R : Jump) (q : Nat) (x0 x4 x5 x7 x9 x17 x18 x19 : TVal) (h : Heap) : Res1 :=
  vtouch O (.mv (.k x7)) h 43 fun x43 h t0 =>
  vtouch O (.mv (.k x0)) h 44 fun x44 h t1 =>
  vtouch O (.load true 4 (.k x4)) h 45 fun x45 h t2 =>
  vtouch O (.call (.k (.v (.c (.func 74 [])))) [(.k x45), (.k (kI 0))]) h 46 fun x46 h t3 =>
  vtouch O (.load true 6 (.k x9)) h 47 fun x47 h t4 =>
  vtouch O (.call (.k (.v (.c (.func 40 [])))) [(.k x44), (.k x46), (.k x47)]) h 48 fun x48 h t5 =>
  vtouch O (.bslice 1 1 [(.p (.int .u64 0))] [(0, (.k x48))] false) h 49 fun x49 h t6 =>
  vtouch O (.append 1 8 false (.k x43) (.k x49)) h 50 fun x50 h t7 =>
  vtouch O (.mv (.k x50)) h 7 fun x7_1 h t8 =>
  bif apartAll [t0, t1, t2, t3, t4, t5, t6, t7, t8] [(3, 4)] then
  vbin .add 0 x19 (kI 1) h fun x51 h =>
  R 1 [x0, x4, x5, x7_1, x17, x18, x51] h
  else none
theorem e73_3 (O : Oracle) (R : Jump) (q : Nat) (x0 x4 x5 x7 x9 x17 x18 x19 : TVal) (h : Heap) : b73_3 O R q x0 x4 x5 x7 x9 x17 x18 x19 h = stepF c73 O R q 3 [x0, x4, x5, x7, x9, x17, x18, x19] h := by kernel_rfl
noncomputable def b73_4 (O : Oracle) (R : Jump) (q : Nat) (x0 x7 : TVal) (h : Heap) : Res1 :=
  vcall O (.v (.c (.func 41 []))) [x0, x7] h 54 fun x54 h =>
  tcomp x54 fun c0 => vfin true q [c0] h
theorem e73_4 (O : Oracle) (R : Jump) (q : Nat) (x0 x7 : TVal) (h : Heap) : b73_4 O R q x0 x7 h = stepF c73 O R q 4 [x0, x7] h := by kernel_rfl
noncomputable def d73 : BlkF := fun O R q => [.s fun y0 => .s fun y1 => .s fun y2 => .z fun h => b73_0 O R q y0 y1 y2 h, .s fun y0 => .s fun y1 => .s fun y2 => .s fun y3 => .s fun y4 => .s fun y5 => .s fun y6 => .z fun h => b73_1 O R q y0 y1 y2 y3 y4 y5 y6 h, .s fun y0 => .s fun y1 => .s fun y2 => .s fun y3 => .s fun y4 => .s fun y5 => .s fun y6 => .s fun y7 => .s fun y8 => .z fun h => b73_2 O R q y0 y1 y2 y3 y4 y5 y6 y7 y8 h, .s fun y0 => .s fun y1 => .s fun y2 => .s fun y3 => .s fun y4 => .s fun y5 => .s fun y6 => .s fun y7 => .z fun h => b73_3 O R q y0 y1 y2 y3 y4 y5 y6 y7 h, .s fun y0 => .s fun y1 => .z fun h => b73_4 O R q y0 y1 h]
theorem o73 (O : Oracle) (R : Jump) (q : Nat) : HoldsAll c73 O R q 0 (d73 O R q) := ⟨fun y0 y1 y2 h => e73_0 O R q y0 y1 y2 h, fun y0 y1 y2 y3 y4 y5 y6 h => e73_1 O R q y0 y1 y2 y3 y4 y5 y6 h, fun y0 y1 y2 y3 y4 y5 y6 y7 y8 h => e73_2 O R q y0 y1 y2 y3 y4 y5 y6 y7 y8 h, fun y0 y1 y2 y3 y4 y5 y6 y7 h => e73_3 O R q y0 y1 y2 y3 y4 y5 y6 y7 h, fun y0 y1 h => e73_4 O R q y0 y1 h, trivial⟩
/- sprue/rows.kid -/
def c74 : MFunc := { np := 2, res := [.cell 4 true 4], frz := true, body := (.seq (.reg [⟨(some 2), (.box (.t 0) false), none⟩, ⟨(some 4), (.alloc [(.p (.int .i64 0)), (.p (.str [])), (.p .nilslice), (.p .nilslice)] false), none⟩] []) (.seq (.seq (.reg [⟨(some 5), (.mv (.t 1)), none⟩, ⟨(some 6), (.faddr 3 (.t 2)), none⟩, ⟨(some 7), (.load false 1 (.t 6)), none⟩, ⟨(some 8), (.len 2 (.t 7)), none⟩, ⟨(some 9), (.bin .geq 0 (.t 5) (.t 8)), none⟩] []) (.cond (.t 9) (.seq (.reg [⟨(some 10), (.build [(.p (.int .i64 0)), (.p (.str [])), (.p .nilslice), (.p .nilslice)] []), none⟩, ⟨none, (.store 4 (.t 4) (.t 10)), none⟩] []) .ret) .skip)) (.seq (.reg [⟨(some 11), (.faddr 3 (.t 2)), none⟩, ⟨(some 12), (.load false 1 (.t 11)), none⟩, ⟨(some 13), (.mv (.t 1)), none⟩, ⟨(some 14), (.iaddr 4 (.t 12) (.t 13)), none⟩, ⟨(some 15), (.load true 4 (.t 14)), none⟩, ⟨none, (.store 4 (.t 4) (.t 15)), none⟩] []) .ret))) }
theorem t74 : compF Tryd.prog (globs2 tabs opq) false true Tryd.f74 = some c74.erase := by kernel_rfl
noncomputable def b74_0 (O : Oracle) (R : Jump) (q : Nat) (x0 x1 : TVal) (h : Heap) : Res1 :=
  vop O (.box (.k x0) false) h 2 fun x2 h =>
  vop O (.alloc [(.p (.int .i64 0)), (.p (.str [])), (.p .nilslice), (.p .nilslice)] false) h 4 fun x4 h =>
  vfaddr 3 x2 h fun x6 h =>
  vload false 1 x6 h fun x7 h =>
  vlen O 2 x7 h 8 fun x8 h =>
  vbin .geq 0 x1 x8 h fun x9 h =>
  vif x9 (
  vop O (.build [(.p (.int .i64 0)), (.p (.str [])), (.p .nilslice), (.p .nilslice)] []) h 10 fun x10 h =>
  vstore 4 x4 x10 h fun _ h =>
  vcell true 4 x4 h fun c0 => vfin true q [c0] h)
  (vfaddr 3 x2 h fun x11 h =>
  vload false 1 x11 h fun x12 h =>
  viaddr 4 x12 x1 h fun x14 h =>
  vload true 4 x14 h fun x15 h =>
  vstore 4 x4 x15 h fun _ h =>
  vcell true 4 x4 h fun c0 => vfin true q [c0] h)
theorem e74_0 (O : Oracle) (R : Jump) (q : Nat) (x0 x1 : TVal) (h : Heap) : b74_0 O R q x0 x1 h = stepF c74 O R q 0 [x0, x1] h := by kernel_rfl
noncomputable def d74 : BlkF := fun O R q => [.s fun y0 => .s fun y1 => .z fun h => b74_0 O R q y0 y1 h]
theorem o74 (O : Oracle) (R : Jump) (q : Nat) : HoldsAll c74 O R q 0 (d74 O R q) := ⟨fun y0 y1 h => e74_0 O R q y0 y1 h, trivial⟩
/- sprue/rows.field -/
def c75 : MFunc := { np := 2, res := [.cell 4 true 6], frz := true, body := (.seq (.reg [⟨(some 2), (.box (.t 0) false), none⟩, ⟨(some 4), (.alloc [(.p (.int .i64 0)), (.p (.bool false)), (.p (.int .i64 0)), (.p (.str [])), (.p .nilslice), (.p .nilslice)] false), none⟩] []) (.seq (.reg [⟨(some 6), (.faddr 4 (.t 2)), none⟩, ⟨(some 7), (.load false 1 (.t 6)), none⟩, ⟨(some 8), (.mv (.t 1)), none⟩, ⟨(some 9), (.call (.k (.v (.c (.func 64 [])))) [(.t 7), (.t 8)]), none⟩, ⟨(some 5), (.mv (.t 9)), none⟩] []) (.seq (.seq (.reg [⟨(some 10), (.mv (.t 5)), none⟩, ⟨(some 11), (.bin .lss 0 (.t 10) (.k (.v (.c (.p (.int .i64 0)))))), none⟩, ⟨(some 12), (.mv (.t 11)), none⟩, ⟨(some 13), (.mv (.t 5)), (some (12, false))⟩, ⟨(some 14), (.faddr 5 (.t 2)), (some (12, false))⟩, ⟨(some 15), (.load false 1 (.t 14)), (some (12, false))⟩, ⟨(some 16), (.len 2 (.t 15)), (some (12, false))⟩, ⟨(some 17), (.bin .geq 0 (.t 13) (.t 16)), (some (12, false))⟩, ⟨(some 18), (.pick (.t 12) (.k (.v (.c (.p (.bool true))))) (.t 17)), none⟩] []) (.cond (.t 18) (.seq (.reg [⟨(some 19), (.build [(.p (.int .i64 0)), (.p (.bool false)), (.p (.int .i64 0)), (.p (.str [])), (.p .nilslice), (.p .nilslice)] []), none⟩, ⟨none, (.store 6 (.t 4) (.t 19)), none⟩] []) .ret) .skip)) (.seq (.reg [⟨(some 20), (.faddr 5 (.t 2)), none⟩, ⟨(some 21), (.load false 1 (.t 20)), none⟩, ⟨(some 22), (.mv (.t 5)), none⟩, ⟨(some 23), (.iaddr 6 (.t 21) (.t 22)), none⟩, ⟨(some 24), (.load true 6 (.t 23)), none⟩, ⟨none, (.store 6 (.t 4) (.t 24)), none⟩] []) .ret)))) }
theorem t75 : compF Tryd.prog (globs2 tabs opq) false true Tryd.f75 = some c75.erase := by kernel_rfl
noncomputable def b75_0 (O : Oracle) (R : Jump) (q : Nat) (x0 x1 : TVal) (h : Heap) : Res1 :=
  vop O (.box (.k x0) false) h 2 fun x2 h =>
  vop O (.alloc [(.p (.int .i64 0)), (.p (.bool false)), (.p (.int .i64 0)), (.p (.str [])), (.p .nilslice), (.p .nilslice)] false) h 4 fun x4 h =>
  vfaddr 4 x2 h fun x6 h =>
  vload false 1 x6 h fun x7 h =>
  vcall O (.v (.c (.func 64 []))) [x7, x1] h 9 fun x9 h =>
  vbin .lss 0 x9 (kI 0) h fun x11 h =>
  vguard x11 false (fun kk => kk x9 h) h fun x13 h =>
  vguard x11 false (fun kk => vfaddr 5 x2 h kk) h fun x14 h =>
  vguard x11 false (fun kk => vload false 1 x14 h kk) h fun x15 h =>
  vguard x11 false (fun kk => vlen O 2 x15 h 16 kk) h fun x16 h =>
  vguard x11 false (fun kk => vbin .geq 0 x13 x16 h kk) h fun x17 h =>
  vop O (.pick (.k x11) (.k (kB true)) (.k x17)) h 18 fun x18 h =>
  vif x18 (
  vop O (.build [(.p (.int .i64 0)), (.p (.bool false)), (.p (.int .i64 0)), (.p (.str [])), (.p .nilslice), (.p .nilslice)] []) h 19 fun x19 h =>
  vstore 6 x4 x19 h fun _ h =>
  vcell true 6 x4 h fun c0 => vfin true q [c0] h)
  (vfaddr 5 x2 h fun x20 h =>
  vload false 1 x20 h fun x21 h =>
  viaddr 6 x21 x9 h fun x23 h =>
  vload true 6 x23 h fun x24 h =>
  vstore 6 x4 x24 h fun _ h =>
  vcell true 6 x4 h fun c0 => vfin true q [c0] h)
theorem e75_0 (O : Oracle) (R : Jump) (q : Nat) (x0 x1 : TVal) (h : Heap) : b75_0 O R q x0 x1 h = stepF c75 O R q 0 [x0, x1] h := by kernel_rfl
noncomputable def d75 : BlkF := fun O R q => [.s fun y0 => .s fun y1 => .z fun h => b75_0 O R q y0 y1 h]
theorem o75 (O : Oracle) (R : Jump) (q : Nat) : HoldsAll c75 O R q 0 (d75 O R q) := ⟨fun y0 y1 h => e75_0 O R q y0 y1 h, trivial⟩
/- slices.Contains[[]string,string] -/
def c76 : MFunc := { np := 2, res := [.t 4], frz := true, body := (.seq (.reg [⟨(some 4), (.mv (.k (.v (.c (.p (.bool false)))))), none⟩] []) (.seq (.reg [⟨(some 5), (.mv (.t 0)), none⟩, ⟨(some 6), (.mv (.t 1)), none⟩, ⟨(some 7), (.call (.k (.v (.c (.func 64 [])))) [(.t 5), (.t 6)]), none⟩, ⟨(some 8), (.bin .geq 0 (.t 7) (.k (.v (.c (.p (.int .i64 0)))))), none⟩, ⟨(some 4), (.mv (.t 8)), none⟩] []) .ret)) }
theorem t76 : compF Tryd.prog (globs2 tabs opq) false true Tryd.f76 = some c76.erase := by kernel_rfl
noncomputable def b76_0 (O : Oracle) (R : Jump) (q : Nat) (x0 x1 : TVal) (h : Heap) : Res1 :=
  vcall O (.v (.c (.func 64 []))) [x0, x1] h 7 fun x7 h =>
  vbin .geq 0 x7 (kI 0) h fun x8 h =>
  tcomp x8 fun c0 => vfin true q [c0] h
theorem e76_0 (O : Oracle) (R : Jump) (q : Nat) (x0 x1 : TVal) (h : Heap) : b76_0 O R q x0 x1 h = stepF c76 O R q 0 [x0, x1] h := by kernel_rfl
noncomputable def d76 : BlkF := fun O R q => [.s fun y0 => .s fun y1 => .z fun h => b76_0 O R q y0 y1 h]
theorem o76 (O : Oracle) (R : Jump) (q : Nat) : HoldsAll c76 O R q 0 (d76 O R q) := ⟨fun y0 y1 h => e76_0 O R q y0 y1 h, trivial⟩
/- (*sprue/rows.Heap).Text -/
def c77 : MFunc := { np := 2, res := [.t 4], frz := true, body := (.seq (.reg [⟨(some 4), (.mv (.k (.v (.c (.p (.str [])))))), none⟩] []) (.seq (.seq (.reg [⟨(some 5), (.mv (.t 1)), none⟩, ⟨(some 6), (.mv (.t 0)), none⟩, ⟨(some 7), (.nilck (.t 6)), none⟩, ⟨(some 8), (.faddr 1 (.t 7)), none⟩, ⟨(some 9), (.load false 1 (.t 8)), none⟩, ⟨(some 10), (.len 2 (.t 9)), none⟩, ⟨(some 11), (.toInt .u64 (.t 10)), none⟩, ⟨(some 12), (.bin .geq 0 (.t 5) (.t 11)), none⟩] []) (.cond (.t 12) (.seq (.reg [⟨(some 4), (.mv (.k (.v (.c (.p (.str [])))))), none⟩] []) .ret) .skip)) (.seq (.reg [⟨(some 13), (.mv (.t 0)), none⟩, ⟨(some 14), (.nilck (.t 13)), none⟩, ⟨(some 15), (.faddr 1 (.t 14)), none⟩, ⟨(some 16), (.load false 1 (.t 15)), none⟩, ⟨(some 17), (.mv (.t 1)), none⟩, ⟨(some 18), (.iaddr 1 (.t 16) (.t 17)), none⟩, ⟨(some 19), (.load false 1 (.t 18)), none⟩, ⟨(some 4), (.mv (.t 19)), none⟩] []) .ret))) }
theorem t77 : compF Tryd.prog (globs2 tabs opq) false true Tryd.f77 = some c77.erase := by kernel_rfl
noncomputable def b77_0 (O : Oracle) (R : Jump) (q : Nat) (x0 x1 : TVal) (h : Heap) : Res1 :=
  vop O (.nilck (.k x0)) h 7 fun x7 h =>
  vfaddr 1 x7 h fun x8 h =>
  vload false 1 x8 h fun x9 h =>
  vlen O 2 x9 h 10 fun x10 h =>
  vtoInt .u64 x10 h fun x11 h =>
  vbin .geq 0 x1 x11 h fun x12 h =>
  vif x12 (
  tcomp (kS []) fun c0 => vfin true q [c0] h)
  (vop O (.nilck (.k x0)) h 14 fun x14 h =>
  vfaddr 1 x14 h fun x15 h =>
  vload false 1 x15 h fun x16 h =>
  viaddr 1 x16 x1 h fun x18 h =>
  vload false 1 x18 h fun x19 h =>
  tcomp x19 fun c0 => vfin true q [c0] h)
theorem e77_0 (O : Oracle) (R : Jump) (q : Nat) (x0 x1 : TVal) (h : Heap) : b77_0 O R q x0 x1 h = stepF c77 O R q 0 [x0, x1] h := by kernel_rfl
noncomputable def d77 : BlkF := fun O R q => [.s fun y0 => .s fun y1 => .z fun h => b77_0 O R q y0 y1 h]
theorem o77 (O : Oracle) (R : Jump) (q : Nat) : HoldsAll c77 O R q 0 (d77 O R q) := ⟨fun y0 y1 h => e77_0 O R q y0 y1 h, trivial⟩
/- (*sprue/rows.Heap).At -/
def c78 : MFunc := { np := 2, res := [.t 4], frz := true, body := (.seq (.reg [⟨(some 4), (.mv (.k (.v (.c (.p (.int .u64 0)))))), none⟩] []) (.seq (.seq (.reg [⟨(some 5), (.mv (.t 1)), none⟩, ⟨(some 6), (.mv (.t 0)), none⟩, ⟨(some 7), (.nilck (.t 6)), none⟩, ⟨(some 8), (.faddr 0 (.t 7)), none⟩, ⟨(some 9), (.load false 1 (.t 8)), none⟩, ⟨(some 10), (.len 2 (.t 9)), none⟩, ⟨(some 11), (.toInt .u64 (.t 10)), none⟩, ⟨(some 12), (.bin .geq 0 (.t 5) (.t 11)), none⟩] []) (.cond (.t 12) (.seq (.reg [⟨(some 4), (.mv (.k (.v (.c (.p (.int .u64 0)))))), none⟩] []) .ret) .skip)) (.seq (.reg [⟨(some 13), (.mv (.t 0)), none⟩, ⟨(some 14), (.nilck (.t 13)), none⟩, ⟨(some 15), (.faddr 0 (.t 14)), none⟩, ⟨(some 16), (.load false 1 (.t 15)), none⟩, ⟨(some 17), (.mv (.t 1)), none⟩, ⟨(some 18), (.iaddr 1 (.t 16) (.t 17)), none⟩, ⟨(some 19), (.load false 1 (.t 18)), none⟩, ⟨(some 4), (.mv (.t 19)), none⟩] []) .ret))) }
theorem t78 : compF Tryd.prog (globs2 tabs opq) false true Tryd.f78 = some c78.erase := by kernel_rfl
noncomputable def b78_0 (O : Oracle) (R : Jump) (q : Nat) (x0 x1 : TVal) (h : Heap) : Res1 :=
  vop O (.nilck (.k x0)) h 7 fun x7 h =>
  vfaddr 0 x7 h fun x8 h =>
  vload false 1 x8 h fun x9 h =>
  vlen O 2 x9 h 10 fun x10 h =>
  vtoInt .u64 x10 h fun x11 h =>
  vbin .geq 0 x1 x11 h fun x12 h =>
  vif x12 (
  tcomp (.v (.c (.p (.int .u64 0)))) fun c0 => vfin true q [c0] h)
  (vop O (.nilck (.k x0)) h 14 fun x14 h =>
  vfaddr 0 x14 h fun x15 h =>
  vload false 1 x15 h fun x16 h =>
  viaddr 1 x16 x1 h fun x18 h =>
  vload false 1 x18 h fun x19 h =>
  tcomp x19 fun c0 => vfin true q [c0] h)
theorem e78_0 (O : Oracle) (R : Jump) (q : Nat) (x0 x1 : TVal) (h : Heap) : b78_0 O R q x0 x1 h = stepF c78 O R q 0 [x0, x1] h := by kernel_rfl
noncomputable def d78 : BlkF := fun O R q => [.s fun y0 => .s fun y1 => .z fun h => b78_0 O R q y0 y1 h]
theorem o78 (O : Oracle) (R : Jump) (q : Nat) : HoldsAll c78 O R q 0 (d78 O R q) := ⟨fun y0 y1 h => e78_0 O R q y0 y1 h, trivial⟩
/- (*sprue/rows.Heap).table -/
def c79 : MFunc := { np := 3, res := [.cell 6 true 6], frz := true, body := (.seq (.reg [⟨(some 4), (.box (.t 1) false), none⟩, ⟨(some 6), (.alloc [(.p (.int .i64 0)), (.p (.bool false)), (.p (.int .i64 0)), (.p (.str [])), (.p .nilslice), (.p .nilslice)] false), none⟩] []) (.seq (.reg [⟨(some 11), (.build [(.p (.int .i64 0)), (.p (.bool false)), (.p (.int .i64 0)), (.p (.str [])), (.p .nilslice), (.p .nilslice)] [(0, 1, (.k (.v (.c (.p (.int .i64 5))))))]), none⟩, ⟨(some 7), (.alloc [(.p (.int .i64 0)), (.p (.bool false)), (.p (.int .i64 0)), (.p (.str [])), (.p .nilslice), (.p .nilslice)] false), none⟩, ⟨none, (.store 6 (.t 7) (.t 11)), none⟩] []) (.seq (.seq (.reg [⟨(some 12), (.faddr 0 (.t 4)), none⟩, ⟨(some 13), (.load false 1 (.t 12)), none⟩, ⟨(some 14), (.bin .eql 0 (.t 13) (.k (.v (.c (.p (.int .i64 8)))))), none⟩] []) (.cond (.t 14) (.seq (.reg [⟨(some 15), (.mv (.t 0)), none⟩, ⟨(some 16), (.mv (.t 2)), none⟩, ⟨(some 17), (.call (.k (.v (.c (.func 78 [])))) [(.t 15), (.t 16)]), none⟩, ⟨(some 18), (.faddr 2 (.t 4)), none⟩, ⟨(some 19), (.load false 1 (.t 18)), none⟩, ⟨(some 20), (.len 2 (.t 19)), none⟩, ⟨(some 21), (.minmax true [(.t 20), (.k (.v (.c (.p (.int .i64 1)))))]), none⟩, ⟨(some 22), (.toInt .u64 (.t 21)), none⟩, ⟨(some 23), (.bin .rem 0 (.t 17) (.t 22)), none⟩, ⟨(some 24), (.toInt .i64 (.t 23)), none⟩, ⟨(some 8), (.mv (.t 24)), none⟩] [(2, 4), (2, 5)]) (.seq (.seq (.reg [⟨(some 25), (.faddr 2 (.t 4)), none⟩, ⟨(some 26), (.load false 1 (.t 25)), none⟩, ⟨(some 27), (.len 2 (.t 26)), none⟩, ⟨(some 28), (.bin .gtr 0 (.t 27) (.k (.v (.c (.p (.int .i64 0)))))), none⟩] []) (.cond (.t 28) (.reg [⟨(some 29), (.faddr 2 (.t 4)), none⟩, ⟨(some 30), (.load false 1 (.t 29)), none⟩, ⟨(some 31), (.mv (.t 8)), none⟩, ⟨(some 32), (.iaddr 1 (.t 30) (.t 31)), none⟩, ⟨(some 33), (.load false 1 (.t 32)), none⟩, ⟨(some 34), (.bslice 1 1 [(.p (.str []))] [(0, (.t 33))] false), none⟩, ⟨(some 35), (.mv (.t 0)), none⟩, ⟨(some 36), (.load true 4 (.t 4)), none⟩, ⟨(some 37), (.mv (.t 8)), none⟩, ⟨(some 38), (.call (.k (.v (.c (.func 74 [])))) [(.t 36), (.t 37)]), none⟩, ⟨(some 39), (.mv (.t 0)), none⟩, ⟨(some 40), (.mv (.t 2)), none⟩, ⟨(some 41), (.bin .add 0 (.t 40) (.k (.v (.c (.p (.int .u64 1)))))), none⟩, ⟨(some 42), (.call (.k (.v (.c (.func 78 [])))) [(.t 39), (.t 41)]), none⟩, ⟨(some 43), (.call (.k (.v (.c (.func 42 [])))) [(.t 35), (.t 38), (.t 42)]), none⟩, ⟨(some 44), (.bslice 6 1 [(.p (.int .i64 0)), (.p (.bool false)), (.p (.int .i64 0)), (.p (.str [])), (.p .nilslice), (.p .nilslice)] [(0, (.t 43))] false), none⟩, ⟨(some 45), (.faddr 4 (.t 7)), none⟩, ⟨none, (.store 1 (.t 45) (.t 34)), none⟩, ⟨(some 46), (.faddr 5 (.t 7)), none⟩, ⟨none, (.store 1 (.t 46) (.t 44)), none⟩] [(5, 7), (1, 9), (4, 9), (5, 9), (1, 13), (4, 13), (5, 13), (1, 14), (4, 14), (5, 14), (1, 15), (4, 15), (5, 15), (15, 17)]) .skip)) (.mark 1 [6, 7] (.seq (.reg [⟨(some 47), (.load true 6 (.t 7)), none⟩, ⟨none, (.store 6 (.t 6) (.t 47)), none⟩] []) .ret)))) .skip)) (.seq (.seq (.reg [⟨(some 48), (.faddr 2 (.t 4)), none⟩, ⟨(some 49), (.load false 1 (.t 48)), none⟩, ⟨(some 50), (.len 2 (.t 49)), none⟩, ⟨(some 51), (.mv (.k (.v (.c (.p (.int .i64 0)))))), none⟩] []) (.block 0 (.loop 2 [0, 2, 4, 6, 7, 49, 50, 51] (.seq (.reg [⟨(some 52), (.bin .lss 0 (.t 51) (.t 50)), none⟩] []) (.seq (.cond (.t 52) .skip (.exit 0)) (.seq (.block 1 (.seq (.reg [⟨(some 53), (.mv (.t 51)), none⟩, ⟨(some 54), (.iaddr 1 (.t 49) (.t 51)), none⟩, ⟨(some 55), (.load false 1 (.t 54)), none⟩, ⟨(some 9), (.mv (.t 53)), none⟩, ⟨(some 10), (.mv (.t 55)), none⟩] []) (.reg [⟨(some 56), (.faddr 4 (.t 7)), none⟩, ⟨(some 57), (.load false 1 (.t 56)), none⟩, ⟨(some 58), (.mv (.t 10)), none⟩, ⟨(some 59), (.bslice 1 1 [(.p (.str []))] [(0, (.t 58))] false), none⟩, ⟨(some 60), (.append 1 16 false (.t 57) (.t 59)), none⟩, ⟨(some 61), (.faddr 5 (.t 7)), none⟩, ⟨(some 62), (.load false 1 (.t 61)), none⟩, ⟨(some 63), (.mv (.t 0)), none⟩, ⟨(some 64), (.load true 4 (.t 4)), none⟩, ⟨(some 65), (.mv (.t 9)), none⟩, ⟨(some 66), (.call (.k (.v (.c (.func 74 [])))) [(.t 64), (.t 65)]), none⟩, ⟨(some 67), (.mv (.t 0)), none⟩, ⟨(some 68), (.mv (.t 2)), none⟩, ⟨(some 69), (.mv (.t 9)), none⟩, ⟨(some 70), (.toInt .u64 (.t 69)), none⟩, ⟨(some 71), (.bin .add 0 (.t 68) (.t 70)), none⟩, ⟨(some 72), (.call (.k (.v (.c (.func 78 [])))) [(.t 67), (.t 71)]), none⟩, ⟨(some 73), (.call (.k (.v (.c (.func 42 [])))) [(.t 63), (.t 66), (.t 72)]), none⟩, ⟨(some 74), (.bslice 6 1 [(.p (.int .i64 0)), (.p (.bool false)), (.p (.int .i64 0)), (.p (.str [])), (.p .nilslice), (.p .nilslice)] [(0, (.t 73))] false), none⟩, ⟨(some 75), (.append 6 88 false (.t 62) (.t 74)), none⟩, ⟨(some 76), (.faddr 4 (.t 7)), none⟩, ⟨none, (.store 1 (.t 76) (.t 60)), none⟩, ⟨(some 77), (.faddr 5 (.t 7)), none⟩, ⟨none, (.store 1 (.t 77) (.t 75)), none⟩] [(1, 3), (3, 6), (4, 6), (3, 8), (4, 8), (6, 10), (6, 16), (6, 17), (6, 18)]))) (.reg [⟨(some 78), (.bin .add 0 (.t 51) (.k (.v (.c (.p (.int .i64 1)))))), none⟩, ⟨(some 51), (.mv (.t 78)), none⟩] []))))))) (.mark 3 [6, 7] (.seq (.reg [⟨(some 79), (.load true 6 (.t 7)), none⟩, ⟨none, (.store 6 (.t 6) (.t 79)), none⟩] []) .ret)))))) }
theorem t79 : compF Tryd.prog (globs2 tabs opq) false true Tryd.f79 = some c79.erase := by kernel_rfl
noncomputable def b79_0 (O : Oracle) (R : Jump) (q : Nat) (x0 x1 x2 : TVal) (h : Heap) : Res1 :=
  vop O (.box (.k x1) false) h 4 fun x4 h =>
  vop O (.alloc [(.p (.int .i64 0)), (.p (.bool false)), (.p (.int .i64 0)), (.p (.str [])), (.p .nilslice), (.p .nilslice)] false) h 6 fun x6 h =>
  vop O (.build [(.p (.int .i64 0)), (.p (.bool false)), (.p (.int .i64 0)), (.p (.str [])), (.p .nilslice), (.p .nilslice)] [(0, 1, (.k (kI 5)))]) h 11 fun x11 h =>
  vop O (.alloc [(.p (.int .i64 0)), (.p (.bool false)), (.p (.int .i64 0)), (.p (.str [])), (.p .nilslice), (.p .nilslice)] false) h 7 fun x7 h =>
  vstore 6 x7 x11 h fun _ h =>
  vfaddr 0 x4 h fun x12 h =>
  vload false 1 x12 h fun x13 h =>
  vbin .eql 0 x13 (kI 8) h fun x14 h =>
  vif x14 (
  vtouch O (.mv (.k x0)) h 15 fun x15 h t0 =>
  vtouch O (.mv (.k x2)) h 16 fun x16 h t1 =>
  vtouch O (.call (.k (.v (.c (.func 78 [])))) [(.k x15), (.k x16)]) h 17 fun x17 h t2 =>
  vtouch O (.faddr 2 (.k x4)) h 18 fun x18 h t3 =>
  vtouch O (.load false 1 (.k x18)) h 19 fun x19 h t4 =>
  vtouch O (.len 2 (.k x19)) h 20 fun x20 h t5 =>
  vtouch O (.minmax true [(.k x20), (.k (kI 1))]) h 21 fun x21 h t6 =>
  vtouch O (.toInt .u64 (.k x21)) h 22 fun x22 h t7 =>
  vtouch O (.bin .rem 0 (.k x17) (.k x22)) h 23 fun x23 h t8 =>
  vtouch O (.toInt .i64 (.k x23)) h 24 fun x24 h t9 =>
  vtouch O (.mv (.k x24)) h 8 fun x8 h t10 =>
  bif apartAll [t0, t1, t2, t3, t4, t5, t6, t7, t8, t9, t10] [(2, 4), (2, 5)] then
  vfaddr 2 x4 h fun x25 h =>
  vload false 1 x25 h fun x26 h =>
  vlen O 2 x26 h 27 fun x27 h =>
  vbin .gtr 0 x27 (kI 0) h fun x28 h =>
  vif x28 (
  vtouch O (.faddr 2 (.k x4)) h 29 fun x29 h t0 =>
  vtouch O (.load false 1 (.k x29)) h 30 fun x30 h t1 =>
  vtouch O (.mv (.k x8)) h 31 fun x31 h t2 =>
  vtouch O (.iaddr 1 (.k x30) (.k x31)) h 32 fun x32 h t3 =>
  vtouch O (.load false 1 (.k x32)) h 33 fun x33 h t4 =>
  vtouch O (.bslice 1 1 [(.p (.str []))] [(0, (.k x33))] false) h 34 fun x34 h t5 =>
  vtouch O (.mv (.k x0)) h 35 fun x35 h t6 =>
  vtouch O (.load true 4 (.k x4)) h 36 fun x36 h t7 =>
  vtouch O (.mv (.k x8)) h 37 fun x37 h t8 =>
  vtouch O (.call (.k (.v (.c (.func 74 [])))) [(.k x36), (.k x37)]) h 38 fun x38 h t9 =>
  vtouch O (.mv (.k x0)) h 39 fun x39 h t10 =>
  vtouch O (.mv (.k x2)) h 40 fun x40 h t11 =>
  vtouch O (.bin .add 0 (.k x40) (.k (.v (.c (.p (.int .u64 1)))))) h 41 fun x41 h t12 =>
  vtouch O (.call (.k (.v (.c (.func 78 [])))) [(.k x39), (.k x41)]) h 42 fun x42 h t13 =>
  vtouch O (.call (.k (.v (.c (.func 42 [])))) [(.k x35), (.k x38), (.k x42)]) h 43 fun x43 h t14 =>
  vtouch O (.bslice 6 1 [(.p (.int .i64 0)), (.p (.bool false)), (.p (.int .i64 0)), (.p (.str [])), (.p .nilslice), (.p .nilslice)] [(0, (.k x43))] false) h 44 fun x44 h t15 =>
  vtouch O (.faddr 4 (.k x7)) h 45 fun x45 h t16 =>
  vtouch O (.store 1 (.k x45) (.k x34)) h 1000000 fun _ h t17 =>
  vtouch O (.faddr 5 (.k x7)) h 46 fun x46 h t18 =>
  vtouch O (.store 1 (.k x46) (.k x44)) h 1000000 fun _ h t19 =>
  bif apartAll [t0, t1, t2, t3, t4, t5, t6, t7, t8, t9, t10, t11, t12, t13, t14, t15, t16, t17, t18, t19] [(5, 7), (1, 9), (4, 9), (5, 9), (1, 13), (4, 13), (5, 13), (1, 14), (4, 14), (5, 14), (1, 15), (4, 15), (5, 15), (15, 17)] then
  R 1 [x6, x7] h
  else none)
  (R 1 [x6, x7] h)
  else none)
  (vfaddr 2 x4 h fun x48 h =>
  vload false 1 x48 h fun x49 h =>
  vlen O 2 x49 h 50 fun x50 h =>
  R 2 [x0, x2, x4, x6, x7, x49, x50, (kI 0)] h)
theorem e79_0 (O : Oracle) (R : Jump) (q : Nat) (x0 x1 x2 : TVal) (h : Heap) : b79_0 O R q x0 x1 x2 h = stepF c79 O R q 0 [x0, x1, x2] h := by kernel_rfl
noncomputable def b79_1 (O : Oracle) (R : Jump) (q : Nat) (x6 x7 : TVal) (h : Heap) : Res1 :=
  vload true 6 x7 h fun x47 h =>
  vstore 6 x6 x47 h fun _ h =>
  vcell true 6 x6 h fun c0 => vfin true q [c0] h
theorem e79_1 (O : Oracle) (R : Jump) (q : Nat) (x6 x7 : TVal) (h : Heap) : b79_1 O R q x6 x7 h = stepF c79 O R q 1 [x6, x7] h := by kernel_rfl
noncomputable def b79_2 (O : Oracle) (R : Jump) (q : Nat) (x0 x2 x4 x6 x7 x49 x50 x51 : TVal) (h : Heap) : Res1 :=
  vbin .lss 0 x51 x50 h fun x52 h =>
  vif x52 (
  viaddr 1 x49 x51 h fun x54 h =>
  vload false 1 x54 h fun x55 h =>
  vtouch O (.faddr 4 (.k x7)) h 56 fun x56 h t0 =>
  vtouch O (.load false 1 (.k x56)) h 57 fun x57 h t1 =>
  vtouch O (.mv (.k x55)) h 58 fun x58 h t2 =>
  vtouch O (.bslice 1 1 [(.p (.str []))] [(0, (.k x58))] false) h 59 fun x59 h t3 =>
  vtouch O (.append 1 16 false (.k x57) (.k x59)) h 60 fun x60 h t4 =>
  vtouch O (.faddr 5 (.k x7)) h 61 fun x61 h t5 =>
  vtouch O (.load false 1 (.k x61)) h 62 fun x62 h t6 =>
  vtouch O (.mv (.k x0)) h 63 fun x63 h t7 =>
  vtouch O (.load true 4 (.k x4)) h 64 fun x64 h t8 =>
  vtouch O (.mv (.k x51)) h 65 fun x65 h t9 =>
  vtouch O (.call (.k (.v (.c (.func 74 [])))) [(.k x64), (.k x65)]) h 66 fun x66 h t10 =>
  vtouch O (.mv (.k x0)) h 67 fun x67 h t11 =>
  vtouch O (.mv (.k x2)) h 68 fun x68 h t12 =>
  vtouch O (.mv (.k x51)) h 69 fun x69 h t13 =>
  vtouch O (.toInt .u64 (.k x69)) h 70 fun x70 h t14 =>
  vtouch O (.bin .add 0 (.k x68) (.k x70)) h 71 fun x71 h t15 =>
  vtouch O (.call (.k (.v (.c (.func 78 [])))) [(.k x67), (.k x71)]) h 72 fun x72 h t16 =>
  vtouch O (.call (.k (.v (.c (.func 42 [])))) [(.k x63), (.k x66), (.k x72)]) h 73 fun x73 h t17 =>
  vtouch O (.bslice 6 1 [(.p (.int .i64 0)), (.p (.bool false)), (.p (.int .i64 0)), (.p (.str [])), (.p .nilslice), (.p .nilslice)] [(0, (.k x73))] false) h 74 fun x74 h t18 =>
  vtouch O (.append 6 88 false (.k x62) (.k x74)) h 75 fun x75 h t19 =>
  vtouch O (.faddr 4 (.k x7)) h 76 fun x76 h t20 =>
  vtouch O (.store 1 (.k x76) (.k x60)) h 1000000 fun _ h t21 =>
  vtouch O (.faddr 5 (.k x7)) h 77 fun x77 h t22 =>
  vtouch O (.store 1 (.k x77) (.k x75)) h 1000000 fun _ h t23 =>
  bif apartAll [t0, t1, t2, t3, t4, t5, t6, t7, t8, t9, t10, t11, t12, t13, t14, t15, t16, t17, t18, t19, t20, t21, t22, t23] [(1, 3), (3, 6), (4, 6), (3, 8), (4, 8), (6, 10), (6, 16), (6, 17), (6, 18)] then
  vbin .add 0 x51 (kI 1) h fun x78 h =>
  R 2 [x0, x2, x4, x6, x7, x49, x50, x78] h
  else none)
  (R 3 [x6, x7] h)
theorem e79_2 (O : Oracle) (R : Jump) (q : Nat) (x0 x2 x4 x6 x7 x49 x50 x51 : TVal) (h : Heap) : b79_2 O R q x0 x2 x4 x6 x7 x49 x50 x51 h = stepF c79 O R q 2 [x0, x2, x4, x6, x7, x49, x50, x51] h := by kernel_rfl
noncomputable def b79_3 (O : Oracle) (R : Jump) (q : Nat) (x6 x7 : TVal) (h : Heap) : Res1 :=
  vload true 6 x7 h fun x79 h =>
  vstore 6 x6 x79 h fun _ h =>
  vcell true 6 x6 h fun c0 => vfin true q [c0] h
theorem e79_3 (O : Oracle) (R : Jump) (q : Nat) (x6 x7 : TVal) (h : Heap) : b79_3 O R q x6 x7 h = stepF c79 O R q 3 [x6, x7] h := by kernel_rfl
noncomputable def d79 : BlkF := fun O R q => [.s fun y0 => .s fun y1 => .s fun y2 => .z fun h => b79_0 O R q y0 y1 y2 h, .s fun y0 => .s fun y1 => .z fun h => b79_1 O R q y0 y1 h, .s fun y0 => .s fun y1 => .s fun y2 => .s fun y3 => .s fun y4 => .s fun y5 => .s fun y6 => .s fun y7 => .z fun h => b79_2 O R q y0 y1 y2 y3 y4 y5 y6 y7 h, .s fun y0 => .s fun y1 => .z fun h => b79_3 O R q y0 y1 h]
theorem o79 (O : Oracle) (R : Jump) (q : Nat) : HoldsAll c79 O R q 0 (d79 O R q) := ⟨fun y0 y1 y2 h => e79_0 O R q y0 y1 y2 h, fun y0 y1 h => e79_1 O R q y0 y1 h, fun y0 y1 y2 y3 y4 y5 y6 y7 h => e79_2 O R q y0 y1 y2 y3 y4 y5 y6 y7 h, fun y0 y1 h => e79_3 O R q y0 y1 h, trivial⟩
/- sprue/sprueref1.blank -/
def c80 : MFunc := { np := 1, res := [.t 2], frz := true, body := (.seq (.reg [⟨(some 2), (.mv (.k (.v (.c (.p (.bool false)))))), none⟩] []) (.seq (.reg [⟨(some 3), (.mv (.t 0)), none⟩, ⟨(some 4), (.bin .eql 0 (.t 3) (.k (.v (.c (.p (.int .u8 32)))))), none⟩, ⟨(some 5), (.mv (.t 4)), none⟩, ⟨(some 6), (.mv (.t 0)), (some (5, false))⟩, ⟨(some 7), (.bin .eql 0 (.t 6) (.k (.v (.c (.p (.int .u8 9)))))), (some (5, false))⟩, ⟨(some 8), (.pick (.t 5) (.k (.v (.c (.p (.bool true))))) (.t 7)), none⟩, ⟨(some 9), (.mv (.t 8)), none⟩, ⟨(some 10), (.mv (.t 0)), (some (9, false))⟩, ⟨(some 11), (.bin .eql 0 (.t 10) (.k (.v (.c (.p (.int .u8 10)))))), (some (9, false))⟩, ⟨(some 12), (.pick (.t 9) (.k (.v (.c (.p (.bool true))))) (.t 11)), none⟩, ⟨(some 13), (.mv (.t 12)), none⟩, ⟨(some 14), (.mv (.t 0)), (some (13, false))⟩, ⟨(some 15), (.bin .eql 0 (.t 14) (.k (.v (.c (.p (.int .u8 13)))))), (some (13, false))⟩, ⟨(some 16), (.pick (.t 13) (.k (.v (.c (.p (.bool true))))) (.t 15)), none⟩, ⟨(some 2), (.mv (.t 16)), none⟩] []) .ret)) }
theorem t80 : compF Tryd.prog (globs2 tabs opq) false true Tryd.f80 = some c80.erase := by kernel_rfl
noncomputable def b80_0 (O : Oracle) (R : Jump) (q : Nat) (x0 : TVal) (h : Heap) : Res1 :=
  vbin .eql 0 x0 (.v (.c (.p (.int .u8 32)))) h fun x4 h =>
  vguard x4 false (fun kk => kk x0 h) h fun x6 h =>
  vguard x4 false (fun kk => vbin .eql 0 x6 (.v (.c (.p (.int .u8 9)))) h kk) h fun x7 h =>
  vop O (.pick (.k x4) (.k (kB true)) (.k x7)) h 8 fun x8 h =>
  vguard x8 false (fun kk => kk x0 h) h fun x10 h =>
  vguard x8 false (fun kk => vbin .eql 0 x10 (.v (.c (.p (.int .u8 10)))) h kk) h fun x11 h =>
  vop O (.pick (.k x8) (.k (kB true)) (.k x11)) h 12 fun x12 h =>
  vguard x12 false (fun kk => kk x0 h) h fun x14 h =>
  vguard x12 false (fun kk => vbin .eql 0 x14 (.v (.c (.p (.int .u8 13)))) h kk) h fun x15 h =>
  vop O (.pick (.k x12) (.k (kB true)) (.k x15)) h 16 fun x16 h =>
  tcomp x16 fun c0 => vfin true q [c0] h
theorem e80_0 (O : Oracle) (R : Jump) (q : Nat) (x0 : TVal) (h : Heap) : b80_0 O R q x0 h = stepF c80 O R q 0 [x0] h := by kernel_rfl
noncomputable def d80 : BlkF := fun O R q => [.s fun y0 => .z fun h => b80_0 O R q y0 h]
theorem o80 (O : Oracle) (R : Jump) (q : Nat) : HoldsAll c80 O R q 0 (d80 O R q) := ⟨fun y0 h => e80_0 O R q y0 h, trivial⟩
/- sprue/sprueref1.next -/
def c81 : MFunc := { np := 2, res := [.cell 4 true 4, .t 5, .t 6], frz := true, body := (.seq (.reg [⟨(some 4), (.alloc [(.p (.int .i64 0)), (.p (.str [])), (.p (.int .i64 0)), (.p (.int .i64 0))] false), none⟩, ⟨(some 5), (.mv (.k (.v (.c (.p (.int .i64 0)))))), none⟩, ⟨(some 6), (.mv (.k (.v (.c (.p (.int .i64 0)))))), none⟩] []) (.seq (.reg [⟨(some 14), (.mv (.t 1)), none⟩, ⟨(some 7), (.mv (.t 14)), none⟩] []) (.seq (.block 0 (.seq (.reg [⟨(some 16), (.mv (.t 0)), none⟩, ⟨(some 17), (.mv (.t 1)), none⟩, ⟨(some 18), (.index (.t 16) (.t 17)), none⟩, ⟨(some 19), (.call (.k (.v (.c (.func 107 [])))) [(.t 18)]), none⟩, ⟨(some 15), (.mv (.t 19)), none⟩] []) (.cond (.t 15) (.seq (.block 1 (.loop 1 [0, 1, 4, 7] (.seq (.seq (.reg [⟨(some 20), (.mv (.t 7)), none⟩, ⟨(some 21), (.mv (.t 0)), none⟩, ⟨(some 22), (.len 0 (.t 21)), none⟩, ⟨(some 23), (.bin .lss 0 (.t 20) (.t 22)), none⟩, ⟨(some 24), (.mv (.t 23)), none⟩, ⟨(some 25), (.mv (.t 0)), (some (24, true))⟩, ⟨(some 26), (.mv (.t 7)), (some (24, true))⟩, ⟨(some 27), (.index (.t 25) (.t 26)), (some (24, true))⟩, ⟨(some 28), (.call (.k (.v (.c (.func 107 [])))) [(.t 27)]), (some (24, true))⟩, ⟨(some 29), (.mv (.t 28)), (some (24, true))⟩, ⟨(some 30), (.mv (.t 0)), (some (29, false))⟩, ⟨(some 31), (.mv (.t 7)), (some (29, false))⟩, ⟨(some 32), (.index (.t 30) (.t 31)), (some (29, false))⟩, ⟨(some 33), (.call (.k (.v (.c (.func 108 [])))) [(.t 32)]), (some (29, false))⟩, ⟨(some 34), (.pick (.t 29) (.k (.v (.c (.p (.bool true))))) (.t 33)), (some (24, true))⟩, ⟨(some 35), (.pick (.t 24) (.t 34) (.k (.v (.c (.p (.bool false)))))), none⟩] []) (.cond (.t 35) .skip (.exit 1))) (.block 2 (.reg [⟨(some 36), (.mv (.t 7)), none⟩, ⟨(some 37), (.bin .add 0 (.t 36) (.k (.v (.c (.p (.int .i64 1)))))), none⟩, ⟨(some 7), (.mv (.t 37)), none⟩] []))))) (.mark 2 [0, 1, 4, 7] (.seq (.seq (.reg [⟨(some 38), (.mv (.t 7)), none⟩, ⟨(some 39), (.mv (.t 1)), none⟩, ⟨(some 40), (.bin .sub 0 (.t 38) (.t 39)), none⟩, ⟨(some 41), (.bin .gtr 0 (.t 40) (.k (.v (.c (.p (.int .i64 16)))))), none⟩] []) (.cond (.t 41) (.seq (.reg [⟨(some 42), (.build [(.p (.int .i64 0)), (.p (.str [])), (.p (.int .i64 0)), (.p (.int .i64 0))] []), none⟩, ⟨none, (.store 4 (.t 4) (.t 42)), none⟩, ⟨(some 5), (.mv (.k (.v (.c (.p (.int .i64 0)))))), none⟩, ⟨(some 6), (.mv (.k (.v (.c (.p (.int .i64 4)))))), none⟩] []) .ret) .skip)) (.seq (.reg [⟨(some 43), (.mv (.t 0)), none⟩, ⟨(some 44), (.mv (.t 1)), none⟩, ⟨(some 45), (.mv (.t 7)), none⟩, ⟨(some 46), (.slice 0 true (.t 43) (some (.t 44)) (some (.t 45)) none), none⟩, ⟨(some 47), (.mv (.t 1)), none⟩, ⟨(some 48), (.build [(.p (.int .i64 0)), (.p (.str [])), (.p (.int .i64 0)), (.p (.int .i64 0))] [(0, 1, (.k (.v (.c (.p (.int .i64 1)))))), (1, 1, (.t 46)), (3, 1, (.t 47))]), none⟩, ⟨(some 49), (.mv (.t 7)), none⟩, ⟨none, (.store 4 (.t 4) (.t 48)), none⟩, ⟨(some 5), (.mv (.t 49)), none⟩, ⟨(some 6), (.mv (.k (.v (.c (.p (.int .i64 0)))))), none⟩] []) .ret)))) (.seq (.reg [⟨(some 51), (.mv (.t 0)), none⟩, ⟨(some 52), (.mv (.t 1)), none⟩, ⟨(some 53), (.index (.t 51) (.t 52)), none⟩, ⟨(some 54), (.call (.k (.v (.c (.func 108 [])))) [(.t 53)]), none⟩, ⟨(some 55), (.mv (.t 54)), none⟩, ⟨(some 56), (.mv (.t 0)), (some (55, false))⟩, ⟨(some 57), (.mv (.t 1)), (some (55, false))⟩, ⟨(some 58), (.index (.t 56) (.t 57)), (some (55, false))⟩, ⟨(some 59), (.bin .eql 0 (.t 58) (.k (.v (.c (.p (.int .u8 45)))))), (some (55, false))⟩, ⟨(some 60), (.mv (.t 59)), (some (55, false))⟩, ⟨(some 61), (.mv (.t 1)), (some (60, true))⟩, ⟨(some 62), (.bin .add 0 (.t 61) (.k (.v (.c (.p (.int .i64 1)))))), (some (60, true))⟩, ⟨(some 63), (.mv (.t 0)), (some (60, true))⟩, ⟨(some 64), (.len 0 (.t 63)), (some (60, true))⟩, ⟨(some 65), (.bin .lss 0 (.t 62) (.t 64)), (some (60, true))⟩, ⟨(some 66), (.pick (.t 60) (.t 65) (.k (.v (.c (.p (.bool false)))))), (some (55, false))⟩, ⟨(some 67), (.mv (.t 66)), (some (55, false))⟩, ⟨(some 68), (.mv (.t 0)), (some (67, true))⟩, ⟨(some 69), (.mv (.t 1)), (some (67, true))⟩, ⟨(some 70), (.bin .add 0 (.t 69) (.k (.v (.c (.p (.int .i64 1)))))), (some (67, true))⟩, ⟨(some 71), (.index (.t 68) (.t 70)), (some (67, true))⟩, ⟨(some 72), (.call (.k (.v (.c (.func 108 [])))) [(.t 71)]), (some (67, true))⟩, ⟨(some 73), (.pick (.t 67) (.t 72) (.k (.v (.c (.p (.bool false)))))), (some (55, false))⟩, ⟨(some 74), (.pick (.t 55) (.k (.v (.c (.p (.bool true))))) (.t 73)), none⟩, ⟨(some 50), (.mv (.t 74)), none⟩] []) (.cond (.t 50) (.seq (.reg [⟨(some 75), (.mv (.t 7)), none⟩, ⟨(some 76), (.bin .add 0 (.t 75) (.k (.v (.c (.p (.int .i64 1)))))), none⟩, ⟨(some 7), (.mv (.t 76)), none⟩] []) (.seq (.block 3 (.loop 3 [0, 1, 4, 7] (.seq (.seq (.reg [⟨(some 77), (.mv (.t 7)), none⟩, ⟨(some 78), (.mv (.t 0)), none⟩, ⟨(some 79), (.len 0 (.t 78)), none⟩, ⟨(some 80), (.bin .lss 0 (.t 77) (.t 79)), none⟩, ⟨(some 81), (.mv (.t 80)), none⟩, ⟨(some 82), (.mv (.t 0)), (some (81, true))⟩, ⟨(some 83), (.mv (.t 7)), (some (81, true))⟩, ⟨(some 84), (.index (.t 82) (.t 83)), (some (81, true))⟩, ⟨(some 85), (.call (.k (.v (.c (.func 108 [])))) [(.t 84)]), (some (81, true))⟩, ⟨(some 86), (.pick (.t 81) (.t 85) (.k (.v (.c (.p (.bool false)))))), none⟩] []) (.cond (.t 86) .skip (.exit 3))) (.block 4 (.reg [⟨(some 87), (.mv (.t 7)), none⟩, ⟨(some 88), (.bin .add 0 (.t 87) (.k (.v (.c (.p (.int .i64 1)))))), none⟩, ⟨(some 7), (.mv (.t 88)), none⟩] []))))) (.mark 4 [0, 1, 4, 7] (.seq (.reg [⟨(some 90), (.mv (.t 0)), none⟩, ⟨(some 91), (.mv (.t 1)), none⟩, ⟨(some 92), (.mv (.t 7)), none⟩, ⟨(some 93), (.slice 0 true (.t 90) (some (.t 91)) (some (.t 92)) none), none⟩, ⟨(some 94), (.call (.k (.v (.c (.func 109 [])))) [(.t 93)]), none⟩, ⟨(some 89), (.mv (.t 94)), none⟩, ⟨(some 95), (.extract (.t 89) 0), none⟩, ⟨(some 96), (.extract (.t 89) 1), none⟩, ⟨(some 8), (.mv (.t 95)), none⟩, ⟨(some 9), (.mv (.t 96)), none⟩] []) (.seq (.reg [⟨(some 97), (.mv (.t 8)), none⟩, ⟨(some 98), (.mv (.t 1)), none⟩, ⟨(some 99), (.build [(.p (.int .i64 0)), (.p (.str [])), (.p (.int .i64 0)), (.p (.int .i64 0))] [(0, 1, (.k (.v (.c (.p (.int .i64 3)))))), (2, 1, (.t 97)), (3, 1, (.t 98))]), none⟩, ⟨(some 100), (.mv (.t 7)), none⟩, ⟨(some 101), (.mv (.t 9)), none⟩, ⟨none, (.store 4 (.t 4) (.t 99)), none⟩, ⟨(some 5), (.mv (.t 100)), none⟩, ⟨(some 6), (.mv (.t 101)), none⟩] []) .ret))))) (.seq (.reg [⟨(some 103), (.mv (.t 0)), none⟩, ⟨(some 104), (.mv (.t 1)), none⟩, ⟨(some 105), (.index (.t 103) (.t 104)), none⟩, ⟨(some 106), (.bin .eql 0 (.t 105) (.k (.v (.c (.p (.int .u8 34)))))), none⟩, ⟨(some 102), (.mv (.t 106)), none⟩] []) (.cond (.t 102) (.seq (.reg [⟨(some 108), (.mv (.t 0)), none⟩, ⟨(some 109), (.mv (.t 1)), none⟩, ⟨(some 110), (.call (.k (.v (.c (.func 110 [])))) [(.t 108), (.t 109)]), none⟩, ⟨(some 107), (.mv (.t 110)), none⟩, ⟨(some 111), (.extract (.t 107) 0), none⟩, ⟨(some 112), (.extract (.t 107) 1), none⟩, ⟨(some 10), (.mv (.t 111)), none⟩, ⟨(some 11), (.mv (.t 112)), none⟩] []) (.seq (.seq (.reg [⟨(some 113), (.mv (.t 11)), none⟩, ⟨(some 114), (.bin .lss 0 (.t 113) (.k (.v (.c (.p (.int .i64 0)))))), none⟩] []) (.cond (.t 114) (.seq (.reg [⟨(some 115), (.build [(.p (.int .i64 0)), (.p (.str [])), (.p (.int .i64 0)), (.p (.int .i64 0))] []), none⟩, ⟨none, (.store 4 (.t 4) (.t 115)), none⟩, ⟨(some 5), (.mv (.k (.v (.c (.p (.int .i64 0)))))), none⟩, ⟨(some 6), (.mv (.k (.v (.c (.p (.int .i64 11)))))), none⟩] []) .ret) .skip)) (.seq (.seq (.reg [⟨(some 116), (.mv (.t 10)), none⟩, ⟨(some 117), (.len 0 (.t 116)), none⟩, ⟨(some 118), (.bin .gtr 0 (.t 117) (.k (.v (.c (.p (.int .i64 200)))))), none⟩] []) (.cond (.t 118) (.seq (.reg [⟨(some 119), (.build [(.p (.int .i64 0)), (.p (.str [])), (.p (.int .i64 0)), (.p (.int .i64 0))] []), none⟩, ⟨none, (.store 4 (.t 4) (.t 119)), none⟩, ⟨(some 5), (.mv (.k (.v (.c (.p (.int .i64 0)))))), none⟩, ⟨(some 6), (.mv (.k (.v (.c (.p (.int .i64 4)))))), none⟩] []) .ret) .skip)) (.seq (.reg [⟨(some 120), (.mv (.t 10)), none⟩, ⟨(some 121), (.mv (.t 1)), none⟩, ⟨(some 122), (.build [(.p (.int .i64 0)), (.p (.str [])), (.p (.int .i64 0)), (.p (.int .i64 0))] [(0, 1, (.k (.v (.c (.p (.int .i64 2)))))), (1, 1, (.t 120)), (3, 1, (.t 121))]), none⟩, ⟨(some 123), (.mv (.t 11)), none⟩, ⟨none, (.store 4 (.t 4) (.t 122)), none⟩, ⟨(some 5), (.mv (.t 123)), none⟩, ⟨(some 6), (.mv (.k (.v (.c (.p (.int .i64 0)))))), none⟩] []) .ret)))) .skip))))))) (.mark 5 [0, 1, 4] (.seq (.seq (.reg [⟨(some 124), (.mv (.t 1)), none⟩, ⟨(some 125), (.bin .add 0 (.t 124) (.k (.v (.c (.p (.int .i64 2)))))), none⟩, ⟨(some 126), (.mv (.t 0)), none⟩, ⟨(some 127), (.len 0 (.t 126)), none⟩, ⟨(some 128), (.bin .leq 0 (.t 125) (.t 127)), none⟩, ⟨(some 129), (.mv (.t 128)), none⟩, ⟨(some 130), (.mv (.t 0)), (some (129, true))⟩, ⟨(some 131), (.mv (.t 1)), (some (129, true))⟩, ⟨(some 132), (.mv (.t 1)), (some (129, true))⟩, ⟨(some 133), (.bin .add 0 (.t 132) (.k (.v (.c (.p (.int .i64 2)))))), (some (129, true))⟩, ⟨(some 134), (.slice 0 true (.t 130) (some (.t 131)) (some (.t 133)) none), (some (129, true))⟩, ⟨(some 135), (.bin .eql 0 (.t 134) (.k (.v (.c (.p (.str [45, 62])))))), (some (129, true))⟩, ⟨(some 136), (.mv (.t 135)), (some (129, true))⟩, ⟨(some 137), (.mv (.t 0)), (some (136, false))⟩, ⟨(some 138), (.mv (.t 1)), (some (136, false))⟩, ⟨(some 139), (.mv (.t 1)), (some (136, false))⟩, ⟨(some 140), (.bin .add 0 (.t 139) (.k (.v (.c (.p (.int .i64 2)))))), (some (136, false))⟩, ⟨(some 141), (.slice 0 true (.t 137) (some (.t 138)) (some (.t 140)) none), (some (136, false))⟩, ⟨(some 142), (.bin .eql 0 (.t 141) (.k (.v (.c (.p (.str [58, 61])))))), (some (136, false))⟩, ⟨(some 143), (.pick (.t 136) (.k (.v (.c (.p (.bool true))))) (.t 142)), (some (129, true))⟩, ⟨(some 144), (.pick (.t 129) (.t 143) (.k (.v (.c (.p (.bool false)))))), none⟩] []) (.cond (.t 144) (.seq (.reg [⟨(some 145), (.mv (.t 0)), none⟩, ⟨(some 146), (.mv (.t 1)), none⟩, ⟨(some 147), (.mv (.t 1)), none⟩, ⟨(some 148), (.bin .add 0 (.t 147) (.k (.v (.c (.p (.int .i64 2)))))), none⟩, ⟨(some 149), (.slice 0 true (.t 145) (some (.t 146)) (some (.t 148)) none), none⟩, ⟨(some 150), (.mv (.t 1)), none⟩, ⟨(some 151), (.build [(.p (.int .i64 0)), (.p (.str [])), (.p (.int .i64 0)), (.p (.int .i64 0))] [(0, 1, (.k (.v (.c (.p (.int .i64 4)))))), (1, 1, (.t 149)), (3, 1, (.t 150))]), none⟩, ⟨(some 152), (.mv (.t 1)), none⟩, ⟨(some 153), (.bin .add 0 (.t 152) (.k (.v (.c (.p (.int .i64 2)))))), none⟩, ⟨none, (.store 4 (.t 4) (.t 151)), none⟩, ⟨(some 5), (.mv (.t 153)), none⟩, ⟨(some 6), (.mv (.k (.v (.c (.p (.int .i64 0)))))), none⟩] []) .ret) .skip)) (.seq (.reg [⟨(some 12), (.mv (.k (.v (.c (.p (.str [123, 125, 60, 62, 44, 58, 40, 41, 46, 36, 124, 61, 59])))))), none⟩] []) (.seq (.seq (.reg [⟨(some 13), (.mv (.k (.v (.c (.p (.int .i64 0)))))), none⟩] []) (.block 5 (.loop 6 [0, 1, 4, 12, 13] (.seq (.seq (.reg [⟨(some 154), (.mv (.t 13)), none⟩, ⟨(some 155), (.mv (.t 12)), none⟩, ⟨(some 156), (.len 0 (.t 155)), none⟩, ⟨(some 157), (.bin .lss 0 (.t 154) (.t 156)), none⟩] []) (.cond (.t 157) .skip (.exit 5))) (.seq (.block 6 (.seq (.reg [⟨(some 160), (.mv (.t 12)), none⟩, ⟨(some 161), (.mv (.t 13)), none⟩, ⟨(some 162), (.index (.t 160) (.t 161)), none⟩, ⟨(some 163), (.mv (.t 0)), none⟩, ⟨(some 164), (.mv (.t 1)), none⟩, ⟨(some 165), (.index (.t 163) (.t 164)), none⟩, ⟨(some 166), (.bin .eql 0 (.t 162) (.t 165)), none⟩] []) (.cond (.t 166) (.seq (.reg [⟨(some 167), (.mv (.t 0)), none⟩, ⟨(some 168), (.mv (.t 1)), none⟩, ⟨(some 169), (.mv (.t 1)), none⟩, ⟨(some 170), (.bin .add 0 (.t 169) (.k (.v (.c (.p (.int .i64 1)))))), none⟩, ⟨(some 171), (.slice 0 true (.t 167) (some (.t 168)) (some (.t 170)) none), none⟩, ⟨(some 172), (.mv (.t 1)), none⟩, ⟨(some 173), (.build [(.p (.int .i64 0)), (.p (.str [])), (.p (.int .i64 0)), (.p (.int .i64 0))] [(0, 1, (.k (.v (.c (.p (.int .i64 4)))))), (1, 1, (.t 171)), (3, 1, (.t 172))]), none⟩, ⟨(some 174), (.mv (.t 1)), none⟩, ⟨(some 175), (.bin .add 0 (.t 174) (.k (.v (.c (.p (.int .i64 1)))))), none⟩, ⟨none, (.store 4 (.t 4) (.t 173)), none⟩, ⟨(some 5), (.mv (.t 175)), none⟩, ⟨(some 6), (.mv (.k (.v (.c (.p (.int .i64 0)))))), none⟩] []) .ret) .skip))) (.reg [⟨(some 158), (.mv (.t 13)), none⟩, ⟨(some 159), (.bin .add 0 (.t 158) (.k (.v (.c (.p (.int .i64 1)))))), none⟩, ⟨(some 13), (.mv (.t 159)), none⟩] [])))))) (.mark 7 [4] (.seq (.reg [⟨(some 176), (.build [(.p (.int .i64 0)), (.p (.str [])), (.p (.int .i64 0)), (.p (.int .i64 0))] []), none⟩, ⟨none, (.store 4 (.t 4) (.t 176)), none⟩, ⟨(some 5), (.mv (.k (.v (.c (.p (.int .i64 0)))))), none⟩, ⟨(some 6), (.mv (.k (.v (.c (.p (.int .i64 11)))))), none⟩] []) .ret))))))))) }
theorem t81 : compF Tryd.prog (globs2 tabs opq) false true Tryd.f81 = some c81.erase := by kernel_rfl
noncomputable def b81_0 (O : Oracle) (R : Jump) (q : Nat) (x0 x1 : TVal) (h : Heap) : Res1 :=
  vop O (.alloc [(.p (.int .i64 0)), (.p (.str [])), (.p (.int .i64 0)), (.p (.int .i64 0))] false) h 4 fun x4 h =>
  vindex x0 x1 h fun x18 h =>
  vcall O (.v (.c (.func 107 []))) [x18] h 19 fun x19 h =>
  vif x19 (
  R 1 [x0, x1, x4, x1] h)
  (vindex x0 x1 h fun x53 h =>
  vcall O (.v (.c (.func 108 []))) [x53] h 54 fun x54 h =>
  vguard x54 false (fun kk => kk x0 h) h fun x56 h =>
  vguard x54 false (fun kk => kk x1 h) h fun x57 h =>
  vguard x54 false (fun kk => vindex x56 x57 h kk) h fun x58 h =>
  vguard x54 false (fun kk => vbin .eql 0 x58 (.v (.c (.p (.int .u8 45)))) h kk) h fun x59 h =>
  vguard x54 false (fun kk => kk x59 h) h fun x60 h =>
  vguard x60 true (fun kk => kk x1 h) h fun x61 h =>
  vguard x60 true (fun kk => vbin .add 0 x61 (kI 1) h kk) h fun x62 h =>
  vguard x60 true (fun kk => kk x0 h) h fun x63 h =>
  vguard x60 true (fun kk => vlen O 0 x63 h 64 kk) h fun x64 h =>
  vguard x60 true (fun kk => vbin .lss 0 x62 x64 h kk) h fun x65 h =>
  vguard x54 false (fun kk => vop O (.pick (.k x60) (.k x65) (.k (kB false))) h 66 kk) h fun x66 h =>
  vguard x54 false (fun kk => kk x66 h) h fun x67 h =>
  vguard x67 true (fun kk => kk x0 h) h fun x68 h =>
  vguard x67 true (fun kk => kk x1 h) h fun x69 h =>
  vguard x67 true (fun kk => vbin .add 0 x69 (kI 1) h kk) h fun x70 h =>
  vguard x67 true (fun kk => vindex x68 x70 h kk) h fun x71 h =>
  vguard x67 true (fun kk => vcall O (.v (.c (.func 108 []))) [x71] h 72 kk) h fun x72 h =>
  vguard x54 false (fun kk => vop O (.pick (.k x67) (.k x72) (.k (kB false))) h 73 kk) h fun x73 h =>
  vop O (.pick (.k x54) (.k (kB true)) (.k x73)) h 74 fun x74 h =>
  vif x74 (
  vbin .add 0 x1 (kI 1) h fun x76 h =>
  R 3 [x0, x1, x4, x76] h)
  (vindex x0 x1 h fun x105 h =>
  vbin .eql 0 x105 (.v (.c (.p (.int .u8 34)))) h fun x106 h =>
  vif x106 (
  vcall O (.v (.c (.func 110 []))) [x0, x1] h 110 fun x110 h =>
  vext x110 0 h fun x111 h =>
  vext x110 1 h fun x112 h =>
  vbin .lss 0 x112 (kI 0) h fun x114 h =>
  vif x114 (
  vop O (.build [(.p (.int .i64 0)), (.p (.str [])), (.p (.int .i64 0)), (.p (.int .i64 0))] []) h 115 fun x115 h =>
  vstore 4 x4 x115 h fun _ h =>
  vcell true 4 x4 h fun c0 => tcomp (kI 0) fun c1 => tcomp (kI 11) fun c2 => vfin true q [c0, c1, c2] h)
  (vlen O 0 x111 h 117 fun x117 h =>
  vbin .gtr 0 x117 (kI 200) h fun x118 h =>
  vif x118 (
  vop O (.build [(.p (.int .i64 0)), (.p (.str [])), (.p (.int .i64 0)), (.p (.int .i64 0))] []) h 119 fun x119 h =>
  vstore 4 x4 x119 h fun _ h =>
  vcell true 4 x4 h fun c0 => tcomp (kI 0) fun c1 => tcomp (kI 4) fun c2 => vfin true q [c0, c1, c2] h)
  (vop O (.build [(.p (.int .i64 0)), (.p (.str [])), (.p (.int .i64 0)), (.p (.int .i64 0))] [(0, 1, (.k (kI 2))), (1, 1, (.k x111)), (3, 1, (.k x1))]) h 122 fun x122 h =>
  vstore 4 x4 x122 h fun _ h =>
  vcell true 4 x4 h fun c0 => tcomp x112 fun c1 => tcomp (kI 0) fun c2 => vfin true q [c0, c1, c2] h)))
  (R 5 [x0, x1, x4] h)))
theorem e81_0 (O : Oracle) (R : Jump) (q : Nat) (x0 x1 : TVal) (h : Heap) : b81_0 O R q x0 x1 h = stepF c81 O R q 0 [x0, x1] h := by kernel_rfl
noncomputable def b81_1 (O : Oracle) (R : Jump) (q : Nat) (x0 x1 x4 x7 : TVal) (h : Heap) : Res1 :=
  vlen O 0 x0 h 22 fun x22 h =>
  vbin .lss 0 x7 x22 h fun x23 h =>
  vguard x23 true (fun kk => kk x0 h) h fun x25 h =>
  vguard x23 true (fun kk => kk x7 h) h fun x26 h =>
  vguard x23 true (fun kk => vindex x25 x26 h kk) h fun x27 h =>
  vguard x23 true (fun kk => vcall O (.v (.c (.func 107 []))) [x27] h 28 kk) h fun x28 h =>
  vguard x23 true (fun kk => kk x28 h) h fun x29 h =>
  vguard x29 false (fun kk => kk x0 h) h fun x30 h =>
  vguard x29 false (fun kk => kk x7 h) h fun x31 h =>
  vguard x29 false (fun kk => vindex x30 x31 h kk) h fun x32 h =>
  vguard x29 false (fun kk => vcall O (.v (.c (.func 108 []))) [x32] h 33 kk) h fun x33 h =>
  vguard x23 true (fun kk => vop O (.pick (.k x29) (.k (kB true)) (.k x33)) h 34 kk) h fun x34 h =>
  vop O (.pick (.k x23) (.k x34) (.k (kB false))) h 35 fun x35 h =>
  vif x35 (
  vbin .add 0 x7 (kI 1) h fun x37 h =>
  R 1 [x0, x1, x4, x37] h)
  (R 2 [x0, x1, x4, x7] h)
theorem e81_1 (O : Oracle) (R : Jump) (q : Nat) (x0 x1 x4 x7 : TVal) (h : Heap) : b81_1 O R q x0 x1 x4 x7 h = stepF c81 O R q 1 [x0, x1, x4, x7] h := by kernel_rfl
noncomputable def b81_2 (O : Oracle) (R : Jump) (q : Nat) (x0 x1 x4 x7 : TVal) (h : Heap) : Res1 :=
  vbin .sub 0 x7 x1 h fun x40 h =>
  vbin .gtr 0 x40 (kI 16) h fun x41 h =>
  vif x41 (
  vop O (.build [(.p (.int .i64 0)), (.p (.str [])), (.p (.int .i64 0)), (.p (.int .i64 0))] []) h 42 fun x42 h =>
  vstore 4 x4 x42 h fun _ h =>
  vcell true 4 x4 h fun c0 => tcomp (kI 0) fun c1 => tcomp (kI 4) fun c2 => vfin true q [c0, c1, c2] h)
  (vop O (.slice 0 true (.k x0) (some (.k x1)) (some (.k x7)) none) h 46 fun x46 h =>
  vop O (.build [(.p (.int .i64 0)), (.p (.str [])), (.p (.int .i64 0)), (.p (.int .i64 0))] [(0, 1, (.k (kI 1))), (1, 1, (.k x46)), (3, 1, (.k x1))]) h 48 fun x48 h =>
  vstore 4 x4 x48 h fun _ h =>
  vcell true 4 x4 h fun c0 => tcomp x7 fun c1 => tcomp (kI 0) fun c2 => vfin true q [c0, c1, c2] h)
theorem e81_2 (O : Oracle) (R : Jump) (q : Nat) (x0 x1 x4 x7 : TVal) (h : Heap) : b81_2 O R q x0 x1 x4 x7 h = stepF c81 O R q 2 [x0, x1, x4, x7] h := by kernel_rfl
noncomputable def b81_3 (O : Oracle) (R : Jump) (q : Nat) (x0 x1 x4 x7 : TVal) (h : Heap) : Res1 :=
  vlen O 0 x0 h 79 fun x79 h =>
  vbin .lss 0 x7 x79 h fun x80 h =>
  vguard x80 true (fun kk => kk x0 h) h fun x82 h =>
  vguard x80 true (fun kk => kk x7 h) h fun x83 h =>
  vguard x80 true (fun kk => vindex x82 x83 h kk) h fun x84 h =>
  vguard x80 true (fun kk => vcall O (.v (.c (.func 108 []))) [x84] h 85 kk) h fun x85 h =>
  vop O (.pick (.k x80) (.k x85) (.k (kB false))) h 86 fun x86 h =>
  vif x86 (
  vbin .add 0 x7 (kI 1) h fun x88 h =>
  R 3 [x0, x1, x4, x88] h)
  (R 4 [x0, x1, x4, x7] h)
theorem e81_3 (O : Oracle) (R : Jump) (q : Nat) (x0 x1 x4 x7 : TVal) (h : Heap) : b81_3 O R q x0 x1 x4 x7 h = stepF c81 O R q 3 [x0, x1, x4, x7] h := by kernel_rfl
noncomputable def b81_4 (O : Oracle) (R : Jump) (q : Nat) (x0 x1 x4 x7 : TVal) (h : Heap) : Res1 :=
  vop O (.slice 0 true (.k x0) (some (.k x1)) (some (.k x7)) none) h 93 fun x93 h =>
  vcall O (.v (.c (.func 109 []))) [x93] h 94 fun x94 h =>
  vext x94 0 h fun x95 h =>
  vext x94 1 h fun x96 h =>
  vop O (.build [(.p (.int .i64 0)), (.p (.str [])), (.p (.int .i64 0)), (.p (.int .i64 0))] [(0, 1, (.k (kI 3))), (2, 1, (.k x95)), (3, 1, (.k x1))]) h 99 fun x99 h =>
  vstore 4 x4 x99 h fun _ h =>
  vcell true 4 x4 h fun c0 => tcomp x7 fun c1 => tcomp x96 fun c2 => vfin true q [c0, c1, c2] h
theorem e81_4 (O : Oracle) (R : Jump) (q : Nat) (x0 x1 x4 x7 : TVal) (h : Heap) : b81_4 O R q x0 x1 x4 x7 h = stepF c81 O R q 4 [x0, x1, x4, x7] h := by kernel_rfl
noncomputable def b81_5 (O : Oracle) (R : Jump) (q : Nat) (x0 x1 x4 : TVal) (h : Heap) : Res1 :=
  vbin .add 0 x1 (kI 2) h fun x125 h =>
  vlen O 0 x0 h 127 fun x127 h =>
  vbin .leq 0 x125 x127 h fun x128 h =>
  vguard x128 true (fun kk => kk x0 h) h fun x130 h =>
  vguard x128 true (fun kk => kk x1 h) h fun x131 h =>
  vguard x128 true (fun kk => kk x1 h) h fun x132 h =>
  vguard x128 true (fun kk => vbin .add 0 x132 (kI 2) h kk) h fun x133 h =>
  vguard x128 true (fun kk => vop O (.slice 0 true (.k x130) (some (.k x131)) (some (.k x133)) none) h 134 kk) h fun x134 h =>
  vguard x128 true (fun kk => vbin .eql 0 x134 (kS [45, 62]) h kk) h fun x135 h =>
  vguard x128 true (fun kk => kk x135 h) h fun x136 h =>
  vguard x136 false (fun kk => kk x0 h) h fun x137 h =>
  vguard x136 false (fun kk => kk x1 h) h fun x138 h =>
  vguard x136 false (fun kk => kk x1 h) h fun x139 h =>
  vguard x136 false (fun kk => vbin .add 0 x139 (kI 2) h kk) h fun x140 h =>
  vguard x136 false (fun kk => vop O (.slice 0 true (.k x137) (some (.k x138)) (some (.k x140)) none) h 141 kk) h fun x141 h =>
  vguard x136 false (fun kk => vbin .eql 0 x141 (kS [58, 61]) h kk) h fun x142 h =>
  vguard x128 true (fun kk => vop O (.pick (.k x136) (.k (kB true)) (.k x142)) h 143 kk) h fun x143 h =>
  vop O (.pick (.k x128) (.k x143) (.k (kB false))) h 144 fun x144 h =>
  vif x144 (
  vbin .add 0 x1 (kI 2) h fun x148 h =>
  vop O (.slice 0 true (.k x0) (some (.k x1)) (some (.k x148)) none) h 149 fun x149 h =>
  vop O (.build [(.p (.int .i64 0)), (.p (.str [])), (.p (.int .i64 0)), (.p (.int .i64 0))] [(0, 1, (.k (kI 4))), (1, 1, (.k x149)), (3, 1, (.k x1))]) h 151 fun x151 h =>
  vbin .add 0 x1 (kI 2) h fun x153 h =>
  vstore 4 x4 x151 h fun _ h =>
  vcell true 4 x4 h fun c0 => tcomp x153 fun c1 => tcomp (kI 0) fun c2 => vfin true q [c0, c1, c2] h)
  (R 6 [x0, x1, x4, (kS [123, 125, 60, 62, 44, 58, 40, 41, 46, 36, 124, 61, 59]), (kI 0)] h)
theorem e81_5 (O : Oracle) (R : Jump) (q : Nat) (x0 x1 x4 : TVal) (h : Heap) : b81_5 O R q x0 x1 x4 h = stepF c81 O R q 5 [x0, x1, x4] h := by kernel_rfl
noncomputable def b81_6 (O : Oracle) (R : Jump) (q : Nat) (x0 x1 x4 x12 x13 : TVal) (h : Heap) : Res1 :=
  vlen O 0 x12 h 156 fun x156 h =>
  vbin .lss 0 x13 x156 h fun x157 h =>
  vif x157 (
  vindex x12 x13 h fun x162 h =>
  vindex x0 x1 h fun x165 h =>
  vbin .eql 0 x162 x165 h fun x166 h =>
  vif x166 (
  vbin .add 0 x1 (kI 1) h fun x170 h =>
  vop O (.slice 0 true (.k x0) (some (.k x1)) (some (.k x170)) none) h 171 fun x171 h =>
  vop O (.build [(.p (.int .i64 0)), (.p (.str [])), (.p (.int .i64 0)), (.p (.int .i64 0))] [(0, 1, (.k (kI 4))), (1, 1, (.k x171)), (3, 1, (.k x1))]) h 173 fun x173 h =>
  vbin .add 0 x1 (kI 1) h fun x175 h =>
  vstore 4 x4 x173 h fun _ h =>
  vcell true 4 x4 h fun c0 => tcomp x175 fun c1 => tcomp (kI 0) fun c2 => vfin true q [c0, c1, c2] h)
  (vbin .add 0 x13 (kI 1) h fun x159 h =>
  R 6 [x0, x1, x4, x12, x159] h))
  (R 7 [x4] h)
theorem e81_6 (O : Oracle) (R : Jump) (q : Nat) (x0 x1 x4 x12 x13 : TVal) (h : Heap) : b81_6 O R q x0 x1 x4 x12 x13 h = stepF c81 O R q 6 [x0, x1, x4, x12, x13] h := by kernel_rfl
noncomputable def b81_7 (O : Oracle) (R : Jump) (q : Nat) (x4 : TVal) (h : Heap) : Res1 :=
  vop O (.build [(.p (.int .i64 0)), (.p (.str [])), (.p (.int .i64 0)), (.p (.int .i64 0))] []) h 176 fun x176 h =>
  vstore 4 x4 x176 h fun _ h =>
  vcell true 4 x4 h fun c0 => tcomp (kI 0) fun c1 => tcomp (kI 11) fun c2 => vfin true q [c0, c1, c2] h
theorem e81_7 (O : Oracle) (R : Jump) (q : Nat) (x4 : TVal) (h : Heap) : b81_7 O R q x4 h = stepF c81 O R q 7 [x4] h := by kernel_rfl
noncomputable def d81 : BlkF := fun O R q => [.s fun y0 => .s fun y1 => .z fun h => b81_0 O R q y0 y1 h, .s fun y0 => .s fun y1 => .s fun y2 => .s fun y3 => .z fun h => b81_1 O R q y0 y1 y2 y3 h, .s fun y0 => .s fun y1 => .s fun y2 => .s fun y3 => .z fun h => b81_2 O R q y0 y1 y2 y3 h, .s fun y0 => .s fun y1 => .s fun y2 => .s fun y3 => .z fun h => b81_3 O R q y0 y1 y2 y3 h, .s fun y0 => .s fun y1 => .s fun y2 => .s fun y3 => .z fun h => b81_4 O R q y0 y1 y2 y3 h, .s fun y0 => .s fun y1 => .s fun y2 => .z fun h => b81_5 O R q y0 y1 y2 h, .s fun y0 => .s fun y1 => .s fun y2 => .s fun y3 => .s fun y4 => .z fun h => b81_6 O R q y0 y1 y2 y3 y4 h, .s fun y0 => .z fun h => b81_7 O R q y0 h]
theorem o81 (O : Oracle) (R : Jump) (q : Nat) : HoldsAll c81 O R q 0 (d81 O R q) := ⟨fun y0 y1 h => e81_0 O R q y0 y1 h, fun y0 y1 y2 y3 h => e81_1 O R q y0 y1 y2 y3 h, fun y0 y1 y2 y3 h => e81_2 O R q y0 y1 y2 y3 h, fun y0 y1 y2 y3 h => e81_3 O R q y0 y1 y2 y3 h, fun y0 y1 y2 y3 h => e81_4 O R q y0 y1 y2 y3 h, fun y0 y1 y2 h => e81_5 O R q y0 y1 y2 h, fun y0 y1 y2 y3 y4 h => e81_6 O R q y0 y1 y2 y3 y4 h, fun y0 h => e81_7 O R q y0 h, trivial⟩
/- (*sprue/sprueref3.reader).fail -/
def c82 : MFunc := { np := 2, res := [], frz := true, body := (.seq (.reg [⟨(some 4), (.mv (.t 0)), none⟩, ⟨(some 5), (.nilck (.t 4)), none⟩, ⟨(some 6), (.faddr 2 (.t 5)), none⟩, ⟨(some 7), (.load false 1 (.t 6)), none⟩, ⟨(some 8), (.bin .eql 0 (.t 7) (.k (.v (.c (.p (.int .i64 0)))))), none⟩] []) (.cond (.t 8) (.reg [⟨(some 9), (.mv (.t 0)), none⟩, ⟨(some 10), (.mv (.t 1)), none⟩, ⟨(some 11), (.nilck (.t 9)), none⟩, ⟨(some 12), (.faddr 2 (.t 11)), none⟩, ⟨none, (.store 1 (.t 12) (.t 10)), none⟩] []) .skip)) }
theorem t82 : compF Tryd.prog (globs2 tabs opq) false true Tryd.f82 = some c82.erase := by kernel_rfl
noncomputable def b82_0 (O : Oracle) (R : Jump) (q : Nat) (x0 x1 : TVal) (h : Heap) : Res1 :=
  vop O (.nilck (.k x0)) h 5 fun x5 h =>
  vfaddr 2 x5 h fun x6 h =>
  vload false 1 x6 h fun x7 h =>
  vbin .eql 0 x7 (kI 0) h fun x8 h =>
  vif x8 (
  vop O (.nilck (.k x0)) h 11 fun x11 h =>
  vfaddr 2 x11 h fun x12 h =>
  vstore 1 x12 x1 h fun _ h =>
  vfin true q [] h)
  (vfin true q [] h)
theorem e82_0 (O : Oracle) (R : Jump) (q : Nat) (x0 x1 : TVal) (h : Heap) : b82_0 O R q x0 x1 h = stepF c82 O R q 0 [x0, x1] h := by kernel_rfl
noncomputable def d82 : BlkF := fun O R q => [.s fun y0 => .s fun y1 => .z fun h => b82_0 O R q y0 y1 h]
theorem o82 (O : Oracle) (R : Jump) (q : Nat) : HoldsAll c82 O R q 0 (d82 O R q) := ⟨fun y0 y1 h => e82_0 O R q y0 y1 h, trivial⟩
/- (*sprue/sprueref3.reader).record -/
def c83 : MFunc := { np := 3, res := [.cell 6 true 4], frz := true, body := (.seq (.reg [⟨(some 6), (.alloc [(.p (.int .i64 0)), (.p (.str [])), (.p .nilslice), (.p .nilslice)] false), none⟩] []) (.seq (.reg [⟨(some 13), (.mv (.t 1)), none⟩, ⟨(some 14), (.build [(.p (.int .i64 0)), (.p (.str [])), (.p .nilslice), (.p .nilslice)] [(0, 1, (.t 13))]), none⟩, ⟨(some 7), (.alloc [(.p (.int .i64 0)), (.p (.str [])), (.p .nilslice), (.p .nilslice)] false), none⟩, ⟨none, (.store 4 (.t 7) (.t 14)), none⟩] []) (.seq (.reg [⟨(some 15), (.mv (.t 0)), none⟩, ⟨(some 16), (.call (.k (.v (.c (.func 44 [])))) [(.t 15), (.k (.v (.c (.p (.str [123])))))]), none⟩] []) (.seq (.block 0 (.loop 1 [0, 2, 6, 7] (.seq (.seq (.reg [⟨(some 17), (.mv (.t 0)), none⟩, ⟨(some 18), (.nilck (.t 17)), none⟩, ⟨(some 19), (.faddr 2 (.t 18)), none⟩, ⟨(some 20), (.load false 1 (.t 19)), none⟩, ⟨(some 21), (.bin .eql 0 (.t 20) (.k (.v (.c (.p (.int .i64 0)))))), none⟩, ⟨(some 22), (.mv (.t 21)), none⟩, ⟨(some 23), (.faddr 2 (.t 7)), (some (22, true))⟩, ⟨(some 24), (.load false 1 (.t 23)), (some (22, true))⟩, ⟨(some 25), (.len 2 (.t 24)), (some (22, true))⟩, ⟨(some 26), (.bin .eql 0 (.t 25) (.k (.v (.c (.p (.int .i64 0)))))), (some (22, true))⟩, ⟨(some 27), (.mv (.t 26)), (some (22, true))⟩, ⟨(some 28), (.mv (.t 0)), (some (27, true))⟩, ⟨(some 29), (.call (.k (.v (.c (.func 46 [])))) [(.t 28), (.k (.v (.c (.p (.str [125])))))]), (some (27, true))⟩, ⟨(some 30), (.pick (.t 27) (.t 29) (.k (.v (.c (.p (.bool false)))))), (some (22, true))⟩, ⟨(some 31), (.un .not (.t 30)), (some (22, true))⟩, ⟨(some 32), (.pick (.t 22) (.t 31) (.k (.v (.c (.p (.bool false)))))), none⟩] []) (.cond (.t 32) .skip (.exit 0))) (.block 1 (.seq (.reg [⟨(some 33), (.mv (.t 0)), none⟩, ⟨(some 34), (.call (.k (.v (.c (.func 48 [])))) [(.t 33)]), none⟩, ⟨(some 8), (.mv (.t 34)), none⟩] []) (.seq (.reg [⟨(some 35), (.mv (.t 0)), none⟩, ⟨(some 36), (.call (.k (.v (.c (.func 44 [])))) [(.t 35), (.k (.v (.c (.p (.str [58])))))]), none⟩] []) (.seq (.reg [⟨(some 37), (.mv (.t 0)), none⟩, ⟨(some 38), (.mv (.t 2)), none⟩, ⟨(some 39), (.bin .add 0 (.t 38) (.k (.v (.c (.p (.int .i64 1)))))), none⟩, ⟨(some 40), (.call (.k (.v (.c (.func 45 [])))) [(.t 37), (.t 39)]), none⟩, ⟨(some 9), (.alloc [(.p (.int .i64 0)), (.p (.str [])), (.p .nilslice), (.p .nilslice)] false), none⟩, ⟨none, (.store 4 (.t 9) (.t 40)), none⟩] []) (.seq (.reg [⟨(some 10), (.mv (.k (.v (.c (.p (.int .i64 0)))))), none⟩] []) (.seq (.block 2 (.loop 2 [0, 2, 6, 7, 8, 9, 10] (.seq (.seq (.reg [⟨(some 41), (.mv (.t 10)), none⟩, ⟨(some 42), (.faddr 2 (.t 7)), none⟩, ⟨(some 43), (.load false 1 (.t 42)), none⟩, ⟨(some 44), (.len 2 (.t 43)), none⟩, ⟨(some 45), (.bin .lss 0 (.t 41) (.t 44)), none⟩, ⟨(some 46), (.mv (.t 45)), none⟩, ⟨(some 47), (.faddr 2 (.t 7)), (some (46, true))⟩, ⟨(some 48), (.load false 1 (.t 47)), (some (46, true))⟩, ⟨(some 49), (.mv (.t 10)), (some (46, true))⟩, ⟨(some 50), (.iaddr 1 (.t 48) (.t 49)), (some (46, true))⟩, ⟨(some 51), (.load false 1 (.t 50)), (some (46, true))⟩, ⟨(some 52), (.mv (.t 8)), (some (46, true))⟩, ⟨(some 53), (.bin .lss 0 (.t 51) (.t 52)), (some (46, true))⟩, ⟨(some 54), (.pick (.t 46) (.t 53) (.k (.v (.c (.p (.bool false)))))), none⟩] []) (.cond (.t 54) .skip (.exit 2))) (.block 3 (.reg [⟨(some 55), (.mv (.t 10)), none⟩, ⟨(some 56), (.bin .add 0 (.t 55) (.k (.v (.c (.p (.int .i64 1)))))), none⟩, ⟨(some 10), (.mv (.t 56)), none⟩] []))))) (.mark 3 [0, 2, 6, 7, 8, 9, 10] (.seq (.reg [⟨(some 57), (.mv (.t 0)), none⟩, ⟨(some 58), (.mv (.t 0)), none⟩, ⟨(some 59), (.nilck (.t 58)), none⟩, ⟨(some 60), (.faddr 3 (.t 59)), none⟩, ⟨(some 61), (.load false 1 (.t 60)), none⟩, ⟨(some 62), (.mv (.t 61)), none⟩, ⟨(some 63), (.mv (.t 10)), (some (62, false))⟩, ⟨(some 64), (.faddr 2 (.t 7)), (some (62, false))⟩, ⟨(some 65), (.load false 1 (.t 64)), (some (62, false))⟩, ⟨(some 66), (.len 2 (.t 65)), (some (62, false))⟩, ⟨(some 67), (.bin .lss 0 (.t 63) (.t 66)), (some (62, false))⟩, ⟨(some 68), (.mv (.t 67)), (some (62, false))⟩, ⟨(some 69), (.faddr 2 (.t 7)), (some (68, true))⟩, ⟨(some 70), (.load false 1 (.t 69)), (some (68, true))⟩, ⟨(some 71), (.mv (.t 10)), (some (68, true))⟩, ⟨(some 72), (.iaddr 1 (.t 70) (.t 71)), (some (68, true))⟩, ⟨(some 73), (.load false 1 (.t 72)), (some (68, true))⟩, ⟨(some 74), (.mv (.t 8)), (some (68, true))⟩, ⟨(some 75), (.bin .eql 0 (.t 73) (.t 74)), (some (68, true))⟩, ⟨(some 76), (.pick (.t 68) (.t 75) (.k (.v (.c (.p (.bool false)))))), (some (62, false))⟩, ⟨(some 77), (.pick (.t 62) (.k (.v (.c (.p (.bool true))))) (.t 76)), none⟩, ⟨(some 78), (.nilck (.t 57)), none⟩, ⟨(some 79), (.faddr 3 (.t 78)), none⟩, ⟨none, (.store 1 (.t 79) (.t 77)), none⟩] []) (.seq (.reg [⟨(some 80), (.bslice 1 0 [(.p (.str []))] [] false), none⟩, ⟨(some 81), (.faddr 2 (.t 7)), none⟩, ⟨(some 82), (.load false 1 (.t 81)), none⟩, ⟨(some 83), (.mv (.t 10)), none⟩, ⟨(some 84), (.slice 1 false (.t 82) none (some (.t 83)) none), none⟩, ⟨(some 85), (.append 1 16 false (.t 80) (.t 84)), none⟩, ⟨(some 11), (.mv (.t 85)), none⟩] []) (.seq (.reg [⟨(some 86), (.bslice 4 0 [(.p (.int .i64 0)), (.p (.str [])), (.p .nilslice), (.p .nilslice)] [] false), none⟩, ⟨(some 87), (.faddr 3 (.t 7)), none⟩, ⟨(some 88), (.load false 1 (.t 87)), none⟩, ⟨(some 89), (.mv (.t 10)), none⟩, ⟨(some 90), (.slice 4 false (.t 88) none (some (.t 89)) none), none⟩, ⟨(some 91), (.append 4 72 false (.t 86) (.t 90)), none⟩, ⟨(some 12), (.mv (.t 91)), none⟩] []) (.seq (.reg [⟨(some 92), (.mv (.t 11)), none⟩, ⟨(some 93), (.mv (.t 8)), none⟩, ⟨(some 94), (.bslice 1 1 [(.p (.str []))] [(0, (.t 93))] false), none⟩, ⟨(some 95), (.append 1 16 false (.t 92) (.t 94)), none⟩, ⟨(some 96), (.faddr 2 (.t 7)), none⟩, ⟨(some 97), (.load false 1 (.t 96)), none⟩, ⟨(some 98), (.mv (.t 10)), none⟩, ⟨(some 99), (.slice 1 false (.t 97) (some (.t 98)) none none), none⟩, ⟨(some 100), (.append 1 16 false (.t 95) (.t 99)), none⟩, ⟨(some 101), (.mv (.t 12)), none⟩, ⟨(some 102), (.load true 4 (.t 9)), none⟩, ⟨(some 103), (.bslice 4 1 [(.p (.int .i64 0)), (.p (.str [])), (.p .nilslice), (.p .nilslice)] [(0, (.t 102))] false), none⟩, ⟨(some 104), (.append 4 72 false (.t 101) (.t 103)), none⟩, ⟨(some 105), (.faddr 3 (.t 7)), none⟩, ⟨(some 106), (.load false 1 (.t 105)), none⟩, ⟨(some 107), (.mv (.t 10)), none⟩, ⟨(some 108), (.slice 4 false (.t 106) (some (.t 107)) none none), none⟩, ⟨(some 109), (.append 4 72 false (.t 104) (.t 108)), none⟩, ⟨(some 110), (.faddr 2 (.t 7)), none⟩, ⟨none, (.store 1 (.t 110) (.t 100)), none⟩, ⟨(some 111), (.faddr 3 (.t 7)), none⟩, ⟨none, (.store 1 (.t 111) (.t 109)), none⟩] [(2, 5), (3, 5), (2, 10), (3, 10), (8, 10), (2, 11), (3, 11), (5, 11), (8, 11), (2, 14), (3, 14), (8, 14), (11, 14), (12, 14)]) (.seq (.seq (.reg [⟨(some 112), (.mv (.t 0)), none⟩, ⟨(some 113), (.call (.k (.v (.c (.func 46 [])))) [(.t 112), (.k (.v (.c (.p (.str [44])))))]), none⟩, ⟨(some 114), (.un .not (.t 113)), none⟩] []) (.cond (.t 114) (.exit 0) .skip)) (.reg [⟨(some 115), (.mv (.t 0)), none⟩, ⟨(some 116), (.call (.k (.v (.c (.func 44 [])))) [(.t 115), (.k (.v (.c (.p (.str [44])))))]), none⟩] [])))))))))))))))) (.mark 4 [0, 6, 7] (.seq (.reg [⟨(some 117), (.mv (.t 0)), none⟩, ⟨(some 118), (.call (.k (.v (.c (.func 44 [])))) [(.t 117), (.k (.v (.c (.p (.str [125])))))]), none⟩] []) (.seq (.reg [⟨(some 119), (.load true 4 (.t 7)), none⟩, ⟨none, (.store 4 (.t 6) (.t 119)), none⟩] []) .ret))))))) }
theorem t83 : compF Tryd.prog (globs2 tabs opq) false true Tryd.f83 = some c83.erase := by kernel_rfl
noncomputable def b83_0 (O : Oracle) (R : Jump) (q : Nat) (x0 x1 x2 : TVal) (h : Heap) : Res1 :=
  vop O (.alloc [(.p (.int .i64 0)), (.p (.str [])), (.p .nilslice), (.p .nilslice)] false) h 6 fun x6 h =>
  vop O (.build [(.p (.int .i64 0)), (.p (.str [])), (.p .nilslice), (.p .nilslice)] [(0, 1, (.k x1))]) h 14 fun x14 h =>
  vop O (.alloc [(.p (.int .i64 0)), (.p (.str [])), (.p .nilslice), (.p .nilslice)] false) h 7 fun x7 h =>
  vstore 4 x7 x14 h fun _ h =>
  vcall O (.v (.c (.func 44 []))) [x0, (kS [123])] h 16 fun x16 h =>
  R 1 [x0, x2, x6, x7] h
theorem e83_0 (O : Oracle) (R : Jump) (q : Nat) (x0 x1 x2 : TVal) (h : Heap) : b83_0 O R q x0 x1 x2 h = stepF c83 O R q 0 [x0, x1, x2] h := by kernel_rfl
noncomputable def b83_1 (O : Oracle) (R : Jump) (q : Nat) (x0 x2 x6 x7 : TVal) (h : Heap) : Res1 :=
  vop O (.nilck (.k x0)) h 18 fun x18 h =>
  vfaddr 2 x18 h fun x19 h =>
  vload false 1 x19 h fun x20 h =>
  vbin .eql 0 x20 (kI 0) h fun x21 h =>
  vguard x21 true (fun kk => vfaddr 2 x7 h kk) h fun x23 h =>
  vguard x21 true (fun kk => vload false 1 x23 h kk) h fun x24 h =>
  vguard x21 true (fun kk => vlen O 2 x24 h 25 kk) h fun x25 h =>
  vguard x21 true (fun kk => vbin .eql 0 x25 (kI 0) h kk) h fun x26 h =>
  vguard x21 true (fun kk => kk x26 h) h fun x27 h =>
  vguard x27 true (fun kk => kk x0 h) h fun x28 h =>
  vguard x27 true (fun kk => vcall O (.v (.c (.func 46 []))) [x28, (kS [125])] h 29 kk) h fun x29 h =>
  vguard x21 true (fun kk => vop O (.pick (.k x27) (.k x29) (.k (kB false))) h 30 kk) h fun x30 h =>
  vguard x21 true (fun kk => vop O (.un .not (.k x30)) h 31 kk) h fun x31 h =>
  vop O (.pick (.k x21) (.k x31) (.k (kB false))) h 32 fun x32 h =>
  vif x32 (
  vcall O (.v (.c (.func 48 []))) [x0] h 34 fun x34 h =>
  vcall O (.v (.c (.func 44 []))) [x0, (kS [58])] h 36 fun x36 h =>
  vbin .add 0 x2 (kI 1) h fun x39 h =>
  vcall O (.v (.c (.func 45 []))) [x0, x39] h 40 fun x40 h =>
  vop O (.alloc [(.p (.int .i64 0)), (.p (.str [])), (.p .nilslice), (.p .nilslice)] false) h 9 fun x9 h =>
  vstore 4 x9 x40 h fun _ h =>
  R 2 [x0, x2, x6, x7, x34, x9, (kI 0)] h)
  (R 4 [x0, x6, x7] h)
theorem e83_1 (O : Oracle) (R : Jump) (q : Nat) (x0 x2 x6 x7 : TVal) (h : Heap) : b83_1 O R q x0 x2 x6 x7 h = stepF c83 O R q 1 [x0, x2, x6, x7] h := by kernel_rfl
noncomputable def b83_2 (O : Oracle) (R : Jump) (q : Nat) (x0 x2 x6 x7 x8 x9 x10 : TVal) (h : Heap) : Res1 :=
  vfaddr 2 x7 h fun x42 h =>
  vload false 1 x42 h fun x43 h =>
  vlen O 2 x43 h 44 fun x44 h =>
  vbin .lss 0 x10 x44 h fun x45 h =>
  vguard x45 true (fun kk => vfaddr 2 x7 h kk) h fun x47 h =>
  vguard x45 true (fun kk => vload false 1 x47 h kk) h fun x48 h =>
  vguard x45 true (fun kk => kk x10 h) h fun x49 h =>
  vguard x45 true (fun kk => viaddr 1 x48 x49 h kk) h fun x50 h =>
  vguard x45 true (fun kk => vload false 1 x50 h kk) h fun x51 h =>
  vguard x45 true (fun kk => kk x8 h) h fun x52 h =>
  vguard x45 true (fun kk => vbin .lss 0 x51 x52 h kk) h fun x53 h =>
  vop O (.pick (.k x45) (.k x53) (.k (kB false))) h 54 fun x54 h =>
  vif x54 (
  vbin .add 0 x10 (kI 1) h fun x56 h =>
  R 2 [x0, x2, x6, x7, x8, x9, x56] h)
  (R 3 [x0, x2, x6, x7, x8, x9, x10] h)
theorem e83_2 (O : Oracle) (R : Jump) (q : Nat) (x0 x2 x6 x7 x8 x9 x10 : TVal) (h : Heap) : b83_2 O R q x0 x2 x6 x7 x8 x9 x10 h = stepF c83 O R q 2 [x0, x2, x6, x7, x8, x9, x10] h := by kernel_rfl
noncomputable def b83_3 (O : Oracle) (R : Jump) (q : Nat) (x0 x2 x6 x7 x8 x9 x10 : TVal) (h : Heap) : Res1 :=
  vop O (.nilck (.k x0)) h 59 fun x59 h =>
  vfaddr 3 x59 h fun x60 h =>
  vload false 1 x60 h fun x61 h =>
  vguard x61 false (fun kk => kk x10 h) h fun x63 h =>
  vguard x61 false (fun kk => vfaddr 2 x7 h kk) h fun x64 h =>
  vguard x61 false (fun kk => vload false 1 x64 h kk) h fun x65 h =>
  vguard x61 false (fun kk => vlen O 2 x65 h 66 kk) h fun x66 h =>
  vguard x61 false (fun kk => vbin .lss 0 x63 x66 h kk) h fun x67 h =>
  vguard x61 false (fun kk => kk x67 h) h fun x68 h =>
  vguard x68 true (fun kk => vfaddr 2 x7 h kk) h fun x69 h =>
  vguard x68 true (fun kk => vload false 1 x69 h kk) h fun x70 h =>
  vguard x68 true (fun kk => kk x10 h) h fun x71 h =>
  vguard x68 true (fun kk => viaddr 1 x70 x71 h kk) h fun x72 h =>
  vguard x68 true (fun kk => vload false 1 x72 h kk) h fun x73 h =>
  vguard x68 true (fun kk => kk x8 h) h fun x74 h =>
  vguard x68 true (fun kk => vbin .eql 0 x73 x74 h kk) h fun x75 h =>
  vguard x61 false (fun kk => vop O (.pick (.k x68) (.k x75) (.k (kB false))) h 76 kk) h fun x76 h =>
  vop O (.pick (.k x61) (.k (kB true)) (.k x76)) h 77 fun x77 h =>
  vop O (.nilck (.k x0)) h 78 fun x78 h =>
  vfaddr 3 x78 h fun x79 h =>
  vstore 1 x79 x77 h fun _ h =>
  vop O (.bslice 1 0 [(.p (.str []))] [] false) h 80 fun x80 h =>
  vfaddr 2 x7 h fun x81 h =>
  vload false 1 x81 h fun x82 h =>
  vop O (.slice 1 false (.k x82) none (some (.k x10)) none) h 84 fun x84 h =>
  vop O (.append 1 16 false (.k x80) (.k x84)) h 85 fun x85 h =>
  vop O (.bslice 4 0 [(.p (.int .i64 0)), (.p (.str [])), (.p .nilslice), (.p .nilslice)] [] false) h 86 fun x86 h =>
  vfaddr 3 x7 h fun x87 h =>
  vload false 1 x87 h fun x88 h =>
  vop O (.slice 4 false (.k x88) none (some (.k x10)) none) h 90 fun x90 h =>
  vop O (.append 4 72 false (.k x86) (.k x90)) h 91 fun x91 h =>
  vtouch O (.mv (.k x85)) h 92 fun x92 h t0 =>
  vtouch O (.mv (.k x8)) h 93 fun x93 h t1 =>
  vtouch O (.bslice 1 1 [(.p (.str []))] [(0, (.k x93))] false) h 94 fun x94 h t2 =>
  vtouch O (.append 1 16 false (.k x92) (.k x94)) h 95 fun x95 h t3 =>
  vtouch O (.faddr 2 (.k x7)) h 96 fun x96 h t4 =>
  vtouch O (.load false 1 (.k x96)) h 97 fun x97 h t5 =>
  vtouch O (.mv (.k x10)) h 98 fun x98 h t6 =>
  vtouch O (.slice 1 false (.k x97) (some (.k x98)) none none) h 99 fun x99 h t7 =>
  vtouch O (.append 1 16 false (.k x95) (.k x99)) h 100 fun x100 h t8 =>
  vtouch O (.mv (.k x91)) h 101 fun x101 h t9 =>
  vtouch O (.load true 4 (.k x9)) h 102 fun x102 h t10 =>
  vtouch O (.bslice 4 1 [(.p (.int .i64 0)), (.p (.str [])), (.p .nilslice), (.p .nilslice)] [(0, (.k x102))] false) h 103 fun x103 h t11 =>
  vtouch O (.append 4 72 false (.k x101) (.k x103)) h 104 fun x104 h t12 =>
  vtouch O (.faddr 3 (.k x7)) h 105 fun x105 h t13 =>
  vtouch O (.load false 1 (.k x105)) h 106 fun x106 h t14 =>
  vtouch O (.mv (.k x10)) h 107 fun x107 h t15 =>
  vtouch O (.slice 4 false (.k x106) (some (.k x107)) none none) h 108 fun x108 h t16 =>
  vtouch O (.append 4 72 false (.k x104) (.k x108)) h 109 fun x109 h t17 =>
  vtouch O (.faddr 2 (.k x7)) h 110 fun x110 h t18 =>
  vtouch O (.store 1 (.k x110) (.k x100)) h 1000000 fun _ h t19 =>
  vtouch O (.faddr 3 (.k x7)) h 111 fun x111 h t20 =>
  vtouch O (.store 1 (.k x111) (.k x109)) h 1000000 fun _ h t21 =>
  bif apartAll [t0, t1, t2, t3, t4, t5, t6, t7, t8, t9, t10, t11, t12, t13, t14, t15, t16, t17, t18, t19, t20, t21] [(2, 5), (3, 5), (2, 10), (3, 10), (8, 10), (2, 11), (3, 11), (5, 11), (8, 11), (2, 14), (3, 14), (8, 14), (11, 14), (12, 14)] then
  vcall O (.v (.c (.func 46 []))) [x0, (kS [44])] h 113 fun x113 h =>
  vop O (.un .not (.k x113)) h 114 fun x114 h =>
  vif x114 (
  R 4 [x0, x6, x7] h)
  (vcall O (.v (.c (.func 44 []))) [x0, (kS [44])] h 116 fun x116 h =>
  R 1 [x0, x2, x6, x7] h)
  else none
theorem e83_3 (O : Oracle) (R : Jump) (q : Nat) (x0 x2 x6 x7 x8 x9 x10 : TVal) (h : Heap) : b83_3 O R q x0 x2 x6 x7 x8 x9 x10 h = stepF c83 O R q 3 [x0, x2, x6, x7, x8, x9, x10] h := by kernel_rfl
noncomputable def b83_4 (O : Oracle) (R : Jump) (q : Nat) (x0 x6 x7 : TVal) (h : Heap) : Res1 :=
  vcall O (.v (.c (.func 44 []))) [x0, (kS [125])] h 118 fun x118 h =>
  vload true 4 x7 h fun x119 h =>
  vstore 4 x6 x119 h fun _ h =>
  vcell true 4 x6 h fun c0 => vfin true q [c0] h
theorem e83_4 (O : Oracle) (R : Jump) (q : Nat) (x0 x6 x7 : TVal) (h : Heap) : b83_4 O R q x0 x6 x7 h = stepF c83 O R q 4 [x0, x6, x7] h := by kernel_rfl
noncomputable def d83 : BlkF := fun O R q => [.s fun y0 => .s fun y1 => .s fun y2 => .z fun h => b83_0 O R q y0 y1 y2 h, .s fun y0 => .s fun y1 => .s fun y2 => .s fun y3 => .z fun h => b83_1 O R q y0 y1 y2 y3 h, .s fun y0 => .s fun y1 => .s fun y2 => .s fun y3 => .s fun y4 => .s fun y5 => .s fun y6 => .z fun h => b83_2 O R q y0 y1 y2 y3 y4 y5 y6 h, .s fun y0 => .s fun y1 => .s fun y2 => .s fun y3 => .s fun y4 => .s fun y5 => .s fun y6 => .z fun h => b83_3 O R q y0 y1 y2 y3 y4 y5 y6 h, .s fun y0 => .s fun y1 => .s fun y2 => .z fun h => b83_4 O R q y0 y1 y2 h]
theorem o83 (O : Oracle) (R : Jump) (q : Nat) : HoldsAll c83 O R q 0 (d83 O R q) := ⟨fun y0 y1 y2 h => e83_0 O R q y0 y1 y2 h, fun y0 y1 y2 y3 h => e83_1 O R q y0 y1 y2 y3 h, fun y0 y1 y2 y3 y4 y5 y6 h => e83_2 O R q y0 y1 y2 y3 y4 y5 y6 h, fun y0 y1 y2 y3 y4 y5 y6 h => e83_3 O R q y0 y1 y2 y3 y4 y5 y6 h, fun y0 y1 y2 h => e83_4 O R q y0 y1 y2 h, trivial⟩
/- (*sprue/sprueref3.reader).of -/
def c84 : MFunc := { np := 3, res := [.cell 6 true 4], frz := true, body := (.seq (.reg [⟨(some 6), (.alloc [(.p (.int .i64 0)), (.p (.str [])), (.p .nilslice), (.p .nilslice)] false), none⟩] []) (.seq (.reg [⟨(some 8), (.mv (.t 0)), none⟩, ⟨(some 9), (.call (.k (.v (.c (.func 44 [])))) [(.t 8), (.k (.v (.c (.p (.str [60])))))]), none⟩] []) (.seq (.reg [⟨(some 10), (.mv (.t 0)), none⟩, ⟨(some 11), (.mv (.t 2)), none⟩, ⟨(some 12), (.bin .add 0 (.t 11) (.k (.v (.c (.p (.int .i64 1)))))), none⟩, ⟨(some 13), (.call (.k (.v (.c (.func 45 [])))) [(.t 10), (.t 12)]), none⟩, ⟨(some 7), (.alloc [(.p (.int .i64 0)), (.p (.str [])), (.p .nilslice), (.p .nilslice)] false), none⟩, ⟨none, (.store 4 (.t 7) (.t 13)), none⟩] []) (.seq (.reg [⟨(some 14), (.mv (.t 0)), none⟩, ⟨(some 15), (.call (.k (.v (.c (.func 44 [])))) [(.t 14), (.k (.v (.c (.p (.str [62])))))]), none⟩] []) (.seq (.reg [⟨(some 16), (.mv (.t 1)), none⟩, ⟨(some 17), (.load true 4 (.t 7)), none⟩, ⟨(some 18), (.bslice 4 1 [(.p (.int .i64 0)), (.p (.str [])), (.p .nilslice), (.p .nilslice)] [(0, (.t 17))] false), none⟩, ⟨(some 19), (.build [(.p (.int .i64 0)), (.p (.str [])), (.p .nilslice), (.p .nilslice)] [(0, 1, (.t 16)), (3, 1, (.t 18))]), none⟩, ⟨none, (.store 4 (.t 6) (.t 19)), none⟩] []) .ret))))) }
theorem t84 : compF Tryd.prog (globs2 tabs opq) false true Tryd.f84 = some c84.erase := by kernel_rfl
noncomputable def b84_0 (O : Oracle) (R : Jump) (q : Nat) (x0 x1 x2 : TVal) (h : Heap) : Res1 :=
  vop O (.alloc [(.p (.int .i64 0)), (.p (.str [])), (.p .nilslice), (.p .nilslice)] false) h 6 fun x6 h =>
  vcall O (.v (.c (.func 44 []))) [x0, (kS [60])] h 9 fun x9 h =>
  vbin .add 0 x2 (kI 1) h fun x12 h =>
  vcall O (.v (.c (.func 45 []))) [x0, x12] h 13 fun x13 h =>
  vop O (.alloc [(.p (.int .i64 0)), (.p (.str [])), (.p .nilslice), (.p .nilslice)] false) h 7 fun x7 h =>
  vstore 4 x7 x13 h fun _ h =>
  vcall O (.v (.c (.func 44 []))) [x0, (kS [62])] h 15 fun x15 h =>
  vload true 4 x7 h fun x17 h =>
  vop O (.bslice 4 1 [(.p (.int .i64 0)), (.p (.str [])), (.p .nilslice), (.p .nilslice)] [(0, (.k x17))] false) h 18 fun x18 h =>
  vop O (.build [(.p (.int .i64 0)), (.p (.str [])), (.p .nilslice), (.p .nilslice)] [(0, 1, (.k x1)), (3, 1, (.k x18))]) h 19 fun x19 h =>
  vstore 4 x6 x19 h fun _ h =>
  vcell true 4 x6 h fun c0 => vfin true q [c0] h
theorem e84_0 (O : Oracle) (R : Jump) (q : Nat) (x0 x1 x2 : TVal) (h : Heap) : b84_0 O R q x0 x1 x2 h = stepF c84 O R q 0 [x0, x1, x2] h := by kernel_rfl
noncomputable def d84 : BlkF := fun O R q => [.s fun y0 => .s fun y1 => .s fun y2 => .z fun h => b84_0 O R q y0 y1 y2 h]
theorem o84 (O : Oracle) (R : Jump) (q : Nat) : HoldsAll c84 O R q 0 (d84 O R q) := ⟨fun y0 y1 y2 h => e84_0 O R q y0 y1 y2 h, trivial⟩
/- (*sprue/sprueref13.reader).word -/
def c85 : MFunc := { np := 1, res := [.cell 2 true 6, .t 3], frz := true, body := (.seq (.reg [⟨(some 2), (.alloc [(.p (.int .i64 0)), (.p (.bool false)), (.p (.int .i64 0)), (.p (.str [])), (.p .nilslice), (.p .nilslice)] false), none⟩, ⟨(some 3), (.mv (.k (.v (.c (.p (.bool false)))))), none⟩] []) (.seq (.reg [⟨(some 7), (.bslice 1 3 [(.p (.str []))] [(0, (.k (.v (.c (.p (.str [110, 117, 108, 108])))))), (1, (.k (.v (.c (.p (.str [102, 97, 108, 115, 101])))))), (2, (.k (.v (.c (.p (.str [116, 114, 117, 101]))))))] false), none⟩, ⟨(some 4), (.mv (.t 7)), none⟩] []) (.seq (.seq (.reg [⟨(some 5), (.mv (.k (.v (.c (.p (.int .i64 0)))))), none⟩] []) (.block 0 (.loop 1 [0, 2, 4, 5] (.seq (.seq (.reg [⟨(some 8), (.mv (.t 5)), none⟩, ⟨(some 9), (.bin .lss 0 (.t 8) (.k (.v (.c (.p (.int .i64 3)))))), none⟩] []) (.cond (.t 9) .skip (.exit 0))) (.seq (.block 1 (.seq (.reg [⟨(some 12), (.mv (.t 4)), none⟩, ⟨(some 13), (.mv (.t 5)), none⟩, ⟨(some 14), (.iaddr 1 (.t 12) (.t 13)), none⟩, ⟨(some 15), (.load false 1 (.t 14)), none⟩, ⟨(some 6), (.mv (.t 15)), none⟩] []) (.seq (.reg [⟨(some 16), (.mv (.t 0)), none⟩, ⟨(some 17), (.nilck (.t 16)), none⟩, ⟨(some 18), (.faddr 1 (.t 17)), none⟩, ⟨(some 19), (.load false 1 (.t 18)), none⟩, ⟨(some 20), (.mv (.t 6)), none⟩, ⟨(some 21), (.len 0 (.t 20)), none⟩, ⟨(some 22), (.bin .add 0 (.t 19) (.t 21)), none⟩, ⟨(some 23), (.mv (.t 0)), none⟩, ⟨(some 24), (.nilck (.t 23)), none⟩, ⟨(some 25), (.faddr 0 (.t 24)), none⟩, ⟨(some 26), (.load false 1 (.t 25)), none⟩, ⟨(some 27), (.len 0 (.t 26)), none⟩, ⟨(some 28), (.bin .leq 0 (.t 22) (.t 27)), none⟩, ⟨(some 29), (.mv (.t 28)), none⟩, ⟨(some 30), (.mv (.t 0)), (some (29, true))⟩, ⟨(some 31), (.nilck (.t 30)), (some (29, true))⟩, ⟨(some 32), (.faddr 0 (.t 31)), (some (29, true))⟩, ⟨(some 33), (.load false 1 (.t 32)), (some (29, true))⟩, ⟨(some 34), (.mv (.t 0)), (some (29, true))⟩, ⟨(some 35), (.nilck (.t 34)), (some (29, true))⟩, ⟨(some 36), (.faddr 1 (.t 35)), (some (29, true))⟩, ⟨(some 37), (.load false 1 (.t 36)), (some (29, true))⟩, ⟨(some 38), (.mv (.t 0)), (some (29, true))⟩, ⟨(some 39), (.nilck (.t 38)), (some (29, true))⟩, ⟨(some 40), (.faddr 1 (.t 39)), (some (29, true))⟩, ⟨(some 41), (.load false 1 (.t 40)), (some (29, true))⟩, ⟨(some 42), (.mv (.t 6)), (some (29, true))⟩, ⟨(some 43), (.len 0 (.t 42)), (some (29, true))⟩, ⟨(some 44), (.bin .add 0 (.t 41) (.t 43)), (some (29, true))⟩, ⟨(some 45), (.slice 0 true (.t 33) (some (.t 37)) (some (.t 44)) none), (some (29, true))⟩, ⟨(some 46), (.mv (.t 6)), (some (29, true))⟩, ⟨(some 47), (.bin .eql 0 (.t 45) (.t 46)), (some (29, true))⟩, ⟨(some 48), (.pick (.t 29) (.t 47) (.k (.v (.c (.p (.bool false)))))), none⟩] []) (.cond (.t 48) (.seq (.reg [⟨(some 49), (.mv (.t 0)), none⟩, ⟨(some 50), (.mv (.t 0)), none⟩, ⟨(some 51), (.nilck (.t 50)), none⟩, ⟨(some 52), (.faddr 1 (.t 51)), none⟩, ⟨(some 53), (.load false 1 (.t 52)), none⟩, ⟨(some 54), (.mv (.t 6)), none⟩, ⟨(some 55), (.len 0 (.t 54)), none⟩, ⟨(some 56), (.bin .add 0 (.t 53) (.t 55)), none⟩, ⟨(some 57), (.nilck (.t 49)), none⟩, ⟨(some 58), (.faddr 1 (.t 57)), none⟩, ⟨none, (.store 1 (.t 58) (.t 56)), none⟩] []) (.seq (.seq (.reg [⟨(some 59), (.mv (.t 5)), none⟩, ⟨(some 60), (.bin .eql 0 (.t 59) (.k (.v (.c (.p (.int .i64 0)))))), none⟩] []) (.cond (.t 60) (.seq (.reg [⟨(some 61), (.build [(.p (.int .i64 0)), (.p (.bool false)), (.p (.int .i64 0)), (.p (.str [])), (.p .nilslice), (.p .nilslice)] []), none⟩, ⟨none, (.store 6 (.t 2) (.t 61)), none⟩, ⟨(some 3), (.mv (.k (.v (.c (.p (.bool true)))))), none⟩] []) .ret) .skip)) (.seq (.reg [⟨(some 62), (.mv (.t 5)), none⟩, ⟨(some 63), (.bin .eql 0 (.t 62) (.k (.v (.c (.p (.int .i64 2)))))), none⟩, ⟨(some 64), (.build [(.p (.int .i64 0)), (.p (.bool false)), (.p (.int .i64 0)), (.p (.str [])), (.p .nilslice), (.p .nilslice)] [(0, 1, (.k (.v (.c (.p (.int .i64 1)))))), (1, 1, (.t 63))]), none⟩, ⟨none, (.store 6 (.t 2) (.t 64)), none⟩, ⟨(some 3), (.mv (.k (.v (.c (.p (.bool true)))))), none⟩] []) .ret))) .skip)))) (.reg [⟨(some 10), (.mv (.t 5)), none⟩, ⟨(some 11), (.bin .add 0 (.t 10) (.k (.v (.c (.p (.int .i64 1)))))), none⟩, ⟨(some 5), (.mv (.t 11)), none⟩] [])))))) (.mark 2 [2] (.seq (.reg [⟨(some 65), (.build [(.p (.int .i64 0)), (.p (.bool false)), (.p (.int .i64 0)), (.p (.str [])), (.p .nilslice), (.p .nilslice)] []), none⟩, ⟨none, (.store 6 (.t 2) (.t 65)), none⟩, ⟨(some 3), (.mv (.k (.v (.c (.p (.bool false)))))), none⟩] []) .ret))))) }
theorem t85 : compF Tryd.prog (globs2 tabs opq) false true Tryd.f85 = some c85.erase := by kernel_rfl
noncomputable def b85_0 (O : Oracle) (R : Jump) (q : Nat) (x0 : TVal) (h : Heap) : Res1 :=
  vop O (.alloc [(.p (.int .i64 0)), (.p (.bool false)), (.p (.int .i64 0)), (.p (.str [])), (.p .nilslice), (.p .nilslice)] false) h 2 fun x2 h =>
  vop O (.bslice 1 3 [(.p (.str []))] [(0, (.k (kS [110, 117, 108, 108]))), (1, (.k (kS [102, 97, 108, 115, 101]))), (2, (.k (kS [116, 114, 117, 101])))] false) h 7 fun x7 h =>
  R 1 [x0, x2, x7, (kI 0)] h
theorem e85_0 (O : Oracle) (R : Jump) (q : Nat) (x0 : TVal) (h : Heap) : b85_0 O R q x0 h = stepF c85 O R q 0 [x0] h := by kernel_rfl
noncomputable def b85_1 (O : Oracle) (R : Jump) (q : Nat) (x0 x2 x4 x5 : TVal) (h : Heap) : Res1 :=
  vbin .lss 0 x5 (kI 3) h fun x9 h =>
  vif x9 (
  viaddr 1 x4 x5 h fun x14 h =>
  vload false 1 x14 h fun x15 h =>
  vop O (.nilck (.k x0)) h 17 fun x17 h =>
  vfaddr 1 x17 h fun x18 h =>
  vload false 1 x18 h fun x19 h =>
  vlen O 0 x15 h 21 fun x21 h =>
  vbin .add 0 x19 x21 h fun x22 h =>
  vop O (.nilck (.k x0)) h 24 fun x24 h =>
  vfaddr 0 x24 h fun x25 h =>
  vload false 1 x25 h fun x26 h =>
  vlen O 0 x26 h 27 fun x27 h =>
  vbin .leq 0 x22 x27 h fun x28 h =>
  vguard x28 true (fun kk => kk x0 h) h fun x30 h =>
  vguard x28 true (fun kk => vop O (.nilck (.k x30)) h 31 kk) h fun x31 h =>
  vguard x28 true (fun kk => vfaddr 0 x31 h kk) h fun x32 h =>
  vguard x28 true (fun kk => vload false 1 x32 h kk) h fun x33 h =>
  vguard x28 true (fun kk => kk x0 h) h fun x34 h =>
  vguard x28 true (fun kk => vop O (.nilck (.k x34)) h 35 kk) h fun x35 h =>
  vguard x28 true (fun kk => vfaddr 1 x35 h kk) h fun x36 h =>
  vguard x28 true (fun kk => vload false 1 x36 h kk) h fun x37 h =>
  vguard x28 true (fun kk => kk x0 h) h fun x38 h =>
  vguard x28 true (fun kk => vop O (.nilck (.k x38)) h 39 kk) h fun x39 h =>
  vguard x28 true (fun kk => vfaddr 1 x39 h kk) h fun x40 h =>
  vguard x28 true (fun kk => vload false 1 x40 h kk) h fun x41 h =>
  vguard x28 true (fun kk => kk x15 h) h fun x42 h =>
  vguard x28 true (fun kk => vlen O 0 x42 h 43 kk) h fun x43 h =>
  vguard x28 true (fun kk => vbin .add 0 x41 x43 h kk) h fun x44 h =>
  vguard x28 true (fun kk => vop O (.slice 0 true (.k x33) (some (.k x37)) (some (.k x44)) none) h 45 kk) h fun x45 h =>
  vguard x28 true (fun kk => kk x15 h) h fun x46 h =>
  vguard x28 true (fun kk => vbin .eql 0 x45 x46 h kk) h fun x47 h =>
  vop O (.pick (.k x28) (.k x47) (.k (kB false))) h 48 fun x48 h =>
  vif x48 (
  vop O (.nilck (.k x0)) h 51 fun x51 h =>
  vfaddr 1 x51 h fun x52 h =>
  vload false 1 x52 h fun x53 h =>
  vlen O 0 x15 h 55 fun x55 h =>
  vbin .add 0 x53 x55 h fun x56 h =>
  vop O (.nilck (.k x0)) h 57 fun x57 h =>
  vfaddr 1 x57 h fun x58 h =>
  vstore 1 x58 x56 h fun _ h =>
  vbin .eql 0 x5 (kI 0) h fun x60 h =>
  vif x60 (
  vop O (.build [(.p (.int .i64 0)), (.p (.bool false)), (.p (.int .i64 0)), (.p (.str [])), (.p .nilslice), (.p .nilslice)] []) h 61 fun x61 h =>
  vstore 6 x2 x61 h fun _ h =>
  vcell true 6 x2 h fun c0 => tcomp (kB true) fun c1 => vfin true q [c0, c1] h)
  (vbin .eql 0 x5 (kI 2) h fun x63 h =>
  vop O (.build [(.p (.int .i64 0)), (.p (.bool false)), (.p (.int .i64 0)), (.p (.str [])), (.p .nilslice), (.p .nilslice)] [(0, 1, (.k (kI 1))), (1, 1, (.k x63))]) h 64 fun x64 h =>
  vstore 6 x2 x64 h fun _ h =>
  vcell true 6 x2 h fun c0 => tcomp (kB true) fun c1 => vfin true q [c0, c1] h))
  (vbin .add 0 x5 (kI 1) h fun x11 h =>
  R 1 [x0, x2, x4, x11] h))
  (R 2 [x2] h)
theorem e85_1 (O : Oracle) (R : Jump) (q : Nat) (x0 x2 x4 x5 : TVal) (h : Heap) : b85_1 O R q x0 x2 x4 x5 h = stepF c85 O R q 1 [x0, x2, x4, x5] h := by kernel_rfl
noncomputable def b85_2 (O : Oracle) (R : Jump) (q : Nat) (x2 : TVal) (h : Heap) : Res1 :=
  vop O (.build [(.p (.int .i64 0)), (.p (.bool false)), (.p (.int .i64 0)), (.p (.str [])), (.p .nilslice), (.p .nilslice)] []) h 65 fun x65 h =>
  vstore 6 x2 x65 h fun _ h =>
  vcell true 6 x2 h fun c0 => tcomp (kB false) fun c1 => vfin true q [c0, c1] h
theorem e85_2 (O : Oracle) (R : Jump) (q : Nat) (x2 : TVal) (h : Heap) : b85_2 O R q x2 h = stepF c85 O R q 2 [x2] h := by kernel_rfl
noncomputable def d85 : BlkF := fun O R q => [.s fun y0 => .z fun h => b85_0 O R q y0 h, .s fun y0 => .s fun y1 => .s fun y2 => .s fun y3 => .z fun h => b85_1 O R q y0 y1 y2 y3 h, .s fun y0 => .z fun h => b85_2 O R q y0 h]
theorem o85 (O : Oracle) (R : Jump) (q : Nat) : HoldsAll c85 O R q 0 (d85 O R q) := ⟨fun y0 h => e85_0 O R q y0 h, fun y0 y1 y2 y3 h => e85_1 O R q y0 y1 y2 y3 h, fun y0 h => e85_2 O R q y0 h, trivial⟩
/- sprue/sprueref13.digit -/
def c86 : MFunc := { np := 1, res := [.t 2], frz := true, body := (.seq (.reg [⟨(some 2), (.mv (.k (.v (.c (.p (.bool false)))))), none⟩] []) (.seq (.reg [⟨(some 3), (.mv (.t 0)), none⟩, ⟨(some 4), (.bin .geq 0 (.t 3) (.k (.v (.c (.p (.int .u8 48)))))), none⟩, ⟨(some 5), (.mv (.t 4)), none⟩, ⟨(some 6), (.mv (.t 0)), (some (5, true))⟩, ⟨(some 7), (.bin .leq 0 (.t 6) (.k (.v (.c (.p (.int .u8 57)))))), (some (5, true))⟩, ⟨(some 8), (.pick (.t 5) (.t 7) (.k (.v (.c (.p (.bool false)))))), none⟩, ⟨(some 2), (.mv (.t 8)), none⟩] []) .ret)) }
theorem t86 : compF Tryd.prog (globs2 tabs opq) false true Tryd.f86 = some c86.erase := by kernel_rfl
noncomputable def b86_0 (O : Oracle) (R : Jump) (q : Nat) (x0 : TVal) (h : Heap) : Res1 :=
  vbin .geq 0 x0 (.v (.c (.p (.int .u8 48)))) h fun x4 h =>
  vguard x4 true (fun kk => kk x0 h) h fun x6 h =>
  vguard x4 true (fun kk => vbin .leq 0 x6 (.v (.c (.p (.int .u8 57)))) h kk) h fun x7 h =>
  vop O (.pick (.k x4) (.k x7) (.k (kB false))) h 8 fun x8 h =>
  tcomp x8 fun c0 => vfin true q [c0] h
theorem e86_0 (O : Oracle) (R : Jump) (q : Nat) (x0 : TVal) (h : Heap) : b86_0 O R q x0 h = stepF c86 O R q 0 [x0] h := by kernel_rfl
noncomputable def d86 : BlkF := fun O R q => [.s fun y0 => .z fun h => b86_0 O R q y0 h]
theorem o86 (O : Oracle) (R : Jump) (q : Nat) : HoldsAll c86 O R q 0 (d86 O R q) := ⟨fun y0 h => e86_0 O R q y0 h, trivial⟩
/- (*sprue/sprueref13.reader).text -/
def c87 : MFunc := { np := 1, res := [.t 2], frz := true, body := (.seq (.reg [⟨(some 2), (.mv (.k (.v (.c (.p (.str [])))))), none⟩] []) (.seq (.reg [⟨(some 6), (.mv (.t 0)), none⟩, ⟨(some 7), (.nilck (.t 6)), none⟩, ⟨(some 8), (.faddr 0 (.t 7)), none⟩, ⟨(some 9), (.load false 1 (.t 8)), none⟩, ⟨(some 10), (.mv (.t 0)), none⟩, ⟨(some 11), (.nilck (.t 10)), none⟩, ⟨(some 12), (.faddr 1 (.t 11)), none⟩, ⟨(some 13), (.load false 1 (.t 12)), none⟩, ⟨(some 14), (.call (.k (.v (.c (.func 110 [])))) [(.t 9), (.t 13)]), none⟩, ⟨(some 5), (.mv (.t 14)), none⟩, ⟨(some 15), (.extract (.t 5) 0), none⟩, ⟨(some 16), (.extract (.t 5) 1), none⟩, ⟨(some 3), (.mv (.t 15)), none⟩, ⟨(some 4), (.mv (.t 16)), none⟩] []) (.seq (.seq (.reg [⟨(some 17), (.mv (.t 4)), none⟩, ⟨(some 18), (.bin .lss 0 (.t 17) (.k (.v (.c (.p (.int .i64 0)))))), none⟩] []) (.cond (.t 18) (.seq (.reg [⟨(some 19), (.mv (.t 0)), none⟩, ⟨(some 20), (.call (.k (.v (.c (.func 52 [])))) [(.t 19), (.k (.v (.c (.p (.int .i64 11)))))]), none⟩] []) (.seq (.reg [⟨(some 2), (.mv (.k (.v (.c (.p (.str [])))))), none⟩] []) .ret)) .skip)) (.seq (.reg [⟨(some 21), (.mv (.t 0)), none⟩, ⟨(some 22), (.mv (.t 4)), none⟩, ⟨(some 23), (.nilck (.t 21)), none⟩, ⟨(some 24), (.faddr 1 (.t 23)), none⟩, ⟨none, (.store 1 (.t 24) (.t 22)), none⟩] []) (.seq (.reg [⟨(some 25), (.mv (.t 3)), none⟩, ⟨(some 2), (.mv (.t 25)), none⟩] []) .ret))))) }
theorem t87 : compF Tryd.prog (globs2 tabs opq) false true Tryd.f87 = some c87.erase := by kernel_rfl
noncomputable def b87_0 (O : Oracle) (R : Jump) (q : Nat) (x0 : TVal) (h : Heap) : Res1 :=
  vop O (.nilck (.k x0)) h 7 fun x7 h =>
  vfaddr 0 x7 h fun x8 h =>
  vload false 1 x8 h fun x9 h =>
  vop O (.nilck (.k x0)) h 11 fun x11 h =>
  vfaddr 1 x11 h fun x12 h =>
  vload false 1 x12 h fun x13 h =>
  vcall O (.v (.c (.func 110 []))) [x9, x13] h 14 fun x14 h =>
  vext x14 0 h fun x15 h =>
  vext x14 1 h fun x16 h =>
  vbin .lss 0 x16 (kI 0) h fun x18 h =>
  vif x18 (
  vcall O (.v (.c (.func 52 []))) [x0, (kI 11)] h 20 fun x20 h =>
  tcomp (kS []) fun c0 => vfin true q [c0] h)
  (vop O (.nilck (.k x0)) h 23 fun x23 h =>
  vfaddr 1 x23 h fun x24 h =>
  vstore 1 x24 x16 h fun _ h =>
  tcomp x15 fun c0 => vfin true q [c0] h)
theorem e87_0 (O : Oracle) (R : Jump) (q : Nat) (x0 : TVal) (h : Heap) : b87_0 O R q x0 h = stepF c87 O R q 0 [x0] h := by kernel_rfl
noncomputable def d87 : BlkF := fun O R q => [.s fun y0 => .z fun h => b87_0 O R q y0 h]
theorem o87 (O : Oracle) (R : Jump) (q : Nat) : HoldsAll c87 O R q 0 (d87 O R q) := ⟨fun y0 h => e87_0 O R q y0 h, trivial⟩
/- (*sprue/sprueref13.reader).list -/
def c88 : MFunc := { np := 2, res := [.cell 4 true 6], frz := true, body := (.seq (.reg [⟨(some 4), (.alloc [(.p (.int .i64 0)), (.p (.bool false)), (.p (.int .i64 0)), (.p (.str [])), (.p .nilslice), (.p .nilslice)] false), none⟩] []) (.seq (.reg [⟨(some 6), (.build [(.p (.int .i64 0)), (.p (.bool false)), (.p (.int .i64 0)), (.p (.str [])), (.p .nilslice), (.p .nilslice)] [(0, 1, (.k (.v (.c (.p (.int .i64 4))))))]), none⟩, ⟨(some 5), (.alloc [(.p (.int .i64 0)), (.p (.bool false)), (.p (.int .i64 0)), (.p (.str [])), (.p .nilslice), (.p .nilslice)] false), none⟩, ⟨none, (.store 6 (.t 5) (.t 6)), none⟩] []) (.seq (.reg [⟨(some 7), (.mv (.t 0)), none⟩, ⟨(some 8), (.nilck (.t 7)), none⟩, ⟨(some 9), (.faddr 1 (.t 8)), none⟩, ⟨(some 10), (.load false 1 (.t 9)), none⟩, ⟨(some 11), (.bin .add 0 (.t 10) (.k (.v (.c (.p (.int .i64 1)))))), none⟩, ⟨(some 12), (.nilck (.t 7)), none⟩, ⟨(some 13), (.faddr 1 (.t 12)), none⟩, ⟨none, (.store 1 (.t 13) (.t 11)), none⟩] []) (.seq (.seq (.reg [⟨(some 14), (.mv (.t 0)), none⟩, ⟨(some 15), (.call (.k (.v (.c (.func 111 [])))) [(.t 14), (.k (.v (.c (.p (.int .u8 93)))))]), none⟩] []) (.cond (.t 15) (.seq (.reg [⟨(some 16), (.load true 6 (.t 5)), none⟩, ⟨none, (.store 6 (.t 4) (.t 16)), none⟩] []) .ret) .skip)) (.seq (.block 0 (.loop 1 [0, 1, 4, 5] (.seq (.seq (.reg [⟨(some 17), (.mv (.t 0)), none⟩, ⟨(some 18), (.nilck (.t 17)), none⟩, ⟨(some 19), (.faddr 2 (.t 18)), none⟩, ⟨(some 20), (.load false 1 (.t 19)), none⟩, ⟨(some 21), (.bin .eql 0 (.t 20) (.k (.v (.c (.p (.int .i64 0)))))), none⟩] []) (.cond (.t 21) .skip (.exit 0))) (.block 1 (.seq (.reg [⟨(some 22), (.faddr 5 (.t 5)), none⟩, ⟨(some 23), (.load false 1 (.t 22)), none⟩, ⟨(some 24), (.mv (.t 0)), none⟩, ⟨(some 25), (.mv (.t 1)), none⟩, ⟨(some 26), (.bin .add 0 (.t 25) (.k (.v (.c (.p (.int .i64 1)))))), none⟩, ⟨(some 27), (.call (.k (.v (.c (.func 50 [])))) [(.t 24), (.t 26)]), none⟩, ⟨(some 28), (.bslice 6 1 [(.p (.int .i64 0)), (.p (.bool false)), (.p (.int .i64 0)), (.p (.str [])), (.p .nilslice), (.p .nilslice)] [(0, (.t 27))] false), none⟩, ⟨(some 29), (.append 6 88 false (.t 23) (.t 28)), none⟩, ⟨(some 30), (.faddr 5 (.t 5)), none⟩, ⟨none, (.store 1 (.t 30) (.t 29)), none⟩] [(1, 5), (1, 6)]) (.seq (.reg [⟨(some 31), (.mv (.t 0)), none⟩, ⟨(some 32), (.call (.k (.v (.c (.func 111 [])))) [(.t 31), (.k (.v (.c (.p (.int .u8 44)))))]), none⟩, ⟨(some 33), (.un .not (.t 32)), none⟩] []) (.cond (.t 33) (.exit 0) .skip))))))) (.mark 2 [0, 4, 5] (.seq (.seq (.reg [⟨(some 34), (.mv (.t 0)), none⟩, ⟨(some 35), (.call (.k (.v (.c (.func 111 [])))) [(.t 34), (.k (.v (.c (.p (.int .u8 93)))))]), none⟩, ⟨(some 36), (.un .not (.t 35)), none⟩] []) (.cond (.t 36) (.reg [⟨(some 37), (.mv (.t 0)), none⟩, ⟨(some 38), (.call (.k (.v (.c (.func 52 [])))) [(.t 37), (.k (.v (.c (.p (.int .i64 12)))))]), none⟩] []) .skip)) (.mark 3 [4, 5] (.seq (.reg [⟨(some 39), (.load true 6 (.t 5)), none⟩, ⟨none, (.store 6 (.t 4) (.t 39)), none⟩] []) .ret))))))))) }
theorem t88 : compF Tryd.prog (globs2 tabs opq) false true Tryd.f88 = some c88.erase := by kernel_rfl
noncomputable def b88_0 (O : Oracle) (R : Jump) (q : Nat) (x0 x1 : TVal) (h : Heap) : Res1 :=
  vop O (.alloc [(.p (.int .i64 0)), (.p (.bool false)), (.p (.int .i64 0)), (.p (.str [])), (.p .nilslice), (.p .nilslice)] false) h 4 fun x4 h =>
  vop O (.build [(.p (.int .i64 0)), (.p (.bool false)), (.p (.int .i64 0)), (.p (.str [])), (.p .nilslice), (.p .nilslice)] [(0, 1, (.k (kI 4)))]) h 6 fun x6 h =>
  vop O (.alloc [(.p (.int .i64 0)), (.p (.bool false)), (.p (.int .i64 0)), (.p (.str [])), (.p .nilslice), (.p .nilslice)] false) h 5 fun x5 h =>
  vstore 6 x5 x6 h fun _ h =>
  vop O (.nilck (.k x0)) h 8 fun x8 h =>
  vfaddr 1 x8 h fun x9 h =>
  vload false 1 x9 h fun x10 h =>
  vbin .add 0 x10 (kI 1) h fun x11 h =>
  vop O (.nilck (.k x0)) h 12 fun x12 h =>
  vfaddr 1 x12 h fun x13 h =>
  vstore 1 x13 x11 h fun _ h =>
  vcall O (.v (.c (.func 111 []))) [x0, (.v (.c (.p (.int .u8 93))))] h 15 fun x15 h =>
  vif x15 (
  vload true 6 x5 h fun x16 h =>
  vstore 6 x4 x16 h fun _ h =>
  vcell true 6 x4 h fun c0 => vfin true q [c0] h)
  (R 1 [x0, x1, x4, x5] h)
theorem e88_0 (O : Oracle) (R : Jump) (q : Nat) (x0 x1 : TVal) (h : Heap) : b88_0 O R q x0 x1 h = stepF c88 O R q 0 [x0, x1] h := by kernel_rfl
noncomputable def b88_1 (O : Oracle) (R : Jump) (q : Nat) (x0 x1 x4 x5 : TVal) (h : Heap) : Res1 :=
  vop O (.nilck (.k x0)) h 18 fun x18 h =>
  vfaddr 2 x18 h fun x19 h =>
  vload false 1 x19 h fun x20 h =>
  vbin .eql 0 x20 (kI 0) h fun x21 h =>
  vif x21 (
  vtouch O (.faddr 5 (.k x5)) h 22 fun x22 h t0 =>
  vtouch O (.load false 1 (.k x22)) h 23 fun x23 h t1 =>
  vtouch O (.mv (.k x0)) h 24 fun x24 h t2 =>
  vtouch O (.mv (.k x1)) h 25 fun x25 h t3 =>
  vtouch O (.bin .add 0 (.k x25) (.k (kI 1))) h 26 fun x26 h t4 =>
  vtouch O (.call (.k (.v (.c (.func 50 [])))) [(.k x24), (.k x26)]) h 27 fun x27 h t5 =>
  vtouch O (.bslice 6 1 [(.p (.int .i64 0)), (.p (.bool false)), (.p (.int .i64 0)), (.p (.str [])), (.p .nilslice), (.p .nilslice)] [(0, (.k x27))] false) h 28 fun x28 h t6 =>
  vtouch O (.append 6 88 false (.k x23) (.k x28)) h 29 fun x29 h t7 =>
  vtouch O (.faddr 5 (.k x5)) h 30 fun x30 h t8 =>
  vtouch O (.store 1 (.k x30) (.k x29)) h 1000000 fun _ h t9 =>
  bif apartAll [t0, t1, t2, t3, t4, t5, t6, t7, t8, t9] [(1, 5), (1, 6)] then
  vcall O (.v (.c (.func 111 []))) [x0, (.v (.c (.p (.int .u8 44))))] h 32 fun x32 h =>
  vop O (.un .not (.k x32)) h 33 fun x33 h =>
  vif x33 (
  R 2 [x0, x4, x5] h)
  (R 1 [x0, x1, x4, x5] h)
  else none)
  (R 2 [x0, x4, x5] h)
theorem e88_1 (O : Oracle) (R : Jump) (q : Nat) (x0 x1 x4 x5 : TVal) (h : Heap) : b88_1 O R q x0 x1 x4 x5 h = stepF c88 O R q 1 [x0, x1, x4, x5] h := by kernel_rfl
noncomputable def b88_2 (O : Oracle) (R : Jump) (q : Nat) (x0 x4 x5 : TVal) (h : Heap) : Res1 :=
  vcall O (.v (.c (.func 111 []))) [x0, (.v (.c (.p (.int .u8 93))))] h 35 fun x35 h =>
  vop O (.un .not (.k x35)) h 36 fun x36 h =>
  vif x36 (
  vcall O (.v (.c (.func 52 []))) [x0, (kI 12)] h 38 fun x38 h =>
  R 3 [x4, x5] h)
  (R 3 [x4, x5] h)
theorem e88_2 (O : Oracle) (R : Jump) (q : Nat) (x0 x4 x5 : TVal) (h : Heap) : b88_2 O R q x0 x4 x5 h = stepF c88 O R q 2 [x0, x4, x5] h := by kernel_rfl
noncomputable def b88_3 (O : Oracle) (R : Jump) (q : Nat) (x4 x5 : TVal) (h : Heap) : Res1 :=
  vload true 6 x5 h fun x39 h =>
  vstore 6 x4 x39 h fun _ h =>
  vcell true 6 x4 h fun c0 => vfin true q [c0] h
theorem e88_3 (O : Oracle) (R : Jump) (q : Nat) (x4 x5 : TVal) (h : Heap) : b88_3 O R q x4 x5 h = stepF c88 O R q 3 [x4, x5] h := by kernel_rfl
noncomputable def d88 : BlkF := fun O R q => [.s fun y0 => .s fun y1 => .z fun h => b88_0 O R q y0 y1 h, .s fun y0 => .s fun y1 => .s fun y2 => .s fun y3 => .z fun h => b88_1 O R q y0 y1 y2 y3 h, .s fun y0 => .s fun y1 => .s fun y2 => .z fun h => b88_2 O R q y0 y1 y2 h, .s fun y0 => .s fun y1 => .z fun h => b88_3 O R q y0 y1 h]
theorem o88 (O : Oracle) (R : Jump) (q : Nat) : HoldsAll c88 O R q 0 (d88 O R q) := ⟨fun y0 y1 h => e88_0 O R q y0 y1 h, fun y0 y1 y2 y3 h => e88_1 O R q y0 y1 y2 y3 h, fun y0 y1 y2 h => e88_2 O R q y0 y1 y2 h, fun y0 y1 h => e88_3 O R q y0 y1 h, trivial⟩
/- (*sprue/sprueref13.reader).table -/
def c89 : MFunc := { np := 2, res := [.cell 4 true 6], frz := true, body := (.seq (.reg [⟨(some 4), (.alloc [(.p (.int .i64 0)), (.p (.bool false)), (.p (.int .i64 0)), (.p (.str [])), (.p .nilslice), (.p .nilslice)] false), none⟩] []) (.seq (.reg [⟨(some 12), (.build [(.p (.int .i64 0)), (.p (.bool false)), (.p (.int .i64 0)), (.p (.str [])), (.p .nilslice), (.p .nilslice)] [(0, 1, (.k (.v (.c (.p (.int .i64 5))))))]), none⟩, ⟨(some 5), (.alloc [(.p (.int .i64 0)), (.p (.bool false)), (.p (.int .i64 0)), (.p (.str [])), (.p .nilslice), (.p .nilslice)] false), none⟩, ⟨none, (.store 6 (.t 5) (.t 12)), none⟩] []) (.seq (.reg [⟨(some 13), (.mv (.t 0)), none⟩, ⟨(some 14), (.nilck (.t 13)), none⟩, ⟨(some 15), (.faddr 1 (.t 14)), none⟩, ⟨(some 16), (.load false 1 (.t 15)), none⟩, ⟨(some 17), (.bin .add 0 (.t 16) (.k (.v (.c (.p (.int .i64 1)))))), none⟩, ⟨(some 18), (.nilck (.t 13)), none⟩, ⟨(some 19), (.faddr 1 (.t 18)), none⟩, ⟨none, (.store 1 (.t 19) (.t 17)), none⟩] []) (.seq (.seq (.reg [⟨(some 20), (.mv (.t 0)), none⟩, ⟨(some 21), (.call (.k (.v (.c (.func 111 [])))) [(.t 20), (.k (.v (.c (.p (.int .u8 125)))))]), none⟩] []) (.cond (.t 21) (.seq (.reg [⟨(some 22), (.load true 6 (.t 5)), none⟩, ⟨none, (.store 6 (.t 4) (.t 22)), none⟩] []) .ret) .skip)) (.seq (.reg [⟨(some 6), (.mv (.k (.v (.c (.p (.bool false)))))), none⟩] []) (.seq (.block 0 (.loop 1 [0, 1, 4, 5, 6] (.seq (.seq (.reg [⟨(some 23), (.mv (.t 0)), none⟩, ⟨(some 24), (.nilck (.t 23)), none⟩, ⟨(some 25), (.faddr 2 (.t 24)), none⟩, ⟨(some 26), (.load false 1 (.t 25)), none⟩, ⟨(some 27), (.bin .eql 0 (.t 26) (.k (.v (.c (.p (.int .i64 0)))))), none⟩] []) (.cond (.t 27) .skip (.exit 0))) (.block 1 (.seq (.reg [⟨(some 28), (.mv (.t 0)), none⟩, ⟨(some 29), (.call (.k (.v (.c (.func 51 [])))) [(.t 28)]), none⟩] []) (.seq (.seq (.reg [⟨(some 30), (.mv (.t 0)), none⟩, ⟨(some 31), (.nilck (.t 30)), none⟩, ⟨(some 32), (.faddr 1 (.t 31)), none⟩, ⟨(some 33), (.load false 1 (.t 32)), none⟩, ⟨(some 34), (.mv (.t 0)), none⟩, ⟨(some 35), (.nilck (.t 34)), none⟩, ⟨(some 36), (.faddr 0 (.t 35)), none⟩, ⟨(some 37), (.load false 1 (.t 36)), none⟩, ⟨(some 38), (.len 0 (.t 37)), none⟩, ⟨(some 39), (.bin .geq 0 (.t 33) (.t 38)), none⟩, ⟨(some 40), (.mv (.t 39)), none⟩, ⟨(some 41), (.mv (.t 0)), (some (40, false))⟩, ⟨(some 42), (.nilck (.t 41)), (some (40, false))⟩, ⟨(some 43), (.faddr 0 (.t 42)), (some (40, false))⟩, ⟨(some 44), (.load false 1 (.t 43)), (some (40, false))⟩, ⟨(some 45), (.mv (.t 0)), (some (40, false))⟩, ⟨(some 46), (.nilck (.t 45)), (some (40, false))⟩, ⟨(some 47), (.faddr 1 (.t 46)), (some (40, false))⟩, ⟨(some 48), (.load false 1 (.t 47)), (some (40, false))⟩, ⟨(some 49), (.index (.t 44) (.t 48)), (some (40, false))⟩, ⟨(some 50), (.bin .neq 0 (.t 49) (.k (.v (.c (.p (.int .u8 34)))))), (some (40, false))⟩, ⟨(some 51), (.pick (.t 40) (.k (.v (.c (.p (.bool true))))) (.t 50)), none⟩] []) (.cond (.t 51) (.seq (.reg [⟨(some 52), (.mv (.t 0)), none⟩, ⟨(some 53), (.call (.k (.v (.c (.func 52 [])))) [(.t 52), (.k (.v (.c (.p (.int .i64 12)))))]), none⟩] []) (.exit 0)) .skip)) (.seq (.reg [⟨(some 54), (.mv (.t 0)), none⟩, ⟨(some 55), (.call (.k (.v (.c (.func 87 [])))) [(.t 54)]), none⟩, ⟨(some 7), (.mv (.t 55)), none⟩] []) (.seq (.seq (.reg [⟨(some 56), (.mv (.t 0)), none⟩, ⟨(some 57), (.call (.k (.v (.c (.func 111 [])))) [(.t 56), (.k (.v (.c (.p (.int .u8 58)))))]), none⟩, ⟨(some 58), (.un .not (.t 57)), none⟩] []) (.cond (.t 58) (.seq (.reg [⟨(some 59), (.mv (.t 0)), none⟩, ⟨(some 60), (.call (.k (.v (.c (.func 52 [])))) [(.t 59), (.k (.v (.c (.p (.int .i64 12)))))]), none⟩] []) (.exit 0)) .skip)) (.seq (.reg [⟨(some 61), (.mv (.t 0)), none⟩, ⟨(some 62), (.mv (.t 1)), none⟩, ⟨(some 63), (.bin .add 0 (.t 62) (.k (.v (.c (.p (.int .i64 1)))))), none⟩, ⟨(some 64), (.call (.k (.v (.c (.func 50 [])))) [(.t 61), (.t 63)]), none⟩, ⟨(some 8), (.alloc [(.p (.int .i64 0)), (.p (.bool false)), (.p (.int .i64 0)), (.p (.str [])), (.p .nilslice), (.p .nilslice)] false), none⟩, ⟨none, (.store 6 (.t 8) (.t 64)), none⟩] []) (.seq (.reg [⟨(some 9), (.mv (.k (.v (.c (.p (.int .i64 0)))))), none⟩] []) (.seq (.block 2 (.loop 2 [0, 1, 4, 5, 6, 7, 8, 9] (.seq (.seq (.reg [⟨(some 65), (.mv (.t 9)), none⟩, ⟨(some 66), (.faddr 4 (.t 5)), none⟩, ⟨(some 67), (.load false 1 (.t 66)), none⟩, ⟨(some 68), (.len 2 (.t 67)), none⟩, ⟨(some 69), (.bin .lss 0 (.t 65) (.t 68)), none⟩, ⟨(some 70), (.mv (.t 69)), none⟩, ⟨(some 71), (.faddr 4 (.t 5)), (some (70, true))⟩, ⟨(some 72), (.load false 1 (.t 71)), (some (70, true))⟩, ⟨(some 73), (.mv (.t 9)), (some (70, true))⟩, ⟨(some 74), (.iaddr 1 (.t 72) (.t 73)), (some (70, true))⟩, ⟨(some 75), (.load false 1 (.t 74)), (some (70, true))⟩, ⟨(some 76), (.mv (.t 7)), (some (70, true))⟩, ⟨(some 77), (.bin .lss 0 (.t 75) (.t 76)), (some (70, true))⟩, ⟨(some 78), (.pick (.t 70) (.t 77) (.k (.v (.c (.p (.bool false)))))), none⟩] []) (.cond (.t 78) .skip (.exit 2))) (.block 3 (.reg [⟨(some 79), (.mv (.t 9)), none⟩, ⟨(some 80), (.bin .add 0 (.t 79) (.k (.v (.c (.p (.int .i64 1)))))), none⟩, ⟨(some 9), (.mv (.t 80)), none⟩] []))))) (.mark 3 [0, 1, 4, 5, 6, 7, 8, 9] (.seq (.reg [⟨(some 81), (.mv (.t 6)), none⟩, ⟨(some 82), (.mv (.t 81)), none⟩, ⟨(some 83), (.mv (.t 9)), (some (82, false))⟩, ⟨(some 84), (.faddr 4 (.t 5)), (some (82, false))⟩, ⟨(some 85), (.load false 1 (.t 84)), (some (82, false))⟩, ⟨(some 86), (.len 2 (.t 85)), (some (82, false))⟩, ⟨(some 87), (.bin .lss 0 (.t 83) (.t 86)), (some (82, false))⟩, ⟨(some 88), (.mv (.t 87)), (some (82, false))⟩, ⟨(some 89), (.faddr 4 (.t 5)), (some (88, true))⟩, ⟨(some 90), (.load false 1 (.t 89)), (some (88, true))⟩, ⟨(some 91), (.mv (.t 9)), (some (88, true))⟩, ⟨(some 92), (.iaddr 1 (.t 90) (.t 91)), (some (88, true))⟩, ⟨(some 93), (.load false 1 (.t 92)), (some (88, true))⟩, ⟨(some 94), (.mv (.t 7)), (some (88, true))⟩, ⟨(some 95), (.bin .eql 0 (.t 93) (.t 94)), (some (88, true))⟩, ⟨(some 96), (.pick (.t 88) (.t 95) (.k (.v (.c (.p (.bool false)))))), (some (82, false))⟩, ⟨(some 97), (.pick (.t 82) (.k (.v (.c (.p (.bool true))))) (.t 96)), none⟩, ⟨(some 6), (.mv (.t 97)), none⟩] []) (.seq (.reg [⟨(some 98), (.bslice 1 0 [(.p (.str []))] [] false), none⟩, ⟨(some 99), (.faddr 4 (.t 5)), none⟩, ⟨(some 100), (.load false 1 (.t 99)), none⟩, ⟨(some 101), (.mv (.t 9)), none⟩, ⟨(some 102), (.slice 1 false (.t 100) none (some (.t 101)) none), none⟩, ⟨(some 103), (.append 1 16 false (.t 98) (.t 102)), none⟩, ⟨(some 10), (.mv (.t 103)), none⟩] []) (.seq (.reg [⟨(some 104), (.bslice 6 0 [(.p (.int .i64 0)), (.p (.bool false)), (.p (.int .i64 0)), (.p (.str [])), (.p .nilslice), (.p .nilslice)] [] false), none⟩, ⟨(some 105), (.faddr 5 (.t 5)), none⟩, ⟨(some 106), (.load false 1 (.t 105)), none⟩, ⟨(some 107), (.mv (.t 9)), none⟩, ⟨(some 108), (.slice 6 false (.t 106) none (some (.t 107)) none), none⟩, ⟨(some 109), (.append 6 88 false (.t 104) (.t 108)), none⟩, ⟨(some 11), (.mv (.t 109)), none⟩] []) (.seq (.reg [⟨(some 110), (.mv (.t 10)), none⟩, ⟨(some 111), (.mv (.t 7)), none⟩, ⟨(some 112), (.bslice 1 1 [(.p (.str []))] [(0, (.t 111))] false), none⟩, ⟨(some 113), (.append 1 16 false (.t 110) (.t 112)), none⟩, ⟨(some 114), (.faddr 4 (.t 5)), none⟩, ⟨(some 115), (.load false 1 (.t 114)), none⟩, ⟨(some 116), (.mv (.t 9)), none⟩, ⟨(some 117), (.slice 1 false (.t 115) (some (.t 116)) none none), none⟩, ⟨(some 118), (.append 1 16 false (.t 113) (.t 117)), none⟩, ⟨(some 119), (.mv (.t 11)), none⟩, ⟨(some 120), (.load true 6 (.t 8)), none⟩, ⟨(some 121), (.bslice 6 1 [(.p (.int .i64 0)), (.p (.bool false)), (.p (.int .i64 0)), (.p (.str [])), (.p .nilslice), (.p .nilslice)] [(0, (.t 120))] false), none⟩, ⟨(some 122), (.append 6 88 false (.t 119) (.t 121)), none⟩, ⟨(some 123), (.faddr 5 (.t 5)), none⟩, ⟨(some 124), (.load false 1 (.t 123)), none⟩, ⟨(some 125), (.mv (.t 9)), none⟩, ⟨(some 126), (.slice 6 false (.t 124) (some (.t 125)) none none), none⟩, ⟨(some 127), (.append 6 88 false (.t 122) (.t 126)), none⟩, ⟨(some 128), (.faddr 4 (.t 5)), none⟩, ⟨none, (.store 1 (.t 128) (.t 118)), none⟩, ⟨(some 129), (.faddr 5 (.t 5)), none⟩, ⟨none, (.store 1 (.t 129) (.t 127)), none⟩] [(2, 5), (3, 5), (2, 10), (3, 10), (8, 10), (2, 11), (3, 11), (5, 11), (8, 11), (2, 14), (3, 14), (8, 14), (11, 14), (12, 14)]) (.seq (.reg [⟨(some 130), (.mv (.t 0)), none⟩, ⟨(some 131), (.call (.k (.v (.c (.func 111 [])))) [(.t 130), (.k (.v (.c (.p (.int .u8 44)))))]), none⟩, ⟨(some 132), (.un .not (.t 131)), none⟩] []) (.cond (.t 132) (.exit 0) .skip)))))))))))))))))) (.mark 4 [0, 4, 5, 6] (.seq (.seq (.reg [⟨(some 133), (.mv (.t 0)), none⟩, ⟨(some 134), (.call (.k (.v (.c (.func 111 [])))) [(.t 133), (.k (.v (.c (.p (.int .u8 125)))))]), none⟩, ⟨(some 135), (.un .not (.t 134)), none⟩] []) (.cond (.t 135) (.reg [⟨(some 136), (.mv (.t 0)), none⟩, ⟨(some 137), (.call (.k (.v (.c (.func 52 [])))) [(.t 136), (.k (.v (.c (.p (.int .i64 12)))))]), none⟩] []) .skip)) (.mark 5 [0, 4, 5, 6] (.seq (.seq (.reg [⟨(some 138), (.mv (.t 6)), none⟩] []) (.cond (.t 138) (.reg [⟨(some 139), (.mv (.t 0)), none⟩, ⟨(some 140), (.call (.k (.v (.c (.func 52 [])))) [(.t 139), (.k (.v (.c (.p (.int .i64 6)))))]), none⟩] []) .skip)) (.mark 6 [4, 5] (.seq (.reg [⟨(some 141), (.load true 6 (.t 5)), none⟩, ⟨none, (.store 6 (.t 4) (.t 141)), none⟩] []) .ret)))))))))))) }
theorem t89 : compF Tryd.prog (globs2 tabs opq) false true Tryd.f89 = some c89.erase := by kernel_rfl
noncomputable def b89_0 (O : Oracle) (R : Jump) (q : Nat) (x0 x1 : TVal) (h : Heap) : Res1 :=
  vop O (.alloc [(.p (.int .i64 0)), (.p (.bool false)), (.p (.int .i64 0)), (.p (.str [])), (.p .nilslice), (.p .nilslice)] false) h 4 fun x4 h =>
  vop O (.build [(.p (.int .i64 0)), (.p (.bool false)), (.p (.int .i64 0)), (.p (.str [])), (.p .nilslice), (.p .nilslice)] [(0, 1, (.k (kI 5)))]) h 12 fun x12 h =>
  vop O (.alloc [(.p (.int .i64 0)), (.p (.bool false)), (.p (.int .i64 0)), (.p (.str [])), (.p .nilslice), (.p .nilslice)] false) h 5 fun x5 h =>
  vstore 6 x5 x12 h fun _ h =>
  vop O (.nilck (.k x0)) h 14 fun x14 h =>
  vfaddr 1 x14 h fun x15 h =>
  vload false 1 x15 h fun x16 h =>
  vbin .add 0 x16 (kI 1) h fun x17 h =>
  vop O (.nilck (.k x0)) h 18 fun x18 h =>
  vfaddr 1 x18 h fun x19 h =>
  vstore 1 x19 x17 h fun _ h =>
  vcall O (.v (.c (.func 111 []))) [x0, (.v (.c (.p (.int .u8 125))))] h 21 fun x21 h =>
  vif x21 (
  vload true 6 x5 h fun x22 h =>
  vstore 6 x4 x22 h fun _ h =>
  vcell true 6 x4 h fun c0 => vfin true q [c0] h)
  (R 1 [x0, x1, x4, x5, (kB false)] h)
theorem e89_0 (O : Oracle) (R : Jump) (q : Nat) (x0 x1 : TVal) (h : Heap) : b89_0 O R q x0 x1 h = stepF c89 O R q 0 [x0, x1] h := by kernel_rfl
noncomputable def b89_1 (O : Oracle) (R : Jump) (q : Nat) (x0 x1 x4 x5 x6 : TVal) (h : Heap) : Res1 :=
  vop O (.nilck (.k x0)) h 24 fun x24 h =>
  vfaddr 2 x24 h fun x25 h =>
  vload false 1 x25 h fun x26 h =>
  vbin .eql 0 x26 (kI 0) h fun x27 h =>
  vif x27 (
  vcall O (.v (.c (.func 51 []))) [x0] h 29 fun x29 h =>
  vop O (.nilck (.k x0)) h 31 fun x31 h =>
  vfaddr 1 x31 h fun x32 h =>
  vload false 1 x32 h fun x33 h =>
  vop O (.nilck (.k x0)) h 35 fun x35 h =>
  vfaddr 0 x35 h fun x36 h =>
  vload false 1 x36 h fun x37 h =>
  vlen O 0 x37 h 38 fun x38 h =>
  vbin .geq 0 x33 x38 h fun x39 h =>
  vguard x39 false (fun kk => kk x0 h) h fun x41 h =>
  vguard x39 false (fun kk => vop O (.nilck (.k x41)) h 42 kk) h fun x42 h =>
  vguard x39 false (fun kk => vfaddr 0 x42 h kk) h fun x43 h =>
  vguard x39 false (fun kk => vload false 1 x43 h kk) h fun x44 h =>
  vguard x39 false (fun kk => kk x0 h) h fun x45 h =>
  vguard x39 false (fun kk => vop O (.nilck (.k x45)) h 46 kk) h fun x46 h =>
  vguard x39 false (fun kk => vfaddr 1 x46 h kk) h fun x47 h =>
  vguard x39 false (fun kk => vload false 1 x47 h kk) h fun x48 h =>
  vguard x39 false (fun kk => vindex x44 x48 h kk) h fun x49 h =>
  vguard x39 false (fun kk => vbin .neq 0 x49 (.v (.c (.p (.int .u8 34)))) h kk) h fun x50 h =>
  vop O (.pick (.k x39) (.k (kB true)) (.k x50)) h 51 fun x51 h =>
  vif x51 (
  vcall O (.v (.c (.func 52 []))) [x0, (kI 12)] h 53 fun x53 h =>
  R 4 [x0, x4, x5, x6] h)
  (vcall O (.v (.c (.func 87 []))) [x0] h 55 fun x55 h =>
  vcall O (.v (.c (.func 111 []))) [x0, (.v (.c (.p (.int .u8 58))))] h 57 fun x57 h =>
  vop O (.un .not (.k x57)) h 58 fun x58 h =>
  vif x58 (
  vcall O (.v (.c (.func 52 []))) [x0, (kI 12)] h 60 fun x60 h =>
  R 4 [x0, x4, x5, x6] h)
  (vbin .add 0 x1 (kI 1) h fun x63 h =>
  vcall O (.v (.c (.func 50 []))) [x0, x63] h 64 fun x64 h =>
  vop O (.alloc [(.p (.int .i64 0)), (.p (.bool false)), (.p (.int .i64 0)), (.p (.str [])), (.p .nilslice), (.p .nilslice)] false) h 8 fun x8 h =>
  vstore 6 x8 x64 h fun _ h =>
  R 2 [x0, x1, x4, x5, x6, x55, x8, (kI 0)] h)))
  (R 4 [x0, x4, x5, x6] h)
theorem e89_1 (O : Oracle) (R : Jump) (q : Nat) (x0 x1 x4 x5 x6 : TVal) (h : Heap) : b89_1 O R q x0 x1 x4 x5 x6 h = stepF c89 O R q 1 [x0, x1, x4, x5, x6] h := by kernel_rfl
noncomputable def b89_2 (O : Oracle) (R : Jump) (q : Nat) (x0 x1 x4 x5 x6 x7 x8 x9 : TVal) (h : Heap) : Res1 :=
  vfaddr 4 x5 h fun x66 h =>
  vload false 1 x66 h fun x67 h =>
  vlen O 2 x67 h 68 fun x68 h =>
  vbin .lss 0 x9 x68 h fun x69 h =>
  vguard x69 true (fun kk => vfaddr 4 x5 h kk) h fun x71 h =>
  vguard x69 true (fun kk => vload false 1 x71 h kk) h fun x72 h =>
  vguard x69 true (fun kk => kk x9 h) h fun x73 h =>
  vguard x69 true (fun kk => viaddr 1 x72 x73 h kk) h fun x74 h =>
  vguard x69 true (fun kk => vload false 1 x74 h kk) h fun x75 h =>
  vguard x69 true (fun kk => kk x7 h) h fun x76 h =>
  vguard x69 true (fun kk => vbin .lss 0 x75 x76 h kk) h fun x77 h =>
  vop O (.pick (.k x69) (.k x77) (.k (kB false))) h 78 fun x78 h =>
  vif x78 (
  vbin .add 0 x9 (kI 1) h fun x80 h =>
  R 2 [x0, x1, x4, x5, x6, x7, x8, x80] h)
  (R 3 [x0, x1, x4, x5, x6, x7, x8, x9] h)
theorem e89_2 (O : Oracle) (R : Jump) (q : Nat) (x0 x1 x4 x5 x6 x7 x8 x9 : TVal) (h : Heap) : b89_2 O R q x0 x1 x4 x5 x6 x7 x8 x9 h = stepF c89 O R q 2 [x0, x1, x4, x5, x6, x7, x8, x9] h := by kernel_rfl
noncomputable def b89_3 (O : Oracle) (R : Jump) (q : Nat) (x0 x1 x4 x5 x6 x7 x8 x9 : TVal) (h : Heap) : Res1 :=
  vguard x6 false (fun kk => kk x9 h) h fun x83 h =>
  vguard x6 false (fun kk => vfaddr 4 x5 h kk) h fun x84 h =>
  vguard x6 false (fun kk => vload false 1 x84 h kk) h fun x85 h =>
  vguard x6 false (fun kk => vlen O 2 x85 h 86 kk) h fun x86 h =>
  vguard x6 false (fun kk => vbin .lss 0 x83 x86 h kk) h fun x87 h =>
  vguard x6 false (fun kk => kk x87 h) h fun x88 h =>
  vguard x88 true (fun kk => vfaddr 4 x5 h kk) h fun x89 h =>
  vguard x88 true (fun kk => vload false 1 x89 h kk) h fun x90 h =>
  vguard x88 true (fun kk => kk x9 h) h fun x91 h =>
  vguard x88 true (fun kk => viaddr 1 x90 x91 h kk) h fun x92 h =>
  vguard x88 true (fun kk => vload false 1 x92 h kk) h fun x93 h =>
  vguard x88 true (fun kk => kk x7 h) h fun x94 h =>
  vguard x88 true (fun kk => vbin .eql 0 x93 x94 h kk) h fun x95 h =>
  vguard x6 false (fun kk => vop O (.pick (.k x88) (.k x95) (.k (kB false))) h 96 kk) h fun x96 h =>
  vop O (.pick (.k x6) (.k (kB true)) (.k x96)) h 97 fun x97 h =>
  vop O (.bslice 1 0 [(.p (.str []))] [] false) h 98 fun x98 h =>
  vfaddr 4 x5 h fun x99 h =>
  vload false 1 x99 h fun x100 h =>
  vop O (.slice 1 false (.k x100) none (some (.k x9)) none) h 102 fun x102 h =>
  vop O (.append 1 16 false (.k x98) (.k x102)) h 103 fun x103 h =>
  vop O (.bslice 6 0 [(.p (.int .i64 0)), (.p (.bool false)), (.p (.int .i64 0)), (.p (.str [])), (.p .nilslice), (.p .nilslice)] [] false) h 104 fun x104 h =>
  vfaddr 5 x5 h fun x105 h =>
  vload false 1 x105 h fun x106 h =>
  vop O (.slice 6 false (.k x106) none (some (.k x9)) none) h 108 fun x108 h =>
  vop O (.append 6 88 false (.k x104) (.k x108)) h 109 fun x109 h =>
  vtouch O (.mv (.k x103)) h 110 fun x110 h t0 =>
  vtouch O (.mv (.k x7)) h 111 fun x111 h t1 =>
  vtouch O (.bslice 1 1 [(.p (.str []))] [(0, (.k x111))] false) h 112 fun x112 h t2 =>
  vtouch O (.append 1 16 false (.k x110) (.k x112)) h 113 fun x113 h t3 =>
  vtouch O (.faddr 4 (.k x5)) h 114 fun x114 h t4 =>
  vtouch O (.load false 1 (.k x114)) h 115 fun x115 h t5 =>
  vtouch O (.mv (.k x9)) h 116 fun x116 h t6 =>
  vtouch O (.slice 1 false (.k x115) (some (.k x116)) none none) h 117 fun x117 h t7 =>
  vtouch O (.append 1 16 false (.k x113) (.k x117)) h 118 fun x118 h t8 =>
  vtouch O (.mv (.k x109)) h 119 fun x119 h t9 =>
  vtouch O (.load true 6 (.k x8)) h 120 fun x120 h t10 =>
  vtouch O (.bslice 6 1 [(.p (.int .i64 0)), (.p (.bool false)), (.p (.int .i64 0)), (.p (.str [])), (.p .nilslice), (.p .nilslice)] [(0, (.k x120))] false) h 121 fun x121 h t11 =>
  vtouch O (.append 6 88 false (.k x119) (.k x121)) h 122 fun x122 h t12 =>
  vtouch O (.faddr 5 (.k x5)) h 123 fun x123 h t13 =>
  vtouch O (.load false 1 (.k x123)) h 124 fun x124 h t14 =>
  vtouch O (.mv (.k x9)) h 125 fun x125 h t15 =>
  vtouch O (.slice 6 false (.k x124) (some (.k x125)) none none) h 126 fun x126 h t16 =>
  vtouch O (.append 6 88 false (.k x122) (.k x126)) h 127 fun x127 h t17 =>
  vtouch O (.faddr 4 (.k x5)) h 128 fun x128 h t18 =>
  vtouch O (.store 1 (.k x128) (.k x118)) h 1000000 fun _ h t19 =>
  vtouch O (.faddr 5 (.k x5)) h 129 fun x129 h t20 =>
  vtouch O (.store 1 (.k x129) (.k x127)) h 1000000 fun _ h t21 =>
  bif apartAll [t0, t1, t2, t3, t4, t5, t6, t7, t8, t9, t10, t11, t12, t13, t14, t15, t16, t17, t18, t19, t20, t21] [(2, 5), (3, 5), (2, 10), (3, 10), (8, 10), (2, 11), (3, 11), (5, 11), (8, 11), (2, 14), (3, 14), (8, 14), (11, 14), (12, 14)] then
  vcall O (.v (.c (.func 111 []))) [x0, (.v (.c (.p (.int .u8 44))))] h 131 fun x131 h =>
  vop O (.un .not (.k x131)) h 132 fun x132 h =>
  vif x132 (
  R 4 [x0, x4, x5, x97] h)
  (R 1 [x0, x1, x4, x5, x97] h)
  else none
theorem e89_3 (O : Oracle) (R : Jump) (q : Nat) (x0 x1 x4 x5 x6 x7 x8 x9 : TVal) (h : Heap) : b89_3 O R q x0 x1 x4 x5 x6 x7 x8 x9 h = stepF c89 O R q 3 [x0, x1, x4, x5, x6, x7, x8, x9] h := by kernel_rfl
noncomputable def b89_4 (O : Oracle) (R : Jump) (q : Nat) (x0 x4 x5 x6 : TVal) (h : Heap) : Res1 :=
  vcall O (.v (.c (.func 111 []))) [x0, (.v (.c (.p (.int .u8 125))))] h 134 fun x134 h =>
  vop O (.un .not (.k x134)) h 135 fun x135 h =>
  vif x135 (
  vcall O (.v (.c (.func 52 []))) [x0, (kI 12)] h 137 fun x137 h =>
  R 5 [x0, x4, x5, x6] h)
  (R 5 [x0, x4, x5, x6] h)
theorem e89_4 (O : Oracle) (R : Jump) (q : Nat) (x0 x4 x5 x6 : TVal) (h : Heap) : b89_4 O R q x0 x4 x5 x6 h = stepF c89 O R q 4 [x0, x4, x5, x6] h := by kernel_rfl
noncomputable def b89_5 (O : Oracle) (R : Jump) (q : Nat) (x0 x4 x5 x6 : TVal) (h : Heap) : Res1 :=
  vif x6 (
  vcall O (.v (.c (.func 52 []))) [x0, (kI 6)] h 140 fun x140 h =>
  R 6 [x4, x5] h)
  (R 6 [x4, x5] h)
theorem e89_5 (O : Oracle) (R : Jump) (q : Nat) (x0 x4 x5 x6 : TVal) (h : Heap) : b89_5 O R q x0 x4 x5 x6 h = stepF c89 O R q 5 [x0, x4, x5, x6] h := by kernel_rfl
noncomputable def b89_6 (O : Oracle) (R : Jump) (q : Nat) (x4 x5 : TVal) (h : Heap) : Res1 :=
  vload true 6 x5 h fun x141 h =>
  vstore 6 x4 x141 h fun _ h =>
  vcell true 6 x4 h fun c0 => vfin true q [c0] h
theorem e89_6 (O : Oracle) (R : Jump) (q : Nat) (x4 x5 : TVal) (h : Heap) : b89_6 O R q x4 x5 h = stepF c89 O R q 6 [x4, x5] h := by kernel_rfl
noncomputable def d89 : BlkF := fun O R q => [.s fun y0 => .s fun y1 => .z fun h => b89_0 O R q y0 y1 h, .s fun y0 => .s fun y1 => .s fun y2 => .s fun y3 => .s fun y4 => .z fun h => b89_1 O R q y0 y1 y2 y3 y4 h, .s fun y0 => .s fun y1 => .s fun y2 => .s fun y3 => .s fun y4 => .s fun y5 => .s fun y6 => .s fun y7 => .z fun h => b89_2 O R q y0 y1 y2 y3 y4 y5 y6 y7 h, .s fun y0 => .s fun y1 => .s fun y2 => .s fun y3 => .s fun y4 => .s fun y5 => .s fun y6 => .s fun y7 => .z fun h => b89_3 O R q y0 y1 y2 y3 y4 y5 y6 y7 h, .s fun y0 => .s fun y1 => .s fun y2 => .s fun y3 => .z fun h => b89_4 O R q y0 y1 y2 y3 h, .s fun y0 => .s fun y1 => .s fun y2 => .s fun y3 => .z fun h => b89_5 O R q y0 y1 y2 y3 h, .s fun y0 => .s fun y1 => .z fun h => b89_6 O R q y0 y1 h]
theorem o89 (O : Oracle) (R : Jump) (q : Nat) : HoldsAll c89 O R q 0 (d89 O R q) := ⟨fun y0 y1 h => e89_0 O R q y0 y1 h, fun y0 y1 y2 y3 y4 h => e89_1 O R q y0 y1 y2 y3 y4 h, fun y0 y1 y2 y3 y4 y5 y6 y7 h => e89_2 O R q y0 y1 y2 y3 y4 y5 y6 y7 h, fun y0 y1 y2 y3 y4 y5 y6 y7 h => e89_3 O R q y0 y1 y2 y3 y4 y5 y6 y7 h, fun y0 y1 y2 y3 h => e89_4 O R q y0 y1 y2 y3 h, fun y0 y1 y2 y3 h => e89_5 O R q y0 y1 y2 y3 h, fun y0 y1 h => e89_6 O R q y0 y1 h, trivial⟩
/- (*sprue/sprueref13.reader).number -/
def c90 : MFunc := { np := 1, res := [.cell 2 true 6], frz := true, body := (.seq (.reg [⟨(some 2), (.alloc [(.p (.int .i64 0)), (.p (.bool false)), (.p (.int .i64 0)), (.p (.str [])), (.p .nilslice), (.p .nilslice)] false), none⟩] []) (.seq (.reg [⟨(some 6), (.mv (.t 0)), none⟩, ⟨(some 7), (.nilck (.t 6)), none⟩, ⟨(some 8), (.faddr 1 (.t 7)), none⟩, ⟨(some 9), (.load false 1 (.t 8)), none⟩, ⟨(some 3), (.mv (.t 9)), none⟩] []) (.seq (.seq (.reg [⟨(some 10), (.mv (.t 0)), none⟩, ⟨(some 11), (.nilck (.t 10)), none⟩, ⟨(some 12), (.faddr 0 (.t 11)), none⟩, ⟨(some 13), (.load false 1 (.t 12)), none⟩, ⟨(some 14), (.mv (.t 3)), none⟩, ⟨(some 15), (.index (.t 13) (.t 14)), none⟩, ⟨(some 16), (.bin .eql 0 (.t 15) (.k (.v (.c (.p (.int .u8 45)))))), none⟩] []) (.cond (.t 16) (.reg [⟨(some 17), (.mv (.t 3)), none⟩, ⟨(some 18), (.bin .add 0 (.t 17) (.k (.v (.c (.p (.int .i64 1)))))), none⟩, ⟨(some 3), (.mv (.t 18)), none⟩] []) .skip)) (.mark 1 [0, 2, 3] (.seq (.seq (.reg [⟨(some 19), (.mv (.t 3)), none⟩, ⟨(some 20), (.mv (.t 0)), none⟩, ⟨(some 21), (.nilck (.t 20)), none⟩, ⟨(some 22), (.faddr 0 (.t 21)), none⟩, ⟨(some 23), (.load false 1 (.t 22)), none⟩, ⟨(some 24), (.len 0 (.t 23)), none⟩, ⟨(some 25), (.bin .geq 0 (.t 19) (.t 24)), none⟩, ⟨(some 26), (.mv (.t 25)), none⟩, ⟨(some 27), (.mv (.t 0)), (some (26, false))⟩, ⟨(some 28), (.nilck (.t 27)), (some (26, false))⟩, ⟨(some 29), (.faddr 0 (.t 28)), (some (26, false))⟩, ⟨(some 30), (.load false 1 (.t 29)), (some (26, false))⟩, ⟨(some 31), (.mv (.t 3)), (some (26, false))⟩, ⟨(some 32), (.index (.t 30) (.t 31)), (some (26, false))⟩, ⟨(some 33), (.call (.k (.v (.c (.func 86 [])))) [(.t 32)]), (some (26, false))⟩, ⟨(some 34), (.un .not (.t 33)), (some (26, false))⟩, ⟨(some 35), (.pick (.t 26) (.k (.v (.c (.p (.bool true))))) (.t 34)), none⟩] []) (.cond (.t 35) (.seq (.reg [⟨(some 36), (.mv (.t 0)), none⟩, ⟨(some 37), (.call (.k (.v (.c (.func 52 [])))) [(.t 36), (.k (.v (.c (.p (.int .i64 12)))))]), none⟩] []) (.seq (.reg [⟨(some 38), (.build [(.p (.int .i64 0)), (.p (.bool false)), (.p (.int .i64 0)), (.p (.str [])), (.p .nilslice), (.p .nilslice)] []), none⟩, ⟨none, (.store 6 (.t 2) (.t 38)), none⟩] []) .ret)) .skip)) (.seq (.seq (.reg [⟨(some 39), (.mv (.t 0)), none⟩, ⟨(some 40), (.nilck (.t 39)), none⟩, ⟨(some 41), (.faddr 0 (.t 40)), none⟩, ⟨(some 42), (.load false 1 (.t 41)), none⟩, ⟨(some 43), (.mv (.t 3)), none⟩, ⟨(some 44), (.index (.t 42) (.t 43)), none⟩, ⟨(some 45), (.bin .eql 0 (.t 44) (.k (.v (.c (.p (.int .u8 48)))))), none⟩] []) (.cond (.t 45) (.reg [⟨(some 46), (.mv (.t 3)), none⟩, ⟨(some 47), (.bin .add 0 (.t 46) (.k (.v (.c (.p (.int .i64 1)))))), none⟩, ⟨(some 3), (.mv (.t 47)), none⟩] []) (.block 0 (.loop 2 [0, 2, 3] (.seq (.seq (.reg [⟨(some 48), (.mv (.t 3)), none⟩, ⟨(some 49), (.mv (.t 0)), none⟩, ⟨(some 50), (.nilck (.t 49)), none⟩, ⟨(some 51), (.faddr 0 (.t 50)), none⟩, ⟨(some 52), (.load false 1 (.t 51)), none⟩, ⟨(some 53), (.len 0 (.t 52)), none⟩, ⟨(some 54), (.bin .lss 0 (.t 48) (.t 53)), none⟩, ⟨(some 55), (.mv (.t 54)), none⟩, ⟨(some 56), (.mv (.t 0)), (some (55, true))⟩, ⟨(some 57), (.nilck (.t 56)), (some (55, true))⟩, ⟨(some 58), (.faddr 0 (.t 57)), (some (55, true))⟩, ⟨(some 59), (.load false 1 (.t 58)), (some (55, true))⟩, ⟨(some 60), (.mv (.t 3)), (some (55, true))⟩, ⟨(some 61), (.index (.t 59) (.t 60)), (some (55, true))⟩, ⟨(some 62), (.call (.k (.v (.c (.func 86 [])))) [(.t 61)]), (some (55, true))⟩, ⟨(some 63), (.pick (.t 55) (.t 62) (.k (.v (.c (.p (.bool false)))))), none⟩] []) (.cond (.t 63) .skip (.exit 0))) (.block 1 (.reg [⟨(some 64), (.mv (.t 3)), none⟩, ⟨(some 65), (.bin .add 0 (.t 64) (.k (.v (.c (.p (.int .i64 1)))))), none⟩, ⟨(some 3), (.mv (.t 65)), none⟩] []))))))) (.mark 3 [0, 2, 3] (.seq (.reg [⟨(some 67), (.mv (.t 0)), none⟩, ⟨(some 68), (.nilck (.t 67)), none⟩, ⟨(some 69), (.faddr 0 (.t 68)), none⟩, ⟨(some 70), (.load false 1 (.t 69)), none⟩, ⟨(some 71), (.mv (.t 0)), none⟩, ⟨(some 72), (.nilck (.t 71)), none⟩, ⟨(some 73), (.faddr 1 (.t 72)), none⟩, ⟨(some 74), (.load false 1 (.t 73)), none⟩, ⟨(some 75), (.mv (.t 3)), none⟩, ⟨(some 76), (.slice 0 true (.t 70) (some (.t 74)) (some (.t 75)) none), none⟩, ⟨(some 77), (.call (.k (.v (.c (.func 109 [])))) [(.t 76)]), none⟩, ⟨(some 66), (.mv (.t 77)), none⟩, ⟨(some 78), (.extract (.t 66) 0), none⟩, ⟨(some 79), (.extract (.t 66) 1), none⟩, ⟨(some 4), (.mv (.t 78)), none⟩, ⟨(some 5), (.mv (.t 79)), none⟩] []) (.seq (.seq (.reg [⟨(some 80), (.mv (.t 5)), none⟩, ⟨(some 81), (.bin .neq 0 (.t 80) (.k (.v (.c (.p (.int .i64 0)))))), none⟩] []) (.cond (.t 81) (.seq (.reg [⟨(some 82), (.mv (.t 0)), none⟩, ⟨(some 83), (.call (.k (.v (.c (.func 52 [])))) [(.t 82), (.k (.v (.c (.p (.int .i64 11)))))]), none⟩] []) (.seq (.reg [⟨(some 84), (.build [(.p (.int .i64 0)), (.p (.bool false)), (.p (.int .i64 0)), (.p (.str [])), (.p .nilslice), (.p .nilslice)] []), none⟩, ⟨none, (.store 6 (.t 2) (.t 84)), none⟩] []) .ret)) .skip)) (.seq (.reg [⟨(some 85), (.mv (.t 0)), none⟩, ⟨(some 86), (.mv (.t 3)), none⟩, ⟨(some 87), (.nilck (.t 85)), none⟩, ⟨(some 88), (.faddr 1 (.t 87)), none⟩, ⟨none, (.store 1 (.t 88) (.t 86)), none⟩] []) (.seq (.reg [⟨(some 89), (.mv (.t 4)), none⟩, ⟨(some 90), (.build [(.p (.int .i64 0)), (.p (.bool false)), (.p (.int .i64 0)), (.p (.str [])), (.p .nilslice), (.p .nilslice)] [(0, 1, (.k (.v (.c (.p (.int .i64 2)))))), (2, 1, (.t 89))]), none⟩, ⟨none, (.store 6 (.t 2) (.t 90)), none⟩] []) .ret))))))))))) }
theorem t90 : compF Tryd.prog (globs2 tabs opq) false true Tryd.f90 = some c90.erase := by kernel_rfl
noncomputable def b90_0 (O : Oracle) (R : Jump) (q : Nat) (x0 : TVal) (h : Heap) : Res1 :=
  vop O (.alloc [(.p (.int .i64 0)), (.p (.bool false)), (.p (.int .i64 0)), (.p (.str [])), (.p .nilslice), (.p .nilslice)] false) h 2 fun x2 h =>
  vop O (.nilck (.k x0)) h 7 fun x7 h =>
  vfaddr 1 x7 h fun x8 h =>
  vload false 1 x8 h fun x9 h =>
  vop O (.nilck (.k x0)) h 11 fun x11 h =>
  vfaddr 0 x11 h fun x12 h =>
  vload false 1 x12 h fun x13 h =>
  vindex x13 x9 h fun x15 h =>
  vbin .eql 0 x15 (.v (.c (.p (.int .u8 45)))) h fun x16 h =>
  vif x16 (
  vbin .add 0 x9 (kI 1) h fun x18 h =>
  R 1 [x0, x2, x18] h)
  (R 1 [x0, x2, x9] h)
theorem e90_0 (O : Oracle) (R : Jump) (q : Nat) (x0 : TVal) (h : Heap) : b90_0 O R q x0 h = stepF c90 O R q 0 [x0] h := by kernel_rfl
noncomputable def b90_1 (O : Oracle) (R : Jump) (q : Nat) (x0 x2 x3 : TVal) (h : Heap) : Res1 :=
  vop O (.nilck (.k x0)) h 21 fun x21 h =>
  vfaddr 0 x21 h fun x22 h =>
  vload false 1 x22 h fun x23 h =>
  vlen O 0 x23 h 24 fun x24 h =>
  vbin .geq 0 x3 x24 h fun x25 h =>
  vguard x25 false (fun kk => kk x0 h) h fun x27 h =>
  vguard x25 false (fun kk => vop O (.nilck (.k x27)) h 28 kk) h fun x28 h =>
  vguard x25 false (fun kk => vfaddr 0 x28 h kk) h fun x29 h =>
  vguard x25 false (fun kk => vload false 1 x29 h kk) h fun x30 h =>
  vguard x25 false (fun kk => kk x3 h) h fun x31 h =>
  vguard x25 false (fun kk => vindex x30 x31 h kk) h fun x32 h =>
  vguard x25 false (fun kk => vcall O (.v (.c (.func 86 []))) [x32] h 33 kk) h fun x33 h =>
  vguard x25 false (fun kk => vop O (.un .not (.k x33)) h 34 kk) h fun x34 h =>
  vop O (.pick (.k x25) (.k (kB true)) (.k x34)) h 35 fun x35 h =>
  vif x35 (
  vcall O (.v (.c (.func 52 []))) [x0, (kI 12)] h 37 fun x37 h =>
  vop O (.build [(.p (.int .i64 0)), (.p (.bool false)), (.p (.int .i64 0)), (.p (.str [])), (.p .nilslice), (.p .nilslice)] []) h 38 fun x38 h =>
  vstore 6 x2 x38 h fun _ h =>
  vcell true 6 x2 h fun c0 => vfin true q [c0] h)
  (vop O (.nilck (.k x0)) h 40 fun x40 h =>
  vfaddr 0 x40 h fun x41 h =>
  vload false 1 x41 h fun x42 h =>
  vindex x42 x3 h fun x44 h =>
  vbin .eql 0 x44 (.v (.c (.p (.int .u8 48)))) h fun x45 h =>
  vif x45 (
  vbin .add 0 x3 (kI 1) h fun x47 h =>
  R 3 [x0, x2, x47] h)
  (R 2 [x0, x2, x3] h))
theorem e90_1 (O : Oracle) (R : Jump) (q : Nat) (x0 x2 x3 : TVal) (h : Heap) : b90_1 O R q x0 x2 x3 h = stepF c90 O R q 1 [x0, x2, x3] h := by kernel_rfl
noncomputable def b90_2 (O : Oracle) (R : Jump) (q : Nat) (x0 x2 x3 : TVal) (h : Heap) : Res1 :=
  vop O (.nilck (.k x0)) h 50 fun x50 h =>
  vfaddr 0 x50 h fun x51 h =>
  vload false 1 x51 h fun x52 h =>
  vlen O 0 x52 h 53 fun x53 h =>
  vbin .lss 0 x3 x53 h fun x54 h =>
  vguard x54 true (fun kk => kk x0 h) h fun x56 h =>
  vguard x54 true (fun kk => vop O (.nilck (.k x56)) h 57 kk) h fun x57 h =>
  vguard x54 true (fun kk => vfaddr 0 x57 h kk) h fun x58 h =>
  vguard x54 true (fun kk => vload false 1 x58 h kk) h fun x59 h =>
  vguard x54 true (fun kk => kk x3 h) h fun x60 h =>
  vguard x54 true (fun kk => vindex x59 x60 h kk) h fun x61 h =>
  vguard x54 true (fun kk => vcall O (.v (.c (.func 86 []))) [x61] h 62 kk) h fun x62 h =>
  vop O (.pick (.k x54) (.k x62) (.k (kB false))) h 63 fun x63 h =>
  vif x63 (
  vbin .add 0 x3 (kI 1) h fun x65 h =>
  R 2 [x0, x2, x65] h)
  (R 3 [x0, x2, x3] h)
theorem e90_2 (O : Oracle) (R : Jump) (q : Nat) (x0 x2 x3 : TVal) (h : Heap) : b90_2 O R q x0 x2 x3 h = stepF c90 O R q 2 [x0, x2, x3] h := by kernel_rfl
noncomputable def b90_3 (O : Oracle) (R : Jump) (q : Nat) (x0 x2 x3 : TVal) (h : Heap) : Res1 :=
  vop O (.nilck (.k x0)) h 68 fun x68 h =>
  vfaddr 0 x68 h fun x69 h =>
  vload false 1 x69 h fun x70 h =>
  vop O (.nilck (.k x0)) h 72 fun x72 h =>
  vfaddr 1 x72 h fun x73 h =>
  vload false 1 x73 h fun x74 h =>
  vop O (.slice 0 true (.k x70) (some (.k x74)) (some (.k x3)) none) h 76 fun x76 h =>
  vcall O (.v (.c (.func 109 []))) [x76] h 77 fun x77 h =>
  vext x77 0 h fun x78 h =>
  vext x77 1 h fun x79 h =>
  vbin .neq 0 x79 (kI 0) h fun x81 h =>
  vif x81 (
  vcall O (.v (.c (.func 52 []))) [x0, (kI 11)] h 83 fun x83 h =>
  vop O (.build [(.p (.int .i64 0)), (.p (.bool false)), (.p (.int .i64 0)), (.p (.str [])), (.p .nilslice), (.p .nilslice)] []) h 84 fun x84 h =>
  vstore 6 x2 x84 h fun _ h =>
  vcell true 6 x2 h fun c0 => vfin true q [c0] h)
  (vop O (.nilck (.k x0)) h 87 fun x87 h =>
  vfaddr 1 x87 h fun x88 h =>
  vstore 1 x88 x3 h fun _ h =>
  vop O (.build [(.p (.int .i64 0)), (.p (.bool false)), (.p (.int .i64 0)), (.p (.str [])), (.p .nilslice), (.p .nilslice)] [(0, 1, (.k (kI 2))), (2, 1, (.k x78))]) h 90 fun x90 h =>
  vstore 6 x2 x90 h fun _ h =>
  vcell true 6 x2 h fun c0 => vfin true q [c0] h)
theorem e90_3 (O : Oracle) (R : Jump) (q : Nat) (x0 x2 x3 : TVal) (h : Heap) : b90_3 O R q x0 x2 x3 h = stepF c90 O R q 3 [x0, x2, x3] h := by kernel_rfl
noncomputable def d90 : BlkF := fun O R q => [.s fun y0 => .z fun h => b90_0 O R q y0 h, .s fun y0 => .s fun y1 => .s fun y2 => .z fun h => b90_1 O R q y0 y1 y2 h, .s fun y0 => .s fun y1 => .s fun y2 => .z fun h => b90_2 O R q y0 y1 y2 h, .s fun y0 => .s fun y1 => .s fun y2 => .z fun h => b90_3 O R q y0 y1 y2 h]
theorem o90 (O : Oracle) (R : Jump) (q : Nat) : HoldsAll c90 O R q 0 (d90 O R q) := ⟨fun y0 h => e90_0 O R q y0 h, fun y0 y1 y2 h => e90_1 O R q y0 y1 y2 h, fun y0 y1 y2 h => e90_2 O R q y0 y1 y2 h, fun y0 y1 y2 h => e90_3 O R q y0 y1 y2 h, trivial⟩
/- (*sprue/sprueref13.walk).check -/
def c91 : MFunc := { np := 3, res := [.t 6], frz := true, body := (.seq (.reg [⟨(some 4), (.box (.t 1) false), none⟩, ⟨(some 6), (.mv (.k (.v (.c (.p (.int .i64 0)))))), none⟩] []) (.seq (.reg [⟨(some 11), (.mv (.t 0)), none⟩, ⟨(some 12), (.nilck (.t 11)), none⟩, ⟨(some 13), (.faddr 0 (.t 12)), none⟩, ⟨(some 14), (.load false 1 (.t 13)), none⟩, ⟨(some 15), (.bin .add 0 (.t 14) (.k (.v (.c (.p (.int .i64 1)))))), none⟩, ⟨(some 16), (.nilck (.t 11)), none⟩, ⟨(some 17), (.faddr 0 (.t 16)), none⟩, ⟨none, (.store 1 (.t 17) (.t 15)), none⟩] []) (.seq (.seq (.reg [⟨(some 18), (.mv (.t 0)), none⟩, ⟨(some 19), (.nilck (.t 18)), none⟩, ⟨(some 20), (.faddr 0 (.t 19)), none⟩, ⟨(some 21), (.load false 1 (.t 20)), none⟩, ⟨(some 22), (.bin .gtr 0 (.t 21) (.k (.v (.c (.p (.int .i64 2000)))))), none⟩] []) (.cond (.t 22) (.seq (.reg [⟨(some 6), (.mv (.k (.v (.c (.p (.int .i64 3)))))), none⟩] []) .ret) .skip)) (.seq (.seq (.reg [⟨(some 23), (.load true 6 (.t 4)), none⟩, ⟨(some 24), (.call (.k (.v (.c (.func 112 [])))) [(.t 23)]), none⟩, ⟨(some 25), (.un .not (.t 24)), none⟩] []) (.cond (.t 25) (.seq (.reg [⟨(some 6), (.mv (.k (.v (.c (.p (.int .i64 1)))))), none⟩] []) .ret) .skip)) (.seq (.seq (.reg [⟨(some 26), (.mv (.t 2)), none⟩, ⟨(some 27), (.bin .gtr 0 (.t 26) (.k (.v (.c (.p (.int .i64 12)))))), none⟩] []) (.cond (.t 27) (.seq (.reg [⟨(some 6), (.mv (.k (.v (.c (.p (.int .i64 13)))))), none⟩] []) .ret) .skip)) (.seq (.seq (.reg [⟨(some 28), (.faddr 5 (.t 4)), none⟩, ⟨(some 29), (.load false 1 (.t 28)), none⟩, ⟨(some 30), (.len 2 (.t 29)), none⟩, ⟨(some 31), (.bin .gtr 0 (.t 30) (.k (.v (.c (.p (.int .i64 40)))))), none⟩] []) (.cond (.t 31) (.seq (.reg [⟨(some 6), (.mv (.k (.v (.c (.p (.int .i64 3)))))), none⟩] []) .ret) .skip)) (.seq (.seq (.reg [⟨(some 32), (.faddr 3 (.t 4)), none⟩, ⟨(some 33), (.load false 1 (.t 32)), none⟩, ⟨(some 34), (.len 0 (.t 33)), none⟩, ⟨(some 35), (.bin .gtr 0 (.t 34) (.k (.v (.c (.p (.int .i64 200)))))), none⟩] []) (.cond (.t 35) (.seq (.reg [⟨(some 6), (.mv (.k (.v (.c (.p (.int .i64 4)))))), none⟩] []) .ret) .skip)) (.seq (.seq (.reg [⟨(some 7), (.mv (.k (.v (.c (.p (.int .i64 0)))))), none⟩] []) (.block 0 (.loop 1 [0, 2, 4, 7] (.seq (.seq (.reg [⟨(some 36), (.mv (.t 7)), none⟩, ⟨(some 37), (.faddr 4 (.t 4)), none⟩, ⟨(some 38), (.load false 1 (.t 37)), none⟩, ⟨(some 39), (.len 2 (.t 38)), none⟩, ⟨(some 40), (.bin .lss 0 (.t 36) (.t 39)), none⟩] []) (.cond (.t 40) .skip (.exit 0))) (.seq (.block 1 (.seq (.reg [⟨(some 43), (.faddr 4 (.t 4)), none⟩, ⟨(some 44), (.load false 1 (.t 43)), none⟩, ⟨(some 45), (.mv (.t 7)), none⟩, ⟨(some 46), (.iaddr 1 (.t 44) (.t 45)), none⟩, ⟨(some 47), (.load false 1 (.t 46)), none⟩, ⟨(some 48), (.len 0 (.t 47)), none⟩, ⟨(some 49), (.bin .gtr 0 (.t 48) (.k (.v (.c (.p (.int .i64 200)))))), none⟩] []) (.cond (.t 49) (.seq (.reg [⟨(some 6), (.mv (.k (.v (.c (.p (.int .i64 4)))))), none⟩] []) .ret) .skip))) (.reg [⟨(some 41), (.mv (.t 7)), none⟩, ⟨(some 42), (.bin .add 0 (.t 41) (.k (.v (.c (.p (.int .i64 1)))))), none⟩, ⟨(some 7), (.mv (.t 42)), none⟩] [])))))) (.mark 2 [0, 2, 4] (.seq (.seq (.reg [⟨(some 8), (.mv (.k (.v (.c (.p (.int .i64 1)))))), none⟩] []) (.block 2 (.loop 3 [0, 2, 4, 8] (.seq (.seq (.reg [⟨(some 50), (.mv (.t 8)), none⟩, ⟨(some 51), (.faddr 4 (.t 4)), none⟩, ⟨(some 52), (.load false 1 (.t 51)), none⟩, ⟨(some 53), (.len 2 (.t 52)), none⟩, ⟨(some 54), (.bin .lss 0 (.t 50) (.t 53)), none⟩] []) (.cond (.t 54) .skip (.exit 2))) (.seq (.block 3 (.seq (.reg [⟨(some 57), (.faddr 4 (.t 4)), none⟩, ⟨(some 58), (.load false 1 (.t 57)), none⟩, ⟨(some 59), (.mv (.t 8)), none⟩, ⟨(some 60), (.iaddr 1 (.t 58) (.t 59)), none⟩, ⟨(some 61), (.load false 1 (.t 60)), none⟩, ⟨(some 62), (.faddr 4 (.t 4)), none⟩, ⟨(some 63), (.load false 1 (.t 62)), none⟩, ⟨(some 64), (.mv (.t 8)), none⟩, ⟨(some 65), (.bin .sub 0 (.t 64) (.k (.v (.c (.p (.int .i64 1)))))), none⟩, ⟨(some 66), (.iaddr 1 (.t 63) (.t 65)), none⟩, ⟨(some 67), (.load false 1 (.t 66)), none⟩, ⟨(some 68), (.bin .leq 0 (.t 61) (.t 67)), none⟩] []) (.cond (.t 68) (.seq (.reg [⟨(some 6), (.mv (.k (.v (.c (.p (.int .i64 6)))))), none⟩] []) .ret) .skip))) (.reg [⟨(some 55), (.mv (.t 8)), none⟩, ⟨(some 56), (.bin .add 0 (.t 55) (.k (.v (.c (.p (.int .i64 1)))))), none⟩, ⟨(some 8), (.mv (.t 56)), none⟩] [])))))) (.mark 4 [0, 2, 4] (.seq (.seq (.reg [⟨(some 9), (.mv (.k (.v (.c (.p (.int .i64 0)))))), none⟩] []) (.block 4 (.loop 5 [0, 2, 4, 9] (.seq (.seq (.reg [⟨(some 69), (.mv (.t 9)), none⟩, ⟨(some 70), (.faddr 5 (.t 4)), none⟩, ⟨(some 71), (.load false 1 (.t 70)), none⟩, ⟨(some 72), (.len 2 (.t 71)), none⟩, ⟨(some 73), (.bin .lss 0 (.t 69) (.t 72)), none⟩] []) (.cond (.t 73) .skip (.exit 4))) (.seq (.block 5 (.seq (.reg [⟨(some 76), (.mv (.t 0)), none⟩, ⟨(some 77), (.faddr 5 (.t 4)), none⟩, ⟨(some 78), (.load false 1 (.t 77)), none⟩, ⟨(some 79), (.mv (.t 9)), none⟩, ⟨(some 80), (.iaddr 6 (.t 78) (.t 79)), none⟩, ⟨(some 81), (.load true 6 (.t 80)), none⟩, ⟨(some 82), (.mv (.t 2)), none⟩, ⟨(some 83), (.bin .add 0 (.t 82) (.k (.v (.c (.p (.int .i64 1)))))), none⟩, ⟨(some 84), (.call (.k (.v (.c (.func 91 [])))) [(.t 76), (.t 81), (.t 83)]), none⟩, ⟨(some 10), (.mv (.t 84)), none⟩] []) (.seq (.reg [⟨(some 85), (.mv (.t 10)), none⟩, ⟨(some 86), (.bin .neq 0 (.t 85) (.k (.v (.c (.p (.int .i64 0)))))), none⟩] []) (.cond (.t 86) (.seq (.reg [⟨(some 87), (.mv (.t 10)), none⟩, ⟨(some 6), (.mv (.t 87)), none⟩] []) .ret) .skip)))) (.reg [⟨(some 74), (.mv (.t 9)), none⟩, ⟨(some 75), (.bin .add 0 (.t 74) (.k (.v (.c (.p (.int .i64 1)))))), none⟩, ⟨(some 9), (.mv (.t 75)), none⟩] [])))))) (.seq (.reg [⟨(some 6), (.mv (.k (.v (.c (.p (.int .i64 0)))))), none⟩] []) .ret))))))))))))) }
theorem t91 : compF Tryd.prog (globs2 tabs opq) false true Tryd.f91 = some c91.erase := by kernel_rfl
noncomputable def b91_0 (O : Oracle) (R : Jump) (q : Nat) (x0 x1 x2 : TVal) (h : Heap) : Res1 :=
  vop O (.box (.k x1) false) h 4 fun x4 h =>
  vop O (.nilck (.k x0)) h 12 fun x12 h =>
  vfaddr 0 x12 h fun x13 h =>
  vload false 1 x13 h fun x14 h =>
  vbin .add 0 x14 (kI 1) h fun x15 h =>
  vop O (.nilck (.k x0)) h 16 fun x16 h =>
  vfaddr 0 x16 h fun x17 h =>
  vstore 1 x17 x15 h fun _ h =>
  vop O (.nilck (.k x0)) h 19 fun x19 h =>
  vfaddr 0 x19 h fun x20 h =>
  vload false 1 x20 h fun x21 h =>
  vbin .gtr 0 x21 (kI 2000) h fun x22 h =>
  vif x22 (
  tcomp (kI 3) fun c0 => vfin true q [c0] h)
  (vload true 6 x4 h fun x23 h =>
  vcall O (.v (.c (.func 112 []))) [x23] h 24 fun x24 h =>
  vop O (.un .not (.k x24)) h 25 fun x25 h =>
  vif x25 (
  tcomp (kI 1) fun c0 => vfin true q [c0] h)
  (vbin .gtr 0 x2 (kI 12) h fun x27 h =>
  vif x27 (
  tcomp (kI 13) fun c0 => vfin true q [c0] h)
  (vfaddr 5 x4 h fun x28 h =>
  vload false 1 x28 h fun x29 h =>
  vlen O 2 x29 h 30 fun x30 h =>
  vbin .gtr 0 x30 (kI 40) h fun x31 h =>
  vif x31 (
  tcomp (kI 3) fun c0 => vfin true q [c0] h)
  (vfaddr 3 x4 h fun x32 h =>
  vload false 1 x32 h fun x33 h =>
  vlen O 0 x33 h 34 fun x34 h =>
  vbin .gtr 0 x34 (kI 200) h fun x35 h =>
  vif x35 (
  tcomp (kI 4) fun c0 => vfin true q [c0] h)
  (R 1 [x0, x2, x4, (kI 0)] h)))))
theorem e91_0 (O : Oracle) (R : Jump) (q : Nat) (x0 x1 x2 : TVal) (h : Heap) : b91_0 O R q x0 x1 x2 h = stepF c91 O R q 0 [x0, x1, x2] h := by kernel_rfl
noncomputable def b91_1 (O : Oracle) (R : Jump) (q : Nat) (x0 x2 x4 x7 : TVal) (h : Heap) : Res1 :=
  vfaddr 4 x4 h fun x37 h =>
  vload false 1 x37 h fun x38 h =>
  vlen O 2 x38 h 39 fun x39 h =>
  vbin .lss 0 x7 x39 h fun x40 h =>
  vif x40 (
  vfaddr 4 x4 h fun x43 h =>
  vload false 1 x43 h fun x44 h =>
  viaddr 1 x44 x7 h fun x46 h =>
  vload false 1 x46 h fun x47 h =>
  vlen O 0 x47 h 48 fun x48 h =>
  vbin .gtr 0 x48 (kI 200) h fun x49 h =>
  vif x49 (
  tcomp (kI 4) fun c0 => vfin true q [c0] h)
  (vbin .add 0 x7 (kI 1) h fun x42 h =>
  R 1 [x0, x2, x4, x42] h))
  (R 2 [x0, x2, x4] h)
theorem e91_1 (O : Oracle) (R : Jump) (q : Nat) (x0 x2 x4 x7 : TVal) (h : Heap) : b91_1 O R q x0 x2 x4 x7 h = stepF c91 O R q 1 [x0, x2, x4, x7] h := by kernel_rfl
noncomputable def b91_2 (O : Oracle) (R : Jump) (q : Nat) (x0 x2 x4 : TVal) (h : Heap) : Res1 :=
  R 3 [x0, x2, x4, (kI 1)] h
theorem e91_2 (O : Oracle) (R : Jump) (q : Nat) (x0 x2 x4 : TVal) (h : Heap) : b91_2 O R q x0 x2 x4 h = stepF c91 O R q 2 [x0, x2, x4] h := by kernel_rfl
noncomputable def b91_3 (O : Oracle) (R : Jump) (q : Nat) (x0 x2 x4 x8 : TVal) (h : Heap) : Res1 :=
  vfaddr 4 x4 h fun x51 h =>
  vload false 1 x51 h fun x52 h =>
  vlen O 2 x52 h 53 fun x53 h =>
  vbin .lss 0 x8 x53 h fun x54 h =>
  vif x54 (
  vfaddr 4 x4 h fun x57 h =>
  vload false 1 x57 h fun x58 h =>
  viaddr 1 x58 x8 h fun x60 h =>
  vload false 1 x60 h fun x61 h =>
  vfaddr 4 x4 h fun x62 h =>
  vload false 1 x62 h fun x63 h =>
  vbin .sub 0 x8 (kI 1) h fun x65 h =>
  viaddr 1 x63 x65 h fun x66 h =>
  vload false 1 x66 h fun x67 h =>
  vbin .leq 0 x61 x67 h fun x68 h =>
  vif x68 (
  tcomp (kI 6) fun c0 => vfin true q [c0] h)
  (vbin .add 0 x8 (kI 1) h fun x56 h =>
  R 3 [x0, x2, x4, x56] h))
  (R 4 [x0, x2, x4] h)
theorem e91_3 (O : Oracle) (R : Jump) (q : Nat) (x0 x2 x4 x8 : TVal) (h : Heap) : b91_3 O R q x0 x2 x4 x8 h = stepF c91 O R q 3 [x0, x2, x4, x8] h := by kernel_rfl
noncomputable def b91_4 (O : Oracle) (R : Jump) (q : Nat) (x0 x2 x4 : TVal) (h : Heap) : Res1 :=
  R 5 [x0, x2, x4, (kI 0)] h
theorem e91_4 (O : Oracle) (R : Jump) (q : Nat) (x0 x2 x4 : TVal) (h : Heap) : b91_4 O R q x0 x2 x4 h = stepF c91 O R q 4 [x0, x2, x4] h := by kernel_rfl
noncomputable def b91_5 (O : Oracle) (R : Jump) (q : Nat) (x0 x2 x4 x9 : TVal) (h : Heap) : Res1 :=
  vfaddr 5 x4 h fun x70 h =>
  vload false 1 x70 h fun x71 h =>
  vlen O 2 x71 h 72 fun x72 h =>
  vbin .lss 0 x9 x72 h fun x73 h =>
  vif x73 (
  vfaddr 5 x4 h fun x77 h =>
  vload false 1 x77 h fun x78 h =>
  viaddr 6 x78 x9 h fun x80 h =>
  vload true 6 x80 h fun x81 h =>
  vbin .add 0 x2 (kI 1) h fun x83 h =>
  vcall O (.v (.c (.func 91 []))) [x0, x81, x83] h 84 fun x84 h =>
  vbin .neq 0 x84 (kI 0) h fun x86 h =>
  vif x86 (
  tcomp x84 fun c0 => vfin true q [c0] h)
  (vbin .add 0 x9 (kI 1) h fun x75 h =>
  R 5 [x0, x2, x4, x75] h))
  (tcomp (kI 0) fun c0 => vfin true q [c0] h)
theorem e91_5 (O : Oracle) (R : Jump) (q : Nat) (x0 x2 x4 x9 : TVal) (h : Heap) : b91_5 O R q x0 x2 x4 x9 h = stepF c91 O R q 5 [x0, x2, x4, x9] h := by kernel_rfl
noncomputable def d91 : BlkF := fun O R q => [.s fun y0 => .s fun y1 => .s fun y2 => .z fun h => b91_0 O R q y0 y1 y2 h, .s fun y0 => .s fun y1 => .s fun y2 => .s fun y3 => .z fun h => b91_1 O R q y0 y1 y2 y3 h, .s fun y0 => .s fun y1 => .s fun y2 => .z fun h => b91_2 O R q y0 y1 y2 h, .s fun y0 => .s fun y1 => .s fun y2 => .s fun y3 => .z fun h => b91_3 O R q y0 y1 y2 y3 h, .s fun y0 => .s fun y1 => .s fun y2 => .z fun h => b91_4 O R q y0 y1 y2 h, .s fun y0 => .s fun y1 => .s fun y2 => .s fun y3 => .z fun h => b91_5 O R q y0 y1 y2 y3 h]
theorem o91 (O : Oracle) (R : Jump) (q : Nat) : HoldsAll c91 O R q 0 (d91 O R q) := ⟨fun y0 y1 y2 h => e91_0 O R q y0 y1 y2 h, fun y0 y1 y2 y3 h => e91_1 O R q y0 y1 y2 y3 h, fun y0 y1 y2 h => e91_2 O R q y0 y1 y2 h, fun y0 y1 y2 y3 h => e91_3 O R q y0 y1 y2 y3 h, fun y0 y1 y2 h => e91_4 O R q y0 y1 y2 h, fun y0 y1 y2 y3 h => e91_5 O R q y0 y1 y2 y3 h, trivial⟩
end Go.Proofs.YtkkbfljipfndgaaDoor.Ab
