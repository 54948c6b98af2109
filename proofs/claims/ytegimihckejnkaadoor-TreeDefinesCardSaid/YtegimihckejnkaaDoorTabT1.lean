/- Functions of the given program as the abstract interpreter has them (part 1), printed by a program of our own; each is shown to be what 'compF' makes of the given program's. No condition. -/
import Derived.Test.YtegimihckejnkaaDoorTabT0
namespace Go.Proofs.YtegimihckejnkaaDoor.Ab
open Go Go.AI
set_option linter.all false
set_option linter.unusedVariables false
set_option maxRecDepth 100000
/- sprue/tree.act -/
def c50 : MFunc := { np := 1, res := [.cell 2 true 10, .t 3], frz := true, body := (.seq (.reg [⟨(some 2), (.alloc [(.p (.int .i64 0)), (.p (.int .i64 0)), (.p (.str [])), (.p (.str [])), (.p .nilslice), (.p .nilslice), (.p .nilslice), (.p (.bool false)), (.p .nilslice), (.p (.str []))] false), none⟩, ⟨(some 3), (.mv (.k (.v (.c (.p (.int .i64 0)))))), none⟩] []) (.seq (.reg [⟨(some 9), (.mv (.t 0)), none⟩, ⟨(some 10), (.call (.k (.v (.c (.func 29 [])))) [(.t 9)]), none⟩, ⟨(some 4), (.mv (.t 10)), none⟩] []) (.seq (.reg [⟨(some 5), (.alloc [(.p (.int .i64 0)), (.p (.int .i64 0)), (.p (.str [])), (.p (.str [])), (.p .nilslice), (.p .nilslice), (.p .nilslice), (.p (.bool false)), (.p .nilslice), (.p (.str []))] false), none⟩] []) (.seq (.reg [⟨(some 11), (.mv (.t 4)), none⟩, ⟨(some 12), (.call (.k (.v (.c (.func 80 [])))) [(.t 11), (.k (.v (.c (.p (.int .i64 0)))))]), none⟩, ⟨(some 6), (.alloc [(.p (.int .i64 0)), (.p (.str [])), (.p (.int .i64 0)), (.p (.int .i64 0))] false), none⟩, ⟨none, (.store 4 (.t 6) (.t 12)), none⟩] []) (.seq (.seq (.reg [⟨(some 13), (.faddr 0 (.t 6)), none⟩, ⟨(some 14), (.load false 1 (.t 13)), none⟩, ⟨(some 15), (.bin .eql 0 (.t 14) (.k (.v (.c (.p (.int .i64 1)))))), none⟩] []) (.cond (.t 15) (.reg [⟨(some 16), (.faddr 1 (.t 6)), none⟩, ⟨(some 17), (.load false 1 (.t 16)), none⟩, ⟨(some 18), (.faddr 9 (.t 5)), none⟩, ⟨none, (.store 1 (.t 18) (.t 17)), none⟩] []) .skip)) (.mark 1 [2, 4, 5, 6] (.seq (.reg [⟨(some 19), (.load true 4 (.t 6)), none⟩, ⟨(some 20), (.call (.k (.v (.c (.func 81 [])))) [(.t 19), (.k (.v (.c (.p (.str [36])))))]), none⟩, ⟨(some 21), (.mv (.t 20)), none⟩, ⟨(some 22), (.mv (.t 4)), (some (21, true))⟩, ⟨(some 23), (.call (.k (.v (.c (.func 80 [])))) [(.t 22), (.k (.v (.c (.p (.int .i64 1)))))]), (some (21, true))⟩, ⟨(some 24), (.field 0 1 false (.t 23)), (some (21, true))⟩, ⟨(some 25), (.bin .eql 0 (.t 24) (.k (.v (.c (.p (.int .i64 1)))))), (some (21, true))⟩, ⟨(some 26), (.pick (.t 21) (.t 25) (.k (.v (.c (.p (.bool false)))))), none⟩, ⟨(some 7), (.mv (.t 26)), none⟩] []) (.seq (.block 0 (.seq (.reg [⟨(some 28), (.mv (.t 7)), none⟩, ⟨(some 29), (.mv (.t 28)), none⟩, ⟨(some 30), (.mv (.t 4)), (some (29, true))⟩, ⟨(some 31), (.call (.k (.v (.c (.func 80 [])))) [(.t 30), (.k (.v (.c (.p (.int .i64 2)))))]), (some (29, true))⟩, ⟨(some 32), (.call (.k (.v (.c (.func 81 [])))) [(.t 31), (.k (.v (.c (.p (.str [58, 61])))))]), (some (29, true))⟩, ⟨(some 33), (.mv (.t 32)), (some (29, true))⟩, ⟨(some 34), (.mv (.t 4)), (some (33, false))⟩, ⟨(some 35), (.call (.k (.v (.c (.func 80 [])))) [(.t 34), (.k (.v (.c (.p (.int .i64 2)))))]), (some (33, false))⟩, ⟨(some 36), (.call (.k (.v (.c (.func 81 [])))) [(.t 35), (.k (.v (.c (.p (.str [61])))))]), (some (33, false))⟩, ⟨(some 37), (.pick (.t 33) (.k (.v (.c (.p (.bool true))))) (.t 36)), (some (29, true))⟩, ⟨(some 38), (.pick (.t 29) (.t 37) (.k (.v (.c (.p (.bool false)))))), none⟩, ⟨(some 27), (.mv (.t 38)), none⟩] []) (.cond (.t 27) (.seq (.reg [⟨(some 39), (.mv (.t 4)), none⟩, ⟨(some 40), (.call (.k (.v (.c (.func 80 [])))) [(.t 39), (.k (.v (.c (.p (.int .i64 1)))))]), none⟩, ⟨(some 41), (.field 1 1 false (.t 40)), none⟩, ⟨(some 42), (.faddr 0 (.t 5)), none⟩, ⟨(some 43), (.faddr 0 (.t 42)), none⟩, ⟨none, (.store 1 (.t 43) (.k (.v (.c (.p (.int .i64 3)))))), none⟩, ⟨(some 44), (.faddr 0 (.t 5)), none⟩, ⟨(some 45), (.faddr 3 (.t 44)), none⟩, ⟨none, (.store 1 (.t 45) (.t 41)), none⟩] []) (.seq (.seq (.reg [⟨(some 46), (.mv (.t 4)), none⟩, ⟨(some 47), (.call (.k (.v (.c (.func 80 [])))) [(.t 46), (.k (.v (.c (.p (.int .i64 2)))))]), none⟩, ⟨(some 48), (.call (.k (.v (.c (.func 81 [])))) [(.t 47), (.k (.v (.c (.p (.str [61])))))]), none⟩] []) (.cond (.t 48) (.reg [⟨(some 49), (.faddr 0 (.t 5)), none⟩, ⟨(some 50), (.faddr 0 (.t 49)), none⟩, ⟨none, (.store 1 (.t 50) (.k (.v (.c (.p (.int .i64 4)))))), none⟩] []) .skip)) (.mark 2 [2, 4, 5] (.seq (.reg [⟨(some 51), (.mv (.t 4)), none⟩, ⟨(some 52), (.nilck (.t 51)), none⟩, ⟨(some 53), (.faddr 1 (.t 52)), none⟩, ⟨(some 54), (.load false 1 (.t 53)), none⟩, ⟨(some 55), (.bin .add 0 (.t 54) (.k (.v (.c (.p (.int .i64 3)))))), none⟩, ⟨(some 56), (.nilck (.t 51)), none⟩, ⟨(some 57), (.faddr 1 (.t 56)), none⟩, ⟨none, (.store 1 (.t 57) (.t 55)), none⟩] []) (.reg [⟨(some 58), (.mv (.t 4)), none⟩, ⟨(some 59), (.call (.k (.v (.c (.func 30 [])))) [(.t 58)]), none⟩, ⟨(some 60), (.faddr 0 (.t 5)), none⟩, ⟨(some 61), (.faddr 4 (.t 60)), none⟩, ⟨none, (.store 1 (.t 61) (.t 59)), none⟩] []))))) (.seq (.reg [⟨(some 63), (.mv (.t 4)), none⟩, ⟨(some 64), (.call (.k (.v (.c (.func 82 [])))) [(.t 63), (.t 5)]), none⟩, ⟨(some 65), (.un .not (.t 64)), none⟩, ⟨(some 62), (.mv (.t 65)), none⟩] []) (.cond (.t 62) (.seq (.reg [⟨(some 66), (.faddr 0 (.t 5)), none⟩, ⟨(some 67), (.faddr 0 (.t 66)), none⟩, ⟨none, (.store 1 (.t 67) (.k (.v (.c (.p (.int .i64 2)))))), none⟩] []) (.reg [⟨(some 68), (.mv (.t 4)), none⟩, ⟨(some 69), (.call (.k (.v (.c (.func 30 [])))) [(.t 68)]), none⟩, ⟨(some 70), (.faddr 0 (.t 5)), none⟩, ⟨(some 71), (.faddr 4 (.t 70)), none⟩, ⟨none, (.store 1 (.t 71) (.t 69)), none⟩] [])) .skip))))) (.mark 3 [2, 4, 5] (.seq (.seq (.reg [⟨(some 72), (.mv (.t 4)), none⟩, ⟨(some 73), (.call (.k (.v (.c (.func 31 [])))) [(.t 72)]), none⟩, ⟨(some 8), (.mv (.t 73)), none⟩] []) (.seq (.reg [⟨(some 74), (.mv (.t 8)), none⟩, ⟨(some 75), (.bin .neq 0 (.t 74) (.k (.v (.c (.p (.int .i64 0)))))), none⟩] []) (.cond (.t 75) (.seq (.reg [⟨(some 76), (.build [(.p (.int .i64 0)), (.p (.int .i64 0)), (.p (.str [])), (.p (.str [])), (.p .nilslice), (.p .nilslice), (.p .nilslice), (.p (.bool false)), (.p .nilslice), (.p (.str []))] []), none⟩, ⟨(some 77), (.mv (.t 8)), none⟩, ⟨none, (.store 10 (.t 2) (.t 76)), none⟩, ⟨(some 3), (.mv (.t 77)), none⟩] []) .ret) .skip))) (.seq (.reg [⟨(some 78), (.load true 10 (.t 5)), none⟩, ⟨none, (.store 10 (.t 2) (.t 78)), none⟩, ⟨(some 3), (.mv (.k (.v (.c (.p (.int .i64 0)))))), none⟩] []) .ret))))))))))) }
theorem t50 : compF Tryd.prog (globs2 tabs opq) false true Tryd.f50 = some c50.erase := by kernel_rfl
noncomputable def b50_0 (O : Oracle) (R : Jump) (q : Nat) (x0 : TVal) (h : Heap) : Res1 :=
  vop O (.alloc [(.p (.int .i64 0)), (.p (.int .i64 0)), (.p (.str [])), (.p (.str [])), (.p .nilslice), (.p .nilslice), (.p .nilslice), (.p (.bool false)), (.p .nilslice), (.p (.str []))] false) h 2 fun x2 h =>
  vcall O (.v (.c (.func 29 []))) [x0] h 10 fun x10 h =>
  vop O (.alloc [(.p (.int .i64 0)), (.p (.int .i64 0)), (.p (.str [])), (.p (.str [])), (.p .nilslice), (.p .nilslice), (.p .nilslice), (.p (.bool false)), (.p .nilslice), (.p (.str []))] false) h 5 fun x5 h =>
  vcall O (.v (.c (.func 80 []))) [x10, (kI 0)] h 12 fun x12 h =>
  vop O (.alloc [(.p (.int .i64 0)), (.p (.str [])), (.p (.int .i64 0)), (.p (.int .i64 0))] false) h 6 fun x6 h =>
  vstore 4 x6 x12 h fun _ h =>
  vfaddr 0 x6 h fun x13 h =>
  vload false 1 x13 h fun x14 h =>
  vbin .eql 0 x14 (kI 1) h fun x15 h =>
  vif x15 (
  vfaddr 1 x6 h fun x16 h =>
  vload false 1 x16 h fun x17 h =>
  vfaddr 9 x5 h fun x18 h =>
  vstore 1 x18 x17 h fun _ h =>
  R 1 [x2, x10, x5, x6] h)
  (R 1 [x2, x10, x5, x6] h)
theorem e50_0 (O : Oracle) (R : Jump) (q : Nat) (x0 : TVal) (h : Heap) : b50_0 O R q x0 h = stepF c50 O R q 0 [x0] h := by kernel_rfl
noncomputable def b50_1 (O : Oracle) (R : Jump) (q : Nat) (x2 x4 x5 x6 : TVal) (h : Heap) : Res1 :=
  vload true 4 x6 h fun x19 h =>
  vcall O (.v (.c (.func 81 []))) [x19, (kS [36])] h 20 fun x20 h =>
  vguard x20 true (fun kk => kk x4 h) h fun x22 h =>
  vguard x20 true (fun kk => vcall O (.v (.c (.func 80 []))) [x22, (kI 1)] h 23 kk) h fun x23 h =>
  vguard x20 true (fun kk => vfield 0 1 false x23 h kk) h fun x24 h =>
  vguard x20 true (fun kk => vbin .eql 0 x24 (kI 1) h kk) h fun x25 h =>
  vop O (.pick (.k x20) (.k x25) (.k (kB false))) h 26 fun x26 h =>
  vguard x26 true (fun kk => kk x4 h) h fun x30 h =>
  vguard x26 true (fun kk => vcall O (.v (.c (.func 80 []))) [x30, (kI 2)] h 31 kk) h fun x31 h =>
  vguard x26 true (fun kk => vcall O (.v (.c (.func 81 []))) [x31, (kS [58, 61])] h 32 kk) h fun x32 h =>
  vguard x26 true (fun kk => kk x32 h) h fun x33 h =>
  vguard x33 false (fun kk => kk x4 h) h fun x34 h =>
  vguard x33 false (fun kk => vcall O (.v (.c (.func 80 []))) [x34, (kI 2)] h 35 kk) h fun x35 h =>
  vguard x33 false (fun kk => vcall O (.v (.c (.func 81 []))) [x35, (kS [61])] h 36 kk) h fun x36 h =>
  vguard x26 true (fun kk => vop O (.pick (.k x33) (.k (kB true)) (.k x36)) h 37 kk) h fun x37 h =>
  vop O (.pick (.k x26) (.k x37) (.k (kB false))) h 38 fun x38 h =>
  vif x38 (
  vcall O (.v (.c (.func 80 []))) [x4, (kI 1)] h 40 fun x40 h =>
  vfield 1 1 false x40 h fun x41 h =>
  vfaddr 0 x5 h fun x42 h =>
  vfaddr 0 x42 h fun x43 h =>
  vstore 1 x43 (kI 3) h fun _ h =>
  vfaddr 0 x5 h fun x44 h =>
  vfaddr 3 x44 h fun x45 h =>
  vstore 1 x45 x41 h fun _ h =>
  vcall O (.v (.c (.func 80 []))) [x4, (kI 2)] h 47 fun x47 h =>
  vcall O (.v (.c (.func 81 []))) [x47, (kS [61])] h 48 fun x48 h =>
  vif x48 (
  vfaddr 0 x5 h fun x49 h =>
  vfaddr 0 x49 h fun x50 h =>
  vstore 1 x50 (kI 4) h fun _ h =>
  R 2 [x2, x4, x5] h)
  (R 2 [x2, x4, x5] h))
  (vcall O (.v (.c (.func 82 []))) [x4, x5] h 64 fun x64 h =>
  vop O (.un .not (.k x64)) h 65 fun x65 h =>
  vif x65 (
  vfaddr 0 x5 h fun x66 h =>
  vfaddr 0 x66 h fun x67 h =>
  vstore 1 x67 (kI 2) h fun _ h =>
  vcall O (.v (.c (.func 30 []))) [x4] h 69 fun x69 h =>
  vfaddr 0 x5 h fun x70 h =>
  vfaddr 4 x70 h fun x71 h =>
  vstore 1 x71 x69 h fun _ h =>
  R 3 [x2, x4, x5] h)
  (R 3 [x2, x4, x5] h))
theorem e50_1 (O : Oracle) (R : Jump) (q : Nat) (x2 x4 x5 x6 : TVal) (h : Heap) : b50_1 O R q x2 x4 x5 x6 h = stepF c50 O R q 1 [x2, x4, x5, x6] h := by kernel_rfl
noncomputable def b50_2 (O : Oracle) (R : Jump) (q : Nat) (x2 x4 x5 : TVal) (h : Heap) : Res1 :=
  vop O (.nilck (.k x4)) h 52 fun x52 h =>
  vfaddr 1 x52 h fun x53 h =>
  vload false 1 x53 h fun x54 h =>
  vbin .add 0 x54 (kI 3) h fun x55 h =>
  vop O (.nilck (.k x4)) h 56 fun x56 h =>
  vfaddr 1 x56 h fun x57 h =>
  vstore 1 x57 x55 h fun _ h =>
  vcall O (.v (.c (.func 30 []))) [x4] h 59 fun x59 h =>
  vfaddr 0 x5 h fun x60 h =>
  vfaddr 4 x60 h fun x61 h =>
  vstore 1 x61 x59 h fun _ h =>
  R 3 [x2, x4, x5] h
theorem e50_2 (O : Oracle) (R : Jump) (q : Nat) (x2 x4 x5 : TVal) (h : Heap) : b50_2 O R q x2 x4 x5 h = stepF c50 O R q 2 [x2, x4, x5] h := by kernel_rfl
noncomputable def b50_3 (O : Oracle) (R : Jump) (q : Nat) (x2 x4 x5 : TVal) (h : Heap) : Res1 :=
  vcall O (.v (.c (.func 31 []))) [x4] h 73 fun x73 h =>
  vbin .neq 0 x73 (kI 0) h fun x75 h =>
  vif x75 (
  vop O (.build [(.p (.int .i64 0)), (.p (.int .i64 0)), (.p (.str [])), (.p (.str [])), (.p .nilslice), (.p .nilslice), (.p .nilslice), (.p (.bool false)), (.p .nilslice), (.p (.str []))] []) h 76 fun x76 h =>
  vstore 10 x2 x76 h fun _ h =>
  vcell true 10 x2 h fun c0 => tcomp x73 fun c1 => vfin true q [c0, c1] h)
  (vload true 10 x5 h fun x78 h =>
  vstore 10 x2 x78 h fun _ h =>
  vcell true 10 x2 h fun c0 => tcomp (kI 0) fun c1 => vfin true q [c0, c1] h)
theorem e50_3 (O : Oracle) (R : Jump) (q : Nat) (x2 x4 x5 : TVal) (h : Heap) : b50_3 O R q x2 x4 x5 h = stepF c50 O R q 3 [x2, x4, x5] h := by kernel_rfl
noncomputable def d50 : BlkF := fun O R q => [.s fun y0 => .z fun h => b50_0 O R q y0 h, .s fun y0 => .s fun y1 => .s fun y2 => .s fun y3 => .z fun h => b50_1 O R q y0 y1 y2 y3 h, .s fun y0 => .s fun y1 => .s fun y2 => .z fun h => b50_2 O R q y0 y1 y2 h, .s fun y0 => .s fun y1 => .s fun y2 => .z fun h => b50_3 O R q y0 y1 y2 h]
theorem o50 (O : Oracle) (R : Jump) (q : Nat) : HoldsAll c50 O R q 0 (d50 O R q) := ⟨fun y0 h => e50_0 O R q y0 h, fun y0 y1 y2 y3 h => e50_1 O R q y0 y1 y2 y3 h, fun y0 y1 y2 h => e50_2 O R q y0 y1 y2 h, fun y0 y1 y2 h => e50_3 O R q y0 y1 y2 h, trivial⟩
/- (*sprue/tree.maker).wrong -/
def c51 : MFunc := { np := 2, res := [.t 4], frz := true, body := (.seq (.reg [⟨(some 3), (.box (.t 1) true), none⟩, ⟨(some 4), (.mv (.k (.v (.c (.p (.bool false)))))), none⟩] []) (.seq (.reg [⟨(some 6), (.mv (.t 0)), none⟩, ⟨(some 7), (.call (.k (.v (.c (.func 28 [])))) [(.t 6)]), none⟩, ⟨(some 5), (.mv (.t 7)), none⟩] []) (.seq (.seq (.reg [⟨(some 8), (.faddr 0 (.t 3)), none⟩, ⟨(some 9), (.faddr 0 (.t 8)), none⟩, ⟨(some 10), (.load false 1 (.t 9)), none⟩] []) (.block 0 (.seq (.reg [⟨(some 12), (.bin .eql 0 (.t 10) (.k (.v (.c (.p (.int .i64 (-2))))))), none⟩, ⟨(some 11), (.mv (.t 12)), none⟩] []) (.cond (.t 11) (.seq (.reg [⟨(some 13), (.mv (.t 5)), none⟩, ⟨(some 14), (.bin .eql 1 (.t 13) (.k (.v (.c (.p .nilptr))))), none⟩, ⟨(some 4), (.mv (.t 14)), none⟩] []) .ret) (.seq (.reg [⟨(some 16), (.bin .eql 0 (.t 10) (.k (.v (.c (.p (.int .i64 (-1))))))), none⟩, ⟨(some 15), (.mv (.t 16)), none⟩] []) (.cond (.t 15) (.seq (.reg [⟨(some 17), (.mv (.t 5)), none⟩, ⟨(some 18), (.bin .eql 1 (.t 17) (.k (.v (.c (.p .nilptr))))), none⟩, ⟨(some 19), (.mv (.t 18)), none⟩, ⟨(some 20), (.mv (.t 5)), (some (19, false))⟩, ⟨(some 21), (.nilck (.t 20)), (some (19, false))⟩, ⟨(some 22), (.faddr 9 (.t 21)), (some (19, false))⟩, ⟨(some 23), (.load false 1 (.t 22)), (some (19, false))⟩, ⟨(some 24), (.pick (.t 19) (.k (.v (.c (.p (.bool true))))) (.t 23)), none⟩, ⟨(some 25), (.mv (.t 24)), none⟩, ⟨(some 26), (.mv (.t 5)), (some (25, false))⟩, ⟨(some 27), (.nilck (.t 26)), (some (25, false))⟩, ⟨(some 28), (.faddr 11 (.t 27)), (some (25, false))⟩, ⟨(some 29), (.load false 1 (.t 28)), (some (25, false))⟩, ⟨(some 30), (.pick (.t 25) (.k (.v (.c (.p (.bool true))))) (.t 29)), none⟩, ⟨(some 4), (.mv (.t 30)), none⟩] []) .ret) (.seq (.reg [⟨(some 32), (.bin .eql 0 (.t 10) (.k (.v (.c (.p (.int .i64 (-3))))))), none⟩, ⟨(some 31), (.mv (.t 32)), none⟩] []) (.cond (.t 31) (.seq (.reg [⟨(some 33), (.mv (.t 5)), none⟩, ⟨(some 34), (.bin .eql 1 (.t 33) (.k (.v (.c (.p .nilptr))))), none⟩, ⟨(some 35), (.mv (.t 34)), none⟩, ⟨(some 36), (.mv (.t 5)), (some (35, false))⟩, ⟨(some 37), (.nilck (.t 36)), (some (35, false))⟩, ⟨(some 38), (.faddr 0 (.t 37)), (some (35, false))⟩, ⟨(some 39), (.faddr 0 (.t 38)), (some (35, false))⟩, ⟨(some 40), (.load false 1 (.t 39)), (some (35, false))⟩, ⟨(some 41), (.bin .neq 0 (.t 40) (.k (.v (.c (.p (.int .i64 8)))))), (some (35, false))⟩, ⟨(some 42), (.pick (.t 35) (.k (.v (.c (.p (.bool true))))) (.t 41)), none⟩, ⟨(some 43), (.mv (.t 42)), none⟩, ⟨(some 44), (.mv (.t 5)), (some (43, false))⟩, ⟨(some 45), (.nilck (.t 44)), (some (43, false))⟩, ⟨(some 46), (.faddr 11 (.t 45)), (some (43, false))⟩, ⟨(some 47), (.load false 1 (.t 46)), (some (43, false))⟩, ⟨(some 48), (.pick (.t 43) (.k (.v (.c (.p (.bool true))))) (.t 47)), none⟩, ⟨(some 4), (.mv (.t 48)), none⟩] []) .ret) (.seq (.reg [⟨(some 50), (.bin .eql 0 (.t 10) (.k (.v (.c (.p (.int .i64 (-4))))))), none⟩, ⟨(some 49), (.mv (.t 50)), none⟩] []) (.cond (.t 49) (.seq (.reg [⟨(some 51), (.mv (.t 5)), none⟩, ⟨(some 52), (.bin .neq 1 (.t 51) (.k (.v (.c (.p .nilptr))))), none⟩, ⟨(some 4), (.mv (.t 52)), none⟩] []) .ret) .skip)))))))))) (.seq (.reg [⟨(some 53), (.mv (.t 5)), none⟩, ⟨(some 54), (.call (.k (.v (.c (.func 56 [])))) [(.t 53)]), none⟩, ⟨(some 4), (.mv (.t 54)), none⟩] []) .ret)))) }
theorem t51 : compF Tryd.prog (globs2 tabs opq) true true Tryd.f51 = some c51.erase := by kernel_rfl
noncomputable def b51_0 (O : Oracle) (R : Jump) (q : Nat) (x0 x1 : TVal) (h : Heap) : Res1 :=
  vop O (.box (.k x1) true) h 3 fun x3 h =>
  vcall O (.v (.c (.func 28 []))) [x0] h 7 fun x7 h =>
  vfaddr 0 x3 h fun x8 h =>
  vfaddr 0 x8 h fun x9 h =>
  vload false 1 x9 h fun x10 h =>
  vbin .eql 0 x10 (kI (-2)) h fun x12 h =>
  vif x12 (
  vbin .eql 1 x7 (.v (.c (.p .nilptr))) h fun x14 h =>
  tcomp x14 fun c0 => vfin true q [c0] h)
  (vbin .eql 0 x10 (kI (-1)) h fun x16 h =>
  vif x16 (
  vbin .eql 1 x7 (.v (.c (.p .nilptr))) h fun x18 h =>
  vguard x18 false (fun kk => kk x7 h) h fun x20 h =>
  vguard x18 false (fun kk => vop O (.nilck (.k x20)) h 21 kk) h fun x21 h =>
  vguard x18 false (fun kk => vfaddr 9 x21 h kk) h fun x22 h =>
  vguard x18 false (fun kk => vload false 1 x22 h kk) h fun x23 h =>
  vop O (.pick (.k x18) (.k (kB true)) (.k x23)) h 24 fun x24 h =>
  vguard x24 false (fun kk => kk x7 h) h fun x26 h =>
  vguard x24 false (fun kk => vop O (.nilck (.k x26)) h 27 kk) h fun x27 h =>
  vguard x24 false (fun kk => vfaddr 11 x27 h kk) h fun x28 h =>
  vguard x24 false (fun kk => vload false 1 x28 h kk) h fun x29 h =>
  vop O (.pick (.k x24) (.k (kB true)) (.k x29)) h 30 fun x30 h =>
  tcomp x30 fun c0 => vfin true q [c0] h)
  (vbin .eql 0 x10 (kI (-3)) h fun x32 h =>
  vif x32 (
  vbin .eql 1 x7 (.v (.c (.p .nilptr))) h fun x34 h =>
  vguard x34 false (fun kk => kk x7 h) h fun x36 h =>
  vguard x34 false (fun kk => vop O (.nilck (.k x36)) h 37 kk) h fun x37 h =>
  vguard x34 false (fun kk => vfaddr 0 x37 h kk) h fun x38 h =>
  vguard x34 false (fun kk => vfaddr 0 x38 h kk) h fun x39 h =>
  vguard x34 false (fun kk => vload false 1 x39 h kk) h fun x40 h =>
  vguard x34 false (fun kk => vbin .neq 0 x40 (kI 8) h kk) h fun x41 h =>
  vop O (.pick (.k x34) (.k (kB true)) (.k x41)) h 42 fun x42 h =>
  vguard x42 false (fun kk => kk x7 h) h fun x44 h =>
  vguard x42 false (fun kk => vop O (.nilck (.k x44)) h 45 kk) h fun x45 h =>
  vguard x42 false (fun kk => vfaddr 11 x45 h kk) h fun x46 h =>
  vguard x42 false (fun kk => vload false 1 x46 h kk) h fun x47 h =>
  vop O (.pick (.k x42) (.k (kB true)) (.k x47)) h 48 fun x48 h =>
  tcomp x48 fun c0 => vfin true q [c0] h)
  (vbin .eql 0 x10 (kI (-4)) h fun x50 h =>
  vif x50 (
  vbin .neq 1 x7 (.v (.c (.p .nilptr))) h fun x52 h =>
  tcomp x52 fun c0 => vfin true q [c0] h)
  (vcall O (.v (.c (.func 56 []))) [x7] h 54 fun x54 h =>
  tcomp x54 fun c0 => vfin true q [c0] h))))
theorem e51_0 (O : Oracle) (R : Jump) (q : Nat) (x0 x1 : TVal) (h : Heap) : b51_0 O R q x0 x1 h = stepF c51 O R q 0 [x0, x1] h := by kernel_rfl
noncomputable def d51 : BlkF := fun O R q => [.s fun y0 => .s fun y1 => .z fun h => b51_0 O R q y0 y1 h]
theorem o51 (O : Oracle) (R : Jump) (q : Nat) : HoldsAll c51 O R q 0 (d51 O R q) := ⟨fun y0 y1 h => e51_0 O R q y0 y1 h, trivial⟩
/- (*sprue/tree.maker).shut -/
def c52 : MFunc := { np := 1, res := [], frz := true, body := (.seq (.reg [⟨(some 5), (.mv (.t 0)), none⟩, ⟨(some 6), (.call (.k (.v (.c (.func 28 [])))) [(.t 5)]), none⟩, ⟨(some 2), (.mv (.t 6)), none⟩] []) (.seq (.reg [⟨(some 7), (.mv (.t 0)), none⟩, ⟨(some 8), (.mv (.t 0)), none⟩, ⟨(some 9), (.nilck (.t 8)), none⟩, ⟨(some 10), (.faddr 2 (.t 9)), none⟩, ⟨(some 11), (.load false 1 (.t 10)), none⟩, ⟨(some 12), (.mv (.t 0)), none⟩, ⟨(some 13), (.nilck (.t 12)), none⟩, ⟨(some 14), (.faddr 2 (.t 13)), none⟩, ⟨(some 15), (.load false 1 (.t 14)), none⟩, ⟨(some 16), (.len 2 (.t 15)), none⟩, ⟨(some 17), (.bin .sub 0 (.t 16) (.k (.v (.c (.p (.int .i64 1)))))), none⟩, ⟨(some 18), (.slice 1 false (.t 11) none (some (.t 17)) none), none⟩, ⟨(some 19), (.nilck (.t 7)), none⟩, ⟨(some 20), (.faddr 2 (.t 19)), none⟩, ⟨none, (.store 1 (.t 20) (.t 18)), none⟩] []) (.seq (.seq (.reg [⟨(some 21), (.mv (.t 2)), none⟩, ⟨(some 22), (.nilck (.t 21)), none⟩, ⟨(some 23), (.faddr 11 (.t 22)), none⟩, ⟨(some 24), (.load false 1 (.t 23)), none⟩] []) (.cond (.t 24) (.seq (.reg [⟨(some 25), (.mv (.t 2)), none⟩, ⟨(some 26), (.mv (.t 2)), none⟩, ⟨(some 27), (.mv (.t 2)), none⟩, ⟨(some 28), (.nilck (.t 27)), none⟩, ⟨(some 29), (.faddr 10 (.t 28)), none⟩, ⟨(some 30), (.load false 1 (.t 29)), none⟩, ⟨(some 31), (.mv (.t 2)), none⟩, ⟨(some 32), (.nilck (.t 31)), none⟩, ⟨(some 33), (.faddr 10 (.t 32)), none⟩, ⟨(some 34), (.load false 1 (.t 33)), none⟩, ⟨(some 35), (.len 2 (.t 34)), none⟩, ⟨(some 36), (.bin .sub 0 (.t 35) (.k (.v (.c (.p (.int .i64 1)))))), none⟩, ⟨(some 37), (.iaddr 1 (.t 30) (.t 36)), none⟩, ⟨(some 38), (.load false 1 (.t 37)), none⟩, ⟨(some 39), (.nilck (.t 25)), none⟩, ⟨(some 40), (.faddr 0 (.t 39)), none⟩, ⟨(some 41), (.faddr 7 (.t 40)), none⟩, ⟨none, (.store 1 (.t 41) (.k (.v (.c (.p (.bool true)))))), none⟩, ⟨(some 42), (.nilck (.t 26)), none⟩, ⟨(some 43), (.faddr 0 (.t 42)), none⟩, ⟨(some 44), (.faddr 6 (.t 43)), none⟩, ⟨none, (.store 1 (.t 44) (.t 38)), none⟩] []) (.reg [⟨(some 45), (.mv (.t 2)), none⟩, ⟨(some 46), (.mv (.t 2)), none⟩, ⟨(some 47), (.nilck (.t 46)), none⟩, ⟨(some 48), (.faddr 10 (.t 47)), none⟩, ⟨(some 49), (.load false 1 (.t 48)), none⟩, ⟨(some 50), (.mv (.t 2)), none⟩, ⟨(some 51), (.nilck (.t 50)), none⟩, ⟨(some 52), (.faddr 10 (.t 51)), none⟩, ⟨(some 53), (.load false 1 (.t 52)), none⟩, ⟨(some 54), (.len 2 (.t 53)), none⟩, ⟨(some 55), (.bin .sub 0 (.t 54) (.k (.v (.c (.p (.int .i64 1)))))), none⟩, ⟨(some 56), (.slice 1 false (.t 49) none (some (.t 55)) none), none⟩, ⟨(some 57), (.nilck (.t 45)), none⟩, ⟨(some 58), (.faddr 10 (.t 57)), none⟩, ⟨none, (.store 1 (.t 58) (.t 56)), none⟩] [])) .skip)) (.mark 1 [0, 2] (.seq (.block 0 (.seq (.reg [⟨(some 70), (.mv (.t 2)), none⟩, ⟨(some 71), (.nilck (.t 70)), none⟩, ⟨(some 72), (.faddr 9 (.t 71)), none⟩, ⟨(some 73), (.load false 1 (.t 72)), none⟩, ⟨(some 69), (.mv (.t 73)), none⟩] []) (.cond (.t 69) (.seq (.reg [⟨(some 74), (.mv (.t 0)), none⟩, ⟨(some 75), (.mv (.t 0)), none⟩, ⟨(some 76), (.nilck (.t 75)), none⟩, ⟨(some 77), (.faddr 1 (.t 76)), none⟩, ⟨(some 78), (.load false 1 (.t 77)), none⟩, ⟨(some 79), (.mv (.t 2)), none⟩, ⟨(some 80), (.nilck (.t 79)), none⟩, ⟨(some 81), (.faddr 0 (.t 80)), none⟩, ⟨(some 82), (.faddr 3 (.t 81)), none⟩, ⟨(some 83), (.load false 1 (.t 82)), none⟩, ⟨(some 84), (.mv (.t 2)), none⟩, ⟨(some 85), (.nilck (.t 84)), none⟩, ⟨(some 86), (.faddr 10 (.t 85)), none⟩, ⟨(some 87), (.load false 1 (.t 86)), none⟩, ⟨(some 88), (.iaddr 1 (.t 87) (.k (.v (.c (.p (.int .i64 0)))))), none⟩, ⟨(some 89), (.load false 1 (.t 88)), none⟩, ⟨(some 90), (.build [(.p (.str [])), (.p .nilslice)] [(0, 1, (.t 83)), (1, 1, (.t 89))]), none⟩, ⟨(some 91), (.bslice 2 1 [(.p (.str [])), (.p .nilslice)] [(0, (.t 90))] true), none⟩, ⟨(some 92), (.append 2 40 true (.t 78) (.t 91)), none⟩, ⟨(some 93), (.nilck (.t 74)), none⟩, ⟨(some 94), (.faddr 1 (.t 93)), none⟩, ⟨none, (.store 1 (.t 94) (.t 92)), none⟩] [(4, 17)]) .ret) (.seq (.reg [⟨(some 96), (.mv (.t 2)), none⟩, ⟨(some 97), (.nilck (.t 96)), none⟩, ⟨(some 98), (.faddr 0 (.t 97)), none⟩, ⟨(some 99), (.faddr 0 (.t 98)), none⟩, ⟨(some 100), (.load false 1 (.t 99)), none⟩, ⟨(some 101), (.bin .eql 0 (.t 100) (.k (.v (.c (.p (.int .i64 8)))))), none⟩, ⟨(some 95), (.mv (.t 101)), none⟩] []) (.cond (.t 95) (.seq (.reg [⟨(some 102), (.mv (.t 2)), none⟩, ⟨(some 103), (.nilck (.t 102)), none⟩, ⟨(some 104), (.faddr 10 (.t 103)), none⟩, ⟨(some 105), (.load false 1 (.t 104)), none⟩, ⟨(some 106), (.slice 1 false (.t 105) (some (.k (.v (.c (.p (.int .i64 1)))))) none none), none⟩, ⟨(some 107), (.len 2 (.t 106)), none⟩, ⟨(some 108), (.mv (.k (.v (.c (.p (.int .i64 0)))))), none⟩] []) (.block 1 (.loop 2 [0, 2, 106, 107, 108] (.seq (.reg [⟨(some 109), (.bin .lss 0 (.t 108) (.t 107)), none⟩] []) (.seq (.cond (.t 109) .skip (.exit 1)) (.seq (.block 2 (.seq (.reg [⟨(some 110), (.mv (.t 108)), none⟩, ⟨(some 111), (.iaddr 1 (.t 106) (.t 108)), none⟩, ⟨(some 112), (.load false 1 (.t 111)), none⟩, ⟨(some 3), (.mv (.t 110)), none⟩, ⟨(some 4), (.mv (.t 112)), none⟩] []) (.reg [⟨(some 113), (.mv (.t 2)), none⟩, ⟨(some 114), (.nilck (.t 113)), none⟩, ⟨(some 115), (.faddr 0 (.t 114)), none⟩, ⟨(some 116), (.faddr 8 (.t 115)), none⟩, ⟨(some 117), (.load false 1 (.t 116)), none⟩, ⟨(some 118), (.mv (.t 3)), none⟩, ⟨(some 119), (.mv (.t 4)), none⟩, ⟨(some 120), (.iaddr 2 (.t 117) (.t 118)), none⟩, ⟨(some 121), (.faddr 1 (.t 120)), none⟩, ⟨none, (.store 1 (.t 121) (.t 119)), none⟩] []))) (.reg [⟨(some 122), (.bin .add 0 (.t 108) (.k (.v (.c (.p (.int .i64 1)))))), none⟩, ⟨(some 108), (.mv (.t 122)), none⟩] []))))))) (.reg [⟨(some 59), (.mv (.t 2)), none⟩, ⟨(some 60), (.mv (.t 2)), none⟩, ⟨(some 61), (.nilck (.t 60)), none⟩, ⟨(some 62), (.faddr 10 (.t 61)), none⟩, ⟨(some 63), (.load false 1 (.t 62)), none⟩, ⟨(some 64), (.iaddr 1 (.t 63) (.k (.v (.c (.p (.int .i64 0)))))), none⟩, ⟨(some 65), (.load false 1 (.t 64)), none⟩, ⟨(some 66), (.nilck (.t 59)), none⟩, ⟨(some 67), (.faddr 0 (.t 66)), none⟩, ⟨(some 68), (.faddr 5 (.t 67)), none⟩, ⟨none, (.store 1 (.t 68) (.t 65)), none⟩] [])))))) (.mark 3 [0, 2] (.reg [⟨(some 123), (.mv (.t 0)), none⟩, ⟨(some 124), (.mv (.t 2)), none⟩, ⟨(some 125), (.nilck (.t 124)), none⟩, ⟨(some 126), (.faddr 0 (.t 125)), none⟩, ⟨(some 127), (.load true 9 (.t 126)), none⟩, ⟨(some 128), (.call (.k (.v (.c (.func 55 [])))) [(.t 123), (.t 127)]), none⟩] []))))))) }
theorem t52 : compF Tryd.prog (globs2 tabs opq) true true Tryd.f52 = some c52.erase := by kernel_rfl
noncomputable def b52_0 (O : Oracle) (R : Jump) (q : Nat) (x0 : TVal) (h : Heap) : Res1 :=
  vcall O (.v (.c (.func 28 []))) [x0] h 6 fun x6 h =>
  vop O (.nilck (.k x0)) h 9 fun x9 h =>
  vfaddr 2 x9 h fun x10 h =>
  vload false 1 x10 h fun x11 h =>
  vop O (.nilck (.k x0)) h 13 fun x13 h =>
  vfaddr 2 x13 h fun x14 h =>
  vload false 1 x14 h fun x15 h =>
  vlen O 2 x15 h 16 fun x16 h =>
  vbin .sub 0 x16 (kI 1) h fun x17 h =>
  vop O (.slice 1 false (.k x11) none (some (.k x17)) none) h 18 fun x18 h =>
  vop O (.nilck (.k x0)) h 19 fun x19 h =>
  vfaddr 2 x19 h fun x20 h =>
  vstore 1 x20 x18 h fun _ h =>
  vop O (.nilck (.k x6)) h 22 fun x22 h =>
  vfaddr 11 x22 h fun x23 h =>
  vload false 1 x23 h fun x24 h =>
  vif x24 (
  vop O (.nilck (.k x6)) h 28 fun x28 h =>
  vfaddr 10 x28 h fun x29 h =>
  vload false 1 x29 h fun x30 h =>
  vop O (.nilck (.k x6)) h 32 fun x32 h =>
  vfaddr 10 x32 h fun x33 h =>
  vload false 1 x33 h fun x34 h =>
  vlen O 2 x34 h 35 fun x35 h =>
  vbin .sub 0 x35 (kI 1) h fun x36 h =>
  viaddr 1 x30 x36 h fun x37 h =>
  vload false 1 x37 h fun x38 h =>
  vop O (.nilck (.k x6)) h 39 fun x39 h =>
  vfaddr 0 x39 h fun x40 h =>
  vfaddr 7 x40 h fun x41 h =>
  vstore 1 x41 (kB true) h fun _ h =>
  vop O (.nilck (.k x6)) h 42 fun x42 h =>
  vfaddr 0 x42 h fun x43 h =>
  vfaddr 6 x43 h fun x44 h =>
  vstore 1 x44 x38 h fun _ h =>
  vop O (.nilck (.k x6)) h 47 fun x47 h =>
  vfaddr 10 x47 h fun x48 h =>
  vload false 1 x48 h fun x49 h =>
  vop O (.nilck (.k x6)) h 51 fun x51 h =>
  vfaddr 10 x51 h fun x52 h =>
  vload false 1 x52 h fun x53 h =>
  vlen O 2 x53 h 54 fun x54 h =>
  vbin .sub 0 x54 (kI 1) h fun x55 h =>
  vop O (.slice 1 false (.k x49) none (some (.k x55)) none) h 56 fun x56 h =>
  vop O (.nilck (.k x6)) h 57 fun x57 h =>
  vfaddr 10 x57 h fun x58 h =>
  vstore 1 x58 x56 h fun _ h =>
  R 1 [x0, x6] h)
  (R 1 [x0, x6] h)
theorem e52_0 (O : Oracle) (R : Jump) (q : Nat) (x0 : TVal) (h : Heap) : b52_0 O R q x0 h = stepF c52 O R q 0 [x0] h := by kernel_rfl
noncomputable def b52_1 (O : Oracle) (R : Jump) (q : Nat) (x0 x2 : TVal) (h : Heap) : Res1 :=
  vop O (.nilck (.k x2)) h 71 fun x71 h =>
  vfaddr 9 x71 h fun x72 h =>
  vload false 1 x72 h fun x73 h =>
  vif x73 (
  vtouch O (.mv (.k x0)) h 74 fun x74 h t0 =>
  vtouch O (.mv (.k x0)) h 75 fun x75 h t1 =>
  vtouch O (.nilck (.k x75)) h 76 fun x76 h t2 =>
  vtouch O (.faddr 1 (.k x76)) h 77 fun x77 h t3 =>
  vtouch O (.load false 1 (.k x77)) h 78 fun x78 h t4 =>
  vtouch O (.mv (.k x2)) h 79 fun x79 h t5 =>
  vtouch O (.nilck (.k x79)) h 80 fun x80 h t6 =>
  vtouch O (.faddr 0 (.k x80)) h 81 fun x81 h t7 =>
  vtouch O (.faddr 3 (.k x81)) h 82 fun x82 h t8 =>
  vtouch O (.load false 1 (.k x82)) h 83 fun x83 h t9 =>
  vtouch O (.mv (.k x2)) h 84 fun x84 h t10 =>
  vtouch O (.nilck (.k x84)) h 85 fun x85 h t11 =>
  vtouch O (.faddr 10 (.k x85)) h 86 fun x86 h t12 =>
  vtouch O (.load false 1 (.k x86)) h 87 fun x87 h t13 =>
  vtouch O (.iaddr 1 (.k x87) (.k (kI 0))) h 88 fun x88 h t14 =>
  vtouch O (.load false 1 (.k x88)) h 89 fun x89 h t15 =>
  vtouch O (.build [(.p (.str [])), (.p .nilslice)] [(0, 1, (.k x83)), (1, 1, (.k x89))]) h 90 fun x90 h t16 =>
  vtouch O (.bslice 2 1 [(.p (.str [])), (.p .nilslice)] [(0, (.k x90))] true) h 91 fun x91 h t17 =>
  vtouch O (.append 2 40 true (.k x78) (.k x91)) h 92 fun x92 h t18 =>
  vtouch O (.nilck (.k x74)) h 93 fun x93 h t19 =>
  vtouch O (.faddr 1 (.k x93)) h 94 fun x94 h t20 =>
  vtouch O (.store 1 (.k x94) (.k x92)) h 1000000 fun _ h t21 =>
  bif apartAll [t0, t1, t2, t3, t4, t5, t6, t7, t8, t9, t10, t11, t12, t13, t14, t15, t16, t17, t18, t19, t20, t21] [(4, 17)] then
  vfin true q [] h
  else none)
  (vop O (.nilck (.k x2)) h 97 fun x97 h =>
  vfaddr 0 x97 h fun x98 h =>
  vfaddr 0 x98 h fun x99 h =>
  vload false 1 x99 h fun x100 h =>
  vbin .eql 0 x100 (kI 8) h fun x101 h =>
  vif x101 (
  vop O (.nilck (.k x2)) h 103 fun x103 h =>
  vfaddr 10 x103 h fun x104 h =>
  vload false 1 x104 h fun x105 h =>
  vop O (.slice 1 false (.k x105) (some (.k (kI 1))) none none) h 106 fun x106 h =>
  vlen O 2 x106 h 107 fun x107 h =>
  R 2 [x0, x2, x106, x107, (kI 0)] h)
  (vop O (.nilck (.k x2)) h 61 fun x61 h =>
  vfaddr 10 x61 h fun x62 h =>
  vload false 1 x62 h fun x63 h =>
  viaddr 1 x63 (kI 0) h fun x64 h =>
  vload false 1 x64 h fun x65 h =>
  vop O (.nilck (.k x2)) h 66 fun x66 h =>
  vfaddr 0 x66 h fun x67 h =>
  vfaddr 5 x67 h fun x68 h =>
  vstore 1 x68 x65 h fun _ h =>
  R 3 [x0, x2] h))
theorem e52_1 (O : Oracle) (R : Jump) (q : Nat) (x0 x2 : TVal) (h : Heap) : b52_1 O R q x0 x2 h = stepF c52 O R q 1 [x0, x2] h := by kernel_rfl
noncomputable def b52_2 (O : Oracle) (R : Jump) (q : Nat) (x0 x2 x106 x107 x108 : TVal) (h : Heap) : Res1 :=
  vbin .lss 0 x108 x107 h fun x109 h =>
  vif x109 (
  viaddr 1 x106 x108 h fun x111 h =>
  vload false 1 x111 h fun x112 h =>
  vop O (.nilck (.k x2)) h 114 fun x114 h =>
  vfaddr 0 x114 h fun x115 h =>
  vfaddr 8 x115 h fun x116 h =>
  vload false 1 x116 h fun x117 h =>
  viaddr 2 x117 x108 h fun x120 h =>
  vfaddr 1 x120 h fun x121 h =>
  vstore 1 x121 x112 h fun _ h =>
  vbin .add 0 x108 (kI 1) h fun x122 h =>
  R 2 [x0, x2, x106, x107, x122] h)
  (R 3 [x0, x2] h)
theorem e52_2 (O : Oracle) (R : Jump) (q : Nat) (x0 x2 x106 x107 x108 : TVal) (h : Heap) : b52_2 O R q x0 x2 x106 x107 x108 h = stepF c52 O R q 2 [x0, x2, x106, x107, x108] h := by kernel_rfl
noncomputable def b52_3 (O : Oracle) (R : Jump) (q : Nat) (x0 x2 : TVal) (h : Heap) : Res1 :=
  vop O (.nilck (.k x2)) h 125 fun x125 h =>
  vfaddr 0 x125 h fun x126 h =>
  vload true 9 x126 h fun x127 h =>
  vcall O (.v (.c (.func 55 []))) [x0, x127] h 128 fun x128 h =>
  vfin true q [] h
theorem e52_3 (O : Oracle) (R : Jump) (q : Nat) (x0 x2 : TVal) (h : Heap) : b52_3 O R q x0 x2 h = stepF c52 O R q 3 [x0, x2] h := by kernel_rfl
noncomputable def d52 : BlkF := fun O R q => [.s fun y0 => .z fun h => b52_0 O R q y0 h, .s fun y0 => .s fun y1 => .z fun h => b52_1 O R q y0 y1 h, .s fun y0 => .s fun y1 => .s fun y2 => .s fun y3 => .s fun y4 => .z fun h => b52_2 O R q y0 y1 y2 y3 y4 h, .s fun y0 => .s fun y1 => .z fun h => b52_3 O R q y0 y1 h]
theorem o52 (O : Oracle) (R : Jump) (q : Nat) : HoldsAll c52 O R q 0 (d52 O R q) := ⟨fun y0 h => e52_0 O R q y0 h, fun y0 y1 h => e52_1 O R q y0 y1 h, fun y0 y1 y2 y3 y4 h => e52_2 O R q y0 y1 y2 y3 y4 h, fun y0 y1 h => e52_3 O R q y0 y1 h, trivial⟩
/- (*sprue/tree.maker).begin -/
def c53 : MFunc := { np := 2, res := [.t 4], frz := true, body := (.seq (.reg [⟨(some 3), (.box (.t 1) true), none⟩, ⟨(some 4), (.mv (.k (.v (.c (.p (.int .i64 0)))))), none⟩] []) (.seq (.seq (.reg [⟨(some 6), (.mv (.t 0)), none⟩, ⟨(some 7), (.nilck (.t 6)), none⟩, ⟨(some 8), (.faddr 2 (.t 7)), none⟩, ⟨(some 9), (.load false 1 (.t 8)), none⟩, ⟨(some 10), (.len 2 (.t 9)), none⟩, ⟨(some 11), (.bin .geq 0 (.t 10) (.k (.v (.c (.p (.int .i64 12)))))), none⟩] []) (.cond (.t 11) (.seq (.reg [⟨(some 4), (.mv (.k (.v (.c (.p (.int .i64 13)))))), none⟩] []) .ret) .skip)) (.seq (.reg [⟨(some 12), (.faddr 0 (.t 3)), none⟩, ⟨(some 13), (.load true 9 (.t 12)), none⟩, ⟨(some 14), (.faddr 0 (.t 3)), none⟩, ⟨(some 15), (.faddr 0 (.t 14)), none⟩, ⟨(some 16), (.load false 1 (.t 15)), none⟩, ⟨(some 17), (.bin .eql 0 (.t 16) (.k (.v (.c (.p (.int .i64 (-4))))))), none⟩, ⟨(some 18), (.bslice 1 1 [(.p .nilslice)] [(0, (.k (.v (.c (.p .nilslice)))))] true), none⟩, ⟨(some 19), (.build [(.p (.int .i64 0)), (.p (.int .i64 0)), (.p (.str [])), (.p (.str [])), (.p .nilslice), (.p .nilslice), (.p .nilslice), (.p (.bool false)), (.p .nilslice), (.p (.bool false)), (.p .nilslice), (.p (.bool false)), (.p (.bool false))] [(0, 9, (.t 13)), (9, 1, (.t 17)), (10, 1, (.t 18))]), none⟩, ⟨(some 20), (.box (.t 19) true), none⟩, ⟨(some 5), (.mv (.t 20)), none⟩] []) (.seq (.seq (.reg [⟨(some 21), (.mv (.t 5)), none⟩, ⟨(some 22), (.nilck (.t 21)), none⟩, ⟨(some 23), (.faddr 9 (.t 22)), none⟩, ⟨(some 24), (.load false 1 (.t 23)), none⟩] []) (.cond (.t 24) (.seq (.block 0 (.seq (.reg [⟨(some 26), (.faddr 0 (.t 3)), none⟩, ⟨(some 27), (.faddr 3 (.t 26)), none⟩, ⟨(some 28), (.load false 1 (.t 27)), none⟩, ⟨(some 29), (.call (.k (.v (.c (.func 54 [])))) [(.t 28)]), none⟩, ⟨(some 30), (.un .not (.t 29)), none⟩, ⟨(some 25), (.mv (.t 30)), none⟩] []) (.cond (.t 25) (.seq (.reg [⟨(some 4), (.mv (.k (.v (.c (.p (.int .i64 15)))))), none⟩] []) .ret) (.seq (.reg [⟨(some 32), (.mv (.t 0)), none⟩, ⟨(some 33), (.nilck (.t 32)), none⟩, ⟨(some 34), (.faddr 3 (.t 33)), none⟩, ⟨(some 35), (.load false 1 (.t 34)), none⟩, ⟨(some 36), (.faddr 0 (.t 3)), none⟩, ⟨(some 37), (.faddr 3 (.t 36)), none⟩, ⟨(some 38), (.load false 1 (.t 37)), none⟩, ⟨(some 39), (.call (.k (.v (.c (.func 83 [])))) [(.t 35), (.t 38)]), none⟩, ⟨(some 31), (.mv (.t 39)), none⟩] []) (.cond (.t 31) (.seq (.reg [⟨(some 4), (.mv (.k (.v (.c (.p (.int .i64 6)))))), none⟩] []) .ret) (.seq (.reg [⟨(some 41), (.mv (.t 0)), none⟩, ⟨(some 42), (.nilck (.t 41)), none⟩, ⟨(some 43), (.faddr 3 (.t 42)), none⟩, ⟨(some 44), (.load false 1 (.t 43)), none⟩, ⟨(some 45), (.len 2 (.t 44)), none⟩, ⟨(some 46), (.bin .geq 0 (.t 45) (.k (.v (.c (.p (.int .i64 12)))))), none⟩, ⟨(some 40), (.mv (.t 46)), none⟩] []) (.cond (.t 40) (.seq (.reg [⟨(some 4), (.mv (.k (.v (.c (.p (.int .i64 3)))))), none⟩] []) .ret) .skip))))))) (.reg [⟨(some 47), (.mv (.t 0)), none⟩, ⟨(some 48), (.mv (.t 0)), none⟩, ⟨(some 49), (.nilck (.t 48)), none⟩, ⟨(some 50), (.faddr 3 (.t 49)), none⟩, ⟨(some 51), (.load false 1 (.t 50)), none⟩, ⟨(some 52), (.faddr 0 (.t 3)), none⟩, ⟨(some 53), (.faddr 3 (.t 52)), none⟩, ⟨(some 54), (.load false 1 (.t 53)), none⟩, ⟨(some 55), (.bslice 1 1 [(.p (.str []))] [(0, (.t 54))] true), none⟩, ⟨(some 56), (.append 1 16 true (.t 51) (.t 55)), none⟩, ⟨(some 57), (.nilck (.t 47)), none⟩, ⟨(some 58), (.faddr 3 (.t 57)), none⟩, ⟨none, (.store 1 (.t 58) (.t 56)), none⟩] [(4, 8)])) .skip)) (.mark 1 [0, 5] (.seq (.reg [⟨(some 59), (.mv (.t 0)), none⟩, ⟨(some 60), (.mv (.t 0)), none⟩, ⟨(some 61), (.nilck (.t 60)), none⟩, ⟨(some 62), (.faddr 2 (.t 61)), none⟩, ⟨(some 63), (.load false 1 (.t 62)), none⟩, ⟨(some 64), (.mv (.t 5)), none⟩, ⟨(some 65), (.bslice 1 1 [(.p .nilptr)] [(0, (.t 64))] true), none⟩, ⟨(some 66), (.append 1 8 true (.t 63) (.t 65)), none⟩, ⟨(some 67), (.nilck (.t 59)), none⟩, ⟨(some 68), (.faddr 2 (.t 67)), none⟩, ⟨none, (.store 1 (.t 68) (.t 66)), none⟩] []) (.seq (.reg [⟨(some 4), (.mv (.k (.v (.c (.p (.int .i64 0)))))), none⟩] []) .ret))))))) }
theorem t53 : compF Tryd.prog (globs2 tabs opq) true true Tryd.f53 = some c53.erase := by kernel_rfl
noncomputable def b53_0 (O : Oracle) (R : Jump) (q : Nat) (x0 x1 : TVal) (h : Heap) : Res1 :=
  vop O (.box (.k x1) true) h 3 fun x3 h =>
  vop O (.nilck (.k x0)) h 7 fun x7 h =>
  vfaddr 2 x7 h fun x8 h =>
  vload false 1 x8 h fun x9 h =>
  vlen O 2 x9 h 10 fun x10 h =>
  vbin .geq 0 x10 (kI 12) h fun x11 h =>
  vif x11 (
  tcomp (kI 13) fun c0 => vfin true q [c0] h)
  (vfaddr 0 x3 h fun x12 h =>
  vload true 9 x12 h fun x13 h =>
  vfaddr 0 x3 h fun x14 h =>
  vfaddr 0 x14 h fun x15 h =>
  vload false 1 x15 h fun x16 h =>
  vbin .eql 0 x16 (kI (-4)) h fun x17 h =>
  vop O (.bslice 1 1 [(.p .nilslice)] [(0, (.k (.v (.c (.p .nilslice)))))] true) h 18 fun x18 h =>
  vop O (.build [(.p (.int .i64 0)), (.p (.int .i64 0)), (.p (.str [])), (.p (.str [])), (.p .nilslice), (.p .nilslice), (.p .nilslice), (.p (.bool false)), (.p .nilslice), (.p (.bool false)), (.p .nilslice), (.p (.bool false)), (.p (.bool false))] [(0, 9, (.k x13)), (9, 1, (.k x17)), (10, 1, (.k x18))]) h 19 fun x19 h =>
  vop O (.box (.k x19) true) h 20 fun x20 h =>
  vop O (.nilck (.k x20)) h 22 fun x22 h =>
  vfaddr 9 x22 h fun x23 h =>
  vload false 1 x23 h fun x24 h =>
  vif x24 (
  vfaddr 0 x3 h fun x26 h =>
  vfaddr 3 x26 h fun x27 h =>
  vload false 1 x27 h fun x28 h =>
  vcall O (.v (.c (.func 54 []))) [x28] h 29 fun x29 h =>
  vop O (.un .not (.k x29)) h 30 fun x30 h =>
  vif x30 (
  tcomp (kI 15) fun c0 => vfin true q [c0] h)
  (vop O (.nilck (.k x0)) h 33 fun x33 h =>
  vfaddr 3 x33 h fun x34 h =>
  vload false 1 x34 h fun x35 h =>
  vfaddr 0 x3 h fun x36 h =>
  vfaddr 3 x36 h fun x37 h =>
  vload false 1 x37 h fun x38 h =>
  vcall O (.v (.c (.func 83 []))) [x35, x38] h 39 fun x39 h =>
  vif x39 (
  tcomp (kI 6) fun c0 => vfin true q [c0] h)
  (vop O (.nilck (.k x0)) h 42 fun x42 h =>
  vfaddr 3 x42 h fun x43 h =>
  vload false 1 x43 h fun x44 h =>
  vlen O 2 x44 h 45 fun x45 h =>
  vbin .geq 0 x45 (kI 12) h fun x46 h =>
  vif x46 (
  tcomp (kI 3) fun c0 => vfin true q [c0] h)
  (vtouch O (.mv (.k x0)) h 47 fun x47 h t0 =>
  vtouch O (.mv (.k x0)) h 48 fun x48 h t1 =>
  vtouch O (.nilck (.k x48)) h 49 fun x49 h t2 =>
  vtouch O (.faddr 3 (.k x49)) h 50 fun x50 h t3 =>
  vtouch O (.load false 1 (.k x50)) h 51 fun x51 h t4 =>
  vtouch O (.faddr 0 (.k x3)) h 52 fun x52 h t5 =>
  vtouch O (.faddr 3 (.k x52)) h 53 fun x53 h t6 =>
  vtouch O (.load false 1 (.k x53)) h 54 fun x54 h t7 =>
  vtouch O (.bslice 1 1 [(.p (.str []))] [(0, (.k x54))] true) h 55 fun x55 h t8 =>
  vtouch O (.append 1 16 true (.k x51) (.k x55)) h 56 fun x56 h t9 =>
  vtouch O (.nilck (.k x47)) h 57 fun x57 h t10 =>
  vtouch O (.faddr 3 (.k x57)) h 58 fun x58 h t11 =>
  vtouch O (.store 1 (.k x58) (.k x56)) h 1000000 fun _ h t12 =>
  bif apartAll [t0, t1, t2, t3, t4, t5, t6, t7, t8, t9, t10, t11, t12] [(4, 8)] then
  R 1 [x0, x20] h
  else none))))
  (R 1 [x0, x20] h))
theorem e53_0 (O : Oracle) (R : Jump) (q : Nat) (x0 x1 : TVal) (h : Heap) : b53_0 O R q x0 x1 h = stepF c53 O R q 0 [x0, x1] h := by kernel_rfl
noncomputable def b53_1 (O : Oracle) (R : Jump) (q : Nat) (x0 x5 : TVal) (h : Heap) : Res1 :=
  vop O (.nilck (.k x0)) h 61 fun x61 h =>
  vfaddr 2 x61 h fun x62 h =>
  vload false 1 x62 h fun x63 h =>
  vop O (.bslice 1 1 [(.p .nilptr)] [(0, (.k x5))] true) h 65 fun x65 h =>
  vop O (.append 1 8 true (.k x63) (.k x65)) h 66 fun x66 h =>
  vop O (.nilck (.k x0)) h 67 fun x67 h =>
  vfaddr 2 x67 h fun x68 h =>
  vstore 1 x68 x66 h fun _ h =>
  tcomp (kI 0) fun c0 => vfin true q [c0] h
theorem e53_1 (O : Oracle) (R : Jump) (q : Nat) (x0 x5 : TVal) (h : Heap) : b53_1 O R q x0 x5 h = stepF c53 O R q 1 [x0, x5] h := by kernel_rfl
noncomputable def d53 : BlkF := fun O R q => [.s fun y0 => .s fun y1 => .z fun h => b53_0 O R q y0 y1 h, .s fun y0 => .s fun y1 => .z fun h => b53_1 O R q y0 y1 h]
theorem o53 (O : Oracle) (R : Jump) (q : Nat) : HoldsAll c53 O R q 0 (d53 O R q) := ⟨fun y0 y1 h => e53_0 O R q y0 y1 h, fun y0 y1 h => e53_1 O R q y0 y1 h, trivial⟩
/- sprue/scan.Ident -/
def c54 : MFunc := { np := 1, res := [.t 2], frz := true, body := (.seq (.reg [⟨(some 2), (.mv (.k (.v (.c (.p (.bool false)))))), none⟩] []) (.seq (.reg [⟨(some 3), (.mv (.t 0)), none⟩, ⟨(some 4), (.bin .neq 0 (.t 3) (.k (.v (.c (.p (.str [])))))), none⟩, ⟨(some 5), (.mv (.t 4)), none⟩, ⟨(some 6), (.mv (.t 0)), (some (5, true))⟩, ⟨(some 7), (.len 0 (.t 6)), (some (5, true))⟩, ⟨(some 8), (.bin .leq 0 (.t 7) (.k (.v (.c (.p (.int .i64 16)))))), (some (5, true))⟩, ⟨(some 9), (.pick (.t 5) (.t 8) (.k (.v (.c (.p (.bool false)))))), none⟩, ⟨(some 10), (.mv (.t 9)), none⟩, ⟨(some 11), (.mv (.t 0)), (some (10, true))⟩, ⟨(some 12), (.index (.t 11) (.k (.v (.c (.p (.int .i64 0)))))), (some (10, true))⟩, ⟨(some 13), (.call (.k (.v (.c (.func 74 [])))) [(.t 12)]), (some (10, true))⟩, ⟨(some 14), (.un .not (.t 13)), (some (10, true))⟩, ⟨(some 15), (.pick (.t 10) (.t 14) (.k (.v (.c (.p (.bool false)))))), none⟩, ⟨(some 16), (.mv (.t 15)), none⟩, ⟨(some 17), (.mv (.t 0)), (some (16, true))⟩, ⟨(some 18), (.call (.k (.v (.c (.func 84 [])))) [(.t 17)]), (some (16, true))⟩, ⟨(some 19), (.mv (.t 0)), (some (16, true))⟩, ⟨(some 20), (.len 0 (.t 19)), (some (16, true))⟩, ⟨(some 21), (.bin .eql 0 (.t 18) (.t 20)), (some (16, true))⟩, ⟨(some 22), (.pick (.t 16) (.t 21) (.k (.v (.c (.p (.bool false)))))), none⟩, ⟨(some 2), (.mv (.t 22)), none⟩] []) .ret)) }
theorem t54 : compF Tryd.prog (globs2 tabs opq) false true Tryd.f54 = some c54.erase := by kernel_rfl
noncomputable def b54_0 (O : Oracle) (R : Jump) (q : Nat) (x0 : TVal) (h : Heap) : Res1 :=
  vbin .neq 0 x0 (kS []) h fun x4 h =>
  vguard x4 true (fun kk => kk x0 h) h fun x6 h =>
  vguard x4 true (fun kk => vlen O 0 x6 h 7 kk) h fun x7 h =>
  vguard x4 true (fun kk => vbin .leq 0 x7 (kI 16) h kk) h fun x8 h =>
  vop O (.pick (.k x4) (.k x8) (.k (kB false))) h 9 fun x9 h =>
  vguard x9 true (fun kk => kk x0 h) h fun x11 h =>
  vguard x9 true (fun kk => vindex x11 (kI 0) h kk) h fun x12 h =>
  vguard x9 true (fun kk => vcall O (.v (.c (.func 74 []))) [x12] h 13 kk) h fun x13 h =>
  vguard x9 true (fun kk => vop O (.un .not (.k x13)) h 14 kk) h fun x14 h =>
  vop O (.pick (.k x9) (.k x14) (.k (kB false))) h 15 fun x15 h =>
  vguard x15 true (fun kk => kk x0 h) h fun x17 h =>
  vguard x15 true (fun kk => vcall O (.v (.c (.func 84 []))) [x17] h 18 kk) h fun x18 h =>
  vguard x15 true (fun kk => kk x0 h) h fun x19 h =>
  vguard x15 true (fun kk => vlen O 0 x19 h 20 kk) h fun x20 h =>
  vguard x15 true (fun kk => vbin .eql 0 x18 x20 h kk) h fun x21 h =>
  vop O (.pick (.k x15) (.k x21) (.k (kB false))) h 22 fun x22 h =>
  tcomp x22 fun c0 => vfin true q [c0] h
theorem e54_0 (O : Oracle) (R : Jump) (q : Nat) (x0 : TVal) (h : Heap) : b54_0 O R q x0 h = stepF c54 O R q 0 [x0] h := by kernel_rfl
noncomputable def d54 : BlkF := fun O R q => [.s fun y0 => .z fun h => b54_0 O R q y0 h]
theorem o54 (O : Oracle) (R : Jump) (q : Nat) : HoldsAll c54 O R q 0 (d54 O R q) := ⟨fun y0 h => e54_0 O R q y0 h, trivial⟩
/- (*sprue/tree.maker).lay -/
def c55 : MFunc := { np := 2, res := [], frz := true, body := (.seq (.reg [⟨(some 3), (.box (.t 1) true), none⟩] []) (.seq (.reg [⟨(some 6), (.mv (.t 0)), none⟩, ⟨(some 7), (.call (.k (.v (.c (.func 28 [])))) [(.t 6)]), none⟩, ⟨(some 4), (.mv (.t 7)), none⟩] []) (.seq (.seq (.reg [⟨(some 8), (.mv (.t 4)), none⟩, ⟨(some 9), (.bin .eql 1 (.t 8) (.k (.v (.c (.p .nilptr))))), none⟩] []) (.cond (.t 9) (.seq (.reg [⟨(some 10), (.mv (.t 0)), none⟩, ⟨(some 11), (.nilck (.t 10)), none⟩, ⟨(some 12), (.faddr 0 (.t 11)), none⟩, ⟨(some 13), (.load false 1 (.t 12)), none⟩, ⟨(some 14), (.load true 9 (.t 3)), none⟩, ⟨(some 15), (.len 2 (.t 13)), none⟩, ⟨(some 16), (.bslice 9 1 [(.p (.int .i64 0)), (.p (.int .i64 0)), (.p (.str [])), (.p (.str [])), (.p .nilslice), (.p .nilslice), (.p .nilslice), (.p (.bool false)), (.p .nilslice)] [(0, (.k (.v (.agg [(.p (.int .i64 0)), (.p (.int .i64 0)), (.p (.str [])), (.p (.str [])), (.p .nilslice), (.p .nilslice), (.p .nilslice), (.p (.bool false)), (.p .nilslice)]))))] true), none⟩, ⟨(some 17), (.append 9 152 true (.t 13) (.t 16)), none⟩, ⟨(some 18), (.iaddr 9 (.t 17) (.t 15)), none⟩, ⟨none, (.store 9 (.t 18) (.t 14)), none⟩, ⟨(some 19), (.nilck (.t 10)), none⟩, ⟨(some 20), (.faddr 0 (.t 19)), none⟩, ⟨none, (.store 1 (.t 20) (.t 17)), none⟩] [(3, 6), (4, 6), (5, 6), (9, 12)]) .ret) .skip)) (.seq (.reg [⟨(some 21), (.mv (.t 4)), none⟩, ⟨(some 22), (.nilck (.t 21)), none⟩, ⟨(some 23), (.faddr 10 (.t 22)), none⟩, ⟨(some 24), (.load false 1 (.t 23)), none⟩, ⟨(some 25), (.len 2 (.t 24)), none⟩, ⟨(some 26), (.bin .sub 0 (.t 25) (.k (.v (.c (.p (.int .i64 1)))))), none⟩, ⟨(some 5), (.mv (.t 26)), none⟩] []) (.seq (.reg [⟨(some 27), (.alloc [(.p (.bool false))] true), none⟩, ⟨none, (.store 1 (.t 27) (.k (.v (.c (.p (.bool true)))))), none⟩, ⟨none, (.store 1 (.t 27) (.k (.v (.c (.p (.bool false)))))), none⟩, ⟨(some 28), (.load false 1 (.t 27)), none⟩] [(1, 2)]) (.cond (.t 28) (.seq (.reg [⟨(some 29), (.mv (.t 4)), none⟩, ⟨(some 30), (.nilck (.t 29)), none⟩, ⟨(some 31), (.faddr 10 (.t 30)), none⟩, ⟨(some 32), (.load false 1 (.t 31)), none⟩, ⟨(some 33), (.mv (.t 5)), none⟩, ⟨(some 34), (.iaddr 1 (.t 32) (.t 33)), none⟩, ⟨(some 35), (.load false 1 (.t 34)), none⟩, ⟨(some 36), (.load true 9 (.t 3)), none⟩, ⟨(some 37), (.len 2 (.t 35)), none⟩, ⟨(some 38), (.bslice 9 1 [(.p (.int .i64 0)), (.p (.int .i64 0)), (.p (.str [])), (.p (.str [])), (.p .nilslice), (.p .nilslice), (.p .nilslice), (.p (.bool false)), (.p .nilslice)] [(0, (.k (.v (.agg [(.p (.int .i64 0)), (.p (.int .i64 0)), (.p (.str [])), (.p (.str [])), (.p .nilslice), (.p .nilslice), (.p .nilslice), (.p (.bool false)), (.p .nilslice)]))))] true), none⟩, ⟨(some 39), (.append 9 152 true (.t 35) (.t 38)), none⟩, ⟨(some 40), (.iaddr 1 (.t 32) (.t 33)), none⟩, ⟨none, (.store 1 (.t 40) (.t 39)), none⟩] [(3, 9), (6, 9), (7, 9), (8, 9)]) (.reg [⟨(some 41), (.iaddr 9 (.t 39) (.t 37)), none⟩, ⟨none, (.store 9 (.t 41) (.t 36)), none⟩] [])) (.reg [⟨(some 42), (.mv (.t 4)), none⟩, ⟨(some 43), (.nilck (.t 42)), none⟩, ⟨(some 44), (.faddr 10 (.t 43)), none⟩, ⟨(some 45), (.load false 1 (.t 44)), none⟩, ⟨(some 46), (.mv (.t 5)), none⟩, ⟨(some 47), (.mv (.t 4)), none⟩, ⟨(some 48), (.nilck (.t 47)), none⟩, ⟨(some 49), (.faddr 10 (.t 48)), none⟩, ⟨(some 50), (.load false 1 (.t 49)), none⟩, ⟨(some 51), (.mv (.t 5)), none⟩, ⟨(some 52), (.iaddr 1 (.t 50) (.t 51)), none⟩, ⟨(some 53), (.load false 1 (.t 52)), none⟩, ⟨(some 54), (.load true 9 (.t 3)), none⟩, ⟨(some 55), (.bslice 9 1 [(.p (.int .i64 0)), (.p (.int .i64 0)), (.p (.str [])), (.p (.str [])), (.p .nilslice), (.p .nilslice), (.p .nilslice), (.p (.bool false)), (.p .nilslice)] [(0, (.t 54))] true), none⟩, ⟨(some 56), (.append 9 152 true (.t 53) (.t 55)), none⟩, ⟨(some 57), (.iaddr 1 (.t 45) (.t 46)), none⟩, ⟨none, (.store 1 (.t 57) (.t 56)), none⟩] [(3, 13), (8, 13), (11, 13), (3, 14)]))))))) }
theorem t55 : compF Tryd.prog (globs2 tabs opq) true true Tryd.f55 = some c55.erase := by kernel_rfl
noncomputable def b55_0 (O : Oracle) (R : Jump) (q : Nat) (x0 x1 : TVal) (h : Heap) : Res1 :=
  vop O (.box (.k x1) true) h 3 fun x3 h =>
  vcall O (.v (.c (.func 28 []))) [x0] h 7 fun x7 h =>
  vbin .eql 1 x7 (.v (.c (.p .nilptr))) h fun x9 h =>
  vif x9 (
  vtouch O (.mv (.k x0)) h 10 fun x10 h t0 =>
  vtouch O (.nilck (.k x10)) h 11 fun x11 h t1 =>
  vtouch O (.faddr 0 (.k x11)) h 12 fun x12 h t2 =>
  vtouch O (.load false 1 (.k x12)) h 13 fun x13 h t3 =>
  vtouch O (.load true 9 (.k x3)) h 14 fun x14 h t4 =>
  vtouch O (.len 2 (.k x13)) h 15 fun x15 h t5 =>
  vtouch O (.bslice 9 1 [(.p (.int .i64 0)), (.p (.int .i64 0)), (.p (.str [])), (.p (.str [])), (.p .nilslice), (.p .nilslice), (.p .nilslice), (.p (.bool false)), (.p .nilslice)] [(0, (.k (.v (.agg [(.p (.int .i64 0)), (.p (.int .i64 0)), (.p (.str [])), (.p (.str [])), (.p .nilslice), (.p .nilslice), (.p .nilslice), (.p (.bool false)), (.p .nilslice)]))))] true) h 16 fun x16 h t6 =>
  vtouch O (.append 9 152 true (.k x13) (.k x16)) h 17 fun x17 h t7 =>
  vtouch O (.iaddr 9 (.k x17) (.k x15)) h 18 fun x18 h t8 =>
  vtouch O (.store 9 (.k x18) (.k x14)) h 1000000 fun _ h t9 =>
  vtouch O (.nilck (.k x10)) h 19 fun x19 h t10 =>
  vtouch O (.faddr 0 (.k x19)) h 20 fun x20 h t11 =>
  vtouch O (.store 1 (.k x20) (.k x17)) h 1000000 fun _ h t12 =>
  bif apartAll [t0, t1, t2, t3, t4, t5, t6, t7, t8, t9, t10, t11, t12] [(3, 6), (4, 6), (5, 6), (9, 12)] then
  vfin true q [] h
  else none)
  (vop O (.nilck (.k x7)) h 22 fun x22 h =>
  vfaddr 10 x22 h fun x23 h =>
  vload false 1 x23 h fun x24 h =>
  vlen O 2 x24 h 25 fun x25 h =>
  vbin .sub 0 x25 (kI 1) h fun x26 h =>
  vtouch O (.alloc [(.p (.bool false))] true) h 27 fun x27 h t0 =>
  vtouch O (.store 1 (.k x27) (.k (kB true))) h 1000000 fun _ h t1 =>
  vtouch O (.store 1 (.k x27) (.k (kB false))) h 1000000 fun _ h t2 =>
  vtouch O (.load false 1 (.k x27)) h 28 fun x28 h t3 =>
  bif apartAll [t0, t1, t2, t3] [(1, 2)] then
  vif x28 (
  vtouch O (.mv (.k x7)) h 29 fun x29 h t0 =>
  vtouch O (.nilck (.k x29)) h 30 fun x30 h t1 =>
  vtouch O (.faddr 10 (.k x30)) h 31 fun x31 h t2 =>
  vtouch O (.load false 1 (.k x31)) h 32 fun x32 h t3 =>
  vtouch O (.mv (.k x26)) h 33 fun x33 h t4 =>
  vtouch O (.iaddr 1 (.k x32) (.k x33)) h 34 fun x34 h t5 =>
  vtouch O (.load false 1 (.k x34)) h 35 fun x35 h t6 =>
  vtouch O (.load true 9 (.k x3)) h 36 fun x36 h t7 =>
  vtouch O (.len 2 (.k x35)) h 37 fun x37 h t8 =>
  vtouch O (.bslice 9 1 [(.p (.int .i64 0)), (.p (.int .i64 0)), (.p (.str [])), (.p (.str [])), (.p .nilslice), (.p .nilslice), (.p .nilslice), (.p (.bool false)), (.p .nilslice)] [(0, (.k (.v (.agg [(.p (.int .i64 0)), (.p (.int .i64 0)), (.p (.str [])), (.p (.str [])), (.p .nilslice), (.p .nilslice), (.p .nilslice), (.p (.bool false)), (.p .nilslice)]))))] true) h 38 fun x38 h t9 =>
  vtouch O (.append 9 152 true (.k x35) (.k x38)) h 39 fun x39 h t10 =>
  vtouch O (.iaddr 1 (.k x32) (.k x33)) h 40 fun x40 h t11 =>
  vtouch O (.store 1 (.k x40) (.k x39)) h 1000000 fun _ h t12 =>
  bif apartAll [t0, t1, t2, t3, t4, t5, t6, t7, t8, t9, t10, t11, t12] [(3, 9), (6, 9), (7, 9), (8, 9)] then
  viaddr 9 x39 x37 h fun x41 h =>
  vstore 9 x41 x36 h fun _ h =>
  vfin true q [] h
  else none)
  (vtouch O (.mv (.k x7)) h 42 fun x42 h t0 =>
  vtouch O (.nilck (.k x42)) h 43 fun x43 h t1 =>
  vtouch O (.faddr 10 (.k x43)) h 44 fun x44 h t2 =>
  vtouch O (.load false 1 (.k x44)) h 45 fun x45 h t3 =>
  vtouch O (.mv (.k x26)) h 46 fun x46 h t4 =>
  vtouch O (.mv (.k x7)) h 47 fun x47 h t5 =>
  vtouch O (.nilck (.k x47)) h 48 fun x48 h t6 =>
  vtouch O (.faddr 10 (.k x48)) h 49 fun x49 h t7 =>
  vtouch O (.load false 1 (.k x49)) h 50 fun x50 h t8 =>
  vtouch O (.mv (.k x26)) h 51 fun x51 h t9 =>
  vtouch O (.iaddr 1 (.k x50) (.k x51)) h 52 fun x52 h t10 =>
  vtouch O (.load false 1 (.k x52)) h 53 fun x53 h t11 =>
  vtouch O (.load true 9 (.k x3)) h 54 fun x54 h t12 =>
  vtouch O (.bslice 9 1 [(.p (.int .i64 0)), (.p (.int .i64 0)), (.p (.str [])), (.p (.str [])), (.p .nilslice), (.p .nilslice), (.p .nilslice), (.p (.bool false)), (.p .nilslice)] [(0, (.k x54))] true) h 55 fun x55 h t13 =>
  vtouch O (.append 9 152 true (.k x53) (.k x55)) h 56 fun x56 h t14 =>
  vtouch O (.iaddr 1 (.k x45) (.k x46)) h 57 fun x57 h t15 =>
  vtouch O (.store 1 (.k x57) (.k x56)) h 1000000 fun _ h t16 =>
  bif apartAll [t0, t1, t2, t3, t4, t5, t6, t7, t8, t9, t10, t11, t12, t13, t14, t15, t16] [(3, 13), (8, 13), (11, 13), (3, 14)] then
  vfin true q [] h
  else none)
  else none)
theorem e55_0 (O : Oracle) (R : Jump) (q : Nat) (x0 x1 : TVal) (h : Heap) : b55_0 O R q x0 x1 h = stepF c55 O R q 0 [x0, x1] h := by kernel_rfl
noncomputable def d55 : BlkF := fun O R q => [.s fun y0 => .s fun y1 => .z fun h => b55_0 O R q y0 y1 h]
theorem o55 (O : Oracle) (R : Jump) (q : Nat) : HoldsAll c55 O R q 0 (d55 O R q) := ⟨fun y0 y1 h => e55_0 O R q y0 y1 h, trivial⟩
/- (*sprue/tree.frame).waits -/
def c56 : MFunc := { np := 1, res := [.t 2], frz := true, body := (.seq (.reg [⟨(some 2), (.mv (.k (.v (.c (.p (.bool false)))))), none⟩] []) (.seq (.reg [⟨(some 3), (.mv (.t 0)), none⟩, ⟨(some 4), (.bin .neq 1 (.t 3) (.k (.v (.c (.p .nilptr))))), none⟩, ⟨(some 5), (.mv (.t 4)), none⟩, ⟨(some 6), (.mv (.t 0)), (some (5, true))⟩, ⟨(some 7), (.nilck (.t 6)), (some (5, true))⟩, ⟨(some 8), (.faddr 0 (.t 7)), (some (5, true))⟩, ⟨(some 9), (.faddr 0 (.t 8)), (some (5, true))⟩, ⟨(some 10), (.load false 1 (.t 9)), (some (5, true))⟩, ⟨(some 11), (.bin .eql 0 (.t 10) (.k (.v (.c (.p (.int .i64 8)))))), (some (5, true))⟩, ⟨(some 12), (.pick (.t 5) (.t 11) (.k (.v (.c (.p (.bool false)))))), none⟩, ⟨(some 13), (.mv (.t 12)), none⟩, ⟨(some 14), (.mv (.t 0)), (some (13, true))⟩, ⟨(some 15), (.nilck (.t 14)), (some (13, true))⟩, ⟨(some 16), (.faddr 12 (.t 15)), (some (13, true))⟩, ⟨(some 17), (.load false 1 (.t 16)), (some (13, true))⟩, ⟨(some 18), (.un .not (.t 17)), (some (13, true))⟩, ⟨(some 19), (.pick (.t 13) (.t 18) (.k (.v (.c (.p (.bool false)))))), none⟩, ⟨(some 20), (.mv (.t 19)), none⟩, ⟨(some 21), (.mv (.t 0)), (some (20, true))⟩, ⟨(some 22), (.nilck (.t 21)), (some (20, true))⟩, ⟨(some 23), (.faddr 11 (.t 22)), (some (20, true))⟩, ⟨(some 24), (.load false 1 (.t 23)), (some (20, true))⟩, ⟨(some 25), (.un .not (.t 24)), (some (20, true))⟩, ⟨(some 26), (.pick (.t 20) (.t 25) (.k (.v (.c (.p (.bool false)))))), none⟩, ⟨(some 2), (.mv (.t 26)), none⟩] []) .ret)) }
theorem t56 : compF Tryd.prog (globs2 tabs opq) false true Tryd.f56 = some c56.erase := by kernel_rfl
noncomputable def b56_0 (O : Oracle) (R : Jump) (q : Nat) (x0 : TVal) (h : Heap) : Res1 :=
  vbin .neq 1 x0 (.v (.c (.p .nilptr))) h fun x4 h =>
  vguard x4 true (fun kk => kk x0 h) h fun x6 h =>
  vguard x4 true (fun kk => vop O (.nilck (.k x6)) h 7 kk) h fun x7 h =>
  vguard x4 true (fun kk => vfaddr 0 x7 h kk) h fun x8 h =>
  vguard x4 true (fun kk => vfaddr 0 x8 h kk) h fun x9 h =>
  vguard x4 true (fun kk => vload false 1 x9 h kk) h fun x10 h =>
  vguard x4 true (fun kk => vbin .eql 0 x10 (kI 8) h kk) h fun x11 h =>
  vop O (.pick (.k x4) (.k x11) (.k (kB false))) h 12 fun x12 h =>
  vguard x12 true (fun kk => kk x0 h) h fun x14 h =>
  vguard x12 true (fun kk => vop O (.nilck (.k x14)) h 15 kk) h fun x15 h =>
  vguard x12 true (fun kk => vfaddr 12 x15 h kk) h fun x16 h =>
  vguard x12 true (fun kk => vload false 1 x16 h kk) h fun x17 h =>
  vguard x12 true (fun kk => vop O (.un .not (.k x17)) h 18 kk) h fun x18 h =>
  vop O (.pick (.k x12) (.k x18) (.k (kB false))) h 19 fun x19 h =>
  vguard x19 true (fun kk => kk x0 h) h fun x21 h =>
  vguard x19 true (fun kk => vop O (.nilck (.k x21)) h 22 kk) h fun x22 h =>
  vguard x19 true (fun kk => vfaddr 11 x22 h kk) h fun x23 h =>
  vguard x19 true (fun kk => vload false 1 x23 h kk) h fun x24 h =>
  vguard x19 true (fun kk => vop O (.un .not (.k x24)) h 25 kk) h fun x25 h =>
  vop O (.pick (.k x19) (.k x25) (.k (kB false))) h 26 fun x26 h =>
  tcomp x26 fun c0 => vfin true q [c0] h
theorem e56_0 (O : Oracle) (R : Jump) (q : Nat) (x0 : TVal) (h : Heap) : b56_0 O R q x0 h = stepF c56 O R q 0 [x0] h := by kernel_rfl
noncomputable def d56 : BlkF := fun O R q => [.s fun y0 => .z fun h => b56_0 O R q y0 h]
theorem o56 (O : Oracle) (R : Jump) (q : Nat) : HoldsAll c56 O R q 0 (d56 O R q) := ⟨fun y0 h => e56_0 O R q y0 h, trivial⟩
/- strings.Trim -/
def c57 : MFunc := { np := 2, res := [.t 4], frz := true, body := (.seq (.reg [⟨(some 4), (.mv (.k (.v (.c (.p (.str [])))))), none⟩] []) (.seq (.seq (.reg [⟨(some 7), (.mv (.t 0)), none⟩, ⟨(some 8), (.bin .eql 0 (.t 7) (.k (.v (.c (.p (.str [])))))), none⟩, ⟨(some 9), (.mv (.t 8)), none⟩, ⟨(some 10), (.mv (.t 1)), (some (9, false))⟩, ⟨(some 11), (.bin .eql 0 (.t 10) (.k (.v (.c (.p (.str [])))))), (some (9, false))⟩, ⟨(some 12), (.pick (.t 9) (.k (.v (.c (.p (.bool true))))) (.t 11)), none⟩] []) (.cond (.t 12) (.seq (.reg [⟨(some 13), (.mv (.t 0)), none⟩, ⟨(some 4), (.mv (.t 13)), none⟩] []) .ret) .skip)) (.seq (.seq (.reg [⟨(some 14), (.mv (.t 1)), none⟩, ⟨(some 15), (.len 0 (.t 14)), none⟩, ⟨(some 16), (.bin .eql 0 (.t 15) (.k (.v (.c (.p (.int .i64 1)))))), none⟩, ⟨(some 17), (.mv (.t 16)), none⟩, ⟨(some 18), (.mv (.t 1)), (some (17, true))⟩, ⟨(some 19), (.index (.t 18) (.k (.v (.c (.p (.int .i64 0)))))), (some (17, true))⟩, ⟨(some 20), (.bin .lss 0 (.t 19) (.k (.v (.c (.p (.int .u8 128)))))), (some (17, true))⟩, ⟨(some 21), (.pick (.t 17) (.t 20) (.k (.v (.c (.p (.bool false)))))), none⟩] []) (.cond (.t 21) (.seq (.reg [⟨(some 22), (.mv (.t 0)), none⟩, ⟨(some 23), (.mv (.t 1)), none⟩, ⟨(some 24), (.index (.t 23) (.k (.v (.c (.p (.int .i64 0)))))), none⟩, ⟨(some 25), (.call (.k (.v (.c (.func 86 [])))) [(.t 22), (.t 24)]), none⟩, ⟨(some 26), (.mv (.t 1)), none⟩, ⟨(some 27), (.index (.t 26) (.k (.v (.c (.p (.int .i64 0)))))), none⟩, ⟨(some 28), (.call (.k (.v (.c (.func 85 [])))) [(.t 25), (.t 27)]), none⟩, ⟨(some 4), (.mv (.t 28)), none⟩] []) .ret) .skip)) (.seq (.seq (.reg [⟨(some 30), (.mv (.t 1)), none⟩, ⟨(some 31), (.call (.k (.v (.c (.func 87 [])))) [(.t 30)]), none⟩, ⟨(some 29), (.mv (.t 31)), none⟩, ⟨(some 32), (.extract (.t 29) 0), none⟩, ⟨(some 33), (.extract (.t 29) 1), none⟩, ⟨(some 5), (.alloc [(.p (.bool false)), (.p (.bool false)), (.p (.bool false)), (.p (.bool false)), (.p (.bool false)), (.p (.bool false)), (.p (.bool false)), (.p (.bool false)), (.p (.bool false)), (.p (.bool false)), (.p (.bool false)), (.p (.bool false)), (.p (.bool false)), (.p (.bool false)), (.p (.bool false)), (.p (.bool false)), (.p (.bool false)), (.p (.bool false)), (.p (.bool false)), (.p (.bool false)), (.p (.bool false)), (.p (.bool false)), (.p (.bool false)), (.p (.bool false)), (.p (.bool false)), (.p (.bool false)), (.p (.bool false)), (.p (.bool false)), (.p (.bool false)), (.p (.bool false)), (.p (.bool false)), (.p (.bool false)), (.p (.bool false)), (.p (.bool false)), (.p (.bool false)), (.p (.bool false)), (.p (.bool false)), (.p (.bool false)), (.p (.bool false)), (.p (.bool false)), (.p (.bool false)), (.p (.bool false)), (.p (.bool false)), (.p (.bool false)), (.p (.bool false)), (.p (.bool false)), (.p (.bool false)), (.p (.bool false)), (.p (.bool false)), (.p (.bool false)), (.p (.bool false)), (.p (.bool false)), (.p (.bool false)), (.p (.bool false)), (.p (.bool false)), (.p (.bool false)), (.p (.bool false)), (.p (.bool false)), (.p (.bool false)), (.p (.bool false)), (.p (.bool false)), (.p (.bool false)), (.p (.bool false)), (.p (.bool false)), (.p (.bool false)), (.p (.bool false)), (.p (.bool false)), (.p (.bool false)), (.p (.bool false)), (.p (.bool false)), (.p (.bool false)), (.p (.bool false)), (.p (.bool false)), (.p (.bool false)), (.p (.bool false)), (.p (.bool false)), (.p (.bool false)), (.p (.bool false)), (.p (.bool false)), (.p (.bool false)), (.p (.bool false)), (.p (.bool false)), (.p (.bool false)), (.p (.bool false)), (.p (.bool false)), (.p (.bool false)), (.p (.bool false)), (.p (.bool false)), (.p (.bool false)), (.p (.bool false)), (.p (.bool false)), (.p (.bool false)), (.p (.bool false)), (.p (.bool false)), (.p (.bool false)), (.p (.bool false)), (.p (.bool false)), (.p (.bool false)), (.p (.bool false)), (.p (.bool false)), (.p (.bool false)), (.p (.bool false)), (.p (.bool false)), (.p (.bool false)), (.p (.bool false)), (.p (.bool false)), (.p (.bool false)), (.p (.bool false)), (.p (.bool false)), (.p (.bool false)), (.p (.bool false)), (.p (.bool false)), (.p (.bool false)), (.p (.bool false)), (.p (.bool false)), (.p (.bool false)), (.p (.bool false)), (.p (.bool false)), (.p (.bool false)), (.p (.bool false)), (.p (.bool false)), (.p (.bool false)), (.p (.bool false)), (.p (.bool false)), (.p (.bool false)), (.p (.bool false)), (.p (.bool false)), (.p (.bool false)), (.p (.bool false)), (.p (.bool false)), (.p (.bool false)), (.p (.bool false)), (.p (.bool false)), (.p (.bool false)), (.p (.bool false)), (.p (.bool false)), (.p (.bool false)), (.p (.bool false)), (.p (.bool false)), (.p (.bool false)), (.p (.bool false)), (.p (.bool false)), (.p (.bool false)), (.p (.bool false)), (.p (.bool false)), (.p (.bool false)), (.p (.bool false)), (.p (.bool false)), (.p (.bool false)), (.p (.bool false)), (.p (.bool false)), (.p (.bool false)), (.p (.bool false)), (.p (.bool false)), (.p (.bool false)), (.p (.bool false)), (.p (.bool false)), (.p (.bool false)), (.p (.bool false)), (.p (.bool false)), (.p (.bool false)), (.p (.bool false)), (.p (.bool false)), (.p (.bool false)), (.p (.bool false)), (.p (.bool false)), (.p (.bool false)), (.p (.bool false)), (.p (.bool false)), (.p (.bool false)), (.p (.bool false)), (.p (.bool false)), (.p (.bool false)), (.p (.bool false)), (.p (.bool false)), (.p (.bool false)), (.p (.bool false)), (.p (.bool false)), (.p (.bool false)), (.p (.bool false)), (.p (.bool false)), (.p (.bool false)), (.p (.bool false)), (.p (.bool false)), (.p (.bool false)), (.p (.bool false)), (.p (.bool false)), (.p (.bool false)), (.p (.bool false)), (.p (.bool false)), (.p (.bool false)), (.p (.bool false)), (.p (.bool false)), (.p (.bool false)), (.p (.bool false)), (.p (.bool false)), (.p (.bool false)), (.p (.bool false)), (.p (.bool false)), (.p (.bool false)), (.p (.bool false)), (.p (.bool false)), (.p (.bool false)), (.p (.bool false)), (.p (.bool false)), (.p (.bool false)), (.p (.bool false)), (.p (.bool false)), (.p (.bool false)), (.p (.bool false)), (.p (.bool false)), (.p (.bool false)), (.p (.bool false)), (.p (.bool false)), (.p (.bool false)), (.p (.bool false)), (.p (.bool false)), (.p (.bool false)), (.p (.bool false)), (.p (.bool false)), (.p (.bool false)), (.p (.bool false)), (.p (.bool false)), (.p (.bool false)), (.p (.bool false)), (.p (.bool false)), (.p (.bool false)), (.p (.bool false)), (.p (.bool false)), (.p (.bool false)), (.p (.bool false)), (.p (.bool false)), (.p (.bool false)), (.p (.bool false)), (.p (.bool false)), (.p (.bool false)), (.p (.bool false)), (.p (.bool false)), (.p (.bool false)), (.p (.bool false)), (.p (.bool false)), (.p (.bool false)), (.p (.bool false)), (.p (.bool false)), (.p (.bool false)), (.p (.bool false)), (.p (.bool false)), (.p (.bool false)), (.p (.bool false)), (.p (.bool false)), (.p (.bool false)), (.p (.bool false)), (.p (.bool false)), (.p (.bool false)), (.p (.bool false)), (.p (.bool false))] false), none⟩, ⟨none, (.store 256 (.t 5) (.t 32)), none⟩, ⟨(some 6), (.mv (.t 33)), none⟩] []) (.seq (.reg [⟨(some 34), (.mv (.t 6)), none⟩] []) (.cond (.t 34) (.seq (.reg [⟨(some 35), (.mv (.t 0)), none⟩, ⟨(some 36), (.call (.k (.v (.c (.func 89 [])))) [(.t 35), (.t 5)]), none⟩, ⟨(some 37), (.call (.k (.v (.c (.func 88 [])))) [(.t 36), (.t 5)]), none⟩, ⟨(some 4), (.mv (.t 37)), none⟩] []) .ret) .skip))) (.seq (.reg [⟨(some 38), (.mv (.t 0)), none⟩, ⟨(some 39), (.mv (.t 1)), none⟩, ⟨(some 40), (.call (.k (.v (.c (.func 91 [])))) [(.t 38), (.t 39)]), none⟩, ⟨(some 41), (.mv (.t 1)), none⟩, ⟨(some 42), (.call (.k (.v (.c (.func 90 [])))) [(.t 40), (.t 41)]), none⟩, ⟨(some 4), (.mv (.t 42)), none⟩] []) .ret))))) }
theorem t57 : compF Tryd.prog (globs2 tabs opq) false true Tryd.f57 = some c57.erase := by kernel_rfl
noncomputable def b57_0 (O : Oracle) (R : Jump) (q : Nat) (x0 x1 : TVal) (h : Heap) : Res1 :=
  vbin .eql 0 x0 (kS []) h fun x8 h =>
  vguard x8 false (fun kk => kk x1 h) h fun x10 h =>
  vguard x8 false (fun kk => vbin .eql 0 x10 (kS []) h kk) h fun x11 h =>
  vop O (.pick (.k x8) (.k (kB true)) (.k x11)) h 12 fun x12 h =>
  vif x12 (
  tcomp x0 fun c0 => vfin true q [c0] h)
  (vlen O 0 x1 h 15 fun x15 h =>
  vbin .eql 0 x15 (kI 1) h fun x16 h =>
  vguard x16 true (fun kk => kk x1 h) h fun x18 h =>
  vguard x16 true (fun kk => vindex x18 (kI 0) h kk) h fun x19 h =>
  vguard x16 true (fun kk => vbin .lss 0 x19 (.v (.c (.p (.int .u8 128)))) h kk) h fun x20 h =>
  vop O (.pick (.k x16) (.k x20) (.k (kB false))) h 21 fun x21 h =>
  vif x21 (
  vindex x1 (kI 0) h fun x24 h =>
  vcall O (.v (.c (.func 86 []))) [x0, x24] h 25 fun x25 h =>
  vindex x1 (kI 0) h fun x27 h =>
  vcall O (.v (.c (.func 85 []))) [x25, x27] h 28 fun x28 h =>
  tcomp x28 fun c0 => vfin true q [c0] h)
  (vcall O (.v (.c (.func 87 []))) [x1] h 31 fun x31 h =>
  vext x31 0 h fun x32 h =>
  vext x31 1 h fun x33 h =>
  vop O (.alloc [(.p (.bool false)), (.p (.bool false)), (.p (.bool false)), (.p (.bool false)), (.p (.bool false)), (.p (.bool false)), (.p (.bool false)), (.p (.bool false)), (.p (.bool false)), (.p (.bool false)), (.p (.bool false)), (.p (.bool false)), (.p (.bool false)), (.p (.bool false)), (.p (.bool false)), (.p (.bool false)), (.p (.bool false)), (.p (.bool false)), (.p (.bool false)), (.p (.bool false)), (.p (.bool false)), (.p (.bool false)), (.p (.bool false)), (.p (.bool false)), (.p (.bool false)), (.p (.bool false)), (.p (.bool false)), (.p (.bool false)), (.p (.bool false)), (.p (.bool false)), (.p (.bool false)), (.p (.bool false)), (.p (.bool false)), (.p (.bool false)), (.p (.bool false)), (.p (.bool false)), (.p (.bool false)), (.p (.bool false)), (.p (.bool false)), (.p (.bool false)), (.p (.bool false)), (.p (.bool false)), (.p (.bool false)), (.p (.bool false)), (.p (.bool false)), (.p (.bool false)), (.p (.bool false)), (.p (.bool false)), (.p (.bool false)), (.p (.bool false)), (.p (.bool false)), (.p (.bool false)), (.p (.bool false)), (.p (.bool false)), (.p (.bool false)), (.p (.bool false)), (.p (.bool false)), (.p (.bool false)), (.p (.bool false)), (.p (.bool false)), (.p (.bool false)), (.p (.bool false)), (.p (.bool false)), (.p (.bool false)), (.p (.bool false)), (.p (.bool false)), (.p (.bool false)), (.p (.bool false)), (.p (.bool false)), (.p (.bool false)), (.p (.bool false)), (.p (.bool false)), (.p (.bool false)), (.p (.bool false)), (.p (.bool false)), (.p (.bool false)), (.p (.bool false)), (.p (.bool false)), (.p (.bool false)), (.p (.bool false)), (.p (.bool false)), (.p (.bool false)), (.p (.bool false)), (.p (.bool false)), (.p (.bool false)), (.p (.bool false)), (.p (.bool false)), (.p (.bool false)), (.p (.bool false)), (.p (.bool false)), (.p (.bool false)), (.p (.bool false)), (.p (.bool false)), (.p (.bool false)), (.p (.bool false)), (.p (.bool false)), (.p (.bool false)), (.p (.bool false)), (.p (.bool false)), (.p (.bool false)), (.p (.bool false)), (.p (.bool false)), (.p (.bool false)), (.p (.bool false)), (.p (.bool false)), (.p (.bool false)), (.p (.bool false)), (.p (.bool false)), (.p (.bool false)), (.p (.bool false)), (.p (.bool false)), (.p (.bool false)), (.p (.bool false)), (.p (.bool false)), (.p (.bool false)), (.p (.bool false)), (.p (.bool false)), (.p (.bool false)), (.p (.bool false)), (.p (.bool false)), (.p (.bool false)), (.p (.bool false)), (.p (.bool false)), (.p (.bool false)), (.p (.bool false)), (.p (.bool false)), (.p (.bool false)), (.p (.bool false)), (.p (.bool false)), (.p (.bool false)), (.p (.bool false)), (.p (.bool false)), (.p (.bool false)), (.p (.bool false)), (.p (.bool false)), (.p (.bool false)), (.p (.bool false)), (.p (.bool false)), (.p (.bool false)), (.p (.bool false)), (.p (.bool false)), (.p (.bool false)), (.p (.bool false)), (.p (.bool false)), (.p (.bool false)), (.p (.bool false)), (.p (.bool false)), (.p (.bool false)), (.p (.bool false)), (.p (.bool false)), (.p (.bool false)), (.p (.bool false)), (.p (.bool false)), (.p (.bool false)), (.p (.bool false)), (.p (.bool false)), (.p (.bool false)), (.p (.bool false)), (.p (.bool false)), (.p (.bool false)), (.p (.bool false)), (.p (.bool false)), (.p (.bool false)), (.p (.bool false)), (.p (.bool false)), (.p (.bool false)), (.p (.bool false)), (.p (.bool false)), (.p (.bool false)), (.p (.bool false)), (.p (.bool false)), (.p (.bool false)), (.p (.bool false)), (.p (.bool false)), (.p (.bool false)), (.p (.bool false)), (.p (.bool false)), (.p (.bool false)), (.p (.bool false)), (.p (.bool false)), (.p (.bool false)), (.p (.bool false)), (.p (.bool false)), (.p (.bool false)), (.p (.bool false)), (.p (.bool false)), (.p (.bool false)), (.p (.bool false)), (.p (.bool false)), (.p (.bool false)), (.p (.bool false)), (.p (.bool false)), (.p (.bool false)), (.p (.bool false)), (.p (.bool false)), (.p (.bool false)), (.p (.bool false)), (.p (.bool false)), (.p (.bool false)), (.p (.bool false)), (.p (.bool false)), (.p (.bool false)), (.p (.bool false)), (.p (.bool false)), (.p (.bool false)), (.p (.bool false)), (.p (.bool false)), (.p (.bool false)), (.p (.bool false)), (.p (.bool false)), (.p (.bool false)), (.p (.bool false)), (.p (.bool false)), (.p (.bool false)), (.p (.bool false)), (.p (.bool false)), (.p (.bool false)), (.p (.bool false)), (.p (.bool false)), (.p (.bool false)), (.p (.bool false)), (.p (.bool false)), (.p (.bool false)), (.p (.bool false)), (.p (.bool false)), (.p (.bool false)), (.p (.bool false)), (.p (.bool false)), (.p (.bool false)), (.p (.bool false)), (.p (.bool false)), (.p (.bool false)), (.p (.bool false)), (.p (.bool false)), (.p (.bool false)), (.p (.bool false)), (.p (.bool false)), (.p (.bool false)), (.p (.bool false)), (.p (.bool false)), (.p (.bool false)), (.p (.bool false)), (.p (.bool false)), (.p (.bool false)), (.p (.bool false)), (.p (.bool false)), (.p (.bool false)), (.p (.bool false)), (.p (.bool false)), (.p (.bool false)), (.p (.bool false)), (.p (.bool false)), (.p (.bool false)), (.p (.bool false)), (.p (.bool false)), (.p (.bool false))] false) h 5 fun x5 h =>
  vstore 256 x5 x32 h fun _ h =>
  vif x33 (
  vcall O (.v (.c (.func 89 []))) [x0, x5] h 36 fun x36 h =>
  vcall O (.v (.c (.func 88 []))) [x36, x5] h 37 fun x37 h =>
  tcomp x37 fun c0 => vfin true q [c0] h)
  (vcall O (.v (.c (.func 91 []))) [x0, x1] h 40 fun x40 h =>
  vcall O (.v (.c (.func 90 []))) [x40, x1] h 42 fun x42 h =>
  tcomp x42 fun c0 => vfin true q [c0] h)))
theorem e57_0 (O : Oracle) (R : Jump) (q : Nat) (x0 x1 : TVal) (h : Heap) : b57_0 O R q x0 x1 h = stepF c57 O R q 0 [x0, x1] h := by kernel_rfl
noncomputable def d57 : BlkF := fun O R q => [.s fun y0 => .s fun y1 => .z fun h => b57_0 O R q y0 y1 h]
theorem o57 (O : Oracle) (R : Jump) (q : Nat) : HoldsAll c57 O R q 0 (d57 O R q) := ⟨fun y0 y1 h => e57_0 O R q y0 y1 h, trivial⟩
/- (*sprue/tree.reader).command -/
def c58 : MFunc := { np := 1, res := [.cell 2 true 1], frz := true, body := (.seq (.reg [⟨(some 2), (.alloc [(.p .nilslice)] false), none⟩] []) (.seq (.reg [⟨(some 5), (.mv (.t 0)), none⟩, ⟨(some 6), (.call (.k (.v (.c (.func 80 [])))) [(.t 5), (.k (.v (.c (.p (.int .i64 0)))))]), none⟩, ⟨(some 3), (.alloc [(.p (.int .i64 0)), (.p (.str [])), (.p (.int .i64 0)), (.p (.int .i64 0))] false), none⟩, ⟨none, (.store 4 (.t 3) (.t 6)), none⟩] []) (.seq (.seq (.reg [⟨(some 7), (.faddr 0 (.t 3)), none⟩, ⟨(some 8), (.load false 1 (.t 7)), none⟩, ⟨(some 9), (.bin .neq 0 (.t 8) (.k (.v (.c (.p (.int .i64 1)))))), none⟩, ⟨(some 10), (.mv (.t 9)), none⟩, ⟨(some 11), (.call (.k (.v (.c (.func 92 [])))) []), (some (10, false))⟩, ⟨(some 12), (.faddr 1 (.t 3)), (some (10, false))⟩, ⟨(some 13), (.load false 1 (.t 12)), (some (10, false))⟩, ⟨(some 14), (.call (.k (.v (.c (.func 83 [])))) [(.t 11), (.t 13)]), (some (10, false))⟩, ⟨(some 15), (.pick (.t 10) (.k (.v (.c (.p (.bool true))))) (.t 14)), none⟩] [(4, 6)]) (.cond (.t 15) (.seq (.reg [⟨(some 16), (.mv (.t 0)), none⟩, ⟨(some 17), (.call (.k (.v (.c (.func 93 [])))) [(.t 16)]), none⟩, ⟨(some 18), (.bslice 7 1 [(.p (.int .i64 0)), (.p (.str [])), (.p .nilslice), (.p (.str [])), (.p (.int .i64 0)), (.p (.bool false)), (.p .nilslice)] [(0, (.t 17))] false), none⟩, ⟨(some 19), (.build [(.p .nilslice)] [(0, 1, (.t 18))]), none⟩, ⟨none, (.store 1 (.t 2) (.t 19)), none⟩] []) .ret) .skip)) (.seq (.reg [⟨(some 20), (.mv (.t 0)), none⟩, ⟨(some 21), (.nilck (.t 20)), none⟩, ⟨(some 22), (.faddr 1 (.t 21)), none⟩, ⟨(some 23), (.load false 1 (.t 22)), none⟩, ⟨(some 24), (.bin .add 0 (.t 23) (.k (.v (.c (.p (.int .i64 1)))))), none⟩, ⟨(some 25), (.nilck (.t 20)), none⟩, ⟨(some 26), (.faddr 1 (.t 25)), none⟩, ⟨none, (.store 1 (.t 26) (.t 24)), none⟩] []) (.seq (.reg [⟨(some 27), (.faddr 1 (.t 3)), none⟩, ⟨(some 28), (.load false 1 (.t 27)), none⟩, ⟨(some 29), (.build [(.p (.int .i64 0)), (.p (.str [])), (.p .nilslice), (.p (.str [])), (.p (.int .i64 0)), (.p (.bool false)), (.p .nilslice)] [(0, 1, (.k (.v (.c (.p (.int .i64 6)))))), (3, 1, (.t 28))]), none⟩, ⟨(some 30), (.bslice 7 1 [(.p (.int .i64 0)), (.p (.str [])), (.p .nilslice), (.p (.str [])), (.p (.int .i64 0)), (.p (.bool false)), (.p .nilslice)] [(0, (.t 29))] false), none⟩, ⟨(some 31), (.build [(.p .nilslice)] [(0, 1, (.t 30))]), none⟩, ⟨(some 4), (.alloc [(.p .nilslice)] false), none⟩, ⟨none, (.store 1 (.t 4) (.t 31)), none⟩] []) (.seq (.block 0 (.loop 1 [0, 2, 4] (.seq (.seq (.reg [⟨(some 32), (.mv (.t 0)), none⟩, ⟨(some 33), (.call (.k (.v (.c (.func 94 [])))) [(.t 32)]), none⟩] []) (.cond (.t 33) .skip (.exit 0))) (.block 1 (.seq (.seq (.reg [⟨(some 34), (.faddr 0 (.t 4)), none⟩, ⟨(some 35), (.load false 1 (.t 34)), none⟩, ⟨(some 36), (.len 2 (.t 35)), none⟩, ⟨(some 37), (.bin .gtr 0 (.t 36) (.k (.v (.c (.p (.int .i64 4)))))), none⟩] []) (.cond (.t 37) (.seq (.reg [⟨(some 38), (.mv (.t 0)), none⟩, ⟨(some 39), (.call (.k (.v (.c (.func 95 [])))) [(.t 38), (.k (.v (.c (.p (.int .i64 18)))))]), none⟩] []) (.exit 0)) .skip)) (.reg [⟨(some 40), (.faddr 0 (.t 4)), none⟩, ⟨(some 41), (.load false 1 (.t 40)), none⟩, ⟨(some 42), (.mv (.t 0)), none⟩, ⟨(some 43), (.call (.k (.v (.c (.func 93 [])))) [(.t 42)]), none⟩, ⟨(some 44), (.bslice 7 1 [(.p (.int .i64 0)), (.p (.str [])), (.p .nilslice), (.p (.str [])), (.p (.int .i64 0)), (.p (.bool false)), (.p .nilslice)] [(0, (.t 43))] false), none⟩, ⟨(some 45), (.append 7 104 false (.t 41) (.t 44)), none⟩, ⟨(some 46), (.faddr 0 (.t 4)), none⟩, ⟨none, (.store 1 (.t 46) (.t 45)), none⟩] [(1, 3), (1, 4)])))))) (.mark 2 [2, 4] (.seq (.reg [⟨(some 47), (.load true 1 (.t 4)), none⟩, ⟨none, (.store 1 (.t 2) (.t 47)), none⟩] []) .ret)))))))) }
theorem t58 : compF Tryd.prog (globs2 tabs opq) false true Tryd.f58 = some c58.erase := by kernel_rfl
noncomputable def b58_0 (O : Oracle) (R : Jump) (q : Nat) (x0 : TVal) (h : Heap) : Res1 :=
  vop O (.alloc [(.p .nilslice)] false) h 2 fun x2 h =>
  vcall O (.v (.c (.func 80 []))) [x0, (kI 0)] h 6 fun x6 h =>
  vop O (.alloc [(.p (.int .i64 0)), (.p (.str [])), (.p (.int .i64 0)), (.p (.int .i64 0))] false) h 3 fun x3 h =>
  vstore 4 x3 x6 h fun _ h =>
  vtouch O (.faddr 0 (.k x3)) h 7 fun x7 h t0 =>
  vtouch O (.load false 1 (.k x7)) h 8 fun x8 h t1 =>
  vtouch O (.bin .neq 0 (.k x8) (.k (kI 1))) h 9 fun x9 h t2 =>
  vtouch O (.mv (.k x9)) h 10 fun x10 h t3 =>
  vguardT x10 false (fun kk => vtouch O (.call (.k (.v (.c (.func 92 [])))) []) h 11 kk) h fun x11 h t4 =>
  vguardT x10 false (fun kk => vtouch O (.faddr 1 (.k x3)) h 12 kk) h fun x12 h t5 =>
  vguardT x10 false (fun kk => vtouch O (.load false 1 (.k x12)) h 13 kk) h fun x13 h t6 =>
  vguardT x10 false (fun kk => vtouch O (.call (.k (.v (.c (.func 83 [])))) [(.k x11), (.k x13)]) h 14 kk) h fun x14 h t7 =>
  vtouch O (.pick (.k x10) (.k (kB true)) (.k x14)) h 15 fun x15 h t8 =>
  bif apartAll [t0, t1, t2, t3, t4, t5, t6, t7, t8] [(4, 6)] then
  vif x15 (
  vcall O (.v (.c (.func 93 []))) [x0] h 17 fun x17 h =>
  vop O (.bslice 7 1 [(.p (.int .i64 0)), (.p (.str [])), (.p .nilslice), (.p (.str [])), (.p (.int .i64 0)), (.p (.bool false)), (.p .nilslice)] [(0, (.k x17))] false) h 18 fun x18 h =>
  vop O (.build [(.p .nilslice)] [(0, 1, (.k x18))]) h 19 fun x19 h =>
  vstore 1 x2 x19 h fun _ h =>
  vcell true 1 x2 h fun c0 => vfin true q [c0] h)
  (vop O (.nilck (.k x0)) h 21 fun x21 h =>
  vfaddr 1 x21 h fun x22 h =>
  vload false 1 x22 h fun x23 h =>
  vbin .add 0 x23 (kI 1) h fun x24 h =>
  vop O (.nilck (.k x0)) h 25 fun x25 h =>
  vfaddr 1 x25 h fun x26 h =>
  vstore 1 x26 x24 h fun _ h =>
  vfaddr 1 x3 h fun x27 h =>
  vload false 1 x27 h fun x28 h =>
  vop O (.build [(.p (.int .i64 0)), (.p (.str [])), (.p .nilslice), (.p (.str [])), (.p (.int .i64 0)), (.p (.bool false)), (.p .nilslice)] [(0, 1, (.k (kI 6))), (3, 1, (.k x28))]) h 29 fun x29 h =>
  vop O (.bslice 7 1 [(.p (.int .i64 0)), (.p (.str [])), (.p .nilslice), (.p (.str [])), (.p (.int .i64 0)), (.p (.bool false)), (.p .nilslice)] [(0, (.k x29))] false) h 30 fun x30 h =>
  vop O (.build [(.p .nilslice)] [(0, 1, (.k x30))]) h 31 fun x31 h =>
  vop O (.alloc [(.p .nilslice)] false) h 4 fun x4 h =>
  vstore 1 x4 x31 h fun _ h =>
  R 1 [x0, x2, x4] h)
  else none
theorem e58_0 (O : Oracle) (R : Jump) (q : Nat) (x0 : TVal) (h : Heap) : b58_0 O R q x0 h = stepF c58 O R q 0 [x0] h := by kernel_rfl
noncomputable def b58_1 (O : Oracle) (R : Jump) (q : Nat) (x0 x2 x4 : TVal) (h : Heap) : Res1 :=
  vcall O (.v (.c (.func 94 []))) [x0] h 33 fun x33 h =>
  vif x33 (
  vfaddr 0 x4 h fun x34 h =>
  vload false 1 x34 h fun x35 h =>
  vlen O 2 x35 h 36 fun x36 h =>
  vbin .gtr 0 x36 (kI 4) h fun x37 h =>
  vif x37 (
  vcall O (.v (.c (.func 95 []))) [x0, (kI 18)] h 39 fun x39 h =>
  R 2 [x2, x4] h)
  (vtouch O (.faddr 0 (.k x4)) h 40 fun x40 h t0 =>
  vtouch O (.load false 1 (.k x40)) h 41 fun x41 h t1 =>
  vtouch O (.mv (.k x0)) h 42 fun x42 h t2 =>
  vtouch O (.call (.k (.v (.c (.func 93 [])))) [(.k x42)]) h 43 fun x43 h t3 =>
  vtouch O (.bslice 7 1 [(.p (.int .i64 0)), (.p (.str [])), (.p .nilslice), (.p (.str [])), (.p (.int .i64 0)), (.p (.bool false)), (.p .nilslice)] [(0, (.k x43))] false) h 44 fun x44 h t4 =>
  vtouch O (.append 7 104 false (.k x41) (.k x44)) h 45 fun x45 h t5 =>
  vtouch O (.faddr 0 (.k x4)) h 46 fun x46 h t6 =>
  vtouch O (.store 1 (.k x46) (.k x45)) h 1000000 fun _ h t7 =>
  bif apartAll [t0, t1, t2, t3, t4, t5, t6, t7] [(1, 3), (1, 4)] then
  R 1 [x0, x2, x4] h
  else none))
  (R 2 [x2, x4] h)
theorem e58_1 (O : Oracle) (R : Jump) (q : Nat) (x0 x2 x4 : TVal) (h : Heap) : b58_1 O R q x0 x2 x4 h = stepF c58 O R q 1 [x0, x2, x4] h := by kernel_rfl
noncomputable def b58_2 (O : Oracle) (R : Jump) (q : Nat) (x2 x4 : TVal) (h : Heap) : Res1 :=
  vload true 1 x4 h fun x47 h =>
  vstore 1 x2 x47 h fun _ h =>
  vcell true 1 x2 h fun c0 => vfin true q [c0] h
theorem e58_2 (O : Oracle) (R : Jump) (q : Nat) (x2 x4 : TVal) (h : Heap) : b58_2 O R q x2 x4 h = stepF c58 O R q 2 [x2, x4] h := by kernel_rfl
noncomputable def d58 : BlkF := fun O R q => [.s fun y0 => .z fun h => b58_0 O R q y0 h, .s fun y0 => .s fun y1 => .s fun y2 => .z fun h => b58_1 O R q y0 y1 y2 h, .s fun y0 => .s fun y1 => .z fun h => b58_2 O R q y0 y1 h]
theorem o58 (O : Oracle) (R : Jump) (q : Nat) : HoldsAll c58 O R q 0 (d58 O R q) := ⟨fun y0 h => e58_0 O R q y0 h, fun y0 y1 y2 h => e58_1 O R q y0 y1 y2 h, fun y0 y1 h => e58_2 O R q y0 y1 h, trivial⟩
/- (*sprue/tree.reader).sign -/
def c59 : MFunc := { np := 2, res := [.t 4], frz := true, body := (.seq (.reg [⟨(some 4), (.mv (.k (.v (.c (.p (.bool false)))))), none⟩] []) (.seq (.seq (.reg [⟨(some 5), (.mv (.t 0)), none⟩, ⟨(some 6), (.call (.k (.v (.c (.func 80 [])))) [(.t 5), (.k (.v (.c (.p (.int .i64 0)))))]), none⟩, ⟨(some 7), (.mv (.t 1)), none⟩, ⟨(some 8), (.call (.k (.v (.c (.func 81 [])))) [(.t 6), (.t 7)]), none⟩, ⟨(some 9), (.un .not (.t 8)), none⟩] []) (.cond (.t 9) (.seq (.reg [⟨(some 4), (.mv (.k (.v (.c (.p (.bool false)))))), none⟩] []) .ret) .skip)) (.seq (.reg [⟨(some 10), (.mv (.t 0)), none⟩, ⟨(some 11), (.nilck (.t 10)), none⟩, ⟨(some 12), (.faddr 1 (.t 11)), none⟩, ⟨(some 13), (.load false 1 (.t 12)), none⟩, ⟨(some 14), (.bin .add 0 (.t 13) (.k (.v (.c (.p (.int .i64 1)))))), none⟩, ⟨(some 15), (.nilck (.t 10)), none⟩, ⟨(some 16), (.faddr 1 (.t 15)), none⟩, ⟨none, (.store 1 (.t 16) (.t 14)), none⟩] []) (.seq (.reg [⟨(some 4), (.mv (.k (.v (.c (.p (.bool true)))))), none⟩] []) .ret)))) }
theorem t59 : compF Tryd.prog (globs2 tabs opq) false true Tryd.f59 = some c59.erase := by kernel_rfl
noncomputable def b59_0 (O : Oracle) (R : Jump) (q : Nat) (x0 x1 : TVal) (h : Heap) : Res1 :=
  vcall O (.v (.c (.func 80 []))) [x0, (kI 0)] h 6 fun x6 h =>
  vcall O (.v (.c (.func 81 []))) [x6, x1] h 8 fun x8 h =>
  vop O (.un .not (.k x8)) h 9 fun x9 h =>
  vif x9 (
  tcomp (kB false) fun c0 => vfin true q [c0] h)
  (vop O (.nilck (.k x0)) h 11 fun x11 h =>
  vfaddr 1 x11 h fun x12 h =>
  vload false 1 x12 h fun x13 h =>
  vbin .add 0 x13 (kI 1) h fun x14 h =>
  vop O (.nilck (.k x0)) h 15 fun x15 h =>
  vfaddr 1 x15 h fun x16 h =>
  vstore 1 x16 x14 h fun _ h =>
  tcomp (kB true) fun c0 => vfin true q [c0] h)
theorem e59_0 (O : Oracle) (R : Jump) (q : Nat) (x0 x1 : TVal) (h : Heap) : b59_0 O R q x0 x1 h = stepF c59 O R q 0 [x0, x1] h := by kernel_rfl
noncomputable def d59 : BlkF := fun O R q => [.s fun y0 => .s fun y1 => .z fun h => b59_0 O R q y0 y1 h]
theorem o59 (O : Oracle) (R : Jump) (q : Nat) : HoldsAll c59 O R q 0 (d59 O R q) := ⟨fun y0 y1 h => e59_0 O R q y0 y1 h, trivial⟩
/- (*sprue/tree.reader).need -/
def c60 : MFunc := { np := 2, res := [], frz := true, body := (.seq (.reg [⟨(some 4), (.mv (.t 1)), none⟩, ⟨(some 5), (.un .not (.t 4)), none⟩] []) (.cond (.t 5) (.reg [⟨(some 6), (.mv (.t 0)), none⟩, ⟨(some 7), (.call (.k (.v (.c (.func 95 [])))) [(.t 6), (.k (.v (.c (.p (.int .i64 12)))))]), none⟩] []) .skip)) }
theorem t60 : compF Tryd.prog (globs2 tabs opq) false true Tryd.f60 = some c60.erase := by kernel_rfl
noncomputable def b60_0 (O : Oracle) (R : Jump) (q : Nat) (x0 x1 : TVal) (h : Heap) : Res1 :=
  vop O (.un .not (.k x1)) h 5 fun x5 h =>
  vif x5 (
  vcall O (.v (.c (.func 95 []))) [x0, (kI 12)] h 7 fun x7 h =>
  vfin true q [] h)
  (vfin true q [] h)
theorem e60_0 (O : Oracle) (R : Jump) (q : Nat) (x0 x1 : TVal) (h : Heap) : b60_0 O R q x0 x1 h = stepF c60 O R q 0 [x0, x1] h := by kernel_rfl
noncomputable def d60 : BlkF := fun O R q => [.s fun y0 => .s fun y1 => .z fun h => b60_0 O R q y0 y1 h]
theorem o60 (O : Oracle) (R : Jump) (q : Nat) : HoldsAll c60 O R q 0 (d60 O R q) := ⟨fun y0 y1 h => e60_0 O R q y0 y1 h, trivial⟩
/- sprue/scan.letter -/
def c72 : MFunc := { np := 1, res := [.t 2], frz := true, body := (.seq (.reg [⟨(some 2), (.mv (.k (.v (.c (.p (.bool false)))))), none⟩] []) (.seq (.reg [⟨(some 3), (.mv (.t 0)), none⟩, ⟨(some 4), (.bin .eql 0 (.t 3) (.k (.v (.c (.p (.int .u8 95)))))), none⟩, ⟨(some 5), (.mv (.t 4)), none⟩, ⟨(some 6), (.mv (.t 0)), (some (5, false))⟩, ⟨(some 7), (.bin .or 0 (.t 6) (.k (.v (.c (.p (.int .u8 32)))))), (some (5, false))⟩, ⟨(some 8), (.bin .geq 0 (.t 7) (.k (.v (.c (.p (.int .u8 97)))))), (some (5, false))⟩, ⟨(some 9), (.mv (.t 8)), (some (5, false))⟩, ⟨(some 10), (.mv (.t 0)), (some (9, true))⟩, ⟨(some 11), (.bin .or 0 (.t 10) (.k (.v (.c (.p (.int .u8 32)))))), (some (9, true))⟩, ⟨(some 12), (.bin .leq 0 (.t 11) (.k (.v (.c (.p (.int .u8 122)))))), (some (9, true))⟩, ⟨(some 13), (.pick (.t 9) (.t 12) (.k (.v (.c (.p (.bool false)))))), (some (5, false))⟩, ⟨(some 14), (.pick (.t 5) (.k (.v (.c (.p (.bool true))))) (.t 13)), none⟩, ⟨(some 2), (.mv (.t 14)), none⟩] []) .ret)) }
theorem t72 : compF Tryd.prog (globs2 tabs opq) false true Tryd.f72 = some c72.erase := by kernel_rfl
noncomputable def b72_0 (O : Oracle) (R : Jump) (q : Nat) (x0 : TVal) (h : Heap) : Res1 :=
  vbin .eql 0 x0 (.v (.c (.p (.int .u8 95)))) h fun x4 h =>
  vguard x4 false (fun kk => kk x0 h) h fun x6 h =>
  vguard x4 false (fun kk => vbin .or 0 x6 (.v (.c (.p (.int .u8 32)))) h kk) h fun x7 h =>
  vguard x4 false (fun kk => vbin .geq 0 x7 (.v (.c (.p (.int .u8 97)))) h kk) h fun x8 h =>
  vguard x4 false (fun kk => kk x8 h) h fun x9 h =>
  vguard x9 true (fun kk => kk x0 h) h fun x10 h =>
  vguard x9 true (fun kk => vbin .or 0 x10 (.v (.c (.p (.int .u8 32)))) h kk) h fun x11 h =>
  vguard x9 true (fun kk => vbin .leq 0 x11 (.v (.c (.p (.int .u8 122)))) h kk) h fun x12 h =>
  vguard x4 false (fun kk => vop O (.pick (.k x9) (.k x12) (.k (kB false))) h 13 kk) h fun x13 h =>
  vop O (.pick (.k x4) (.k (kB true)) (.k x13)) h 14 fun x14 h =>
  tcomp x14 fun c0 => vfin true q [c0] h
theorem e72_0 (O : Oracle) (R : Jump) (q : Nat) (x0 : TVal) (h : Heap) : b72_0 O R q x0 h = stepF c72 O R q 0 [x0] h := by kernel_rfl
noncomputable def d72 : BlkF := fun O R q => [.s fun y0 => .z fun h => b72_0 O R q y0 h]
theorem o72 (O : Oracle) (R : Jump) (q : Nat) : HoldsAll c72 O R q 0 (d72 O R q) := ⟨fun y0 h => e72_0 O R q y0 h, trivial⟩
/- sprue/scan.word -/
def c73 : MFunc := { np := 1, res := [.cell 2 true 4, .t 3, .t 4], frz := true, body := (.seq (.reg [⟨(some 2), (.alloc [(.p (.int .i64 0)), (.p (.str [])), (.p (.int .i64 0)), (.p (.int .i64 0))] false), none⟩, ⟨(some 3), (.mv (.k (.v (.c (.p (.int .i64 0)))))), none⟩, ⟨(some 4), (.mv (.k (.v (.c (.p (.int .i64 0)))))), none⟩] []) (.seq (.reg [⟨(some 6), (.mv (.t 0)), none⟩, ⟨(some 7), (.call (.k (.v (.c (.func 84 [])))) [(.t 6)]), none⟩, ⟨(some 5), (.mv (.t 7)), none⟩] []) (.seq (.seq (.reg [⟨(some 8), (.mv (.t 5)), none⟩, ⟨(some 9), (.bin .gtr 0 (.t 8) (.k (.v (.c (.p (.int .i64 16)))))), none⟩] []) (.cond (.t 9) (.seq (.reg [⟨(some 10), (.build [(.p (.int .i64 0)), (.p (.str [])), (.p (.int .i64 0)), (.p (.int .i64 0))] []), none⟩, ⟨none, (.store 4 (.t 2) (.t 10)), none⟩, ⟨(some 3), (.mv (.k (.v (.c (.p (.int .i64 0)))))), none⟩, ⟨(some 4), (.mv (.k (.v (.c (.p (.int .i64 4)))))), none⟩] []) .ret) .skip)) (.seq (.reg [⟨(some 11), (.mv (.t 0)), none⟩, ⟨(some 12), (.mv (.t 5)), none⟩, ⟨(some 13), (.slice 0 true (.t 11) none (some (.t 12)) none), none⟩, ⟨(some 14), (.build [(.p (.int .i64 0)), (.p (.str [])), (.p (.int .i64 0)), (.p (.int .i64 0))] [(0, 1, (.k (.v (.c (.p (.int .i64 1)))))), (1, 1, (.t 13))]), none⟩, ⟨(some 15), (.mv (.t 5)), none⟩, ⟨none, (.store 4 (.t 2) (.t 14)), none⟩, ⟨(some 3), (.mv (.t 15)), none⟩, ⟨(some 4), (.mv (.k (.v (.c (.p (.int .i64 0)))))), none⟩] []) .ret)))) }
theorem t73 : compF Tryd.prog (globs2 tabs opq) false true Tryd.f73 = some c73.erase := by kernel_rfl
noncomputable def b73_0 (O : Oracle) (R : Jump) (q : Nat) (x0 : TVal) (h : Heap) : Res1 :=
  vop O (.alloc [(.p (.int .i64 0)), (.p (.str [])), (.p (.int .i64 0)), (.p (.int .i64 0))] false) h 2 fun x2 h =>
  vcall O (.v (.c (.func 84 []))) [x0] h 7 fun x7 h =>
  vbin .gtr 0 x7 (kI 16) h fun x9 h =>
  vif x9 (
  vop O (.build [(.p (.int .i64 0)), (.p (.str [])), (.p (.int .i64 0)), (.p (.int .i64 0))] []) h 10 fun x10 h =>
  vstore 4 x2 x10 h fun _ h =>
  vcell true 4 x2 h fun c0 => tcomp (kI 0) fun c1 => tcomp (kI 4) fun c2 => vfin true q [c0, c1, c2] h)
  (vop O (.slice 0 true (.k x0) none (some (.k x7)) none) h 13 fun x13 h =>
  vop O (.build [(.p (.int .i64 0)), (.p (.str [])), (.p (.int .i64 0)), (.p (.int .i64 0))] [(0, 1, (.k (kI 1))), (1, 1, (.k x13))]) h 14 fun x14 h =>
  vstore 4 x2 x14 h fun _ h =>
  vcell true 4 x2 h fun c0 => tcomp x7 fun c1 => tcomp (kI 0) fun c2 => vfin true q [c0, c1, c2] h)
theorem e73_0 (O : Oracle) (R : Jump) (q : Nat) (x0 : TVal) (h : Heap) : b73_0 O R q x0 h = stepF c73 O R q 0 [x0] h := by kernel_rfl
noncomputable def d73 : BlkF := fun O R q => [.s fun y0 => .z fun h => b73_0 O R q y0 h]
theorem o73 (O : Oracle) (R : Jump) (q : Nat) : HoldsAll c73 O R q 0 (d73 O R q) := ⟨fun y0 h => e73_0 O R q y0 h, trivial⟩
/- sprue/scan.digit -/
def c74 : MFunc := { np := 1, res := [.t 2], frz := true, body := (.seq (.reg [⟨(some 2), (.mv (.k (.v (.c (.p (.bool false)))))), none⟩] []) (.seq (.reg [⟨(some 3), (.mv (.t 0)), none⟩, ⟨(some 4), (.bin .geq 0 (.t 3) (.k (.v (.c (.p (.int .u8 48)))))), none⟩, ⟨(some 5), (.mv (.t 4)), none⟩, ⟨(some 6), (.mv (.t 0)), (some (5, true))⟩, ⟨(some 7), (.bin .leq 0 (.t 6) (.k (.v (.c (.p (.int .u8 57)))))), (some (5, true))⟩, ⟨(some 8), (.pick (.t 5) (.t 7) (.k (.v (.c (.p (.bool false)))))), none⟩, ⟨(some 2), (.mv (.t 8)), none⟩] []) .ret)) }
theorem t74 : compF Tryd.prog (globs2 tabs opq) false true Tryd.f74 = some c74.erase := by kernel_rfl
noncomputable def b74_0 (O : Oracle) (R : Jump) (q : Nat) (x0 : TVal) (h : Heap) : Res1 :=
  vbin .geq 0 x0 (.v (.c (.p (.int .u8 48)))) h fun x4 h =>
  vguard x4 true (fun kk => kk x0 h) h fun x6 h =>
  vguard x4 true (fun kk => vbin .leq 0 x6 (.v (.c (.p (.int .u8 57)))) h kk) h fun x7 h =>
  vop O (.pick (.k x4) (.k x7) (.k (kB false))) h 8 fun x8 h =>
  tcomp x8 fun c0 => vfin true q [c0] h
theorem e74_0 (O : Oracle) (R : Jump) (q : Nat) (x0 : TVal) (h : Heap) : b74_0 O R q x0 h = stepF c74 O R q 0 [x0] h := by kernel_rfl
noncomputable def d74 : BlkF := fun O R q => [.s fun y0 => .z fun h => b74_0 O R q y0 h]
theorem o74 (O : Oracle) (R : Jump) (q : Nat) : HoldsAll c74 O R q 0 (d74 O R q) := ⟨fun y0 h => e74_0 O R q y0 h, trivial⟩
/- sprue/scan.number -/
def c75 : MFunc := { np := 1, res := [.cell 2 true 4, .t 3, .t 4], frz := true, body := (.seq (.reg [⟨(some 2), (.alloc [(.p (.int .i64 0)), (.p (.str [])), (.p (.int .i64 0)), (.p (.int .i64 0))] false), none⟩, ⟨(some 3), (.mv (.k (.v (.c (.p (.int .i64 0)))))), none⟩, ⟨(some 4), (.mv (.k (.v (.c (.p (.int .i64 0)))))), none⟩] []) (.seq (.reg [⟨(some 10), (.mv (.t 0)), none⟩, ⟨(some 11), (.len 0 (.t 10)), none⟩, ⟨(some 12), (.mv (.t 0)), none⟩, ⟨(some 13), (.call (.k (.v (.c (.func 104 [])))) [(.t 12), (.k (.v (.c (.p (.str [45])))))]), none⟩, ⟨(some 14), (.len 0 (.t 13)), none⟩, ⟨(some 15), (.bin .sub 0 (.t 11) (.t 14)), none⟩, ⟨(some 5), (.mv (.t 15)), none⟩] []) (.seq (.reg [⟨(some 16), (.mv (.t 0)), none⟩, ⟨(some 17), (.mv (.t 5)), none⟩, ⟨(some 18), (.slice 0 true (.t 16) (some (.t 17)) none none), none⟩, ⟨(some 19), (.call (.k (.v (.c (.func 105 [])))) [(.t 18), (.k (.v (.c (.func 74 []))))]), none⟩, ⟨(some 6), (.mv (.t 19)), none⟩] []) (.seq (.seq (.reg [⟨(some 20), (.mv (.t 6)), none⟩, ⟨(some 21), (.bin .gtr 0 (.t 20) (.k (.v (.c (.p (.int .i64 19)))))), none⟩] []) (.cond (.t 21) (.seq (.reg [⟨(some 22), (.build [(.p (.int .i64 0)), (.p (.str [])), (.p (.int .i64 0)), (.p (.int .i64 0))] []), none⟩, ⟨none, (.store 4 (.t 2) (.t 22)), none⟩, ⟨(some 3), (.mv (.k (.v (.c (.p (.int .i64 0)))))), none⟩, ⟨(some 4), (.mv (.k (.v (.c (.p (.int .i64 4)))))), none⟩] []) .ret) .skip)) (.seq (.reg [⟨(some 7), (.mv (.k (.v (.c (.p (.int .u64 0)))))), none⟩] []) (.seq (.seq (.reg [⟨(some 23), (.mv (.t 0)), none⟩, ⟨(some 24), (.mv (.t 5)), none⟩, ⟨(some 25), (.mv (.t 5)), none⟩, ⟨(some 26), (.mv (.t 6)), none⟩, ⟨(some 27), (.bin .add 0 (.t 25) (.t 26)), none⟩, ⟨(some 28), (.slice 0 true (.t 23) (some (.t 24)) (some (.t 27)) none), none⟩, ⟨(some 29), (.rangeS (.t 28)), none⟩] []) (.block 0 (.loop 1 [2, 5, 6, 7, 29] (.seq (.reg [⟨(some 30), (.nextS (.t 29)), none⟩, ⟨(some 31), (.extract (.t 30) 0), none⟩] []) (.seq (.cond (.t 31) .skip (.exit 0)) (.block 1 (.seq (.reg [⟨(some 32), (.extract (.t 30) 2), none⟩, ⟨(some 9), (.mv (.t 32)), none⟩] []) (.reg [⟨(some 33), (.mv (.t 7)), none⟩, ⟨(some 34), (.bin .mul 0 (.k (.v (.c (.p (.int .u64 10))))) (.t 33)), none⟩, ⟨(some 35), (.mv (.t 9)), none⟩, ⟨(some 36), (.bin .sub 0 (.t 35) (.k (.v (.c (.p (.int .i32 48)))))), none⟩, ⟨(some 37), (.toInt .u64 (.t 36)), none⟩, ⟨(some 38), (.bin .add 0 (.t 34) (.t 37)), none⟩, ⟨(some 7), (.mv (.t 38)), none⟩] [])))))))) (.mark 2 [2, 5, 6, 7] (.seq (.block 2 (.seq (.reg [⟨(some 40), (.mv (.t 7)), none⟩, ⟨(some 41), (.mv (.t 5)), none⟩, ⟨(some 42), (.toInt .u64 (.t 41)), none⟩, ⟨(some 43), (.bin .add 0 (.k (.v (.c (.p (.int .u64 9223372036854775807))))) (.t 42)), none⟩, ⟨(some 44), (.bin .gtr 0 (.t 40) (.t 43)), none⟩, ⟨(some 39), (.mv (.t 44)), none⟩] []) (.cond (.t 39) (.seq (.reg [⟨(some 45), (.build [(.p (.int .i64 0)), (.p (.str [])), (.p (.int .i64 0)), (.p (.int .i64 0))] []), none⟩, ⟨none, (.store 4 (.t 2) (.t 45)), none⟩, ⟨(some 3), (.mv (.k (.v (.c (.p (.int .i64 0)))))), none⟩, ⟨(some 4), (.mv (.k (.v (.c (.p (.int .i64 11)))))), none⟩] []) .ret) (.seq (.reg [⟨(some 47), (.mv (.t 5)), none⟩, ⟨(some 48), (.bin .gtr 0 (.t 47) (.k (.v (.c (.p (.int .i64 0)))))), none⟩, ⟨(some 46), (.mv (.t 48)), none⟩] []) (.cond (.t 46) (.seq (.reg [⟨(some 49), (.mv (.t 7)), none⟩, ⟨(some 50), (.toInt .i64 (.t 49)), none⟩, ⟨(some 51), (.un .neg (.t 50)), none⟩, ⟨(some 52), (.build [(.p (.int .i64 0)), (.p (.str [])), (.p (.int .i64 0)), (.p (.int .i64 0))] [(0, 1, (.k (.v (.c (.p (.int .i64 3)))))), (2, 1, (.t 51))]), none⟩, ⟨(some 53), (.mv (.t 5)), none⟩, ⟨(some 54), (.mv (.t 6)), none⟩, ⟨(some 55), (.bin .add 0 (.t 53) (.t 54)), none⟩, ⟨none, (.store 4 (.t 2) (.t 52)), none⟩, ⟨(some 3), (.mv (.t 55)), none⟩, ⟨(some 4), (.mv (.k (.v (.c (.p (.int .i64 0)))))), none⟩] []) .ret) .skip))))) (.seq (.reg [⟨(some 56), (.mv (.t 7)), none⟩, ⟨(some 57), (.toInt .i64 (.t 56)), none⟩, ⟨(some 58), (.build [(.p (.int .i64 0)), (.p (.str [])), (.p (.int .i64 0)), (.p (.int .i64 0))] [(0, 1, (.k (.v (.c (.p (.int .i64 3)))))), (2, 1, (.t 57))]), none⟩, ⟨(some 59), (.mv (.t 6)), none⟩, ⟨none, (.store 4 (.t 2) (.t 58)), none⟩, ⟨(some 3), (.mv (.t 59)), none⟩, ⟨(some 4), (.mv (.k (.v (.c (.p (.int .i64 0)))))), none⟩] []) .ret))))))))) }
theorem t75 : compF Tryd.prog (globs2 tabs opq) false true Tryd.f75 = some c75.erase := by kernel_rfl
noncomputable def b75_0 (O : Oracle) (R : Jump) (q : Nat) (x0 : TVal) (h : Heap) : Res1 :=
  vop O (.alloc [(.p (.int .i64 0)), (.p (.str [])), (.p (.int .i64 0)), (.p (.int .i64 0))] false) h 2 fun x2 h =>
  vlen O 0 x0 h 11 fun x11 h =>
  vcall O (.v (.c (.func 104 []))) [x0, (kS [45])] h 13 fun x13 h =>
  vlen O 0 x13 h 14 fun x14 h =>
  vbin .sub 0 x11 x14 h fun x15 h =>
  vop O (.slice 0 true (.k x0) (some (.k x15)) none none) h 18 fun x18 h =>
  vcall O (.v (.c (.func 105 []))) [x18, (.v (.c (.func 74 [])))] h 19 fun x19 h =>
  vbin .gtr 0 x19 (kI 19) h fun x21 h =>
  vif x21 (
  vop O (.build [(.p (.int .i64 0)), (.p (.str [])), (.p (.int .i64 0)), (.p (.int .i64 0))] []) h 22 fun x22 h =>
  vstore 4 x2 x22 h fun _ h =>
  vcell true 4 x2 h fun c0 => tcomp (kI 0) fun c1 => tcomp (kI 4) fun c2 => vfin true q [c0, c1, c2] h)
  (vbin .add 0 x15 x19 h fun x27 h =>
  vop O (.slice 0 true (.k x0) (some (.k x15)) (some (.k x27)) none) h 28 fun x28 h =>
  vop O (.rangeS (.k x28)) h 29 fun x29 h =>
  R 1 [x2, x15, x19, (.v (.c (.p (.int .u64 0)))), x29] h)
theorem e75_0 (O : Oracle) (R : Jump) (q : Nat) (x0 : TVal) (h : Heap) : b75_0 O R q x0 h = stepF c75 O R q 0 [x0] h := by kernel_rfl
noncomputable def b75_1 (O : Oracle) (R : Jump) (q : Nat) (x2 x5 x6 x7 x29 : TVal) (h : Heap) : Res1 :=
  vop O (.nextS (.k x29)) h 30 fun x30 h =>
  vext x30 0 h fun x31 h =>
  vif x31 (
  vext x30 2 h fun x32 h =>
  vbin .mul 0 (.v (.c (.p (.int .u64 10)))) x7 h fun x34 h =>
  vbin .sub 0 x32 (.v (.c (.p (.int .i32 48)))) h fun x36 h =>
  vtoInt .u64 x36 h fun x37 h =>
  vbin .add 0 x34 x37 h fun x38 h =>
  R 1 [x2, x5, x6, x38, x29] h)
  (R 2 [x2, x5, x6, x7] h)
theorem e75_1 (O : Oracle) (R : Jump) (q : Nat) (x2 x5 x6 x7 x29 : TVal) (h : Heap) : b75_1 O R q x2 x5 x6 x7 x29 h = stepF c75 O R q 1 [x2, x5, x6, x7, x29] h := by kernel_rfl
noncomputable def b75_2 (O : Oracle) (R : Jump) (q : Nat) (x2 x5 x6 x7 : TVal) (h : Heap) : Res1 :=
  vtoInt .u64 x5 h fun x42 h =>
  vbin .add 0 (.v (.c (.p (.int .u64 9223372036854775807)))) x42 h fun x43 h =>
  vbin .gtr 0 x7 x43 h fun x44 h =>
  vif x44 (
  vop O (.build [(.p (.int .i64 0)), (.p (.str [])), (.p (.int .i64 0)), (.p (.int .i64 0))] []) h 45 fun x45 h =>
  vstore 4 x2 x45 h fun _ h =>
  vcell true 4 x2 h fun c0 => tcomp (kI 0) fun c1 => tcomp (kI 11) fun c2 => vfin true q [c0, c1, c2] h)
  (vbin .gtr 0 x5 (kI 0) h fun x48 h =>
  vif x48 (
  vtoInt .i64 x7 h fun x50 h =>
  vop O (.un .neg (.k x50)) h 51 fun x51 h =>
  vop O (.build [(.p (.int .i64 0)), (.p (.str [])), (.p (.int .i64 0)), (.p (.int .i64 0))] [(0, 1, (.k (kI 3))), (2, 1, (.k x51))]) h 52 fun x52 h =>
  vbin .add 0 x5 x6 h fun x55 h =>
  vstore 4 x2 x52 h fun _ h =>
  vcell true 4 x2 h fun c0 => tcomp x55 fun c1 => tcomp (kI 0) fun c2 => vfin true q [c0, c1, c2] h)
  (vtoInt .i64 x7 h fun x57 h =>
  vop O (.build [(.p (.int .i64 0)), (.p (.str [])), (.p (.int .i64 0)), (.p (.int .i64 0))] [(0, 1, (.k (kI 3))), (2, 1, (.k x57))]) h 58 fun x58 h =>
  vstore 4 x2 x58 h fun _ h =>
  vcell true 4 x2 h fun c0 => tcomp x6 fun c1 => tcomp (kI 0) fun c2 => vfin true q [c0, c1, c2] h))
theorem e75_2 (O : Oracle) (R : Jump) (q : Nat) (x2 x5 x6 x7 : TVal) (h : Heap) : b75_2 O R q x2 x5 x6 x7 h = stepF c75 O R q 2 [x2, x5, x6, x7] h := by kernel_rfl
noncomputable def d75 : BlkF := fun O R q => [.s fun y0 => .z fun h => b75_0 O R q y0 h, .s fun y0 => .s fun y1 => .s fun y2 => .s fun y3 => .s fun y4 => .z fun h => b75_1 O R q y0 y1 y2 y3 y4 h, .s fun y0 => .s fun y1 => .s fun y2 => .s fun y3 => .z fun h => b75_2 O R q y0 y1 y2 y3 h]
theorem o75 (O : Oracle) (R : Jump) (q : Nat) : HoldsAll c75 O R q 0 (d75 O R q) := ⟨fun y0 h => e75_0 O R q y0 h, fun y0 y1 y2 y3 y4 h => e75_1 O R q y0 y1 y2 y3 y4 h, fun y0 y1 y2 y3 h => e75_2 O R q y0 y1 y2 y3 h, trivial⟩
/- sprue/scan.text -/
def c76 : MFunc := { np := 1, res := [.cell 2 true 4, .t 3, .t 4], frz := true, body := (.seq (.reg [⟨(some 2), (.alloc [(.p (.int .i64 0)), (.p (.str [])), (.p (.int .i64 0)), (.p (.int .i64 0))] false), none⟩, ⟨(some 3), (.mv (.k (.v (.c (.p (.int .i64 0)))))), none⟩, ⟨(some 4), (.mv (.k (.v (.c (.p (.int .i64 0)))))), none⟩] []) (.seq (.reg [⟨(some 5), (.mv (.k (.v (.c (.p .nilslice))))), none⟩] []) (.seq (.seq (.reg [⟨(some 6), (.mv (.k (.v (.c (.p (.int .i64 1)))))), none⟩] []) (.block 0 (.loop 1 [0, 2, 5, 6] (.seq (.seq (.reg [⟨(some 10), (.mv (.t 6)), none⟩, ⟨(some 11), (.mv (.t 0)), none⟩, ⟨(some 12), (.len 0 (.t 11)), none⟩, ⟨(some 13), (.bin .lss 0 (.t 10) (.t 12)), none⟩] []) (.cond (.t 13) .skip (.exit 0))) (.seq (.block 1 (.seq (.reg [⟨(some 16), (.mv (.t 0)), none⟩, ⟨(some 17), (.mv (.t 6)), none⟩, ⟨(some 18), (.index (.t 16) (.t 17)), none⟩, ⟨(some 7), (.mv (.t 18)), none⟩] []) (.block 2 (.seq (.reg [⟨(some 24), (.mv (.t 7)), none⟩, ⟨(some 25), (.bin .lss 0 (.t 24) (.k (.v (.c (.p (.int .u8 32)))))), none⟩, ⟨(some 23), (.mv (.t 25)), none⟩] []) (.cond (.t 23) (.seq (.reg [⟨(some 26), (.build [(.p (.int .i64 0)), (.p (.str [])), (.p (.int .i64 0)), (.p (.int .i64 0))] []), none⟩, ⟨none, (.store 4 (.t 2) (.t 26)), none⟩, ⟨(some 3), (.mv (.k (.v (.c (.p (.int .i64 0)))))), none⟩, ⟨(some 4), (.mv (.k (.v (.c (.p (.int .i64 11)))))), none⟩] []) .ret) (.seq (.reg [⟨(some 28), (.mv (.t 7)), none⟩, ⟨(some 29), (.bin .eql 0 (.t 28) (.k (.v (.c (.p (.int .u8 34)))))), none⟩, ⟨(some 30), (.mv (.t 29)), none⟩, ⟨(some 31), (.mv (.t 5)), (some (30, true))⟩, ⟨(some 32), (.len 2 (.t 31)), (some (30, true))⟩, ⟨(some 33), (.bin .gtr 0 (.t 32) (.k (.v (.c (.p (.int .i64 200)))))), (some (30, true))⟩, ⟨(some 34), (.pick (.t 30) (.t 33) (.k (.v (.c (.p (.bool false)))))), none⟩, ⟨(some 27), (.mv (.t 34)), none⟩] []) (.cond (.t 27) (.seq (.reg [⟨(some 35), (.build [(.p (.int .i64 0)), (.p (.str [])), (.p (.int .i64 0)), (.p (.int .i64 0))] []), none⟩, ⟨none, (.store 4 (.t 2) (.t 35)), none⟩, ⟨(some 3), (.mv (.k (.v (.c (.p (.int .i64 0)))))), none⟩, ⟨(some 4), (.mv (.k (.v (.c (.p (.int .i64 4)))))), none⟩] []) .ret) (.seq (.reg [⟨(some 37), (.mv (.t 7)), none⟩, ⟨(some 38), (.bin .eql 0 (.t 37) (.k (.v (.c (.p (.int .u8 34)))))), none⟩, ⟨(some 36), (.mv (.t 38)), none⟩] []) (.cond (.t 36) (.seq (.reg [⟨(some 39), (.mv (.t 5)), none⟩, ⟨(some 40), (.toStr (.t 39)), none⟩, ⟨(some 41), (.build [(.p (.int .i64 0)), (.p (.str [])), (.p (.int .i64 0)), (.p (.int .i64 0))] [(0, 1, (.k (.v (.c (.p (.int .i64 2)))))), (1, 1, (.t 40))]), none⟩, ⟨(some 42), (.mv (.t 6)), none⟩, ⟨(some 43), (.bin .add 0 (.t 42) (.k (.v (.c (.p (.int .i64 1)))))), none⟩, ⟨none, (.store 4 (.t 2) (.t 41)), none⟩, ⟨(some 3), (.mv (.t 43)), none⟩, ⟨(some 4), (.mv (.k (.v (.c (.p (.int .i64 0)))))), none⟩] []) .ret) (.seq (.reg [⟨(some 45), (.mv (.t 7)), none⟩, ⟨(some 46), (.bin .eql 0 (.t 45) (.k (.v (.c (.p (.int .u8 92)))))), none⟩, ⟨(some 47), (.mv (.t 46)), none⟩, ⟨(some 48), (.mv (.t 6)), (some (47, true))⟩, ⟨(some 49), (.bin .add 0 (.t 48) (.k (.v (.c (.p (.int .i64 1)))))), (some (47, true))⟩, ⟨(some 50), (.mv (.t 0)), (some (47, true))⟩, ⟨(some 51), (.len 0 (.t 50)), (some (47, true))⟩, ⟨(some 52), (.bin .lss 0 (.t 49) (.t 51)), (some (47, true))⟩, ⟨(some 53), (.pick (.t 47) (.t 52) (.k (.v (.c (.p (.bool false)))))), none⟩, ⟨(some 44), (.mv (.t 53)), none⟩] []) (.cond (.t 44) (.seq (.reg [⟨(some 55), (.mv (.t 0)), none⟩, ⟨(some 56), (.mv (.t 6)), none⟩, ⟨(some 57), (.bin .add 0 (.t 56) (.k (.v (.c (.p (.int .i64 1)))))), none⟩, ⟨(some 58), (.index (.t 55) (.t 57)), none⟩, ⟨(some 59), (.call (.k (.v (.c (.func 106 [])))) [(.t 58)]), none⟩, ⟨(some 54), (.mv (.t 59)), none⟩, ⟨(some 60), (.extract (.t 54) 0), none⟩, ⟨(some 61), (.extract (.t 54) 1), none⟩, ⟨(some 8), (.mv (.t 60)), none⟩, ⟨(some 9), (.mv (.t 61)), none⟩] []) (.seq (.seq (.reg [⟨(some 62), (.mv (.t 9)), none⟩, ⟨(some 63), (.un .not (.t 62)), none⟩] []) (.cond (.t 63) (.seq (.reg [⟨(some 64), (.build [(.p (.int .i64 0)), (.p (.str [])), (.p (.int .i64 0)), (.p (.int .i64 0))] []), none⟩, ⟨none, (.store 4 (.t 2) (.t 64)), none⟩, ⟨(some 3), (.mv (.k (.v (.c (.p (.int .i64 0)))))), none⟩, ⟨(some 4), (.mv (.k (.v (.c (.p (.int .i64 11)))))), none⟩] []) .ret) .skip)) (.seq (.reg [⟨(some 65), (.mv (.t 5)), none⟩, ⟨(some 66), (.mv (.t 8)), none⟩, ⟨(some 67), (.bslice 1 1 [(.p (.int .u8 0))] [(0, (.t 66))] false), none⟩, ⟨(some 68), (.append 1 1 false (.t 65) (.t 67)), none⟩, ⟨(some 5), (.mv (.t 68)), none⟩] []) (.reg [⟨(some 69), (.mv (.t 6)), none⟩, ⟨(some 70), (.bin .add 0 (.t 69) (.k (.v (.c (.p (.int .i64 1)))))), none⟩, ⟨(some 6), (.mv (.t 70)), none⟩] [])))) (.reg [⟨(some 19), (.mv (.t 5)), none⟩, ⟨(some 20), (.mv (.t 7)), none⟩, ⟨(some 21), (.bslice 1 1 [(.p (.int .u8 0))] [(0, (.t 20))] false), none⟩, ⟨(some 22), (.append 1 1 false (.t 19) (.t 21)), none⟩, ⟨(some 5), (.mv (.t 22)), none⟩] [])))))))))))) (.mark 2 [0, 2, 5, 6] (.reg [⟨(some 14), (.mv (.t 6)), none⟩, ⟨(some 15), (.bin .add 0 (.t 14) (.k (.v (.c (.p (.int .i64 1)))))), none⟩, ⟨(some 6), (.mv (.t 15)), none⟩] []))))))) (.mark 3 [2] (.seq (.reg [⟨(some 71), (.build [(.p (.int .i64 0)), (.p (.str [])), (.p (.int .i64 0)), (.p (.int .i64 0))] []), none⟩, ⟨none, (.store 4 (.t 2) (.t 71)), none⟩, ⟨(some 3), (.mv (.k (.v (.c (.p (.int .i64 0)))))), none⟩, ⟨(some 4), (.mv (.k (.v (.c (.p (.int .i64 11)))))), none⟩] []) .ret))))) }
theorem t76 : compF Tryd.prog (globs2 tabs opq) false true Tryd.f76 = some c76.erase := by kernel_rfl
noncomputable def b76_0 (O : Oracle) (R : Jump) (q : Nat) (x0 : TVal) (h : Heap) : Res1 :=
  vop O (.alloc [(.p (.int .i64 0)), (.p (.str [])), (.p (.int .i64 0)), (.p (.int .i64 0))] false) h 2 fun x2 h =>
  R 1 [x0, x2, (.v (.c (.p .nilslice))), (kI 1)] h
theorem e76_0 (O : Oracle) (R : Jump) (q : Nat) (x0 : TVal) (h : Heap) : b76_0 O R q x0 h = stepF c76 O R q 0 [x0] h := by kernel_rfl
noncomputable def b76_1 (O : Oracle) (R : Jump) (q : Nat) (x0 x2 x5 x6 : TVal) (h : Heap) : Res1 :=
  vlen O 0 x0 h 12 fun x12 h =>
  vbin .lss 0 x6 x12 h fun x13 h =>
  vif x13 (
  vindex x0 x6 h fun x18 h =>
  vbin .lss 0 x18 (.v (.c (.p (.int .u8 32)))) h fun x25 h =>
  vif x25 (
  vop O (.build [(.p (.int .i64 0)), (.p (.str [])), (.p (.int .i64 0)), (.p (.int .i64 0))] []) h 26 fun x26 h =>
  vstore 4 x2 x26 h fun _ h =>
  vcell true 4 x2 h fun c0 => tcomp (kI 0) fun c1 => tcomp (kI 11) fun c2 => vfin true q [c0, c1, c2] h)
  (vbin .eql 0 x18 (.v (.c (.p (.int .u8 34)))) h fun x29 h =>
  vguard x29 true (fun kk => kk x5 h) h fun x31 h =>
  vguard x29 true (fun kk => vlen O 2 x31 h 32 kk) h fun x32 h =>
  vguard x29 true (fun kk => vbin .gtr 0 x32 (kI 200) h kk) h fun x33 h =>
  vop O (.pick (.k x29) (.k x33) (.k (kB false))) h 34 fun x34 h =>
  vif x34 (
  vop O (.build [(.p (.int .i64 0)), (.p (.str [])), (.p (.int .i64 0)), (.p (.int .i64 0))] []) h 35 fun x35 h =>
  vstore 4 x2 x35 h fun _ h =>
  vcell true 4 x2 h fun c0 => tcomp (kI 0) fun c1 => tcomp (kI 4) fun c2 => vfin true q [c0, c1, c2] h)
  (vbin .eql 0 x18 (.v (.c (.p (.int .u8 34)))) h fun x38 h =>
  vif x38 (
  vop O (.toStr (.k x5)) h 40 fun x40 h =>
  vop O (.build [(.p (.int .i64 0)), (.p (.str [])), (.p (.int .i64 0)), (.p (.int .i64 0))] [(0, 1, (.k (kI 2))), (1, 1, (.k x40))]) h 41 fun x41 h =>
  vbin .add 0 x6 (kI 1) h fun x43 h =>
  vstore 4 x2 x41 h fun _ h =>
  vcell true 4 x2 h fun c0 => tcomp x43 fun c1 => tcomp (kI 0) fun c2 => vfin true q [c0, c1, c2] h)
  (vbin .eql 0 x18 (.v (.c (.p (.int .u8 92)))) h fun x46 h =>
  vguard x46 true (fun kk => kk x6 h) h fun x48 h =>
  vguard x46 true (fun kk => vbin .add 0 x48 (kI 1) h kk) h fun x49 h =>
  vguard x46 true (fun kk => kk x0 h) h fun x50 h =>
  vguard x46 true (fun kk => vlen O 0 x50 h 51 kk) h fun x51 h =>
  vguard x46 true (fun kk => vbin .lss 0 x49 x51 h kk) h fun x52 h =>
  vop O (.pick (.k x46) (.k x52) (.k (kB false))) h 53 fun x53 h =>
  vif x53 (
  vbin .add 0 x6 (kI 1) h fun x57 h =>
  vindex x0 x57 h fun x58 h =>
  vcall O (.v (.c (.func 106 []))) [x58] h 59 fun x59 h =>
  vext x59 0 h fun x60 h =>
  vext x59 1 h fun x61 h =>
  vop O (.un .not (.k x61)) h 63 fun x63 h =>
  vif x63 (
  vop O (.build [(.p (.int .i64 0)), (.p (.str [])), (.p (.int .i64 0)), (.p (.int .i64 0))] []) h 64 fun x64 h =>
  vstore 4 x2 x64 h fun _ h =>
  vcell true 4 x2 h fun c0 => tcomp (kI 0) fun c1 => tcomp (kI 11) fun c2 => vfin true q [c0, c1, c2] h)
  (vop O (.bslice 1 1 [(.p (.int .u8 0))] [(0, (.k x60))] false) h 67 fun x67 h =>
  vop O (.append 1 1 false (.k x5) (.k x67)) h 68 fun x68 h =>
  vbin .add 0 x6 (kI 1) h fun x70 h =>
  R 2 [x0, x2, x68, x70] h))
  (vop O (.bslice 1 1 [(.p (.int .u8 0))] [(0, (.k x18))] false) h 21 fun x21 h =>
  vop O (.append 1 1 false (.k x5) (.k x21)) h 22 fun x22 h =>
  R 2 [x0, x2, x22, x6] h)))))
  (R 3 [x2] h)
theorem e76_1 (O : Oracle) (R : Jump) (q : Nat) (x0 x2 x5 x6 : TVal) (h : Heap) : b76_1 O R q x0 x2 x5 x6 h = stepF c76 O R q 1 [x0, x2, x5, x6] h := by kernel_rfl
noncomputable def b76_2 (O : Oracle) (R : Jump) (q : Nat) (x0 x2 x5 x6 : TVal) (h : Heap) : Res1 :=
  vbin .add 0 x6 (kI 1) h fun x15 h =>
  R 1 [x0, x2, x5, x15] h
theorem e76_2 (O : Oracle) (R : Jump) (q : Nat) (x0 x2 x5 x6 : TVal) (h : Heap) : b76_2 O R q x0 x2 x5 x6 h = stepF c76 O R q 2 [x0, x2, x5, x6] h := by kernel_rfl
noncomputable def b76_3 (O : Oracle) (R : Jump) (q : Nat) (x2 : TVal) (h : Heap) : Res1 :=
  vop O (.build [(.p (.int .i64 0)), (.p (.str [])), (.p (.int .i64 0)), (.p (.int .i64 0))] []) h 71 fun x71 h =>
  vstore 4 x2 x71 h fun _ h =>
  vcell true 4 x2 h fun c0 => tcomp (kI 0) fun c1 => tcomp (kI 11) fun c2 => vfin true q [c0, c1, c2] h
theorem e76_3 (O : Oracle) (R : Jump) (q : Nat) (x2 : TVal) (h : Heap) : b76_3 O R q x2 h = stepF c76 O R q 3 [x2] h := by kernel_rfl
noncomputable def d76 : BlkF := fun O R q => [.s fun y0 => .z fun h => b76_0 O R q y0 h, .s fun y0 => .s fun y1 => .s fun y2 => .s fun y3 => .z fun h => b76_1 O R q y0 y1 y2 y3 h, .s fun y0 => .s fun y1 => .s fun y2 => .s fun y3 => .z fun h => b76_2 O R q y0 y1 y2 y3 h, .s fun y0 => .z fun h => b76_3 O R q y0 h]
theorem o76 (O : Oracle) (R : Jump) (q : Nat) : HoldsAll c76 O R q 0 (d76 O R q) := ⟨fun y0 h => e76_0 O R q y0 h, fun y0 y1 y2 y3 h => e76_1 O R q y0 y1 y2 y3 h, fun y0 y1 y2 y3 h => e76_2 O R q y0 y1 y2 y3 h, fun y0 h => e76_3 O R q y0 h, trivial⟩
/- sprue/scan.sign -/
def c77 : MFunc := { np := 1, res := [.cell 2 true 4, .t 3, .t 4], frz := true, body := (.seq (.reg [⟨(some 2), (.alloc [(.p (.int .i64 0)), (.p (.str [])), (.p (.int .i64 0)), (.p (.int .i64 0))] false), none⟩, ⟨(some 3), (.mv (.k (.v (.c (.p (.int .i64 0)))))), none⟩, ⟨(some 4), (.mv (.k (.v (.c (.p (.int .i64 0)))))), none⟩] []) (.seq (.seq (.reg [⟨(some 7), (.call (.k (.v (.c (.func 107 [])))) [(.k (.v (.c (.p (.str [45, 62, 32, 58, 61])))))]), none⟩, ⟨(some 8), (.len 2 (.t 7)), none⟩, ⟨(some 9), (.mv (.k (.v (.c (.p (.int .i64 0)))))), none⟩] []) (.block 0 (.loop 1 [0, 2, 7, 8, 9] (.seq (.reg [⟨(some 10), (.bin .lss 0 (.t 9) (.t 8)), none⟩] []) (.seq (.cond (.t 10) .skip (.exit 0)) (.seq (.block 1 (.seq (.reg [⟨(some 11), (.iaddr 1 (.t 7) (.t 9)), none⟩, ⟨(some 12), (.load false 1 (.t 11)), none⟩, ⟨(some 6), (.mv (.t 12)), none⟩] []) (.seq (.reg [⟨(some 13), (.mv (.t 0)), none⟩, ⟨(some 14), (.mv (.t 6)), none⟩, ⟨(some 15), (.call (.k (.v (.c (.func 79 [])))) [(.t 13), (.t 14)]), none⟩] []) (.cond (.t 15) (.seq (.reg [⟨(some 16), (.mv (.t 6)), none⟩, ⟨(some 17), (.build [(.p (.int .i64 0)), (.p (.str [])), (.p (.int .i64 0)), (.p (.int .i64 0))] [(0, 1, (.k (.v (.c (.p (.int .i64 4)))))), (1, 1, (.t 16))]), none⟩, ⟨(some 18), (.mv (.t 6)), none⟩, ⟨(some 19), (.len 0 (.t 18)), none⟩, ⟨none, (.store 4 (.t 2) (.t 17)), none⟩, ⟨(some 3), (.mv (.t 19)), none⟩, ⟨(some 4), (.mv (.k (.v (.c (.p (.int .i64 0)))))), none⟩] []) .ret) .skip)))) (.reg [⟨(some 20), (.bin .add 0 (.t 9) (.k (.v (.c (.p (.int .i64 1)))))), none⟩, ⟨(some 9), (.mv (.t 20)), none⟩] []))))))) (.mark 2 [0, 2] (.seq (.seq (.reg [⟨(some 21), (.mv (.t 0)), none⟩, ⟨(some 22), (.slice 0 true (.t 21) none (some (.k (.v (.c (.p (.int .i64 1)))))) none), none⟩, ⟨(some 23), (.call (.k (.v (.c (.func 46 [])))) [(.k (.v (.c (.p (.str [123, 125, 60, 62, 44, 58, 40, 41, 46, 36, 124, 61, 59]))))), (.t 22)]), none⟩, ⟨(some 24), (.un .not (.t 23)), none⟩] []) (.cond (.t 24) (.seq (.reg [⟨(some 25), (.build [(.p (.int .i64 0)), (.p (.str [])), (.p (.int .i64 0)), (.p (.int .i64 0))] []), none⟩, ⟨none, (.store 4 (.t 2) (.t 25)), none⟩, ⟨(some 3), (.mv (.k (.v (.c (.p (.int .i64 0)))))), none⟩, ⟨(some 4), (.mv (.k (.v (.c (.p (.int .i64 11)))))), none⟩] []) .ret) .skip)) (.seq (.reg [⟨(some 26), (.mv (.t 0)), none⟩, ⟨(some 27), (.slice 0 true (.t 26) none (some (.k (.v (.c (.p (.int .i64 1)))))) none), none⟩, ⟨(some 28), (.build [(.p (.int .i64 0)), (.p (.str [])), (.p (.int .i64 0)), (.p (.int .i64 0))] [(0, 1, (.k (.v (.c (.p (.int .i64 4)))))), (1, 1, (.t 27))]), none⟩, ⟨none, (.store 4 (.t 2) (.t 28)), none⟩, ⟨(some 3), (.mv (.k (.v (.c (.p (.int .i64 1)))))), none⟩, ⟨(some 4), (.mv (.k (.v (.c (.p (.int .i64 0)))))), none⟩] []) .ret))))) }
theorem t77 : compF Tryd.prog (globs2 tabs opq) false true Tryd.f77 = some c77.erase := by kernel_rfl
noncomputable def b77_0 (O : Oracle) (R : Jump) (q : Nat) (x0 : TVal) (h : Heap) : Res1 :=
  vop O (.alloc [(.p (.int .i64 0)), (.p (.str [])), (.p (.int .i64 0)), (.p (.int .i64 0))] false) h 2 fun x2 h =>
  vcall O (.v (.c (.func 107 []))) [(kS [45, 62, 32, 58, 61])] h 7 fun x7 h =>
  vlen O 2 x7 h 8 fun x8 h =>
  R 1 [x0, x2, x7, x8, (kI 0)] h
theorem e77_0 (O : Oracle) (R : Jump) (q : Nat) (x0 : TVal) (h : Heap) : b77_0 O R q x0 h = stepF c77 O R q 0 [x0] h := by kernel_rfl
noncomputable def b77_1 (O : Oracle) (R : Jump) (q : Nat) (x0 x2 x7 x8 x9 : TVal) (h : Heap) : Res1 :=
  vbin .lss 0 x9 x8 h fun x10 h =>
  vif x10 (
  viaddr 1 x7 x9 h fun x11 h =>
  vload false 1 x11 h fun x12 h =>
  vcall O (.v (.c (.func 79 []))) [x0, x12] h 15 fun x15 h =>
  vif x15 (
  vop O (.build [(.p (.int .i64 0)), (.p (.str [])), (.p (.int .i64 0)), (.p (.int .i64 0))] [(0, 1, (.k (kI 4))), (1, 1, (.k x12))]) h 17 fun x17 h =>
  vlen O 0 x12 h 19 fun x19 h =>
  vstore 4 x2 x17 h fun _ h =>
  vcell true 4 x2 h fun c0 => tcomp x19 fun c1 => tcomp (kI 0) fun c2 => vfin true q [c0, c1, c2] h)
  (vbin .add 0 x9 (kI 1) h fun x20 h =>
  R 1 [x0, x2, x7, x8, x20] h))
  (R 2 [x0, x2] h)
theorem e77_1 (O : Oracle) (R : Jump) (q : Nat) (x0 x2 x7 x8 x9 : TVal) (h : Heap) : b77_1 O R q x0 x2 x7 x8 x9 h = stepF c77 O R q 1 [x0, x2, x7, x8, x9] h := by kernel_rfl
noncomputable def b77_2 (O : Oracle) (R : Jump) (q : Nat) (x0 x2 : TVal) (h : Heap) : Res1 :=
  vop O (.slice 0 true (.k x0) none (some (.k (kI 1))) none) h 22 fun x22 h =>
  vcall O (.v (.c (.func 46 []))) [(kS [123, 125, 60, 62, 44, 58, 40, 41, 46, 36, 124, 61, 59]), x22] h 23 fun x23 h =>
  vop O (.un .not (.k x23)) h 24 fun x24 h =>
  vif x24 (
  vop O (.build [(.p (.int .i64 0)), (.p (.str [])), (.p (.int .i64 0)), (.p (.int .i64 0))] []) h 25 fun x25 h =>
  vstore 4 x2 x25 h fun _ h =>
  vcell true 4 x2 h fun c0 => tcomp (kI 0) fun c1 => tcomp (kI 11) fun c2 => vfin true q [c0, c1, c2] h)
  (vop O (.slice 0 true (.k x0) none (some (.k (kI 1))) none) h 27 fun x27 h =>
  vop O (.build [(.p (.int .i64 0)), (.p (.str [])), (.p (.int .i64 0)), (.p (.int .i64 0))] [(0, 1, (.k (kI 4))), (1, 1, (.k x27))]) h 28 fun x28 h =>
  vstore 4 x2 x28 h fun _ h =>
  vcell true 4 x2 h fun c0 => tcomp (kI 1) fun c1 => tcomp (kI 0) fun c2 => vfin true q [c0, c1, c2] h)
theorem e77_2 (O : Oracle) (R : Jump) (q : Nat) (x0 x2 : TVal) (h : Heap) : b77_2 O R q x0 x2 h = stepF c77 O R q 2 [x0, x2] h := by kernel_rfl
noncomputable def d77 : BlkF := fun O R q => [.s fun y0 => .z fun h => b77_0 O R q y0 h, .s fun y0 => .s fun y1 => .s fun y2 => .s fun y3 => .s fun y4 => .z fun h => b77_1 O R q y0 y1 y2 y3 y4 h, .s fun y0 => .s fun y1 => .z fun h => b77_2 O R q y0 y1 h]
theorem o77 (O : Oracle) (R : Jump) (q : Nat) : HoldsAll c77 O R q 0 (d77 O R q) := ⟨fun y0 h => e77_0 O R q y0 h, fun y0 y1 y2 y3 y4 h => e77_1 O R q y0 y1 y2 y3 y4 h, fun y0 y1 h => e77_2 O R q y0 y1 h, trivial⟩
/- internal/stringslite.Index -/
def c78 : MFunc := { np := 2, res := [.t 4], frz := true, body := (.seq (.reg [⟨(some 4), (.mv (.k (.v (.c (.p (.int .i64 0)))))), none⟩] []) (.seq (.reg [⟨(some 14), (.mv (.t 1)), none⟩, ⟨(some 15), (.len 0 (.t 14)), none⟩, ⟨(some 5), (.mv (.t 15)), none⟩] []) (.seq (.block 0 (.seq (.reg [⟨(some 17), (.mv (.t 5)), none⟩, ⟨(some 18), (.bin .eql 0 (.t 17) (.k (.v (.c (.p (.int .i64 0)))))), none⟩, ⟨(some 19), (.mv (.t 18)), none⟩, ⟨(some 20), (.mv (.t 1)), (some (19, false))⟩, ⟨(some 21), (.mv (.t 0)), (some (19, false))⟩, ⟨(some 22), (.bin .eql 0 (.t 20) (.t 21)), (some (19, false))⟩, ⟨(some 23), (.pick (.t 19) (.k (.v (.c (.p (.bool true))))) (.t 22)), none⟩, ⟨(some 16), (.mv (.t 23)), none⟩] []) (.cond (.t 16) (.seq (.reg [⟨(some 4), (.mv (.k (.v (.c (.p (.int .i64 0)))))), none⟩] []) .ret) (.seq (.reg [⟨(some 25), (.mv (.t 5)), none⟩, ⟨(some 26), (.bin .eql 0 (.t 25) (.k (.v (.c (.p (.int .i64 1)))))), none⟩, ⟨(some 24), (.mv (.t 26)), none⟩] []) (.cond (.t 24) (.seq (.reg [⟨(some 27), (.mv (.t 0)), none⟩, ⟨(some 28), (.mv (.t 1)), none⟩, ⟨(some 29), (.index (.t 28) (.k (.v (.c (.p (.int .i64 0)))))), none⟩, ⟨(some 30), (.call (.k (.v (.c (.func 108 [])))) [(.t 27), (.t 29)]), none⟩, ⟨(some 4), (.mv (.t 30)), none⟩] []) .ret) (.seq (.reg [⟨(some 32), (.mv (.t 5)), none⟩, ⟨(some 33), (.mv (.t 0)), none⟩, ⟨(some 34), (.len 0 (.t 33)), none⟩, ⟨(some 35), (.bin .geq 0 (.t 32) (.t 34)), none⟩, ⟨(some 31), (.mv (.t 35)), none⟩] []) (.cond (.t 31) (.seq (.reg [⟨(some 4), (.mv (.k (.v (.c (.p (.int .i64 (-1))))))), none⟩] []) .ret) (.seq (.reg [⟨(some 37), (.mv (.t 5)), none⟩, ⟨(some 38), (.load false 1 (.k (.v (.c (.p (.pptr [(.sym .i64 63 (.ofNat 0) (.ofNat 1) (.ofNat 0))] 0)))))), none⟩, ⟨(some 39), (.bin .leq 0 (.t 37) (.t 38)), none⟩, ⟨(some 40), (.mv (.t 39)), none⟩, ⟨(some 41), (.mv (.t 0)), (some (40, true))⟩, ⟨(some 42), (.len 0 (.t 41)), (some (40, true))⟩, ⟨(some 43), (.bin .leq 0 (.t 42) (.k (.v (.c (.p (.int .i64 64)))))), (some (40, true))⟩, ⟨(some 44), (.pick (.t 40) (.t 43) (.k (.v (.c (.p (.bool false)))))), none⟩, ⟨(some 36), (.mv (.t 44)), none⟩] []) (.cond (.t 36) (.seq (.reg [⟨(some 45), (.mv (.t 0)), none⟩, ⟨(some 46), (.mv (.t 1)), none⟩, ⟨(some 47), (.call (.k (.v (.c (.func 109 [])))) [(.t 45), (.t 46)]), none⟩, ⟨(some 4), (.mv (.t 47)), none⟩] []) .ret) .skip))))))))) (.seq (.reg [⟨(some 48), (.mv (.t 1)), none⟩, ⟨(some 49), (.index (.t 48) (.k (.v (.c (.p (.int .i64 0)))))), none⟩, ⟨(some 6), (.mv (.t 49)), none⟩] []) (.seq (.reg [⟨(some 50), (.mv (.t 1)), none⟩, ⟨(some 51), (.index (.t 50) (.k (.v (.c (.p (.int .i64 1)))))), none⟩, ⟨(some 7), (.mv (.t 51)), none⟩] []) (.seq (.reg [⟨(some 8), (.mv (.k (.v (.c (.p (.int .i64 0)))))), none⟩] []) (.seq (.reg [⟨(some 52), (.mv (.t 0)), none⟩, ⟨(some 53), (.len 0 (.t 52)), none⟩, ⟨(some 54), (.mv (.t 5)), none⟩, ⟨(some 55), (.bin .sub 0 (.t 53) (.t 54)), none⟩, ⟨(some 56), (.bin .add 0 (.t 55) (.k (.v (.c (.p (.int .i64 1)))))), none⟩, ⟨(some 9), (.mv (.t 56)), none⟩] []) (.seq (.reg [⟨(some 10), (.mv (.k (.v (.c (.p (.int .i64 0)))))), none⟩] []) (.seq (.block 1 (.loop 1 [0, 1, 5, 6, 7, 8, 9, 10] (.seq (.seq (.reg [⟨(some 57), (.mv (.t 8)), none⟩, ⟨(some 58), (.mv (.t 9)), none⟩, ⟨(some 59), (.bin .lss 0 (.t 57) (.t 58)), none⟩] []) (.cond (.t 59) .skip (.exit 1))) (.block 2 (.seq (.seq (.reg [⟨(some 60), (.mv (.t 0)), none⟩, ⟨(some 61), (.mv (.t 8)), none⟩, ⟨(some 62), (.index (.t 60) (.t 61)), none⟩, ⟨(some 63), (.mv (.t 6)), none⟩, ⟨(some 64), (.bin .neq 0 (.t 62) (.t 63)), none⟩] []) (.cond (.t 64) (.seq (.reg [⟨(some 65), (.mv (.t 0)), none⟩, ⟨(some 66), (.mv (.t 8)), none⟩, ⟨(some 67), (.bin .add 0 (.t 66) (.k (.v (.c (.p (.int .i64 1)))))), none⟩, ⟨(some 68), (.mv (.t 9)), none⟩, ⟨(some 69), (.slice 0 true (.t 65) (some (.t 67)) (some (.t 68)) none), none⟩, ⟨(some 70), (.mv (.t 6)), none⟩, ⟨(some 71), (.call (.k (.v (.c (.func 108 [])))) [(.t 69), (.t 70)]), none⟩, ⟨(some 11), (.mv (.t 71)), none⟩] []) (.seq (.seq (.reg [⟨(some 72), (.mv (.t 11)), none⟩, ⟨(some 73), (.bin .lss 0 (.t 72) (.k (.v (.c (.p (.int .i64 0)))))), none⟩] []) (.cond (.t 73) (.seq (.reg [⟨(some 4), (.mv (.k (.v (.c (.p (.int .i64 (-1))))))), none⟩] []) .ret) .skip)) (.reg [⟨(some 74), (.mv (.t 8)), none⟩, ⟨(some 75), (.mv (.t 11)), none⟩, ⟨(some 76), (.bin .add 0 (.t 75) (.k (.v (.c (.p (.int .i64 1)))))), none⟩, ⟨(some 77), (.bin .add 0 (.t 74) (.t 76)), none⟩, ⟨(some 8), (.mv (.t 77)), none⟩] []))) .skip)) (.mark 2 [0, 1, 5, 6, 7, 8, 9, 10] (.seq (.seq (.reg [⟨(some 78), (.mv (.t 0)), none⟩, ⟨(some 79), (.mv (.t 8)), none⟩, ⟨(some 80), (.bin .add 0 (.t 79) (.k (.v (.c (.p (.int .i64 1)))))), none⟩, ⟨(some 81), (.index (.t 78) (.t 80)), none⟩, ⟨(some 82), (.mv (.t 7)), none⟩, ⟨(some 83), (.bin .eql 0 (.t 81) (.t 82)), none⟩, ⟨(some 84), (.mv (.t 83)), none⟩, ⟨(some 85), (.mv (.t 0)), (some (84, true))⟩, ⟨(some 86), (.mv (.t 8)), (some (84, true))⟩, ⟨(some 87), (.mv (.t 8)), (some (84, true))⟩, ⟨(some 88), (.mv (.t 5)), (some (84, true))⟩, ⟨(some 89), (.bin .add 0 (.t 87) (.t 88)), (some (84, true))⟩, ⟨(some 90), (.slice 0 true (.t 85) (some (.t 86)) (some (.t 89)) none), (some (84, true))⟩, ⟨(some 91), (.mv (.t 1)), (some (84, true))⟩, ⟨(some 92), (.bin .eql 0 (.t 90) (.t 91)), (some (84, true))⟩, ⟨(some 93), (.pick (.t 84) (.t 92) (.k (.v (.c (.p (.bool false)))))), none⟩] []) (.cond (.t 93) (.seq (.reg [⟨(some 94), (.mv (.t 8)), none⟩, ⟨(some 4), (.mv (.t 94)), none⟩] []) .ret) .skip)) (.seq (.reg [⟨(some 95), (.mv (.t 8)), none⟩, ⟨(some 96), (.bin .add 0 (.t 95) (.k (.v (.c (.p (.int .i64 1)))))), none⟩, ⟨(some 8), (.mv (.t 96)), none⟩] []) (.seq (.reg [⟨(some 97), (.mv (.t 10)), none⟩, ⟨(some 98), (.bin .add 0 (.t 97) (.k (.v (.c (.p (.int .i64 1)))))), none⟩, ⟨(some 10), (.mv (.t 98)), none⟩] []) (.seq (.reg [⟨(some 99), (.mv (.t 5)), none⟩, ⟨(some 100), (.load false 1 (.k (.v (.c (.p (.pptr [(.sym .i64 63 (.ofNat 0) (.ofNat 1) (.ofNat 0))] 0)))))), none⟩, ⟨(some 101), (.bin .leq 0 (.t 99) (.t 100)), none⟩, ⟨(some 102), (.mv (.t 101)), none⟩, ⟨(some 103), (.mv (.t 10)), (some (102, true))⟩, ⟨(some 104), (.mv (.t 8)), (some (102, true))⟩, ⟨(some 105), (.call (.k (.v (.c (.func 110 [])))) [(.t 104)]), (some (102, true))⟩, ⟨(some 106), (.bin .gtr 0 (.t 103) (.t 105)), (some (102, true))⟩, ⟨(some 107), (.pick (.t 102) (.t 106) (.k (.v (.c (.p (.bool false)))))), none⟩] []) (.cond (.t 107) (.seq (.reg [⟨(some 108), (.mv (.t 0)), none⟩, ⟨(some 109), (.mv (.t 8)), none⟩, ⟨(some 110), (.slice 0 true (.t 108) (some (.t 109)) none none), none⟩, ⟨(some 111), (.mv (.t 1)), none⟩, ⟨(some 112), (.call (.k (.v (.c (.func 109 [])))) [(.t 110), (.t 111)]), none⟩, ⟨(some 12), (.mv (.t 112)), none⟩] []) (.seq (.seq (.reg [⟨(some 113), (.mv (.t 12)), none⟩, ⟨(some 114), (.bin .geq 0 (.t 113) (.k (.v (.c (.p (.int .i64 0)))))), none⟩] []) (.cond (.t 114) (.seq (.reg [⟨(some 115), (.mv (.t 12)), none⟩, ⟨(some 116), (.mv (.t 8)), none⟩, ⟨(some 117), (.bin .add 0 (.t 115) (.t 116)), none⟩, ⟨(some 4), (.mv (.t 117)), none⟩] []) .ret) .skip)) (.seq (.reg [⟨(some 4), (.mv (.k (.v (.c (.p (.int .i64 (-1))))))), none⟩] []) .ret))) (.seq (.reg [⟨(some 118), (.mv (.t 5)), none⟩, ⟨(some 119), (.load false 1 (.k (.v (.c (.p (.pptr [(.sym .i64 63 (.ofNat 0) (.ofNat 1) (.ofNat 0))] 0)))))), none⟩, ⟨(some 120), (.bin .gtr 0 (.t 118) (.t 119)), none⟩, ⟨(some 121), (.mv (.t 120)), none⟩, ⟨(some 122), (.mv (.t 10)), (some (121, true))⟩, ⟨(some 123), (.mv (.t 8)), (some (121, true))⟩, ⟨(some 124), (.bin .shr 0 (.t 123) (.k (.v (.c (.p (.int .u64 4)))))), (some (121, true))⟩, ⟨(some 125), (.bin .add 0 (.k (.v (.c (.p (.int .i64 4))))) (.t 124)), (some (121, true))⟩, ⟨(some 126), (.bin .geq 0 (.t 122) (.t 125)), (some (121, true))⟩, ⟨(some 127), (.pick (.t 121) (.t 126) (.k (.v (.c (.p (.bool false)))))), none⟩, ⟨(some 128), (.mv (.t 127)), none⟩, ⟨(some 129), (.mv (.t 8)), (some (128, true))⟩, ⟨(some 130), (.mv (.t 9)), (some (128, true))⟩, ⟨(some 131), (.bin .lss 0 (.t 129) (.t 130)), (some (128, true))⟩, ⟨(some 132), (.pick (.t 128) (.t 131) (.k (.v (.c (.p (.bool false)))))), none⟩] []) (.cond (.t 132) (.seq (.reg [⟨(some 133), (.mv (.t 0)), none⟩, ⟨(some 134), (.mv (.t 8)), none⟩, ⟨(some 135), (.slice 0 true (.t 133) (some (.t 134)) none none), none⟩, ⟨(some 136), (.mv (.t 1)), none⟩, ⟨(some 137), (.call (.k (.v (.c (.func 111 [])))) [(.t 135), (.t 136)]), none⟩, ⟨(some 13), (.mv (.t 137)), none⟩] []) (.seq (.seq (.reg [⟨(some 138), (.mv (.t 13)), none⟩, ⟨(some 139), (.bin .lss 0 (.t 138) (.k (.v (.c (.p (.int .i64 0)))))), none⟩] []) (.cond (.t 139) (.seq (.reg [⟨(some 4), (.mv (.k (.v (.c (.p (.int .i64 (-1))))))), none⟩] []) .ret) .skip)) (.seq (.reg [⟨(some 140), (.mv (.t 8)), none⟩, ⟨(some 141), (.mv (.t 13)), none⟩, ⟨(some 142), (.bin .add 0 (.t 140) (.t 141)), none⟩, ⟨(some 4), (.mv (.t 142)), none⟩] []) .ret))) .skip))))))))))))) (.seq (.reg [⟨(some 4), (.mv (.k (.v (.c (.p (.int .i64 (-1))))))), none⟩] []) .ret)))))))))) }
theorem t78 : compF Tryd.prog (globs2 tabs opq) false true Tryd.f78 = some c78.erase := by kernel_rfl
noncomputable def b78_0 (O : Oracle) (R : Jump) (q : Nat) (x0 x1 : TVal) (h : Heap) : Res1 :=
  vlen O 0 x1 h 15 fun x15 h =>
  vbin .eql 0 x15 (kI 0) h fun x18 h =>
  vguard x18 false (fun kk => kk x1 h) h fun x20 h =>
  vguard x18 false (fun kk => kk x0 h) h fun x21 h =>
  vguard x18 false (fun kk => vbin .eql 0 x20 x21 h kk) h fun x22 h =>
  vop O (.pick (.k x18) (.k (kB true)) (.k x22)) h 23 fun x23 h =>
  vif x23 (
  tcomp (kI 0) fun c0 => vfin true q [c0] h)
  (vbin .eql 0 x15 (kI 1) h fun x26 h =>
  vif x26 (
  vindex x1 (kI 0) h fun x29 h =>
  vcall O (.v (.c (.func 108 []))) [x0, x29] h 30 fun x30 h =>
  tcomp x30 fun c0 => vfin true q [c0] h)
  (vlen O 0 x0 h 34 fun x34 h =>
  vbin .geq 0 x15 x34 h fun x35 h =>
  vif x35 (
  tcomp (kI (-1)) fun c0 => vfin true q [c0] h)
  (vload false 1 (.v (.c (.p (.pptr [(.sym .i64 63 (.ofNat 0) (.ofNat 1) (.ofNat 0))] 0)))) h fun x38 h =>
  vbin .leq 0 x15 x38 h fun x39 h =>
  vguard x39 true (fun kk => kk x0 h) h fun x41 h =>
  vguard x39 true (fun kk => vlen O 0 x41 h 42 kk) h fun x42 h =>
  vguard x39 true (fun kk => vbin .leq 0 x42 (kI 64) h kk) h fun x43 h =>
  vop O (.pick (.k x39) (.k x43) (.k (kB false))) h 44 fun x44 h =>
  vif x44 (
  vcall O (.v (.c (.func 109 []))) [x0, x1] h 47 fun x47 h =>
  tcomp x47 fun c0 => vfin true q [c0] h)
  (vindex x1 (kI 0) h fun x49 h =>
  vindex x1 (kI 1) h fun x51 h =>
  vlen O 0 x0 h 53 fun x53 h =>
  vbin .sub 0 x53 x15 h fun x55 h =>
  vbin .add 0 x55 (kI 1) h fun x56 h =>
  R 1 [x0, x1, x15, x49, x51, (kI 0), x56, (kI 0)] h))))
theorem e78_0 (O : Oracle) (R : Jump) (q : Nat) (x0 x1 : TVal) (h : Heap) : b78_0 O R q x0 x1 h = stepF c78 O R q 0 [x0, x1] h := by kernel_rfl
noncomputable def b78_1 (O : Oracle) (R : Jump) (q : Nat) (x0 x1 x5 x6 x7 x8 x9 x10 : TVal) (h : Heap) : Res1 :=
  vbin .lss 0 x8 x9 h fun x59 h =>
  vif x59 (
  vindex x0 x8 h fun x62 h =>
  vbin .neq 0 x62 x6 h fun x64 h =>
  vif x64 (
  vbin .add 0 x8 (kI 1) h fun x67 h =>
  vop O (.slice 0 true (.k x0) (some (.k x67)) (some (.k x9)) none) h 69 fun x69 h =>
  vcall O (.v (.c (.func 108 []))) [x69, x6] h 71 fun x71 h =>
  vbin .lss 0 x71 (kI 0) h fun x73 h =>
  vif x73 (
  tcomp (kI (-1)) fun c0 => vfin true q [c0] h)
  (vbin .add 0 x71 (kI 1) h fun x76 h =>
  vbin .add 0 x8 x76 h fun x77 h =>
  R 2 [x0, x1, x5, x6, x7, x77, x9, x10] h))
  (R 2 [x0, x1, x5, x6, x7, x8, x9, x10] h))
  (tcomp (kI (-1)) fun c0 => vfin true q [c0] h)
theorem e78_1 (O : Oracle) (R : Jump) (q : Nat) (x0 x1 x5 x6 x7 x8 x9 x10 : TVal) (h : Heap) : b78_1 O R q x0 x1 x5 x6 x7 x8 x9 x10 h = stepF c78 O R q 1 [x0, x1, x5, x6, x7, x8, x9, x10] h := by kernel_rfl
noncomputable def b78_2 (O : Oracle) (R : Jump) (q : Nat) (x0 x1 x5 x6 x7 x8 x9 x10 : TVal) (h : Heap) : Res1 :=
  vbin .add 0 x8 (kI 1) h fun x80 h =>
  vindex x0 x80 h fun x81 h =>
  vbin .eql 0 x81 x7 h fun x83 h =>
  vguard x83 true (fun kk => kk x0 h) h fun x85 h =>
  vguard x83 true (fun kk => kk x8 h) h fun x86 h =>
  vguard x83 true (fun kk => kk x8 h) h fun x87 h =>
  vguard x83 true (fun kk => kk x5 h) h fun x88 h =>
  vguard x83 true (fun kk => vbin .add 0 x87 x88 h kk) h fun x89 h =>
  vguard x83 true (fun kk => vop O (.slice 0 true (.k x85) (some (.k x86)) (some (.k x89)) none) h 90 kk) h fun x90 h =>
  vguard x83 true (fun kk => kk x1 h) h fun x91 h =>
  vguard x83 true (fun kk => vbin .eql 0 x90 x91 h kk) h fun x92 h =>
  vop O (.pick (.k x83) (.k x92) (.k (kB false))) h 93 fun x93 h =>
  vif x93 (
  tcomp x8 fun c0 => vfin true q [c0] h)
  (vbin .add 0 x8 (kI 1) h fun x96 h =>
  vbin .add 0 x10 (kI 1) h fun x98 h =>
  vload false 1 (.v (.c (.p (.pptr [(.sym .i64 63 (.ofNat 0) (.ofNat 1) (.ofNat 0))] 0)))) h fun x100 h =>
  vbin .leq 0 x5 x100 h fun x101 h =>
  vguard x101 true (fun kk => kk x98 h) h fun x103 h =>
  vguard x101 true (fun kk => kk x96 h) h fun x104 h =>
  vguard x101 true (fun kk => vcall O (.v (.c (.func 110 []))) [x104] h 105 kk) h fun x105 h =>
  vguard x101 true (fun kk => vbin .gtr 0 x103 x105 h kk) h fun x106 h =>
  vop O (.pick (.k x101) (.k x106) (.k (kB false))) h 107 fun x107 h =>
  vif x107 (
  vop O (.slice 0 true (.k x0) (some (.k x96)) none none) h 110 fun x110 h =>
  vcall O (.v (.c (.func 109 []))) [x110, x1] h 112 fun x112 h =>
  vbin .geq 0 x112 (kI 0) h fun x114 h =>
  vif x114 (
  vbin .add 0 x112 x96 h fun x117 h =>
  tcomp x117 fun c0 => vfin true q [c0] h)
  (tcomp (kI (-1)) fun c0 => vfin true q [c0] h))
  (vload false 1 (.v (.c (.p (.pptr [(.sym .i64 63 (.ofNat 0) (.ofNat 1) (.ofNat 0))] 0)))) h fun x119 h =>
  vbin .gtr 0 x5 x119 h fun x120 h =>
  vguard x120 true (fun kk => kk x98 h) h fun x122 h =>
  vguard x120 true (fun kk => kk x96 h) h fun x123 h =>
  vguard x120 true (fun kk => vbin .shr 0 x123 (.v (.c (.p (.int .u64 4)))) h kk) h fun x124 h =>
  vguard x120 true (fun kk => vbin .add 0 (kI 4) x124 h kk) h fun x125 h =>
  vguard x120 true (fun kk => vbin .geq 0 x122 x125 h kk) h fun x126 h =>
  vop O (.pick (.k x120) (.k x126) (.k (kB false))) h 127 fun x127 h =>
  vguard x127 true (fun kk => kk x96 h) h fun x129 h =>
  vguard x127 true (fun kk => kk x9 h) h fun x130 h =>
  vguard x127 true (fun kk => vbin .lss 0 x129 x130 h kk) h fun x131 h =>
  vop O (.pick (.k x127) (.k x131) (.k (kB false))) h 132 fun x132 h =>
  vif x132 (
  vop O (.slice 0 true (.k x0) (some (.k x96)) none none) h 135 fun x135 h =>
  vcall O (.v (.c (.func 111 []))) [x135, x1] h 137 fun x137 h =>
  vbin .lss 0 x137 (kI 0) h fun x139 h =>
  vif x139 (
  tcomp (kI (-1)) fun c0 => vfin true q [c0] h)
  (vbin .add 0 x96 x137 h fun x142 h =>
  tcomp x142 fun c0 => vfin true q [c0] h))
  (R 1 [x0, x1, x5, x6, x7, x96, x9, x98] h)))
theorem e78_2 (O : Oracle) (R : Jump) (q : Nat) (x0 x1 x5 x6 x7 x8 x9 x10 : TVal) (h : Heap) : b78_2 O R q x0 x1 x5 x6 x7 x8 x9 x10 h = stepF c78 O R q 2 [x0, x1, x5, x6, x7, x8, x9, x10] h := by kernel_rfl
noncomputable def d78 : BlkF := fun O R q => [.s fun y0 => .s fun y1 => .z fun h => b78_0 O R q y0 y1 h, .s fun y0 => .s fun y1 => .s fun y2 => .s fun y3 => .s fun y4 => .s fun y5 => .s fun y6 => .s fun y7 => .z fun h => b78_1 O R q y0 y1 y2 y3 y4 y5 y6 y7 h, .s fun y0 => .s fun y1 => .s fun y2 => .s fun y3 => .s fun y4 => .s fun y5 => .s fun y6 => .s fun y7 => .z fun h => b78_2 O R q y0 y1 y2 y3 y4 y5 y6 y7 h]
theorem o78 (O : Oracle) (R : Jump) (q : Nat) : HoldsAll c78 O R q 0 (d78 O R q) := ⟨fun y0 y1 h => e78_0 O R q y0 y1 h, fun y0 y1 y2 y3 y4 y5 y6 y7 h => e78_1 O R q y0 y1 y2 y3 y4 y5 y6 y7 h, fun y0 y1 y2 y3 y4 y5 y6 y7 h => e78_2 O R q y0 y1 y2 y3 y4 y5 y6 y7 h, trivial⟩
/- strings.HasPrefix -/
def c79 : MFunc := { np := 2, res := [.t 4], frz := true, body := (.seq (.reg [⟨(some 4), (.mv (.k (.v (.c (.p (.bool false)))))), none⟩] []) (.seq (.reg [⟨(some 5), (.mv (.t 0)), none⟩, ⟨(some 6), (.mv (.t 1)), none⟩, ⟨(some 7), (.call (.k (.v (.c (.func 112 [])))) [(.t 5), (.t 6)]), none⟩, ⟨(some 4), (.mv (.t 7)), none⟩] []) .ret)) }
theorem t79 : compF Tryd.prog (globs2 tabs opq) false true Tryd.f79 = some c79.erase := by kernel_rfl
noncomputable def b79_0 (O : Oracle) (R : Jump) (q : Nat) (x0 x1 : TVal) (h : Heap) : Res1 :=
  vcall O (.v (.c (.func 112 []))) [x0, x1] h 7 fun x7 h =>
  tcomp x7 fun c0 => vfin true q [c0] h
theorem e79_0 (O : Oracle) (R : Jump) (q : Nat) (x0 x1 : TVal) (h : Heap) : b79_0 O R q x0 x1 h = stepF c79 O R q 0 [x0, x1] h := by kernel_rfl
noncomputable def d79 : BlkF := fun O R q => [.s fun y0 => .s fun y1 => .z fun h => b79_0 O R q y0 y1 h]
theorem o79 (O : Oracle) (R : Jump) (q : Nat) : HoldsAll c79 O R q 0 (d79 O R q) := ⟨fun y0 y1 h => e79_0 O R q y0 y1 h, trivial⟩
/- (*sprue/tree.reader).look -/
def c80 : MFunc := { np := 2, res := [.cell 4 true 4], frz := true, body := (.seq (.reg [⟨(some 4), (.alloc [(.p (.int .i64 0)), (.p (.str [])), (.p (.int .i64 0)), (.p (.int .i64 0))] false), none⟩] []) (.seq (.seq (.reg [⟨(some 5), (.mv (.t 0)), none⟩, ⟨(some 6), (.nilck (.t 5)), none⟩, ⟨(some 7), (.faddr 2 (.t 6)), none⟩, ⟨(some 8), (.load false 1 (.t 7)), none⟩, ⟨(some 9), (.bin .neq 0 (.t 8) (.k (.v (.c (.p (.int .i64 0)))))), none⟩, ⟨(some 10), (.mv (.t 9)), none⟩, ⟨(some 11), (.mv (.t 0)), (some (10, false))⟩, ⟨(some 12), (.nilck (.t 11)), (some (10, false))⟩, ⟨(some 13), (.faddr 1 (.t 12)), (some (10, false))⟩, ⟨(some 14), (.load false 1 (.t 13)), (some (10, false))⟩, ⟨(some 15), (.mv (.t 1)), (some (10, false))⟩, ⟨(some 16), (.bin .add 0 (.t 14) (.t 15)), (some (10, false))⟩, ⟨(some 17), (.mv (.t 0)), (some (10, false))⟩, ⟨(some 18), (.nilck (.t 17)), (some (10, false))⟩, ⟨(some 19), (.faddr 0 (.t 18)), (some (10, false))⟩, ⟨(some 20), (.load false 1 (.t 19)), (some (10, false))⟩, ⟨(some 21), (.len 2 (.t 20)), (some (10, false))⟩, ⟨(some 22), (.bin .geq 0 (.t 16) (.t 21)), (some (10, false))⟩, ⟨(some 23), (.pick (.t 10) (.k (.v (.c (.p (.bool true))))) (.t 22)), none⟩] []) (.cond (.t 23) (.seq (.reg [⟨(some 24), (.build [(.p (.int .i64 0)), (.p (.str [])), (.p (.int .i64 0)), (.p (.int .i64 0))] []), none⟩, ⟨none, (.store 4 (.t 4) (.t 24)), none⟩] []) .ret) .skip)) (.seq (.reg [⟨(some 25), (.mv (.t 0)), none⟩, ⟨(some 26), (.nilck (.t 25)), none⟩, ⟨(some 27), (.faddr 0 (.t 26)), none⟩, ⟨(some 28), (.load false 1 (.t 27)), none⟩, ⟨(some 29), (.mv (.t 0)), none⟩, ⟨(some 30), (.nilck (.t 29)), none⟩, ⟨(some 31), (.faddr 1 (.t 30)), none⟩, ⟨(some 32), (.load false 1 (.t 31)), none⟩, ⟨(some 33), (.mv (.t 1)), none⟩, ⟨(some 34), (.bin .add 0 (.t 32) (.t 33)), none⟩, ⟨(some 35), (.iaddr 4 (.t 28) (.t 34)), none⟩, ⟨(some 36), (.load true 4 (.t 35)), none⟩, ⟨none, (.store 4 (.t 4) (.t 36)), none⟩] []) .ret))) }
theorem t80 : compF Tryd.prog (globs2 tabs opq) false true Tryd.f80 = some c80.erase := by kernel_rfl
noncomputable def b80_0 (O : Oracle) (R : Jump) (q : Nat) (x0 x1 : TVal) (h : Heap) : Res1 :=
  vop O (.alloc [(.p (.int .i64 0)), (.p (.str [])), (.p (.int .i64 0)), (.p (.int .i64 0))] false) h 4 fun x4 h =>
  vop O (.nilck (.k x0)) h 6 fun x6 h =>
  vfaddr 2 x6 h fun x7 h =>
  vload false 1 x7 h fun x8 h =>
  vbin .neq 0 x8 (kI 0) h fun x9 h =>
  vguard x9 false (fun kk => kk x0 h) h fun x11 h =>
  vguard x9 false (fun kk => vop O (.nilck (.k x11)) h 12 kk) h fun x12 h =>
  vguard x9 false (fun kk => vfaddr 1 x12 h kk) h fun x13 h =>
  vguard x9 false (fun kk => vload false 1 x13 h kk) h fun x14 h =>
  vguard x9 false (fun kk => kk x1 h) h fun x15 h =>
  vguard x9 false (fun kk => vbin .add 0 x14 x15 h kk) h fun x16 h =>
  vguard x9 false (fun kk => kk x0 h) h fun x17 h =>
  vguard x9 false (fun kk => vop O (.nilck (.k x17)) h 18 kk) h fun x18 h =>
  vguard x9 false (fun kk => vfaddr 0 x18 h kk) h fun x19 h =>
  vguard x9 false (fun kk => vload false 1 x19 h kk) h fun x20 h =>
  vguard x9 false (fun kk => vlen O 2 x20 h 21 kk) h fun x21 h =>
  vguard x9 false (fun kk => vbin .geq 0 x16 x21 h kk) h fun x22 h =>
  vop O (.pick (.k x9) (.k (kB true)) (.k x22)) h 23 fun x23 h =>
  vif x23 (
  vop O (.build [(.p (.int .i64 0)), (.p (.str [])), (.p (.int .i64 0)), (.p (.int .i64 0))] []) h 24 fun x24 h =>
  vstore 4 x4 x24 h fun _ h =>
  vcell true 4 x4 h fun c0 => vfin true q [c0] h)
  (vop O (.nilck (.k x0)) h 26 fun x26 h =>
  vfaddr 0 x26 h fun x27 h =>
  vload false 1 x27 h fun x28 h =>
  vop O (.nilck (.k x0)) h 30 fun x30 h =>
  vfaddr 1 x30 h fun x31 h =>
  vload false 1 x31 h fun x32 h =>
  vbin .add 0 x32 x1 h fun x34 h =>
  viaddr 4 x28 x34 h fun x35 h =>
  vload true 4 x35 h fun x36 h =>
  vstore 4 x4 x36 h fun _ h =>
  vcell true 4 x4 h fun c0 => vfin true q [c0] h)
theorem e80_0 (O : Oracle) (R : Jump) (q : Nat) (x0 x1 : TVal) (h : Heap) : b80_0 O R q x0 x1 h = stepF c80 O R q 0 [x0, x1] h := by kernel_rfl
noncomputable def d80 : BlkF := fun O R q => [.s fun y0 => .s fun y1 => .z fun h => b80_0 O R q y0 y1 h]
theorem o80 (O : Oracle) (R : Jump) (q : Nat) : HoldsAll c80 O R q 0 (d80 O R q) := ⟨fun y0 y1 h => e80_0 O R q y0 y1 h, trivial⟩
/- sprue/tree.is -/
def c81 : MFunc := { np := 2, res := [.t 4], frz := true, body := (.seq (.reg [⟨(some 2), (.box (.t 0) false), none⟩, ⟨(some 4), (.mv (.k (.v (.c (.p (.bool false)))))), none⟩] []) (.seq (.reg [⟨(some 5), (.faddr 0 (.t 2)), none⟩, ⟨(some 6), (.load false 1 (.t 5)), none⟩, ⟨(some 7), (.bin .eql 0 (.t 6) (.k (.v (.c (.p (.int .i64 4)))))), none⟩, ⟨(some 8), (.mv (.t 7)), none⟩, ⟨(some 9), (.faddr 1 (.t 2)), (some (8, true))⟩, ⟨(some 10), (.load false 1 (.t 9)), (some (8, true))⟩, ⟨(some 11), (.mv (.t 1)), (some (8, true))⟩, ⟨(some 12), (.bin .eql 0 (.t 10) (.t 11)), (some (8, true))⟩, ⟨(some 13), (.pick (.t 8) (.t 12) (.k (.v (.c (.p (.bool false)))))), none⟩, ⟨(some 4), (.mv (.t 13)), none⟩] []) .ret)) }
theorem t81 : compF Tryd.prog (globs2 tabs opq) false true Tryd.f81 = some c81.erase := by kernel_rfl
noncomputable def b81_0 (O : Oracle) (R : Jump) (q : Nat) (x0 x1 : TVal) (h : Heap) : Res1 :=
  vop O (.box (.k x0) false) h 2 fun x2 h =>
  vfaddr 0 x2 h fun x5 h =>
  vload false 1 x5 h fun x6 h =>
  vbin .eql 0 x6 (kI 4) h fun x7 h =>
  vguard x7 true (fun kk => vfaddr 1 x2 h kk) h fun x9 h =>
  vguard x7 true (fun kk => vload false 1 x9 h kk) h fun x10 h =>
  vguard x7 true (fun kk => kk x1 h) h fun x11 h =>
  vguard x7 true (fun kk => vbin .eql 0 x10 x11 h kk) h fun x12 h =>
  vop O (.pick (.k x7) (.k x12) (.k (kB false))) h 13 fun x13 h =>
  tcomp x13 fun c0 => vfin true q [c0] h
theorem e81_0 (O : Oracle) (R : Jump) (q : Nat) (x0 x1 : TVal) (h : Heap) : b81_0 O R q x0 x1 h = stepF c81 O R q 0 [x0, x1] h := by kernel_rfl
noncomputable def d81 : BlkF := fun O R q => [.s fun y0 => .s fun y1 => .z fun h => b81_0 O R q y0 y1 h]
theorem o81 (O : Oracle) (R : Jump) (q : Nat) : HoldsAll c81 O R q 0 (d81 O R q) := ⟨fun y0 y1 h => e81_0 O R q y0 y1 h, trivial⟩
/- (*sprue/tree.reader).verb -/
def c82 : MFunc := { np := 2, res := [.t 4], frz := true, body := (.seq (.reg [⟨(some 4), (.mv (.k (.v (.c (.p (.bool false)))))), none⟩] []) (.seq (.seq (.reg [⟨(some 5), (.mv (.t 1)), none⟩, ⟨(some 6), (.nilck (.t 5)), none⟩, ⟨(some 7), (.faddr 9 (.t 6)), none⟩, ⟨(some 8), (.load false 1 (.t 7)), none⟩] []) (.block 0 (.seq (.reg [⟨(some 10), (.bin .eql 0 (.t 8) (.k (.v (.c (.p (.str [105, 102])))))), none⟩, ⟨(some 9), (.mv (.t 10)), none⟩] []) (.cond (.t 9) (.reg [⟨(some 11), (.mv (.t 1)), none⟩, ⟨(some 12), (.nilck (.t 11)), none⟩, ⟨(some 13), (.faddr 0 (.t 12)), none⟩, ⟨(some 14), (.faddr 0 (.t 13)), none⟩, ⟨none, (.store 1 (.t 14) (.k (.v (.c (.p (.int .i64 5)))))), none⟩] []) (.seq (.reg [⟨(some 16), (.bin .eql 0 (.t 8) (.k (.v (.c (.p (.str [119, 105, 116, 104])))))), none⟩, ⟨(some 15), (.mv (.t 16)), none⟩] []) (.cond (.t 15) (.reg [⟨(some 17), (.mv (.t 1)), none⟩, ⟨(some 18), (.nilck (.t 17)), none⟩, ⟨(some 19), (.faddr 0 (.t 18)), none⟩, ⟨(some 20), (.faddr 0 (.t 19)), none⟩, ⟨none, (.store 1 (.t 20) (.k (.v (.c (.p (.int .i64 6)))))), none⟩] []) (.seq (.reg [⟨(some 22), (.bin .eql 0 (.t 8) (.k (.v (.c (.p (.str [114, 97, 110, 103, 101])))))), none⟩, ⟨(some 21), (.mv (.t 22)), none⟩] []) (.cond (.t 21) (.reg [⟨(some 23), (.mv (.t 1)), none⟩, ⟨(some 24), (.nilck (.t 23)), none⟩, ⟨(some 25), (.faddr 0 (.t 24)), none⟩, ⟨(some 26), (.faddr 0 (.t 25)), none⟩, ⟨none, (.store 1 (.t 26) (.k (.v (.c (.p (.int .i64 7)))))), none⟩] []) (.seq (.reg [⟨(some 28), (.bin .eql 0 (.t 8) (.k (.v (.c (.p (.str [109, 97, 116, 99, 104])))))), none⟩, ⟨(some 27), (.mv (.t 28)), none⟩] []) (.cond (.t 27) (.reg [⟨(some 29), (.mv (.t 1)), none⟩, ⟨(some 30), (.nilck (.t 29)), none⟩, ⟨(some 31), (.faddr 0 (.t 30)), none⟩, ⟨(some 32), (.faddr 0 (.t 31)), none⟩, ⟨none, (.store 1 (.t 32) (.k (.v (.c (.p (.int .i64 8)))))), none⟩] []) (.seq (.reg [⟨(some 34), (.bin .eql 0 (.t 8) (.k (.v (.c (.p (.str [101, 108, 115, 101])))))), none⟩, ⟨(some 33), (.mv (.t 34)), none⟩] []) (.cond (.t 33) (.reg [⟨(some 35), (.mv (.t 1)), none⟩, ⟨(some 36), (.nilck (.t 35)), none⟩, ⟨(some 37), (.faddr 0 (.t 36)), none⟩, ⟨(some 38), (.faddr 0 (.t 37)), none⟩, ⟨none, (.store 1 (.t 38) (.k (.v (.c (.p (.int .i64 (-1))))))), none⟩] []) (.seq (.reg [⟨(some 40), (.bin .eql 0 (.t 8) (.k (.v (.c (.p (.str [101, 110, 100])))))), none⟩, ⟨(some 39), (.mv (.t 40)), none⟩] []) (.cond (.t 39) (.reg [⟨(some 41), (.mv (.t 1)), none⟩, ⟨(some 42), (.nilck (.t 41)), none⟩, ⟨(some 43), (.faddr 0 (.t 42)), none⟩, ⟨(some 44), (.faddr 0 (.t 43)), none⟩, ⟨none, (.store 1 (.t 44) (.k (.v (.c (.p (.int .i64 (-2))))))), none⟩] []) (.seq (.reg [⟨(some 46), (.bin .eql 0 (.t 8) (.k (.v (.c (.p (.str [99, 97, 115, 101])))))), none⟩, ⟨(some 45), (.mv (.t 46)), none⟩] []) (.cond (.t 45) (.reg [⟨(some 47), (.mv (.t 1)), none⟩, ⟨(some 48), (.nilck (.t 47)), none⟩, ⟨(some 49), (.faddr 0 (.t 48)), none⟩, ⟨(some 50), (.faddr 0 (.t 49)), none⟩, ⟨none, (.store 1 (.t 50) (.k (.v (.c (.p (.int .i64 (-3))))))), none⟩] []) (.seq (.reg [⟨(some 52), (.bin .eql 0 (.t 8) (.k (.v (.c (.p (.str [116, 101, 109, 112, 108, 97, 116, 101])))))), none⟩, ⟨(some 51), (.mv (.t 52)), none⟩] []) (.cond (.t 51) (.reg [⟨(some 53), (.mv (.t 1)), none⟩, ⟨(some 54), (.nilck (.t 53)), none⟩, ⟨(some 55), (.faddr 0 (.t 54)), none⟩, ⟨(some 56), (.faddr 0 (.t 55)), none⟩, ⟨none, (.store 1 (.t 56) (.k (.v (.c (.p (.int .i64 9)))))), none⟩] []) (.seq (.reg [⟨(some 58), (.bin .eql 0 (.t 8) (.k (.v (.c (.p (.str [100, 101, 102, 105, 110, 101])))))), none⟩, ⟨(some 57), (.mv (.t 58)), none⟩] []) (.cond (.t 57) (.reg [⟨(some 59), (.mv (.t 1)), none⟩, ⟨(some 60), (.nilck (.t 59)), none⟩, ⟨(some 61), (.faddr 0 (.t 60)), none⟩, ⟨(some 62), (.faddr 0 (.t 61)), none⟩, ⟨none, (.store 1 (.t 62) (.k (.v (.c (.p (.int .i64 (-4))))))), none⟩] []) (.seq (.reg [⟨(some 4), (.mv (.k (.v (.c (.p (.bool false)))))), none⟩] []) .ret))))))))))))))))))))) (.mark 1 [0, 1] (.seq (.reg [⟨(some 63), (.mv (.t 0)), none⟩, ⟨(some 64), (.nilck (.t 63)), none⟩, ⟨(some 65), (.faddr 1 (.t 64)), none⟩, ⟨(some 66), (.load false 1 (.t 65)), none⟩, ⟨(some 67), (.bin .add 0 (.t 66) (.k (.v (.c (.p (.int .i64 1)))))), none⟩, ⟨(some 68), (.nilck (.t 63)), none⟩, ⟨(some 69), (.faddr 1 (.t 68)), none⟩, ⟨none, (.store 1 (.t 69) (.t 67)), none⟩] []) (.seq (.seq (.reg [⟨(some 70), (.mv (.t 1)), none⟩, ⟨(some 71), (.nilck (.t 70)), none⟩, ⟨(some 72), (.faddr 0 (.t 71)), none⟩, ⟨(some 73), (.faddr 0 (.t 72)), none⟩, ⟨(some 74), (.load false 1 (.t 73)), none⟩] []) (.block 1 (.seq (.block 6 (.seq (.block 5 (.seq (.block 4 (.seq (.block 3 (.seq (.block 2 (.seq (.seq (.seq (.seq (.reg [⟨(some 76), (.bin .eql 0 (.t 74) (.k (.v (.c (.p (.int .i64 (-1))))))), none⟩, ⟨(some 75), (.mv (.t 76)), none⟩] []) (.cond (.t 75) .skip (.reg [⟨(some 77), (.bin .eql 0 (.t 74) (.k (.v (.c (.p (.int .i64 (-2))))))), none⟩, ⟨(some 75), (.mv (.t 77)), none⟩] []))) (.mark 2 [0, 1, 74, 75] (.cond (.t 75) (.exit 2) .skip))) (.seq (.seq (.reg [⟨(some 79), (.bin .eql 0 (.t 74) (.k (.v (.c (.p (.int .i64 (-3))))))), none⟩, ⟨(some 78), (.mv (.t 79)), none⟩] []) (.cond (.t 78) (.exit 3) .skip)) (.seq (.seq (.reg [⟨(some 81), (.bin .eql 0 (.t 74) (.k (.v (.c (.p (.int .i64 (-4))))))), none⟩, ⟨(some 80), (.mv (.t 81)), none⟩] []) (.cond (.t 80) (.exit 4) .skip)) (.seq (.reg [⟨(some 83), (.bin .eql 0 (.t 74) (.k (.v (.c (.p (.int .i64 9)))))), none⟩, ⟨(some 82), (.mv (.t 83)), none⟩] []) (.cond (.t 82) (.exit 5) .skip))))) (.exit 6))) (.exit 1))) (.seq (.reg [⟨(some 84), (.mv (.t 1)), none⟩, ⟨(some 85), (.mv (.t 0)), none⟩, ⟨(some 86), (.call (.k (.v (.c (.func 113 [])))) [(.t 85)]), none⟩, ⟨(some 87), (.nilck (.t 84)), none⟩, ⟨(some 88), (.faddr 0 (.t 87)), none⟩, ⟨(some 89), (.faddr 3 (.t 88)), none⟩, ⟨none, (.store 1 (.t 89) (.t 86)), none⟩] []) (.exit 1)))) (.seq (.reg [⟨(some 90), (.mv (.t 1)), none⟩, ⟨(some 91), (.mv (.t 0)), none⟩, ⟨(some 92), (.call (.k (.v (.c (.func 114 [])))) [(.t 91)]), none⟩, ⟨(some 93), (.nilck (.t 90)), none⟩, ⟨(some 94), (.faddr 0 (.t 93)), none⟩, ⟨(some 95), (.faddr 3 (.t 94)), none⟩, ⟨none, (.store 1 (.t 95) (.t 92)), none⟩] []) (.exit 1)))) (.seq (.reg [⟨(some 96), (.mv (.t 1)), none⟩, ⟨(some 97), (.mv (.t 0)), none⟩, ⟨(some 98), (.call (.k (.v (.c (.func 114 [])))) [(.t 97)]), none⟩, ⟨(some 99), (.nilck (.t 96)), none⟩, ⟨(some 100), (.faddr 0 (.t 99)), none⟩, ⟨(some 101), (.faddr 3 (.t 100)), none⟩, ⟨none, (.store 1 (.t 101) (.t 98)), none⟩] []) (.seq (.reg [⟨(some 102), (.mv (.t 0)), none⟩, ⟨(some 103), (.nilck (.t 102)), none⟩, ⟨(some 104), (.faddr 1 (.t 103)), none⟩, ⟨(some 105), (.load false 1 (.t 104)), none⟩, ⟨(some 106), (.mv (.t 0)), none⟩, ⟨(some 107), (.nilck (.t 106)), none⟩, ⟨(some 108), (.faddr 0 (.t 107)), none⟩, ⟨(some 109), (.load false 1 (.t 108)), none⟩, ⟨(some 110), (.len 2 (.t 109)), none⟩, ⟨(some 111), (.bin .geq 0 (.t 105) (.t 110)), none⟩] []) (.cond (.t 111) (.exit 1) .skip))))) (.mark 3 [0, 1] (.seq (.reg [⟨(some 112), (.mv (.t 1)), none⟩, ⟨(some 113), (.mv (.t 0)), none⟩, ⟨(some 114), (.call (.k (.v (.c (.func 30 [])))) [(.t 113)]), none⟩, ⟨(some 115), (.nilck (.t 112)), none⟩, ⟨(some 116), (.faddr 0 (.t 115)), none⟩, ⟨(some 117), (.faddr 4 (.t 116)), none⟩, ⟨none, (.store 1 (.t 117) (.t 114)), none⟩] []) (.exit 1)))))) (.seq (.reg [⟨(some 4), (.mv (.k (.v (.c (.p (.bool true)))))), none⟩] []) .ret)))))) }
theorem t82 : compF Tryd.prog (globs2 tabs opq) false true Tryd.f82 = some c82.erase := by kernel_rfl
noncomputable def b82_0 (O : Oracle) (R : Jump) (q : Nat) (x0 x1 : TVal) (h : Heap) : Res1 :=
  vop O (.nilck (.k x1)) h 6 fun x6 h =>
  vfaddr 9 x6 h fun x7 h =>
  vload false 1 x7 h fun x8 h =>
  vbin .eql 0 x8 (kS [105, 102]) h fun x10 h =>
  vif x10 (
  vop O (.nilck (.k x1)) h 12 fun x12 h =>
  vfaddr 0 x12 h fun x13 h =>
  vfaddr 0 x13 h fun x14 h =>
  vstore 1 x14 (kI 5) h fun _ h =>
  R 1 [x0, x1] h)
  (vbin .eql 0 x8 (kS [119, 105, 116, 104]) h fun x16 h =>
  vif x16 (
  vop O (.nilck (.k x1)) h 18 fun x18 h =>
  vfaddr 0 x18 h fun x19 h =>
  vfaddr 0 x19 h fun x20 h =>
  vstore 1 x20 (kI 6) h fun _ h =>
  R 1 [x0, x1] h)
  (vbin .eql 0 x8 (kS [114, 97, 110, 103, 101]) h fun x22 h =>
  vif x22 (
  vop O (.nilck (.k x1)) h 24 fun x24 h =>
  vfaddr 0 x24 h fun x25 h =>
  vfaddr 0 x25 h fun x26 h =>
  vstore 1 x26 (kI 7) h fun _ h =>
  R 1 [x0, x1] h)
  (vbin .eql 0 x8 (kS [109, 97, 116, 99, 104]) h fun x28 h =>
  vif x28 (
  vop O (.nilck (.k x1)) h 30 fun x30 h =>
  vfaddr 0 x30 h fun x31 h =>
  vfaddr 0 x31 h fun x32 h =>
  vstore 1 x32 (kI 8) h fun _ h =>
  R 1 [x0, x1] h)
  (vbin .eql 0 x8 (kS [101, 108, 115, 101]) h fun x34 h =>
  vif x34 (
  vop O (.nilck (.k x1)) h 36 fun x36 h =>
  vfaddr 0 x36 h fun x37 h =>
  vfaddr 0 x37 h fun x38 h =>
  vstore 1 x38 (kI (-1)) h fun _ h =>
  R 1 [x0, x1] h)
  (vbin .eql 0 x8 (kS [101, 110, 100]) h fun x40 h =>
  vif x40 (
  vop O (.nilck (.k x1)) h 42 fun x42 h =>
  vfaddr 0 x42 h fun x43 h =>
  vfaddr 0 x43 h fun x44 h =>
  vstore 1 x44 (kI (-2)) h fun _ h =>
  R 1 [x0, x1] h)
  (vbin .eql 0 x8 (kS [99, 97, 115, 101]) h fun x46 h =>
  vif x46 (
  vop O (.nilck (.k x1)) h 48 fun x48 h =>
  vfaddr 0 x48 h fun x49 h =>
  vfaddr 0 x49 h fun x50 h =>
  vstore 1 x50 (kI (-3)) h fun _ h =>
  R 1 [x0, x1] h)
  (vbin .eql 0 x8 (kS [116, 101, 109, 112, 108, 97, 116, 101]) h fun x52 h =>
  vif x52 (
  vop O (.nilck (.k x1)) h 54 fun x54 h =>
  vfaddr 0 x54 h fun x55 h =>
  vfaddr 0 x55 h fun x56 h =>
  vstore 1 x56 (kI 9) h fun _ h =>
  R 1 [x0, x1] h)
  (vbin .eql 0 x8 (kS [100, 101, 102, 105, 110, 101]) h fun x58 h =>
  vif x58 (
  vop O (.nilck (.k x1)) h 60 fun x60 h =>
  vfaddr 0 x60 h fun x61 h =>
  vfaddr 0 x61 h fun x62 h =>
  vstore 1 x62 (kI (-4)) h fun _ h =>
  R 1 [x0, x1] h)
  (tcomp (kB false) fun c0 => vfin true q [c0] h)))))))))
theorem e82_0 (O : Oracle) (R : Jump) (q : Nat) (x0 x1 : TVal) (h : Heap) : b82_0 O R q x0 x1 h = stepF c82 O R q 0 [x0, x1] h := by kernel_rfl
noncomputable def b82_1 (O : Oracle) (R : Jump) (q : Nat) (x0 x1 : TVal) (h : Heap) : Res1 :=
  vop O (.nilck (.k x0)) h 64 fun x64 h =>
  vfaddr 1 x64 h fun x65 h =>
  vload false 1 x65 h fun x66 h =>
  vbin .add 0 x66 (kI 1) h fun x67 h =>
  vop O (.nilck (.k x0)) h 68 fun x68 h =>
  vfaddr 1 x68 h fun x69 h =>
  vstore 1 x69 x67 h fun _ h =>
  vop O (.nilck (.k x1)) h 71 fun x71 h =>
  vfaddr 0 x71 h fun x72 h =>
  vfaddr 0 x72 h fun x73 h =>
  vload false 1 x73 h fun x74 h =>
  vbin .eql 0 x74 (kI (-1)) h fun x76 h =>
  vif x76 (
  R 2 [x0, x1, x74, x76] h)
  (vbin .eql 0 x74 (kI (-2)) h fun x77 h =>
  R 2 [x0, x1, x74, x77] h)
theorem e82_1 (O : Oracle) (R : Jump) (q : Nat) (x0 x1 : TVal) (h : Heap) : b82_1 O R q x0 x1 h = stepF c82 O R q 1 [x0, x1] h := by kernel_rfl
noncomputable def b82_2 (O : Oracle) (R : Jump) (q : Nat) (x0 x1 x74 x75 : TVal) (h : Heap) : Res1 :=
  vif x75 (
  tcomp (kB true) fun c0 => vfin true q [c0] h)
  (vbin .eql 0 x74 (kI (-3)) h fun x79 h =>
  vif x79 (
  vcall O (.v (.c (.func 113 []))) [x0] h 86 fun x86 h =>
  vop O (.nilck (.k x1)) h 87 fun x87 h =>
  vfaddr 0 x87 h fun x88 h =>
  vfaddr 3 x88 h fun x89 h =>
  vstore 1 x89 x86 h fun _ h =>
  tcomp (kB true) fun c0 => vfin true q [c0] h)
  (vbin .eql 0 x74 (kI (-4)) h fun x81 h =>
  vif x81 (
  vcall O (.v (.c (.func 114 []))) [x0] h 92 fun x92 h =>
  vop O (.nilck (.k x1)) h 93 fun x93 h =>
  vfaddr 0 x93 h fun x94 h =>
  vfaddr 3 x94 h fun x95 h =>
  vstore 1 x95 x92 h fun _ h =>
  tcomp (kB true) fun c0 => vfin true q [c0] h)
  (vbin .eql 0 x74 (kI 9) h fun x83 h =>
  vif x83 (
  vcall O (.v (.c (.func 114 []))) [x0] h 98 fun x98 h =>
  vop O (.nilck (.k x1)) h 99 fun x99 h =>
  vfaddr 0 x99 h fun x100 h =>
  vfaddr 3 x100 h fun x101 h =>
  vstore 1 x101 x98 h fun _ h =>
  vop O (.nilck (.k x0)) h 103 fun x103 h =>
  vfaddr 1 x103 h fun x104 h =>
  vload false 1 x104 h fun x105 h =>
  vop O (.nilck (.k x0)) h 107 fun x107 h =>
  vfaddr 0 x107 h fun x108 h =>
  vload false 1 x108 h fun x109 h =>
  vlen O 2 x109 h 110 fun x110 h =>
  vbin .geq 0 x105 x110 h fun x111 h =>
  vif x111 (
  tcomp (kB true) fun c0 => vfin true q [c0] h)
  (R 3 [x0, x1] h))
  (R 3 [x0, x1] h))))
theorem e82_2 (O : Oracle) (R : Jump) (q : Nat) (x0 x1 x74 x75 : TVal) (h : Heap) : b82_2 O R q x0 x1 x74 x75 h = stepF c82 O R q 2 [x0, x1, x74, x75] h := by kernel_rfl
noncomputable def b82_3 (O : Oracle) (R : Jump) (q : Nat) (x0 x1 : TVal) (h : Heap) : Res1 :=
  vcall O (.v (.c (.func 30 []))) [x0] h 114 fun x114 h =>
  vop O (.nilck (.k x1)) h 115 fun x115 h =>
  vfaddr 0 x115 h fun x116 h =>
  vfaddr 4 x116 h fun x117 h =>
  vstore 1 x117 x114 h fun _ h =>
  tcomp (kB true) fun c0 => vfin true q [c0] h
theorem e82_3 (O : Oracle) (R : Jump) (q : Nat) (x0 x1 : TVal) (h : Heap) : b82_3 O R q x0 x1 h = stepF c82 O R q 3 [x0, x1] h := by kernel_rfl
noncomputable def d82 : BlkF := fun O R q => [.s fun y0 => .s fun y1 => .z fun h => b82_0 O R q y0 y1 h, .s fun y0 => .s fun y1 => .z fun h => b82_1 O R q y0 y1 h, .s fun y0 => .s fun y1 => .s fun y2 => .s fun y3 => .z fun h => b82_2 O R q y0 y1 y2 y3 h, .s fun y0 => .s fun y1 => .z fun h => b82_3 O R q y0 y1 h]
theorem o82 (O : Oracle) (R : Jump) (q : Nat) : HoldsAll c82 O R q 0 (d82 O R q) := ⟨fun y0 y1 h => e82_0 O R q y0 y1 h, fun y0 y1 h => e82_1 O R q y0 y1 h, fun y0 y1 y2 y3 h => e82_2 O R q y0 y1 y2 y3 h, fun y0 y1 h => e82_3 O R q y0 y1 h, trivial⟩
/- slices.Contains[[]string,string] -/
def c83 : MFunc := { np := 2, res := [.t 4], frz := true, body := (.seq (.reg [⟨(some 4), (.mv (.k (.v (.c (.p (.bool false)))))), none⟩] []) (.seq (.reg [⟨(some 5), (.mv (.t 0)), none⟩, ⟨(some 6), (.mv (.t 1)), none⟩, ⟨(some 7), (.call (.k (.v (.c (.func 115 [])))) [(.t 5), (.t 6)]), none⟩, ⟨(some 8), (.bin .geq 0 (.t 7) (.k (.v (.c (.p (.int .i64 0)))))), none⟩, ⟨(some 4), (.mv (.t 8)), none⟩] []) .ret)) }
theorem t83 : compF Tryd.prog (globs2 tabs opq) false true Tryd.f83 = some c83.erase := by kernel_rfl
noncomputable def b83_0 (O : Oracle) (R : Jump) (q : Nat) (x0 x1 : TVal) (h : Heap) : Res1 :=
  vcall O (.v (.c (.func 115 []))) [x0, x1] h 7 fun x7 h =>
  vbin .geq 0 x7 (kI 0) h fun x8 h =>
  tcomp x8 fun c0 => vfin true q [c0] h
theorem e83_0 (O : Oracle) (R : Jump) (q : Nat) (x0 x1 : TVal) (h : Heap) : b83_0 O R q x0 x1 h = stepF c83 O R q 0 [x0, x1] h := by kernel_rfl
noncomputable def d83 : BlkF := fun O R q => [.s fun y0 => .s fun y1 => .z fun h => b83_0 O R q y0 y1 h]
theorem o83 (O : Oracle) (R : Jump) (q : Nat) : HoldsAll c83 O R q 0 (d83 O R q) := ⟨fun y0 y1 h => e83_0 O R q y0 y1 h, trivial⟩
/- sprue/scan.row -/
def c84 : MFunc := { np := 1, res := [.t 2], frz := true, body := (.seq (.reg [⟨(some 2), (.mv (.k (.v (.c (.p (.int .i64 0)))))), none⟩] []) (.seq (.reg [⟨(some 3), (.mv (.t 0)), none⟩, ⟨(some 4), (.call (.k (.v (.c (.func 105 [])))) [(.t 3), (.k (.v (.c (.func 116 []))))]), none⟩, ⟨(some 2), (.mv (.t 4)), none⟩] []) .ret)) }
theorem t84 : compF Tryd.prog (globs2 tabs opq) false true Tryd.f84 = some c84.erase := by kernel_rfl
noncomputable def b84_0 (O : Oracle) (R : Jump) (q : Nat) (x0 : TVal) (h : Heap) : Res1 :=
  vcall O (.v (.c (.func 105 []))) [x0, (.v (.c (.func 116 [])))] h 4 fun x4 h =>
  tcomp x4 fun c0 => vfin true q [c0] h
theorem e84_0 (O : Oracle) (R : Jump) (q : Nat) (x0 : TVal) (h : Heap) : b84_0 O R q x0 h = stepF c84 O R q 0 [x0] h := by kernel_rfl
noncomputable def d84 : BlkF := fun O R q => [.s fun y0 => .z fun h => b84_0 O R q y0 h]
theorem o84 (O : Oracle) (R : Jump) (q : Nat) : HoldsAll c84 O R q 0 (d84 O R q) := ⟨fun y0 h => e84_0 O R q y0 h, trivial⟩
/- strings.trimLeftByte -/
def c85 : MFunc := { np := 2, res := [.t 4], frz := true, body := (.seq (.reg [⟨(some 4), (.mv (.k (.v (.c (.p (.str [])))))), none⟩] []) (.seq (.block 0 (.loop 1 [0, 1] (.seq (.seq (.reg [⟨(some 5), (.mv (.t 0)), none⟩, ⟨(some 6), (.len 0 (.t 5)), none⟩, ⟨(some 7), (.bin .gtr 0 (.t 6) (.k (.v (.c (.p (.int .i64 0)))))), none⟩, ⟨(some 8), (.mv (.t 7)), none⟩, ⟨(some 9), (.mv (.t 0)), (some (8, true))⟩, ⟨(some 10), (.index (.t 9) (.k (.v (.c (.p (.int .i64 0)))))), (some (8, true))⟩, ⟨(some 11), (.mv (.t 1)), (some (8, true))⟩, ⟨(some 12), (.bin .eql 0 (.t 10) (.t 11)), (some (8, true))⟩, ⟨(some 13), (.pick (.t 8) (.t 12) (.k (.v (.c (.p (.bool false)))))), none⟩] []) (.cond (.t 13) .skip (.exit 0))) (.block 1 (.reg [⟨(some 14), (.mv (.t 0)), none⟩, ⟨(some 15), (.slice 0 true (.t 14) (some (.k (.v (.c (.p (.int .i64 1)))))) none none), none⟩, ⟨(some 0), (.mv (.t 15)), none⟩] []))))) (.seq (.reg [⟨(some 16), (.mv (.t 0)), none⟩, ⟨(some 4), (.mv (.t 16)), none⟩] []) .ret))) }
theorem t85 : compF Tryd.prog (globs2 tabs opq) false true Tryd.f85 = some c85.erase := by kernel_rfl
noncomputable def b85_0 (O : Oracle) (R : Jump) (q : Nat) (x0 x1 : TVal) (h : Heap) : Res1 :=
  R 1 [x0, x1] h
theorem e85_0 (O : Oracle) (R : Jump) (q : Nat) (x0 x1 : TVal) (h : Heap) : b85_0 O R q x0 x1 h = stepF c85 O R q 0 [x0, x1] h := by kernel_rfl
noncomputable def b85_1 (O : Oracle) (R : Jump) (q : Nat) (x0 x1 : TVal) (h : Heap) : Res1 :=
  vlen O 0 x0 h 6 fun x6 h =>
  vbin .gtr 0 x6 (kI 0) h fun x7 h =>
  vguard x7 true (fun kk => kk x0 h) h fun x9 h =>
  vguard x7 true (fun kk => vindex x9 (kI 0) h kk) h fun x10 h =>
  vguard x7 true (fun kk => kk x1 h) h fun x11 h =>
  vguard x7 true (fun kk => vbin .eql 0 x10 x11 h kk) h fun x12 h =>
  vop O (.pick (.k x7) (.k x12) (.k (kB false))) h 13 fun x13 h =>
  vif x13 (
  vop O (.slice 0 true (.k x0) (some (.k (kI 1))) none none) h 15 fun x15 h =>
  R 1 [x15, x1] h)
  (tcomp x0 fun c0 => vfin true q [c0] h)
theorem e85_1 (O : Oracle) (R : Jump) (q : Nat) (x0 x1 : TVal) (h : Heap) : b85_1 O R q x0 x1 h = stepF c85 O R q 1 [x0, x1] h := by kernel_rfl
noncomputable def d85 : BlkF := fun O R q => [.s fun y0 => .s fun y1 => .z fun h => b85_0 O R q y0 y1 h, .s fun y0 => .s fun y1 => .z fun h => b85_1 O R q y0 y1 h]
theorem o85 (O : Oracle) (R : Jump) (q : Nat) : HoldsAll c85 O R q 0 (d85 O R q) := ⟨fun y0 y1 h => e85_0 O R q y0 y1 h, fun y0 y1 h => e85_1 O R q y0 y1 h, trivial⟩
/- strings.trimRightByte -/
def c86 : MFunc := { np := 2, res := [.t 4], frz := true, body := (.seq (.reg [⟨(some 4), (.mv (.k (.v (.c (.p (.str [])))))), none⟩] []) (.seq (.block 0 (.loop 1 [0, 1] (.seq (.seq (.reg [⟨(some 5), (.mv (.t 0)), none⟩, ⟨(some 6), (.len 0 (.t 5)), none⟩, ⟨(some 7), (.bin .gtr 0 (.t 6) (.k (.v (.c (.p (.int .i64 0)))))), none⟩, ⟨(some 8), (.mv (.t 7)), none⟩, ⟨(some 9), (.mv (.t 0)), (some (8, true))⟩, ⟨(some 10), (.mv (.t 0)), (some (8, true))⟩, ⟨(some 11), (.len 0 (.t 10)), (some (8, true))⟩, ⟨(some 12), (.bin .sub 0 (.t 11) (.k (.v (.c (.p (.int .i64 1)))))), (some (8, true))⟩, ⟨(some 13), (.index (.t 9) (.t 12)), (some (8, true))⟩, ⟨(some 14), (.mv (.t 1)), (some (8, true))⟩, ⟨(some 15), (.bin .eql 0 (.t 13) (.t 14)), (some (8, true))⟩, ⟨(some 16), (.pick (.t 8) (.t 15) (.k (.v (.c (.p (.bool false)))))), none⟩] []) (.cond (.t 16) .skip (.exit 0))) (.block 1 (.reg [⟨(some 17), (.mv (.t 0)), none⟩, ⟨(some 18), (.mv (.t 0)), none⟩, ⟨(some 19), (.len 0 (.t 18)), none⟩, ⟨(some 20), (.bin .sub 0 (.t 19) (.k (.v (.c (.p (.int .i64 1)))))), none⟩, ⟨(some 21), (.slice 0 true (.t 17) none (some (.t 20)) none), none⟩, ⟨(some 0), (.mv (.t 21)), none⟩] []))))) (.seq (.reg [⟨(some 22), (.mv (.t 0)), none⟩, ⟨(some 4), (.mv (.t 22)), none⟩] []) .ret))) }
theorem t86 : compF Tryd.prog (globs2 tabs opq) false true Tryd.f86 = some c86.erase := by kernel_rfl
noncomputable def b86_0 (O : Oracle) (R : Jump) (q : Nat) (x0 x1 : TVal) (h : Heap) : Res1 :=
  R 1 [x0, x1] h
theorem e86_0 (O : Oracle) (R : Jump) (q : Nat) (x0 x1 : TVal) (h : Heap) : b86_0 O R q x0 x1 h = stepF c86 O R q 0 [x0, x1] h := by kernel_rfl
noncomputable def b86_1 (O : Oracle) (R : Jump) (q : Nat) (x0 x1 : TVal) (h : Heap) : Res1 :=
  vlen O 0 x0 h 6 fun x6 h =>
  vbin .gtr 0 x6 (kI 0) h fun x7 h =>
  vguard x7 true (fun kk => kk x0 h) h fun x9 h =>
  vguard x7 true (fun kk => kk x0 h) h fun x10 h =>
  vguard x7 true (fun kk => vlen O 0 x10 h 11 kk) h fun x11 h =>
  vguard x7 true (fun kk => vbin .sub 0 x11 (kI 1) h kk) h fun x12 h =>
  vguard x7 true (fun kk => vindex x9 x12 h kk) h fun x13 h =>
  vguard x7 true (fun kk => kk x1 h) h fun x14 h =>
  vguard x7 true (fun kk => vbin .eql 0 x13 x14 h kk) h fun x15 h =>
  vop O (.pick (.k x7) (.k x15) (.k (kB false))) h 16 fun x16 h =>
  vif x16 (
  vlen O 0 x0 h 19 fun x19 h =>
  vbin .sub 0 x19 (kI 1) h fun x20 h =>
  vop O (.slice 0 true (.k x0) none (some (.k x20)) none) h 21 fun x21 h =>
  R 1 [x21, x1] h)
  (tcomp x0 fun c0 => vfin true q [c0] h)
theorem e86_1 (O : Oracle) (R : Jump) (q : Nat) (x0 x1 : TVal) (h : Heap) : b86_1 O R q x0 x1 h = stepF c86 O R q 1 [x0, x1] h := by kernel_rfl
noncomputable def d86 : BlkF := fun O R q => [.s fun y0 => .s fun y1 => .z fun h => b86_0 O R q y0 y1 h, .s fun y0 => .s fun y1 => .z fun h => b86_1 O R q y0 y1 h]
theorem o86 (O : Oracle) (R : Jump) (q : Nat) : HoldsAll c86 O R q 0 (d86 O R q) := ⟨fun y0 y1 h => e86_0 O R q y0 y1 h, fun y0 y1 h => e86_1 O R q y0 y1 h, trivial⟩
/- strings.makeASCIISet -/
def c87 : MFunc := { np := 1, res := [.cell 2 true 256, .t 3], frz := true, body := (.seq (.reg [⟨(some 2), (.alloc [(.p (.bool false)), (.p (.bool false)), (.p (.bool false)), (.p (.bool false)), (.p (.bool false)), (.p (.bool false)), (.p (.bool false)), (.p (.bool false)), (.p (.bool false)), (.p (.bool false)), (.p (.bool false)), (.p (.bool false)), (.p (.bool false)), (.p (.bool false)), (.p (.bool false)), (.p (.bool false)), (.p (.bool false)), (.p (.bool false)), (.p (.bool false)), (.p (.bool false)), (.p (.bool false)), (.p (.bool false)), (.p (.bool false)), (.p (.bool false)), (.p (.bool false)), (.p (.bool false)), (.p (.bool false)), (.p (.bool false)), (.p (.bool false)), (.p (.bool false)), (.p (.bool false)), (.p (.bool false)), (.p (.bool false)), (.p (.bool false)), (.p (.bool false)), (.p (.bool false)), (.p (.bool false)), (.p (.bool false)), (.p (.bool false)), (.p (.bool false)), (.p (.bool false)), (.p (.bool false)), (.p (.bool false)), (.p (.bool false)), (.p (.bool false)), (.p (.bool false)), (.p (.bool false)), (.p (.bool false)), (.p (.bool false)), (.p (.bool false)), (.p (.bool false)), (.p (.bool false)), (.p (.bool false)), (.p (.bool false)), (.p (.bool false)), (.p (.bool false)), (.p (.bool false)), (.p (.bool false)), (.p (.bool false)), (.p (.bool false)), (.p (.bool false)), (.p (.bool false)), (.p (.bool false)), (.p (.bool false)), (.p (.bool false)), (.p (.bool false)), (.p (.bool false)), (.p (.bool false)), (.p (.bool false)), (.p (.bool false)), (.p (.bool false)), (.p (.bool false)), (.p (.bool false)), (.p (.bool false)), (.p (.bool false)), (.p (.bool false)), (.p (.bool false)), (.p (.bool false)), (.p (.bool false)), (.p (.bool false)), (.p (.bool false)), (.p (.bool false)), (.p (.bool false)), (.p (.bool false)), (.p (.bool false)), (.p (.bool false)), (.p (.bool false)), (.p (.bool false)), (.p (.bool false)), (.p (.bool false)), (.p (.bool false)), (.p (.bool false)), (.p (.bool false)), (.p (.bool false)), (.p (.bool false)), (.p (.bool false)), (.p (.bool false)), (.p (.bool false)), (.p (.bool false)), (.p (.bool false)), (.p (.bool false)), (.p (.bool false)), (.p (.bool false)), (.p (.bool false)), (.p (.bool false)), (.p (.bool false)), (.p (.bool false)), (.p (.bool false)), (.p (.bool false)), (.p (.bool false)), (.p (.bool false)), (.p (.bool false)), (.p (.bool false)), (.p (.bool false)), (.p (.bool false)), (.p (.bool false)), (.p (.bool false)), (.p (.bool false)), (.p (.bool false)), (.p (.bool false)), (.p (.bool false)), (.p (.bool false)), (.p (.bool false)), (.p (.bool false)), (.p (.bool false)), (.p (.bool false)), (.p (.bool false)), (.p (.bool false)), (.p (.bool false)), (.p (.bool false)), (.p (.bool false)), (.p (.bool false)), (.p (.bool false)), (.p (.bool false)), (.p (.bool false)), (.p (.bool false)), (.p (.bool false)), (.p (.bool false)), (.p (.bool false)), (.p (.bool false)), (.p (.bool false)), (.p (.bool false)), (.p (.bool false)), (.p (.bool false)), (.p (.bool false)), (.p (.bool false)), (.p (.bool false)), (.p (.bool false)), (.p (.bool false)), (.p (.bool false)), (.p (.bool false)), (.p (.bool false)), (.p (.bool false)), (.p (.bool false)), (.p (.bool false)), (.p (.bool false)), (.p (.bool false)), (.p (.bool false)), (.p (.bool false)), (.p (.bool false)), (.p (.bool false)), (.p (.bool false)), (.p (.bool false)), (.p (.bool false)), (.p (.bool false)), (.p (.bool false)), (.p (.bool false)), (.p (.bool false)), (.p (.bool false)), (.p (.bool false)), (.p (.bool false)), (.p (.bool false)), (.p (.bool false)), (.p (.bool false)), (.p (.bool false)), (.p (.bool false)), (.p (.bool false)), (.p (.bool false)), (.p (.bool false)), (.p (.bool false)), (.p (.bool false)), (.p (.bool false)), (.p (.bool false)), (.p (.bool false)), (.p (.bool false)), (.p (.bool false)), (.p (.bool false)), (.p (.bool false)), (.p (.bool false)), (.p (.bool false)), (.p (.bool false)), (.p (.bool false)), (.p (.bool false)), (.p (.bool false)), (.p (.bool false)), (.p (.bool false)), (.p (.bool false)), (.p (.bool false)), (.p (.bool false)), (.p (.bool false)), (.p (.bool false)), (.p (.bool false)), (.p (.bool false)), (.p (.bool false)), (.p (.bool false)), (.p (.bool false)), (.p (.bool false)), (.p (.bool false)), (.p (.bool false)), (.p (.bool false)), (.p (.bool false)), (.p (.bool false)), (.p (.bool false)), (.p (.bool false)), (.p (.bool false)), (.p (.bool false)), (.p (.bool false)), (.p (.bool false)), (.p (.bool false)), (.p (.bool false)), (.p (.bool false)), (.p (.bool false)), (.p (.bool false)), (.p (.bool false)), (.p (.bool false)), (.p (.bool false)), (.p (.bool false)), (.p (.bool false)), (.p (.bool false)), (.p (.bool false)), (.p (.bool false)), (.p (.bool false)), (.p (.bool false)), (.p (.bool false)), (.p (.bool false)), (.p (.bool false)), (.p (.bool false)), (.p (.bool false)), (.p (.bool false)), (.p (.bool false)), (.p (.bool false)), (.p (.bool false)), (.p (.bool false)), (.p (.bool false)), (.p (.bool false)), (.p (.bool false)), (.p (.bool false)), (.p (.bool false)), (.p (.bool false)), (.p (.bool false)), (.p (.bool false)), (.p (.bool false)), (.p (.bool false)), (.p (.bool false)), (.p (.bool false)), (.p (.bool false))] false), none⟩, ⟨(some 3), (.mv (.k (.v (.c (.p (.bool false)))))), none⟩] []) (.seq (.seq (.reg [⟨(some 4), (.mv (.k (.v (.c (.p (.int .i64 0)))))), none⟩] []) (.block 0 (.loop 1 [0, 2, 4] (.seq (.seq (.reg [⟨(some 6), (.mv (.t 4)), none⟩, ⟨(some 7), (.mv (.t 0)), none⟩, ⟨(some 8), (.len 0 (.t 7)), none⟩, ⟨(some 9), (.bin .lss 0 (.t 6) (.t 8)), none⟩] []) (.cond (.t 9) .skip (.exit 0))) (.seq (.block 1 (.seq (.reg [⟨(some 12), (.mv (.t 0)), none⟩, ⟨(some 13), (.mv (.t 4)), none⟩, ⟨(some 14), (.index (.t 12) (.t 13)), none⟩, ⟨(some 5), (.mv (.t 14)), none⟩] []) (.seq (.seq (.reg [⟨(some 15), (.mv (.t 5)), none⟩, ⟨(some 16), (.bin .geq 0 (.t 15) (.k (.v (.c (.p (.int .u8 128)))))), none⟩] []) (.cond (.t 16) (.seq (.reg [⟨(some 17), (.load true 256 (.t 2)), none⟩, ⟨none, (.store 256 (.t 2) (.t 17)), none⟩, ⟨(some 3), (.mv (.k (.v (.c (.p (.bool false)))))), none⟩] []) .ret) .skip)) (.reg [⟨(some 18), (.mv (.t 5)), none⟩, ⟨(some 19), (.iaddrA 256 1 (.t 2) (.t 18)), none⟩, ⟨none, (.store 1 (.t 19) (.k (.v (.c (.p (.bool true)))))), none⟩] [])))) (.reg [⟨(some 10), (.mv (.t 4)), none⟩, ⟨(some 11), (.bin .add 0 (.t 10) (.k (.v (.c (.p (.int .i64 1)))))), none⟩, ⟨(some 4), (.mv (.t 11)), none⟩] [])))))) (.mark 2 [2] (.seq (.reg [⟨(some 20), (.load true 256 (.t 2)), none⟩, ⟨none, (.store 256 (.t 2) (.t 20)), none⟩, ⟨(some 3), (.mv (.k (.v (.c (.p (.bool true)))))), none⟩] []) .ret)))) }
theorem t87 : compF Tryd.prog (globs2 tabs opq) false true Tryd.f87 = some c87.erase := by kernel_rfl
noncomputable def b87_0 (O : Oracle) (R : Jump) (q : Nat) (x0 : TVal) (h : Heap) : Res1 :=
  vop O (.alloc [(.p (.bool false)), (.p (.bool false)), (.p (.bool false)), (.p (.bool false)), (.p (.bool false)), (.p (.bool false)), (.p (.bool false)), (.p (.bool false)), (.p (.bool false)), (.p (.bool false)), (.p (.bool false)), (.p (.bool false)), (.p (.bool false)), (.p (.bool false)), (.p (.bool false)), (.p (.bool false)), (.p (.bool false)), (.p (.bool false)), (.p (.bool false)), (.p (.bool false)), (.p (.bool false)), (.p (.bool false)), (.p (.bool false)), (.p (.bool false)), (.p (.bool false)), (.p (.bool false)), (.p (.bool false)), (.p (.bool false)), (.p (.bool false)), (.p (.bool false)), (.p (.bool false)), (.p (.bool false)), (.p (.bool false)), (.p (.bool false)), (.p (.bool false)), (.p (.bool false)), (.p (.bool false)), (.p (.bool false)), (.p (.bool false)), (.p (.bool false)), (.p (.bool false)), (.p (.bool false)), (.p (.bool false)), (.p (.bool false)), (.p (.bool false)), (.p (.bool false)), (.p (.bool false)), (.p (.bool false)), (.p (.bool false)), (.p (.bool false)), (.p (.bool false)), (.p (.bool false)), (.p (.bool false)), (.p (.bool false)), (.p (.bool false)), (.p (.bool false)), (.p (.bool false)), (.p (.bool false)), (.p (.bool false)), (.p (.bool false)), (.p (.bool false)), (.p (.bool false)), (.p (.bool false)), (.p (.bool false)), (.p (.bool false)), (.p (.bool false)), (.p (.bool false)), (.p (.bool false)), (.p (.bool false)), (.p (.bool false)), (.p (.bool false)), (.p (.bool false)), (.p (.bool false)), (.p (.bool false)), (.p (.bool false)), (.p (.bool false)), (.p (.bool false)), (.p (.bool false)), (.p (.bool false)), (.p (.bool false)), (.p (.bool false)), (.p (.bool false)), (.p (.bool false)), (.p (.bool false)), (.p (.bool false)), (.p (.bool false)), (.p (.bool false)), (.p (.bool false)), (.p (.bool false)), (.p (.bool false)), (.p (.bool false)), (.p (.bool false)), (.p (.bool false)), (.p (.bool false)), (.p (.bool false)), (.p (.bool false)), (.p (.bool false)), (.p (.bool false)), (.p (.bool false)), (.p (.bool false)), (.p (.bool false)), (.p (.bool false)), (.p (.bool false)), (.p (.bool false)), (.p (.bool false)), (.p (.bool false)), (.p (.bool false)), (.p (.bool false)), (.p (.bool false)), (.p (.bool false)), (.p (.bool false)), (.p (.bool false)), (.p (.bool false)), (.p (.bool false)), (.p (.bool false)), (.p (.bool false)), (.p (.bool false)), (.p (.bool false)), (.p (.bool false)), (.p (.bool false)), (.p (.bool false)), (.p (.bool false)), (.p (.bool false)), (.p (.bool false)), (.p (.bool false)), (.p (.bool false)), (.p (.bool false)), (.p (.bool false)), (.p (.bool false)), (.p (.bool false)), (.p (.bool false)), (.p (.bool false)), (.p (.bool false)), (.p (.bool false)), (.p (.bool false)), (.p (.bool false)), (.p (.bool false)), (.p (.bool false)), (.p (.bool false)), (.p (.bool false)), (.p (.bool false)), (.p (.bool false)), (.p (.bool false)), (.p (.bool false)), (.p (.bool false)), (.p (.bool false)), (.p (.bool false)), (.p (.bool false)), (.p (.bool false)), (.p (.bool false)), (.p (.bool false)), (.p (.bool false)), (.p (.bool false)), (.p (.bool false)), (.p (.bool false)), (.p (.bool false)), (.p (.bool false)), (.p (.bool false)), (.p (.bool false)), (.p (.bool false)), (.p (.bool false)), (.p (.bool false)), (.p (.bool false)), (.p (.bool false)), (.p (.bool false)), (.p (.bool false)), (.p (.bool false)), (.p (.bool false)), (.p (.bool false)), (.p (.bool false)), (.p (.bool false)), (.p (.bool false)), (.p (.bool false)), (.p (.bool false)), (.p (.bool false)), (.p (.bool false)), (.p (.bool false)), (.p (.bool false)), (.p (.bool false)), (.p (.bool false)), (.p (.bool false)), (.p (.bool false)), (.p (.bool false)), (.p (.bool false)), (.p (.bool false)), (.p (.bool false)), (.p (.bool false)), (.p (.bool false)), (.p (.bool false)), (.p (.bool false)), (.p (.bool false)), (.p (.bool false)), (.p (.bool false)), (.p (.bool false)), (.p (.bool false)), (.p (.bool false)), (.p (.bool false)), (.p (.bool false)), (.p (.bool false)), (.p (.bool false)), (.p (.bool false)), (.p (.bool false)), (.p (.bool false)), (.p (.bool false)), (.p (.bool false)), (.p (.bool false)), (.p (.bool false)), (.p (.bool false)), (.p (.bool false)), (.p (.bool false)), (.p (.bool false)), (.p (.bool false)), (.p (.bool false)), (.p (.bool false)), (.p (.bool false)), (.p (.bool false)), (.p (.bool false)), (.p (.bool false)), (.p (.bool false)), (.p (.bool false)), (.p (.bool false)), (.p (.bool false)), (.p (.bool false)), (.p (.bool false)), (.p (.bool false)), (.p (.bool false)), (.p (.bool false)), (.p (.bool false)), (.p (.bool false)), (.p (.bool false)), (.p (.bool false)), (.p (.bool false)), (.p (.bool false)), (.p (.bool false)), (.p (.bool false)), (.p (.bool false)), (.p (.bool false)), (.p (.bool false)), (.p (.bool false)), (.p (.bool false)), (.p (.bool false)), (.p (.bool false)), (.p (.bool false)), (.p (.bool false)), (.p (.bool false)), (.p (.bool false)), (.p (.bool false)), (.p (.bool false)), (.p (.bool false)), (.p (.bool false)), (.p (.bool false)), (.p (.bool false)), (.p (.bool false)), (.p (.bool false)), (.p (.bool false)), (.p (.bool false))] false) h 2 fun x2 h =>
  R 1 [x0, x2, (kI 0)] h
theorem e87_0 (O : Oracle) (R : Jump) (q : Nat) (x0 : TVal) (h : Heap) : b87_0 O R q x0 h = stepF c87 O R q 0 [x0] h := by kernel_rfl
noncomputable def b87_1 (O : Oracle) (R : Jump) (q : Nat) (x0 x2 x4 : TVal) (h : Heap) : Res1 :=
  vlen O 0 x0 h 8 fun x8 h =>
  vbin .lss 0 x4 x8 h fun x9 h =>
  vif x9 (
  vindex x0 x4 h fun x14 h =>
  vbin .geq 0 x14 (.v (.c (.p (.int .u8 128)))) h fun x16 h =>
  vif x16 (
  vload true 256 x2 h fun x17 h =>
  vstore 256 x2 x17 h fun _ h =>
  vcell true 256 x2 h fun c0 => tcomp (kB false) fun c1 => vfin true q [c0, c1] h)
  (vop O (.iaddrA 256 1 (.k x2) (.k x14)) h 19 fun x19 h =>
  vstore 1 x19 (kB true) h fun _ h =>
  vbin .add 0 x4 (kI 1) h fun x11 h =>
  R 1 [x0, x2, x11] h))
  (R 2 [x2] h)
theorem e87_1 (O : Oracle) (R : Jump) (q : Nat) (x0 x2 x4 : TVal) (h : Heap) : b87_1 O R q x0 x2 x4 h = stepF c87 O R q 1 [x0, x2, x4] h := by kernel_rfl
noncomputable def b87_2 (O : Oracle) (R : Jump) (q : Nat) (x2 : TVal) (h : Heap) : Res1 :=
  vload true 256 x2 h fun x20 h =>
  vstore 256 x2 x20 h fun _ h =>
  vcell true 256 x2 h fun c0 => tcomp (kB true) fun c1 => vfin true q [c0, c1] h
theorem e87_2 (O : Oracle) (R : Jump) (q : Nat) (x2 : TVal) (h : Heap) : b87_2 O R q x2 h = stepF c87 O R q 2 [x2] h := by kernel_rfl
noncomputable def d87 : BlkF := fun O R q => [.s fun y0 => .z fun h => b87_0 O R q y0 h, .s fun y0 => .s fun y1 => .s fun y2 => .z fun h => b87_1 O R q y0 y1 y2 h, .s fun y0 => .z fun h => b87_2 O R q y0 h]
theorem o87 (O : Oracle) (R : Jump) (q : Nat) : HoldsAll c87 O R q 0 (d87 O R q) := ⟨fun y0 h => e87_0 O R q y0 h, fun y0 y1 y2 h => e87_1 O R q y0 y1 y2 h, fun y0 h => e87_2 O R q y0 h, trivial⟩
/- strings.trimLeftASCII -/
def c88 : MFunc := { np := 2, res := [.t 4], frz := true, body := (.seq (.reg [⟨(some 4), (.mv (.k (.v (.c (.p (.str [])))))), none⟩] []) (.seq (.block 0 (.loop 1 [0, 1] (.seq (.seq (.reg [⟨(some 5), (.mv (.t 0)), none⟩, ⟨(some 6), (.len 0 (.t 5)), none⟩, ⟨(some 7), (.bin .gtr 0 (.t 6) (.k (.v (.c (.p (.int .i64 0)))))), none⟩] []) (.cond (.t 7) .skip (.exit 0))) (.block 1 (.seq (.seq (.reg [⟨(some 8), (.mv (.t 1)), none⟩, ⟨(some 9), (.mv (.t 0)), none⟩, ⟨(some 10), (.index (.t 9) (.k (.v (.c (.p (.int .i64 0)))))), none⟩, ⟨(some 11), (.call (.k (.v (.c (.func 117 [])))) [(.t 8), (.t 10)]), none⟩, ⟨(some 12), (.un .not (.t 11)), none⟩] []) (.cond (.t 12) (.exit 0) .skip)) (.reg [⟨(some 13), (.mv (.t 0)), none⟩, ⟨(some 14), (.slice 0 true (.t 13) (some (.k (.v (.c (.p (.int .i64 1)))))) none none), none⟩, ⟨(some 0), (.mv (.t 14)), none⟩] [])))))) (.seq (.reg [⟨(some 15), (.mv (.t 0)), none⟩, ⟨(some 4), (.mv (.t 15)), none⟩] []) .ret))) }
theorem t88 : compF Tryd.prog (globs2 tabs opq) false true Tryd.f88 = some c88.erase := by kernel_rfl
noncomputable def b88_0 (O : Oracle) (R : Jump) (q : Nat) (x0 x1 : TVal) (h : Heap) : Res1 :=
  R 1 [x0, x1] h
theorem e88_0 (O : Oracle) (R : Jump) (q : Nat) (x0 x1 : TVal) (h : Heap) : b88_0 O R q x0 x1 h = stepF c88 O R q 0 [x0, x1] h := by kernel_rfl
noncomputable def b88_1 (O : Oracle) (R : Jump) (q : Nat) (x0 x1 : TVal) (h : Heap) : Res1 :=
  vlen O 0 x0 h 6 fun x6 h =>
  vbin .gtr 0 x6 (kI 0) h fun x7 h =>
  vif x7 (
  vindex x0 (kI 0) h fun x10 h =>
  vcall O (.v (.c (.func 117 []))) [x1, x10] h 11 fun x11 h =>
  vop O (.un .not (.k x11)) h 12 fun x12 h =>
  vif x12 (
  tcomp x0 fun c0 => vfin true q [c0] h)
  (vop O (.slice 0 true (.k x0) (some (.k (kI 1))) none none) h 14 fun x14 h =>
  R 1 [x14, x1] h))
  (tcomp x0 fun c0 => vfin true q [c0] h)
theorem e88_1 (O : Oracle) (R : Jump) (q : Nat) (x0 x1 : TVal) (h : Heap) : b88_1 O R q x0 x1 h = stepF c88 O R q 1 [x0, x1] h := by kernel_rfl
noncomputable def d88 : BlkF := fun O R q => [.s fun y0 => .s fun y1 => .z fun h => b88_0 O R q y0 y1 h, .s fun y0 => .s fun y1 => .z fun h => b88_1 O R q y0 y1 h]
theorem o88 (O : Oracle) (R : Jump) (q : Nat) : HoldsAll c88 O R q 0 (d88 O R q) := ⟨fun y0 y1 h => e88_0 O R q y0 y1 h, fun y0 y1 h => e88_1 O R q y0 y1 h, trivial⟩
/- strings.trimRightASCII -/
def c89 : MFunc := { np := 2, res := [.t 4], frz := true, body := (.seq (.reg [⟨(some 4), (.mv (.k (.v (.c (.p (.str [])))))), none⟩] []) (.seq (.block 0 (.loop 1 [0, 1] (.seq (.seq (.reg [⟨(some 5), (.mv (.t 0)), none⟩, ⟨(some 6), (.len 0 (.t 5)), none⟩, ⟨(some 7), (.bin .gtr 0 (.t 6) (.k (.v (.c (.p (.int .i64 0)))))), none⟩] []) (.cond (.t 7) .skip (.exit 0))) (.block 1 (.seq (.seq (.reg [⟨(some 8), (.mv (.t 1)), none⟩, ⟨(some 9), (.mv (.t 0)), none⟩, ⟨(some 10), (.mv (.t 0)), none⟩, ⟨(some 11), (.len 0 (.t 10)), none⟩, ⟨(some 12), (.bin .sub 0 (.t 11) (.k (.v (.c (.p (.int .i64 1)))))), none⟩, ⟨(some 13), (.index (.t 9) (.t 12)), none⟩, ⟨(some 14), (.call (.k (.v (.c (.func 117 [])))) [(.t 8), (.t 13)]), none⟩, ⟨(some 15), (.un .not (.t 14)), none⟩] []) (.cond (.t 15) (.exit 0) .skip)) (.reg [⟨(some 16), (.mv (.t 0)), none⟩, ⟨(some 17), (.mv (.t 0)), none⟩, ⟨(some 18), (.len 0 (.t 17)), none⟩, ⟨(some 19), (.bin .sub 0 (.t 18) (.k (.v (.c (.p (.int .i64 1)))))), none⟩, ⟨(some 20), (.slice 0 true (.t 16) none (some (.t 19)) none), none⟩, ⟨(some 0), (.mv (.t 20)), none⟩] [])))))) (.seq (.reg [⟨(some 21), (.mv (.t 0)), none⟩, ⟨(some 4), (.mv (.t 21)), none⟩] []) .ret))) }
theorem t89 : compF Tryd.prog (globs2 tabs opq) false true Tryd.f89 = some c89.erase := by kernel_rfl
noncomputable def b89_0 (O : Oracle) (R : Jump) (q : Nat) (x0 x1 : TVal) (h : Heap) : Res1 :=
  R 1 [x0, x1] h
theorem e89_0 (O : Oracle) (R : Jump) (q : Nat) (x0 x1 : TVal) (h : Heap) : b89_0 O R q x0 x1 h = stepF c89 O R q 0 [x0, x1] h := by kernel_rfl
noncomputable def b89_1 (O : Oracle) (R : Jump) (q : Nat) (x0 x1 : TVal) (h : Heap) : Res1 :=
  vlen O 0 x0 h 6 fun x6 h =>
  vbin .gtr 0 x6 (kI 0) h fun x7 h =>
  vif x7 (
  vlen O 0 x0 h 11 fun x11 h =>
  vbin .sub 0 x11 (kI 1) h fun x12 h =>
  vindex x0 x12 h fun x13 h =>
  vcall O (.v (.c (.func 117 []))) [x1, x13] h 14 fun x14 h =>
  vop O (.un .not (.k x14)) h 15 fun x15 h =>
  vif x15 (
  tcomp x0 fun c0 => vfin true q [c0] h)
  (vlen O 0 x0 h 18 fun x18 h =>
  vbin .sub 0 x18 (kI 1) h fun x19 h =>
  vop O (.slice 0 true (.k x0) none (some (.k x19)) none) h 20 fun x20 h =>
  R 1 [x20, x1] h))
  (tcomp x0 fun c0 => vfin true q [c0] h)
theorem e89_1 (O : Oracle) (R : Jump) (q : Nat) (x0 x1 : TVal) (h : Heap) : b89_1 O R q x0 x1 h = stepF c89 O R q 1 [x0, x1] h := by kernel_rfl
noncomputable def d89 : BlkF := fun O R q => [.s fun y0 => .s fun y1 => .z fun h => b89_0 O R q y0 y1 h, .s fun y0 => .s fun y1 => .z fun h => b89_1 O R q y0 y1 h]
theorem o89 (O : Oracle) (R : Jump) (q : Nat) : HoldsAll c89 O R q 0 (d89 O R q) := ⟨fun y0 y1 h => e89_0 O R q y0 y1 h, fun y0 y1 h => e89_1 O R q y0 y1 h, trivial⟩
/- strings.trimLeftUnicode -/
def c90 : MFunc := { np := 2, res := [.t 4], frz := true, body := (.seq (.reg [⟨(some 4), (.mv (.k (.v (.c (.p (.str [])))))), none⟩] []) (.seq (.block 0 (.loop 1 [0, 1] (.seq (.seq (.reg [⟨(some 7), (.mv (.t 0)), none⟩, ⟨(some 8), (.len 0 (.t 7)), none⟩, ⟨(some 9), (.bin .gtr 0 (.t 8) (.k (.v (.c (.p (.int .i64 0)))))), none⟩] []) (.cond (.t 9) .skip (.exit 0))) (.block 1 (.seq (.reg [⟨(some 11), (.mv (.t 0)), none⟩, ⟨(some 12), (.call (.k (.v (.c (.func 118 [])))) [(.t 11)]), none⟩, ⟨(some 10), (.mv (.t 12)), none⟩, ⟨(some 13), (.extract (.t 10) 0), none⟩, ⟨(some 14), (.extract (.t 10) 1), none⟩, ⟨(some 5), (.mv (.t 13)), none⟩, ⟨(some 6), (.mv (.t 14)), none⟩] []) (.seq (.seq (.reg [⟨(some 15), (.mv (.t 1)), none⟩, ⟨(some 16), (.mv (.t 5)), none⟩, ⟨(some 17), (.call (.k (.v (.c (.func 119 [])))) [(.t 15), (.t 16)]), none⟩, ⟨(some 18), (.un .not (.t 17)), none⟩] []) (.cond (.t 18) (.exit 0) .skip)) (.reg [⟨(some 19), (.mv (.t 0)), none⟩, ⟨(some 20), (.mv (.t 6)), none⟩, ⟨(some 21), (.slice 0 true (.t 19) (some (.t 20)) none none), none⟩, ⟨(some 0), (.mv (.t 21)), none⟩] []))))))) (.seq (.reg [⟨(some 22), (.mv (.t 0)), none⟩, ⟨(some 4), (.mv (.t 22)), none⟩] []) .ret))) }
theorem t90 : compF Tryd.prog (globs2 tabs opq) false true Tryd.f90 = some c90.erase := by kernel_rfl
noncomputable def b90_0 (O : Oracle) (R : Jump) (q : Nat) (x0 x1 : TVal) (h : Heap) : Res1 :=
  R 1 [x0, x1] h
theorem e90_0 (O : Oracle) (R : Jump) (q : Nat) (x0 x1 : TVal) (h : Heap) : b90_0 O R q x0 x1 h = stepF c90 O R q 0 [x0, x1] h := by kernel_rfl
noncomputable def b90_1 (O : Oracle) (R : Jump) (q : Nat) (x0 x1 : TVal) (h : Heap) : Res1 :=
  vlen O 0 x0 h 8 fun x8 h =>
  vbin .gtr 0 x8 (kI 0) h fun x9 h =>
  vif x9 (
  vcall O (.v (.c (.func 118 []))) [x0] h 12 fun x12 h =>
  vext x12 0 h fun x13 h =>
  vext x12 1 h fun x14 h =>
  vcall O (.v (.c (.func 119 []))) [x1, x13] h 17 fun x17 h =>
  vop O (.un .not (.k x17)) h 18 fun x18 h =>
  vif x18 (
  tcomp x0 fun c0 => vfin true q [c0] h)
  (vop O (.slice 0 true (.k x0) (some (.k x14)) none none) h 21 fun x21 h =>
  R 1 [x21, x1] h))
  (tcomp x0 fun c0 => vfin true q [c0] h)
theorem e90_1 (O : Oracle) (R : Jump) (q : Nat) (x0 x1 : TVal) (h : Heap) : b90_1 O R q x0 x1 h = stepF c90 O R q 1 [x0, x1] h := by kernel_rfl
noncomputable def d90 : BlkF := fun O R q => [.s fun y0 => .s fun y1 => .z fun h => b90_0 O R q y0 y1 h, .s fun y0 => .s fun y1 => .z fun h => b90_1 O R q y0 y1 h]
theorem o90 (O : Oracle) (R : Jump) (q : Nat) : HoldsAll c90 O R q 0 (d90 O R q) := ⟨fun y0 y1 h => e90_0 O R q y0 y1 h, fun y0 y1 h => e90_1 O R q y0 y1 h, trivial⟩
/- strings.trimRightUnicode -/
def c91 : MFunc := { np := 2, res := [.t 4], frz := true, body := (.seq (.reg [⟨(some 4), (.mv (.k (.v (.c (.p (.str [])))))), none⟩] []) (.seq (.block 0 (.loop 1 [0, 1] (.seq (.seq (.reg [⟨(some 7), (.mv (.t 0)), none⟩, ⟨(some 8), (.len 0 (.t 7)), none⟩, ⟨(some 9), (.bin .gtr 0 (.t 8) (.k (.v (.c (.p (.int .i64 0)))))), none⟩] []) (.cond (.t 9) .skip (.exit 0))) (.block 1 (.seq (.reg [⟨(some 10), (.mv (.t 0)), none⟩, ⟨(some 11), (.mv (.t 0)), none⟩, ⟨(some 12), (.len 0 (.t 11)), none⟩, ⟨(some 13), (.bin .sub 0 (.t 12) (.k (.v (.c (.p (.int .i64 1)))))), none⟩, ⟨(some 14), (.index (.t 10) (.t 13)), none⟩, ⟨(some 15), (.toInt .i32 (.t 14)), none⟩, ⟨(some 5), (.mv (.t 15)), none⟩, ⟨(some 6), (.mv (.k (.v (.c (.p (.int .i64 1)))))), none⟩] []) (.seq (.seq (.reg [⟨(some 16), (.mv (.t 5)), none⟩, ⟨(some 17), (.bin .geq 0 (.t 16) (.k (.v (.c (.p (.int .i32 128)))))), none⟩] []) (.cond (.t 17) (.reg [⟨(some 19), (.mv (.t 0)), none⟩, ⟨(some 20), (.call (.k (.v (.c (.func 120 [])))) [(.t 19)]), none⟩, ⟨(some 18), (.mv (.t 20)), none⟩, ⟨(some 21), (.extract (.t 18) 0), none⟩, ⟨(some 22), (.extract (.t 18) 1), none⟩, ⟨(some 5), (.mv (.t 21)), none⟩, ⟨(some 6), (.mv (.t 22)), none⟩] []) .skip)) (.mark 2 [0, 1, 5, 6] (.seq (.seq (.reg [⟨(some 23), (.mv (.t 1)), none⟩, ⟨(some 24), (.mv (.t 5)), none⟩, ⟨(some 25), (.call (.k (.v (.c (.func 119 [])))) [(.t 23), (.t 24)]), none⟩, ⟨(some 26), (.un .not (.t 25)), none⟩] []) (.cond (.t 26) (.exit 0) .skip)) (.reg [⟨(some 27), (.mv (.t 0)), none⟩, ⟨(some 28), (.mv (.t 0)), none⟩, ⟨(some 29), (.len 0 (.t 28)), none⟩, ⟨(some 30), (.mv (.t 6)), none⟩, ⟨(some 31), (.bin .sub 0 (.t 29) (.t 30)), none⟩, ⟨(some 32), (.slice 0 true (.t 27) none (some (.t 31)) none), none⟩, ⟨(some 0), (.mv (.t 32)), none⟩] []))))))))) (.seq (.reg [⟨(some 33), (.mv (.t 0)), none⟩, ⟨(some 4), (.mv (.t 33)), none⟩] []) .ret))) }
theorem t91 : compF Tryd.prog (globs2 tabs opq) false true Tryd.f91 = some c91.erase := by kernel_rfl
noncomputable def b91_0 (O : Oracle) (R : Jump) (q : Nat) (x0 x1 : TVal) (h : Heap) : Res1 :=
  R 1 [x0, x1] h
theorem e91_0 (O : Oracle) (R : Jump) (q : Nat) (x0 x1 : TVal) (h : Heap) : b91_0 O R q x0 x1 h = stepF c91 O R q 0 [x0, x1] h := by kernel_rfl
noncomputable def b91_1 (O : Oracle) (R : Jump) (q : Nat) (x0 x1 : TVal) (h : Heap) : Res1 :=
  vlen O 0 x0 h 8 fun x8 h =>
  vbin .gtr 0 x8 (kI 0) h fun x9 h =>
  vif x9 (
  vlen O 0 x0 h 12 fun x12 h =>
  vbin .sub 0 x12 (kI 1) h fun x13 h =>
  vindex x0 x13 h fun x14 h =>
  vtoInt .i32 x14 h fun x15 h =>
  vbin .geq 0 x15 (.v (.c (.p (.int .i32 128)))) h fun x17 h =>
  vif x17 (
  vcall O (.v (.c (.func 120 []))) [x0] h 20 fun x20 h =>
  vext x20 0 h fun x21 h =>
  vext x20 1 h fun x22 h =>
  R 2 [x0, x1, x21, x22] h)
  (R 2 [x0, x1, x15, (kI 1)] h))
  (tcomp x0 fun c0 => vfin true q [c0] h)
theorem e91_1 (O : Oracle) (R : Jump) (q : Nat) (x0 x1 : TVal) (h : Heap) : b91_1 O R q x0 x1 h = stepF c91 O R q 1 [x0, x1] h := by kernel_rfl
noncomputable def b91_2 (O : Oracle) (R : Jump) (q : Nat) (x0 x1 x5 x6 : TVal) (h : Heap) : Res1 :=
  vcall O (.v (.c (.func 119 []))) [x1, x5] h 25 fun x25 h =>
  vop O (.un .not (.k x25)) h 26 fun x26 h =>
  vif x26 (
  tcomp x0 fun c0 => vfin true q [c0] h)
  (vlen O 0 x0 h 29 fun x29 h =>
  vbin .sub 0 x29 x6 h fun x31 h =>
  vop O (.slice 0 true (.k x0) none (some (.k x31)) none) h 32 fun x32 h =>
  R 1 [x32, x1] h)
theorem e91_2 (O : Oracle) (R : Jump) (q : Nat) (x0 x1 x5 x6 : TVal) (h : Heap) : b91_2 O R q x0 x1 x5 x6 h = stepF c91 O R q 2 [x0, x1, x5, x6] h := by kernel_rfl
noncomputable def d91 : BlkF := fun O R q => [.s fun y0 => .s fun y1 => .z fun h => b91_0 O R q y0 y1 h, .s fun y0 => .s fun y1 => .z fun h => b91_1 O R q y0 y1 h, .s fun y0 => .s fun y1 => .s fun y2 => .s fun y3 => .z fun h => b91_2 O R q y0 y1 y2 y3 h]
theorem o91 (O : Oracle) (R : Jump) (q : Nat) : HoldsAll c91 O R q 0 (d91 O R q) := ⟨fun y0 y1 h => e91_0 O R q y0 y1 h, fun y0 y1 h => e91_1 O R q y0 y1 h, fun y0 y1 y2 y3 h => e91_2 O R q y0 y1 y2 y3 h, trivial⟩
/- sprue/tree.words -/
def c92 : MFunc := { np := 0, res := [.t 0], frz := true, body := (.seq (.reg [⟨(some 0), (.mv (.k (.v (.c (.p .nilslice))))), none⟩] []) (.seq (.reg [⟨(some 1), (.bslice 1 11 [(.p (.str []))] [(0, (.k (.v (.c (.p (.str [105, 102])))))), (1, (.k (.v (.c (.p (.str [119, 105, 116, 104])))))), (2, (.k (.v (.c (.p (.str [114, 97, 110, 103, 101])))))), (3, (.k (.v (.c (.p (.str [109, 97, 116, 99, 104])))))), (4, (.k (.v (.c (.p (.str [101, 108, 115, 101])))))), (5, (.k (.v (.c (.p (.str [101, 110, 100])))))), (6, (.k (.v (.c (.p (.str [99, 97, 115, 101])))))), (7, (.k (.v (.c (.p (.str [116, 101, 109, 112, 108, 97, 116, 101])))))), (8, (.k (.v (.c (.p (.str [100, 101, 102, 105, 110, 101])))))), (9, (.k (.v (.c (.p (.str [116, 114, 117, 101])))))), (10, (.k (.v (.c (.p (.str [102, 97, 108, 115, 101]))))))] false), none⟩, ⟨(some 0), (.mv (.t 1)), none⟩] []) .ret)) }
theorem t92 : compF Tryd.prog (globs2 tabs opq) false true Tryd.f92 = some c92.erase := by kernel_rfl
noncomputable def b92_0 (O : Oracle) (R : Jump) (q : Nat) (h : Heap) : Res1 :=
  vop O (.bslice 1 11 [(.p (.str []))] [(0, (.k (kS [105, 102]))), (1, (.k (kS [119, 105, 116, 104]))), (2, (.k (kS [114, 97, 110, 103, 101]))), (3, (.k (kS [109, 97, 116, 99, 104]))), (4, (.k (kS [101, 108, 115, 101]))), (5, (.k (kS [101, 110, 100]))), (6, (.k (kS [99, 97, 115, 101]))), (7, (.k (kS [116, 101, 109, 112, 108, 97, 116, 101]))), (8, (.k (kS [100, 101, 102, 105, 110, 101]))), (9, (.k (kS [116, 114, 117, 101]))), (10, (.k (kS [102, 97, 108, 115, 101])))] false) h 1 fun x1 h =>
  tcomp x1 fun c0 => vfin true q [c0] h
theorem e92_0 (O : Oracle) (R : Jump) (q : Nat) (h : Heap) : b92_0 O R q  h = stepF c92 O R q 0 [] h := by kernel_rfl
noncomputable def d92 : BlkF := fun O R q => [.z fun h => b92_0 O R q  h]
theorem o92 (O : Oracle) (R : Jump) (q : Nat) : HoldsAll c92 O R q 0 (d92 O R q) := ⟨fun  h => e92_0 O R q  h, trivial⟩
end Go.Proofs.YtegimihckejnkaaDoor.Ab
