/- Functions of the given program as the abstract interpreter has them (part 1), printed by a program of our own; each is shown to be what 'compF' makes of the given program's. No condition. -/
import Derived.Test.YtkkbfljipfndgaaDoorTabC0
namespace Go.Proofs.YtkkbfljipfndgaaDoor.Ab
open Go Go.AI
set_option linter.all false
set_option linter.unusedVariables false
set_option maxRecDepth 100000
/- internal/stringslite.Index -/
def c117 : MFunc := { np := 2, res := [.t 4], frz := true, body := (.seq (.reg [⟨(some 4), (.mv (.k (.v (.c (.p (.int .i64 0)))))), none⟩] []) (.seq (.reg [⟨(some 14), (.mv (.t 1)), none⟩, ⟨(some 15), (.len 0 (.t 14)), none⟩, ⟨(some 5), (.mv (.t 15)), none⟩] []) (.seq (.block 0 (.seq (.reg [⟨(some 17), (.mv (.t 5)), none⟩, ⟨(some 18), (.bin .eql 0 (.t 17) (.k (.v (.c (.p (.int .i64 0)))))), none⟩, ⟨(some 19), (.mv (.t 18)), none⟩, ⟨(some 20), (.mv (.t 1)), (some (19, false))⟩, ⟨(some 21), (.mv (.t 0)), (some (19, false))⟩, ⟨(some 22), (.bin .eql 0 (.t 20) (.t 21)), (some (19, false))⟩, ⟨(some 23), (.pick (.t 19) (.k (.v (.c (.p (.bool true))))) (.t 22)), none⟩, ⟨(some 16), (.mv (.t 23)), none⟩] []) (.cond (.t 16) (.seq (.reg [⟨(some 4), (.mv (.k (.v (.c (.p (.int .i64 0)))))), none⟩] []) .ret) (.seq (.reg [⟨(some 25), (.mv (.t 5)), none⟩, ⟨(some 26), (.bin .eql 0 (.t 25) (.k (.v (.c (.p (.int .i64 1)))))), none⟩, ⟨(some 24), (.mv (.t 26)), none⟩] []) (.cond (.t 24) (.seq (.reg [⟨(some 27), (.mv (.t 0)), none⟩, ⟨(some 28), (.mv (.t 1)), none⟩, ⟨(some 29), (.index (.t 28) (.k (.v (.c (.p (.int .i64 0)))))), none⟩, ⟨(some 30), (.call (.k (.v (.c (.func 123 [])))) [(.t 27), (.t 29)]), none⟩, ⟨(some 4), (.mv (.t 30)), none⟩] []) .ret) (.seq (.reg [⟨(some 32), (.mv (.t 5)), none⟩, ⟨(some 33), (.mv (.t 0)), none⟩, ⟨(some 34), (.len 0 (.t 33)), none⟩, ⟨(some 35), (.bin .geq 0 (.t 32) (.t 34)), none⟩, ⟨(some 31), (.mv (.t 35)), none⟩] []) (.cond (.t 31) (.seq (.reg [⟨(some 4), (.mv (.k (.v (.c (.p (.int .i64 (-1))))))), none⟩] []) .ret) (.seq (.reg [⟨(some 37), (.mv (.t 5)), none⟩, ⟨(some 38), (.load false 1 (.k (.v (.c (.p (.pptr [(.sym .i64 63 (.ofNat 0) (.ofNat 1) (.ofNat 0))] 0)))))), none⟩, ⟨(some 39), (.bin .leq 0 (.t 37) (.t 38)), none⟩, ⟨(some 40), (.mv (.t 39)), none⟩, ⟨(some 41), (.mv (.t 0)), (some (40, true))⟩, ⟨(some 42), (.len 0 (.t 41)), (some (40, true))⟩, ⟨(some 43), (.bin .leq 0 (.t 42) (.k (.v (.c (.p (.int .i64 64)))))), (some (40, true))⟩, ⟨(some 44), (.pick (.t 40) (.t 43) (.k (.v (.c (.p (.bool false)))))), none⟩, ⟨(some 36), (.mv (.t 44)), none⟩] []) (.cond (.t 36) (.seq (.reg [⟨(some 45), (.mv (.t 0)), none⟩, ⟨(some 46), (.mv (.t 1)), none⟩, ⟨(some 47), (.call (.k (.v (.c (.func 124 [])))) [(.t 45), (.t 46)]), none⟩, ⟨(some 4), (.mv (.t 47)), none⟩] []) .ret) .skip))))))))) (.seq (.reg [⟨(some 48), (.mv (.t 1)), none⟩, ⟨(some 49), (.index (.t 48) (.k (.v (.c (.p (.int .i64 0)))))), none⟩, ⟨(some 6), (.mv (.t 49)), none⟩] []) (.seq (.reg [⟨(some 50), (.mv (.t 1)), none⟩, ⟨(some 51), (.index (.t 50) (.k (.v (.c (.p (.int .i64 1)))))), none⟩, ⟨(some 7), (.mv (.t 51)), none⟩] []) (.seq (.reg [⟨(some 8), (.mv (.k (.v (.c (.p (.int .i64 0)))))), none⟩] []) (.seq (.reg [⟨(some 52), (.mv (.t 0)), none⟩, ⟨(some 53), (.len 0 (.t 52)), none⟩, ⟨(some 54), (.mv (.t 5)), none⟩, ⟨(some 55), (.bin .sub 0 (.t 53) (.t 54)), none⟩, ⟨(some 56), (.bin .add 0 (.t 55) (.k (.v (.c (.p (.int .i64 1)))))), none⟩, ⟨(some 9), (.mv (.t 56)), none⟩] []) (.seq (.reg [⟨(some 10), (.mv (.k (.v (.c (.p (.int .i64 0)))))), none⟩] []) (.seq (.block 1 (.loop 1 [0, 1, 5, 6, 7, 8, 9, 10] (.seq (.seq (.reg [⟨(some 57), (.mv (.t 8)), none⟩, ⟨(some 58), (.mv (.t 9)), none⟩, ⟨(some 59), (.bin .lss 0 (.t 57) (.t 58)), none⟩] []) (.cond (.t 59) .skip (.exit 1))) (.block 2 (.seq (.seq (.reg [⟨(some 60), (.mv (.t 0)), none⟩, ⟨(some 61), (.mv (.t 8)), none⟩, ⟨(some 62), (.index (.t 60) (.t 61)), none⟩, ⟨(some 63), (.mv (.t 6)), none⟩, ⟨(some 64), (.bin .neq 0 (.t 62) (.t 63)), none⟩] []) (.cond (.t 64) (.seq (.reg [⟨(some 65), (.mv (.t 0)), none⟩, ⟨(some 66), (.mv (.t 8)), none⟩, ⟨(some 67), (.bin .add 0 (.t 66) (.k (.v (.c (.p (.int .i64 1)))))), none⟩, ⟨(some 68), (.mv (.t 9)), none⟩, ⟨(some 69), (.slice 0 true (.t 65) (some (.t 67)) (some (.t 68)) none), none⟩, ⟨(some 70), (.mv (.t 6)), none⟩, ⟨(some 71), (.call (.k (.v (.c (.func 123 [])))) [(.t 69), (.t 70)]), none⟩, ⟨(some 11), (.mv (.t 71)), none⟩] []) (.seq (.seq (.reg [⟨(some 72), (.mv (.t 11)), none⟩, ⟨(some 73), (.bin .lss 0 (.t 72) (.k (.v (.c (.p (.int .i64 0)))))), none⟩] []) (.cond (.t 73) (.seq (.reg [⟨(some 4), (.mv (.k (.v (.c (.p (.int .i64 (-1))))))), none⟩] []) .ret) .skip)) (.reg [⟨(some 74), (.mv (.t 8)), none⟩, ⟨(some 75), (.mv (.t 11)), none⟩, ⟨(some 76), (.bin .add 0 (.t 75) (.k (.v (.c (.p (.int .i64 1)))))), none⟩, ⟨(some 77), (.bin .add 0 (.t 74) (.t 76)), none⟩, ⟨(some 8), (.mv (.t 77)), none⟩] []))) .skip)) (.mark 2 [0, 1, 5, 6, 7, 8, 9, 10] (.seq (.seq (.reg [⟨(some 78), (.mv (.t 0)), none⟩, ⟨(some 79), (.mv (.t 8)), none⟩, ⟨(some 80), (.bin .add 0 (.t 79) (.k (.v (.c (.p (.int .i64 1)))))), none⟩, ⟨(some 81), (.index (.t 78) (.t 80)), none⟩, ⟨(some 82), (.mv (.t 7)), none⟩, ⟨(some 83), (.bin .eql 0 (.t 81) (.t 82)), none⟩, ⟨(some 84), (.mv (.t 83)), none⟩, ⟨(some 85), (.mv (.t 0)), (some (84, true))⟩, ⟨(some 86), (.mv (.t 8)), (some (84, true))⟩, ⟨(some 87), (.mv (.t 8)), (some (84, true))⟩, ⟨(some 88), (.mv (.t 5)), (some (84, true))⟩, ⟨(some 89), (.bin .add 0 (.t 87) (.t 88)), (some (84, true))⟩, ⟨(some 90), (.slice 0 true (.t 85) (some (.t 86)) (some (.t 89)) none), (some (84, true))⟩, ⟨(some 91), (.mv (.t 1)), (some (84, true))⟩, ⟨(some 92), (.bin .eql 0 (.t 90) (.t 91)), (some (84, true))⟩, ⟨(some 93), (.pick (.t 84) (.t 92) (.k (.v (.c (.p (.bool false)))))), none⟩] []) (.cond (.t 93) (.seq (.reg [⟨(some 94), (.mv (.t 8)), none⟩, ⟨(some 4), (.mv (.t 94)), none⟩] []) .ret) .skip)) (.seq (.reg [⟨(some 95), (.mv (.t 8)), none⟩, ⟨(some 96), (.bin .add 0 (.t 95) (.k (.v (.c (.p (.int .i64 1)))))), none⟩, ⟨(some 8), (.mv (.t 96)), none⟩] []) (.seq (.reg [⟨(some 97), (.mv (.t 10)), none⟩, ⟨(some 98), (.bin .add 0 (.t 97) (.k (.v (.c (.p (.int .i64 1)))))), none⟩, ⟨(some 10), (.mv (.t 98)), none⟩] []) (.seq (.reg [⟨(some 99), (.mv (.t 5)), none⟩, ⟨(some 100), (.load false 1 (.k (.v (.c (.p (.pptr [(.sym .i64 63 (.ofNat 0) (.ofNat 1) (.ofNat 0))] 0)))))), none⟩, ⟨(some 101), (.bin .leq 0 (.t 99) (.t 100)), none⟩, ⟨(some 102), (.mv (.t 101)), none⟩, ⟨(some 103), (.mv (.t 10)), (some (102, true))⟩, ⟨(some 104), (.mv (.t 8)), (some (102, true))⟩, ⟨(some 105), (.call (.k (.v (.c (.func 125 [])))) [(.t 104)]), (some (102, true))⟩, ⟨(some 106), (.bin .gtr 0 (.t 103) (.t 105)), (some (102, true))⟩, ⟨(some 107), (.pick (.t 102) (.t 106) (.k (.v (.c (.p (.bool false)))))), none⟩] []) (.cond (.t 107) (.seq (.reg [⟨(some 108), (.mv (.t 0)), none⟩, ⟨(some 109), (.mv (.t 8)), none⟩, ⟨(some 110), (.slice 0 true (.t 108) (some (.t 109)) none none), none⟩, ⟨(some 111), (.mv (.t 1)), none⟩, ⟨(some 112), (.call (.k (.v (.c (.func 124 [])))) [(.t 110), (.t 111)]), none⟩, ⟨(some 12), (.mv (.t 112)), none⟩] []) (.seq (.seq (.reg [⟨(some 113), (.mv (.t 12)), none⟩, ⟨(some 114), (.bin .geq 0 (.t 113) (.k (.v (.c (.p (.int .i64 0)))))), none⟩] []) (.cond (.t 114) (.seq (.reg [⟨(some 115), (.mv (.t 12)), none⟩, ⟨(some 116), (.mv (.t 8)), none⟩, ⟨(some 117), (.bin .add 0 (.t 115) (.t 116)), none⟩, ⟨(some 4), (.mv (.t 117)), none⟩] []) .ret) .skip)) (.seq (.reg [⟨(some 4), (.mv (.k (.v (.c (.p (.int .i64 (-1))))))), none⟩] []) .ret))) (.seq (.reg [⟨(some 118), (.mv (.t 5)), none⟩, ⟨(some 119), (.load false 1 (.k (.v (.c (.p (.pptr [(.sym .i64 63 (.ofNat 0) (.ofNat 1) (.ofNat 0))] 0)))))), none⟩, ⟨(some 120), (.bin .gtr 0 (.t 118) (.t 119)), none⟩, ⟨(some 121), (.mv (.t 120)), none⟩, ⟨(some 122), (.mv (.t 10)), (some (121, true))⟩, ⟨(some 123), (.mv (.t 8)), (some (121, true))⟩, ⟨(some 124), (.bin .shr 0 (.t 123) (.k (.v (.c (.p (.int .u64 4)))))), (some (121, true))⟩, ⟨(some 125), (.bin .add 0 (.k (.v (.c (.p (.int .i64 4))))) (.t 124)), (some (121, true))⟩, ⟨(some 126), (.bin .geq 0 (.t 122) (.t 125)), (some (121, true))⟩, ⟨(some 127), (.pick (.t 121) (.t 126) (.k (.v (.c (.p (.bool false)))))), none⟩, ⟨(some 128), (.mv (.t 127)), none⟩, ⟨(some 129), (.mv (.t 8)), (some (128, true))⟩, ⟨(some 130), (.mv (.t 9)), (some (128, true))⟩, ⟨(some 131), (.bin .lss 0 (.t 129) (.t 130)), (some (128, true))⟩, ⟨(some 132), (.pick (.t 128) (.t 131) (.k (.v (.c (.p (.bool false)))))), none⟩] []) (.cond (.t 132) (.seq (.reg [⟨(some 133), (.mv (.t 0)), none⟩, ⟨(some 134), (.mv (.t 8)), none⟩, ⟨(some 135), (.slice 0 true (.t 133) (some (.t 134)) none none), none⟩, ⟨(some 136), (.mv (.t 1)), none⟩, ⟨(some 137), (.call (.k (.v (.c (.func 126 [])))) [(.t 135), (.t 136)]), none⟩, ⟨(some 13), (.mv (.t 137)), none⟩] []) (.seq (.seq (.reg [⟨(some 138), (.mv (.t 13)), none⟩, ⟨(some 139), (.bin .lss 0 (.t 138) (.k (.v (.c (.p (.int .i64 0)))))), none⟩] []) (.cond (.t 139) (.seq (.reg [⟨(some 4), (.mv (.k (.v (.c (.p (.int .i64 (-1))))))), none⟩] []) .ret) .skip)) (.seq (.reg [⟨(some 140), (.mv (.t 8)), none⟩, ⟨(some 141), (.mv (.t 13)), none⟩, ⟨(some 142), (.bin .add 0 (.t 140) (.t 141)), none⟩, ⟨(some 4), (.mv (.t 142)), none⟩] []) .ret))) .skip))))))))))))) (.seq (.reg [⟨(some 4), (.mv (.k (.v (.c (.p (.int .i64 (-1))))))), none⟩] []) .ret)))))))))) }
theorem t117 : compF Tryd.prog (globs2 tabs opq) false true Tryd.f117 = some c117.erase := by kernel_rfl
noncomputable def b117_0 (O : Oracle) (R : Jump) (q : Nat) (x0 x1 : TVal) (h : Heap) : Res1 :=
  vlen O 0 x1 h 15 fun x15 h =>
  vbin .eql 0 x15 (kI 0) h fun x18 h =>
  vguard x18 false (fun kk => kk x1 h) h fun x20 h =>
  vguard x18 false (fun kk => kk x0 h) h fun x21 h =>
  vguard x18 false (fun kk => vbin .eql 0 x20 x21 h kk) h fun x22 h =>
  vop O (.pick (.k x18) (.k (kB true)) (.k x22)) h 23 fun x23 h =>
  vif x23 (
  tcomp (kI 0) fun c0 => vfin true q [c0] h)
  (vbin .eql 0 x15 (kI 1) h fun x26 h =>
  vif x26 (
  vindex x1 (kI 0) h fun x29 h =>
  vcall O (.v (.c (.func 123 []))) [x0, x29] h 30 fun x30 h =>
  tcomp x30 fun c0 => vfin true q [c0] h)
  (vlen O 0 x0 h 34 fun x34 h =>
  vbin .geq 0 x15 x34 h fun x35 h =>
  vif x35 (
  tcomp (kI (-1)) fun c0 => vfin true q [c0] h)
  (vload false 1 (.v (.c (.p (.pptr [(.sym .i64 63 (.ofNat 0) (.ofNat 1) (.ofNat 0))] 0)))) h fun x38 h =>
  vbin .leq 0 x15 x38 h fun x39 h =>
  vguard x39 true (fun kk => kk x0 h) h fun x41 h =>
  vguard x39 true (fun kk => vlen O 0 x41 h 42 kk) h fun x42 h =>
  vguard x39 true (fun kk => vbin .leq 0 x42 (kI 64) h kk) h fun x43 h =>
  vop O (.pick (.k x39) (.k x43) (.k (kB false))) h 44 fun x44 h =>
  vif x44 (
  vcall O (.v (.c (.func 124 []))) [x0, x1] h 47 fun x47 h =>
  tcomp x47 fun c0 => vfin true q [c0] h)
  (vindex x1 (kI 0) h fun x49 h =>
  vindex x1 (kI 1) h fun x51 h =>
  vlen O 0 x0 h 53 fun x53 h =>
  vbin .sub 0 x53 x15 h fun x55 h =>
  vbin .add 0 x55 (kI 1) h fun x56 h =>
  R 1 [x0, x1, x15, x49, x51, (kI 0), x56, (kI 0)] h))))
theorem e117_0 (O : Oracle) (R : Jump) (q : Nat) (x0 x1 : TVal) (h : Heap) : b117_0 O R q x0 x1 h = stepF c117 O R q 0 [x0, x1] h := by kernel_rfl
noncomputable def b117_1 (O : Oracle) (R : Jump) (q : Nat) (x0 x1 x5 x6 x7 x8 x9 x10 : TVal) (h : Heap) : Res1 :=
  vbin .lss 0 x8 x9 h fun x59 h =>
  vif x59 (
  vindex x0 x8 h fun x62 h =>
  vbin .neq 0 x62 x6 h fun x64 h =>
  vif x64 (
  vbin .add 0 x8 (kI 1) h fun x67 h =>
  vop O (.slice 0 true (.k x0) (some (.k x67)) (some (.k x9)) none) h 69 fun x69 h =>
  vcall O (.v (.c (.func 123 []))) [x69, x6] h 71 fun x71 h =>
  vbin .lss 0 x71 (kI 0) h fun x73 h =>
  vif x73 (
  tcomp (kI (-1)) fun c0 => vfin true q [c0] h)
  (vbin .add 0 x71 (kI 1) h fun x76 h =>
  vbin .add 0 x8 x76 h fun x77 h =>
  R 2 [x0, x1, x5, x6, x7, x77, x9, x10] h))
  (R 2 [x0, x1, x5, x6, x7, x8, x9, x10] h))
  (tcomp (kI (-1)) fun c0 => vfin true q [c0] h)
theorem e117_1 (O : Oracle) (R : Jump) (q : Nat) (x0 x1 x5 x6 x7 x8 x9 x10 : TVal) (h : Heap) : b117_1 O R q x0 x1 x5 x6 x7 x8 x9 x10 h = stepF c117 O R q 1 [x0, x1, x5, x6, x7, x8, x9, x10] h := by kernel_rfl
noncomputable def b117_2 (O : Oracle) (R : Jump) (q : Nat) (x0 x1 x5 x6 x7 x8 x9 x10 : TVal) (h : Heap) : Res1 :=
  vbin .add 0 x8 (kI 1) h fun x80 h =>
  vindex x0 x80 h fun x81 h =>
  vbin .eql 0 x81 x7 h fun x83 h =>
  vguard x83 true (fun kk => kk x0 h) h fun x85 h =>
  vguard x83 true (fun kk => kk x8 h) h fun x86 h =>
  vguard x83 true (fun kk => kk x8 h) h fun x87 h =>
  vguard x83 true (fun kk => kk x5 h) h fun x88 h =>
  vguard x83 true (fun kk => vbin .add 0 x87 x88 h kk) h fun x89 h =>
  vguard x83 true (fun kk => vop O (.slice 0 true (.k x85) (some (.k x86)) (some (.k x89)) none) h 90 kk) h fun x90 h =>
  vguard x83 true (fun kk => kk x1 h) h fun x91 h =>
  vguard x83 true (fun kk => vbin .eql 0 x90 x91 h kk) h fun x92 h =>
  vop O (.pick (.k x83) (.k x92) (.k (kB false))) h 93 fun x93 h =>
  vif x93 (
  tcomp x8 fun c0 => vfin true q [c0] h)
  (vbin .add 0 x8 (kI 1) h fun x96 h =>
  vbin .add 0 x10 (kI 1) h fun x98 h =>
  vload false 1 (.v (.c (.p (.pptr [(.sym .i64 63 (.ofNat 0) (.ofNat 1) (.ofNat 0))] 0)))) h fun x100 h =>
  vbin .leq 0 x5 x100 h fun x101 h =>
  vguard x101 true (fun kk => kk x98 h) h fun x103 h =>
  vguard x101 true (fun kk => kk x96 h) h fun x104 h =>
  vguard x101 true (fun kk => vcall O (.v (.c (.func 125 []))) [x104] h 105 kk) h fun x105 h =>
  vguard x101 true (fun kk => vbin .gtr 0 x103 x105 h kk) h fun x106 h =>
  vop O (.pick (.k x101) (.k x106) (.k (kB false))) h 107 fun x107 h =>
  vif x107 (
  vop O (.slice 0 true (.k x0) (some (.k x96)) none none) h 110 fun x110 h =>
  vcall O (.v (.c (.func 124 []))) [x110, x1] h 112 fun x112 h =>
  vbin .geq 0 x112 (kI 0) h fun x114 h =>
  vif x114 (
  vbin .add 0 x112 x96 h fun x117 h =>
  tcomp x117 fun c0 => vfin true q [c0] h)
  (tcomp (kI (-1)) fun c0 => vfin true q [c0] h))
  (vload false 1 (.v (.c (.p (.pptr [(.sym .i64 63 (.ofNat 0) (.ofNat 1) (.ofNat 0))] 0)))) h fun x119 h =>
  vbin .gtr 0 x5 x119 h fun x120 h =>
  vguard x120 true (fun kk => kk x98 h) h fun x122 h =>
  vguard x120 true (fun kk => kk x96 h) h fun x123 h =>
  vguard x120 true (fun kk => vbin .shr 0 x123 (.v (.c (.p (.int .u64 4)))) h kk) h fun x124 h =>
  vguard x120 true (fun kk => vbin .add 0 (kI 4) x124 h kk) h fun x125 h =>
  vguard x120 true (fun kk => vbin .geq 0 x122 x125 h kk) h fun x126 h =>
  vop O (.pick (.k x120) (.k x126) (.k (kB false))) h 127 fun x127 h =>
  vguard x127 true (fun kk => kk x96 h) h fun x129 h =>
  vguard x127 true (fun kk => kk x9 h) h fun x130 h =>
  vguard x127 true (fun kk => vbin .lss 0 x129 x130 h kk) h fun x131 h =>
  vop O (.pick (.k x127) (.k x131) (.k (kB false))) h 132 fun x132 h =>
  vif x132 (
  vop O (.slice 0 true (.k x0) (some (.k x96)) none none) h 135 fun x135 h =>
  vcall O (.v (.c (.func 126 []))) [x135, x1] h 137 fun x137 h =>
  vbin .lss 0 x137 (kI 0) h fun x139 h =>
  vif x139 (
  tcomp (kI (-1)) fun c0 => vfin true q [c0] h)
  (vbin .add 0 x96 x137 h fun x142 h =>
  tcomp x142 fun c0 => vfin true q [c0] h))
  (R 1 [x0, x1, x5, x6, x7, x96, x9, x98] h)))
theorem e117_2 (O : Oracle) (R : Jump) (q : Nat) (x0 x1 x5 x6 x7 x8 x9 x10 : TVal) (h : Heap) : b117_2 O R q x0 x1 x5 x6 x7 x8 x9 x10 h = stepF c117 O R q 2 [x0, x1, x5, x6, x7, x8, x9, x10] h := by kernel_rfl
noncomputable def d117 : BlkF := fun O R q => [.s fun y0 => .s fun y1 => .z fun h => b117_0 O R q y0 y1 h, .s fun y0 => .s fun y1 => .s fun y2 => .s fun y3 => .s fun y4 => .s fun y5 => .s fun y6 => .s fun y7 => .z fun h => b117_1 O R q y0 y1 y2 y3 y4 y5 y6 y7 h, .s fun y0 => .s fun y1 => .s fun y2 => .s fun y3 => .s fun y4 => .s fun y5 => .s fun y6 => .s fun y7 => .z fun h => b117_2 O R q y0 y1 y2 y3 y4 y5 y6 y7 h]
theorem o117 (O : Oracle) (R : Jump) (q : Nat) : HoldsAll c117 O R q 0 (d117 O R q) := ⟨fun y0 y1 h => e117_0 O R q y0 y1 h, fun y0 y1 y2 y3 y4 y5 y6 y7 h => e117_1 O R q y0 y1 y2 y3 y4 y5 y6 y7 h, fun y0 y1 y2 y3 y4 y5 y6 y7 h => e117_2 O R q y0 y1 y2 y3 y4 y5 y6 y7 h, trivial⟩
/- internal/strconv.small -/
def c118 : MFunc := { np := 1, res := [.t 2], frz := true, body := (.seq (.reg [⟨(some 2), (.mv (.k (.v (.c (.p (.str [])))))), none⟩] []) (.seq (.seq (.reg [⟨(some 3), (.mv (.t 0)), none⟩, ⟨(some 4), (.bin .lss 0 (.t 3) (.k (.v (.c (.p (.int .i64 10)))))), none⟩] []) (.cond (.t 4) (.seq (.reg [⟨(some 5), (.mv (.t 0)), none⟩, ⟨(some 6), (.mv (.t 0)), none⟩, ⟨(some 7), (.bin .add 0 (.t 6) (.k (.v (.c (.p (.int .i64 1)))))), none⟩, ⟨(some 8), (.slice 0 true (.k (.v (.c (.p (.str [48, 49, 50, 51, 52, 53, 54, 55, 56, 57, 97, 98, 99, 100, 101, 102, 103, 104, 105, 106, 107, 108, 109, 110, 111, 112, 113, 114, 115, 116, 117, 118, 119, 120, 121, 122]))))) (some (.t 5)) (some (.t 7)) none), none⟩, ⟨(some 2), (.mv (.t 8)), none⟩] []) .ret) .skip)) (.seq (.reg [⟨(some 9), (.mv (.t 0)), none⟩, ⟨(some 10), (.bin .mul 0 (.t 9) (.k (.v (.c (.p (.int .i64 2)))))), none⟩, ⟨(some 11), (.mv (.t 0)), none⟩, ⟨(some 12), (.bin .mul 0 (.t 11) (.k (.v (.c (.p (.int .i64 2)))))), none⟩, ⟨(some 13), (.bin .add 0 (.t 12) (.k (.v (.c (.p (.int .i64 2)))))), none⟩, ⟨(some 14), (.slice 0 true (.k (.v (.c (.p (.str [48, 48, 48, 49, 48, 50, 48, 51, 48, 52, 48, 53, 48, 54, 48, 55, 48, 56, 48, 57, 49, 48, 49, 49, 49, 50, 49, 51, 49, 52, 49, 53, 49, 54, 49, 55, 49, 56, 49, 57, 50, 48, 50, 49, 50, 50, 50, 51, 50, 52, 50, 53, 50, 54, 50, 55, 50, 56, 50, 57, 51, 48, 51, 49, 51, 50, 51, 51, 51, 52, 51, 53, 51, 54, 51, 55, 51, 56, 51, 57, 52, 48, 52, 49, 52, 50, 52, 51, 52, 52, 52, 53, 52, 54, 52, 55, 52, 56, 52, 57, 53, 48, 53, 49, 53, 50, 53, 51, 53, 52, 53, 53, 53, 54, 53, 55, 53, 56, 53, 57, 54, 48, 54, 49, 54, 50, 54, 51, 54, 52, 54, 53, 54, 54, 54, 55, 54, 56, 54, 57, 55, 48, 55, 49, 55, 50, 55, 51, 55, 52, 55, 53, 55, 54, 55, 55, 55, 56, 55, 57, 56, 48, 56, 49, 56, 50, 56, 51, 56, 52, 56, 53, 56, 54, 56, 55, 56, 56, 56, 57, 57, 48, 57, 49, 57, 50, 57, 51, 57, 52, 57, 53, 57, 54, 57, 55, 57, 56, 57, 57]))))) (some (.t 10)) (some (.t 13)) none), none⟩, ⟨(some 2), (.mv (.t 14)), none⟩] []) .ret))) }
theorem t118 : compF Tryd.prog (globs2 tabs opq) false true Tryd.f118 = some c118.erase := by kernel_rfl
noncomputable def b118_0 (O : Oracle) (R : Jump) (q : Nat) (x0 : TVal) (h : Heap) : Res1 :=
  vbin .lss 0 x0 (kI 10) h fun x4 h =>
  vif x4 (
  vbin .add 0 x0 (kI 1) h fun x7 h =>
  vop O (.slice 0 true (.k (kS [48, 49, 50, 51, 52, 53, 54, 55, 56, 57, 97, 98, 99, 100, 101, 102, 103, 104, 105, 106, 107, 108, 109, 110, 111, 112, 113, 114, 115, 116, 117, 118, 119, 120, 121, 122])) (some (.k x0)) (some (.k x7)) none) h 8 fun x8 h =>
  tcomp x8 fun c0 => vfin true q [c0] h)
  (vbin .mul 0 x0 (kI 2) h fun x10 h =>
  vbin .mul 0 x0 (kI 2) h fun x12 h =>
  vbin .add 0 x12 (kI 2) h fun x13 h =>
  vop O (.slice 0 true (.k (kS [48, 48, 48, 49, 48, 50, 48, 51, 48, 52, 48, 53, 48, 54, 48, 55, 48, 56, 48, 57, 49, 48, 49, 49, 49, 50, 49, 51, 49, 52, 49, 53, 49, 54, 49, 55, 49, 56, 49, 57, 50, 48, 50, 49, 50, 50, 50, 51, 50, 52, 50, 53, 50, 54, 50, 55, 50, 56, 50, 57, 51, 48, 51, 49, 51, 50, 51, 51, 51, 52, 51, 53, 51, 54, 51, 55, 51, 56, 51, 57, 52, 48, 52, 49, 52, 50, 52, 51, 52, 52, 52, 53, 52, 54, 52, 55, 52, 56, 52, 57, 53, 48, 53, 49, 53, 50, 53, 51, 53, 52, 53, 53, 53, 54, 53, 55, 53, 56, 53, 57, 54, 48, 54, 49, 54, 50, 54, 51, 54, 52, 54, 53, 54, 54, 54, 55, 54, 56, 54, 57, 55, 48, 55, 49, 55, 50, 55, 51, 55, 52, 55, 53, 55, 54, 55, 55, 55, 56, 55, 57, 56, 48, 56, 49, 56, 50, 56, 51, 56, 52, 56, 53, 56, 54, 56, 55, 56, 56, 56, 57, 57, 48, 57, 49, 57, 50, 57, 51, 57, 52, 57, 53, 57, 54, 57, 55, 57, 56, 57, 57])) (some (.k x10)) (some (.k x13)) none) h 14 fun x14 h =>
  tcomp x14 fun c0 => vfin true q [c0] h)
theorem e118_0 (O : Oracle) (R : Jump) (q : Nat) (x0 : TVal) (h : Heap) : b118_0 O R q x0 h = stepF c118 O R q 0 [x0] h := by kernel_rfl
noncomputable def d118 : BlkF := fun O R q => [.s fun y0 => .z fun h => b118_0 O R q y0 h]
theorem o118 (O : Oracle) (R : Jump) (q : Nat) : HoldsAll c118 O R q 0 (d118 O R q) := ⟨fun y0 h => e118_0 O R q y0 h, trivial⟩
/- internal/strconv.numDigits -/
def c119 : MFunc := { np := 1, res := [.t 2], frz := true, body := (.seq (.reg [⟨(some 2), (.mv (.k (.v (.c (.p (.int .i64 0)))))), none⟩] []) (.seq (.reg [⟨(some 4), (.mv (.t 0)), none⟩, ⟨(some 5), (.call (.k (.v (.c (.func 128 [])))) [(.t 4)]), none⟩, ⟨(some 6), (.call (.k (.v (.c (.func 127 [])))) [(.t 5)]), none⟩, ⟨(some 3), (.mv (.t 6)), none⟩] []) (.seq (.reg [⟨(some 7), (.mv (.t 3)), none⟩, ⟨(some 8), (.mv (.t 0)), none⟩, ⟨(some 9), (.mv (.t 3)), none⟩, ⟨(some 10), .bad, none⟩, ⟨(some 11), (.load false 1 (.t 10)), none⟩, ⟨(some 12), (.bin .geq 0 (.t 8) (.t 11)), none⟩, ⟨(some 13), (.call (.k (.v (.c (.func 129 [])))) [(.t 12)]), none⟩, ⟨(some 14), (.bin .add 0 (.t 7) (.t 13)), none⟩, ⟨(some 2), (.mv (.t 14)), none⟩] []) .ret))) }
theorem t119 : compF Tryd.prog (globs2 tabs opq) false true Tryd.f119 = some c119.erase := by kernel_rfl
noncomputable def b119_0 (O : Oracle) (R : Jump) (q : Nat) (x0 : TVal) (h : Heap) : Res1 :=
  vcall O (.v (.c (.func 128 []))) [x0] h 5 fun x5 h =>
  vcall O (.v (.c (.func 127 []))) [x5] h 6 fun x6 h =>
  none
theorem e119_0 (O : Oracle) (R : Jump) (q : Nat) (x0 : TVal) (h : Heap) : b119_0 O R q x0 h = stepF c119 O R q 0 [x0] h := by kernel_rfl
noncomputable def d119 : BlkF := fun O R q => [.s fun y0 => .z fun h => b119_0 O R q y0 h]
theorem o119 (O : Oracle) (R : Jump) (q : Nat) : HoldsAll c119 O R q 0 (d119 O R q) := ⟨fun y0 h => e119_0 O R q y0 h, trivial⟩
/- internal/strconv.formatBase10 -/
def c120 : MFunc := { np := 2, res := [], frz := true, body := (.seq (.reg [⟨(some 17), (.mv (.t 0)), none⟩, ⟨(some 18), (.len 2 (.t 17)), none⟩, ⟨(some 4), (.mv (.t 18)), none⟩] []) (.seq (.block 0 (.loop 1 [0, 1, 4] (.seq (.seq (.reg [⟨(some 19), (.mv (.t 4)), none⟩, ⟨(some 20), (.bin .geq 0 (.t 19) (.k (.v (.c (.p (.int .i64 8)))))), none⟩] []) (.cond (.t 20) .skip (.exit 0))) (.block 1 (.seq (.reg [⟨(some 21), (.mv (.t 1)), none⟩, ⟨(some 22), (.bin .rem 0 (.t 21) (.k (.v (.c (.p (.int .u64 100000000)))))), none⟩, ⟨(some 23), (.toInt .u32 (.t 22)), none⟩, ⟨(some 5), (.mv (.t 23)), none⟩] []) (.seq (.reg [⟨(some 24), (.mv (.t 1)), none⟩, ⟨(some 25), (.bin .quo 0 (.t 24) (.k (.v (.c (.p (.int .u64 100000000)))))), none⟩, ⟨(some 1), (.mv (.t 25)), none⟩] []) (.seq (.reg [⟨(some 26), (.mv (.t 5)), none⟩, ⟨(some 27), (.bin .quo 0 (.t 26) (.k (.v (.c (.p (.int .u32 10000)))))), none⟩, ⟨(some 28), (.mv (.t 5)), none⟩, ⟨(some 29), (.bin .rem 0 (.t 28) (.k (.v (.c (.p (.int .u32 10000)))))), none⟩, ⟨(some 6), (.mv (.t 27)), none⟩, ⟨(some 7), (.mv (.t 29)), none⟩] []) (.seq (.reg [⟨(some 30), (.mv (.t 7)), none⟩, ⟨(some 31), (.bin .quo 0 (.t 30) (.k (.v (.c (.p (.int .u32 100)))))), none⟩, ⟨(some 32), (.bin .mul 0 (.t 31) (.k (.v (.c (.p (.int .u32 2)))))), none⟩, ⟨(some 33), (.mv (.t 7)), none⟩, ⟨(some 34), (.bin .rem 0 (.t 33) (.k (.v (.c (.p (.int .u32 100)))))), none⟩, ⟨(some 35), (.bin .mul 0 (.t 34) (.k (.v (.c (.p (.int .u32 2)))))), none⟩, ⟨(some 8), (.mv (.t 32)), none⟩, ⟨(some 9), (.mv (.t 35)), none⟩] []) (.seq (.reg [⟨(some 36), (.mv (.t 6)), none⟩, ⟨(some 37), (.bin .quo 0 (.t 36) (.k (.v (.c (.p (.int .u32 100)))))), none⟩, ⟨(some 38), (.bin .mul 0 (.t 37) (.k (.v (.c (.p (.int .u32 2)))))), none⟩, ⟨(some 39), (.mv (.t 6)), none⟩, ⟨(some 40), (.bin .rem 0 (.t 39) (.k (.v (.c (.p (.int .u32 100)))))), none⟩, ⟨(some 41), (.bin .mul 0 (.t 40) (.k (.v (.c (.p (.int .u32 2)))))), none⟩, ⟨(some 10), (.mv (.t 38)), none⟩, ⟨(some 11), (.mv (.t 41)), none⟩] []) (.seq (.reg [⟨(some 42), (.mv (.t 0)), none⟩, ⟨(some 43), (.mv (.t 4)), none⟩, ⟨(some 44), (.bin .sub 0 (.t 43) (.k (.v (.c (.p (.int .i64 1)))))), none⟩, ⟨(some 45), (.mv (.t 0)), none⟩, ⟨(some 46), (.mv (.t 4)), none⟩, ⟨(some 47), (.bin .sub 0 (.t 46) (.k (.v (.c (.p (.int .i64 2)))))), none⟩, ⟨(some 48), (.mv (.t 9)), none⟩, ⟨(some 49), (.bin .add 0 (.t 48) (.k (.v (.c (.p (.int .u32 1)))))), none⟩, ⟨(some 50), (.index (.k (.v (.c (.p (.str [48, 48, 48, 49, 48, 50, 48, 51, 48, 52, 48, 53, 48, 54, 48, 55, 48, 56, 48, 57, 49, 48, 49, 49, 49, 50, 49, 51, 49, 52, 49, 53, 49, 54, 49, 55, 49, 56, 49, 57, 50, 48, 50, 49, 50, 50, 50, 51, 50, 52, 50, 53, 50, 54, 50, 55, 50, 56, 50, 57, 51, 48, 51, 49, 51, 50, 51, 51, 51, 52, 51, 53, 51, 54, 51, 55, 51, 56, 51, 57, 52, 48, 52, 49, 52, 50, 52, 51, 52, 52, 52, 53, 52, 54, 52, 55, 52, 56, 52, 57, 53, 48, 53, 49, 53, 50, 53, 51, 53, 52, 53, 53, 53, 54, 53, 55, 53, 56, 53, 57, 54, 48, 54, 49, 54, 50, 54, 51, 54, 52, 54, 53, 54, 54, 54, 55, 54, 56, 54, 57, 55, 48, 55, 49, 55, 50, 55, 51, 55, 52, 55, 53, 55, 54, 55, 55, 55, 56, 55, 57, 56, 48, 56, 49, 56, 50, 56, 51, 56, 52, 56, 53, 56, 54, 56, 55, 56, 56, 56, 57, 57, 48, 57, 49, 57, 50, 57, 51, 57, 52, 57, 53, 57, 54, 57, 55, 57, 56, 57, 57]))))) (.t 49)), none⟩, ⟨(some 51), (.mv (.t 9)), none⟩, ⟨(some 52), (.index (.k (.v (.c (.p (.str [48, 48, 48, 49, 48, 50, 48, 51, 48, 52, 48, 53, 48, 54, 48, 55, 48, 56, 48, 57, 49, 48, 49, 49, 49, 50, 49, 51, 49, 52, 49, 53, 49, 54, 49, 55, 49, 56, 49, 57, 50, 48, 50, 49, 50, 50, 50, 51, 50, 52, 50, 53, 50, 54, 50, 55, 50, 56, 50, 57, 51, 48, 51, 49, 51, 50, 51, 51, 51, 52, 51, 53, 51, 54, 51, 55, 51, 56, 51, 57, 52, 48, 52, 49, 52, 50, 52, 51, 52, 52, 52, 53, 52, 54, 52, 55, 52, 56, 52, 57, 53, 48, 53, 49, 53, 50, 53, 51, 53, 52, 53, 53, 53, 54, 53, 55, 53, 56, 53, 57, 54, 48, 54, 49, 54, 50, 54, 51, 54, 52, 54, 53, 54, 54, 54, 55, 54, 56, 54, 57, 55, 48, 55, 49, 55, 50, 55, 51, 55, 52, 55, 53, 55, 54, 55, 55, 55, 56, 55, 57, 56, 48, 56, 49, 56, 50, 56, 51, 56, 52, 56, 53, 56, 54, 56, 55, 56, 56, 56, 57, 57, 48, 57, 49, 57, 50, 57, 51, 57, 52, 57, 53, 57, 54, 57, 55, 57, 56, 57, 57]))))) (.t 51)), none⟩, ⟨(some 53), (.iaddr 1 (.t 42) (.t 44)), none⟩, ⟨none, (.store 1 (.t 53) (.t 50)), none⟩, ⟨(some 54), (.iaddr 1 (.t 45) (.t 47)), none⟩, ⟨none, (.store 1 (.t 54) (.t 52)), none⟩] []) (.seq (.reg [⟨(some 55), (.mv (.t 0)), none⟩, ⟨(some 56), (.mv (.t 4)), none⟩, ⟨(some 57), (.bin .sub 0 (.t 56) (.k (.v (.c (.p (.int .i64 3)))))), none⟩, ⟨(some 58), (.mv (.t 0)), none⟩, ⟨(some 59), (.mv (.t 4)), none⟩, ⟨(some 60), (.bin .sub 0 (.t 59) (.k (.v (.c (.p (.int .i64 4)))))), none⟩, ⟨(some 61), (.mv (.t 8)), none⟩, ⟨(some 62), (.bin .add 0 (.t 61) (.k (.v (.c (.p (.int .u32 1)))))), none⟩, ⟨(some 63), (.index (.k (.v (.c (.p (.str [48, 48, 48, 49, 48, 50, 48, 51, 48, 52, 48, 53, 48, 54, 48, 55, 48, 56, 48, 57, 49, 48, 49, 49, 49, 50, 49, 51, 49, 52, 49, 53, 49, 54, 49, 55, 49, 56, 49, 57, 50, 48, 50, 49, 50, 50, 50, 51, 50, 52, 50, 53, 50, 54, 50, 55, 50, 56, 50, 57, 51, 48, 51, 49, 51, 50, 51, 51, 51, 52, 51, 53, 51, 54, 51, 55, 51, 56, 51, 57, 52, 48, 52, 49, 52, 50, 52, 51, 52, 52, 52, 53, 52, 54, 52, 55, 52, 56, 52, 57, 53, 48, 53, 49, 53, 50, 53, 51, 53, 52, 53, 53, 53, 54, 53, 55, 53, 56, 53, 57, 54, 48, 54, 49, 54, 50, 54, 51, 54, 52, 54, 53, 54, 54, 54, 55, 54, 56, 54, 57, 55, 48, 55, 49, 55, 50, 55, 51, 55, 52, 55, 53, 55, 54, 55, 55, 55, 56, 55, 57, 56, 48, 56, 49, 56, 50, 56, 51, 56, 52, 56, 53, 56, 54, 56, 55, 56, 56, 56, 57, 57, 48, 57, 49, 57, 50, 57, 51, 57, 52, 57, 53, 57, 54, 57, 55, 57, 56, 57, 57]))))) (.t 62)), none⟩, ⟨(some 64), (.mv (.t 8)), none⟩, ⟨(some 65), (.index (.k (.v (.c (.p (.str [48, 48, 48, 49, 48, 50, 48, 51, 48, 52, 48, 53, 48, 54, 48, 55, 48, 56, 48, 57, 49, 48, 49, 49, 49, 50, 49, 51, 49, 52, 49, 53, 49, 54, 49, 55, 49, 56, 49, 57, 50, 48, 50, 49, 50, 50, 50, 51, 50, 52, 50, 53, 50, 54, 50, 55, 50, 56, 50, 57, 51, 48, 51, 49, 51, 50, 51, 51, 51, 52, 51, 53, 51, 54, 51, 55, 51, 56, 51, 57, 52, 48, 52, 49, 52, 50, 52, 51, 52, 52, 52, 53, 52, 54, 52, 55, 52, 56, 52, 57, 53, 48, 53, 49, 53, 50, 53, 51, 53, 52, 53, 53, 53, 54, 53, 55, 53, 56, 53, 57, 54, 48, 54, 49, 54, 50, 54, 51, 54, 52, 54, 53, 54, 54, 54, 55, 54, 56, 54, 57, 55, 48, 55, 49, 55, 50, 55, 51, 55, 52, 55, 53, 55, 54, 55, 55, 55, 56, 55, 57, 56, 48, 56, 49, 56, 50, 56, 51, 56, 52, 56, 53, 56, 54, 56, 55, 56, 56, 56, 57, 57, 48, 57, 49, 57, 50, 57, 51, 57, 52, 57, 53, 57, 54, 57, 55, 57, 56, 57, 57]))))) (.t 64)), none⟩, ⟨(some 66), (.iaddr 1 (.t 55) (.t 57)), none⟩, ⟨none, (.store 1 (.t 66) (.t 63)), none⟩, ⟨(some 67), (.iaddr 1 (.t 58) (.t 60)), none⟩, ⟨none, (.store 1 (.t 67) (.t 65)), none⟩] []) (.seq (.reg [⟨(some 68), (.mv (.t 0)), none⟩, ⟨(some 69), (.mv (.t 4)), none⟩, ⟨(some 70), (.bin .sub 0 (.t 69) (.k (.v (.c (.p (.int .i64 5)))))), none⟩, ⟨(some 71), (.mv (.t 0)), none⟩, ⟨(some 72), (.mv (.t 4)), none⟩, ⟨(some 73), (.bin .sub 0 (.t 72) (.k (.v (.c (.p (.int .i64 6)))))), none⟩, ⟨(some 74), (.mv (.t 11)), none⟩, ⟨(some 75), (.bin .add 0 (.t 74) (.k (.v (.c (.p (.int .u32 1)))))), none⟩, ⟨(some 76), (.index (.k (.v (.c (.p (.str [48, 48, 48, 49, 48, 50, 48, 51, 48, 52, 48, 53, 48, 54, 48, 55, 48, 56, 48, 57, 49, 48, 49, 49, 49, 50, 49, 51, 49, 52, 49, 53, 49, 54, 49, 55, 49, 56, 49, 57, 50, 48, 50, 49, 50, 50, 50, 51, 50, 52, 50, 53, 50, 54, 50, 55, 50, 56, 50, 57, 51, 48, 51, 49, 51, 50, 51, 51, 51, 52, 51, 53, 51, 54, 51, 55, 51, 56, 51, 57, 52, 48, 52, 49, 52, 50, 52, 51, 52, 52, 52, 53, 52, 54, 52, 55, 52, 56, 52, 57, 53, 48, 53, 49, 53, 50, 53, 51, 53, 52, 53, 53, 53, 54, 53, 55, 53, 56, 53, 57, 54, 48, 54, 49, 54, 50, 54, 51, 54, 52, 54, 53, 54, 54, 54, 55, 54, 56, 54, 57, 55, 48, 55, 49, 55, 50, 55, 51, 55, 52, 55, 53, 55, 54, 55, 55, 55, 56, 55, 57, 56, 48, 56, 49, 56, 50, 56, 51, 56, 52, 56, 53, 56, 54, 56, 55, 56, 56, 56, 57, 57, 48, 57, 49, 57, 50, 57, 51, 57, 52, 57, 53, 57, 54, 57, 55, 57, 56, 57, 57]))))) (.t 75)), none⟩, ⟨(some 77), (.mv (.t 11)), none⟩, ⟨(some 78), (.index (.k (.v (.c (.p (.str [48, 48, 48, 49, 48, 50, 48, 51, 48, 52, 48, 53, 48, 54, 48, 55, 48, 56, 48, 57, 49, 48, 49, 49, 49, 50, 49, 51, 49, 52, 49, 53, 49, 54, 49, 55, 49, 56, 49, 57, 50, 48, 50, 49, 50, 50, 50, 51, 50, 52, 50, 53, 50, 54, 50, 55, 50, 56, 50, 57, 51, 48, 51, 49, 51, 50, 51, 51, 51, 52, 51, 53, 51, 54, 51, 55, 51, 56, 51, 57, 52, 48, 52, 49, 52, 50, 52, 51, 52, 52, 52, 53, 52, 54, 52, 55, 52, 56, 52, 57, 53, 48, 53, 49, 53, 50, 53, 51, 53, 52, 53, 53, 53, 54, 53, 55, 53, 56, 53, 57, 54, 48, 54, 49, 54, 50, 54, 51, 54, 52, 54, 53, 54, 54, 54, 55, 54, 56, 54, 57, 55, 48, 55, 49, 55, 50, 55, 51, 55, 52, 55, 53, 55, 54, 55, 55, 55, 56, 55, 57, 56, 48, 56, 49, 56, 50, 56, 51, 56, 52, 56, 53, 56, 54, 56, 55, 56, 56, 56, 57, 57, 48, 57, 49, 57, 50, 57, 51, 57, 52, 57, 53, 57, 54, 57, 55, 57, 56, 57, 57]))))) (.t 77)), none⟩, ⟨(some 79), (.iaddr 1 (.t 68) (.t 70)), none⟩, ⟨none, (.store 1 (.t 79) (.t 76)), none⟩, ⟨(some 80), (.iaddr 1 (.t 71) (.t 73)), none⟩, ⟨none, (.store 1 (.t 80) (.t 78)), none⟩] []) (.seq (.reg [⟨(some 81), (.mv (.t 0)), none⟩, ⟨(some 82), (.mv (.t 4)), none⟩, ⟨(some 83), (.bin .sub 0 (.t 82) (.k (.v (.c (.p (.int .i64 7)))))), none⟩, ⟨(some 84), (.mv (.t 0)), none⟩, ⟨(some 85), (.mv (.t 4)), none⟩, ⟨(some 86), (.bin .sub 0 (.t 85) (.k (.v (.c (.p (.int .i64 8)))))), none⟩, ⟨(some 87), (.mv (.t 10)), none⟩, ⟨(some 88), (.bin .add 0 (.t 87) (.k (.v (.c (.p (.int .u32 1)))))), none⟩, ⟨(some 89), (.index (.k (.v (.c (.p (.str [48, 48, 48, 49, 48, 50, 48, 51, 48, 52, 48, 53, 48, 54, 48, 55, 48, 56, 48, 57, 49, 48, 49, 49, 49, 50, 49, 51, 49, 52, 49, 53, 49, 54, 49, 55, 49, 56, 49, 57, 50, 48, 50, 49, 50, 50, 50, 51, 50, 52, 50, 53, 50, 54, 50, 55, 50, 56, 50, 57, 51, 48, 51, 49, 51, 50, 51, 51, 51, 52, 51, 53, 51, 54, 51, 55, 51, 56, 51, 57, 52, 48, 52, 49, 52, 50, 52, 51, 52, 52, 52, 53, 52, 54, 52, 55, 52, 56, 52, 57, 53, 48, 53, 49, 53, 50, 53, 51, 53, 52, 53, 53, 53, 54, 53, 55, 53, 56, 53, 57, 54, 48, 54, 49, 54, 50, 54, 51, 54, 52, 54, 53, 54, 54, 54, 55, 54, 56, 54, 57, 55, 48, 55, 49, 55, 50, 55, 51, 55, 52, 55, 53, 55, 54, 55, 55, 55, 56, 55, 57, 56, 48, 56, 49, 56, 50, 56, 51, 56, 52, 56, 53, 56, 54, 56, 55, 56, 56, 56, 57, 57, 48, 57, 49, 57, 50, 57, 51, 57, 52, 57, 53, 57, 54, 57, 55, 57, 56, 57, 57]))))) (.t 88)), none⟩, ⟨(some 90), (.mv (.t 10)), none⟩, ⟨(some 91), (.index (.k (.v (.c (.p (.str [48, 48, 48, 49, 48, 50, 48, 51, 48, 52, 48, 53, 48, 54, 48, 55, 48, 56, 48, 57, 49, 48, 49, 49, 49, 50, 49, 51, 49, 52, 49, 53, 49, 54, 49, 55, 49, 56, 49, 57, 50, 48, 50, 49, 50, 50, 50, 51, 50, 52, 50, 53, 50, 54, 50, 55, 50, 56, 50, 57, 51, 48, 51, 49, 51, 50, 51, 51, 51, 52, 51, 53, 51, 54, 51, 55, 51, 56, 51, 57, 52, 48, 52, 49, 52, 50, 52, 51, 52, 52, 52, 53, 52, 54, 52, 55, 52, 56, 52, 57, 53, 48, 53, 49, 53, 50, 53, 51, 53, 52, 53, 53, 53, 54, 53, 55, 53, 56, 53, 57, 54, 48, 54, 49, 54, 50, 54, 51, 54, 52, 54, 53, 54, 54, 54, 55, 54, 56, 54, 57, 55, 48, 55, 49, 55, 50, 55, 51, 55, 52, 55, 53, 55, 54, 55, 55, 55, 56, 55, 57, 56, 48, 56, 49, 56, 50, 56, 51, 56, 52, 56, 53, 56, 54, 56, 55, 56, 56, 56, 57, 57, 48, 57, 49, 57, 50, 57, 51, 57, 52, 57, 53, 57, 54, 57, 55, 57, 56, 57, 57]))))) (.t 90)), none⟩, ⟨(some 92), (.iaddr 1 (.t 81) (.t 83)), none⟩, ⟨none, (.store 1 (.t 92) (.t 89)), none⟩, ⟨(some 93), (.iaddr 1 (.t 84) (.t 86)), none⟩, ⟨none, (.store 1 (.t 93) (.t 91)), none⟩] []) (.reg [⟨(some 94), (.mv (.t 4)), none⟩, ⟨(some 95), (.bin .sub 0 (.t 94) (.k (.v (.c (.p (.int .i64 8)))))), none⟩, ⟨(some 4), (.mv (.t 95)), none⟩] [])))))))))))))) (.mark 2 [0, 1, 4] (.seq (.reg [⟨(some 96), (.mv (.t 1)), none⟩, ⟨(some 97), (.toInt .u32 (.t 96)), none⟩, ⟨(some 12), (.mv (.t 97)), none⟩] []) (.seq (.seq (.reg [⟨(some 98), (.mv (.t 4)), none⟩, ⟨(some 99), (.bin .geq 0 (.t 98) (.k (.v (.c (.p (.int .i64 4)))))), none⟩] []) (.cond (.t 99) (.seq (.reg [⟨(some 100), (.mv (.t 12)), none⟩, ⟨(some 101), (.bin .rem 0 (.t 100) (.k (.v (.c (.p (.int .u32 10000)))))), none⟩, ⟨(some 13), (.mv (.t 101)), none⟩] []) (.seq (.reg [⟨(some 102), (.mv (.t 12)), none⟩, ⟨(some 103), (.bin .quo 0 (.t 102) (.k (.v (.c (.p (.int .u32 10000)))))), none⟩, ⟨(some 12), (.mv (.t 103)), none⟩] []) (.seq (.reg [⟨(some 104), (.mv (.t 13)), none⟩, ⟨(some 105), (.bin .quo 0 (.t 104) (.k (.v (.c (.p (.int .u32 100)))))), none⟩, ⟨(some 106), (.bin .mul 0 (.t 105) (.k (.v (.c (.p (.int .u32 2)))))), none⟩, ⟨(some 107), (.mv (.t 13)), none⟩, ⟨(some 108), (.bin .rem 0 (.t 107) (.k (.v (.c (.p (.int .u32 100)))))), none⟩, ⟨(some 109), (.bin .mul 0 (.t 108) (.k (.v (.c (.p (.int .u32 2)))))), none⟩, ⟨(some 14), (.mv (.t 106)), none⟩, ⟨(some 15), (.mv (.t 109)), none⟩] []) (.seq (.reg [⟨(some 110), (.mv (.t 0)), none⟩, ⟨(some 111), (.mv (.t 4)), none⟩, ⟨(some 112), (.bin .sub 0 (.t 111) (.k (.v (.c (.p (.int .i64 1)))))), none⟩, ⟨(some 113), (.mv (.t 0)), none⟩, ⟨(some 114), (.mv (.t 4)), none⟩, ⟨(some 115), (.bin .sub 0 (.t 114) (.k (.v (.c (.p (.int .i64 2)))))), none⟩, ⟨(some 116), (.mv (.t 15)), none⟩, ⟨(some 117), (.bin .add 0 (.t 116) (.k (.v (.c (.p (.int .u32 1)))))), none⟩, ⟨(some 118), (.index (.k (.v (.c (.p (.str [48, 48, 48, 49, 48, 50, 48, 51, 48, 52, 48, 53, 48, 54, 48, 55, 48, 56, 48, 57, 49, 48, 49, 49, 49, 50, 49, 51, 49, 52, 49, 53, 49, 54, 49, 55, 49, 56, 49, 57, 50, 48, 50, 49, 50, 50, 50, 51, 50, 52, 50, 53, 50, 54, 50, 55, 50, 56, 50, 57, 51, 48, 51, 49, 51, 50, 51, 51, 51, 52, 51, 53, 51, 54, 51, 55, 51, 56, 51, 57, 52, 48, 52, 49, 52, 50, 52, 51, 52, 52, 52, 53, 52, 54, 52, 55, 52, 56, 52, 57, 53, 48, 53, 49, 53, 50, 53, 51, 53, 52, 53, 53, 53, 54, 53, 55, 53, 56, 53, 57, 54, 48, 54, 49, 54, 50, 54, 51, 54, 52, 54, 53, 54, 54, 54, 55, 54, 56, 54, 57, 55, 48, 55, 49, 55, 50, 55, 51, 55, 52, 55, 53, 55, 54, 55, 55, 55, 56, 55, 57, 56, 48, 56, 49, 56, 50, 56, 51, 56, 52, 56, 53, 56, 54, 56, 55, 56, 56, 56, 57, 57, 48, 57, 49, 57, 50, 57, 51, 57, 52, 57, 53, 57, 54, 57, 55, 57, 56, 57, 57]))))) (.t 117)), none⟩, ⟨(some 119), (.mv (.t 15)), none⟩, ⟨(some 120), (.index (.k (.v (.c (.p (.str [48, 48, 48, 49, 48, 50, 48, 51, 48, 52, 48, 53, 48, 54, 48, 55, 48, 56, 48, 57, 49, 48, 49, 49, 49, 50, 49, 51, 49, 52, 49, 53, 49, 54, 49, 55, 49, 56, 49, 57, 50, 48, 50, 49, 50, 50, 50, 51, 50, 52, 50, 53, 50, 54, 50, 55, 50, 56, 50, 57, 51, 48, 51, 49, 51, 50, 51, 51, 51, 52, 51, 53, 51, 54, 51, 55, 51, 56, 51, 57, 52, 48, 52, 49, 52, 50, 52, 51, 52, 52, 52, 53, 52, 54, 52, 55, 52, 56, 52, 57, 53, 48, 53, 49, 53, 50, 53, 51, 53, 52, 53, 53, 53, 54, 53, 55, 53, 56, 53, 57, 54, 48, 54, 49, 54, 50, 54, 51, 54, 52, 54, 53, 54, 54, 54, 55, 54, 56, 54, 57, 55, 48, 55, 49, 55, 50, 55, 51, 55, 52, 55, 53, 55, 54, 55, 55, 55, 56, 55, 57, 56, 48, 56, 49, 56, 50, 56, 51, 56, 52, 56, 53, 56, 54, 56, 55, 56, 56, 56, 57, 57, 48, 57, 49, 57, 50, 57, 51, 57, 52, 57, 53, 57, 54, 57, 55, 57, 56, 57, 57]))))) (.t 119)), none⟩, ⟨(some 121), (.iaddr 1 (.t 110) (.t 112)), none⟩, ⟨none, (.store 1 (.t 121) (.t 118)), none⟩, ⟨(some 122), (.iaddr 1 (.t 113) (.t 115)), none⟩, ⟨none, (.store 1 (.t 122) (.t 120)), none⟩] []) (.seq (.reg [⟨(some 123), (.mv (.t 0)), none⟩, ⟨(some 124), (.mv (.t 4)), none⟩, ⟨(some 125), (.bin .sub 0 (.t 124) (.k (.v (.c (.p (.int .i64 3)))))), none⟩, ⟨(some 126), (.mv (.t 0)), none⟩, ⟨(some 127), (.mv (.t 4)), none⟩, ⟨(some 128), (.bin .sub 0 (.t 127) (.k (.v (.c (.p (.int .i64 4)))))), none⟩, ⟨(some 129), (.mv (.t 14)), none⟩, ⟨(some 130), (.bin .add 0 (.t 129) (.k (.v (.c (.p (.int .u32 1)))))), none⟩, ⟨(some 131), (.index (.k (.v (.c (.p (.str [48, 48, 48, 49, 48, 50, 48, 51, 48, 52, 48, 53, 48, 54, 48, 55, 48, 56, 48, 57, 49, 48, 49, 49, 49, 50, 49, 51, 49, 52, 49, 53, 49, 54, 49, 55, 49, 56, 49, 57, 50, 48, 50, 49, 50, 50, 50, 51, 50, 52, 50, 53, 50, 54, 50, 55, 50, 56, 50, 57, 51, 48, 51, 49, 51, 50, 51, 51, 51, 52, 51, 53, 51, 54, 51, 55, 51, 56, 51, 57, 52, 48, 52, 49, 52, 50, 52, 51, 52, 52, 52, 53, 52, 54, 52, 55, 52, 56, 52, 57, 53, 48, 53, 49, 53, 50, 53, 51, 53, 52, 53, 53, 53, 54, 53, 55, 53, 56, 53, 57, 54, 48, 54, 49, 54, 50, 54, 51, 54, 52, 54, 53, 54, 54, 54, 55, 54, 56, 54, 57, 55, 48, 55, 49, 55, 50, 55, 51, 55, 52, 55, 53, 55, 54, 55, 55, 55, 56, 55, 57, 56, 48, 56, 49, 56, 50, 56, 51, 56, 52, 56, 53, 56, 54, 56, 55, 56, 56, 56, 57, 57, 48, 57, 49, 57, 50, 57, 51, 57, 52, 57, 53, 57, 54, 57, 55, 57, 56, 57, 57]))))) (.t 130)), none⟩, ⟨(some 132), (.mv (.t 14)), none⟩, ⟨(some 133), (.index (.k (.v (.c (.p (.str [48, 48, 48, 49, 48, 50, 48, 51, 48, 52, 48, 53, 48, 54, 48, 55, 48, 56, 48, 57, 49, 48, 49, 49, 49, 50, 49, 51, 49, 52, 49, 53, 49, 54, 49, 55, 49, 56, 49, 57, 50, 48, 50, 49, 50, 50, 50, 51, 50, 52, 50, 53, 50, 54, 50, 55, 50, 56, 50, 57, 51, 48, 51, 49, 51, 50, 51, 51, 51, 52, 51, 53, 51, 54, 51, 55, 51, 56, 51, 57, 52, 48, 52, 49, 52, 50, 52, 51, 52, 52, 52, 53, 52, 54, 52, 55, 52, 56, 52, 57, 53, 48, 53, 49, 53, 50, 53, 51, 53, 52, 53, 53, 53, 54, 53, 55, 53, 56, 53, 57, 54, 48, 54, 49, 54, 50, 54, 51, 54, 52, 54, 53, 54, 54, 54, 55, 54, 56, 54, 57, 55, 48, 55, 49, 55, 50, 55, 51, 55, 52, 55, 53, 55, 54, 55, 55, 55, 56, 55, 57, 56, 48, 56, 49, 56, 50, 56, 51, 56, 52, 56, 53, 56, 54, 56, 55, 56, 56, 56, 57, 57, 48, 57, 49, 57, 50, 57, 51, 57, 52, 57, 53, 57, 54, 57, 55, 57, 56, 57, 57]))))) (.t 132)), none⟩, ⟨(some 134), (.iaddr 1 (.t 123) (.t 125)), none⟩, ⟨none, (.store 1 (.t 134) (.t 131)), none⟩, ⟨(some 135), (.iaddr 1 (.t 126) (.t 128)), none⟩, ⟨none, (.store 1 (.t 135) (.t 133)), none⟩] []) (.reg [⟨(some 136), (.mv (.t 4)), none⟩, ⟨(some 137), (.bin .sub 0 (.t 136) (.k (.v (.c (.p (.int .i64 4)))))), none⟩, ⟨(some 4), (.mv (.t 137)), none⟩] [])))))) .skip)) (.mark 3 [0, 4, 12] (.seq (.seq (.reg [⟨(some 138), (.mv (.t 4)), none⟩, ⟨(some 139), (.bin .geq 0 (.t 138) (.k (.v (.c (.p (.int .i64 2)))))), none⟩] []) (.cond (.t 139) (.seq (.reg [⟨(some 140), (.mv (.t 12)), none⟩, ⟨(some 141), (.bin .rem 0 (.t 140) (.k (.v (.c (.p (.int .u32 100)))))), none⟩, ⟨(some 142), (.bin .mul 0 (.t 141) (.k (.v (.c (.p (.int .u32 2)))))), none⟩, ⟨(some 16), (.mv (.t 142)), none⟩] []) (.seq (.reg [⟨(some 143), (.mv (.t 12)), none⟩, ⟨(some 144), (.bin .quo 0 (.t 143) (.k (.v (.c (.p (.int .u32 100)))))), none⟩, ⟨(some 12), (.mv (.t 144)), none⟩] []) (.seq (.reg [⟨(some 145), (.mv (.t 0)), none⟩, ⟨(some 146), (.mv (.t 4)), none⟩, ⟨(some 147), (.bin .sub 0 (.t 146) (.k (.v (.c (.p (.int .i64 1)))))), none⟩, ⟨(some 148), (.mv (.t 0)), none⟩, ⟨(some 149), (.mv (.t 4)), none⟩, ⟨(some 150), (.bin .sub 0 (.t 149) (.k (.v (.c (.p (.int .i64 2)))))), none⟩, ⟨(some 151), (.mv (.t 16)), none⟩, ⟨(some 152), (.bin .add 0 (.t 151) (.k (.v (.c (.p (.int .u32 1)))))), none⟩, ⟨(some 153), (.index (.k (.v (.c (.p (.str [48, 48, 48, 49, 48, 50, 48, 51, 48, 52, 48, 53, 48, 54, 48, 55, 48, 56, 48, 57, 49, 48, 49, 49, 49, 50, 49, 51, 49, 52, 49, 53, 49, 54, 49, 55, 49, 56, 49, 57, 50, 48, 50, 49, 50, 50, 50, 51, 50, 52, 50, 53, 50, 54, 50, 55, 50, 56, 50, 57, 51, 48, 51, 49, 51, 50, 51, 51, 51, 52, 51, 53, 51, 54, 51, 55, 51, 56, 51, 57, 52, 48, 52, 49, 52, 50, 52, 51, 52, 52, 52, 53, 52, 54, 52, 55, 52, 56, 52, 57, 53, 48, 53, 49, 53, 50, 53, 51, 53, 52, 53, 53, 53, 54, 53, 55, 53, 56, 53, 57, 54, 48, 54, 49, 54, 50, 54, 51, 54, 52, 54, 53, 54, 54, 54, 55, 54, 56, 54, 57, 55, 48, 55, 49, 55, 50, 55, 51, 55, 52, 55, 53, 55, 54, 55, 55, 55, 56, 55, 57, 56, 48, 56, 49, 56, 50, 56, 51, 56, 52, 56, 53, 56, 54, 56, 55, 56, 56, 56, 57, 57, 48, 57, 49, 57, 50, 57, 51, 57, 52, 57, 53, 57, 54, 57, 55, 57, 56, 57, 57]))))) (.t 152)), none⟩, ⟨(some 154), (.mv (.t 16)), none⟩, ⟨(some 155), (.index (.k (.v (.c (.p (.str [48, 48, 48, 49, 48, 50, 48, 51, 48, 52, 48, 53, 48, 54, 48, 55, 48, 56, 48, 57, 49, 48, 49, 49, 49, 50, 49, 51, 49, 52, 49, 53, 49, 54, 49, 55, 49, 56, 49, 57, 50, 48, 50, 49, 50, 50, 50, 51, 50, 52, 50, 53, 50, 54, 50, 55, 50, 56, 50, 57, 51, 48, 51, 49, 51, 50, 51, 51, 51, 52, 51, 53, 51, 54, 51, 55, 51, 56, 51, 57, 52, 48, 52, 49, 52, 50, 52, 51, 52, 52, 52, 53, 52, 54, 52, 55, 52, 56, 52, 57, 53, 48, 53, 49, 53, 50, 53, 51, 53, 52, 53, 53, 53, 54, 53, 55, 53, 56, 53, 57, 54, 48, 54, 49, 54, 50, 54, 51, 54, 52, 54, 53, 54, 54, 54, 55, 54, 56, 54, 57, 55, 48, 55, 49, 55, 50, 55, 51, 55, 52, 55, 53, 55, 54, 55, 55, 55, 56, 55, 57, 56, 48, 56, 49, 56, 50, 56, 51, 56, 52, 56, 53, 56, 54, 56, 55, 56, 56, 56, 57, 57, 48, 57, 49, 57, 50, 57, 51, 57, 52, 57, 53, 57, 54, 57, 55, 57, 56, 57, 57]))))) (.t 154)), none⟩, ⟨(some 156), (.iaddr 1 (.t 145) (.t 147)), none⟩, ⟨none, (.store 1 (.t 156) (.t 153)), none⟩, ⟨(some 157), (.iaddr 1 (.t 148) (.t 150)), none⟩, ⟨none, (.store 1 (.t 157) (.t 155)), none⟩] []) (.reg [⟨(some 158), (.mv (.t 4)), none⟩, ⟨(some 159), (.bin .sub 0 (.t 158) (.k (.v (.c (.p (.int .i64 2)))))), none⟩, ⟨(some 4), (.mv (.t 159)), none⟩] [])))) .skip)) (.mark 4 [0, 4, 12] (.seq (.reg [⟨(some 160), (.mv (.t 4)), none⟩, ⟨(some 161), (.bin .gtr 0 (.t 160) (.k (.v (.c (.p (.int .i64 0)))))), none⟩] []) (.cond (.t 161) (.reg [⟨(some 162), (.mv (.t 0)), none⟩, ⟨(some 163), (.mv (.t 12)), none⟩, ⟨(some 164), (.bin .add 0 (.k (.v (.c (.p (.int .u32 48))))) (.t 163)), none⟩, ⟨(some 165), (.toInt .u8 (.t 164)), none⟩, ⟨(some 166), (.iaddr 1 (.t 162) (.k (.v (.c (.p (.int .i64 0)))))), none⟩, ⟨none, (.store 1 (.t 166) (.t 165)), none⟩] []) .skip)))))))))) }
theorem t120 : compF Tryd.prog (globs2 tabs opq) false true Tryd.f120 = some c120.erase := by kernel_rfl
noncomputable def b120_0 (O : Oracle) (R : Jump) (q : Nat) (x0 x1 : TVal) (h : Heap) : Res1 :=
  vlen O 2 x0 h 18 fun x18 h =>
  R 1 [x0, x1, x18] h
theorem e120_0 (O : Oracle) (R : Jump) (q : Nat) (x0 x1 : TVal) (h : Heap) : b120_0 O R q x0 x1 h = stepF c120 O R q 0 [x0, x1] h := by kernel_rfl
noncomputable def b120_1 (O : Oracle) (R : Jump) (q : Nat) (x0 x1 x4 : TVal) (h : Heap) : Res1 :=
  vbin .geq 0 x4 (kI 8) h fun x20 h =>
  vif x20 (
  vbin .rem 0 x1 (.v (.c (.p (.int .u64 100000000)))) h fun x22 h =>
  vtoInt .u32 x22 h fun x23 h =>
  vbin .quo 0 x1 (.v (.c (.p (.int .u64 100000000)))) h fun x25 h =>
  vbin .quo 0 x23 (.v (.c (.p (.int .u32 10000)))) h fun x27 h =>
  vbin .rem 0 x23 (.v (.c (.p (.int .u32 10000)))) h fun x29 h =>
  vbin .quo 0 x29 (.v (.c (.p (.int .u32 100)))) h fun x31 h =>
  vbin .mul 0 x31 (.v (.c (.p (.int .u32 2)))) h fun x32 h =>
  vbin .rem 0 x29 (.v (.c (.p (.int .u32 100)))) h fun x34 h =>
  vbin .mul 0 x34 (.v (.c (.p (.int .u32 2)))) h fun x35 h =>
  vbin .quo 0 x27 (.v (.c (.p (.int .u32 100)))) h fun x37 h =>
  vbin .mul 0 x37 (.v (.c (.p (.int .u32 2)))) h fun x38 h =>
  vbin .rem 0 x27 (.v (.c (.p (.int .u32 100)))) h fun x40 h =>
  vbin .mul 0 x40 (.v (.c (.p (.int .u32 2)))) h fun x41 h =>
  vbin .sub 0 x4 (kI 1) h fun x44 h =>
  vbin .sub 0 x4 (kI 2) h fun x47 h =>
  vbin .add 0 x35 (.v (.c (.p (.int .u32 1)))) h fun x49 h =>
  vindex (kS [48, 48, 48, 49, 48, 50, 48, 51, 48, 52, 48, 53, 48, 54, 48, 55, 48, 56, 48, 57, 49, 48, 49, 49, 49, 50, 49, 51, 49, 52, 49, 53, 49, 54, 49, 55, 49, 56, 49, 57, 50, 48, 50, 49, 50, 50, 50, 51, 50, 52, 50, 53, 50, 54, 50, 55, 50, 56, 50, 57, 51, 48, 51, 49, 51, 50, 51, 51, 51, 52, 51, 53, 51, 54, 51, 55, 51, 56, 51, 57, 52, 48, 52, 49, 52, 50, 52, 51, 52, 52, 52, 53, 52, 54, 52, 55, 52, 56, 52, 57, 53, 48, 53, 49, 53, 50, 53, 51, 53, 52, 53, 53, 53, 54, 53, 55, 53, 56, 53, 57, 54, 48, 54, 49, 54, 50, 54, 51, 54, 52, 54, 53, 54, 54, 54, 55, 54, 56, 54, 57, 55, 48, 55, 49, 55, 50, 55, 51, 55, 52, 55, 53, 55, 54, 55, 55, 55, 56, 55, 57, 56, 48, 56, 49, 56, 50, 56, 51, 56, 52, 56, 53, 56, 54, 56, 55, 56, 56, 56, 57, 57, 48, 57, 49, 57, 50, 57, 51, 57, 52, 57, 53, 57, 54, 57, 55, 57, 56, 57, 57]) x49 h fun x50 h =>
  vindex (kS [48, 48, 48, 49, 48, 50, 48, 51, 48, 52, 48, 53, 48, 54, 48, 55, 48, 56, 48, 57, 49, 48, 49, 49, 49, 50, 49, 51, 49, 52, 49, 53, 49, 54, 49, 55, 49, 56, 49, 57, 50, 48, 50, 49, 50, 50, 50, 51, 50, 52, 50, 53, 50, 54, 50, 55, 50, 56, 50, 57, 51, 48, 51, 49, 51, 50, 51, 51, 51, 52, 51, 53, 51, 54, 51, 55, 51, 56, 51, 57, 52, 48, 52, 49, 52, 50, 52, 51, 52, 52, 52, 53, 52, 54, 52, 55, 52, 56, 52, 57, 53, 48, 53, 49, 53, 50, 53, 51, 53, 52, 53, 53, 53, 54, 53, 55, 53, 56, 53, 57, 54, 48, 54, 49, 54, 50, 54, 51, 54, 52, 54, 53, 54, 54, 54, 55, 54, 56, 54, 57, 55, 48, 55, 49, 55, 50, 55, 51, 55, 52, 55, 53, 55, 54, 55, 55, 55, 56, 55, 57, 56, 48, 56, 49, 56, 50, 56, 51, 56, 52, 56, 53, 56, 54, 56, 55, 56, 56, 56, 57, 57, 48, 57, 49, 57, 50, 57, 51, 57, 52, 57, 53, 57, 54, 57, 55, 57, 56, 57, 57]) x35 h fun x52 h =>
  viaddr 1 x0 x44 h fun x53 h =>
  vstore 1 x53 x50 h fun _ h =>
  viaddr 1 x0 x47 h fun x54 h =>
  vstore 1 x54 x52 h fun _ h =>
  vbin .sub 0 x4 (kI 3) h fun x57 h =>
  vbin .sub 0 x4 (kI 4) h fun x60 h =>
  vbin .add 0 x32 (.v (.c (.p (.int .u32 1)))) h fun x62 h =>
  vindex (kS [48, 48, 48, 49, 48, 50, 48, 51, 48, 52, 48, 53, 48, 54, 48, 55, 48, 56, 48, 57, 49, 48, 49, 49, 49, 50, 49, 51, 49, 52, 49, 53, 49, 54, 49, 55, 49, 56, 49, 57, 50, 48, 50, 49, 50, 50, 50, 51, 50, 52, 50, 53, 50, 54, 50, 55, 50, 56, 50, 57, 51, 48, 51, 49, 51, 50, 51, 51, 51, 52, 51, 53, 51, 54, 51, 55, 51, 56, 51, 57, 52, 48, 52, 49, 52, 50, 52, 51, 52, 52, 52, 53, 52, 54, 52, 55, 52, 56, 52, 57, 53, 48, 53, 49, 53, 50, 53, 51, 53, 52, 53, 53, 53, 54, 53, 55, 53, 56, 53, 57, 54, 48, 54, 49, 54, 50, 54, 51, 54, 52, 54, 53, 54, 54, 54, 55, 54, 56, 54, 57, 55, 48, 55, 49, 55, 50, 55, 51, 55, 52, 55, 53, 55, 54, 55, 55, 55, 56, 55, 57, 56, 48, 56, 49, 56, 50, 56, 51, 56, 52, 56, 53, 56, 54, 56, 55, 56, 56, 56, 57, 57, 48, 57, 49, 57, 50, 57, 51, 57, 52, 57, 53, 57, 54, 57, 55, 57, 56, 57, 57]) x62 h fun x63 h =>
  vindex (kS [48, 48, 48, 49, 48, 50, 48, 51, 48, 52, 48, 53, 48, 54, 48, 55, 48, 56, 48, 57, 49, 48, 49, 49, 49, 50, 49, 51, 49, 52, 49, 53, 49, 54, 49, 55, 49, 56, 49, 57, 50, 48, 50, 49, 50, 50, 50, 51, 50, 52, 50, 53, 50, 54, 50, 55, 50, 56, 50, 57, 51, 48, 51, 49, 51, 50, 51, 51, 51, 52, 51, 53, 51, 54, 51, 55, 51, 56, 51, 57, 52, 48, 52, 49, 52, 50, 52, 51, 52, 52, 52, 53, 52, 54, 52, 55, 52, 56, 52, 57, 53, 48, 53, 49, 53, 50, 53, 51, 53, 52, 53, 53, 53, 54, 53, 55, 53, 56, 53, 57, 54, 48, 54, 49, 54, 50, 54, 51, 54, 52, 54, 53, 54, 54, 54, 55, 54, 56, 54, 57, 55, 48, 55, 49, 55, 50, 55, 51, 55, 52, 55, 53, 55, 54, 55, 55, 55, 56, 55, 57, 56, 48, 56, 49, 56, 50, 56, 51, 56, 52, 56, 53, 56, 54, 56, 55, 56, 56, 56, 57, 57, 48, 57, 49, 57, 50, 57, 51, 57, 52, 57, 53, 57, 54, 57, 55, 57, 56, 57, 57]) x32 h fun x65 h =>
  viaddr 1 x0 x57 h fun x66 h =>
  vstore 1 x66 x63 h fun _ h =>
  viaddr 1 x0 x60 h fun x67 h =>
  vstore 1 x67 x65 h fun _ h =>
  vbin .sub 0 x4 (kI 5) h fun x70 h =>
  vbin .sub 0 x4 (kI 6) h fun x73 h =>
  vbin .add 0 x41 (.v (.c (.p (.int .u32 1)))) h fun x75 h =>
  vindex (kS [48, 48, 48, 49, 48, 50, 48, 51, 48, 52, 48, 53, 48, 54, 48, 55, 48, 56, 48, 57, 49, 48, 49, 49, 49, 50, 49, 51, 49, 52, 49, 53, 49, 54, 49, 55, 49, 56, 49, 57, 50, 48, 50, 49, 50, 50, 50, 51, 50, 52, 50, 53, 50, 54, 50, 55, 50, 56, 50, 57, 51, 48, 51, 49, 51, 50, 51, 51, 51, 52, 51, 53, 51, 54, 51, 55, 51, 56, 51, 57, 52, 48, 52, 49, 52, 50, 52, 51, 52, 52, 52, 53, 52, 54, 52, 55, 52, 56, 52, 57, 53, 48, 53, 49, 53, 50, 53, 51, 53, 52, 53, 53, 53, 54, 53, 55, 53, 56, 53, 57, 54, 48, 54, 49, 54, 50, 54, 51, 54, 52, 54, 53, 54, 54, 54, 55, 54, 56, 54, 57, 55, 48, 55, 49, 55, 50, 55, 51, 55, 52, 55, 53, 55, 54, 55, 55, 55, 56, 55, 57, 56, 48, 56, 49, 56, 50, 56, 51, 56, 52, 56, 53, 56, 54, 56, 55, 56, 56, 56, 57, 57, 48, 57, 49, 57, 50, 57, 51, 57, 52, 57, 53, 57, 54, 57, 55, 57, 56, 57, 57]) x75 h fun x76 h =>
  vindex (kS [48, 48, 48, 49, 48, 50, 48, 51, 48, 52, 48, 53, 48, 54, 48, 55, 48, 56, 48, 57, 49, 48, 49, 49, 49, 50, 49, 51, 49, 52, 49, 53, 49, 54, 49, 55, 49, 56, 49, 57, 50, 48, 50, 49, 50, 50, 50, 51, 50, 52, 50, 53, 50, 54, 50, 55, 50, 56, 50, 57, 51, 48, 51, 49, 51, 50, 51, 51, 51, 52, 51, 53, 51, 54, 51, 55, 51, 56, 51, 57, 52, 48, 52, 49, 52, 50, 52, 51, 52, 52, 52, 53, 52, 54, 52, 55, 52, 56, 52, 57, 53, 48, 53, 49, 53, 50, 53, 51, 53, 52, 53, 53, 53, 54, 53, 55, 53, 56, 53, 57, 54, 48, 54, 49, 54, 50, 54, 51, 54, 52, 54, 53, 54, 54, 54, 55, 54, 56, 54, 57, 55, 48, 55, 49, 55, 50, 55, 51, 55, 52, 55, 53, 55, 54, 55, 55, 55, 56, 55, 57, 56, 48, 56, 49, 56, 50, 56, 51, 56, 52, 56, 53, 56, 54, 56, 55, 56, 56, 56, 57, 57, 48, 57, 49, 57, 50, 57, 51, 57, 52, 57, 53, 57, 54, 57, 55, 57, 56, 57, 57]) x41 h fun x78 h =>
  viaddr 1 x0 x70 h fun x79 h =>
  vstore 1 x79 x76 h fun _ h =>
  viaddr 1 x0 x73 h fun x80 h =>
  vstore 1 x80 x78 h fun _ h =>
  vbin .sub 0 x4 (kI 7) h fun x83 h =>
  vbin .sub 0 x4 (kI 8) h fun x86 h =>
  vbin .add 0 x38 (.v (.c (.p (.int .u32 1)))) h fun x88 h =>
  vindex (kS [48, 48, 48, 49, 48, 50, 48, 51, 48, 52, 48, 53, 48, 54, 48, 55, 48, 56, 48, 57, 49, 48, 49, 49, 49, 50, 49, 51, 49, 52, 49, 53, 49, 54, 49, 55, 49, 56, 49, 57, 50, 48, 50, 49, 50, 50, 50, 51, 50, 52, 50, 53, 50, 54, 50, 55, 50, 56, 50, 57, 51, 48, 51, 49, 51, 50, 51, 51, 51, 52, 51, 53, 51, 54, 51, 55, 51, 56, 51, 57, 52, 48, 52, 49, 52, 50, 52, 51, 52, 52, 52, 53, 52, 54, 52, 55, 52, 56, 52, 57, 53, 48, 53, 49, 53, 50, 53, 51, 53, 52, 53, 53, 53, 54, 53, 55, 53, 56, 53, 57, 54, 48, 54, 49, 54, 50, 54, 51, 54, 52, 54, 53, 54, 54, 54, 55, 54, 56, 54, 57, 55, 48, 55, 49, 55, 50, 55, 51, 55, 52, 55, 53, 55, 54, 55, 55, 55, 56, 55, 57, 56, 48, 56, 49, 56, 50, 56, 51, 56, 52, 56, 53, 56, 54, 56, 55, 56, 56, 56, 57, 57, 48, 57, 49, 57, 50, 57, 51, 57, 52, 57, 53, 57, 54, 57, 55, 57, 56, 57, 57]) x88 h fun x89 h =>
  vindex (kS [48, 48, 48, 49, 48, 50, 48, 51, 48, 52, 48, 53, 48, 54, 48, 55, 48, 56, 48, 57, 49, 48, 49, 49, 49, 50, 49, 51, 49, 52, 49, 53, 49, 54, 49, 55, 49, 56, 49, 57, 50, 48, 50, 49, 50, 50, 50, 51, 50, 52, 50, 53, 50, 54, 50, 55, 50, 56, 50, 57, 51, 48, 51, 49, 51, 50, 51, 51, 51, 52, 51, 53, 51, 54, 51, 55, 51, 56, 51, 57, 52, 48, 52, 49, 52, 50, 52, 51, 52, 52, 52, 53, 52, 54, 52, 55, 52, 56, 52, 57, 53, 48, 53, 49, 53, 50, 53, 51, 53, 52, 53, 53, 53, 54, 53, 55, 53, 56, 53, 57, 54, 48, 54, 49, 54, 50, 54, 51, 54, 52, 54, 53, 54, 54, 54, 55, 54, 56, 54, 57, 55, 48, 55, 49, 55, 50, 55, 51, 55, 52, 55, 53, 55, 54, 55, 55, 55, 56, 55, 57, 56, 48, 56, 49, 56, 50, 56, 51, 56, 52, 56, 53, 56, 54, 56, 55, 56, 56, 56, 57, 57, 48, 57, 49, 57, 50, 57, 51, 57, 52, 57, 53, 57, 54, 57, 55, 57, 56, 57, 57]) x38 h fun x91 h =>
  viaddr 1 x0 x83 h fun x92 h =>
  vstore 1 x92 x89 h fun _ h =>
  viaddr 1 x0 x86 h fun x93 h =>
  vstore 1 x93 x91 h fun _ h =>
  vbin .sub 0 x4 (kI 8) h fun x95 h =>
  R 1 [x0, x25, x95] h)
  (R 2 [x0, x1, x4] h)
theorem e120_1 (O : Oracle) (R : Jump) (q : Nat) (x0 x1 x4 : TVal) (h : Heap) : b120_1 O R q x0 x1 x4 h = stepF c120 O R q 1 [x0, x1, x4] h := by kernel_rfl
noncomputable def b120_2 (O : Oracle) (R : Jump) (q : Nat) (x0 x1 x4 : TVal) (h : Heap) : Res1 :=
  vtoInt .u32 x1 h fun x97 h =>
  vbin .geq 0 x4 (kI 4) h fun x99 h =>
  vif x99 (
  vbin .rem 0 x97 (.v (.c (.p (.int .u32 10000)))) h fun x101 h =>
  vbin .quo 0 x97 (.v (.c (.p (.int .u32 10000)))) h fun x103 h =>
  vbin .quo 0 x101 (.v (.c (.p (.int .u32 100)))) h fun x105 h =>
  vbin .mul 0 x105 (.v (.c (.p (.int .u32 2)))) h fun x106 h =>
  vbin .rem 0 x101 (.v (.c (.p (.int .u32 100)))) h fun x108 h =>
  vbin .mul 0 x108 (.v (.c (.p (.int .u32 2)))) h fun x109 h =>
  vbin .sub 0 x4 (kI 1) h fun x112 h =>
  vbin .sub 0 x4 (kI 2) h fun x115 h =>
  vbin .add 0 x109 (.v (.c (.p (.int .u32 1)))) h fun x117 h =>
  vindex (kS [48, 48, 48, 49, 48, 50, 48, 51, 48, 52, 48, 53, 48, 54, 48, 55, 48, 56, 48, 57, 49, 48, 49, 49, 49, 50, 49, 51, 49, 52, 49, 53, 49, 54, 49, 55, 49, 56, 49, 57, 50, 48, 50, 49, 50, 50, 50, 51, 50, 52, 50, 53, 50, 54, 50, 55, 50, 56, 50, 57, 51, 48, 51, 49, 51, 50, 51, 51, 51, 52, 51, 53, 51, 54, 51, 55, 51, 56, 51, 57, 52, 48, 52, 49, 52, 50, 52, 51, 52, 52, 52, 53, 52, 54, 52, 55, 52, 56, 52, 57, 53, 48, 53, 49, 53, 50, 53, 51, 53, 52, 53, 53, 53, 54, 53, 55, 53, 56, 53, 57, 54, 48, 54, 49, 54, 50, 54, 51, 54, 52, 54, 53, 54, 54, 54, 55, 54, 56, 54, 57, 55, 48, 55, 49, 55, 50, 55, 51, 55, 52, 55, 53, 55, 54, 55, 55, 55, 56, 55, 57, 56, 48, 56, 49, 56, 50, 56, 51, 56, 52, 56, 53, 56, 54, 56, 55, 56, 56, 56, 57, 57, 48, 57, 49, 57, 50, 57, 51, 57, 52, 57, 53, 57, 54, 57, 55, 57, 56, 57, 57]) x117 h fun x118 h =>
  vindex (kS [48, 48, 48, 49, 48, 50, 48, 51, 48, 52, 48, 53, 48, 54, 48, 55, 48, 56, 48, 57, 49, 48, 49, 49, 49, 50, 49, 51, 49, 52, 49, 53, 49, 54, 49, 55, 49, 56, 49, 57, 50, 48, 50, 49, 50, 50, 50, 51, 50, 52, 50, 53, 50, 54, 50, 55, 50, 56, 50, 57, 51, 48, 51, 49, 51, 50, 51, 51, 51, 52, 51, 53, 51, 54, 51, 55, 51, 56, 51, 57, 52, 48, 52, 49, 52, 50, 52, 51, 52, 52, 52, 53, 52, 54, 52, 55, 52, 56, 52, 57, 53, 48, 53, 49, 53, 50, 53, 51, 53, 52, 53, 53, 53, 54, 53, 55, 53, 56, 53, 57, 54, 48, 54, 49, 54, 50, 54, 51, 54, 52, 54, 53, 54, 54, 54, 55, 54, 56, 54, 57, 55, 48, 55, 49, 55, 50, 55, 51, 55, 52, 55, 53, 55, 54, 55, 55, 55, 56, 55, 57, 56, 48, 56, 49, 56, 50, 56, 51, 56, 52, 56, 53, 56, 54, 56, 55, 56, 56, 56, 57, 57, 48, 57, 49, 57, 50, 57, 51, 57, 52, 57, 53, 57, 54, 57, 55, 57, 56, 57, 57]) x109 h fun x120 h =>
  viaddr 1 x0 x112 h fun x121 h =>
  vstore 1 x121 x118 h fun _ h =>
  viaddr 1 x0 x115 h fun x122 h =>
  vstore 1 x122 x120 h fun _ h =>
  vbin .sub 0 x4 (kI 3) h fun x125 h =>
  vbin .sub 0 x4 (kI 4) h fun x128 h =>
  vbin .add 0 x106 (.v (.c (.p (.int .u32 1)))) h fun x130 h =>
  vindex (kS [48, 48, 48, 49, 48, 50, 48, 51, 48, 52, 48, 53, 48, 54, 48, 55, 48, 56, 48, 57, 49, 48, 49, 49, 49, 50, 49, 51, 49, 52, 49, 53, 49, 54, 49, 55, 49, 56, 49, 57, 50, 48, 50, 49, 50, 50, 50, 51, 50, 52, 50, 53, 50, 54, 50, 55, 50, 56, 50, 57, 51, 48, 51, 49, 51, 50, 51, 51, 51, 52, 51, 53, 51, 54, 51, 55, 51, 56, 51, 57, 52, 48, 52, 49, 52, 50, 52, 51, 52, 52, 52, 53, 52, 54, 52, 55, 52, 56, 52, 57, 53, 48, 53, 49, 53, 50, 53, 51, 53, 52, 53, 53, 53, 54, 53, 55, 53, 56, 53, 57, 54, 48, 54, 49, 54, 50, 54, 51, 54, 52, 54, 53, 54, 54, 54, 55, 54, 56, 54, 57, 55, 48, 55, 49, 55, 50, 55, 51, 55, 52, 55, 53, 55, 54, 55, 55, 55, 56, 55, 57, 56, 48, 56, 49, 56, 50, 56, 51, 56, 52, 56, 53, 56, 54, 56, 55, 56, 56, 56, 57, 57, 48, 57, 49, 57, 50, 57, 51, 57, 52, 57, 53, 57, 54, 57, 55, 57, 56, 57, 57]) x130 h fun x131 h =>
  vindex (kS [48, 48, 48, 49, 48, 50, 48, 51, 48, 52, 48, 53, 48, 54, 48, 55, 48, 56, 48, 57, 49, 48, 49, 49, 49, 50, 49, 51, 49, 52, 49, 53, 49, 54, 49, 55, 49, 56, 49, 57, 50, 48, 50, 49, 50, 50, 50, 51, 50, 52, 50, 53, 50, 54, 50, 55, 50, 56, 50, 57, 51, 48, 51, 49, 51, 50, 51, 51, 51, 52, 51, 53, 51, 54, 51, 55, 51, 56, 51, 57, 52, 48, 52, 49, 52, 50, 52, 51, 52, 52, 52, 53, 52, 54, 52, 55, 52, 56, 52, 57, 53, 48, 53, 49, 53, 50, 53, 51, 53, 52, 53, 53, 53, 54, 53, 55, 53, 56, 53, 57, 54, 48, 54, 49, 54, 50, 54, 51, 54, 52, 54, 53, 54, 54, 54, 55, 54, 56, 54, 57, 55, 48, 55, 49, 55, 50, 55, 51, 55, 52, 55, 53, 55, 54, 55, 55, 55, 56, 55, 57, 56, 48, 56, 49, 56, 50, 56, 51, 56, 52, 56, 53, 56, 54, 56, 55, 56, 56, 56, 57, 57, 48, 57, 49, 57, 50, 57, 51, 57, 52, 57, 53, 57, 54, 57, 55, 57, 56, 57, 57]) x106 h fun x133 h =>
  viaddr 1 x0 x125 h fun x134 h =>
  vstore 1 x134 x131 h fun _ h =>
  viaddr 1 x0 x128 h fun x135 h =>
  vstore 1 x135 x133 h fun _ h =>
  vbin .sub 0 x4 (kI 4) h fun x137 h =>
  R 3 [x0, x137, x103] h)
  (R 3 [x0, x4, x97] h)
theorem e120_2 (O : Oracle) (R : Jump) (q : Nat) (x0 x1 x4 : TVal) (h : Heap) : b120_2 O R q x0 x1 x4 h = stepF c120 O R q 2 [x0, x1, x4] h := by kernel_rfl
noncomputable def b120_3 (O : Oracle) (R : Jump) (q : Nat) (x0 x4 x12 : TVal) (h : Heap) : Res1 :=
  vbin .geq 0 x4 (kI 2) h fun x139 h =>
  vif x139 (
  vbin .rem 0 x12 (.v (.c (.p (.int .u32 100)))) h fun x141 h =>
  vbin .mul 0 x141 (.v (.c (.p (.int .u32 2)))) h fun x142 h =>
  vbin .quo 0 x12 (.v (.c (.p (.int .u32 100)))) h fun x144 h =>
  vbin .sub 0 x4 (kI 1) h fun x147 h =>
  vbin .sub 0 x4 (kI 2) h fun x150 h =>
  vbin .add 0 x142 (.v (.c (.p (.int .u32 1)))) h fun x152 h =>
  vindex (kS [48, 48, 48, 49, 48, 50, 48, 51, 48, 52, 48, 53, 48, 54, 48, 55, 48, 56, 48, 57, 49, 48, 49, 49, 49, 50, 49, 51, 49, 52, 49, 53, 49, 54, 49, 55, 49, 56, 49, 57, 50, 48, 50, 49, 50, 50, 50, 51, 50, 52, 50, 53, 50, 54, 50, 55, 50, 56, 50, 57, 51, 48, 51, 49, 51, 50, 51, 51, 51, 52, 51, 53, 51, 54, 51, 55, 51, 56, 51, 57, 52, 48, 52, 49, 52, 50, 52, 51, 52, 52, 52, 53, 52, 54, 52, 55, 52, 56, 52, 57, 53, 48, 53, 49, 53, 50, 53, 51, 53, 52, 53, 53, 53, 54, 53, 55, 53, 56, 53, 57, 54, 48, 54, 49, 54, 50, 54, 51, 54, 52, 54, 53, 54, 54, 54, 55, 54, 56, 54, 57, 55, 48, 55, 49, 55, 50, 55, 51, 55, 52, 55, 53, 55, 54, 55, 55, 55, 56, 55, 57, 56, 48, 56, 49, 56, 50, 56, 51, 56, 52, 56, 53, 56, 54, 56, 55, 56, 56, 56, 57, 57, 48, 57, 49, 57, 50, 57, 51, 57, 52, 57, 53, 57, 54, 57, 55, 57, 56, 57, 57]) x152 h fun x153 h =>
  vindex (kS [48, 48, 48, 49, 48, 50, 48, 51, 48, 52, 48, 53, 48, 54, 48, 55, 48, 56, 48, 57, 49, 48, 49, 49, 49, 50, 49, 51, 49, 52, 49, 53, 49, 54, 49, 55, 49, 56, 49, 57, 50, 48, 50, 49, 50, 50, 50, 51, 50, 52, 50, 53, 50, 54, 50, 55, 50, 56, 50, 57, 51, 48, 51, 49, 51, 50, 51, 51, 51, 52, 51, 53, 51, 54, 51, 55, 51, 56, 51, 57, 52, 48, 52, 49, 52, 50, 52, 51, 52, 52, 52, 53, 52, 54, 52, 55, 52, 56, 52, 57, 53, 48, 53, 49, 53, 50, 53, 51, 53, 52, 53, 53, 53, 54, 53, 55, 53, 56, 53, 57, 54, 48, 54, 49, 54, 50, 54, 51, 54, 52, 54, 53, 54, 54, 54, 55, 54, 56, 54, 57, 55, 48, 55, 49, 55, 50, 55, 51, 55, 52, 55, 53, 55, 54, 55, 55, 55, 56, 55, 57, 56, 48, 56, 49, 56, 50, 56, 51, 56, 52, 56, 53, 56, 54, 56, 55, 56, 56, 56, 57, 57, 48, 57, 49, 57, 50, 57, 51, 57, 52, 57, 53, 57, 54, 57, 55, 57, 56, 57, 57]) x142 h fun x155 h =>
  viaddr 1 x0 x147 h fun x156 h =>
  vstore 1 x156 x153 h fun _ h =>
  viaddr 1 x0 x150 h fun x157 h =>
  vstore 1 x157 x155 h fun _ h =>
  vbin .sub 0 x4 (kI 2) h fun x159 h =>
  R 4 [x0, x159, x144] h)
  (R 4 [x0, x4, x12] h)
theorem e120_3 (O : Oracle) (R : Jump) (q : Nat) (x0 x4 x12 : TVal) (h : Heap) : b120_3 O R q x0 x4 x12 h = stepF c120 O R q 3 [x0, x4, x12] h := by kernel_rfl
noncomputable def b120_4 (O : Oracle) (R : Jump) (q : Nat) (x0 x4 x12 : TVal) (h : Heap) : Res1 :=
  vbin .gtr 0 x4 (kI 0) h fun x161 h =>
  vif x161 (
  vbin .add 0 (.v (.c (.p (.int .u32 48)))) x12 h fun x164 h =>
  vtoInt .u8 x164 h fun x165 h =>
  viaddr 1 x0 (kI 0) h fun x166 h =>
  vstore 1 x166 x165 h fun _ h =>
  vfin true q [] h)
  (vfin true q [] h)
theorem e120_4 (O : Oracle) (R : Jump) (q : Nat) (x0 x4 x12 : TVal) (h : Heap) : b120_4 O R q x0 x4 x12 h = stepF c120 O R q 4 [x0, x4, x12] h := by kernel_rfl
noncomputable def d120 : BlkF := fun O R q => [.s fun y0 => .s fun y1 => .z fun h => b120_0 O R q y0 y1 h, .s fun y0 => .s fun y1 => .s fun y2 => .z fun h => b120_1 O R q y0 y1 y2 h, .s fun y0 => .s fun y1 => .s fun y2 => .z fun h => b120_2 O R q y0 y1 y2 h, .s fun y0 => .s fun y1 => .s fun y2 => .z fun h => b120_3 O R q y0 y1 y2 h, .s fun y0 => .s fun y1 => .s fun y2 => .z fun h => b120_4 O R q y0 y1 y2 h]
theorem o120 (O : Oracle) (R : Jump) (q : Nat) : HoldsAll c120 O R q 0 (d120 O R q) := ⟨fun y0 y1 h => e120_0 O R q y0 y1 h, fun y0 y1 y2 h => e120_1 O R q y0 y1 y2 h, fun y0 y1 y2 h => e120_2 O R q y0 y1 y2 h, fun y0 y1 y2 h => e120_3 O R q y0 y1 y2 h, fun y0 y1 y2 h => e120_4 O R q y0 y1 y2 h, trivial⟩
/- internal/strconv.formatBits -/
def c121 : MFunc := { np := 5, res := [.t 10, .t 11], frz := true, body := (.seq (.reg [⟨(some 10), (.mv (.k (.v (.c (.p .nilslice))))), none⟩, ⟨(some 11), (.mv (.k (.v (.c (.p (.str [])))))), none⟩] []) (.seq (.seq (.reg [⟨(some 19), (.mv (.t 2)), none⟩, ⟨(some 20), (.bin .lss 0 (.t 19) (.k (.v (.c (.p (.int .i64 2)))))), none⟩, ⟨(some 21), (.mv (.t 20)), none⟩, ⟨(some 22), (.mv (.t 2)), (some (21, false))⟩, ⟨(some 23), (.bin .eql 0 (.t 22) (.k (.v (.c (.p (.int .i64 10)))))), (some (21, false))⟩, ⟨(some 24), (.pick (.t 21) (.k (.v (.c (.p (.bool true))))) (.t 23)), none⟩, ⟨(some 25), (.mv (.t 24)), none⟩, ⟨(some 26), (.mv (.t 2)), (some (25, false))⟩, ⟨(some 27), (.bin .gtr 0 (.t 26) (.k (.v (.c (.p (.int .i64 36)))))), (some (25, false))⟩, ⟨(some 28), (.pick (.t 25) (.k (.v (.c (.p (.bool true))))) (.t 27)), none⟩] []) (.cond (.t 28) (.reg [⟨(some 29), .bad, none⟩, ⟨none, .bad, none⟩] []) .skip)) (.mark 1 [0, 1, 2, 3, 4, 10, 11] (.seq (.reg [⟨(some 12), (.alloc [(.p (.int .u8 0)), (.p (.int .u8 0)), (.p (.int .u8 0)), (.p (.int .u8 0)), (.p (.int .u8 0)), (.p (.int .u8 0)), (.p (.int .u8 0)), (.p (.int .u8 0)), (.p (.int .u8 0)), (.p (.int .u8 0)), (.p (.int .u8 0)), (.p (.int .u8 0)), (.p (.int .u8 0)), (.p (.int .u8 0)), (.p (.int .u8 0)), (.p (.int .u8 0)), (.p (.int .u8 0)), (.p (.int .u8 0)), (.p (.int .u8 0)), (.p (.int .u8 0)), (.p (.int .u8 0)), (.p (.int .u8 0)), (.p (.int .u8 0)), (.p (.int .u8 0)), (.p (.int .u8 0)), (.p (.int .u8 0)), (.p (.int .u8 0)), (.p (.int .u8 0)), (.p (.int .u8 0)), (.p (.int .u8 0)), (.p (.int .u8 0)), (.p (.int .u8 0)), (.p (.int .u8 0)), (.p (.int .u8 0)), (.p (.int .u8 0)), (.p (.int .u8 0)), (.p (.int .u8 0)), (.p (.int .u8 0)), (.p (.int .u8 0)), (.p (.int .u8 0)), (.p (.int .u8 0)), (.p (.int .u8 0)), (.p (.int .u8 0)), (.p (.int .u8 0)), (.p (.int .u8 0)), (.p (.int .u8 0)), (.p (.int .u8 0)), (.p (.int .u8 0)), (.p (.int .u8 0)), (.p (.int .u8 0)), (.p (.int .u8 0)), (.p (.int .u8 0)), (.p (.int .u8 0)), (.p (.int .u8 0)), (.p (.int .u8 0)), (.p (.int .u8 0)), (.p (.int .u8 0)), (.p (.int .u8 0)), (.p (.int .u8 0)), (.p (.int .u8 0)), (.p (.int .u8 0)), (.p (.int .u8 0)), (.p (.int .u8 0)), (.p (.int .u8 0)), (.p (.int .u8 0))] false), none⟩] []) (.seq (.reg [⟨(some 13), (.mv (.k (.v (.c (.p (.int .i64 65)))))), none⟩] []) (.seq (.seq (.reg [⟨(some 30), (.mv (.t 3)), none⟩] []) (.cond (.t 30) (.reg [⟨(some 31), (.mv (.t 1)), none⟩, ⟨(some 32), (.un .neg (.t 31)), none⟩, ⟨(some 1), (.mv (.t 32)), none⟩] []) .skip)) (.mark 2 [0, 1, 2, 3, 4, 10, 11, 12, 13] (.seq (.seq (.reg [⟨(some 33), (.mv (.t 2)), none⟩, ⟨(some 34), (.call (.k (.v (.c (.func 130 [])))) [(.t 33)]), none⟩] []) (.cond (.t 34) (.seq (.reg [⟨(some 35), (.mv (.t 2)), none⟩, ⟨(some 36), (.toInt .u64 (.t 35)), none⟩, ⟨(some 37), (.call (.k (.v (.c (.func 131 [])))) [(.t 36)]), none⟩, ⟨(some 38), (.toInt .u64 (.t 37)), none⟩, ⟨(some 14), (.mv (.t 38)), none⟩] []) (.seq (.reg [⟨(some 39), (.mv (.t 2)), none⟩, ⟨(some 40), (.toInt .u64 (.t 39)), none⟩, ⟨(some 15), (.mv (.t 40)), none⟩] []) (.seq (.reg [⟨(some 41), (.mv (.t 2)), none⟩, ⟨(some 42), (.toInt .u64 (.t 41)), none⟩, ⟨(some 43), (.bin .sub 0 (.t 42) (.k (.v (.c (.p (.int .u64 1)))))), none⟩, ⟨(some 16), (.mv (.t 43)), none⟩] []) (.seq (.block 0 (.loop 3 [0, 1, 3, 4, 10, 11, 12, 13, 14, 15, 16] (.seq (.seq (.reg [⟨(some 44), (.mv (.t 1)), none⟩, ⟨(some 45), (.mv (.t 15)), none⟩, ⟨(some 46), (.bin .geq 0 (.t 44) (.t 45)), none⟩] []) (.cond (.t 46) .skip (.exit 0))) (.block 1 (.seq (.reg [⟨(some 47), (.mv (.t 13)), none⟩, ⟨(some 48), (.bin .sub 0 (.t 47) (.k (.v (.c (.p (.int .i64 1)))))), none⟩, ⟨(some 13), (.mv (.t 48)), none⟩] []) (.seq (.reg [⟨(some 49), (.mv (.t 13)), none⟩, ⟨(some 50), (.mv (.t 1)), none⟩, ⟨(some 51), (.mv (.t 16)), none⟩, ⟨(some 52), (.bin .and 0 (.t 50) (.t 51)), none⟩, ⟨(some 53), (.index (.k (.v (.c (.p (.str [48, 49, 50, 51, 52, 53, 54, 55, 56, 57, 97, 98, 99, 100, 101, 102, 103, 104, 105, 106, 107, 108, 109, 110, 111, 112, 113, 114, 115, 116, 117, 118, 119, 120, 121, 122]))))) (.t 52)), none⟩, ⟨(some 54), (.iaddrA 65 1 (.t 12) (.t 49)), none⟩, ⟨none, (.store 1 (.t 54) (.t 53)), none⟩] []) (.reg [⟨(some 55), (.mv (.t 1)), none⟩, ⟨(some 56), (.mv (.t 14)), none⟩, ⟨(some 57), (.bin .shr 0 (.t 55) (.t 56)), none⟩, ⟨(some 1), (.mv (.t 57)), none⟩] []))))))) (.mark 4 [0, 1, 3, 4, 10, 11, 12, 13] (.seq (.reg [⟨(some 58), (.mv (.t 13)), none⟩, ⟨(some 59), (.bin .sub 0 (.t 58) (.k (.v (.c (.p (.int .i64 1)))))), none⟩, ⟨(some 13), (.mv (.t 59)), none⟩] []) (.reg [⟨(some 60), (.mv (.t 13)), none⟩, ⟨(some 61), (.mv (.t 1)), none⟩, ⟨(some 62), (.index (.k (.v (.c (.p (.str [48, 49, 50, 51, 52, 53, 54, 55, 56, 57, 97, 98, 99, 100, 101, 102, 103, 104, 105, 106, 107, 108, 109, 110, 111, 112, 113, 114, 115, 116, 117, 118, 119, 120, 121, 122]))))) (.t 61)), none⟩, ⟨(some 63), (.iaddrA 65 1 (.t 12) (.t 60)), none⟩, ⟨none, (.store 1 (.t 63) (.t 62)), none⟩] []))))))) (.seq (.reg [⟨(some 64), (.mv (.t 2)), none⟩, ⟨(some 65), (.toInt .u64 (.t 64)), none⟩, ⟨(some 17), (.mv (.t 65)), none⟩] []) (.seq (.block 2 (.loop 5 [0, 1, 3, 4, 10, 11, 12, 13, 17] (.seq (.seq (.reg [⟨(some 66), (.mv (.t 1)), none⟩, ⟨(some 67), (.mv (.t 17)), none⟩, ⟨(some 68), (.bin .geq 0 (.t 66) (.t 67)), none⟩] []) (.cond (.t 68) .skip (.exit 2))) (.block 3 (.seq (.reg [⟨(some 69), (.mv (.t 13)), none⟩, ⟨(some 70), (.bin .sub 0 (.t 69) (.k (.v (.c (.p (.int .i64 1)))))), none⟩, ⟨(some 13), (.mv (.t 70)), none⟩] []) (.seq (.reg [⟨(some 71), (.mv (.t 1)), none⟩, ⟨(some 72), (.mv (.t 17)), none⟩, ⟨(some 73), (.bin .quo 0 (.t 71) (.t 72)), none⟩, ⟨(some 18), (.mv (.t 73)), none⟩] []) (.seq (.reg [⟨(some 74), (.mv (.t 13)), none⟩, ⟨(some 75), (.mv (.t 1)), none⟩, ⟨(some 76), (.mv (.t 18)), none⟩, ⟨(some 77), (.mv (.t 17)), none⟩, ⟨(some 78), (.bin .mul 0 (.t 76) (.t 77)), none⟩, ⟨(some 79), (.bin .sub 0 (.t 75) (.t 78)), none⟩, ⟨(some 80), (.index (.k (.v (.c (.p (.str [48, 49, 50, 51, 52, 53, 54, 55, 56, 57, 97, 98, 99, 100, 101, 102, 103, 104, 105, 106, 107, 108, 109, 110, 111, 112, 113, 114, 115, 116, 117, 118, 119, 120, 121, 122]))))) (.t 79)), none⟩, ⟨(some 81), (.iaddrA 65 1 (.t 12) (.t 74)), none⟩, ⟨none, (.store 1 (.t 81) (.t 80)), none⟩] []) (.reg [⟨(some 82), (.mv (.t 18)), none⟩, ⟨(some 1), (.mv (.t 82)), none⟩] [])))))))) (.mark 6 [0, 1, 3, 4, 10, 11, 12, 13] (.seq (.reg [⟨(some 83), (.mv (.t 13)), none⟩, ⟨(some 84), (.bin .sub 0 (.t 83) (.k (.v (.c (.p (.int .i64 1)))))), none⟩, ⟨(some 13), (.mv (.t 84)), none⟩] []) (.reg [⟨(some 85), (.mv (.t 13)), none⟩, ⟨(some 86), (.mv (.t 1)), none⟩, ⟨(some 87), (.index (.k (.v (.c (.p (.str [48, 49, 50, 51, 52, 53, 54, 55, 56, 57, 97, 98, 99, 100, 101, 102, 103, 104, 105, 106, 107, 108, 109, 110, 111, 112, 113, 114, 115, 116, 117, 118, 119, 120, 121, 122]))))) (.t 86)), none⟩, ⟨(some 88), (.iaddrA 65 1 (.t 12) (.t 85)), none⟩, ⟨none, (.store 1 (.t 88) (.t 87)), none⟩] []))))))) (.mark 7 [0, 3, 4, 10, 11, 12, 13] (.seq (.seq (.reg [⟨(some 89), (.mv (.t 3)), none⟩] []) (.cond (.t 89) (.seq (.reg [⟨(some 90), (.mv (.t 13)), none⟩, ⟨(some 91), (.bin .sub 0 (.t 90) (.k (.v (.c (.p (.int .i64 1)))))), none⟩, ⟨(some 13), (.mv (.t 91)), none⟩] []) (.reg [⟨(some 92), (.mv (.t 13)), none⟩, ⟨(some 93), (.iaddrA 65 1 (.t 12) (.t 92)), none⟩, ⟨none, (.store 1 (.t 93) (.k (.v (.c (.p (.int .u8 45)))))), none⟩] [])) .skip)) (.mark 8 [0, 4, 10, 11, 12, 13] (.seq (.seq (.reg [⟨(some 94), (.mv (.t 4)), none⟩] []) (.cond (.t 94) (.seq (.reg [⟨(some 95), (.mv (.t 0)), none⟩, ⟨(some 96), (.mv (.t 13)), none⟩, ⟨(some 97), (.sliceA 65 1 (.t 12) (some (.t 96)) none), none⟩, ⟨(some 98), (.append 1 1 false (.t 95) (.t 97)), none⟩, ⟨(some 10), (.mv (.t 98)), none⟩] []) .ret) .skip)) (.seq (.reg [⟨(some 99), (.mv (.t 13)), none⟩, ⟨(some 100), (.sliceA 65 1 (.t 12) (some (.t 99)) none), none⟩, ⟨(some 101), (.toStr (.t 100)), none⟩, ⟨(some 11), (.mv (.t 101)), none⟩] []) .ret))))))))))))) }
theorem t121 : compF Tryd.prog (globs2 tabs opq) false true Tryd.f121 = some c121.erase := by kernel_rfl
noncomputable def b121_0 (O : Oracle) (R : Jump) (q : Nat) (x0 x1 x2 x3 x4 : TVal) (h : Heap) : Res1 :=
  vbin .lss 0 x2 (kI 2) h fun x20 h =>
  vguard x20 false (fun kk => kk x2 h) h fun x22 h =>
  vguard x20 false (fun kk => vbin .eql 0 x22 (kI 10) h kk) h fun x23 h =>
  vop O (.pick (.k x20) (.k (kB true)) (.k x23)) h 24 fun x24 h =>
  vguard x24 false (fun kk => kk x2 h) h fun x26 h =>
  vguard x24 false (fun kk => vbin .gtr 0 x26 (kI 36) h kk) h fun x27 h =>
  vop O (.pick (.k x24) (.k (kB true)) (.k x27)) h 28 fun x28 h =>
  vif x28 (
  none)
  (R 1 [x0, x1, x2, x3, x4, (.v (.c (.p .nilslice))), (kS [])] h)
theorem e121_0 (O : Oracle) (R : Jump) (q : Nat) (x0 x1 x2 x3 x4 : TVal) (h : Heap) : b121_0 O R q x0 x1 x2 x3 x4 h = stepF c121 O R q 0 [x0, x1, x2, x3, x4] h := by kernel_rfl
noncomputable def b121_1 (O : Oracle) (R : Jump) (q : Nat) (x0 x1 x2 x3 x4 x10 x11 : TVal) (h : Heap) : Res1 :=
  vop O (.alloc [(.p (.int .u8 0)), (.p (.int .u8 0)), (.p (.int .u8 0)), (.p (.int .u8 0)), (.p (.int .u8 0)), (.p (.int .u8 0)), (.p (.int .u8 0)), (.p (.int .u8 0)), (.p (.int .u8 0)), (.p (.int .u8 0)), (.p (.int .u8 0)), (.p (.int .u8 0)), (.p (.int .u8 0)), (.p (.int .u8 0)), (.p (.int .u8 0)), (.p (.int .u8 0)), (.p (.int .u8 0)), (.p (.int .u8 0)), (.p (.int .u8 0)), (.p (.int .u8 0)), (.p (.int .u8 0)), (.p (.int .u8 0)), (.p (.int .u8 0)), (.p (.int .u8 0)), (.p (.int .u8 0)), (.p (.int .u8 0)), (.p (.int .u8 0)), (.p (.int .u8 0)), (.p (.int .u8 0)), (.p (.int .u8 0)), (.p (.int .u8 0)), (.p (.int .u8 0)), (.p (.int .u8 0)), (.p (.int .u8 0)), (.p (.int .u8 0)), (.p (.int .u8 0)), (.p (.int .u8 0)), (.p (.int .u8 0)), (.p (.int .u8 0)), (.p (.int .u8 0)), (.p (.int .u8 0)), (.p (.int .u8 0)), (.p (.int .u8 0)), (.p (.int .u8 0)), (.p (.int .u8 0)), (.p (.int .u8 0)), (.p (.int .u8 0)), (.p (.int .u8 0)), (.p (.int .u8 0)), (.p (.int .u8 0)), (.p (.int .u8 0)), (.p (.int .u8 0)), (.p (.int .u8 0)), (.p (.int .u8 0)), (.p (.int .u8 0)), (.p (.int .u8 0)), (.p (.int .u8 0)), (.p (.int .u8 0)), (.p (.int .u8 0)), (.p (.int .u8 0)), (.p (.int .u8 0)), (.p (.int .u8 0)), (.p (.int .u8 0)), (.p (.int .u8 0)), (.p (.int .u8 0))] false) h 12 fun x12 h =>
  vif x3 (
  vop O (.un .neg (.k x1)) h 32 fun x32 h =>
  R 2 [x0, x32, x2, x3, x4, x10, x11, x12, (kI 65)] h)
  (R 2 [x0, x1, x2, x3, x4, x10, x11, x12, (kI 65)] h)
theorem e121_1 (O : Oracle) (R : Jump) (q : Nat) (x0 x1 x2 x3 x4 x10 x11 : TVal) (h : Heap) : b121_1 O R q x0 x1 x2 x3 x4 x10 x11 h = stepF c121 O R q 1 [x0, x1, x2, x3, x4, x10, x11] h := by kernel_rfl
noncomputable def b121_2 (O : Oracle) (R : Jump) (q : Nat) (x0 x1 x2 x3 x4 x10 x11 x12 x13 : TVal) (h : Heap) : Res1 :=
  vcall O (.v (.c (.func 130 []))) [x2] h 34 fun x34 h =>
  vif x34 (
  vtoInt .u64 x2 h fun x36 h =>
  vcall O (.v (.c (.func 131 []))) [x36] h 37 fun x37 h =>
  vtoInt .u64 x37 h fun x38 h =>
  vtoInt .u64 x2 h fun x40 h =>
  vtoInt .u64 x2 h fun x42 h =>
  vbin .sub 0 x42 (.v (.c (.p (.int .u64 1)))) h fun x43 h =>
  R 3 [x0, x1, x3, x4, x10, x11, x12, x13, x38, x40, x43] h)
  (vtoInt .u64 x2 h fun x65 h =>
  R 5 [x0, x1, x3, x4, x10, x11, x12, x13, x65] h)
theorem e121_2 (O : Oracle) (R : Jump) (q : Nat) (x0 x1 x2 x3 x4 x10 x11 x12 x13 : TVal) (h : Heap) : b121_2 O R q x0 x1 x2 x3 x4 x10 x11 x12 x13 h = stepF c121 O R q 2 [x0, x1, x2, x3, x4, x10, x11, x12, x13] h := by kernel_rfl
noncomputable def b121_3 (O : Oracle) (R : Jump) (q : Nat) (x0 x1 x3 x4 x10 x11 x12 x13 x14 x15 x16 : TVal) (h : Heap) : Res1 :=
  vbin .geq 0 x1 x15 h fun x46 h =>
  vif x46 (
  vbin .sub 0 x13 (kI 1) h fun x48 h =>
  vbin .and 0 x1 x16 h fun x52 h =>
  vindex (kS [48, 49, 50, 51, 52, 53, 54, 55, 56, 57, 97, 98, 99, 100, 101, 102, 103, 104, 105, 106, 107, 108, 109, 110, 111, 112, 113, 114, 115, 116, 117, 118, 119, 120, 121, 122]) x52 h fun x53 h =>
  vop O (.iaddrA 65 1 (.k x12) (.k x48)) h 54 fun x54 h =>
  vstore 1 x54 x53 h fun _ h =>
  vbin .shr 0 x1 x14 h fun x57 h =>
  R 3 [x0, x57, x3, x4, x10, x11, x12, x48, x14, x15, x16] h)
  (R 4 [x0, x1, x3, x4, x10, x11, x12, x13] h)
theorem e121_3 (O : Oracle) (R : Jump) (q : Nat) (x0 x1 x3 x4 x10 x11 x12 x13 x14 x15 x16 : TVal) (h : Heap) : b121_3 O R q x0 x1 x3 x4 x10 x11 x12 x13 x14 x15 x16 h = stepF c121 O R q 3 [x0, x1, x3, x4, x10, x11, x12, x13, x14, x15, x16] h := by kernel_rfl
noncomputable def b121_4 (O : Oracle) (R : Jump) (q : Nat) (x0 x1 x3 x4 x10 x11 x12 x13 : TVal) (h : Heap) : Res1 :=
  vbin .sub 0 x13 (kI 1) h fun x59 h =>
  vindex (kS [48, 49, 50, 51, 52, 53, 54, 55, 56, 57, 97, 98, 99, 100, 101, 102, 103, 104, 105, 106, 107, 108, 109, 110, 111, 112, 113, 114, 115, 116, 117, 118, 119, 120, 121, 122]) x1 h fun x62 h =>
  vop O (.iaddrA 65 1 (.k x12) (.k x59)) h 63 fun x63 h =>
  vstore 1 x63 x62 h fun _ h =>
  R 7 [x0, x3, x4, x10, x11, x12, x59] h
theorem e121_4 (O : Oracle) (R : Jump) (q : Nat) (x0 x1 x3 x4 x10 x11 x12 x13 : TVal) (h : Heap) : b121_4 O R q x0 x1 x3 x4 x10 x11 x12 x13 h = stepF c121 O R q 4 [x0, x1, x3, x4, x10, x11, x12, x13] h := by kernel_rfl
noncomputable def b121_5 (O : Oracle) (R : Jump) (q : Nat) (x0 x1 x3 x4 x10 x11 x12 x13 x17 : TVal) (h : Heap) : Res1 :=
  vbin .geq 0 x1 x17 h fun x68 h =>
  vif x68 (
  vbin .sub 0 x13 (kI 1) h fun x70 h =>
  vbin .quo 0 x1 x17 h fun x73 h =>
  vbin .mul 0 x73 x17 h fun x78 h =>
  vbin .sub 0 x1 x78 h fun x79 h =>
  vindex (kS [48, 49, 50, 51, 52, 53, 54, 55, 56, 57, 97, 98, 99, 100, 101, 102, 103, 104, 105, 106, 107, 108, 109, 110, 111, 112, 113, 114, 115, 116, 117, 118, 119, 120, 121, 122]) x79 h fun x80 h =>
  vop O (.iaddrA 65 1 (.k x12) (.k x70)) h 81 fun x81 h =>
  vstore 1 x81 x80 h fun _ h =>
  R 5 [x0, x73, x3, x4, x10, x11, x12, x70, x17] h)
  (R 6 [x0, x1, x3, x4, x10, x11, x12, x13] h)
theorem e121_5 (O : Oracle) (R : Jump) (q : Nat) (x0 x1 x3 x4 x10 x11 x12 x13 x17 : TVal) (h : Heap) : b121_5 O R q x0 x1 x3 x4 x10 x11 x12 x13 x17 h = stepF c121 O R q 5 [x0, x1, x3, x4, x10, x11, x12, x13, x17] h := by kernel_rfl
noncomputable def b121_6 (O : Oracle) (R : Jump) (q : Nat) (x0 x1 x3 x4 x10 x11 x12 x13 : TVal) (h : Heap) : Res1 :=
  vbin .sub 0 x13 (kI 1) h fun x84 h =>
  vindex (kS [48, 49, 50, 51, 52, 53, 54, 55, 56, 57, 97, 98, 99, 100, 101, 102, 103, 104, 105, 106, 107, 108, 109, 110, 111, 112, 113, 114, 115, 116, 117, 118, 119, 120, 121, 122]) x1 h fun x87 h =>
  vop O (.iaddrA 65 1 (.k x12) (.k x84)) h 88 fun x88 h =>
  vstore 1 x88 x87 h fun _ h =>
  R 7 [x0, x3, x4, x10, x11, x12, x84] h
theorem e121_6 (O : Oracle) (R : Jump) (q : Nat) (x0 x1 x3 x4 x10 x11 x12 x13 : TVal) (h : Heap) : b121_6 O R q x0 x1 x3 x4 x10 x11 x12 x13 h = stepF c121 O R q 6 [x0, x1, x3, x4, x10, x11, x12, x13] h := by kernel_rfl
noncomputable def b121_7 (O : Oracle) (R : Jump) (q : Nat) (x0 x3 x4 x10 x11 x12 x13 : TVal) (h : Heap) : Res1 :=
  vif x3 (
  vbin .sub 0 x13 (kI 1) h fun x91 h =>
  vop O (.iaddrA 65 1 (.k x12) (.k x91)) h 93 fun x93 h =>
  vstore 1 x93 (.v (.c (.p (.int .u8 45)))) h fun _ h =>
  R 8 [x0, x4, x10, x11, x12, x91] h)
  (R 8 [x0, x4, x10, x11, x12, x13] h)
theorem e121_7 (O : Oracle) (R : Jump) (q : Nat) (x0 x3 x4 x10 x11 x12 x13 : TVal) (h : Heap) : b121_7 O R q x0 x3 x4 x10 x11 x12 x13 h = stepF c121 O R q 7 [x0, x3, x4, x10, x11, x12, x13] h := by kernel_rfl
noncomputable def b121_8 (O : Oracle) (R : Jump) (q : Nat) (x0 x4 x10 x11 x12 x13 : TVal) (h : Heap) : Res1 :=
  vif x4 (
  vop O (.sliceA 65 1 (.k x12) (some (.k x13)) none) h 97 fun x97 h =>
  vop O (.append 1 1 false (.k x0) (.k x97)) h 98 fun x98 h =>
  tcomp x98 fun c0 => tcomp x11 fun c1 => vfin true q [c0, c1] h)
  (vop O (.sliceA 65 1 (.k x12) (some (.k x13)) none) h 100 fun x100 h =>
  vop O (.toStr (.k x100)) h 101 fun x101 h =>
  tcomp x10 fun c0 => tcomp x101 fun c1 => vfin true q [c0, c1] h)
theorem e121_8 (O : Oracle) (R : Jump) (q : Nat) (x0 x4 x10 x11 x12 x13 : TVal) (h : Heap) : b121_8 O R q x0 x4 x10 x11 x12 x13 h = stepF c121 O R q 8 [x0, x4, x10, x11, x12, x13] h := by kernel_rfl
noncomputable def d121 : BlkF := fun O R q => [.s fun y0 => .s fun y1 => .s fun y2 => .s fun y3 => .s fun y4 => .z fun h => b121_0 O R q y0 y1 y2 y3 y4 h, .s fun y0 => .s fun y1 => .s fun y2 => .s fun y3 => .s fun y4 => .s fun y5 => .s fun y6 => .z fun h => b121_1 O R q y0 y1 y2 y3 y4 y5 y6 h, .s fun y0 => .s fun y1 => .s fun y2 => .s fun y3 => .s fun y4 => .s fun y5 => .s fun y6 => .s fun y7 => .s fun y8 => .z fun h => b121_2 O R q y0 y1 y2 y3 y4 y5 y6 y7 y8 h, .s fun y0 => .s fun y1 => .s fun y2 => .s fun y3 => .s fun y4 => .s fun y5 => .s fun y6 => .s fun y7 => .s fun y8 => .s fun y9 => .s fun y10 => .z fun h => b121_3 O R q y0 y1 y2 y3 y4 y5 y6 y7 y8 y9 y10 h, .s fun y0 => .s fun y1 => .s fun y2 => .s fun y3 => .s fun y4 => .s fun y5 => .s fun y6 => .s fun y7 => .z fun h => b121_4 O R q y0 y1 y2 y3 y4 y5 y6 y7 h, .s fun y0 => .s fun y1 => .s fun y2 => .s fun y3 => .s fun y4 => .s fun y5 => .s fun y6 => .s fun y7 => .s fun y8 => .z fun h => b121_5 O R q y0 y1 y2 y3 y4 y5 y6 y7 y8 h, .s fun y0 => .s fun y1 => .s fun y2 => .s fun y3 => .s fun y4 => .s fun y5 => .s fun y6 => .s fun y7 => .z fun h => b121_6 O R q y0 y1 y2 y3 y4 y5 y6 y7 h, .s fun y0 => .s fun y1 => .s fun y2 => .s fun y3 => .s fun y4 => .s fun y5 => .s fun y6 => .z fun h => b121_7 O R q y0 y1 y2 y3 y4 y5 y6 h, .s fun y0 => .s fun y1 => .s fun y2 => .s fun y3 => .s fun y4 => .s fun y5 => .z fun h => b121_8 O R q y0 y1 y2 y3 y4 y5 h]
theorem o121 (O : Oracle) (R : Jump) (q : Nat) : HoldsAll c121 O R q 0 (d121 O R q) := ⟨fun y0 y1 y2 y3 y4 h => e121_0 O R q y0 y1 y2 y3 y4 h, fun y0 y1 y2 y3 y4 y5 y6 h => e121_1 O R q y0 y1 y2 y3 y4 y5 y6 h, fun y0 y1 y2 y3 y4 y5 y6 y7 y8 h => e121_2 O R q y0 y1 y2 y3 y4 y5 y6 y7 y8 h, fun y0 y1 y2 y3 y4 y5 y6 y7 y8 y9 y10 h => e121_3 O R q y0 y1 y2 y3 y4 y5 y6 y7 y8 y9 y10 h, fun y0 y1 y2 y3 y4 y5 y6 y7 h => e121_4 O R q y0 y1 y2 y3 y4 y5 y6 y7 h, fun y0 y1 y2 y3 y4 y5 y6 y7 y8 h => e121_5 O R q y0 y1 y2 y3 y4 y5 y6 y7 y8 h, fun y0 y1 y2 y3 y4 y5 y6 y7 h => e121_6 O R q y0 y1 y2 y3 y4 y5 y6 y7 h, fun y0 y1 y2 y3 y4 y5 y6 h => e121_7 O R q y0 y1 y2 y3 y4 y5 y6 h, fun y0 y1 y2 y3 y4 y5 h => e121_8 O R q y0 y1 y2 y3 y4 y5 h, trivial⟩
/- internal/stringslite.IndexByte -/
def c123 : MFunc := { np := 2, res := [.t 4], frz := true, body := (.seq (.reg [⟨(some 4), (.mv (.k (.v (.c (.p (.int .i64 0)))))), none⟩] []) (.seq (.reg [⟨(some 5), (.mv (.t 0)), none⟩, ⟨(some 6), (.mv (.t 1)), none⟩, ⟨(some 7), (.call (.k (.v (.c (.func 132 [])))) [(.t 5), (.t 6)]), none⟩, ⟨(some 4), (.mv (.t 7)), none⟩] []) .ret)) }
theorem t123 : compF Tryd.prog (globs2 tabs opq) false true Tryd.f123 = some c123.erase := by kernel_rfl
noncomputable def b123_0 (O : Oracle) (R : Jump) (q : Nat) (x0 x1 : TVal) (h : Heap) : Res1 :=
  vcall O (.v (.c (.func 132 []))) [x0, x1] h 7 fun x7 h =>
  tcomp x7 fun c0 => vfin true q [c0] h
theorem e123_0 (O : Oracle) (R : Jump) (q : Nat) (x0 x1 : TVal) (h : Heap) : b123_0 O R q x0 x1 h = stepF c123 O R q 0 [x0, x1] h := by kernel_rfl
noncomputable def d123 : BlkF := fun O R q => [.s fun y0 => .s fun y1 => .z fun h => b123_0 O R q y0 y1 h]
theorem o123 (O : Oracle) (R : Jump) (q : Nat) : HoldsAll c123 O R q 0 (d123 O R q) := ⟨fun y0 y1 h => e123_0 O R q y0 y1 h, trivial⟩
/- internal/bytealg.Cutover -/
def c125 : MFunc := { np := 1, res := [.t 2], frz := true, body := (.seq (.reg [⟨(some 2), (.mv (.k (.v (.c (.p (.int .i64 0)))))), none⟩] []) (.seq (.reg [⟨(some 3), (.mv (.t 0)), none⟩, ⟨(some 4), (.bin .add 0 (.t 3) (.k (.v (.c (.p (.int .i64 16)))))), none⟩, ⟨(some 5), (.bin .quo 0 (.t 4) (.k (.v (.c (.p (.int .i64 8)))))), none⟩, ⟨(some 2), (.mv (.t 5)), none⟩] []) .ret)) }
theorem t125 : compF Tryd.prog (globs2 tabs opq) false true Tryd.f125 = some c125.erase := by kernel_rfl
noncomputable def b125_0 (O : Oracle) (R : Jump) (q : Nat) (x0 : TVal) (h : Heap) : Res1 :=
  vbin .add 0 x0 (kI 16) h fun x4 h =>
  vbin .quo 0 x4 (kI 8) h fun x5 h =>
  tcomp x5 fun c0 => vfin true q [c0] h
theorem e125_0 (O : Oracle) (R : Jump) (q : Nat) (x0 : TVal) (h : Heap) : b125_0 O R q x0 h = stepF c125 O R q 0 [x0] h := by kernel_rfl
noncomputable def d125 : BlkF := fun O R q => [.s fun y0 => .z fun h => b125_0 O R q y0 h]
theorem o125 (O : Oracle) (R : Jump) (q : Nat) : HoldsAll c125 O R q 0 (d125 O R q) := ⟨fun y0 h => e125_0 O R q y0 h, trivial⟩
/- internal/bytealg.IndexRabinKarp[string] -/
def c126 : MFunc := { np := 2, res := [.t 4], frz := true, body := (.seq (.reg [⟨(some 4), (.mv (.k (.v (.c (.p (.int .i64 0)))))), none⟩] []) (.seq (.reg [⟨(some 12), (.mv (.t 1)), none⟩, ⟨(some 13), (.call (.k (.v (.c (.func 133 [])))) [(.t 12)]), none⟩, ⟨(some 11), (.mv (.t 13)), none⟩, ⟨(some 14), (.extract (.t 11) 0), none⟩, ⟨(some 15), (.extract (.t 11) 1), none⟩, ⟨(some 5), (.mv (.t 14)), none⟩, ⟨(some 6), (.mv (.t 15)), none⟩] []) (.seq (.reg [⟨(some 16), (.mv (.t 1)), none⟩, ⟨(some 17), (.len 0 (.t 16)), none⟩, ⟨(some 7), (.mv (.t 17)), none⟩] []) (.seq (.reg [⟨(some 8), (.mv (.k (.v (.c (.p (.int .u32 0)))))), none⟩] []) (.seq (.seq (.reg [⟨(some 9), (.mv (.k (.v (.c (.p (.int .i64 0)))))), none⟩] []) (.block 0 (.loop 1 [0, 1, 5, 6, 7, 8, 9] (.seq (.seq (.reg [⟨(some 18), (.mv (.t 9)), none⟩, ⟨(some 19), (.mv (.t 7)), none⟩, ⟨(some 20), (.bin .lss 0 (.t 18) (.t 19)), none⟩] []) (.cond (.t 20) .skip (.exit 0))) (.seq (.block 1 (.reg [⟨(some 23), (.mv (.t 8)), none⟩, ⟨(some 24), (.bin .mul 0 (.t 23) (.k (.v (.c (.p (.int .u32 16777619)))))), none⟩, ⟨(some 25), (.mv (.t 0)), none⟩, ⟨(some 26), (.mv (.t 9)), none⟩, ⟨(some 27), (.index (.t 25) (.t 26)), none⟩, ⟨(some 28), (.toInt .u32 (.t 27)), none⟩, ⟨(some 29), (.bin .add 0 (.t 24) (.t 28)), none⟩, ⟨(some 8), (.mv (.t 29)), none⟩] [])) (.reg [⟨(some 21), (.mv (.t 9)), none⟩, ⟨(some 22), (.bin .add 0 (.t 21) (.k (.v (.c (.p (.int .i64 1)))))), none⟩, ⟨(some 9), (.mv (.t 22)), none⟩] [])))))) (.mark 2 [0, 1, 5, 6, 7, 8] (.seq (.seq (.reg [⟨(some 30), (.mv (.t 8)), none⟩, ⟨(some 31), (.mv (.t 5)), none⟩, ⟨(some 32), (.bin .eql 0 (.t 30) (.t 31)), none⟩, ⟨(some 33), (.mv (.t 32)), none⟩, ⟨(some 34), (.mv (.t 0)), (some (33, true))⟩, ⟨(some 35), (.mv (.t 7)), (some (33, true))⟩, ⟨(some 36), (.slice 0 true (.t 34) none (some (.t 35)) none), (some (33, true))⟩, ⟨(some 37), (.mv (.t 1)), (some (33, true))⟩, ⟨(some 38), (.bin .eql 0 (.t 36) (.t 37)), (some (33, true))⟩, ⟨(some 39), (.pick (.t 33) (.t 38) (.k (.v (.c (.p (.bool false)))))), none⟩] []) (.cond (.t 39) (.seq (.reg [⟨(some 4), (.mv (.k (.v (.c (.p (.int .i64 0)))))), none⟩] []) .ret) .skip)) (.seq (.seq (.reg [⟨(some 40), (.mv (.t 7)), none⟩, ⟨(some 10), (.mv (.t 40)), none⟩] []) (.block 2 (.loop 3 [0, 1, 5, 6, 7, 8, 10] (.seq (.seq (.reg [⟨(some 41), (.mv (.t 10)), none⟩, ⟨(some 42), (.mv (.t 0)), none⟩, ⟨(some 43), (.len 0 (.t 42)), none⟩, ⟨(some 44), (.bin .lss 0 (.t 41) (.t 43)), none⟩] []) (.cond (.t 44) .skip (.exit 2))) (.block 3 (.seq (.reg [⟨(some 45), (.mv (.t 8)), none⟩, ⟨(some 46), (.bin .mul 0 (.t 45) (.k (.v (.c (.p (.int .u32 16777619)))))), none⟩, ⟨(some 8), (.mv (.t 46)), none⟩] []) (.seq (.reg [⟨(some 47), (.mv (.t 8)), none⟩, ⟨(some 48), (.mv (.t 0)), none⟩, ⟨(some 49), (.mv (.t 10)), none⟩, ⟨(some 50), (.index (.t 48) (.t 49)), none⟩, ⟨(some 51), (.toInt .u32 (.t 50)), none⟩, ⟨(some 52), (.bin .add 0 (.t 47) (.t 51)), none⟩, ⟨(some 8), (.mv (.t 52)), none⟩] []) (.seq (.reg [⟨(some 53), (.mv (.t 8)), none⟩, ⟨(some 54), (.mv (.t 6)), none⟩, ⟨(some 55), (.mv (.t 0)), none⟩, ⟨(some 56), (.mv (.t 10)), none⟩, ⟨(some 57), (.mv (.t 7)), none⟩, ⟨(some 58), (.bin .sub 0 (.t 56) (.t 57)), none⟩, ⟨(some 59), (.index (.t 55) (.t 58)), none⟩, ⟨(some 60), (.toInt .u32 (.t 59)), none⟩, ⟨(some 61), (.bin .mul 0 (.t 54) (.t 60)), none⟩, ⟨(some 62), (.bin .sub 0 (.t 53) (.t 61)), none⟩, ⟨(some 8), (.mv (.t 62)), none⟩] []) (.seq (.reg [⟨(some 63), (.mv (.t 10)), none⟩, ⟨(some 64), (.bin .add 0 (.t 63) (.k (.v (.c (.p (.int .i64 1)))))), none⟩, ⟨(some 10), (.mv (.t 64)), none⟩] []) (.seq (.reg [⟨(some 65), (.mv (.t 8)), none⟩, ⟨(some 66), (.mv (.t 5)), none⟩, ⟨(some 67), (.bin .eql 0 (.t 65) (.t 66)), none⟩, ⟨(some 68), (.mv (.t 67)), none⟩, ⟨(some 69), (.mv (.t 0)), (some (68, true))⟩, ⟨(some 70), (.mv (.t 10)), (some (68, true))⟩, ⟨(some 71), (.mv (.t 7)), (some (68, true))⟩, ⟨(some 72), (.bin .sub 0 (.t 70) (.t 71)), (some (68, true))⟩, ⟨(some 73), (.mv (.t 10)), (some (68, true))⟩, ⟨(some 74), (.slice 0 true (.t 69) (some (.t 72)) (some (.t 73)) none), (some (68, true))⟩, ⟨(some 75), (.mv (.t 1)), (some (68, true))⟩, ⟨(some 76), (.bin .eql 0 (.t 74) (.t 75)), (some (68, true))⟩, ⟨(some 77), (.pick (.t 68) (.t 76) (.k (.v (.c (.p (.bool false)))))), none⟩] []) (.cond (.t 77) (.seq (.reg [⟨(some 78), (.mv (.t 10)), none⟩, ⟨(some 79), (.mv (.t 7)), none⟩, ⟨(some 80), (.bin .sub 0 (.t 78) (.t 79)), none⟩, ⟨(some 4), (.mv (.t 80)), none⟩] []) .ret) .skip))))))))))) (.seq (.reg [⟨(some 4), (.mv (.k (.v (.c (.p (.int .i64 (-1))))))), none⟩] []) .ret))))))))) }
theorem t126 : compF Tryd.prog (globs2 tabs opq) false true Tryd.f126 = some c126.erase := by kernel_rfl
noncomputable def b126_0 (O : Oracle) (R : Jump) (q : Nat) (x0 x1 : TVal) (h : Heap) : Res1 :=
  vcall O (.v (.c (.func 133 []))) [x1] h 13 fun x13 h =>
  vext x13 0 h fun x14 h =>
  vext x13 1 h fun x15 h =>
  vlen O 0 x1 h 17 fun x17 h =>
  R 1 [x0, x1, x14, x15, x17, (.v (.c (.p (.int .u32 0)))), (kI 0)] h
theorem e126_0 (O : Oracle) (R : Jump) (q : Nat) (x0 x1 : TVal) (h : Heap) : b126_0 O R q x0 x1 h = stepF c126 O R q 0 [x0, x1] h := by kernel_rfl
noncomputable def b126_1 (O : Oracle) (R : Jump) (q : Nat) (x0 x1 x5 x6 x7 x8 x9 : TVal) (h : Heap) : Res1 :=
  vbin .lss 0 x9 x7 h fun x20 h =>
  vif x20 (
  vbin .mul 0 x8 (.v (.c (.p (.int .u32 16777619)))) h fun x24 h =>
  vindex x0 x9 h fun x27 h =>
  vtoInt .u32 x27 h fun x28 h =>
  vbin .add 0 x24 x28 h fun x29 h =>
  vbin .add 0 x9 (kI 1) h fun x22 h =>
  R 1 [x0, x1, x5, x6, x7, x29, x22] h)
  (R 2 [x0, x1, x5, x6, x7, x8] h)
theorem e126_1 (O : Oracle) (R : Jump) (q : Nat) (x0 x1 x5 x6 x7 x8 x9 : TVal) (h : Heap) : b126_1 O R q x0 x1 x5 x6 x7 x8 x9 h = stepF c126 O R q 1 [x0, x1, x5, x6, x7, x8, x9] h := by kernel_rfl
noncomputable def b126_2 (O : Oracle) (R : Jump) (q : Nat) (x0 x1 x5 x6 x7 x8 : TVal) (h : Heap) : Res1 :=
  vbin .eql 0 x8 x5 h fun x32 h =>
  vguard x32 true (fun kk => kk x0 h) h fun x34 h =>
  vguard x32 true (fun kk => kk x7 h) h fun x35 h =>
  vguard x32 true (fun kk => vop O (.slice 0 true (.k x34) none (some (.k x35)) none) h 36 kk) h fun x36 h =>
  vguard x32 true (fun kk => kk x1 h) h fun x37 h =>
  vguard x32 true (fun kk => vbin .eql 0 x36 x37 h kk) h fun x38 h =>
  vop O (.pick (.k x32) (.k x38) (.k (kB false))) h 39 fun x39 h =>
  vif x39 (
  tcomp (kI 0) fun c0 => vfin true q [c0] h)
  (R 3 [x0, x1, x5, x6, x7, x8, x7] h)
theorem e126_2 (O : Oracle) (R : Jump) (q : Nat) (x0 x1 x5 x6 x7 x8 : TVal) (h : Heap) : b126_2 O R q x0 x1 x5 x6 x7 x8 h = stepF c126 O R q 2 [x0, x1, x5, x6, x7, x8] h := by kernel_rfl
noncomputable def b126_3 (O : Oracle) (R : Jump) (q : Nat) (x0 x1 x5 x6 x7 x8 x10 : TVal) (h : Heap) : Res1 :=
  vlen O 0 x0 h 43 fun x43 h =>
  vbin .lss 0 x10 x43 h fun x44 h =>
  vif x44 (
  vbin .mul 0 x8 (.v (.c (.p (.int .u32 16777619)))) h fun x46 h =>
  vindex x0 x10 h fun x50 h =>
  vtoInt .u32 x50 h fun x51 h =>
  vbin .add 0 x46 x51 h fun x52 h =>
  vbin .sub 0 x10 x7 h fun x58 h =>
  vindex x0 x58 h fun x59 h =>
  vtoInt .u32 x59 h fun x60 h =>
  vbin .mul 0 x6 x60 h fun x61 h =>
  vbin .sub 0 x52 x61 h fun x62 h =>
  vbin .add 0 x10 (kI 1) h fun x64 h =>
  vbin .eql 0 x62 x5 h fun x67 h =>
  vguard x67 true (fun kk => kk x0 h) h fun x69 h =>
  vguard x67 true (fun kk => kk x64 h) h fun x70 h =>
  vguard x67 true (fun kk => kk x7 h) h fun x71 h =>
  vguard x67 true (fun kk => vbin .sub 0 x70 x71 h kk) h fun x72 h =>
  vguard x67 true (fun kk => kk x64 h) h fun x73 h =>
  vguard x67 true (fun kk => vop O (.slice 0 true (.k x69) (some (.k x72)) (some (.k x73)) none) h 74 kk) h fun x74 h =>
  vguard x67 true (fun kk => kk x1 h) h fun x75 h =>
  vguard x67 true (fun kk => vbin .eql 0 x74 x75 h kk) h fun x76 h =>
  vop O (.pick (.k x67) (.k x76) (.k (kB false))) h 77 fun x77 h =>
  vif x77 (
  vbin .sub 0 x64 x7 h fun x80 h =>
  tcomp x80 fun c0 => vfin true q [c0] h)
  (R 3 [x0, x1, x5, x6, x7, x62, x64] h))
  (tcomp (kI (-1)) fun c0 => vfin true q [c0] h)
theorem e126_3 (O : Oracle) (R : Jump) (q : Nat) (x0 x1 x5 x6 x7 x8 x10 : TVal) (h : Heap) : b126_3 O R q x0 x1 x5 x6 x7 x8 x10 h = stepF c126 O R q 3 [x0, x1, x5, x6, x7, x8, x10] h := by kernel_rfl
noncomputable def d126 : BlkF := fun O R q => [.s fun y0 => .s fun y1 => .z fun h => b126_0 O R q y0 y1 h, .s fun y0 => .s fun y1 => .s fun y2 => .s fun y3 => .s fun y4 => .s fun y5 => .s fun y6 => .z fun h => b126_1 O R q y0 y1 y2 y3 y4 y5 y6 h, .s fun y0 => .s fun y1 => .s fun y2 => .s fun y3 => .s fun y4 => .s fun y5 => .z fun h => b126_2 O R q y0 y1 y2 y3 y4 y5 h, .s fun y0 => .s fun y1 => .s fun y2 => .s fun y3 => .s fun y4 => .s fun y5 => .s fun y6 => .z fun h => b126_3 O R q y0 y1 y2 y3 y4 y5 y6 h]
theorem o126 (O : Oracle) (R : Jump) (q : Nat) : HoldsAll c126 O R q 0 (d126 O R q) := ⟨fun y0 y1 h => e126_0 O R q y0 y1 h, fun y0 y1 y2 y3 y4 y5 y6 h => e126_1 O R q y0 y1 y2 y3 y4 y5 y6 h, fun y0 y1 y2 y3 y4 y5 h => e126_2 O R q y0 y1 y2 y3 y4 y5 h, fun y0 y1 y2 y3 y4 y5 y6 h => e126_3 O R q y0 y1 y2 y3 y4 y5 y6 h, trivial⟩
/- internal/strconv.log10Pow2 -/
def c127 : MFunc := { np := 1, res := [.t 2], frz := true, body := (.seq (.reg [⟨(some 2), (.mv (.k (.v (.c (.p (.int .i64 0)))))), none⟩] []) (.seq (.reg [⟨(some 3), (.mv (.t 0)), none⟩, ⟨(some 4), (.bin .mul 0 (.t 3) (.k (.v (.c (.p (.int .i64 78913)))))), none⟩, ⟨(some 5), (.bin .shr 0 (.t 4) (.k (.v (.c (.p (.int .u64 18)))))), none⟩, ⟨(some 2), (.mv (.t 5)), none⟩] []) .ret)) }
theorem t127 : compF Tryd.prog (globs2 tabs opq) false true Tryd.f127 = some c127.erase := by kernel_rfl
noncomputable def b127_0 (O : Oracle) (R : Jump) (q : Nat) (x0 : TVal) (h : Heap) : Res1 :=
  vbin .mul 0 x0 (kI 78913) h fun x4 h =>
  vbin .shr 0 x4 (.v (.c (.p (.int .u64 18)))) h fun x5 h =>
  tcomp x5 fun c0 => vfin true q [c0] h
theorem e127_0 (O : Oracle) (R : Jump) (q : Nat) (x0 : TVal) (h : Heap) : b127_0 O R q x0 h = stepF c127 O R q 0 [x0] h := by kernel_rfl
noncomputable def d127 : BlkF := fun O R q => [.s fun y0 => .z fun h => b127_0 O R q y0 h]
theorem o127 (O : Oracle) (R : Jump) (q : Nat) : HoldsAll c127 O R q 0 (d127 O R q) := ⟨fun y0 h => e127_0 O R q y0 h, trivial⟩
/- math/bits.Len64 -/
def c128 : MFunc := { np := 1, res := [.t 2], frz := true, body := (.seq (.reg [⟨(some 2), (.mv (.k (.v (.c (.p (.int .i64 0)))))), none⟩] []) (.seq (.seq (.reg [⟨(some 3), (.mv (.t 0)), none⟩, ⟨(some 4), (.bin .geq 0 (.t 3) (.k (.v (.c (.p (.int .u64 4294967296)))))), none⟩] []) (.cond (.t 4) (.seq (.reg [⟨(some 5), (.mv (.t 0)), none⟩, ⟨(some 6), (.bin .shr 0 (.t 5) (.k (.v (.c (.p (.int .u64 32)))))), none⟩, ⟨(some 0), (.mv (.t 6)), none⟩] []) (.reg [⟨(some 2), (.mv (.k (.v (.c (.p (.int .i64 32)))))), none⟩] [])) .skip)) (.mark 1 [0, 2] (.seq (.seq (.reg [⟨(some 7), (.mv (.t 0)), none⟩, ⟨(some 8), (.bin .geq 0 (.t 7) (.k (.v (.c (.p (.int .u64 65536)))))), none⟩] []) (.cond (.t 8) (.seq (.reg [⟨(some 9), (.mv (.t 0)), none⟩, ⟨(some 10), (.bin .shr 0 (.t 9) (.k (.v (.c (.p (.int .u64 16)))))), none⟩, ⟨(some 0), (.mv (.t 10)), none⟩] []) (.reg [⟨(some 11), (.mv (.t 2)), none⟩, ⟨(some 12), (.bin .add 0 (.t 11) (.k (.v (.c (.p (.int .i64 16)))))), none⟩, ⟨(some 2), (.mv (.t 12)), none⟩] [])) .skip)) (.mark 2 [0, 2] (.seq (.seq (.reg [⟨(some 13), (.mv (.t 0)), none⟩, ⟨(some 14), (.bin .geq 0 (.t 13) (.k (.v (.c (.p (.int .u64 256)))))), none⟩] []) (.cond (.t 14) (.seq (.reg [⟨(some 15), (.mv (.t 0)), none⟩, ⟨(some 16), (.bin .shr 0 (.t 15) (.k (.v (.c (.p (.int .u64 8)))))), none⟩, ⟨(some 0), (.mv (.t 16)), none⟩] []) (.reg [⟨(some 17), (.mv (.t 2)), none⟩, ⟨(some 18), (.bin .add 0 (.t 17) (.k (.v (.c (.p (.int .i64 8)))))), none⟩, ⟨(some 2), (.mv (.t 18)), none⟩] [])) .skip)) (.mark 3 [0, 2] (.seq (.reg [⟨(some 19), (.mv (.t 2)), none⟩, ⟨(some 20), (.mv (.t 0)), none⟩, ⟨(some 21), (.toInt .u8 (.t 20)), none⟩, ⟨(some 22), (.index (.k (.v (.c (.p (.str [0, 1, 2, 2, 3, 3, 3, 3, 4, 4, 4, 4, 4, 4, 4, 4, 5, 5, 5, 5, 5, 5, 5, 5, 5, 5, 5, 5, 5, 5, 5, 5, 6, 6, 6, 6, 6, 6, 6, 6, 6, 6, 6, 6, 6, 6, 6, 6, 6, 6, 6, 6, 6, 6, 6, 6, 6, 6, 6, 6, 6, 6, 6, 6, 7, 7, 7, 7, 7, 7, 7, 7, 7, 7, 7, 7, 7, 7, 7, 7, 7, 7, 7, 7, 7, 7, 7, 7, 7, 7, 7, 7, 7, 7, 7, 7, 7, 7, 7, 7, 7, 7, 7, 7, 7, 7, 7, 7, 7, 7, 7, 7, 7, 7, 7, 7, 7, 7, 7, 7, 7, 7, 7, 7, 7, 7, 7, 7, 8, 8, 8, 8, 8, 8, 8, 8, 8, 8, 8, 8, 8, 8, 8, 8, 8, 8, 8, 8, 8, 8, 8, 8, 8, 8, 8, 8, 8, 8, 8, 8, 8, 8, 8, 8, 8, 8, 8, 8, 8, 8, 8, 8, 8, 8, 8, 8, 8, 8, 8, 8, 8, 8, 8, 8, 8, 8, 8, 8, 8, 8, 8, 8, 8, 8, 8, 8, 8, 8, 8, 8, 8, 8, 8, 8, 8, 8, 8, 8, 8, 8, 8, 8, 8, 8, 8, 8, 8, 8, 8, 8, 8, 8, 8, 8, 8, 8, 8, 8, 8, 8, 8, 8, 8, 8, 8, 8, 8, 8, 8, 8, 8, 8, 8, 8, 8, 8, 8, 8, 8, 8, 8, 8, 8, 8, 8, 8]))))) (.t 21)), none⟩, ⟨(some 23), (.toInt .i64 (.t 22)), none⟩, ⟨(some 24), (.bin .add 0 (.t 19) (.t 23)), none⟩, ⟨(some 2), (.mv (.t 24)), none⟩] []) .ret)))))))) }
theorem t128 : compF Tryd.prog (globs2 tabs opq) false true Tryd.f128 = some c128.erase := by kernel_rfl
noncomputable def b128_0 (O : Oracle) (R : Jump) (q : Nat) (x0 : TVal) (h : Heap) : Res1 :=
  vbin .geq 0 x0 (.v (.c (.p (.int .u64 4294967296)))) h fun x4 h =>
  vif x4 (
  vbin .shr 0 x0 (.v (.c (.p (.int .u64 32)))) h fun x6 h =>
  R 1 [x6, (kI 32)] h)
  (R 1 [x0, (kI 0)] h)
theorem e128_0 (O : Oracle) (R : Jump) (q : Nat) (x0 : TVal) (h : Heap) : b128_0 O R q x0 h = stepF c128 O R q 0 [x0] h := by kernel_rfl
noncomputable def b128_1 (O : Oracle) (R : Jump) (q : Nat) (x0 x2 : TVal) (h : Heap) : Res1 :=
  vbin .geq 0 x0 (.v (.c (.p (.int .u64 65536)))) h fun x8 h =>
  vif x8 (
  vbin .shr 0 x0 (.v (.c (.p (.int .u64 16)))) h fun x10 h =>
  vbin .add 0 x2 (kI 16) h fun x12 h =>
  R 2 [x10, x12] h)
  (R 2 [x0, x2] h)
theorem e128_1 (O : Oracle) (R : Jump) (q : Nat) (x0 x2 : TVal) (h : Heap) : b128_1 O R q x0 x2 h = stepF c128 O R q 1 [x0, x2] h := by kernel_rfl
noncomputable def b128_2 (O : Oracle) (R : Jump) (q : Nat) (x0 x2 : TVal) (h : Heap) : Res1 :=
  vbin .geq 0 x0 (.v (.c (.p (.int .u64 256)))) h fun x14 h =>
  vif x14 (
  vbin .shr 0 x0 (.v (.c (.p (.int .u64 8)))) h fun x16 h =>
  vbin .add 0 x2 (kI 8) h fun x18 h =>
  R 3 [x16, x18] h)
  (R 3 [x0, x2] h)
theorem e128_2 (O : Oracle) (R : Jump) (q : Nat) (x0 x2 : TVal) (h : Heap) : b128_2 O R q x0 x2 h = stepF c128 O R q 2 [x0, x2] h := by kernel_rfl
noncomputable def b128_3 (O : Oracle) (R : Jump) (q : Nat) (x0 x2 : TVal) (h : Heap) : Res1 :=
  vtoInt .u8 x0 h fun x21 h =>
  vindex (kS [0, 1, 2, 2, 3, 3, 3, 3, 4, 4, 4, 4, 4, 4, 4, 4, 5, 5, 5, 5, 5, 5, 5, 5, 5, 5, 5, 5, 5, 5, 5, 5, 6, 6, 6, 6, 6, 6, 6, 6, 6, 6, 6, 6, 6, 6, 6, 6, 6, 6, 6, 6, 6, 6, 6, 6, 6, 6, 6, 6, 6, 6, 6, 6, 7, 7, 7, 7, 7, 7, 7, 7, 7, 7, 7, 7, 7, 7, 7, 7, 7, 7, 7, 7, 7, 7, 7, 7, 7, 7, 7, 7, 7, 7, 7, 7, 7, 7, 7, 7, 7, 7, 7, 7, 7, 7, 7, 7, 7, 7, 7, 7, 7, 7, 7, 7, 7, 7, 7, 7, 7, 7, 7, 7, 7, 7, 7, 7, 8, 8, 8, 8, 8, 8, 8, 8, 8, 8, 8, 8, 8, 8, 8, 8, 8, 8, 8, 8, 8, 8, 8, 8, 8, 8, 8, 8, 8, 8, 8, 8, 8, 8, 8, 8, 8, 8, 8, 8, 8, 8, 8, 8, 8, 8, 8, 8, 8, 8, 8, 8, 8, 8, 8, 8, 8, 8, 8, 8, 8, 8, 8, 8, 8, 8, 8, 8, 8, 8, 8, 8, 8, 8, 8, 8, 8, 8, 8, 8, 8, 8, 8, 8, 8, 8, 8, 8, 8, 8, 8, 8, 8, 8, 8, 8, 8, 8, 8, 8, 8, 8, 8, 8, 8, 8, 8, 8, 8, 8, 8, 8, 8, 8, 8, 8, 8, 8, 8, 8, 8, 8, 8, 8, 8, 8, 8, 8]) x21 h fun x22 h =>
  vtoInt .i64 x22 h fun x23 h =>
  vbin .add 0 x2 x23 h fun x24 h =>
  tcomp x24 fun c0 => vfin true q [c0] h
theorem e128_3 (O : Oracle) (R : Jump) (q : Nat) (x0 x2 : TVal) (h : Heap) : b128_3 O R q x0 x2 h = stepF c128 O R q 3 [x0, x2] h := by kernel_rfl
noncomputable def d128 : BlkF := fun O R q => [.s fun y0 => .z fun h => b128_0 O R q y0 h, .s fun y0 => .s fun y1 => .z fun h => b128_1 O R q y0 y1 h, .s fun y0 => .s fun y1 => .z fun h => b128_2 O R q y0 y1 h, .s fun y0 => .s fun y1 => .z fun h => b128_3 O R q y0 y1 h]
theorem o128 (O : Oracle) (R : Jump) (q : Nat) : HoldsAll c128 O R q 0 (d128 O R q) := ⟨fun y0 h => e128_0 O R q y0 h, fun y0 y1 h => e128_1 O R q y0 y1 h, fun y0 y1 h => e128_2 O R q y0 y1 h, fun y0 y1 h => e128_3 O R q y0 y1 h, trivial⟩
/- internal/strconv.bool2[int] -/
def c129 : MFunc := { np := 1, res := [.t 2], frz := true, body := (.seq (.reg [⟨(some 2), (.mv (.k (.v (.c (.p (.int .i64 0)))))), none⟩] []) (.seq (.seq (.reg [⟨(some 3), (.mv (.t 0)), none⟩] []) (.cond (.t 3) (.seq (.reg [⟨(some 2), (.mv (.k (.v (.c (.p (.int .i64 1)))))), none⟩] []) .ret) .skip)) (.seq (.reg [⟨(some 2), (.mv (.k (.v (.c (.p (.int .i64 0)))))), none⟩] []) .ret))) }
theorem t129 : compF Tryd.prog (globs2 tabs opq) false true Tryd.f129 = some c129.erase := by kernel_rfl
noncomputable def b129_0 (O : Oracle) (R : Jump) (q : Nat) (x0 : TVal) (h : Heap) : Res1 :=
  vif x0 (
  tcomp (kI 1) fun c0 => vfin true q [c0] h)
  (tcomp (kI 0) fun c0 => vfin true q [c0] h)
theorem e129_0 (O : Oracle) (R : Jump) (q : Nat) (x0 : TVal) (h : Heap) : b129_0 O R q x0 h = stepF c129 O R q 0 [x0] h := by kernel_rfl
noncomputable def d129 : BlkF := fun O R q => [.s fun y0 => .z fun h => b129_0 O R q y0 h]
theorem o129 (O : Oracle) (R : Jump) (q : Nat) : HoldsAll c129 O R q 0 (d129 O R q) := ⟨fun y0 h => e129_0 O R q y0 h, trivial⟩
/- internal/strconv.isPowerOfTwo -/
def c130 : MFunc := { np := 1, res := [.t 2], frz := true, body := (.seq (.reg [⟨(some 2), (.mv (.k (.v (.c (.p (.bool false)))))), none⟩] []) (.seq (.reg [⟨(some 3), (.mv (.t 0)), none⟩, ⟨(some 4), (.mv (.t 0)), none⟩, ⟨(some 5), (.bin .sub 0 (.t 4) (.k (.v (.c (.p (.int .i64 1)))))), none⟩, ⟨(some 6), (.bin .and 0 (.t 3) (.t 5)), none⟩, ⟨(some 7), (.bin .eql 0 (.t 6) (.k (.v (.c (.p (.int .i64 0)))))), none⟩, ⟨(some 2), (.mv (.t 7)), none⟩] []) .ret)) }
theorem t130 : compF Tryd.prog (globs2 tabs opq) false true Tryd.f130 = some c130.erase := by kernel_rfl
noncomputable def b130_0 (O : Oracle) (R : Jump) (q : Nat) (x0 : TVal) (h : Heap) : Res1 :=
  vbin .sub 0 x0 (kI 1) h fun x5 h =>
  vbin .and 0 x0 x5 h fun x6 h =>
  vbin .eql 0 x6 (kI 0) h fun x7 h =>
  tcomp x7 fun c0 => vfin true q [c0] h
theorem e130_0 (O : Oracle) (R : Jump) (q : Nat) (x0 : TVal) (h : Heap) : b130_0 O R q x0 h = stepF c130 O R q 0 [x0] h := by kernel_rfl
noncomputable def d130 : BlkF := fun O R q => [.s fun y0 => .z fun h => b130_0 O R q y0 h]
theorem o130 (O : Oracle) (R : Jump) (q : Nat) : HoldsAll c130 O R q 0 (d130 O R q) := ⟨fun y0 h => e130_0 O R q y0 h, trivial⟩
/- math/bits.TrailingZeros -/
def c131 : MFunc := { np := 1, res := [.t 2], frz := true, body := (.seq (.reg [⟨(some 2), (.mv (.k (.v (.c (.p (.int .i64 0)))))), none⟩] []) (.seq (.cond (.k (.v (.c (.p (.bool false))))) (.seq (.reg [⟨(some 3), (.mv (.t 0)), none⟩, ⟨(some 4), (.toInt .u32 (.t 3)), none⟩, ⟨(some 5), (.call (.k (.v (.c (.func 134 [])))) [(.t 4)]), none⟩, ⟨(some 2), (.mv (.t 5)), none⟩] []) .ret) .skip) (.seq (.reg [⟨(some 6), (.mv (.t 0)), none⟩, ⟨(some 7), (.call (.k (.v (.c (.func 135 [])))) [(.t 6)]), none⟩, ⟨(some 2), (.mv (.t 7)), none⟩] []) .ret))) }
theorem t131 : compF Tryd.prog (globs2 tabs opq) false true Tryd.f131 = some c131.erase := by kernel_rfl
noncomputable def b131_0 (O : Oracle) (R : Jump) (q : Nat) (x0 : TVal) (h : Heap) : Res1 :=
  vif (kB false) (
  vtoInt .u32 x0 h fun x4 h =>
  vcall O (.v (.c (.func 134 []))) [x4] h 5 fun x5 h =>
  tcomp x5 fun c0 => vfin true q [c0] h)
  (vcall O (.v (.c (.func 135 []))) [x0] h 7 fun x7 h =>
  tcomp x7 fun c0 => vfin true q [c0] h)
theorem e131_0 (O : Oracle) (R : Jump) (q : Nat) (x0 : TVal) (h : Heap) : b131_0 O R q x0 h = stepF c131 O R q 0 [x0] h := by kernel_rfl
noncomputable def d131 : BlkF := fun O R q => [.s fun y0 => .z fun h => b131_0 O R q y0 h]
theorem o131 (O : Oracle) (R : Jump) (q : Nat) : HoldsAll c131 O R q 0 (d131 O R q) := ⟨fun y0 h => e131_0 O R q y0 h, trivial⟩
/- internal/bytealg.hashStr[string] -/
def c133 : MFunc := { np := 1, res := [.t 2, .t 3], frz := true, body := (.seq (.reg [⟨(some 2), (.mv (.k (.v (.c (.p (.int .u32 0)))))), none⟩, ⟨(some 3), (.mv (.k (.v (.c (.p (.int .u32 0)))))), none⟩] []) (.seq (.reg [⟨(some 4), (.mv (.k (.v (.c (.p (.int .u32 0)))))), none⟩] []) (.seq (.seq (.reg [⟨(some 5), (.mv (.k (.v (.c (.p (.int .i64 0)))))), none⟩] []) (.block 0 (.loop 1 [0, 4, 5] (.seq (.seq (.reg [⟨(some 9), (.mv (.t 5)), none⟩, ⟨(some 10), (.mv (.t 0)), none⟩, ⟨(some 11), (.len 0 (.t 10)), none⟩, ⟨(some 12), (.bin .lss 0 (.t 9) (.t 11)), none⟩] []) (.cond (.t 12) .skip (.exit 0))) (.seq (.block 1 (.reg [⟨(some 15), (.mv (.t 4)), none⟩, ⟨(some 16), (.bin .mul 0 (.t 15) (.k (.v (.c (.p (.int .u32 16777619)))))), none⟩, ⟨(some 17), (.mv (.t 0)), none⟩, ⟨(some 18), (.mv (.t 5)), none⟩, ⟨(some 19), (.index (.t 17) (.t 18)), none⟩, ⟨(some 20), (.toInt .u32 (.t 19)), none⟩, ⟨(some 21), (.bin .add 0 (.t 16) (.t 20)), none⟩, ⟨(some 4), (.mv (.t 21)), none⟩] [])) (.reg [⟨(some 13), (.mv (.t 5)), none⟩, ⟨(some 14), (.bin .add 0 (.t 13) (.k (.v (.c (.p (.int .i64 1)))))), none⟩, ⟨(some 5), (.mv (.t 14)), none⟩] [])))))) (.mark 2 [0, 4] (.seq (.reg [⟨(some 6), (.mv (.k (.v (.c (.p (.int .u32 1)))))), none⟩, ⟨(some 7), (.mv (.k (.v (.c (.p (.int .u32 16777619)))))), none⟩] []) (.seq (.seq (.reg [⟨(some 22), (.mv (.t 0)), none⟩, ⟨(some 23), (.len 0 (.t 22)), none⟩, ⟨(some 8), (.mv (.t 23)), none⟩] []) (.block 2 (.loop 3 [4, 6, 7, 8] (.seq (.seq (.reg [⟨(some 24), (.mv (.t 8)), none⟩, ⟨(some 25), (.bin .gtr 0 (.t 24) (.k (.v (.c (.p (.int .i64 0)))))), none⟩] []) (.cond (.t 25) .skip (.exit 2))) (.seq (.block 3 (.seq (.seq (.reg [⟨(some 28), (.mv (.t 8)), none⟩, ⟨(some 29), (.bin .and 0 (.t 28) (.k (.v (.c (.p (.int .i64 1)))))), none⟩, ⟨(some 30), (.bin .neq 0 (.t 29) (.k (.v (.c (.p (.int .i64 0)))))), none⟩] []) (.cond (.t 30) (.reg [⟨(some 31), (.mv (.t 6)), none⟩, ⟨(some 32), (.mv (.t 7)), none⟩, ⟨(some 33), (.bin .mul 0 (.t 31) (.t 32)), none⟩, ⟨(some 6), (.mv (.t 33)), none⟩] []) .skip)) (.mark 4 [4, 6, 7, 8] (.reg [⟨(some 34), (.mv (.t 7)), none⟩, ⟨(some 35), (.mv (.t 7)), none⟩, ⟨(some 36), (.bin .mul 0 (.t 34) (.t 35)), none⟩, ⟨(some 7), (.mv (.t 36)), none⟩] [])))) (.reg [⟨(some 26), (.mv (.t 8)), none⟩, ⟨(some 27), (.bin .shr 0 (.t 26) (.k (.v (.c (.p (.int .u64 1)))))), none⟩, ⟨(some 8), (.mv (.t 27)), none⟩] [])))))) (.seq (.reg [⟨(some 37), (.mv (.t 4)), none⟩, ⟨(some 38), (.mv (.t 6)), none⟩, ⟨(some 2), (.mv (.t 37)), none⟩, ⟨(some 3), (.mv (.t 38)), none⟩] []) .ret))))))) }
theorem t133 : compF Tryd.prog (globs2 tabs opq) false true Tryd.f133 = some c133.erase := by kernel_rfl
noncomputable def b133_0 (O : Oracle) (R : Jump) (q : Nat) (x0 : TVal) (h : Heap) : Res1 :=
  R 1 [x0, (.v (.c (.p (.int .u32 0)))), (kI 0)] h
theorem e133_0 (O : Oracle) (R : Jump) (q : Nat) (x0 : TVal) (h : Heap) : b133_0 O R q x0 h = stepF c133 O R q 0 [x0] h := by kernel_rfl
noncomputable def b133_1 (O : Oracle) (R : Jump) (q : Nat) (x0 x4 x5 : TVal) (h : Heap) : Res1 :=
  vlen O 0 x0 h 11 fun x11 h =>
  vbin .lss 0 x5 x11 h fun x12 h =>
  vif x12 (
  vbin .mul 0 x4 (.v (.c (.p (.int .u32 16777619)))) h fun x16 h =>
  vindex x0 x5 h fun x19 h =>
  vtoInt .u32 x19 h fun x20 h =>
  vbin .add 0 x16 x20 h fun x21 h =>
  vbin .add 0 x5 (kI 1) h fun x14 h =>
  R 1 [x0, x21, x14] h)
  (R 2 [x0, x4] h)
theorem e133_1 (O : Oracle) (R : Jump) (q : Nat) (x0 x4 x5 : TVal) (h : Heap) : b133_1 O R q x0 x4 x5 h = stepF c133 O R q 1 [x0, x4, x5] h := by kernel_rfl
noncomputable def b133_2 (O : Oracle) (R : Jump) (q : Nat) (x0 x4 : TVal) (h : Heap) : Res1 :=
  vlen O 0 x0 h 23 fun x23 h =>
  R 3 [x4, (.v (.c (.p (.int .u32 1)))), (.v (.c (.p (.int .u32 16777619)))), x23] h
theorem e133_2 (O : Oracle) (R : Jump) (q : Nat) (x0 x4 : TVal) (h : Heap) : b133_2 O R q x0 x4 h = stepF c133 O R q 2 [x0, x4] h := by kernel_rfl
noncomputable def b133_3 (O : Oracle) (R : Jump) (q : Nat) (x4 x6 x7 x8 : TVal) (h : Heap) : Res1 :=
  vbin .gtr 0 x8 (kI 0) h fun x25 h =>
  vif x25 (
  vbin .and 0 x8 (kI 1) h fun x29 h =>
  vbin .neq 0 x29 (kI 0) h fun x30 h =>
  vif x30 (
  vbin .mul 0 x6 x7 h fun x33 h =>
  R 4 [x4, x33, x7, x8] h)
  (R 4 [x4, x6, x7, x8] h))
  (tcomp x4 fun c0 => tcomp x6 fun c1 => vfin true q [c0, c1] h)
theorem e133_3 (O : Oracle) (R : Jump) (q : Nat) (x4 x6 x7 x8 : TVal) (h : Heap) : b133_3 O R q x4 x6 x7 x8 h = stepF c133 O R q 3 [x4, x6, x7, x8] h := by kernel_rfl
noncomputable def b133_4 (O : Oracle) (R : Jump) (q : Nat) (x4 x6 x7 x8 : TVal) (h : Heap) : Res1 :=
  vbin .mul 0 x7 x7 h fun x36 h =>
  vbin .shr 0 x8 (.v (.c (.p (.int .u64 1)))) h fun x27 h =>
  R 3 [x4, x6, x36, x27] h
theorem e133_4 (O : Oracle) (R : Jump) (q : Nat) (x4 x6 x7 x8 : TVal) (h : Heap) : b133_4 O R q x4 x6 x7 x8 h = stepF c133 O R q 4 [x4, x6, x7, x8] h := by kernel_rfl
noncomputable def d133 : BlkF := fun O R q => [.s fun y0 => .z fun h => b133_0 O R q y0 h, .s fun y0 => .s fun y1 => .s fun y2 => .z fun h => b133_1 O R q y0 y1 y2 h, .s fun y0 => .s fun y1 => .z fun h => b133_2 O R q y0 y1 h, .s fun y0 => .s fun y1 => .s fun y2 => .s fun y3 => .z fun h => b133_3 O R q y0 y1 y2 y3 h, .s fun y0 => .s fun y1 => .s fun y2 => .s fun y3 => .z fun h => b133_4 O R q y0 y1 y2 y3 h]
theorem o133 (O : Oracle) (R : Jump) (q : Nat) : HoldsAll c133 O R q 0 (d133 O R q) := ⟨fun y0 h => e133_0 O R q y0 h, fun y0 y1 y2 h => e133_1 O R q y0 y1 y2 h, fun y0 y1 h => e133_2 O R q y0 y1 h, fun y0 y1 y2 y3 h => e133_3 O R q y0 y1 y2 y3 h, fun y0 y1 y2 y3 h => e133_4 O R q y0 y1 y2 y3 h, trivial⟩
/- math/bits.TrailingZeros32 -/
def c134 : MFunc := { np := 1, res := [.t 2], frz := true, body := (.seq (.reg [⟨(some 2), (.mv (.k (.v (.c (.p (.int .i64 0)))))), none⟩] []) (.seq (.seq (.reg [⟨(some 3), (.mv (.t 0)), none⟩, ⟨(some 4), (.bin .eql 0 (.t 3) (.k (.v (.c (.p (.int .u32 0)))))), none⟩] []) (.cond (.t 4) (.seq (.reg [⟨(some 2), (.mv (.k (.v (.c (.p (.int .i64 32)))))), none⟩] []) .ret) .skip)) (.seq (.reg [⟨(some 5), (.mv (.t 0)), none⟩, ⟨(some 6), (.mv (.t 0)), none⟩, ⟨(some 7), (.un .neg (.t 6)), none⟩, ⟨(some 8), (.bin .and 0 (.t 5) (.t 7)), none⟩, ⟨(some 9), (.bin .mul 0 (.t 8) (.k (.v (.c (.p (.int .u32 125613361)))))), none⟩, ⟨(some 10), (.bin .shr 0 (.t 9) (.k (.v (.c (.p (.int .u64 27)))))), none⟩, ⟨(some 11), .bad, none⟩, ⟨(some 12), (.load false 1 (.t 11)), none⟩, ⟨(some 13), (.toInt .i64 (.t 12)), none⟩, ⟨(some 2), (.mv (.t 13)), none⟩] []) .ret))) }
theorem t134 : compF Tryd.prog (globs2 tabs opq) false true Tryd.f134 = some c134.erase := by kernel_rfl
noncomputable def b134_0 (O : Oracle) (R : Jump) (q : Nat) (x0 : TVal) (h : Heap) : Res1 :=
  vbin .eql 0 x0 (.v (.c (.p (.int .u32 0)))) h fun x4 h =>
  vif x4 (
  tcomp (kI 32) fun c0 => vfin true q [c0] h)
  (vop O (.un .neg (.k x0)) h 7 fun x7 h =>
  vbin .and 0 x0 x7 h fun x8 h =>
  vbin .mul 0 x8 (.v (.c (.p (.int .u32 125613361)))) h fun x9 h =>
  vbin .shr 0 x9 (.v (.c (.p (.int .u64 27)))) h fun x10 h =>
  none)
theorem e134_0 (O : Oracle) (R : Jump) (q : Nat) (x0 : TVal) (h : Heap) : b134_0 O R q x0 h = stepF c134 O R q 0 [x0] h := by kernel_rfl
noncomputable def d134 : BlkF := fun O R q => [.s fun y0 => .z fun h => b134_0 O R q y0 h]
theorem o134 (O : Oracle) (R : Jump) (q : Nat) : HoldsAll c134 O R q 0 (d134 O R q) := ⟨fun y0 h => e134_0 O R q y0 h, trivial⟩
/- math/bits.TrailingZeros64 -/
def c135 : MFunc := { np := 1, res := [.t 2], frz := true, body := (.seq (.reg [⟨(some 2), (.mv (.k (.v (.c (.p (.int .i64 0)))))), none⟩] []) (.seq (.seq (.reg [⟨(some 3), (.mv (.t 0)), none⟩, ⟨(some 4), (.bin .eql 0 (.t 3) (.k (.v (.c (.p (.int .u64 0)))))), none⟩] []) (.cond (.t 4) (.seq (.reg [⟨(some 2), (.mv (.k (.v (.c (.p (.int .i64 64)))))), none⟩] []) .ret) .skip)) (.seq (.reg [⟨(some 5), (.mv (.t 0)), none⟩, ⟨(some 6), (.mv (.t 0)), none⟩, ⟨(some 7), (.un .neg (.t 6)), none⟩, ⟨(some 8), (.bin .and 0 (.t 5) (.t 7)), none⟩, ⟨(some 9), (.bin .mul 0 (.t 8) (.k (.v (.c (.p (.int .u64 285870213051353865)))))), none⟩, ⟨(some 10), (.bin .shr 0 (.t 9) (.k (.v (.c (.p (.int .u64 58)))))), none⟩, ⟨(some 11), .bad, none⟩, ⟨(some 12), (.load false 1 (.t 11)), none⟩, ⟨(some 13), (.toInt .i64 (.t 12)), none⟩, ⟨(some 2), (.mv (.t 13)), none⟩] []) .ret))) }
theorem t135 : compF Tryd.prog (globs2 tabs opq) false true Tryd.f135 = some c135.erase := by kernel_rfl
noncomputable def b135_0 (O : Oracle) (R : Jump) (q : Nat) (x0 : TVal) (h : Heap) : Res1 :=
  vbin .eql 0 x0 (.v (.c (.p (.int .u64 0)))) h fun x4 h =>
  vif x4 (
  tcomp (kI 64) fun c0 => vfin true q [c0] h)
  (vop O (.un .neg (.k x0)) h 7 fun x7 h =>
  vbin .and 0 x0 x7 h fun x8 h =>
  vbin .mul 0 x8 (.v (.c (.p (.int .u64 285870213051353865)))) h fun x9 h =>
  vbin .shr 0 x9 (.v (.c (.p (.int .u64 58)))) h fun x10 h =>
  none)
theorem e135_0 (O : Oracle) (R : Jump) (q : Nat) (x0 : TVal) (h : Heap) : b135_0 O R q x0 h = stepF c135 O R q 0 [x0] h := by kernel_rfl
noncomputable def d135 : BlkF := fun O R q => [.s fun y0 => .z fun h => b135_0 O R q y0 h]
theorem o135 (O : Oracle) (R : Jump) (q : Nat) : HoldsAll c135 O R q 0 (d135 O R q) := ⟨fun y0 h => e135_0 O R q y0 h, trivial⟩
end Go.Proofs.YtkkbfljipfndgaaDoor.Ab
