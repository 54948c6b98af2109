/- Functions of the given program as the abstract interpreter has them (part 0), printed by a program of our own; each is shown to be what 'compF' makes of the given program's. No condition. -/
import Derived.Test.YtpfbbgjefdbbmaaDoorChecked
import Derived.Test.YtpfbbgjefdbbmaaDoorAd
namespace Go.Proofs.YtpfbbgjefdbbmaaDoor.Ab
open Go Go.AI
set_option linter.all false
set_option linter.unusedVariables false
set_option maxRecDepth 100000
def tabs : List Tabl := []
def opq : Option Nat := some 0
/- sprue/spruelaw15.CallsNumbers -/
def c3 : MFunc := { np := 2, res := [.t 4], frz := true, body := (.seq (.reg [(oA 4 (.mv (.k (.v (.c (.p (.bool false)))))))] []) (.seq (.seq (.reg [(oA 24 (.call (.k (.v (.c (.func 9 [])))) [])), (oA 25 (.un .not (.t 24)))] []) (.cond (.t 25) (.seq (.reg [(oA 4 (.mv (.k (.v (.c (.p (.bool false)))))))] []) .ret) .skip)) (.seq (.reg [(oA 26 (.mv (.t 0))), (oA 27 (.build [(.p (.int .i64 0)), (.p (.bool false)), (.p (.int .i64 0)), (.p (.str [])), (.p .nilslice), (.p .nilslice)] [(0, 1, (.k (.v (.c (.p (.int .i64 2)))))), (2, 1, (.t 26))])), (oA 28 (.mv (.t 1))), (oA 29 (.build [(.p (.int .i64 0)), (.p (.bool false)), (.p (.int .i64 0)), (.p (.str [])), (.p .nilslice), (.p .nilslice)] [(0, 1, (.k (.v (.c (.p (.int .i64 2)))))), (2, 1, (.t 28))])), (oA 5 (.alloc [(.p (.int .i64 0)), (.p (.bool false)), (.p (.int .i64 0)), (.p (.str [])), (.p .nilslice), (.p .nilslice)] false)), (oA 6 (.alloc [(.p (.int .i64 0)), (.p (.bool false)), (.p (.int .i64 0)), (.p (.str [])), (.p .nilslice), (.p .nilslice)] false)), (oN (.store 6 (.t 5) (.t 27))), (oN (.store 6 (.t 6) (.t 29)))] []) (.seq (.reg [(oA 30 (.load true 6 (.t 5))), (oA 31 (.load true 6 (.t 6))), (oA 32 (.bslice 6 2 [(.p (.int .i64 0)), (.p (.bool false)), (.p (.int .i64 0)), (.p (.str [])), (.p .nilslice), (.p .nilslice)] [(0, (.t 30)), (1, (.t 31))] false)), (oA 7 (.mv (.t 32)))] []) (.seq (.reg [(oA 33 (.bslice 1 5 [(.p (.str []))] [(0, (.k (.v (.c (.p (.str [97, 100, 100])))))), (1, (.k (.v (.c (.p (.str [115, 117, 98])))))), (2, (.k (.v (.c (.p (.str [109, 117, 108])))))), (3, (.k (.v (.c (.p (.str [115, 104, 108])))))), (4, (.k (.v (.c (.p (.str [115, 104, 114]))))))] false)), (oA 8 (.mv (.t 33)))] []) (.seq (.reg [(oA 34 (.mv (.t 1))), (oA 35 (.bin .and 0 (.t 34) (.k (.v (.c (.p (.int .i64 63))))))), (oA 36 (.toInt .u64 (.t 35))), (oA 9 (.mv (.t 36)))] []) (.seq (.reg [(oA 37 (.mv (.t 0))), (oA 38 (.mv (.t 1))), (oA 39 (.bin .add 0 (.t 37) (.t 38))), (oA 40 (.mv (.t 0))), (oA 41 (.mv (.t 1))), (oA 42 (.bin .sub 0 (.t 40) (.t 41))), (oA 43 (.mv (.t 0))), (oA 44 (.mv (.t 1))), (oA 45 (.bin .mul 0 (.t 43) (.t 44))), (oA 46 (.mv (.t 0))), (oA 47 (.mv (.t 9))), (oA 48 (.bin .shl 0 (.t 46) (.t 47))), (oA 49 (.mv (.t 0))), (oA 50 (.mv (.t 9))), (oA 51 (.bin .shr 0 (.t 49) (.t 50))), (oA 52 (.bslice 1 5 [(.p (.int .i64 0))] [(0, (.t 39)), (1, (.t 42)), (2, (.t 45)), (3, (.t 48)), (4, (.t 51))] false)), (oA 10 (.mv (.t 52)))] []) (.seq (.seq (.reg [(oA 11 (.mv (.k (.v (.c (.p (.int .i64 0)))))))] []) (.block 0 (.loop 1 [0, 1, 5, 7, 8, 10, 11] (.seq (.seq (.reg [(oA 53 (.mv (.t 11))), (oA 54 (.bin .lss 0 (.t 53) (.k (.v (.c (.p (.int .i64 5)))))))] []) (.cond (.t 54) .skip (.exit 0))) (.seq (.block 1 (.seq (.reg [(oA 58 (.mv (.t 8))), (oA 59 (.mv (.t 11))), (oA 60 (.iaddr 1 (.t 58) (.t 59))), (oA 61 (.load false 1 (.t 60))), (oA 62 (.mv (.t 7))), (oA 63 (.call (.k (.v (.c (.func 10 [])))) [(.t 61), (.t 62)])), (oA 57 (.mv (.t 63))), (oA 64 (.extract (.t 57) 0)), (oA 65 (.extract (.t 57) 1)), (oA 12 (.alloc [(.p (.int .i64 0)), (.p (.bool false)), (.p (.int .i64 0)), (.p (.str [])), (.p .nilslice), (.p .nilslice)] false)), (oN (.store 6 (.t 12) (.t 64))), (oA 13 (.mv (.t 65)))] []) (.seq (.reg [(oA 66 (.mv (.t 13))), (oA 67 (.bin .neq 0 (.t 66) (.k (.v (.c (.p (.int .i64 0))))))), (oA 68 (.mv (.t 67))), ⟨(some 69), (.faddr 0 (.t 12)), (some (68, false))⟩, ⟨(some 70), (.load false 1 (.t 69)), (some (68, false))⟩, ⟨(some 71), (.bin .neq 0 (.t 70) (.k (.v (.c (.p (.int .i64 2)))))), (some (68, false))⟩, (oA 72 (.pick (.t 68) (.k (.v (.c (.p (.bool true))))) (.t 71))), (oA 73 (.mv (.t 72))), ⟨(some 74), (.faddr 2 (.t 12)), (some (73, false))⟩, ⟨(some 75), (.load false 1 (.t 74)), (some (73, false))⟩, ⟨(some 76), (.mv (.t 10)), (some (73, false))⟩, ⟨(some 77), (.mv (.t 11)), (some (73, false))⟩, ⟨(some 78), (.iaddr 1 (.t 76) (.t 77)), (some (73, false))⟩, ⟨(some 79), (.load false 1 (.t 78)), (some (73, false))⟩, ⟨(some 80), (.bin .neq 0 (.t 75) (.t 79)), (some (73, false))⟩, (oA 81 (.pick (.t 73) (.k (.v (.c (.p (.bool true))))) (.t 80)))] []) (.cond (.t 81) (.seq (.reg [(oA 4 (.mv (.k (.v (.c (.p (.bool false)))))))] []) .ret) .skip)))) (.reg [(oA 55 (.mv (.t 11))), (oA 56 (.bin .add 0 (.t 55) (.k (.v (.c (.p (.int .i64 1))))))), (oA 11 (.mv (.t 56)))] [])))))) (.mark 2 [0, 1, 5, 7] (.seq (.reg [(oA 82 (.bslice 1 6 [(.p (.str []))] [(0, (.k (.v (.c (.p (.str [105, 56])))))), (1, (.k (.v (.c (.p (.str [105, 49, 54])))))), (2, (.k (.v (.c (.p (.str [105, 51, 50])))))), (3, (.k (.v (.c (.p (.str [117, 56])))))), (4, (.k (.v (.c (.p (.str [117, 49, 54])))))), (5, (.k (.v (.c (.p (.str [117, 51, 50]))))))] false)), (oA 14 (.mv (.t 82)))] []) (.seq (.reg [(oA 83 (.mv (.t 0))), (oA 84 (.toInt .i8 (.t 83))), (oA 85 (.toInt .i64 (.t 84))), (oA 86 (.mv (.t 0))), (oA 87 (.toInt .i16 (.t 86))), (oA 88 (.toInt .i64 (.t 87))), (oA 89 (.mv (.t 0))), (oA 90 (.toInt .i32 (.t 89))), (oA 91 (.toInt .i64 (.t 90))), (oA 92 (.mv (.t 0))), (oA 93 (.toInt .u8 (.t 92))), (oA 94 (.toInt .i64 (.t 93))), (oA 95 (.mv (.t 0))), (oA 96 (.toInt .u16 (.t 95))), (oA 97 (.toInt .i64 (.t 96))), (oA 98 (.mv (.t 0))), (oA 99 (.toInt .u32 (.t 98))), (oA 100 (.toInt .i64 (.t 99))), (oA 101 (.bslice 1 6 [(.p (.int .i64 0))] [(0, (.t 85)), (1, (.t 88)), (2, (.t 91)), (3, (.t 94)), (4, (.t 97)), (5, (.t 100))] false)), (oA 10 (.mv (.t 101)))] []) (.seq (.seq (.reg [(oA 15 (.mv (.k (.v (.c (.p (.int .i64 0)))))))] []) (.block 2 (.loop 3 [0, 1, 5, 7, 10, 14, 15] (.seq (.seq (.reg [(oA 102 (.mv (.t 15))), (oA 103 (.bin .lss 0 (.t 102) (.k (.v (.c (.p (.int .i64 6)))))))] []) (.cond (.t 103) .skip (.exit 2))) (.seq (.block 3 (.seq (.reg [(oA 107 (.mv (.t 14))), (oA 108 (.mv (.t 15))), (oA 109 (.iaddr 1 (.t 107) (.t 108))), (oA 110 (.load false 1 (.t 109))), (oA 111 (.load true 6 (.t 5))), (oA 112 (.bslice 6 1 [(.p (.int .i64 0)), (.p (.bool false)), (.p (.int .i64 0)), (.p (.str [])), (.p .nilslice), (.p .nilslice)] [(0, (.t 111))] false)), (oA 113 (.call (.k (.v (.c (.func 10 [])))) [(.t 110), (.t 112)])), (oA 106 (.mv (.t 113))), (oA 114 (.extract (.t 106) 0)), (oA 115 (.extract (.t 106) 1)), (oA 16 (.alloc [(.p (.int .i64 0)), (.p (.bool false)), (.p (.int .i64 0)), (.p (.str [])), (.p .nilslice), (.p .nilslice)] false)), (oN (.store 6 (.t 16) (.t 114))), (oA 17 (.mv (.t 115)))] [(3, 5), (3, 10), (4, 10), (5, 10), (6, 10)]) (.seq (.reg [(oA 117 (.mv (.t 14))), (oA 118 (.mv (.t 15))), (oA 119 (.iaddr 1 (.t 117) (.t 118))), (oA 120 (.load false 1 (.t 119))), (oA 121 (.load true 6 (.t 16))), (oA 122 (.bslice 6 1 [(.p (.int .i64 0)), (.p (.bool false)), (.p (.int .i64 0)), (.p (.str [])), (.p .nilslice), (.p .nilslice)] [(0, (.t 121))] false)), (oA 123 (.call (.k (.v (.c (.func 10 [])))) [(.t 120), (.t 122)])), (oA 116 (.mv (.t 123))), (oA 124 (.extract (.t 116) 0)), (oA 125 (.extract (.t 116) 1)), (oA 18 (.alloc [(.p (.int .i64 0)), (.p (.bool false)), (.p (.int .i64 0)), (.p (.str [])), (.p .nilslice), (.p .nilslice)] false)), (oN (.store 6 (.t 18) (.t 124))), (oA 19 (.mv (.t 125)))] [(3, 5), (3, 10), (4, 10), (5, 10), (6, 10)]) (.seq (.reg [(oA 126 (.mv (.t 17))), (oA 127 (.bin .neq 0 (.t 126) (.k (.v (.c (.p (.int .i64 0))))))), (oA 128 (.mv (.t 127))), ⟨(some 129), (.faddr 2 (.t 16)), (some (128, false))⟩, ⟨(some 130), (.load false 1 (.t 129)), (some (128, false))⟩, ⟨(some 131), (.mv (.t 10)), (some (128, false))⟩, ⟨(some 132), (.mv (.t 15)), (some (128, false))⟩, ⟨(some 133), (.iaddr 1 (.t 131) (.t 132)), (some (128, false))⟩, ⟨(some 134), (.load false 1 (.t 133)), (some (128, false))⟩, ⟨(some 135), (.bin .neq 0 (.t 130) (.t 134)), (some (128, false))⟩, (oA 136 (.pick (.t 128) (.k (.v (.c (.p (.bool true))))) (.t 135))), (oA 137 (.mv (.t 136))), ⟨(some 138), (.mv (.t 19)), (some (137, false))⟩, ⟨(some 139), (.bin .neq 0 (.t 138) (.k (.v (.c (.p (.int .i64 0)))))), (some (137, false))⟩, (oA 140 (.pick (.t 137) (.k (.v (.c (.p (.bool true))))) (.t 139))), (oA 141 (.mv (.t 140))), ⟨(some 142), (.faddr 2 (.t 18)), (some (141, false))⟩, ⟨(some 143), (.load false 1 (.t 142)), (some (141, false))⟩, ⟨(some 144), (.faddr 2 (.t 16)), (some (141, false))⟩, ⟨(some 145), (.load false 1 (.t 144)), (some (141, false))⟩, ⟨(some 146), (.bin .neq 0 (.t 143) (.t 145)), (some (141, false))⟩, (oA 147 (.pick (.t 141) (.k (.v (.c (.p (.bool true))))) (.t 146)))] []) (.cond (.t 147) (.seq (.reg [(oA 4 (.mv (.k (.v (.c (.p (.bool false)))))))] []) .ret) .skip))))) (.reg [(oA 104 (.mv (.t 15))), (oA 105 (.bin .add 0 (.t 104) (.k (.v (.c (.p (.int .i64 1))))))), (oA 15 (.mv (.t 105)))] [])))))) (.mark 4 [0, 1, 7] (.seq (.reg [(oA 149 (.mv (.t 7))), (oA 150 (.call (.k (.v (.c (.func 10 [])))) [(.k (.v (.c (.p (.str [108, 116]))))), (.t 149)])), (oA 148 (.mv (.t 150))), (oA 151 (.extract (.t 148) 0)), (oA 152 (.extract (.t 148) 1)), (oA 20 (.alloc [(.p (.int .i64 0)), (.p (.bool false)), (.p (.int .i64 0)), (.p (.str [])), (.p .nilslice), (.p .nilslice)] false)), (oN (.store 6 (.t 20) (.t 151))), (oA 21 (.mv (.t 152)))] []) (.seq (.reg [(oA 154 (.mv (.t 7))), (oA 155 (.call (.k (.v (.c (.func 10 [])))) [(.k (.v (.c (.p (.str [101, 113]))))), (.t 154)])), (oA 153 (.mv (.t 155))), (oA 156 (.extract (.t 153) 0)), (oA 157 (.extract (.t 153) 1)), (oA 22 (.alloc [(.p (.int .i64 0)), (.p (.bool false)), (.p (.int .i64 0)), (.p (.str [])), (.p .nilslice), (.p .nilslice)] false)), (oN (.store 6 (.t 22) (.t 156))), (oA 23 (.mv (.t 157)))] []) (.seq (.reg [(oA 158 (.mv (.t 21))), (oA 159 (.bin .eql 0 (.t 158) (.k (.v (.c (.p (.int .i64 0))))))), (oA 160 (.mv (.t 159))), ⟨(some 161), (.faddr 1 (.t 20)), (some (160, true))⟩, ⟨(some 162), (.load false 1 (.t 161)), (some (160, true))⟩, ⟨(some 163), (.mv (.t 0)), (some (160, true))⟩, ⟨(some 164), (.mv (.t 1)), (some (160, true))⟩, ⟨(some 165), (.bin .lss 0 (.t 163) (.t 164)), (some (160, true))⟩, ⟨(some 166), (.bin .eql 5 (.t 162) (.t 165)), (some (160, true))⟩, (oA 167 (.pick (.t 160) (.t 166) (.k (.v (.c (.p (.bool false))))))), (oA 168 (.mv (.t 167))), ⟨(some 169), (.mv (.t 23)), (some (168, true))⟩, ⟨(some 170), (.bin .eql 0 (.t 169) (.k (.v (.c (.p (.int .i64 0)))))), (some (168, true))⟩, (oA 171 (.pick (.t 168) (.t 170) (.k (.v (.c (.p (.bool false))))))), (oA 172 (.mv (.t 171))), ⟨(some 173), (.faddr 1 (.t 22)), (some (172, true))⟩, ⟨(some 174), (.load false 1 (.t 173)), (some (172, true))⟩, ⟨(some 175), (.mv (.t 0)), (some (172, true))⟩, ⟨(some 176), (.mv (.t 1)), (some (172, true))⟩, ⟨(some 177), (.bin .eql 0 (.t 175) (.t 176)), (some (172, true))⟩, ⟨(some 178), (.bin .eql 5 (.t 174) (.t 177)), (some (172, true))⟩, (oA 179 (.pick (.t 172) (.t 178) (.k (.v (.c (.p (.bool false))))))), (oA 4 (.mv (.t 179)))] []) .ret)))))))))))))))) }
theorem t3 : compF Tryd.prog (globs2 tabs opq) (fun _ => false) true Tryd.f3 = some c3.erase := by kernel_rfl
noncomputable def b3_0 (O : Oracle) (R : Jump) (q : Nat) (x0 x1 : TVal) (h : Heap) : Res1 :=
 vcall O (.v (.c (.func 9 []))) [] h 24 fun x24 h =>
 vop O (.un .not (.k x24)) h 25 fun x25 h =>
 vif x25 (
 tcomp (kB false) fun c0 => vfin true q [c0] h)
 (vop O (.build [(.p (.int .i64 0)), (.p (.bool false)), (.p (.int .i64 0)), (.p (.str [])), (.p .nilslice), (.p .nilslice)] [(0, 1, (.k (kI 2))), (2, 1, (.k x0))]) h 27 fun x27 h =>
 vop O (.build [(.p (.int .i64 0)), (.p (.bool false)), (.p (.int .i64 0)), (.p (.str [])), (.p .nilslice), (.p .nilslice)] [(0, 1, (.k (kI 2))), (2, 1, (.k x1))]) h 29 fun x29 h =>
 vop O (.alloc [(.p (.int .i64 0)), (.p (.bool false)), (.p (.int .i64 0)), (.p (.str [])), (.p .nilslice), (.p .nilslice)] false) h 5 fun x5 h =>
 vop O (.alloc [(.p (.int .i64 0)), (.p (.bool false)), (.p (.int .i64 0)), (.p (.str [])), (.p .nilslice), (.p .nilslice)] false) h 6 fun x6 h =>
 vstore 6 x5 x27 h fun _ h =>
 vstore 6 x6 x29 h fun _ h =>
 vload true 6 x5 h fun x30 h =>
 vload true 6 x6 h fun x31 h =>
 vop O (.bslice 6 2 [(.p (.int .i64 0)), (.p (.bool false)), (.p (.int .i64 0)), (.p (.str [])), (.p .nilslice), (.p .nilslice)] [(0, (.k x30)), (1, (.k x31))] false) h 32 fun x32 h =>
 vop O (.bslice 1 5 [(.p (.str []))] [(0, (.k (kS [97, 100, 100]))), (1, (.k (kS [115, 117, 98]))), (2, (.k (kS [109, 117, 108]))), (3, (.k (kS [115, 104, 108]))), (4, (.k (kS [115, 104, 114])))] false) h 33 fun x33 h =>
 vbin .and 0 x1 (kI 63) h fun x35 h =>
 vtoInt .u64 x35 h fun x36 h =>
 vbin .add 0 x0 x1 h fun x39 h =>
 vbin .sub 0 x0 x1 h fun x42 h =>
 vbin .mul 0 x0 x1 h fun x45 h =>
 vbin .shl 0 x0 x36 h fun x48 h =>
 vbin .shr 0 x0 x36 h fun x51 h =>
 vop O (.bslice 1 5 [(.p (.int .i64 0))] [(0, (.k x39)), (1, (.k x42)), (2, (.k x45)), (3, (.k x48)), (4, (.k x51))] false) h 52 fun x52 h =>
 R 1 [x0, x1, x5, x32, x33, x52, (kI 0)] h)
theorem e3_0 (O : Oracle) (R : Jump) (q : Nat) (x0 x1 : TVal) (h : Heap) : b3_0 O R q x0 x1 h = stepF c3 O R q 0 [x0, x1] h := by kernel_rfl
noncomputable def b3_1 (O : Oracle) (R : Jump) (q : Nat) (x0 x1 x5 x7 x8 x10 x11 : TVal) (h : Heap) : Res1 :=
 vbin .lss 0 x11 (kI 5) h fun x54 h =>
 vif x54 (
 viaddr 1 x8 x11 h fun x60 h =>
 vload false 1 x60 h fun x61 h =>
 vcall O (.v (.c (.func 10 []))) [x61, x7] h 63 fun x63 h =>
 vext x63 0 h fun x64 h =>
 vext x63 1 h fun x65 h =>
 vop O (.alloc [(.p (.int .i64 0)), (.p (.bool false)), (.p (.int .i64 0)), (.p (.str [])), (.p .nilslice), (.p .nilslice)] false) h 12 fun x12 h =>
 vstore 6 x12 x64 h fun _ h =>
 vbin .neq 0 x65 (kI 0) h fun x67 h =>
 vguard x67 false (fun kk => vfaddr 0 x12 h kk) h fun x69 h =>
 vguard x67 false (fun kk => vload false 1 x69 h kk) h fun x70 h =>
 vguard x67 false (fun kk => vbin .neq 0 x70 (kI 2) h kk) h fun x71 h =>
 vop O (.pick (.k x67) (.k (kB true)) (.k x71)) h 72 fun x72 h =>
 vguard x72 false (fun kk => vfaddr 2 x12 h kk) h fun x74 h =>
 vguard x72 false (fun kk => vload false 1 x74 h kk) h fun x75 h =>
 vguard x72 false (fun kk => kk x10 h) h fun x76 h =>
 vguard x72 false (fun kk => kk x11 h) h fun x77 h =>
 vguard x72 false (fun kk => viaddr 1 x76 x77 h kk) h fun x78 h =>
 vguard x72 false (fun kk => vload false 1 x78 h kk) h fun x79 h =>
 vguard x72 false (fun kk => vbin .neq 0 x75 x79 h kk) h fun x80 h =>
 vop O (.pick (.k x72) (.k (kB true)) (.k x80)) h 81 fun x81 h =>
 vif x81 (
 tcomp (kB false) fun c0 => vfin true q [c0] h)
 (vbin .add 0 x11 (kI 1) h fun x56 h =>
 R 1 [x0, x1, x5, x7, x8, x10, x56] h))
 (R 2 [x0, x1, x5, x7] h)
theorem e3_1 (O : Oracle) (R : Jump) (q : Nat) (x0 x1 x5 x7 x8 x10 x11 : TVal) (h : Heap) : b3_1 O R q x0 x1 x5 x7 x8 x10 x11 h = stepF c3 O R q 1 [x0, x1, x5, x7, x8, x10, x11] h := by kernel_rfl
noncomputable def b3_2 (O : Oracle) (R : Jump) (q : Nat) (x0 x1 x5 x7 : TVal) (h : Heap) : Res1 :=
 vop O (.bslice 1 6 [(.p (.str []))] [(0, (.k (kS [105, 56]))), (1, (.k (kS [105, 49, 54]))), (2, (.k (kS [105, 51, 50]))), (3, (.k (kS [117, 56]))), (4, (.k (kS [117, 49, 54]))), (5, (.k (kS [117, 51, 50])))] false) h 82 fun x82 h =>
 vtoInt .i8 x0 h fun x84 h =>
 vtoInt .i64 x84 h fun x85 h =>
 vtoInt .i16 x0 h fun x87 h =>
 vtoInt .i64 x87 h fun x88 h =>
 vtoInt .i32 x0 h fun x90 h =>
 vtoInt .i64 x90 h fun x91 h =>
 vtoInt .u8 x0 h fun x93 h =>
 vtoInt .i64 x93 h fun x94 h =>
 vtoInt .u16 x0 h fun x96 h =>
 vtoInt .i64 x96 h fun x97 h =>
 vtoInt .u32 x0 h fun x99 h =>
 vtoInt .i64 x99 h fun x100 h =>
 vop O (.bslice 1 6 [(.p (.int .i64 0))] [(0, (.k x85)), (1, (.k x88)), (2, (.k x91)), (3, (.k x94)), (4, (.k x97)), (5, (.k x100))] false) h 101 fun x101 h =>
 R 3 [x0, x1, x5, x7, x101, x82, (kI 0)] h
theorem e3_2 (O : Oracle) (R : Jump) (q : Nat) (x0 x1 x5 x7 : TVal) (h : Heap) : b3_2 O R q x0 x1 x5 x7 h = stepF c3 O R q 2 [x0, x1, x5, x7] h := by kernel_rfl
noncomputable def b3_3 (O : Oracle) (R : Jump) (q : Nat) (x0 x1 x5 x7 x10 x14 x15 : TVal) (h : Heap) : Res1 :=
 vbin .lss 0 x15 (kI 6) h fun x103 h =>
 vif x103 (
 vtouch O (.mv (.k x14)) h 107 fun x107 h t0 =>
 vtouch O (.mv (.k x15)) h 108 fun x108 h t1 =>
 vtouch O (.iaddr 1 (.k x107) (.k x108)) h 109 fun x109 h t2 =>
 vtouch O (.load false 1 (.k x109)) h 110 fun x110 h t3 =>
 vtouch O (.load true 6 (.k x5)) h 111 fun x111 h t4 =>
 vtouch O (.bslice 6 1 [(.p (.int .i64 0)), (.p (.bool false)), (.p (.int .i64 0)), (.p (.str [])), (.p .nilslice), (.p .nilslice)] [(0, (.k x111))] false) h 112 fun x112 h t5 =>
 vtouch O (.call (.k (.v (.c (.func 10 [])))) [(.k x110), (.k x112)]) h 113 fun x113 h t6 =>
 vtouch O (.mv (.k x113)) h 106 fun x106 h t7 =>
 vtouch O (.extract (.k x106) 0) h 114 fun x114 h t8 =>
 vtouch O (.extract (.k x106) 1) h 115 fun x115 h t9 =>
 vtouch O (.alloc [(.p (.int .i64 0)), (.p (.bool false)), (.p (.int .i64 0)), (.p (.str [])), (.p .nilslice), (.p .nilslice)] false) h 16 fun x16 h t10 =>
 vtouch O (.store 6 (.k x16) (.k x114)) h 1000000 fun _ h t11 =>
 vtouch O (.mv (.k x115)) h 17 fun x17 h t12 =>
 bif apartAll [t0, t1, t2, t3, t4, t5, t6, t7, t8, t9, t10, t11, t12] [(3, 5), (3, 10), (4, 10), (5, 10), (6, 10)] then
 vtouch O (.mv (.k x14)) h 117 fun x117 h t0 =>
 vtouch O (.mv (.k x15)) h 118 fun x118 h t1 =>
 vtouch O (.iaddr 1 (.k x117) (.k x118)) h 119 fun x119 h t2 =>
 vtouch O (.load false 1 (.k x119)) h 120 fun x120 h t3 =>
 vtouch O (.load true 6 (.k x16)) h 121 fun x121 h t4 =>
 vtouch O (.bslice 6 1 [(.p (.int .i64 0)), (.p (.bool false)), (.p (.int .i64 0)), (.p (.str [])), (.p .nilslice), (.p .nilslice)] [(0, (.k x121))] false) h 122 fun x122 h t5 =>
 vtouch O (.call (.k (.v (.c (.func 10 [])))) [(.k x120), (.k x122)]) h 123 fun x123 h t6 =>
 vtouch O (.mv (.k x123)) h 116 fun x116 h t7 =>
 vtouch O (.extract (.k x116) 0) h 124 fun x124 h t8 =>
 vtouch O (.extract (.k x116) 1) h 125 fun x125 h t9 =>
 vtouch O (.alloc [(.p (.int .i64 0)), (.p (.bool false)), (.p (.int .i64 0)), (.p (.str [])), (.p .nilslice), (.p .nilslice)] false) h 18 fun x18 h t10 =>
 vtouch O (.store 6 (.k x18) (.k x124)) h 1000000 fun _ h t11 =>
 vtouch O (.mv (.k x125)) h 19 fun x19 h t12 =>
 bif apartAll [t0, t1, t2, t3, t4, t5, t6, t7, t8, t9, t10, t11, t12] [(3, 5), (3, 10), (4, 10), (5, 10), (6, 10)] then
 vbin .neq 0 x17 (kI 0) h fun x127 h =>
 vguard x127 false (fun kk => vfaddr 2 x16 h kk) h fun x129 h =>
 vguard x127 false (fun kk => vload false 1 x129 h kk) h fun x130 h =>
 vguard x127 false (fun kk => kk x10 h) h fun x131 h =>
 vguard x127 false (fun kk => kk x15 h) h fun x132 h =>
 vguard x127 false (fun kk => viaddr 1 x131 x132 h kk) h fun x133 h =>
 vguard x127 false (fun kk => vload false 1 x133 h kk) h fun x134 h =>
 vguard x127 false (fun kk => vbin .neq 0 x130 x134 h kk) h fun x135 h =>
 vop O (.pick (.k x127) (.k (kB true)) (.k x135)) h 136 fun x136 h =>
 vguard x136 false (fun kk => kk x19 h) h fun x138 h =>
 vguard x136 false (fun kk => vbin .neq 0 x138 (kI 0) h kk) h fun x139 h =>
 vop O (.pick (.k x136) (.k (kB true)) (.k x139)) h 140 fun x140 h =>
 vguard x140 false (fun kk => vfaddr 2 x18 h kk) h fun x142 h =>
 vguard x140 false (fun kk => vload false 1 x142 h kk) h fun x143 h =>
 vguard x140 false (fun kk => vfaddr 2 x16 h kk) h fun x144 h =>
 vguard x140 false (fun kk => vload false 1 x144 h kk) h fun x145 h =>
 vguard x140 false (fun kk => vbin .neq 0 x143 x145 h kk) h fun x146 h =>
 vop O (.pick (.k x140) (.k (kB true)) (.k x146)) h 147 fun x147 h =>
 vif x147 (
 tcomp (kB false) fun c0 => vfin true q [c0] h)
 (vbin .add 0 x15 (kI 1) h fun x105 h =>
 R 3 [x0, x1, x5, x7, x10, x14, x105] h)
 else none
 else none)
 (R 4 [x0, x1, x7] h)
theorem e3_3 (O : Oracle) (R : Jump) (q : Nat) (x0 x1 x5 x7 x10 x14 x15 : TVal) (h : Heap) : b3_3 O R q x0 x1 x5 x7 x10 x14 x15 h = stepF c3 O R q 3 [x0, x1, x5, x7, x10, x14, x15] h := by kernel_rfl
noncomputable def b3_4 (O : Oracle) (R : Jump) (q : Nat) (x0 x1 x7 : TVal) (h : Heap) : Res1 :=
 vcall O (.v (.c (.func 10 []))) [(kS [108, 116]), x7] h 150 fun x150 h =>
 vext x150 0 h fun x151 h =>
 vext x150 1 h fun x152 h =>
 vop O (.alloc [(.p (.int .i64 0)), (.p (.bool false)), (.p (.int .i64 0)), (.p (.str [])), (.p .nilslice), (.p .nilslice)] false) h 20 fun x20 h =>
 vstore 6 x20 x151 h fun _ h =>
 vcall O (.v (.c (.func 10 []))) [(kS [101, 113]), x7] h 155 fun x155 h =>
 vext x155 0 h fun x156 h =>
 vext x155 1 h fun x157 h =>
 vop O (.alloc [(.p (.int .i64 0)), (.p (.bool false)), (.p (.int .i64 0)), (.p (.str [])), (.p .nilslice), (.p .nilslice)] false) h 22 fun x22 h =>
 vstore 6 x22 x156 h fun _ h =>
 vbin .eql 0 x152 (kI 0) h fun x159 h =>
 vguard x159 true (fun kk => vfaddr 1 x20 h kk) h fun x161 h =>
 vguard x159 true (fun kk => vload false 1 x161 h kk) h fun x162 h =>
 vguard x159 true (fun kk => kk x0 h) h fun x163 h =>
 vguard x159 true (fun kk => kk x1 h) h fun x164 h =>
 vguard x159 true (fun kk => vbin .lss 0 x163 x164 h kk) h fun x165 h =>
 vguard x159 true (fun kk => vbin .eql 5 x162 x165 h kk) h fun x166 h =>
 vop O (.pick (.k x159) (.k x166) (.k (kB false))) h 167 fun x167 h =>
 vguard x167 true (fun kk => kk x157 h) h fun x169 h =>
 vguard x167 true (fun kk => vbin .eql 0 x169 (kI 0) h kk) h fun x170 h =>
 vop O (.pick (.k x167) (.k x170) (.k (kB false))) h 171 fun x171 h =>
 vguard x171 true (fun kk => vfaddr 1 x22 h kk) h fun x173 h =>
 vguard x171 true (fun kk => vload false 1 x173 h kk) h fun x174 h =>
 vguard x171 true (fun kk => kk x0 h) h fun x175 h =>
 vguard x171 true (fun kk => kk x1 h) h fun x176 h =>
 vguard x171 true (fun kk => vbin .eql 0 x175 x176 h kk) h fun x177 h =>
 vguard x171 true (fun kk => vbin .eql 5 x174 x177 h kk) h fun x178 h =>
 vop O (.pick (.k x171) (.k x178) (.k (kB false))) h 179 fun x179 h =>
 tcomp x179 fun c0 => vfin true q [c0] h
theorem e3_4 (O : Oracle) (R : Jump) (q : Nat) (x0 x1 x7 : TVal) (h : Heap) : b3_4 O R q x0 x1 x7 h = stepF c3 O R q 4 [x0, x1, x7] h := by kernel_rfl
noncomputable def d3 : BlkF := fun O R q => [.s fun y0 => .s fun y1 => .z fun h => b3_0 O R q y0 y1 h, .s fun y0 => .s fun y1 => .s fun y2 => .s fun y3 => .s fun y4 => .s fun y5 => .s fun y6 => .z fun h => b3_1 O R q y0 y1 y2 y3 y4 y5 y6 h, .s fun y0 => .s fun y1 => .s fun y2 => .s fun y3 => .z fun h => b3_2 O R q y0 y1 y2 y3 h, .s fun y0 => .s fun y1 => .s fun y2 => .s fun y3 => .s fun y4 => .s fun y5 => .s fun y6 => .z fun h => b3_3 O R q y0 y1 y2 y3 y4 y5 y6 h, .s fun y0 => .s fun y1 => .s fun y2 => .z fun h => b3_4 O R q y0 y1 y2 h]
theorem o3 (O : Oracle) (R : Jump) (q : Nat) : HoldsAll c3 O R q 0 (d3 O R q) := ⟨fun y0 y1 h => e3_0 O R q y0 y1 h, fun y0 y1 y2 y3 y4 y5 y6 h => e3_1 O R q y0 y1 y2 y3 y4 y5 y6 h, fun y0 y1 y2 y3 h => e3_2 O R q y0 y1 y2 y3 h, fun y0 y1 y2 y3 y4 y5 y6 h => e3_3 O R q y0 y1 y2 y3 y4 y5 y6 h, fun y0 y1 y2 h => e3_4 O R q y0 y1 y2 h, trivial⟩
/- sprue/spruelaw15.CallsShifts -/
def c4 : MFunc := { np := 2, res := [.t 4], frz := true, body := (.seq (.reg [(oA 4 (.mv (.k (.v (.c (.p (.bool false)))))))] []) (.seq (.seq (.reg [(oA 22 (.call (.k (.v (.c (.func 9 [])))) [])), (oA 23 (.un .not (.t 22)))] []) (.cond (.t 23) (.seq (.reg [(oA 4 (.mv (.k (.v (.c (.p (.bool false)))))))] []) .ret) .skip)) (.seq (.reg [(oA 25 (.mv (.t 0))), (oA 26 (.call (.k (.v (.c (.func 12 [])))) [(.t 25)])), (oA 27 (.call (.k (.v (.c (.func 12 [])))) [(.k (.v (.c (.p (.int .i64 1)))))])), (oA 28 (.bslice 6 2 [(.p (.int .i64 0)), (.p (.bool false)), (.p (.int .i64 0)), (.p (.str [])), (.p .nilslice), (.p .nilslice)] [(0, (.t 26)), (1, (.t 27))] false)), (oA 29 (.call (.k (.v (.c (.func 11 [])))) [(.k (.v (.c (.p (.str [115, 104, 108]))))), (.t 28)])), (oA 24 (.mv (.t 29))), (oA 30 (.extract (.t 24) 0)), (oA 31 (.extract (.t 24) 1)), (oA 5 (.alloc [(.p (.int .i64 0)), (.p (.bool false)), (.p (.int .i64 0)), (.p (.str [])), (.p .nilslice), (.p .nilslice)] false)), (oN (.store 6 (.t 5) (.t 30))), (oA 6 (.mv (.t 31)))] []) (.seq (.reg [(oA 33 (.mv (.t 0))), (oA 34 (.call (.k (.v (.c (.func 12 [])))) [(.t 33)])), (oA 35 (.mv (.t 0))), (oA 36 (.call (.k (.v (.c (.func 12 [])))) [(.t 35)])), (oA 37 (.bslice 6 2 [(.p (.int .i64 0)), (.p (.bool false)), (.p (.int .i64 0)), (.p (.str [])), (.p .nilslice), (.p .nilslice)] [(0, (.t 34)), (1, (.t 36))] false)), (oA 38 (.call (.k (.v (.c (.func 11 [])))) [(.k (.v (.c (.p (.str [97, 100, 100]))))), (.t 37)])), (oA 32 (.mv (.t 38))), (oA 39 (.extract (.t 32) 0)), (oA 40 (.extract (.t 32) 1)), (oA 7 (.alloc [(.p (.int .i64 0)), (.p (.bool false)), (.p (.int .i64 0)), (.p (.str [])), (.p .nilslice), (.p .nilslice)] false)), (oN (.store 6 (.t 7) (.t 39))), (oA 8 (.mv (.t 40)))] []) (.seq (.reg [(oA 42 (.mv (.t 0))), (oA 43 (.call (.k (.v (.c (.func 12 [])))) [(.t 42)])), (oA 44 (.mv (.t 1))), (oA 45 (.call (.k (.v (.c (.func 12 [])))) [(.t 44)])), (oA 46 (.bslice 6 2 [(.p (.int .i64 0)), (.p (.bool false)), (.p (.int .i64 0)), (.p (.str [])), (.p .nilslice), (.p .nilslice)] [(0, (.t 43)), (1, (.t 45))] false)), (oA 47 (.call (.k (.v (.c (.func 11 [])))) [(.k (.v (.c (.p (.str [115, 104, 108]))))), (.t 46)])), (oA 41 (.mv (.t 47))), (oA 48 (.extract (.t 41) 0)), (oA 49 (.extract (.t 41) 1)), (oA 9 (.alloc [(.p (.int .i64 0)), (.p (.bool false)), (.p (.int .i64 0)), (.p (.str [])), (.p .nilslice), (.p .nilslice)] false)), (oN (.store 6 (.t 9) (.t 48))), (oA 10 (.mv (.t 49)))] []) (.seq (.reg [(oA 51 (.mv (.t 0))), (oA 52 (.call (.k (.v (.c (.func 12 [])))) [(.t 51)])), (oA 53 (.mv (.t 1))), (oA 54 (.bin .and 0 (.t 53) (.k (.v (.c (.p (.int .i64 63))))))), (oA 55 (.call (.k (.v (.c (.func 12 [])))) [(.t 54)])), (oA 56 (.bslice 6 2 [(.p (.int .i64 0)), (.p (.bool false)), (.p (.int .i64 0)), (.p (.str [])), (.p .nilslice), (.p .nilslice)] [(0, (.t 52)), (1, (.t 55))] false)), (oA 57 (.call (.k (.v (.c (.func 11 [])))) [(.k (.v (.c (.p (.str [115, 104, 108]))))), (.t 56)])), (oA 50 (.mv (.t 57))), (oA 58 (.extract (.t 50) 0)), (oA 59 (.extract (.t 50) 1)), (oA 11 (.alloc [(.p (.int .i64 0)), (.p (.bool false)), (.p (.int .i64 0)), (.p (.str [])), (.p .nilslice), (.p .nilslice)] false)), (oN (.store 6 (.t 11) (.t 58))), (oA 12 (.mv (.t 59)))] []) (.seq (.reg [(oA 61 (.mv (.t 0))), (oA 62 (.call (.k (.v (.c (.func 12 [])))) [(.t 61)])), (oA 63 (.call (.k (.v (.c (.func 12 [])))) [(.k (.v (.c (.p (.int .i64 63)))))])), (oA 64 (.bslice 6 2 [(.p (.int .i64 0)), (.p (.bool false)), (.p (.int .i64 0)), (.p (.str [])), (.p .nilslice), (.p .nilslice)] [(0, (.t 62)), (1, (.t 63))] false)), (oA 65 (.call (.k (.v (.c (.func 11 [])))) [(.k (.v (.c (.p (.str [115, 104, 114]))))), (.t 64)])), (oA 60 (.mv (.t 65))), (oA 66 (.extract (.t 60) 0)), (oA 67 (.extract (.t 60) 1)), (oA 13 (.alloc [(.p (.int .i64 0)), (.p (.bool false)), (.p (.int .i64 0)), (.p (.str [])), (.p .nilslice), (.p .nilslice)] false)), (oN (.store 6 (.t 13) (.t 66))), (oA 14 (.mv (.t 67)))] []) (.seq (.reg [(oA 15 (.mv (.k (.v (.c (.p (.int .i64 0)))))))] []) (.seq (.seq (.reg [(oA 68 (.mv (.t 0))), (oA 69 (.bin .lss 0 (.t 68) (.k (.v (.c (.p (.int .i64 0)))))))] []) (.cond (.t 69) (.reg [(oA 15 (.mv (.k (.v (.c (.p (.int .i64 (-1))))))))] []) .skip)) (.mark 1 [0, 5, 6, 7, 8, 9, 10, 11, 12, 13, 14, 15] (.seq (.reg [(oA 71 (.mv (.t 0))), (oA 72 (.call (.k (.v (.c (.func 12 [])))) [(.t 71)])), (oA 73 (.call (.k (.v (.c (.func 12 [])))) [(.k (.v (.c (.p (.int .i64 56)))))])), (oA 74 (.bslice 6 2 [(.p (.int .i64 0)), (.p (.bool false)), (.p (.int .i64 0)), (.p (.str [])), (.p .nilslice), (.p .nilslice)] [(0, (.t 72)), (1, (.t 73))] false)), (oA 75 (.call (.k (.v (.c (.func 11 [])))) [(.k (.v (.c (.p (.str [115, 104, 108]))))), (.t 74)])), (oA 70 (.mv (.t 75))), (oA 76 (.extract (.t 70) 0)), (oA 77 (.extract (.t 70) 1)), (oA 16 (.alloc [(.p (.int .i64 0)), (.p (.bool false)), (.p (.int .i64 0)), (.p (.str [])), (.p .nilslice), (.p .nilslice)] false)), (oN (.store 6 (.t 16) (.t 76))), (oA 17 (.mv (.t 77)))] []) (.seq (.reg [(oA 79 (.load true 6 (.t 16))), (oA 80 (.call (.k (.v (.c (.func 12 [])))) [(.k (.v (.c (.p (.int .i64 56)))))])), (oA 81 (.bslice 6 2 [(.p (.int .i64 0)), (.p (.bool false)), (.p (.int .i64 0)), (.p (.str [])), (.p .nilslice), (.p .nilslice)] [(0, (.t 79)), (1, (.t 80))] false)), (oA 82 (.call (.k (.v (.c (.func 11 [])))) [(.k (.v (.c (.p (.str [115, 104, 114]))))), (.t 81)])), (oA 78 (.mv (.t 82))), (oA 83 (.extract (.t 78) 0)), (oA 84 (.extract (.t 78) 1)), (oA 18 (.alloc [(.p (.int .i64 0)), (.p (.bool false)), (.p (.int .i64 0)), (.p (.str [])), (.p .nilslice), (.p .nilslice)] false)), (oN (.store 6 (.t 18) (.t 83))), (oA 19 (.mv (.t 84)))] [(0, 1), (0, 7), (1, 7), (2, 7), (3, 7)]) (.seq (.reg [(oA 86 (.mv (.t 0))), (oA 87 (.call (.k (.v (.c (.func 12 [])))) [(.t 86)])), (oA 88 (.bslice 6 1 [(.p (.int .i64 0)), (.p (.bool false)), (.p (.int .i64 0)), (.p (.str [])), (.p .nilslice), (.p .nilslice)] [(0, (.t 87))] false)), (oA 89 (.call (.k (.v (.c (.func 11 [])))) [(.k (.v (.c (.p (.str [105, 56]))))), (.t 88)])), (oA 85 (.mv (.t 89))), (oA 90 (.extract (.t 85) 0)), (oA 91 (.extract (.t 85) 1)), (oA 20 (.alloc [(.p (.int .i64 0)), (.p (.bool false)), (.p (.int .i64 0)), (.p (.str [])), (.p .nilslice), (.p .nilslice)] false)), (oN (.store 6 (.t 20) (.t 90))), (oA 21 (.mv (.t 91)))] []) (.seq (.reg [(oA 92 (.mv (.t 6))), (oA 93 (.bin .eql 0 (.t 92) (.k (.v (.c (.p (.int .i64 0))))))), (oA 94 (.mv (.t 93))), ⟨(some 95), (.mv (.t 8)), (some (94, true))⟩, ⟨(some 96), (.bin .eql 0 (.t 95) (.k (.v (.c (.p (.int .i64 0)))))), (some (94, true))⟩, (oA 97 (.pick (.t 94) (.t 96) (.k (.v (.c (.p (.bool false))))))), (oA 98 (.mv (.t 97))), ⟨(some 99), (.faddr 2 (.t 5)), (some (98, true))⟩, ⟨(some 100), (.load false 1 (.t 99)), (some (98, true))⟩, ⟨(some 101), (.faddr 2 (.t 7)), (some (98, true))⟩, ⟨(some 102), (.load false 1 (.t 101)), (some (98, true))⟩, ⟨(some 103), (.bin .eql 0 (.t 100) (.t 102)), (some (98, true))⟩, (oA 104 (.pick (.t 98) (.t 103) (.k (.v (.c (.p (.bool false))))))), (oA 105 (.mv (.t 104))), ⟨(some 106), (.mv (.t 10)), (some (105, true))⟩, ⟨(some 107), (.bin .eql 0 (.t 106) (.k (.v (.c (.p (.int .i64 0)))))), (some (105, true))⟩, (oA 108 (.pick (.t 105) (.t 107) (.k (.v (.c (.p (.bool false))))))), (oA 109 (.mv (.t 108))), ⟨(some 110), (.mv (.t 12)), (some (109, true))⟩, ⟨(some 111), (.bin .eql 0 (.t 110) (.k (.v (.c (.p (.int .i64 0)))))), (some (109, true))⟩, (oA 112 (.pick (.t 109) (.t 111) (.k (.v (.c (.p (.bool false))))))), (oA 113 (.mv (.t 112))), ⟨(some 114), (.faddr 2 (.t 9)), (some (113, true))⟩, ⟨(some 115), (.load false 1 (.t 114)), (some (113, true))⟩, ⟨(some 116), (.faddr 2 (.t 11)), (some (113, true))⟩, ⟨(some 117), (.load false 1 (.t 116)), (some (113, true))⟩, ⟨(some 118), (.bin .eql 0 (.t 115) (.t 117)), (some (113, true))⟩, (oA 119 (.pick (.t 113) (.t 118) (.k (.v (.c (.p (.bool false))))))), (oA 120 (.mv (.t 119))), ⟨(some 121), (.mv (.t 14)), (some (120, true))⟩, ⟨(some 122), (.bin .eql 0 (.t 121) (.k (.v (.c (.p (.int .i64 0)))))), (some (120, true))⟩, (oA 123 (.pick (.t 120) (.t 122) (.k (.v (.c (.p (.bool false))))))), (oA 124 (.mv (.t 123))), ⟨(some 125), (.faddr 2 (.t 13)), (some (124, true))⟩, ⟨(some 126), (.load false 1 (.t 125)), (some (124, true))⟩, ⟨(some 127), (.mv (.t 15)), (some (124, true))⟩, ⟨(some 128), (.bin .eql 0 (.t 126) (.t 127)), (some (124, true))⟩, (oA 129 (.pick (.t 124) (.t 128) (.k (.v (.c (.p (.bool false))))))), (oA 130 (.mv (.t 129))), ⟨(some 131), (.mv (.t 21)), (some (130, true))⟩, ⟨(some 132), (.bin .eql 0 (.t 131) (.k (.v (.c (.p (.int .i64 0)))))), (some (130, true))⟩, (oA 133 (.pick (.t 130) (.t 132) (.k (.v (.c (.p (.bool false))))))), (oA 134 (.mv (.t 133))), ⟨(some 135), (.faddr 2 (.t 18)), (some (134, true))⟩, ⟨(some 136), (.load false 1 (.t 135)), (some (134, true))⟩, ⟨(some 137), (.faddr 2 (.t 20)), (some (134, true))⟩, ⟨(some 138), (.load false 1 (.t 137)), (some (134, true))⟩, ⟨(some 139), (.bin .eql 0 (.t 136) (.t 138)), (some (134, true))⟩, (oA 140 (.pick (.t 134) (.t 139) (.k (.v (.c (.p (.bool false))))))), (oA 4 (.mv (.t 140)))] []) .ret)))))))))))))) }
theorem t4 : compF Tryd.prog (globs2 tabs opq) (fun _ => false) true Tryd.f4 = some c4.erase := by kernel_rfl
noncomputable def b4_0 (O : Oracle) (R : Jump) (q : Nat) (x0 x1 : TVal) (h : Heap) : Res1 :=
 vcall O (.v (.c (.func 9 []))) [] h 22 fun x22 h =>
 vop O (.un .not (.k x22)) h 23 fun x23 h =>
 vif x23 (
 tcomp (kB false) fun c0 => vfin true q [c0] h)
 (vcall O (.v (.c (.func 12 []))) [x0] h 26 fun x26 h =>
 vcall O (.v (.c (.func 12 []))) [(kI 1)] h 27 fun x27 h =>
 vop O (.bslice 6 2 [(.p (.int .i64 0)), (.p (.bool false)), (.p (.int .i64 0)), (.p (.str [])), (.p .nilslice), (.p .nilslice)] [(0, (.k x26)), (1, (.k x27))] false) h 28 fun x28 h =>
 vcall O (.v (.c (.func 11 []))) [(kS [115, 104, 108]), x28] h 29 fun x29 h =>
 vext x29 0 h fun x30 h =>
 vext x29 1 h fun x31 h =>
 vop O (.alloc [(.p (.int .i64 0)), (.p (.bool false)), (.p (.int .i64 0)), (.p (.str [])), (.p .nilslice), (.p .nilslice)] false) h 5 fun x5 h =>
 vstore 6 x5 x30 h fun _ h =>
 vcall O (.v (.c (.func 12 []))) [x0] h 34 fun x34 h =>
 vcall O (.v (.c (.func 12 []))) [x0] h 36 fun x36 h =>
 vop O (.bslice 6 2 [(.p (.int .i64 0)), (.p (.bool false)), (.p (.int .i64 0)), (.p (.str [])), (.p .nilslice), (.p .nilslice)] [(0, (.k x34)), (1, (.k x36))] false) h 37 fun x37 h =>
 vcall O (.v (.c (.func 11 []))) [(kS [97, 100, 100]), x37] h 38 fun x38 h =>
 vext x38 0 h fun x39 h =>
 vext x38 1 h fun x40 h =>
 vop O (.alloc [(.p (.int .i64 0)), (.p (.bool false)), (.p (.int .i64 0)), (.p (.str [])), (.p .nilslice), (.p .nilslice)] false) h 7 fun x7 h =>
 vstore 6 x7 x39 h fun _ h =>
 vcall O (.v (.c (.func 12 []))) [x0] h 43 fun x43 h =>
 vcall O (.v (.c (.func 12 []))) [x1] h 45 fun x45 h =>
 vop O (.bslice 6 2 [(.p (.int .i64 0)), (.p (.bool false)), (.p (.int .i64 0)), (.p (.str [])), (.p .nilslice), (.p .nilslice)] [(0, (.k x43)), (1, (.k x45))] false) h 46 fun x46 h =>
 vcall O (.v (.c (.func 11 []))) [(kS [115, 104, 108]), x46] h 47 fun x47 h =>
 vext x47 0 h fun x48 h =>
 vext x47 1 h fun x49 h =>
 vop O (.alloc [(.p (.int .i64 0)), (.p (.bool false)), (.p (.int .i64 0)), (.p (.str [])), (.p .nilslice), (.p .nilslice)] false) h 9 fun x9 h =>
 vstore 6 x9 x48 h fun _ h =>
 vcall O (.v (.c (.func 12 []))) [x0] h 52 fun x52 h =>
 vbin .and 0 x1 (kI 63) h fun x54 h =>
 vcall O (.v (.c (.func 12 []))) [x54] h 55 fun x55 h =>
 vop O (.bslice 6 2 [(.p (.int .i64 0)), (.p (.bool false)), (.p (.int .i64 0)), (.p (.str [])), (.p .nilslice), (.p .nilslice)] [(0, (.k x52)), (1, (.k x55))] false) h 56 fun x56 h =>
 vcall O (.v (.c (.func 11 []))) [(kS [115, 104, 108]), x56] h 57 fun x57 h =>
 vext x57 0 h fun x58 h =>
 vext x57 1 h fun x59 h =>
 vop O (.alloc [(.p (.int .i64 0)), (.p (.bool false)), (.p (.int .i64 0)), (.p (.str [])), (.p .nilslice), (.p .nilslice)] false) h 11 fun x11 h =>
 vstore 6 x11 x58 h fun _ h =>
 vcall O (.v (.c (.func 12 []))) [x0] h 62 fun x62 h =>
 vcall O (.v (.c (.func 12 []))) [(kI 63)] h 63 fun x63 h =>
 vop O (.bslice 6 2 [(.p (.int .i64 0)), (.p (.bool false)), (.p (.int .i64 0)), (.p (.str [])), (.p .nilslice), (.p .nilslice)] [(0, (.k x62)), (1, (.k x63))] false) h 64 fun x64 h =>
 vcall O (.v (.c (.func 11 []))) [(kS [115, 104, 114]), x64] h 65 fun x65 h =>
 vext x65 0 h fun x66 h =>
 vext x65 1 h fun x67 h =>
 vop O (.alloc [(.p (.int .i64 0)), (.p (.bool false)), (.p (.int .i64 0)), (.p (.str [])), (.p .nilslice), (.p .nilslice)] false) h 13 fun x13 h =>
 vstore 6 x13 x66 h fun _ h =>
 vbin .lss 0 x0 (kI 0) h fun x69 h =>
 vif x69 (
 R 1 [x0, x5, x31, x7, x40, x9, x49, x11, x59, x13, x67, (kI (-1))] h)
 (R 1 [x0, x5, x31, x7, x40, x9, x49, x11, x59, x13, x67, (kI 0)] h))
theorem e4_0 (O : Oracle) (R : Jump) (q : Nat) (x0 x1 : TVal) (h : Heap) : b4_0 O R q x0 x1 h = stepF c4 O R q 0 [x0, x1] h := by kernel_rfl
noncomputable def b4_1 (O : Oracle) (R : Jump) (q : Nat) (x0 x5 x6 x7 x8 x9 x10 x11 x12 x13 x14 x15 : TVal) (h : Heap) : Res1 :=
 vcall O (.v (.c (.func 12 []))) [x0] h 72 fun x72 h =>
 vcall O (.v (.c (.func 12 []))) [(kI 56)] h 73 fun x73 h =>
 vop O (.bslice 6 2 [(.p (.int .i64 0)), (.p (.bool false)), (.p (.int .i64 0)), (.p (.str [])), (.p .nilslice), (.p .nilslice)] [(0, (.k x72)), (1, (.k x73))] false) h 74 fun x74 h =>
 vcall O (.v (.c (.func 11 []))) [(kS [115, 104, 108]), x74] h 75 fun x75 h =>
 vext x75 0 h fun x76 h =>
 vext x75 1 h fun x77 h =>
 vop O (.alloc [(.p (.int .i64 0)), (.p (.bool false)), (.p (.int .i64 0)), (.p (.str [])), (.p .nilslice), (.p .nilslice)] false) h 16 fun x16 h =>
 vstore 6 x16 x76 h fun _ h =>
 vtouch O (.load true 6 (.k x16)) h 79 fun x79 h t0 =>
 vtouch O (.call (.k (.v (.c (.func 12 [])))) [(.k (kI 56))]) h 80 fun x80 h t1 =>
 vtouch O (.bslice 6 2 [(.p (.int .i64 0)), (.p (.bool false)), (.p (.int .i64 0)), (.p (.str [])), (.p .nilslice), (.p .nilslice)] [(0, (.k x79)), (1, (.k x80))] false) h 81 fun x81 h t2 =>
 vtouch O (.call (.k (.v (.c (.func 11 [])))) [(.k (kS [115, 104, 114])), (.k x81)]) h 82 fun x82 h t3 =>
 vtouch O (.mv (.k x82)) h 78 fun x78 h t4 =>
 vtouch O (.extract (.k x78) 0) h 83 fun x83 h t5 =>
 vtouch O (.extract (.k x78) 1) h 84 fun x84 h t6 =>
 vtouch O (.alloc [(.p (.int .i64 0)), (.p (.bool false)), (.p (.int .i64 0)), (.p (.str [])), (.p .nilslice), (.p .nilslice)] false) h 18 fun x18 h t7 =>
 vtouch O (.store 6 (.k x18) (.k x83)) h 1000000 fun _ h t8 =>
 vtouch O (.mv (.k x84)) h 19 fun x19 h t9 =>
 bif apartAll [t0, t1, t2, t3, t4, t5, t6, t7, t8, t9] [(0, 1), (0, 7), (1, 7), (2, 7), (3, 7)] then
 vcall O (.v (.c (.func 12 []))) [x0] h 87 fun x87 h =>
 vop O (.bslice 6 1 [(.p (.int .i64 0)), (.p (.bool false)), (.p (.int .i64 0)), (.p (.str [])), (.p .nilslice), (.p .nilslice)] [(0, (.k x87))] false) h 88 fun x88 h =>
 vcall O (.v (.c (.func 11 []))) [(kS [105, 56]), x88] h 89 fun x89 h =>
 vext x89 0 h fun x90 h =>
 vext x89 1 h fun x91 h =>
 vop O (.alloc [(.p (.int .i64 0)), (.p (.bool false)), (.p (.int .i64 0)), (.p (.str [])), (.p .nilslice), (.p .nilslice)] false) h 20 fun x20 h =>
 vstore 6 x20 x90 h fun _ h =>
 vbin .eql 0 x6 (kI 0) h fun x93 h =>
 vguard x93 true (fun kk => kk x8 h) h fun x95 h =>
 vguard x93 true (fun kk => vbin .eql 0 x95 (kI 0) h kk) h fun x96 h =>
 vop O (.pick (.k x93) (.k x96) (.k (kB false))) h 97 fun x97 h =>
 vguard x97 true (fun kk => vfaddr 2 x5 h kk) h fun x99 h =>
 vguard x97 true (fun kk => vload false 1 x99 h kk) h fun x100 h =>
 vguard x97 true (fun kk => vfaddr 2 x7 h kk) h fun x101 h =>
 vguard x97 true (fun kk => vload false 1 x101 h kk) h fun x102 h =>
 vguard x97 true (fun kk => vbin .eql 0 x100 x102 h kk) h fun x103 h =>
 vop O (.pick (.k x97) (.k x103) (.k (kB false))) h 104 fun x104 h =>
 vguard x104 true (fun kk => kk x10 h) h fun x106 h =>
 vguard x104 true (fun kk => vbin .eql 0 x106 (kI 0) h kk) h fun x107 h =>
 vop O (.pick (.k x104) (.k x107) (.k (kB false))) h 108 fun x108 h =>
 vguard x108 true (fun kk => kk x12 h) h fun x110 h =>
 vguard x108 true (fun kk => vbin .eql 0 x110 (kI 0) h kk) h fun x111 h =>
 vop O (.pick (.k x108) (.k x111) (.k (kB false))) h 112 fun x112 h =>
 vguard x112 true (fun kk => vfaddr 2 x9 h kk) h fun x114 h =>
 vguard x112 true (fun kk => vload false 1 x114 h kk) h fun x115 h =>
 vguard x112 true (fun kk => vfaddr 2 x11 h kk) h fun x116 h =>
 vguard x112 true (fun kk => vload false 1 x116 h kk) h fun x117 h =>
 vguard x112 true (fun kk => vbin .eql 0 x115 x117 h kk) h fun x118 h =>
 vop O (.pick (.k x112) (.k x118) (.k (kB false))) h 119 fun x119 h =>
 vguard x119 true (fun kk => kk x14 h) h fun x121 h =>
 vguard x119 true (fun kk => vbin .eql 0 x121 (kI 0) h kk) h fun x122 h =>
 vop O (.pick (.k x119) (.k x122) (.k (kB false))) h 123 fun x123 h =>
 vguard x123 true (fun kk => vfaddr 2 x13 h kk) h fun x125 h =>
 vguard x123 true (fun kk => vload false 1 x125 h kk) h fun x126 h =>
 vguard x123 true (fun kk => kk x15 h) h fun x127 h =>
 vguard x123 true (fun kk => vbin .eql 0 x126 x127 h kk) h fun x128 h =>
 vop O (.pick (.k x123) (.k x128) (.k (kB false))) h 129 fun x129 h =>
 vguard x129 true (fun kk => kk x91 h) h fun x131 h =>
 vguard x129 true (fun kk => vbin .eql 0 x131 (kI 0) h kk) h fun x132 h =>
 vop O (.pick (.k x129) (.k x132) (.k (kB false))) h 133 fun x133 h =>
 vguard x133 true (fun kk => vfaddr 2 x18 h kk) h fun x135 h =>
 vguard x133 true (fun kk => vload false 1 x135 h kk) h fun x136 h =>
 vguard x133 true (fun kk => vfaddr 2 x20 h kk) h fun x137 h =>
 vguard x133 true (fun kk => vload false 1 x137 h kk) h fun x138 h =>
 vguard x133 true (fun kk => vbin .eql 0 x136 x138 h kk) h fun x139 h =>
 vop O (.pick (.k x133) (.k x139) (.k (kB false))) h 140 fun x140 h =>
 tcomp x140 fun c0 => vfin true q [c0] h
 else none
theorem e4_1 (O : Oracle) (R : Jump) (q : Nat) (x0 x5 x6 x7 x8 x9 x10 x11 x12 x13 x14 x15 : TVal) (h : Heap) : b4_1 O R q x0 x5 x6 x7 x8 x9 x10 x11 x12 x13 x14 x15 h = stepF c4 O R q 1 [x0, x5, x6, x7, x8, x9, x10, x11, x12, x13, x14, x15] h := by kernel_rfl
noncomputable def d4 : BlkF := fun O R q => [.s fun y0 => .s fun y1 => .z fun h => b4_0 O R q y0 y1 h, .s fun y0 => .s fun y1 => .s fun y2 => .s fun y3 => .s fun y4 => .s fun y5 => .s fun y6 => .s fun y7 => .s fun y8 => .s fun y9 => .s fun y10 => .s fun y11 => .z fun h => b4_1 O R q y0 y1 y2 y3 y4 y5 y6 y7 y8 y9 y10 y11 h]
theorem o4 (O : Oracle) (R : Jump) (q : Nat) : HoldsAll c4 O R q 0 (d4 O R q) := ⟨fun y0 y1 h => e4_0 O R q y0 y1 h, fun y0 y1 y2 y3 y4 y5 y6 y7 y8 y9 y10 y11 h => e4_1 O R q y0 y1 y2 y3 y4 y5 y6 y7 y8 y9 y10 y11 h, trivial⟩
/- sprue/spruelaw15.CallsConverts -/
def c5 : MFunc := { np := 2, res := [.t 4], frz := true, body := (.seq (.reg [(oA 4 (.mv (.k (.v (.c (.p (.bool false)))))))] []) (.seq (.seq (.reg [(oA 30 (.call (.k (.v (.c (.func 9 [])))) [])), (oA 31 (.un .not (.t 30)))] []) (.cond (.t 31) (.seq (.reg [(oA 4 (.mv (.k (.v (.c (.p (.bool false)))))))] []) .ret) .skip)) (.seq (.reg [(oA 32 (.bslice 1 6 [(.p (.str []))] [(0, (.k (.v (.c (.p (.str [105, 56])))))), (1, (.k (.v (.c (.p (.str [117, 56])))))), (2, (.k (.v (.c (.p (.str [105, 49, 54])))))), (3, (.k (.v (.c (.p (.str [117, 49, 54])))))), (4, (.k (.v (.c (.p (.str [105, 51, 50])))))), (5, (.k (.v (.c (.p (.str [117, 51, 50]))))))] false)), (oA 5 (.mv (.t 32)))] []) (.seq (.reg [(oA 33 (.bslice 1 6 [(.p (.int .u64 0))] [(0, (.k (.v (.c (.p (.int .u64 8)))))), (1, (.k (.v (.c (.p (.int .u64 8)))))), (2, (.k (.v (.c (.p (.int .u64 16)))))), (3, (.k (.v (.c (.p (.int .u64 16)))))), (4, (.k (.v (.c (.p (.int .u64 32)))))), (5, (.k (.v (.c (.p (.int .u64 32))))))] false)), (oA 6 (.mv (.t 33)))] []) (.seq (.seq (.reg [(oA 7 (.mv (.k (.v (.c (.p (.int .i64 0)))))))] []) (.block 0 (.loop 1 [0, 1, 5, 6, 7] (.seq (.seq (.reg [(oA 34 (.mv (.t 7))), (oA 35 (.bin .lss 0 (.t 34) (.k (.v (.c (.p (.int .i64 6)))))))] []) (.cond (.t 35) .skip (.exit 0))) (.seq (.block 1 (.seq (.reg [(oA 39 (.mv (.t 5))), (oA 40 (.mv (.t 7))), (oA 41 (.iaddr 1 (.t 39) (.t 40))), (oA 42 (.load false 1 (.t 41))), (oA 43 (.mv (.t 0))), (oA 44 (.call (.k (.v (.c (.func 12 [])))) [(.t 43)])), (oA 45 (.bslice 6 1 [(.p (.int .i64 0)), (.p (.bool false)), (.p (.int .i64 0)), (.p (.str [])), (.p .nilslice), (.p .nilslice)] [(0, (.t 44))] false)), (oA 46 (.call (.k (.v (.c (.func 11 [])))) [(.t 42), (.t 45)])), (oA 38 (.mv (.t 46))), (oA 47 (.extract (.t 38) 0)), (oA 48 (.extract (.t 38) 1)), (oA 8 (.alloc [(.p (.int .i64 0)), (.p (.bool false)), (.p (.int .i64 0)), (.p (.str [])), (.p .nilslice), (.p .nilslice)] false)), (oN (.store 6 (.t 8) (.t 47))), (oA 9 (.mv (.t 48)))] [(3, 5), (3, 6), (3, 11), (5, 11), (6, 11), (7, 11)]) (.seq (.reg [(oA 49 (.mv (.t 6))), (oA 50 (.mv (.t 7))), (oA 51 (.iaddr 1 (.t 49) (.t 50))), (oA 52 (.load false 1 (.t 51))), (oA 53 (.bin .shl 0 (.k (.v (.c (.p (.int .i64 1))))) (.t 52))), (oA 54 (.bin .sub 0 (.t 53) (.k (.v (.c (.p (.int .i64 1))))))), (oA 10 (.mv (.k (.v (.c (.p (.int .i64 0))))))), (oA 11 (.mv (.t 54)))] []) (.seq (.seq (.reg [(oA 55 (.mv (.t 7))), (oA 56 (.bin .rem 0 (.t 55) (.k (.v (.c (.p (.int .i64 2))))))), (oA 57 (.bin .eql 0 (.t 56) (.k (.v (.c (.p (.int .i64 0)))))))] []) (.cond (.t 57) (.reg [(oA 58 (.mv (.t 6))), (oA 59 (.mv (.t 7))), (oA 60 (.iaddr 1 (.t 58) (.t 59))), (oA 61 (.load false 1 (.t 60))), (oA 62 (.bin .sub 0 (.t 61) (.k (.v (.c (.p (.int .u64 1))))))), (oA 63 (.bin .shl 0 (.k (.v (.c (.p (.int .i64 1))))) (.t 62))), (oA 64 (.bin .sub 0 (.k (.v (.c (.p (.int .i64 0))))) (.t 63))), (oA 65 (.mv (.t 6))), (oA 66 (.mv (.t 7))), (oA 67 (.iaddr 1 (.t 65) (.t 66))), (oA 68 (.load false 1 (.t 67))), (oA 69 (.bin .sub 0 (.t 68) (.k (.v (.c (.p (.int .u64 1))))))), (oA 70 (.bin .shl 0 (.k (.v (.c (.p (.int .i64 1))))) (.t 69))), (oA 71 (.bin .sub 0 (.t 70) (.k (.v (.c (.p (.int .i64 1))))))), (oA 10 (.mv (.t 64))), (oA 11 (.mv (.t 71)))] []) .skip)) (.mark 2 [0, 1, 5, 6, 7, 8, 9, 10, 11] (.seq (.seq (.reg [(oA 72 (.mv (.t 9))), (oA 73 (.bin .neq 0 (.t 72) (.k (.v (.c (.p (.int .i64 0))))))), (oA 74 (.mv (.t 73))), ⟨(some 75), (.faddr 2 (.t 8)), (some (74, false))⟩, ⟨(some 76), (.load false 1 (.t 75)), (some (74, false))⟩, ⟨(some 77), (.mv (.t 10)), (some (74, false))⟩, ⟨(some 78), (.bin .lss 0 (.t 76) (.t 77)), (some (74, false))⟩, (oA 79 (.pick (.t 74) (.k (.v (.c (.p (.bool true))))) (.t 78))), (oA 80 (.mv (.t 79))), ⟨(some 81), (.faddr 2 (.t 8)), (some (80, false))⟩, ⟨(some 82), (.load false 1 (.t 81)), (some (80, false))⟩, ⟨(some 83), (.mv (.t 11)), (some (80, false))⟩, ⟨(some 84), (.bin .gtr 0 (.t 82) (.t 83)), (some (80, false))⟩, (oA 85 (.pick (.t 80) (.k (.v (.c (.p (.bool true))))) (.t 84))), (oA 86 (.mv (.t 85))), ⟨(some 87), (.faddr 2 (.t 8)), (some (86, false))⟩, ⟨(some 88), (.load false 1 (.t 87)), (some (86, false))⟩, ⟨(some 89), (.mv (.t 0)), (some (86, false))⟩, ⟨(some 90), (.bin .sub 0 (.t 88) (.t 89)), (some (86, false))⟩, ⟨(some 91), (.mv (.t 6)), (some (86, false))⟩, ⟨(some 92), (.mv (.t 7)), (some (86, false))⟩, ⟨(some 93), (.iaddr 1 (.t 91) (.t 92)), (some (86, false))⟩, ⟨(some 94), (.load false 1 (.t 93)), (some (86, false))⟩, ⟨(some 95), (.bin .shl 0 (.k (.v (.c (.p (.int .i64 1))))) (.t 94)), (some (86, false))⟩, ⟨(some 96), (.bin .sub 0 (.t 95) (.k (.v (.c (.p (.int .i64 1)))))), (some (86, false))⟩, ⟨(some 97), (.bin .and 0 (.t 90) (.t 96)), (some (86, false))⟩, ⟨(some 98), (.bin .neq 0 (.t 97) (.k (.v (.c (.p (.int .i64 0)))))), (some (86, false))⟩, (oA 99 (.pick (.t 86) (.k (.v (.c (.p (.bool true))))) (.t 98))), (oA 100 (.mv (.t 99))), ⟨(some 101), (.mv (.t 0)), (some (100, false))⟩, ⟨(some 102), (.mv (.t 10)), (some (100, false))⟩, ⟨(some 103), (.bin .geq 0 (.t 101) (.t 102)), (some (100, false))⟩, ⟨(some 104), (.mv (.t 103)), (some (100, false))⟩, ⟨(some 105), (.mv (.t 0)), (some (104, true))⟩, ⟨(some 106), (.mv (.t 11)), (some (104, true))⟩, ⟨(some 107), (.bin .leq 0 (.t 105) (.t 106)), (some (104, true))⟩, ⟨(some 108), (.pick (.t 104) (.t 107) (.k (.v (.c (.p (.bool false)))))), (some (100, false))⟩, ⟨(some 109), (.mv (.t 108)), (some (100, false))⟩, ⟨(some 110), (.faddr 2 (.t 8)), (some (109, true))⟩, ⟨(some 111), (.load false 1 (.t 110)), (some (109, true))⟩, ⟨(some 112), (.mv (.t 0)), (some (109, true))⟩, ⟨(some 113), (.bin .neq 0 (.t 111) (.t 112)), (some (109, true))⟩, ⟨(some 114), (.pick (.t 109) (.t 113) (.k (.v (.c (.p (.bool false)))))), (some (100, false))⟩, (oA 115 (.pick (.t 100) (.k (.v (.c (.p (.bool true))))) (.t 114)))] []) (.cond (.t 115) (.seq (.reg [(oA 4 (.mv (.k (.v (.c (.p (.bool false)))))))] []) .ret) .skip)) (.seq (.reg [(oA 117 (.mv (.t 5))), (oA 118 (.mv (.t 7))), (oA 119 (.iaddr 1 (.t 117) (.t 118))), (oA 120 (.load false 1 (.t 119))), (oA 121 (.mv (.t 1))), (oA 122 (.call (.k (.v (.c (.func 12 [])))) [(.t 121)])), (oA 123 (.bslice 6 1 [(.p (.int .i64 0)), (.p (.bool false)), (.p (.int .i64 0)), (.p (.str [])), (.p .nilslice), (.p .nilslice)] [(0, (.t 122))] false)), (oA 124 (.call (.k (.v (.c (.func 11 [])))) [(.t 120), (.t 123)])), (oA 116 (.mv (.t 124))), (oA 125 (.extract (.t 116) 0)), (oA 126 (.extract (.t 116) 1)), (oA 12 (.alloc [(.p (.int .i64 0)), (.p (.bool false)), (.p (.int .i64 0)), (.p (.str [])), (.p .nilslice), (.p .nilslice)] false)), (oN (.store 6 (.t 12) (.t 125))), (oA 13 (.mv (.t 126)))] [(3, 5), (3, 6), (3, 11), (5, 11), (6, 11), (7, 11)]) (.seq (.reg [(oA 128 (.load true 6 (.t 8))), (oA 129 (.load true 6 (.t 12))), (oA 130 (.bslice 6 2 [(.p (.int .i64 0)), (.p (.bool false)), (.p (.int .i64 0)), (.p (.str [])), (.p .nilslice), (.p .nilslice)] [(0, (.t 128)), (1, (.t 129))] false)), (oA 131 (.call (.k (.v (.c (.func 11 [])))) [(.k (.v (.c (.p (.str [97, 100, 100]))))), (.t 130)])), (oA 127 (.mv (.t 131))), (oA 132 (.extract (.t 127) 0)), (oA 133 (.extract (.t 127) 1)), (oA 14 (.alloc [(.p (.int .i64 0)), (.p (.bool false)), (.p (.int .i64 0)), (.p (.str [])), (.p .nilslice), (.p .nilslice)] false)), (oN (.store 6 (.t 14) (.t 132))), (oA 15 (.mv (.t 133)))] []) (.seq (.reg [(oA 135 (.mv (.t 0))), (oA 136 (.call (.k (.v (.c (.func 12 [])))) [(.t 135)])), (oA 137 (.mv (.t 1))), (oA 138 (.call (.k (.v (.c (.func 12 [])))) [(.t 137)])), (oA 139 (.bslice 6 2 [(.p (.int .i64 0)), (.p (.bool false)), (.p (.int .i64 0)), (.p (.str [])), (.p .nilslice), (.p .nilslice)] [(0, (.t 136)), (1, (.t 138))] false)), (oA 140 (.call (.k (.v (.c (.func 11 [])))) [(.k (.v (.c (.p (.str [97, 100, 100]))))), (.t 139)])), (oA 134 (.mv (.t 140))), (oA 141 (.extract (.t 134) 0)), (oA 142 (.extract (.t 134) 1)), (oA 16 (.alloc [(.p (.int .i64 0)), (.p (.bool false)), (.p (.int .i64 0)), (.p (.str [])), (.p .nilslice), (.p .nilslice)] false)), (oN (.store 6 (.t 16) (.t 141))), (oA 17 (.mv (.t 142)))] []) (.seq (.reg [(oA 144 (.load true 6 (.t 8))), (oA 145 (.load true 6 (.t 12))), (oA 146 (.bslice 6 2 [(.p (.int .i64 0)), (.p (.bool false)), (.p (.int .i64 0)), (.p (.str [])), (.p .nilslice), (.p .nilslice)] [(0, (.t 144)), (1, (.t 145))] false)), (oA 147 (.call (.k (.v (.c (.func 11 [])))) [(.k (.v (.c (.p (.str [109, 117, 108]))))), (.t 146)])), (oA 143 (.mv (.t 147))), (oA 148 (.extract (.t 143) 0)), (oA 149 (.extract (.t 143) 1)), (oA 18 (.alloc [(.p (.int .i64 0)), (.p (.bool false)), (.p (.int .i64 0)), (.p (.str [])), (.p .nilslice), (.p .nilslice)] false)), (oN (.store 6 (.t 18) (.t 148))), (oA 19 (.mv (.t 149)))] []) (.seq (.reg [(oA 151 (.mv (.t 0))), (oA 152 (.call (.k (.v (.c (.func 12 [])))) [(.t 151)])), (oA 153 (.mv (.t 1))), (oA 154 (.call (.k (.v (.c (.func 12 [])))) [(.t 153)])), (oA 155 (.bslice 6 2 [(.p (.int .i64 0)), (.p (.bool false)), (.p (.int .i64 0)), (.p (.str [])), (.p .nilslice), (.p .nilslice)] [(0, (.t 152)), (1, (.t 154))] false)), (oA 156 (.call (.k (.v (.c (.func 11 [])))) [(.k (.v (.c (.p (.str [109, 117, 108]))))), (.t 155)])), (oA 150 (.mv (.t 156))), (oA 157 (.extract (.t 150) 0)), (oA 158 (.extract (.t 150) 1)), (oA 20 (.alloc [(.p (.int .i64 0)), (.p (.bool false)), (.p (.int .i64 0)), (.p (.str [])), (.p .nilslice), (.p .nilslice)] false)), (oN (.store 6 (.t 20) (.t 157))), (oA 21 (.mv (.t 158)))] []) (.seq (.reg [(oA 160 (.mv (.t 5))), (oA 161 (.mv (.t 7))), (oA 162 (.iaddr 1 (.t 160) (.t 161))), (oA 163 (.load false 1 (.t 162))), (oA 164 (.load true 6 (.t 14))), (oA 165 (.bslice 6 1 [(.p (.int .i64 0)), (.p (.bool false)), (.p (.int .i64 0)), (.p (.str [])), (.p .nilslice), (.p .nilslice)] [(0, (.t 164))] false)), (oA 166 (.call (.k (.v (.c (.func 11 [])))) [(.t 163), (.t 165)])), (oA 159 (.mv (.t 166))), (oA 167 (.extract (.t 159) 0)), (oA 168 (.extract (.t 159) 1)), (oA 22 (.alloc [(.p (.int .i64 0)), (.p (.bool false)), (.p (.int .i64 0)), (.p (.str [])), (.p .nilslice), (.p .nilslice)] false)), (oN (.store 6 (.t 22) (.t 167))), (oA 23 (.mv (.t 168)))] [(3, 5), (3, 10), (4, 10), (5, 10), (6, 10)]) (.seq (.reg [(oA 170 (.mv (.t 5))), (oA 171 (.mv (.t 7))), (oA 172 (.iaddr 1 (.t 170) (.t 171))), (oA 173 (.load false 1 (.t 172))), (oA 174 (.load true 6 (.t 16))), (oA 175 (.bslice 6 1 [(.p (.int .i64 0)), (.p (.bool false)), (.p (.int .i64 0)), (.p (.str [])), (.p .nilslice), (.p .nilslice)] [(0, (.t 174))] false)), (oA 176 (.call (.k (.v (.c (.func 11 [])))) [(.t 173), (.t 175)])), (oA 169 (.mv (.t 176))), (oA 177 (.extract (.t 169) 0)), (oA 178 (.extract (.t 169) 1)), (oA 24 (.alloc [(.p (.int .i64 0)), (.p (.bool false)), (.p (.int .i64 0)), (.p (.str [])), (.p .nilslice), (.p .nilslice)] false)), (oN (.store 6 (.t 24) (.t 177))), (oA 25 (.mv (.t 178)))] [(3, 5), (3, 10), (4, 10), (5, 10), (6, 10)]) (.seq (.reg [(oA 180 (.mv (.t 5))), (oA 181 (.mv (.t 7))), (oA 182 (.iaddr 1 (.t 180) (.t 181))), (oA 183 (.load false 1 (.t 182))), (oA 184 (.load true 6 (.t 18))), (oA 185 (.bslice 6 1 [(.p (.int .i64 0)), (.p (.bool false)), (.p (.int .i64 0)), (.p (.str [])), (.p .nilslice), (.p .nilslice)] [(0, (.t 184))] false)), (oA 186 (.call (.k (.v (.c (.func 11 [])))) [(.t 183), (.t 185)])), (oA 179 (.mv (.t 186))), (oA 187 (.extract (.t 179) 0)), (oA 188 (.extract (.t 179) 1)), (oA 26 (.alloc [(.p (.int .i64 0)), (.p (.bool false)), (.p (.int .i64 0)), (.p (.str [])), (.p .nilslice), (.p .nilslice)] false)), (oN (.store 6 (.t 26) (.t 187))), (oA 27 (.mv (.t 188)))] [(3, 5), (3, 10), (4, 10), (5, 10), (6, 10)]) (.seq (.reg [(oA 190 (.mv (.t 5))), (oA 191 (.mv (.t 7))), (oA 192 (.iaddr 1 (.t 190) (.t 191))), (oA 193 (.load false 1 (.t 192))), (oA 194 (.load true 6 (.t 20))), (oA 195 (.bslice 6 1 [(.p (.int .i64 0)), (.p (.bool false)), (.p (.int .i64 0)), (.p (.str [])), (.p .nilslice), (.p .nilslice)] [(0, (.t 194))] false)), (oA 196 (.call (.k (.v (.c (.func 11 [])))) [(.t 193), (.t 195)])), (oA 189 (.mv (.t 196))), (oA 197 (.extract (.t 189) 0)), (oA 198 (.extract (.t 189) 1)), (oA 28 (.alloc [(.p (.int .i64 0)), (.p (.bool false)), (.p (.int .i64 0)), (.p (.str [])), (.p .nilslice), (.p .nilslice)] false)), (oN (.store 6 (.t 28) (.t 197))), (oA 29 (.mv (.t 198)))] [(3, 5), (3, 10), (4, 10), (5, 10), (6, 10)]) (.seq (.reg [(oA 199 (.faddr 2 (.t 22))), (oA 200 (.load false 1 (.t 199))), (oA 201 (.faddr 2 (.t 24))), (oA 202 (.load false 1 (.t 201))), (oA 203 (.bin .neq 0 (.t 200) (.t 202))), (oA 204 (.mv (.t 203))), ⟨(some 205), (.faddr 2 (.t 26)), (some (204, false))⟩, ⟨(some 206), (.load false 1 (.t 205)), (some (204, false))⟩, ⟨(some 207), (.faddr 2 (.t 28)), (some (204, false))⟩, ⟨(some 208), (.load false 1 (.t 207)), (some (204, false))⟩, ⟨(some 209), (.bin .neq 0 (.t 206) (.t 208)), (some (204, false))⟩, (oA 210 (.pick (.t 204) (.k (.v (.c (.p (.bool true))))) (.t 209)))] []) (.cond (.t 210) (.seq (.reg [(oA 4 (.mv (.k (.v (.c (.p (.bool false)))))))] []) .ret) .skip))))))))))))))))) (.reg [(oA 36 (.mv (.t 7))), (oA 37 (.bin .add 0 (.t 36) (.k (.v (.c (.p (.int .i64 1))))))), (oA 7 (.mv (.t 37)))] [])))))) (.seq (.reg [(oA 4 (.mv (.k (.v (.c (.p (.bool true)))))))] []) .ret)))))) }
theorem t5 : compF Tryd.prog (globs2 tabs opq) (fun _ => false) true Tryd.f5 = some c5.erase := by kernel_rfl
noncomputable def b5_0 (O : Oracle) (R : Jump) (q : Nat) (x0 x1 : TVal) (h : Heap) : Res1 :=
 vcall O (.v (.c (.func 9 []))) [] h 30 fun x30 h =>
 vop O (.un .not (.k x30)) h 31 fun x31 h =>
 vif x31 (
 tcomp (kB false) fun c0 => vfin true q [c0] h)
 (vop O (.bslice 1 6 [(.p (.str []))] [(0, (.k (kS [105, 56]))), (1, (.k (kS [117, 56]))), (2, (.k (kS [105, 49, 54]))), (3, (.k (kS [117, 49, 54]))), (4, (.k (kS [105, 51, 50]))), (5, (.k (kS [117, 51, 50])))] false) h 32 fun x32 h =>
 vop O (.bslice 1 6 [(.p (.int .u64 0))] [(0, (.k (.v (.c (.p (.int .u64 8)))))), (1, (.k (.v (.c (.p (.int .u64 8)))))), (2, (.k (.v (.c (.p (.int .u64 16)))))), (3, (.k (.v (.c (.p (.int .u64 16)))))), (4, (.k (.v (.c (.p (.int .u64 32)))))), (5, (.k (.v (.c (.p (.int .u64 32))))))] false) h 33 fun x33 h =>
 R 1 [x0, x1, x32, x33, (kI 0)] h)
theorem e5_0 (O : Oracle) (R : Jump) (q : Nat) (x0 x1 : TVal) (h : Heap) : b5_0 O R q x0 x1 h = stepF c5 O R q 0 [x0, x1] h := by kernel_rfl
noncomputable def b5_1 (O : Oracle) (R : Jump) (q : Nat) (x0 x1 x5 x6 x7 : TVal) (h : Heap) : Res1 :=
 vbin .lss 0 x7 (kI 6) h fun x35 h =>
 vif x35 (
 vtouch O (.mv (.k x5)) h 39 fun x39 h t0 =>
 vtouch O (.mv (.k x7)) h 40 fun x40 h t1 =>
 vtouch O (.iaddr 1 (.k x39) (.k x40)) h 41 fun x41 h t2 =>
 vtouch O (.load false 1 (.k x41)) h 42 fun x42 h t3 =>
 vtouch O (.mv (.k x0)) h 43 fun x43 h t4 =>
 vtouch O (.call (.k (.v (.c (.func 12 [])))) [(.k x43)]) h 44 fun x44 h t5 =>
 vtouch O (.bslice 6 1 [(.p (.int .i64 0)), (.p (.bool false)), (.p (.int .i64 0)), (.p (.str [])), (.p .nilslice), (.p .nilslice)] [(0, (.k x44))] false) h 45 fun x45 h t6 =>
 vtouch O (.call (.k (.v (.c (.func 11 [])))) [(.k x42), (.k x45)]) h 46 fun x46 h t7 =>
 vtouch O (.mv (.k x46)) h 38 fun x38 h t8 =>
 vtouch O (.extract (.k x38) 0) h 47 fun x47 h t9 =>
 vtouch O (.extract (.k x38) 1) h 48 fun x48 h t10 =>
 vtouch O (.alloc [(.p (.int .i64 0)), (.p (.bool false)), (.p (.int .i64 0)), (.p (.str [])), (.p .nilslice), (.p .nilslice)] false) h 8 fun x8 h t11 =>
 vtouch O (.store 6 (.k x8) (.k x47)) h 1000000 fun _ h t12 =>
 vtouch O (.mv (.k x48)) h 9 fun x9 h t13 =>
 bif apartAll [t0, t1, t2, t3, t4, t5, t6, t7, t8, t9, t10, t11, t12, t13] [(3, 5), (3, 6), (3, 11), (5, 11), (6, 11), (7, 11)] then
 viaddr 1 x6 x7 h fun x51 h =>
 vload false 1 x51 h fun x52 h =>
 vbin .shl 0 (kI 1) x52 h fun x53 h =>
 vbin .sub 0 x53 (kI 1) h fun x54 h =>
 vbin .rem 0 x7 (kI 2) h fun x56 h =>
 vbin .eql 0 x56 (kI 0) h fun x57 h =>
 vif x57 (
 viaddr 1 x6 x7 h fun x60 h =>
 vload false 1 x60 h fun x61 h =>
 vbin .sub 0 x61 (.v (.c (.p (.int .u64 1)))) h fun x62 h =>
 vbin .shl 0 (kI 1) x62 h fun x63 h =>
 vbin .sub 0 (kI 0) x63 h fun x64 h =>
 viaddr 1 x6 x7 h fun x67 h =>
 vload false 1 x67 h fun x68 h =>
 vbin .sub 0 x68 (.v (.c (.p (.int .u64 1)))) h fun x69 h =>
 vbin .shl 0 (kI 1) x69 h fun x70 h =>
 vbin .sub 0 x70 (kI 1) h fun x71 h =>
 R 2 [x0, x1, x5, x6, x7, x8, x9, x64, x71] h)
 (R 2 [x0, x1, x5, x6, x7, x8, x9, (kI 0), x54] h)
 else none)
 (tcomp (kB true) fun c0 => vfin true q [c0] h)
theorem e5_1 (O : Oracle) (R : Jump) (q : Nat) (x0 x1 x5 x6 x7 : TVal) (h : Heap) : b5_1 O R q x0 x1 x5 x6 x7 h = stepF c5 O R q 1 [x0, x1, x5, x6, x7] h := by kernel_rfl
noncomputable def b5_2 (O : Oracle) (R : Jump) (q : Nat) (x0 x1 x5 x6 x7 x8 x9 x10 x11 : TVal) (h : Heap) : Res1 :=
 vbin .neq 0 x9 (kI 0) h fun x73 h =>
 vguard x73 false (fun kk => vfaddr 2 x8 h kk) h fun x75 h =>
 vguard x73 false (fun kk => vload false 1 x75 h kk) h fun x76 h =>
 vguard x73 false (fun kk => kk x10 h) h fun x77 h =>
 vguard x73 false (fun kk => vbin .lss 0 x76 x77 h kk) h fun x78 h =>
 vop O (.pick (.k x73) (.k (kB true)) (.k x78)) h 79 fun x79 h =>
 vguard x79 false (fun kk => vfaddr 2 x8 h kk) h fun x81 h =>
 vguard x79 false (fun kk => vload false 1 x81 h kk) h fun x82 h =>
 vguard x79 false (fun kk => kk x11 h) h fun x83 h =>
 vguard x79 false (fun kk => vbin .gtr 0 x82 x83 h kk) h fun x84 h =>
 vop O (.pick (.k x79) (.k (kB true)) (.k x84)) h 85 fun x85 h =>
 vguard x85 false (fun kk => vfaddr 2 x8 h kk) h fun x87 h =>
 vguard x85 false (fun kk => vload false 1 x87 h kk) h fun x88 h =>
 vguard x85 false (fun kk => kk x0 h) h fun x89 h =>
 vguard x85 false (fun kk => vbin .sub 0 x88 x89 h kk) h fun x90 h =>
 vguard x85 false (fun kk => kk x6 h) h fun x91 h =>
 vguard x85 false (fun kk => kk x7 h) h fun x92 h =>
 vguard x85 false (fun kk => viaddr 1 x91 x92 h kk) h fun x93 h =>
 vguard x85 false (fun kk => vload false 1 x93 h kk) h fun x94 h =>
 vguard x85 false (fun kk => vbin .shl 0 (kI 1) x94 h kk) h fun x95 h =>
 vguard x85 false (fun kk => vbin .sub 0 x95 (kI 1) h kk) h fun x96 h =>
 vguard x85 false (fun kk => vbin .and 0 x90 x96 h kk) h fun x97 h =>
 vguard x85 false (fun kk => vbin .neq 0 x97 (kI 0) h kk) h fun x98 h =>
 vop O (.pick (.k x85) (.k (kB true)) (.k x98)) h 99 fun x99 h =>
 vguard x99 false (fun kk => kk x0 h) h fun x101 h =>
 vguard x99 false (fun kk => kk x10 h) h fun x102 h =>
 vguard x99 false (fun kk => vbin .geq 0 x101 x102 h kk) h fun x103 h =>
 vguard x99 false (fun kk => kk x103 h) h fun x104 h =>
 vguard x104 true (fun kk => kk x0 h) h fun x105 h =>
 vguard x104 true (fun kk => kk x11 h) h fun x106 h =>
 vguard x104 true (fun kk => vbin .leq 0 x105 x106 h kk) h fun x107 h =>
 vguard x99 false (fun kk => vop O (.pick (.k x104) (.k x107) (.k (kB false))) h 108 kk) h fun x108 h =>
 vguard x99 false (fun kk => kk x108 h) h fun x109 h =>
 vguard x109 true (fun kk => vfaddr 2 x8 h kk) h fun x110 h =>
 vguard x109 true (fun kk => vload false 1 x110 h kk) h fun x111 h =>
 vguard x109 true (fun kk => kk x0 h) h fun x112 h =>
 vguard x109 true (fun kk => vbin .neq 0 x111 x112 h kk) h fun x113 h =>
 vguard x99 false (fun kk => vop O (.pick (.k x109) (.k x113) (.k (kB false))) h 114 kk) h fun x114 h =>
 vop O (.pick (.k x99) (.k (kB true)) (.k x114)) h 115 fun x115 h =>
 vif x115 (
 tcomp (kB false) fun c0 => vfin true q [c0] h)
 (vtouch O (.mv (.k x5)) h 117 fun x117 h t0 =>
 vtouch O (.mv (.k x7)) h 118 fun x118 h t1 =>
 vtouch O (.iaddr 1 (.k x117) (.k x118)) h 119 fun x119 h t2 =>
 vtouch O (.load false 1 (.k x119)) h 120 fun x120 h t3 =>
 vtouch O (.mv (.k x1)) h 121 fun x121 h t4 =>
 vtouch O (.call (.k (.v (.c (.func 12 [])))) [(.k x121)]) h 122 fun x122 h t5 =>
 vtouch O (.bslice 6 1 [(.p (.int .i64 0)), (.p (.bool false)), (.p (.int .i64 0)), (.p (.str [])), (.p .nilslice), (.p .nilslice)] [(0, (.k x122))] false) h 123 fun x123 h t6 =>
 vtouch O (.call (.k (.v (.c (.func 11 [])))) [(.k x120), (.k x123)]) h 124 fun x124 h t7 =>
 vtouch O (.mv (.k x124)) h 116 fun x116 h t8 =>
 vtouch O (.extract (.k x116) 0) h 125 fun x125 h t9 =>
 vtouch O (.extract (.k x116) 1) h 126 fun x126 h t10 =>
 vtouch O (.alloc [(.p (.int .i64 0)), (.p (.bool false)), (.p (.int .i64 0)), (.p (.str [])), (.p .nilslice), (.p .nilslice)] false) h 12 fun x12 h t11 =>
 vtouch O (.store 6 (.k x12) (.k x125)) h 1000000 fun _ h t12 =>
 vtouch O (.mv (.k x126)) h 13 fun x13 h t13 =>
 bif apartAll [t0, t1, t2, t3, t4, t5, t6, t7, t8, t9, t10, t11, t12, t13] [(3, 5), (3, 6), (3, 11), (5, 11), (6, 11), (7, 11)] then
 vload true 6 x8 h fun x128 h =>
 vload true 6 x12 h fun x129 h =>
 vop O (.bslice 6 2 [(.p (.int .i64 0)), (.p (.bool false)), (.p (.int .i64 0)), (.p (.str [])), (.p .nilslice), (.p .nilslice)] [(0, (.k x128)), (1, (.k x129))] false) h 130 fun x130 h =>
 vcall O (.v (.c (.func 11 []))) [(kS [97, 100, 100]), x130] h 131 fun x131 h =>
 vext x131 0 h fun x132 h =>
 vext x131 1 h fun x133 h =>
 vop O (.alloc [(.p (.int .i64 0)), (.p (.bool false)), (.p (.int .i64 0)), (.p (.str [])), (.p .nilslice), (.p .nilslice)] false) h 14 fun x14 h =>
 vstore 6 x14 x132 h fun _ h =>
 vcall O (.v (.c (.func 12 []))) [x0] h 136 fun x136 h =>
 vcall O (.v (.c (.func 12 []))) [x1] h 138 fun x138 h =>
 vop O (.bslice 6 2 [(.p (.int .i64 0)), (.p (.bool false)), (.p (.int .i64 0)), (.p (.str [])), (.p .nilslice), (.p .nilslice)] [(0, (.k x136)), (1, (.k x138))] false) h 139 fun x139 h =>
 vcall O (.v (.c (.func 11 []))) [(kS [97, 100, 100]), x139] h 140 fun x140 h =>
 vext x140 0 h fun x141 h =>
 vext x140 1 h fun x142 h =>
 vop O (.alloc [(.p (.int .i64 0)), (.p (.bool false)), (.p (.int .i64 0)), (.p (.str [])), (.p .nilslice), (.p .nilslice)] false) h 16 fun x16 h =>
 vstore 6 x16 x141 h fun _ h =>
 vload true 6 x8 h fun x144 h =>
 vload true 6 x12 h fun x145 h =>
 vop O (.bslice 6 2 [(.p (.int .i64 0)), (.p (.bool false)), (.p (.int .i64 0)), (.p (.str [])), (.p .nilslice), (.p .nilslice)] [(0, (.k x144)), (1, (.k x145))] false) h 146 fun x146 h =>
 vcall O (.v (.c (.func 11 []))) [(kS [109, 117, 108]), x146] h 147 fun x147 h =>
 vext x147 0 h fun x148 h =>
 vext x147 1 h fun x149 h =>
 vop O (.alloc [(.p (.int .i64 0)), (.p (.bool false)), (.p (.int .i64 0)), (.p (.str [])), (.p .nilslice), (.p .nilslice)] false) h 18 fun x18 h =>
 vstore 6 x18 x148 h fun _ h =>
 vcall O (.v (.c (.func 12 []))) [x0] h 152 fun x152 h =>
 vcall O (.v (.c (.func 12 []))) [x1] h 154 fun x154 h =>
 vop O (.bslice 6 2 [(.p (.int .i64 0)), (.p (.bool false)), (.p (.int .i64 0)), (.p (.str [])), (.p .nilslice), (.p .nilslice)] [(0, (.k x152)), (1, (.k x154))] false) h 155 fun x155 h =>
 vcall O (.v (.c (.func 11 []))) [(kS [109, 117, 108]), x155] h 156 fun x156 h =>
 vext x156 0 h fun x157 h =>
 vext x156 1 h fun x158 h =>
 vop O (.alloc [(.p (.int .i64 0)), (.p (.bool false)), (.p (.int .i64 0)), (.p (.str [])), (.p .nilslice), (.p .nilslice)] false) h 20 fun x20 h =>
 vstore 6 x20 x157 h fun _ h =>
 vtouch O (.mv (.k x5)) h 160 fun x160 h t0 =>
 vtouch O (.mv (.k x7)) h 161 fun x161 h t1 =>
 vtouch O (.iaddr 1 (.k x160) (.k x161)) h 162 fun x162 h t2 =>
 vtouch O (.load false 1 (.k x162)) h 163 fun x163 h t3 =>
 vtouch O (.load true 6 (.k x14)) h 164 fun x164 h t4 =>
 vtouch O (.bslice 6 1 [(.p (.int .i64 0)), (.p (.bool false)), (.p (.int .i64 0)), (.p (.str [])), (.p .nilslice), (.p .nilslice)] [(0, (.k x164))] false) h 165 fun x165 h t5 =>
 vtouch O (.call (.k (.v (.c (.func 11 [])))) [(.k x163), (.k x165)]) h 166 fun x166 h t6 =>
 vtouch O (.mv (.k x166)) h 159 fun x159 h t7 =>
 vtouch O (.extract (.k x159) 0) h 167 fun x167 h t8 =>
 vtouch O (.extract (.k x159) 1) h 168 fun x168 h t9 =>
 vtouch O (.alloc [(.p (.int .i64 0)), (.p (.bool false)), (.p (.int .i64 0)), (.p (.str [])), (.p .nilslice), (.p .nilslice)] false) h 22 fun x22 h t10 =>
 vtouch O (.store 6 (.k x22) (.k x167)) h 1000000 fun _ h t11 =>
 vtouch O (.mv (.k x168)) h 23 fun x23 h t12 =>
 bif apartAll [t0, t1, t2, t3, t4, t5, t6, t7, t8, t9, t10, t11, t12] [(3, 5), (3, 10), (4, 10), (5, 10), (6, 10)] then
 vtouch O (.mv (.k x5)) h 170 fun x170 h t0 =>
 vtouch O (.mv (.k x7)) h 171 fun x171 h t1 =>
 vtouch O (.iaddr 1 (.k x170) (.k x171)) h 172 fun x172 h t2 =>
 vtouch O (.load false 1 (.k x172)) h 173 fun x173 h t3 =>
 vtouch O (.load true 6 (.k x16)) h 174 fun x174 h t4 =>
 vtouch O (.bslice 6 1 [(.p (.int .i64 0)), (.p (.bool false)), (.p (.int .i64 0)), (.p (.str [])), (.p .nilslice), (.p .nilslice)] [(0, (.k x174))] false) h 175 fun x175 h t5 =>
 vtouch O (.call (.k (.v (.c (.func 11 [])))) [(.k x173), (.k x175)]) h 176 fun x176 h t6 =>
 vtouch O (.mv (.k x176)) h 169 fun x169 h t7 =>
 vtouch O (.extract (.k x169) 0) h 177 fun x177 h t8 =>
 vtouch O (.extract (.k x169) 1) h 178 fun x178 h t9 =>
 vtouch O (.alloc [(.p (.int .i64 0)), (.p (.bool false)), (.p (.int .i64 0)), (.p (.str [])), (.p .nilslice), (.p .nilslice)] false) h 24 fun x24 h t10 =>
 vtouch O (.store 6 (.k x24) (.k x177)) h 1000000 fun _ h t11 =>
 vtouch O (.mv (.k x178)) h 25 fun x25 h t12 =>
 bif apartAll [t0, t1, t2, t3, t4, t5, t6, t7, t8, t9, t10, t11, t12] [(3, 5), (3, 10), (4, 10), (5, 10), (6, 10)] then
 vtouch O (.mv (.k x5)) h 180 fun x180 h t0 =>
 vtouch O (.mv (.k x7)) h 181 fun x181 h t1 =>
 vtouch O (.iaddr 1 (.k x180) (.k x181)) h 182 fun x182 h t2 =>
 vtouch O (.load false 1 (.k x182)) h 183 fun x183 h t3 =>
 vtouch O (.load true 6 (.k x18)) h 184 fun x184 h t4 =>
 vtouch O (.bslice 6 1 [(.p (.int .i64 0)), (.p (.bool false)), (.p (.int .i64 0)), (.p (.str [])), (.p .nilslice), (.p .nilslice)] [(0, (.k x184))] false) h 185 fun x185 h t5 =>
 vtouch O (.call (.k (.v (.c (.func 11 [])))) [(.k x183), (.k x185)]) h 186 fun x186 h t6 =>
 vtouch O (.mv (.k x186)) h 179 fun x179 h t7 =>
 vtouch O (.extract (.k x179) 0) h 187 fun x187 h t8 =>
 vtouch O (.extract (.k x179) 1) h 188 fun x188 h t9 =>
 vtouch O (.alloc [(.p (.int .i64 0)), (.p (.bool false)), (.p (.int .i64 0)), (.p (.str [])), (.p .nilslice), (.p .nilslice)] false) h 26 fun x26 h t10 =>
 vtouch O (.store 6 (.k x26) (.k x187)) h 1000000 fun _ h t11 =>
 vtouch O (.mv (.k x188)) h 27 fun x27 h t12 =>
 bif apartAll [t0, t1, t2, t3, t4, t5, t6, t7, t8, t9, t10, t11, t12] [(3, 5), (3, 10), (4, 10), (5, 10), (6, 10)] then
 vtouch O (.mv (.k x5)) h 190 fun x190 h t0 =>
 vtouch O (.mv (.k x7)) h 191 fun x191 h t1 =>
 vtouch O (.iaddr 1 (.k x190) (.k x191)) h 192 fun x192 h t2 =>
 vtouch O (.load false 1 (.k x192)) h 193 fun x193 h t3 =>
 vtouch O (.load true 6 (.k x20)) h 194 fun x194 h t4 =>
 vtouch O (.bslice 6 1 [(.p (.int .i64 0)), (.p (.bool false)), (.p (.int .i64 0)), (.p (.str [])), (.p .nilslice), (.p .nilslice)] [(0, (.k x194))] false) h 195 fun x195 h t5 =>
 vtouch O (.call (.k (.v (.c (.func 11 [])))) [(.k x193), (.k x195)]) h 196 fun x196 h t6 =>
 vtouch O (.mv (.k x196)) h 189 fun x189 h t7 =>
 vtouch O (.extract (.k x189) 0) h 197 fun x197 h t8 =>
 vtouch O (.extract (.k x189) 1) h 198 fun x198 h t9 =>
 vtouch O (.alloc [(.p (.int .i64 0)), (.p (.bool false)), (.p (.int .i64 0)), (.p (.str [])), (.p .nilslice), (.p .nilslice)] false) h 28 fun x28 h t10 =>
 vtouch O (.store 6 (.k x28) (.k x197)) h 1000000 fun _ h t11 =>
 vtouch O (.mv (.k x198)) h 29 fun x29 h t12 =>
 bif apartAll [t0, t1, t2, t3, t4, t5, t6, t7, t8, t9, t10, t11, t12] [(3, 5), (3, 10), (4, 10), (5, 10), (6, 10)] then
 vfaddr 2 x22 h fun x199 h =>
 vload false 1 x199 h fun x200 h =>
 vfaddr 2 x24 h fun x201 h =>
 vload false 1 x201 h fun x202 h =>
 vbin .neq 0 x200 x202 h fun x203 h =>
 vguard x203 false (fun kk => vfaddr 2 x26 h kk) h fun x205 h =>
 vguard x203 false (fun kk => vload false 1 x205 h kk) h fun x206 h =>
 vguard x203 false (fun kk => vfaddr 2 x28 h kk) h fun x207 h =>
 vguard x203 false (fun kk => vload false 1 x207 h kk) h fun x208 h =>
 vguard x203 false (fun kk => vbin .neq 0 x206 x208 h kk) h fun x209 h =>
 vop O (.pick (.k x203) (.k (kB true)) (.k x209)) h 210 fun x210 h =>
 vif x210 (
 tcomp (kB false) fun c0 => vfin true q [c0] h)
 (vbin .add 0 x7 (kI 1) h fun x37 h =>
 R 1 [x0, x1, x5, x6, x37] h)
 else none
 else none
 else none
 else none
 else none)
theorem e5_2 (O : Oracle) (R : Jump) (q : Nat) (x0 x1 x5 x6 x7 x8 x9 x10 x11 : TVal) (h : Heap) : b5_2 O R q x0 x1 x5 x6 x7 x8 x9 x10 x11 h = stepF c5 O R q 2 [x0, x1, x5, x6, x7, x8, x9, x10, x11] h := by kernel_rfl
noncomputable def d5 : BlkF := fun O R q => [.s fun y0 => .s fun y1 => .z fun h => b5_0 O R q y0 y1 h, .s fun y0 => .s fun y1 => .s fun y2 => .s fun y3 => .s fun y4 => .z fun h => b5_1 O R q y0 y1 y2 y3 y4 h, .s fun y0 => .s fun y1 => .s fun y2 => .s fun y3 => .s fun y4 => .s fun y5 => .s fun y6 => .s fun y7 => .s fun y8 => .z fun h => b5_2 O R q y0 y1 y2 y3 y4 y5 y6 y7 y8 h]
theorem o5 (O : Oracle) (R : Jump) (q : Nat) : HoldsAll c5 O R q 0 (d5 O R q) := ⟨fun y0 y1 h => e5_0 O R q y0 y1 h, fun y0 y1 y2 y3 y4 h => e5_1 O R q y0 y1 y2 y3 y4 h, fun y0 y1 y2 y3 y4 y5 y6 y7 y8 h => e5_2 O R q y0 y1 y2 y3 y4 y5 y6 y7 y8 h, trivial⟩
/- sprue/spruelaw15.known -/
def c9 : MFunc := { np := 0, res := [.t 0], frz := true, body := (.seq (.reg [(oA 0 (.mv (.k (.v (.c (.p (.bool false)))))))] []) (.seq (.reg [(oA 4 (.build [(.p (.int .i64 0)), (.p (.bool false)), (.p (.int .i64 0)), (.p (.str [])), (.p .nilslice), (.p .nilslice)] [(0, 1, (.k (.v (.c (.p (.int .i64 2)))))), (2, 1, (.k (.v (.c (.p (.int .i64 200))))))])), (oA 5 (.bslice 6 1 [(.p (.int .i64 0)), (.p (.bool false)), (.p (.int .i64 0)), (.p (.str [])), (.p .nilslice), (.p .nilslice)] [(0, (.t 4))] false)), (oA 6 (.call (.k (.v (.c (.func 10 [])))) [(.k (.v (.c (.p (.str [105, 56]))))), (.t 5)])), (oA 3 (.mv (.t 6))), (oA 7 (.extract (.t 3) 0)), (oA 8 (.extract (.t 3) 1)), (oA 1 (.alloc [(.p (.int .i64 0)), (.p (.bool false)), (.p (.int .i64 0)), (.p (.str [])), (.p .nilslice), (.p .nilslice)] false)), (oN (.store 6 (.t 1) (.t 7))), (oA 2 (.mv (.t 8)))] []) (.seq (.reg [(oA 9 (.mv (.t 2))), (oA 10 (.bin .eql 0 (.t 9) (.k (.v (.c (.p (.int .i64 0))))))), (oA 11 (.mv (.t 10))), ⟨(some 12), (.faddr 0 (.t 1)), (some (11, true))⟩, ⟨(some 13), (.load false 1 (.t 12)), (some (11, true))⟩, ⟨(some 14), (.bin .eql 0 (.t 13) (.k (.v (.c (.p (.int .i64 2)))))), (some (11, true))⟩, (oA 15 (.pick (.t 11) (.t 14) (.k (.v (.c (.p (.bool false))))))), (oA 16 (.mv (.t 15))), ⟨(some 17), (.faddr 2 (.t 1)), (some (16, true))⟩, ⟨(some 18), (.load false 1 (.t 17)), (some (16, true))⟩, ⟨(some 19), (.bin .eql 0 (.t 18) (.k (.v (.c (.p (.int .i64 (-56))))))), (some (16, true))⟩, (oA 20 (.pick (.t 16) (.t 19) (.k (.v (.c (.p (.bool false))))))), (oA 0 (.mv (.t 20)))] []) .ret))) }
theorem t9 : compF Tryd.prog (globs2 tabs opq) (fun _ => false) true Tryd.f9 = some c9.erase := by kernel_rfl
noncomputable def b9_0 (O : Oracle) (R : Jump) (q : Nat) (h : Heap) : Res1 :=
 vop O (.build [(.p (.int .i64 0)), (.p (.bool false)), (.p (.int .i64 0)), (.p (.str [])), (.p .nilslice), (.p .nilslice)] [(0, 1, (.k (kI 2))), (2, 1, (.k (kI 200)))]) h 4 fun x4 h =>
 vop O (.bslice 6 1 [(.p (.int .i64 0)), (.p (.bool false)), (.p (.int .i64 0)), (.p (.str [])), (.p .nilslice), (.p .nilslice)] [(0, (.k x4))] false) h 5 fun x5 h =>
 vcall O (.v (.c (.func 10 []))) [(kS [105, 56]), x5] h 6 fun x6 h =>
 vext x6 0 h fun x7 h =>
 vext x6 1 h fun x8 h =>
 vop O (.alloc [(.p (.int .i64 0)), (.p (.bool false)), (.p (.int .i64 0)), (.p (.str [])), (.p .nilslice), (.p .nilslice)] false) h 1 fun x1 h =>
 vstore 6 x1 x7 h fun _ h =>
 vbin .eql 0 x8 (kI 0) h fun x10 h =>
 vguard x10 true (fun kk => vfaddr 0 x1 h kk) h fun x12 h =>
 vguard x10 true (fun kk => vload false 1 x12 h kk) h fun x13 h =>
 vguard x10 true (fun kk => vbin .eql 0 x13 (kI 2) h kk) h fun x14 h =>
 vop O (.pick (.k x10) (.k x14) (.k (kB false))) h 15 fun x15 h =>
 vguard x15 true (fun kk => vfaddr 2 x1 h kk) h fun x17 h =>
 vguard x15 true (fun kk => vload false 1 x17 h kk) h fun x18 h =>
 vguard x15 true (fun kk => vbin .eql 0 x18 (kI (-56)) h kk) h fun x19 h =>
 vop O (.pick (.k x15) (.k x19) (.k (kB false))) h 20 fun x20 h =>
 tcomp x20 fun c0 => vfin true q [c0] h
theorem e9_0 (O : Oracle) (R : Jump) (q : Nat) (h : Heap) : b9_0 O R q  h = stepF c9 O R q 0 [] h := by kernel_rfl
noncomputable def d9 : BlkF := fun O R q => [.z fun h => b9_0 O R q  h]
theorem o9 (O : Oracle) (R : Jump) (q : Nat) : HoldsAll c9 O R q 0 (d9 O R q) := ⟨fun  h => e9_0 O R q  h, trivial⟩
/- sprue/calls.Eval -/
def c10 : MFunc := { np := 2, res := [.cell 4 true 6, .t 5], frz := true, body := (.seq (.reg [(oA 4 (.alloc [(.p (.int .i64 0)), (.p (.bool false)), (.p (.int .i64 0)), (.p (.str [])), (.p .nilslice), (.p .nilslice)] false)), (oA 5 (.mv (.k (.v (.c (.p (.int .i64 0)))))))] []) (.seq (.block 0 (.seq (.reg [(oA 9 (.mv (.t 0))), (oA 10 (.call (.k (.v (.c (.func 26 [])))) [(.t 9)])), (oA 11 (.un .not (.t 10))), (oA 8 (.mv (.t 11)))] []) (.cond (.t 8) (.seq (.reg [(oA 12 (.build [(.p (.int .i64 0)), (.p (.bool false)), (.p (.int .i64 0)), (.p (.str [])), (.p .nilslice), (.p .nilslice)] [])), (oN (.store 6 (.t 4) (.t 12))), (oA 5 (.mv (.k (.v (.c (.p (.int .i64 15)))))))] []) .ret) (.seq (.reg [(oA 14 (.mv (.t 1))), (oA 15 (.len 2 (.t 14))), (oA 16 (.mv (.t 0))), (oA 17 (.call (.k (.v (.c (.func 27 [])))) [(.t 16)])), (oA 18 (.bin .neq 0 (.t 15) (.t 17))), (oA 13 (.mv (.t 18)))] []) (.cond (.t 13) (.seq (.reg [(oA 19 (.build [(.p (.int .i64 0)), (.p (.bool false)), (.p (.int .i64 0)), (.p (.str [])), (.p .nilslice), (.p .nilslice)] [])), (oN (.store 6 (.t 4) (.t 19))), (oA 5 (.mv (.k (.v (.c (.p (.int .i64 18)))))))] []) .ret) .skip))))) (.seq (.seq (.reg [(oA 20 (.mv (.t 0)))] []) (.block 1 (.seq (.reg [(oA 22 (.bin .eql 0 (.t 20) (.k (.v (.c (.p (.str [108, 101, 110]))))))), (oA 21 (.mv (.t 22)))] []) (.cond (.t 21) (.seq (.reg [(oA 23 (.mv (.t 1))), (oA 24 (.iaddr 6 (.t 23) (.k (.v (.c (.p (.int .i64 0))))))), (oA 25 (.load true 6 (.t 24))), (oA 26 (.call (.k (.v (.c (.func 28 [])))) [(.t 25)])), (oA 27 (.extract (.t 26) 0)), (oA 28 (.extract (.t 26) 1)), (oN (.store 6 (.t 4) (.t 27))), (oA 5 (.mv (.t 28)))] []) .ret) (.seq (.seq (.reg [(oA 30 (.bin .eql 0 (.t 20) (.k (.v (.c (.p (.str [110, 111, 116]))))))), (oA 29 (.mv (.t 30)))] []) (.cond (.t 29) .skip (.seq (.reg [(oA 31 (.bin .eql 0 (.t 20) (.k (.v (.c (.p (.str [97, 110, 100]))))))), (oA 29 (.mv (.t 31)))] []) (.cond (.t 29) .skip (.reg [(oA 32 (.bin .eql 0 (.t 20) (.k (.v (.c (.p (.str [111, 114]))))))), (oA 29 (.mv (.t 32)))] []))))) (.mark 1 [0, 1, 4, 20, 29] (.cond (.t 29) (.seq (.reg [(oA 33 (.mv (.t 0))), (oA 34 (.mv (.t 1))), (oA 35 (.call (.k (.v (.c (.func 29 [])))) [(.t 33), (.t 34)])), (oA 36 (.extract (.t 35) 0)), (oA 37 (.extract (.t 35) 1)), (oN (.store 6 (.t 4) (.t 36))), (oA 5 (.mv (.t 37)))] []) .ret) (.seq (.reg [(oA 39 (.bin .eql 0 (.t 20) (.k (.v (.c (.p (.str [101, 113]))))))), (oA 38 (.mv (.t 39)))] []) (.cond (.t 38) (.seq (.reg [(oA 40 (.mv (.t 1))), (oA 41 (.call (.k (.v (.c (.func 30 [])))) [(.t 40)])), (oA 42 (.extract (.t 41) 0)), (oA 43 (.extract (.t 41) 1)), (oN (.store 6 (.t 4) (.t 42))), (oA 5 (.mv (.t 43)))] []) .ret) (.seq (.reg [(oA 45 (.bin .eql 0 (.t 20) (.k (.v (.c (.p (.str [99, 97, 116]))))))), (oA 44 (.mv (.t 45)))] []) (.cond (.t 44) (.seq (.reg [(oA 46 (.mv (.t 1))), (oA 47 (.call (.k (.v (.c (.func 31 [])))) [(.t 46)])), (oA 48 (.extract (.t 47) 0)), (oA 49 (.extract (.t 47) 1)), (oN (.store 6 (.t 4) (.t 48))), (oA 5 (.mv (.t 49)))] []) .ret) (.seq (.reg [(oA 51 (.bin .eql 0 (.t 20) (.k (.v (.c (.p (.str [116, 101, 120, 116]))))))), (oA 50 (.mv (.t 51)))] []) (.cond (.t 50) (.seq (.reg [(oA 52 (.mv (.t 1))), (oA 53 (.iaddr 6 (.t 52) (.k (.v (.c (.p (.int .i64 0))))))), (oA 54 (.load true 6 (.t 53))), (oA 55 (.call (.k (.v (.c (.func 32 [])))) [(.t 54)])), (oA 56 (.extract (.t 55) 0)), (oA 57 (.extract (.t 55) 1)), (oN (.store 6 (.t 4) (.t 56))), (oA 5 (.mv (.t 57)))] []) .ret) (.seq (.reg [(oA 59 (.bin .eql 0 (.t 20) (.k (.v (.c (.p (.str [97, 116]))))))), (oA 58 (.mv (.t 59)))] []) (.cond (.t 58) (.seq (.reg [(oA 60 (.mv (.t 1))), (oA 61 (.call (.k (.v (.c (.func 33 [])))) [(.t 60)])), (oA 62 (.extract (.t 61) 0)), (oA 63 (.extract (.t 61) 1)), (oN (.store 6 (.t 4) (.t 62))), (oA 5 (.mv (.t 63)))] []) .ret) (.seq (.reg [(oA 65 (.bin .eql 0 (.t 20) (.k (.v (.c (.p (.str [103, 101, 116]))))))), (oA 64 (.mv (.t 65)))] []) (.cond (.t 64) (.seq (.seq (.reg [(oA 66 (.mv (.t 1))), (oA 67 (.bslice 1 2 [(.p (.int .i64 0))] [(0, (.k (.v (.c (.p (.int .i64 5)))))), (1, (.k (.v (.c (.p (.int .i64 3))))))] false)), (oA 68 (.call (.k (.v (.c (.func 34 [])))) [(.t 66), (.t 67)])), (oA 69 (.un .not (.t 68)))] []) (.cond (.t 69) (.seq (.reg [(oA 70 (.build [(.p (.int .i64 0)), (.p (.bool false)), (.p (.int .i64 0)), (.p (.str [])), (.p .nilslice), (.p .nilslice)] [])), (oN (.store 6 (.t 4) (.t 70))), (oA 5 (.mv (.k (.v (.c (.p (.int .i64 17)))))))] []) .ret) .skip)) (.seq (.reg [(oA 72 (.mv (.t 1))), (oA 73 (.iaddr 6 (.t 72) (.k (.v (.c (.p (.int .i64 0))))))), (oA 74 (.load true 6 (.t 73))), (oA 75 (.mv (.t 1))), (oA 76 (.iaddr 6 (.t 75) (.k (.v (.c (.p (.int .i64 1))))))), (oA 77 (.faddr 3 (.t 76))), (oA 78 (.load false 1 (.t 77))), (oA 79 (.call (.k (.v (.c (.func 35 [])))) [(.t 74), (.t 78)])), (oA 71 (.mv (.t 79))), (oA 80 (.extract (.t 71) 0)), (oA 81 (.extract (.t 71) 1)), (oA 6 (.alloc [(.p (.int .i64 0)), (.p (.bool false)), (.p (.int .i64 0)), (.p (.str [])), (.p .nilslice), (.p .nilslice)] false)), (oN (.store 6 (.t 6) (.t 80))), (oA 7 (.mv (.t 81)))] [(2, 11), (6, 11), (7, 11)]) (.seq (.reg [(oA 82 (.load true 6 (.t 6))), (oN (.store 6 (.t 4) (.t 82))), (oA 5 (.mv (.k (.v (.c (.p (.int .i64 0)))))))] []) .ret))) (.seq (.reg [(oA 84 (.bin .eql 0 (.t 20) (.k (.v (.c (.p (.str [104, 97, 115]))))))), (oA 83 (.mv (.t 84)))] []) (.cond (.t 83) (.seq (.reg [(oA 85 (.mv (.t 1))), (oA 86 (.iaddr 6 (.t 85) (.k (.v (.c (.p (.int .i64 0))))))), (oA 87 (.faddr 0 (.t 86))), (oA 88 (.load false 1 (.t 87))), (oA 89 (.bin .neq 0 (.t 88) (.k (.v (.c (.p (.int .i64 0))))))), (oA 90 (.call (.k (.v (.c (.func 36 [])))) [(.t 89)])), (oN (.store 6 (.t 4) (.t 90))), (oA 5 (.mv (.k (.v (.c (.p (.int .i64 0)))))))] []) .ret) (.seq (.reg [(oA 92 (.bin .eql 0 (.t 20) (.k (.v (.c (.p (.str [111, 114, 101, 108, 115, 101]))))))), (oA 91 (.mv (.t 92)))] []) (.cond (.t 91) (.seq (.seq (.reg [(oA 93 (.mv (.t 1))), (oA 94 (.iaddr 6 (.t 93) (.k (.v (.c (.p (.int .i64 0))))))), (oA 95 (.faddr 0 (.t 94))), (oA 96 (.load false 1 (.t 95))), (oA 97 (.bin .neq 0 (.t 96) (.k (.v (.c (.p (.int .i64 0)))))))] []) (.cond (.t 97) (.seq (.reg [(oA 98 (.mv (.t 1))), (oA 99 (.iaddr 6 (.t 98) (.k (.v (.c (.p (.int .i64 0))))))), (oA 100 (.load true 6 (.t 99))), (oA 101 (.call (.k (.v (.c (.func 37 [])))) [(.t 100)])), (oN (.store 6 (.t 4) (.t 101))), (oA 5 (.mv (.k (.v (.c (.p (.int .i64 0)))))))] []) .ret) .skip)) (.seq (.reg [(oA 102 (.mv (.t 1))), (oA 103 (.iaddr 6 (.t 102) (.k (.v (.c (.p (.int .i64 1))))))), (oA 104 (.load true 6 (.t 103))), (oA 105 (.call (.k (.v (.c (.func 37 [])))) [(.t 104)])), (oN (.store 6 (.t 4) (.t 105))), (oA 5 (.mv (.k (.v (.c (.p (.int .i64 0)))))))] []) .ret)) .skip))))))))))))))))))))) (.seq (.reg [(oA 106 (.mv (.t 0))), (oA 107 (.mv (.t 1))), (oA 108 (.call (.k (.v (.c (.func 38 [])))) [(.t 106), (.t 107)])), (oA 109 (.extract (.t 108) 0)), (oA 110 (.extract (.t 108) 1)), (oN (.store 6 (.t 4) (.t 109))), (oA 5 (.mv (.t 110)))] []) .ret)))) }
theorem t10 : compF Tryd.prog (globs2 tabs opq) (fun _ => false) true Tryd.f10 = some c10.erase := by kernel_rfl
noncomputable def b10_0 (O : Oracle) (R : Jump) (q : Nat) (x0 x1 : TVal) (h : Heap) : Res1 :=
 vop O (.alloc [(.p (.int .i64 0)), (.p (.bool false)), (.p (.int .i64 0)), (.p (.str [])), (.p .nilslice), (.p .nilslice)] false) h 4 fun x4 h =>
 vcall O (.v (.c (.func 26 []))) [x0] h 10 fun x10 h =>
 vop O (.un .not (.k x10)) h 11 fun x11 h =>
 vif x11 (
 vop O (.build [(.p (.int .i64 0)), (.p (.bool false)), (.p (.int .i64 0)), (.p (.str [])), (.p .nilslice), (.p .nilslice)] []) h 12 fun x12 h =>
 vstore 6 x4 x12 h fun _ h =>
 vcell true 6 x4 h fun c0 => tcomp (kI 15) fun c1 => vfin true q [c0, c1] h)
 (vlen O 2 x1 h 15 fun x15 h =>
 vcall O (.v (.c (.func 27 []))) [x0] h 17 fun x17 h =>
 vbin .neq 0 x15 x17 h fun x18 h =>
 vif x18 (
 vop O (.build [(.p (.int .i64 0)), (.p (.bool false)), (.p (.int .i64 0)), (.p (.str [])), (.p .nilslice), (.p .nilslice)] []) h 19 fun x19 h =>
 vstore 6 x4 x19 h fun _ h =>
 vcell true 6 x4 h fun c0 => tcomp (kI 18) fun c1 => vfin true q [c0, c1] h)
 (vbin .eql 0 x0 (kS [108, 101, 110]) h fun x22 h =>
 vif x22 (
 viaddr 6 x1 (kI 0) h fun x24 h =>
 vload true 6 x24 h fun x25 h =>
 vcall O (.v (.c (.func 28 []))) [x25] h 26 fun x26 h =>
 vext x26 0 h fun x27 h =>
 vext x26 1 h fun x28 h =>
 vstore 6 x4 x27 h fun _ h =>
 vcell true 6 x4 h fun c0 => tcomp x28 fun c1 => vfin true q [c0, c1] h)
 (vbin .eql 0 x0 (kS [110, 111, 116]) h fun x30 h =>
 vif x30 (
 R 1 [x0, x1, x4, x0, x30] h)
 (vbin .eql 0 x0 (kS [97, 110, 100]) h fun x31 h =>
 vif x31 (
 R 1 [x0, x1, x4, x0, x31] h)
 (vbin .eql 0 x0 (kS [111, 114]) h fun x32 h =>
 R 1 [x0, x1, x4, x0, x32] h)))))
theorem e10_0 (O : Oracle) (R : Jump) (q : Nat) (x0 x1 : TVal) (h : Heap) : b10_0 O R q x0 x1 h = stepF c10 O R q 0 [x0, x1] h := by kernel_rfl
noncomputable def b10_1 (O : Oracle) (R : Jump) (q : Nat) (x0 x1 x4 x20 x29 : TVal) (h : Heap) : Res1 :=
 vif x29 (
 vcall O (.v (.c (.func 29 []))) [x0, x1] h 35 fun x35 h =>
 vext x35 0 h fun x36 h =>
 vext x35 1 h fun x37 h =>
 vstore 6 x4 x36 h fun _ h =>
 vcell true 6 x4 h fun c0 => tcomp x37 fun c1 => vfin true q [c0, c1] h)
 (vbin .eql 0 x20 (kS [101, 113]) h fun x39 h =>
 vif x39 (
 vcall O (.v (.c (.func 30 []))) [x1] h 41 fun x41 h =>
 vext x41 0 h fun x42 h =>
 vext x41 1 h fun x43 h =>
 vstore 6 x4 x42 h fun _ h =>
 vcell true 6 x4 h fun c0 => tcomp x43 fun c1 => vfin true q [c0, c1] h)
 (vbin .eql 0 x20 (kS [99, 97, 116]) h fun x45 h =>
 vif x45 (
 vcall O (.v (.c (.func 31 []))) [x1] h 47 fun x47 h =>
 vext x47 0 h fun x48 h =>
 vext x47 1 h fun x49 h =>
 vstore 6 x4 x48 h fun _ h =>
 vcell true 6 x4 h fun c0 => tcomp x49 fun c1 => vfin true q [c0, c1] h)
 (vbin .eql 0 x20 (kS [116, 101, 120, 116]) h fun x51 h =>
 vif x51 (
 viaddr 6 x1 (kI 0) h fun x53 h =>
 vload true 6 x53 h fun x54 h =>
 vcall O (.v (.c (.func 32 []))) [x54] h 55 fun x55 h =>
 vext x55 0 h fun x56 h =>
 vext x55 1 h fun x57 h =>
 vstore 6 x4 x56 h fun _ h =>
 vcell true 6 x4 h fun c0 => tcomp x57 fun c1 => vfin true q [c0, c1] h)
 (vbin .eql 0 x20 (kS [97, 116]) h fun x59 h =>
 vif x59 (
 vcall O (.v (.c (.func 33 []))) [x1] h 61 fun x61 h =>
 vext x61 0 h fun x62 h =>
 vext x61 1 h fun x63 h =>
 vstore 6 x4 x62 h fun _ h =>
 vcell true 6 x4 h fun c0 => tcomp x63 fun c1 => vfin true q [c0, c1] h)
 (vbin .eql 0 x20 (kS [103, 101, 116]) h fun x65 h =>
 vif x65 (
 vop O (.bslice 1 2 [(.p (.int .i64 0))] [(0, (.k (kI 5))), (1, (.k (kI 3)))] false) h 67 fun x67 h =>
 vcall O (.v (.c (.func 34 []))) [x1, x67] h 68 fun x68 h =>
 vop O (.un .not (.k x68)) h 69 fun x69 h =>
 vif x69 (
 vop O (.build [(.p (.int .i64 0)), (.p (.bool false)), (.p (.int .i64 0)), (.p (.str [])), (.p .nilslice), (.p .nilslice)] []) h 70 fun x70 h =>
 vstore 6 x4 x70 h fun _ h =>
 vcell true 6 x4 h fun c0 => tcomp (kI 17) fun c1 => vfin true q [c0, c1] h)
 (vtouch O (.mv (.k x1)) h 72 fun x72 h t0 =>
 vtouch O (.iaddr 6 (.k x72) (.k (kI 0))) h 73 fun x73 h t1 =>
 vtouch O (.load true 6 (.k x73)) h 74 fun x74 h t2 =>
 vtouch O (.mv (.k x1)) h 75 fun x75 h t3 =>
 vtouch O (.iaddr 6 (.k x75) (.k (kI 1))) h 76 fun x76 h t4 =>
 vtouch O (.faddr 3 (.k x76)) h 77 fun x77 h t5 =>
 vtouch O (.load false 1 (.k x77)) h 78 fun x78 h t6 =>
 vtouch O (.call (.k (.v (.c (.func 35 [])))) [(.k x74), (.k x78)]) h 79 fun x79 h t7 =>
 vtouch O (.mv (.k x79)) h 71 fun x71 h t8 =>
 vtouch O (.extract (.k x71) 0) h 80 fun x80 h t9 =>
 vtouch O (.extract (.k x71) 1) h 81 fun x81 h t10 =>
 vtouch O (.alloc [(.p (.int .i64 0)), (.p (.bool false)), (.p (.int .i64 0)), (.p (.str [])), (.p .nilslice), (.p .nilslice)] false) h 6 fun x6 h t11 =>
 vtouch O (.store 6 (.k x6) (.k x80)) h 1000000 fun _ h t12 =>
 vtouch O (.mv (.k x81)) h 7 fun x7 h t13 =>
 bif apartAll [t0, t1, t2, t3, t4, t5, t6, t7, t8, t9, t10, t11, t12, t13] [(2, 11), (6, 11), (7, 11)] then
 vload true 6 x6 h fun x82 h =>
 vstore 6 x4 x82 h fun _ h =>
 vcell true 6 x4 h fun c0 => tcomp (kI 0) fun c1 => vfin true q [c0, c1] h
 else none))
 (vbin .eql 0 x20 (kS [104, 97, 115]) h fun x84 h =>
 vif x84 (
 viaddr 6 x1 (kI 0) h fun x86 h =>
 vfaddr 0 x86 h fun x87 h =>
 vload false 1 x87 h fun x88 h =>
 vbin .neq 0 x88 (kI 0) h fun x89 h =>
 vcall O (.v (.c (.func 36 []))) [x89] h 90 fun x90 h =>
 vstore 6 x4 x90 h fun _ h =>
 vcell true 6 x4 h fun c0 => tcomp (kI 0) fun c1 => vfin true q [c0, c1] h)
 (vbin .eql 0 x20 (kS [111, 114, 101, 108, 115, 101]) h fun x92 h =>
 vif x92 (
 viaddr 6 x1 (kI 0) h fun x94 h =>
 vfaddr 0 x94 h fun x95 h =>
 vload false 1 x95 h fun x96 h =>
 vbin .neq 0 x96 (kI 0) h fun x97 h =>
 vif x97 (
 viaddr 6 x1 (kI 0) h fun x99 h =>
 vload true 6 x99 h fun x100 h =>
 vcall O (.v (.c (.func 37 []))) [x100] h 101 fun x101 h =>
 vstore 6 x4 x101 h fun _ h =>
 vcell true 6 x4 h fun c0 => tcomp (kI 0) fun c1 => vfin true q [c0, c1] h)
 (viaddr 6 x1 (kI 1) h fun x103 h =>
 vload true 6 x103 h fun x104 h =>
 vcall O (.v (.c (.func 37 []))) [x104] h 105 fun x105 h =>
 vstore 6 x4 x105 h fun _ h =>
 vcell true 6 x4 h fun c0 => tcomp (kI 0) fun c1 => vfin true q [c0, c1] h))
 (vcall O (.v (.c (.func 38 []))) [x0, x1] h 108 fun x108 h =>
 vext x108 0 h fun x109 h =>
 vext x108 1 h fun x110 h =>
 vstore 6 x4 x109 h fun _ h =>
 vcell true 6 x4 h fun c0 => tcomp x110 fun c1 => vfin true q [c0, c1] h))))))))
theorem e10_1 (O : Oracle) (R : Jump) (q : Nat) (x0 x1 x4 x20 x29 : TVal) (h : Heap) : b10_1 O R q x0 x1 x4 x20 x29 h = stepF c10 O R q 1 [x0, x1, x4, x20, x29] h := by kernel_rfl
noncomputable def d10 : BlkF := fun O R q => [.s fun y0 => .s fun y1 => .z fun h => b10_0 O R q y0 y1 h, .s fun y0 => .s fun y1 => .s fun y2 => .s fun y3 => .s fun y4 => .z fun h => b10_1 O R q y0 y1 y2 y3 y4 h]
theorem o10 (O : Oracle) (R : Jump) (q : Nat) : HoldsAll c10 O R q 0 (d10 O R q) := ⟨fun y0 y1 h => e10_0 O R q y0 y1 h, fun y0 y1 y2 y3 y4 h => e10_1 O R q y0 y1 y2 y3 y4 h, trivial⟩
/- sprue/spruelaw15.one -/
def c11 : MFunc := { np := 2, res := [.cell 4 true 6, .t 5], frz := true, body := (.seq (.reg [(oA 4 (.alloc [(.p (.int .i64 0)), (.p (.bool false)), (.p (.int .i64 0)), (.p (.str [])), (.p .nilslice), (.p .nilslice)] false)), (oA 5 (.mv (.k (.v (.c (.p (.int .i64 0)))))))] []) (.seq (.reg [(oA 6 (.mv (.t 0))), (oA 7 (.mv (.t 1))), (oA 8 (.call (.k (.v (.c (.func 10 [])))) [(.t 6), (.t 7)])), (oA 9 (.extract (.t 8) 0)), (oA 10 (.extract (.t 8) 1)), (oN (.store 6 (.t 4) (.t 9))), (oA 5 (.mv (.t 10)))] []) .ret)) }
theorem t11 : compF Tryd.prog (globs2 tabs opq) (fun _ => false) true Tryd.f11 = some c11.erase := by kernel_rfl
noncomputable def b11_0 (O : Oracle) (R : Jump) (q : Nat) (x0 x1 : TVal) (h : Heap) : Res1 :=
 vop O (.alloc [(.p (.int .i64 0)), (.p (.bool false)), (.p (.int .i64 0)), (.p (.str [])), (.p .nilslice), (.p .nilslice)] false) h 4 fun x4 h =>
 vcall O (.v (.c (.func 10 []))) [x0, x1] h 8 fun x8 h =>
 vext x8 0 h fun x9 h =>
 vext x8 1 h fun x10 h =>
 vstore 6 x4 x9 h fun _ h =>
 vcell true 6 x4 h fun c0 => tcomp x10 fun c1 => vfin true q [c0, c1] h
theorem e11_0 (O : Oracle) (R : Jump) (q : Nat) (x0 x1 : TVal) (h : Heap) : b11_0 O R q x0 x1 h = stepF c11 O R q 0 [x0, x1] h := by kernel_rfl
noncomputable def d11 : BlkF := fun O R q => [.s fun y0 => .s fun y1 => .z fun h => b11_0 O R q y0 y1 h]
theorem o11 (O : Oracle) (R : Jump) (q : Nat) : HoldsAll c11 O R q 0 (d11 O R q) := ⟨fun y0 y1 h => e11_0 O R q y0 y1 h, trivial⟩
/- sprue/spruelaw15.num -/
def c12 : MFunc := { np := 1, res := [.cell 2 true 6], frz := true, body := (.seq (.reg [(oA 2 (.alloc [(.p (.int .i64 0)), (.p (.bool false)), (.p (.int .i64 0)), (.p (.str [])), (.p .nilslice), (.p .nilslice)] false))] []) (.seq (.reg [(oA 3 (.mv (.t 0))), (oA 4 (.build [(.p (.int .i64 0)), (.p (.bool false)), (.p (.int .i64 0)), (.p (.str [])), (.p .nilslice), (.p .nilslice)] [(0, 1, (.k (.v (.c (.p (.int .i64 2)))))), (2, 1, (.t 3))])), (oN (.store 6 (.t 2) (.t 4)))] []) .ret)) }
theorem t12 : compF Tryd.prog (globs2 tabs opq) (fun _ => false) true Tryd.f12 = some c12.erase := by kernel_rfl
noncomputable def b12_0 (O : Oracle) (R : Jump) (q : Nat) (x0 : TVal) (h : Heap) : Res1 :=
 vop O (.alloc [(.p (.int .i64 0)), (.p (.bool false)), (.p (.int .i64 0)), (.p (.str [])), (.p .nilslice), (.p .nilslice)] false) h 2 fun x2 h =>
 vop O (.build [(.p (.int .i64 0)), (.p (.bool false)), (.p (.int .i64 0)), (.p (.str [])), (.p .nilslice), (.p .nilslice)] [(0, 1, (.k (kI 2))), (2, 1, (.k x0))]) h 4 fun x4 h =>
 vstore 6 x2 x4 h fun _ h =>
 vcell true 6 x2 h fun c0 => vfin true q [c0] h
theorem e12_0 (O : Oracle) (R : Jump) (q : Nat) (x0 : TVal) (h : Heap) : b12_0 O R q x0 h = stepF c12 O R q 0 [x0] h := by kernel_rfl
noncomputable def d12 : BlkF := fun O R q => [.s fun y0 => .z fun h => b12_0 O R q y0 h]
theorem o12 (O : Oracle) (R : Jump) (q : Nat) : HoldsAll c12 O R q 0 (d12 O R q) := ⟨fun y0 h => e12_0 O R q y0 h, trivial⟩
/- sprue/shape.Builtin -/
def c26 : MFunc := { np := 1, res := [.t 2], frz := true, body := (.seq (.reg [(oA 2 (.mv (.k (.v (.c (.p (.bool false)))))))] []) (.seq (.reg [(oA 3 (.mv (.t 0))), (oA 4 (.call (.k (.v (.c (.func 49 [])))) [(.t 3)])), (oA 5 (.mv (.t 4))), ⟨(some 6), (.mv (.t 0)), (some (5, true))⟩, ⟨(some 7), (.bin .add 0 (.k (.v (.c (.p (.str [32]))))) (.t 6)), (some (5, true))⟩, ⟨(some 8), (.bin .add 0 (.t 7) (.k (.v (.c (.p (.str [32])))))), (some (5, true))⟩, ⟨(some 9), (.call (.k (.v (.c (.func 50 [])))) [(.k (.v (.c (.p (.str [32, 108, 101, 110, 32, 110, 111, 116, 32, 97, 110, 100, 32, 111, 114, 32, 101, 113, 32, 108, 116, 32, 97, 100, 100, 32, 115, 117, 98, 32, 109, 117, 108, 32, 115, 104, 108, 32, 115, 104, 114, 32, 105, 56, 32, 105, 49, 54, 32, 105, 51, 50, 32, 117, 56, 32, 117, 49, 54, 32, 117, 51, 50, 32, 99, 97, 116, 32, 116, 101, 120, 116, 32, 97, 116, 32, 103, 101, 116, 32, 104, 97, 115, 32, 111, 114, 101, 108, 115, 101, 32]))))), (.t 8)]), (some (5, true))⟩, (oA 10 (.pick (.t 5) (.t 9) (.k (.v (.c (.p (.bool false))))))), (oA 2 (.mv (.t 10)))] []) .ret)) }
theorem t26 : compF Tryd.prog (globs2 tabs opq) (fun _ => false) true Tryd.f26 = some c26.erase := by kernel_rfl
noncomputable def b26_0 (O : Oracle) (R : Jump) (q : Nat) (x0 : TVal) (h : Heap) : Res1 :=
 vcall O (.v (.c (.func 49 []))) [x0] h 4 fun x4 h =>
 vguard x4 true (fun kk => kk x0 h) h fun x6 h =>
 vguard x4 true (fun kk => vbin .add 0 (kS [32]) x6 h kk) h fun x7 h =>
 vguard x4 true (fun kk => vbin .add 0 x7 (kS [32]) h kk) h fun x8 h =>
 vguard x4 true (fun kk => vcall O (.v (.c (.func 50 []))) [(kS [32, 108, 101, 110, 32, 110, 111, 116, 32, 97, 110, 100, 32, 111, 114, 32, 101, 113, 32, 108, 116, 32, 97, 100, 100, 32, 115, 117, 98, 32, 109, 117, 108, 32, 115, 104, 108, 32, 115, 104, 114, 32, 105, 56, 32, 105, 49, 54, 32, 105, 51, 50, 32, 117, 56, 32, 117, 49, 54, 32, 117, 51, 50, 32, 99, 97, 116, 32, 116, 101, 120, 116, 32, 97, 116, 32, 103, 101, 116, 32, 104, 97, 115, 32, 111, 114, 101, 108, 115, 101, 32]), x8] h 9 kk) h fun x9 h =>
 vop O (.pick (.k x4) (.k x9) (.k (kB false))) h 10 fun x10 h =>
 tcomp x10 fun c0 => vfin true q [c0] h
theorem e26_0 (O : Oracle) (R : Jump) (q : Nat) (x0 : TVal) (h : Heap) : b26_0 O R q x0 h = stepF c26 O R q 0 [x0] h := by kernel_rfl
noncomputable def d26 : BlkF := fun O R q => [.s fun y0 => .z fun h => b26_0 O R q y0 h]
theorem o26 (O : Oracle) (R : Jump) (q : Nat) : HoldsAll c26 O R q 0 (d26 O R q) := ⟨fun y0 h => e26_0 O R q y0 h, trivial⟩
/- sprue/calls.many -/
def c27 : MFunc := { np := 1, res := [.t 2], frz := true, body := (.seq (.reg [(oA 2 (.mv (.k (.v (.c (.p (.int .i64 0)))))))] []) (.seq (.seq (.reg [(oA 3 (.mv (.t 0)))] []) (.block 0 (.seq (.block 2 (.block 1 (.seq (.seq (.seq (.seq (.reg [(oA 5 (.bin .eql 0 (.t 3) (.k (.v (.c (.p (.str [108, 101, 110]))))))), (oA 4 (.mv (.t 5)))] []) (.cond (.t 4) .skip (.seq (.reg [(oA 6 (.bin .eql 0 (.t 3) (.k (.v (.c (.p (.str [110, 111, 116]))))))), (oA 4 (.mv (.t 6)))] []) (.cond (.t 4) .skip (.seq (.reg [(oA 7 (.bin .eql 0 (.t 3) (.k (.v (.c (.p (.str [116, 101, 120, 116]))))))), (oA 4 (.mv (.t 7)))] []) (.cond (.t 4) .skip (.reg [(oA 8 (.bin .eql 0 (.t 3) (.k (.v (.c (.p (.str [104, 97, 115]))))))), (oA 4 (.mv (.t 8)))] []))))))) (.mark 1 [3, 4] (.cond (.t 4) (.exit 1) .skip))) (.seq (.seq (.reg [(oA 10 (.bin .eql 0 (.t 3) (.k (.v (.c (.p (.str [105, 56]))))))), (oA 9 (.mv (.t 10)))] []) (.cond (.t 9) .skip (.seq (.reg [(oA 11 (.bin .eql 0 (.t 3) (.k (.v (.c (.p (.str [105, 49, 54]))))))), (oA 9 (.mv (.t 11)))] []) (.cond (.t 9) .skip (.seq (.reg [(oA 12 (.bin .eql 0 (.t 3) (.k (.v (.c (.p (.str [105, 51, 50]))))))), (oA 9 (.mv (.t 12)))] []) (.cond (.t 9) .skip (.seq (.reg [(oA 13 (.bin .eql 0 (.t 3) (.k (.v (.c (.p (.str [117, 56]))))))), (oA 9 (.mv (.t 13)))] []) (.cond (.t 9) .skip (.seq (.reg [(oA 14 (.bin .eql 0 (.t 3) (.k (.v (.c (.p (.str [117, 49, 54]))))))), (oA 9 (.mv (.t 14)))] []) (.cond (.t 9) .skip (.reg [(oA 15 (.bin .eql 0 (.t 3) (.k (.v (.c (.p (.str [117, 51, 50]))))))), (oA 9 (.mv (.t 15)))] []))))))))))) (.mark 2 [9] (.cond (.t 9) (.exit 2) .skip)))) (.exit 0)))) (.seq (.seq (.reg [(oA 2 (.mv (.k (.v (.c (.p (.int .i64 1)))))))] []) .ret) (.exit 0))))) (.seq (.reg [(oA 2 (.mv (.k (.v (.c (.p (.int .i64 2)))))))] []) .ret))) }
theorem t27 : compF Tryd.prog (globs2 tabs opq) (fun _ => false) true Tryd.f27 = some c27.erase := by kernel_rfl
noncomputable def b27_0 (O : Oracle) (R : Jump) (q : Nat) (x0 : TVal) (h : Heap) : Res1 :=
 vbin .eql 0 x0 (kS [108, 101, 110]) h fun x5 h =>
 vif x5 (
 R 1 [x0, x5] h)
 (vbin .eql 0 x0 (kS [110, 111, 116]) h fun x6 h =>
 vif x6 (
 R 1 [x0, x6] h)
 (vbin .eql 0 x0 (kS [116, 101, 120, 116]) h fun x7 h =>
 vif x7 (
 R 1 [x0, x7] h)
 (vbin .eql 0 x0 (kS [104, 97, 115]) h fun x8 h =>
 R 1 [x0, x8] h)))
theorem e27_0 (O : Oracle) (R : Jump) (q : Nat) (x0 : TVal) (h : Heap) : b27_0 O R q x0 h = stepF c27 O R q 0 [x0] h := by kernel_rfl
noncomputable def b27_1 (O : Oracle) (R : Jump) (q : Nat) (x3 x4 : TVal) (h : Heap) : Res1 :=
 vif x4 (
 tcomp (kI 1) fun c0 => vfin true q [c0] h)
 (vbin .eql 0 x3 (kS [105, 56]) h fun x10 h =>
 vif x10 (
 R 2 [x10] h)
 (vbin .eql 0 x3 (kS [105, 49, 54]) h fun x11 h =>
 vif x11 (
 R 2 [x11] h)
 (vbin .eql 0 x3 (kS [105, 51, 50]) h fun x12 h =>
 vif x12 (
 R 2 [x12] h)
 (vbin .eql 0 x3 (kS [117, 56]) h fun x13 h =>
 vif x13 (
 R 2 [x13] h)
 (vbin .eql 0 x3 (kS [117, 49, 54]) h fun x14 h =>
 vif x14 (
 R 2 [x14] h)
 (vbin .eql 0 x3 (kS [117, 51, 50]) h fun x15 h =>
 R 2 [x15] h))))))
theorem e27_1 (O : Oracle) (R : Jump) (q : Nat) (x3 x4 : TVal) (h : Heap) : b27_1 O R q x3 x4 h = stepF c27 O R q 1 [x3, x4] h := by kernel_rfl
noncomputable def b27_2 (O : Oracle) (R : Jump) (q : Nat) (x9 : TVal) (h : Heap) : Res1 :=
 vif x9 (
 tcomp (kI 1) fun c0 => vfin true q [c0] h)
 (tcomp (kI 2) fun c0 => vfin true q [c0] h)
theorem e27_2 (O : Oracle) (R : Jump) (q : Nat) (x9 : TVal) (h : Heap) : b27_2 O R q x9 h = stepF c27 O R q 2 [x9] h := by kernel_rfl
noncomputable def d27 : BlkF := fun O R q => [.s fun y0 => .z fun h => b27_0 O R q y0 h, .s fun y0 => .s fun y1 => .z fun h => b27_1 O R q y0 y1 h, .s fun y0 => .z fun h => b27_2 O R q y0 h]
theorem o27 (O : Oracle) (R : Jump) (q : Nat) : HoldsAll c27 O R q 0 (d27 O R q) := ⟨fun y0 h => e27_0 O R q y0 h, fun y0 y1 h => e27_1 O R q y0 y1 h, fun y0 h => e27_2 O R q y0 h, trivial⟩
/- sprue/calls.long -/
def c28 : MFunc := { np := 1, res := [.cell 2 true 6, .t 3], frz := true, body := (.seq (.reg [(oA 1 (.box (.t 0) false)), (oA 2 (.alloc [(.p (.int .i64 0)), (.p (.bool false)), (.p (.int .i64 0)), (.p (.str [])), (.p .nilslice), (.p .nilslice)] false)), (oA 3 (.mv (.k (.v (.c (.p (.int .i64 0)))))))] []) (.seq (.seq (.reg [(oA 4 (.faddr 0 (.t 1))), (oA 5 (.load false 1 (.t 4)))] []) (.block 0 (.seq (.reg [(oA 7 (.bin .eql 0 (.t 5) (.k (.v (.c (.p (.int .i64 3))))))), (oA 6 (.mv (.t 7)))] []) (.cond (.t 6) (.seq (.reg [(oA 8 (.faddr 3 (.t 1))), (oA 9 (.load false 1 (.t 8))), (oA 10 (.len 0 (.t 9))), (oA 11 (.call (.k (.v (.c (.func 51 [])))) [(.t 10)])), (oN (.store 6 (.t 2) (.t 11))), (oA 3 (.mv (.k (.v (.c (.p (.int .i64 0)))))))] []) .ret) (.seq (.seq (.reg [(oA 13 (.bin .eql 0 (.t 5) (.k (.v (.c (.p (.int .i64 4))))))), (oA 12 (.mv (.t 13)))] []) (.cond (.t 12) .skip (.reg [(oA 14 (.bin .eql 0 (.t 5) (.k (.v (.c (.p (.int .i64 5))))))), (oA 12 (.mv (.t 14)))] []))) (.mark 1 [1, 2, 12] (.cond (.t 12) (.seq (.reg [(oA 15 (.faddr 5 (.t 1))), (oA 16 (.load false 1 (.t 15))), (oA 17 (.len 2 (.t 16))), (oA 18 (.call (.k (.v (.c (.func 51 [])))) [(.t 17)])), (oN (.store 6 (.t 2) (.t 18))), (oA 3 (.mv (.k (.v (.c (.p (.int .i64 0)))))))] []) .ret) .skip))))))) (.seq (.reg [(oA 19 (.build [(.p (.int .i64 0)), (.p (.bool false)), (.p (.int .i64 0)), (.p (.str [])), (.p .nilslice), (.p .nilslice)] [])), (oN (.store 6 (.t 2) (.t 19))), (oA 3 (.mv (.k (.v (.c (.p (.int .i64 17)))))))] []) .ret))) }
theorem t28 : compF Tryd.prog (globs2 tabs opq) (fun _ => false) true Tryd.f28 = some c28.erase := by kernel_rfl
noncomputable def b28_0 (O : Oracle) (R : Jump) (q : Nat) (x0 : TVal) (h : Heap) : Res1 :=
 vop O (.box (.k x0) false) h 1 fun x1 h =>
 vop O (.alloc [(.p (.int .i64 0)), (.p (.bool false)), (.p (.int .i64 0)), (.p (.str [])), (.p .nilslice), (.p .nilslice)] false) h 2 fun x2 h =>
 vfaddr 0 x1 h fun x4 h =>
 vload false 1 x4 h fun x5 h =>
 vbin .eql 0 x5 (kI 3) h fun x7 h =>
 vif x7 (
 vfaddr 3 x1 h fun x8 h =>
 vload false 1 x8 h fun x9 h =>
 vlen O 0 x9 h 10 fun x10 h =>
 vcall O (.v (.c (.func 51 []))) [x10] h 11 fun x11 h =>
 vstore 6 x2 x11 h fun _ h =>
 vcell true 6 x2 h fun c0 => tcomp (kI 0) fun c1 => vfin true q [c0, c1] h)
 (vbin .eql 0 x5 (kI 4) h fun x13 h =>
 vif x13 (
 R 1 [x1, x2, x13] h)
 (vbin .eql 0 x5 (kI 5) h fun x14 h =>
 R 1 [x1, x2, x14] h))
theorem e28_0 (O : Oracle) (R : Jump) (q : Nat) (x0 : TVal) (h : Heap) : b28_0 O R q x0 h = stepF c28 O R q 0 [x0] h := by kernel_rfl
noncomputable def b28_1 (O : Oracle) (R : Jump) (q : Nat) (x1 x2 x12 : TVal) (h : Heap) : Res1 :=
 vif x12 (
 vfaddr 5 x1 h fun x15 h =>
 vload false 1 x15 h fun x16 h =>
 vlen O 2 x16 h 17 fun x17 h =>
 vcall O (.v (.c (.func 51 []))) [x17] h 18 fun x18 h =>
 vstore 6 x2 x18 h fun _ h =>
 vcell true 6 x2 h fun c0 => tcomp (kI 0) fun c1 => vfin true q [c0, c1] h)
 (vop O (.build [(.p (.int .i64 0)), (.p (.bool false)), (.p (.int .i64 0)), (.p (.str [])), (.p .nilslice), (.p .nilslice)] []) h 19 fun x19 h =>
 vstore 6 x2 x19 h fun _ h =>
 vcell true 6 x2 h fun c0 => tcomp (kI 17) fun c1 => vfin true q [c0, c1] h)
theorem e28_1 (O : Oracle) (R : Jump) (q : Nat) (x1 x2 x12 : TVal) (h : Heap) : b28_1 O R q x1 x2 x12 h = stepF c28 O R q 1 [x1, x2, x12] h := by kernel_rfl
noncomputable def d28 : BlkF := fun O R q => [.s fun y0 => .z fun h => b28_0 O R q y0 h, .s fun y0 => .s fun y1 => .s fun y2 => .z fun h => b28_1 O R q y0 y1 y2 h]
theorem o28 (O : Oracle) (R : Jump) (q : Nat) : HoldsAll c28 O R q 0 (d28 O R q) := ⟨fun y0 h => e28_0 O R q y0 h, fun y0 y1 y2 h => e28_1 O R q y0 y1 y2 h, trivial⟩
/- sprue/calls.logic -/
def c29 : MFunc := { np := 2, res := [.cell 4 true 6, .t 5], frz := true, body := (.seq (.reg [(oA 4 (.alloc [(.p (.int .i64 0)), (.p (.bool false)), (.p (.int .i64 0)), (.p (.str [])), (.p .nilslice), (.p .nilslice)] false)), (oA 5 (.mv (.k (.v (.c (.p (.int .i64 0)))))))] []) (.seq (.seq (.reg [(oA 6 (.mv (.t 1))), (oA 7 (.call (.k (.v (.c (.func 52 [])))) [(.t 6), (.k (.v (.c (.func 53 []))))]))] []) (.cond (.t 7) (.seq (.reg [(oA 8 (.build [(.p (.int .i64 0)), (.p (.bool false)), (.p (.int .i64 0)), (.p (.str [])), (.p .nilslice), (.p .nilslice)] [])), (oN (.store 6 (.t 4) (.t 8))), (oA 5 (.mv (.k (.v (.c (.p (.int .i64 17)))))))] []) .ret) .skip)) (.seq (.seq (.reg [(oA 9 (.mv (.t 0)))] []) (.block 0 (.seq (.reg [(oA 11 (.bin .eql 0 (.t 9) (.k (.v (.c (.p (.str [110, 111, 116]))))))), (oA 10 (.mv (.t 11)))] []) (.cond (.t 10) (.seq (.reg [(oA 12 (.mv (.t 1))), (oA 13 (.iaddr 6 (.t 12) (.k (.v (.c (.p (.int .i64 0))))))), (oA 14 (.faddr 1 (.t 13))), (oA 15 (.load false 1 (.t 14))), (oA 16 (.un .not (.t 15))), (oA 17 (.call (.k (.v (.c (.func 36 [])))) [(.t 16)])), (oN (.store 6 (.t 4) (.t 17))), (oA 5 (.mv (.k (.v (.c (.p (.int .i64 0)))))))] []) .ret) (.seq (.reg [(oA 19 (.bin .eql 0 (.t 9) (.k (.v (.c (.p (.str [97, 110, 100]))))))), (oA 18 (.mv (.t 19)))] []) (.cond (.t 18) (.seq (.reg [(oA 20 (.mv (.t 1))), (oA 21 (.iaddr 6 (.t 20) (.k (.v (.c (.p (.int .i64 0))))))), (oA 22 (.faddr 1 (.t 21))), (oA 23 (.load false 1 (.t 22))), (oA 24 (.mv (.t 23))), ⟨(some 25), (.mv (.t 1)), (some (24, true))⟩, ⟨(some 26), (.iaddr 6 (.t 25) (.k (.v (.c (.p (.int .i64 1)))))), (some (24, true))⟩, ⟨(some 27), (.faddr 1 (.t 26)), (some (24, true))⟩, ⟨(some 28), (.load false 1 (.t 27)), (some (24, true))⟩, (oA 29 (.pick (.t 24) (.t 28) (.k (.v (.c (.p (.bool false))))))), (oA 30 (.call (.k (.v (.c (.func 36 [])))) [(.t 29)])), (oN (.store 6 (.t 4) (.t 30))), (oA 5 (.mv (.k (.v (.c (.p (.int .i64 0)))))))] []) .ret) .skip)))))) (.seq (.reg [(oA 31 (.mv (.t 1))), (oA 32 (.iaddr 6 (.t 31) (.k (.v (.c (.p (.int .i64 0))))))), (oA 33 (.faddr 1 (.t 32))), (oA 34 (.load false 1 (.t 33))), (oA 35 (.mv (.t 34))), ⟨(some 36), (.mv (.t 1)), (some (35, false))⟩, ⟨(some 37), (.iaddr 6 (.t 36) (.k (.v (.c (.p (.int .i64 1)))))), (some (35, false))⟩, ⟨(some 38), (.faddr 1 (.t 37)), (some (35, false))⟩, ⟨(some 39), (.load false 1 (.t 38)), (some (35, false))⟩, (oA 40 (.pick (.t 35) (.k (.v (.c (.p (.bool true))))) (.t 39))), (oA 41 (.call (.k (.v (.c (.func 36 [])))) [(.t 40)])), (oN (.store 6 (.t 4) (.t 41))), (oA 5 (.mv (.k (.v (.c (.p (.int .i64 0)))))))] []) .ret)))) }
theorem t29 : compF Tryd.prog (globs2 tabs opq) (fun _ => false) true Tryd.f29 = some c29.erase := by kernel_rfl
noncomputable def b29_0 (O : Oracle) (R : Jump) (q : Nat) (x0 x1 : TVal) (h : Heap) : Res1 :=
 vop O (.alloc [(.p (.int .i64 0)), (.p (.bool false)), (.p (.int .i64 0)), (.p (.str [])), (.p .nilslice), (.p .nilslice)] false) h 4 fun x4 h =>
 vcall O (.v (.c (.func 52 []))) [x1, (.v (.c (.func 53 [])))] h 7 fun x7 h =>
 vif x7 (
 vop O (.build [(.p (.int .i64 0)), (.p (.bool false)), (.p (.int .i64 0)), (.p (.str [])), (.p .nilslice), (.p .nilslice)] []) h 8 fun x8 h =>
 vstore 6 x4 x8 h fun _ h =>
 vcell true 6 x4 h fun c0 => tcomp (kI 17) fun c1 => vfin true q [c0, c1] h)
 (vbin .eql 0 x0 (kS [110, 111, 116]) h fun x11 h =>
 vif x11 (
 viaddr 6 x1 (kI 0) h fun x13 h =>
 vfaddr 1 x13 h fun x14 h =>
 vload false 1 x14 h fun x15 h =>
 vop O (.un .not (.k x15)) h 16 fun x16 h =>
 vcall O (.v (.c (.func 36 []))) [x16] h 17 fun x17 h =>
 vstore 6 x4 x17 h fun _ h =>
 vcell true 6 x4 h fun c0 => tcomp (kI 0) fun c1 => vfin true q [c0, c1] h)
 (vbin .eql 0 x0 (kS [97, 110, 100]) h fun x19 h =>
 vif x19 (
 viaddr 6 x1 (kI 0) h fun x21 h =>
 vfaddr 1 x21 h fun x22 h =>
 vload false 1 x22 h fun x23 h =>
 vguard x23 true (fun kk => kk x1 h) h fun x25 h =>
 vguard x23 true (fun kk => viaddr 6 x25 (kI 1) h kk) h fun x26 h =>
 vguard x23 true (fun kk => vfaddr 1 x26 h kk) h fun x27 h =>
 vguard x23 true (fun kk => vload false 1 x27 h kk) h fun x28 h =>
 vop O (.pick (.k x23) (.k x28) (.k (kB false))) h 29 fun x29 h =>
 vcall O (.v (.c (.func 36 []))) [x29] h 30 fun x30 h =>
 vstore 6 x4 x30 h fun _ h =>
 vcell true 6 x4 h fun c0 => tcomp (kI 0) fun c1 => vfin true q [c0, c1] h)
 (viaddr 6 x1 (kI 0) h fun x32 h =>
 vfaddr 1 x32 h fun x33 h =>
 vload false 1 x33 h fun x34 h =>
 vguard x34 false (fun kk => kk x1 h) h fun x36 h =>
 vguard x34 false (fun kk => viaddr 6 x36 (kI 1) h kk) h fun x37 h =>
 vguard x34 false (fun kk => vfaddr 1 x37 h kk) h fun x38 h =>
 vguard x34 false (fun kk => vload false 1 x38 h kk) h fun x39 h =>
 vop O (.pick (.k x34) (.k (kB true)) (.k x39)) h 40 fun x40 h =>
 vcall O (.v (.c (.func 36 []))) [x40] h 41 fun x41 h =>
 vstore 6 x4 x41 h fun _ h =>
 vcell true 6 x4 h fun c0 => tcomp (kI 0) fun c1 => vfin true q [c0, c1] h)))
theorem e29_0 (O : Oracle) (R : Jump) (q : Nat) (x0 x1 : TVal) (h : Heap) : b29_0 O R q x0 x1 h = stepF c29 O R q 0 [x0, x1] h := by kernel_rfl
noncomputable def d29 : BlkF := fun O R q => [.s fun y0 => .s fun y1 => .z fun h => b29_0 O R q y0 y1 h]
theorem o29 (O : Oracle) (R : Jump) (q : Nat) : HoldsAll c29 O R q 0 (d29 O R q) := ⟨fun y0 y1 h => e29_0 O R q y0 y1 h, trivial⟩
/- sprue/calls.same -/
def c30 : MFunc := { np := 1, res := [.cell 2 true 6, .t 3], frz := true, body := (.seq (.reg [(oA 2 (.alloc [(.p (.int .i64 0)), (.p (.bool false)), (.p (.int .i64 0)), (.p (.str [])), (.p .nilslice), (.p .nilslice)] false)), (oA 3 (.mv (.k (.v (.c (.p (.int .i64 0)))))))] []) (.seq (.reg [(oA 5 (.mv (.t 0))), (oA 6 (.iaddr 6 (.t 5) (.k (.v (.c (.p (.int .i64 0))))))), (oA 7 (.faddr 0 (.t 6))), (oA 8 (.load false 1 (.t 7))), (oA 4 (.mv (.t 8)))] []) (.seq (.seq (.reg [(oA 9 (.mv (.t 4))), (oA 10 (.bin .lss 0 (.t 9) (.k (.v (.c (.p (.int .i64 1))))))), (oA 11 (.mv (.t 10))), ⟨(some 12), (.mv (.t 4)), (some (11, false))⟩, ⟨(some 13), (.bin .gtr 0 (.t 12) (.k (.v (.c (.p (.int .i64 3)))))), (some (11, false))⟩, (oA 14 (.pick (.t 11) (.k (.v (.c (.p (.bool true))))) (.t 13))), (oA 15 (.mv (.t 14))), ⟨(some 16), (.mv (.t 0)), (some (15, false))⟩, ⟨(some 17), (.iaddr 6 (.t 16) (.k (.v (.c (.p (.int .i64 1)))))), (some (15, false))⟩, ⟨(some 18), (.faddr 0 (.t 17)), (some (15, false))⟩, ⟨(some 19), (.load false 1 (.t 18)), (some (15, false))⟩, ⟨(some 20), (.mv (.t 4)), (some (15, false))⟩, ⟨(some 21), (.bin .neq 0 (.t 19) (.t 20)), (some (15, false))⟩, (oA 22 (.pick (.t 15) (.k (.v (.c (.p (.bool true))))) (.t 21)))] []) (.cond (.t 22) (.seq (.reg [(oA 23 (.build [(.p (.int .i64 0)), (.p (.bool false)), (.p (.int .i64 0)), (.p (.str [])), (.p .nilslice), (.p .nilslice)] [])), (oN (.store 6 (.t 2) (.t 23))), (oA 3 (.mv (.k (.v (.c (.p (.int .i64 17)))))))] []) .ret) .skip)) (.seq (.reg [(oA 24 (.mv (.t 0))), (oA 25 (.iaddr 6 (.t 24) (.k (.v (.c (.p (.int .i64 0))))))), (oA 26 (.faddr 1 (.t 25))), (oA 27 (.load false 1 (.t 26))), (oA 28 (.mv (.t 0))), (oA 29 (.iaddr 6 (.t 28) (.k (.v (.c (.p (.int .i64 1))))))), (oA 30 (.faddr 1 (.t 29))), (oA 31 (.load false 1 (.t 30))), (oA 32 (.bin .eql 5 (.t 27) (.t 31))), (oA 33 (.mv (.t 32))), ⟨(some 34), (.mv (.t 0)), (some (33, true))⟩, ⟨(some 35), (.iaddr 6 (.t 34) (.k (.v (.c (.p (.int .i64 0)))))), (some (33, true))⟩, ⟨(some 36), (.faddr 2 (.t 35)), (some (33, true))⟩, ⟨(some 37), (.load false 1 (.t 36)), (some (33, true))⟩, ⟨(some 38), (.mv (.t 0)), (some (33, true))⟩, ⟨(some 39), (.iaddr 6 (.t 38) (.k (.v (.c (.p (.int .i64 1)))))), (some (33, true))⟩, ⟨(some 40), (.faddr 2 (.t 39)), (some (33, true))⟩, ⟨(some 41), (.load false 1 (.t 40)), (some (33, true))⟩, ⟨(some 42), (.bin .eql 0 (.t 37) (.t 41)), (some (33, true))⟩, (oA 43 (.pick (.t 33) (.t 42) (.k (.v (.c (.p (.bool false))))))), (oA 44 (.mv (.t 43))), ⟨(some 45), (.mv (.t 0)), (some (44, true))⟩, ⟨(some 46), (.iaddr 6 (.t 45) (.k (.v (.c (.p (.int .i64 0)))))), (some (44, true))⟩, ⟨(some 47), (.faddr 3 (.t 46)), (some (44, true))⟩, ⟨(some 48), (.load false 1 (.t 47)), (some (44, true))⟩, ⟨(some 49), (.mv (.t 0)), (some (44, true))⟩, ⟨(some 50), (.iaddr 6 (.t 49) (.k (.v (.c (.p (.int .i64 1)))))), (some (44, true))⟩, ⟨(some 51), (.faddr 3 (.t 50)), (some (44, true))⟩, ⟨(some 52), (.load false 1 (.t 51)), (some (44, true))⟩, ⟨(some 53), (.bin .eql 0 (.t 48) (.t 52)), (some (44, true))⟩, (oA 54 (.pick (.t 44) (.t 53) (.k (.v (.c (.p (.bool false))))))), (oA 55 (.call (.k (.v (.c (.func 36 [])))) [(.t 54)])), (oN (.store 6 (.t 2) (.t 55))), (oA 3 (.mv (.k (.v (.c (.p (.int .i64 0)))))))] []) .ret)))) }
theorem t30 : compF Tryd.prog (globs2 tabs opq) (fun _ => false) true Tryd.f30 = some c30.erase := by kernel_rfl
noncomputable def b30_0 (O : Oracle) (R : Jump) (q : Nat) (x0 : TVal) (h : Heap) : Res1 :=
 vop O (.alloc [(.p (.int .i64 0)), (.p (.bool false)), (.p (.int .i64 0)), (.p (.str [])), (.p .nilslice), (.p .nilslice)] false) h 2 fun x2 h =>
 viaddr 6 x0 (kI 0) h fun x6 h =>
 vfaddr 0 x6 h fun x7 h =>
 vload false 1 x7 h fun x8 h =>
 vbin .lss 0 x8 (kI 1) h fun x10 h =>
 vguard x10 false (fun kk => kk x8 h) h fun x12 h =>
 vguard x10 false (fun kk => vbin .gtr 0 x12 (kI 3) h kk) h fun x13 h =>
 vop O (.pick (.k x10) (.k (kB true)) (.k x13)) h 14 fun x14 h =>
 vguard x14 false (fun kk => kk x0 h) h fun x16 h =>
 vguard x14 false (fun kk => viaddr 6 x16 (kI 1) h kk) h fun x17 h =>
 vguard x14 false (fun kk => vfaddr 0 x17 h kk) h fun x18 h =>
 vguard x14 false (fun kk => vload false 1 x18 h kk) h fun x19 h =>
 vguard x14 false (fun kk => kk x8 h) h fun x20 h =>
 vguard x14 false (fun kk => vbin .neq 0 x19 x20 h kk) h fun x21 h =>
 vop O (.pick (.k x14) (.k (kB true)) (.k x21)) h 22 fun x22 h =>
 vif x22 (
 vop O (.build [(.p (.int .i64 0)), (.p (.bool false)), (.p (.int .i64 0)), (.p (.str [])), (.p .nilslice), (.p .nilslice)] []) h 23 fun x23 h =>
 vstore 6 x2 x23 h fun _ h =>
 vcell true 6 x2 h fun c0 => tcomp (kI 17) fun c1 => vfin true q [c0, c1] h)
 (viaddr 6 x0 (kI 0) h fun x25 h =>
 vfaddr 1 x25 h fun x26 h =>
 vload false 1 x26 h fun x27 h =>
 viaddr 6 x0 (kI 1) h fun x29 h =>
 vfaddr 1 x29 h fun x30 h =>
 vload false 1 x30 h fun x31 h =>
 vbin .eql 5 x27 x31 h fun x32 h =>
 vguard x32 true (fun kk => kk x0 h) h fun x34 h =>
 vguard x32 true (fun kk => viaddr 6 x34 (kI 0) h kk) h fun x35 h =>
 vguard x32 true (fun kk => vfaddr 2 x35 h kk) h fun x36 h =>
 vguard x32 true (fun kk => vload false 1 x36 h kk) h fun x37 h =>
 vguard x32 true (fun kk => kk x0 h) h fun x38 h =>
 vguard x32 true (fun kk => viaddr 6 x38 (kI 1) h kk) h fun x39 h =>
 vguard x32 true (fun kk => vfaddr 2 x39 h kk) h fun x40 h =>
 vguard x32 true (fun kk => vload false 1 x40 h kk) h fun x41 h =>
 vguard x32 true (fun kk => vbin .eql 0 x37 x41 h kk) h fun x42 h =>
 vop O (.pick (.k x32) (.k x42) (.k (kB false))) h 43 fun x43 h =>
 vguard x43 true (fun kk => kk x0 h) h fun x45 h =>
 vguard x43 true (fun kk => viaddr 6 x45 (kI 0) h kk) h fun x46 h =>
 vguard x43 true (fun kk => vfaddr 3 x46 h kk) h fun x47 h =>
 vguard x43 true (fun kk => vload false 1 x47 h kk) h fun x48 h =>
 vguard x43 true (fun kk => kk x0 h) h fun x49 h =>
 vguard x43 true (fun kk => viaddr 6 x49 (kI 1) h kk) h fun x50 h =>
 vguard x43 true (fun kk => vfaddr 3 x50 h kk) h fun x51 h =>
 vguard x43 true (fun kk => vload false 1 x51 h kk) h fun x52 h =>
 vguard x43 true (fun kk => vbin .eql 0 x48 x52 h kk) h fun x53 h =>
 vop O (.pick (.k x43) (.k x53) (.k (kB false))) h 54 fun x54 h =>
 vcall O (.v (.c (.func 36 []))) [x54] h 55 fun x55 h =>
 vstore 6 x2 x55 h fun _ h =>
 vcell true 6 x2 h fun c0 => tcomp (kI 0) fun c1 => vfin true q [c0, c1] h)
theorem e30_0 (O : Oracle) (R : Jump) (q : Nat) (x0 : TVal) (h : Heap) : b30_0 O R q x0 h = stepF c30 O R q 0 [x0] h := by kernel_rfl
noncomputable def d30 : BlkF := fun O R q => [.s fun y0 => .z fun h => b30_0 O R q y0 h]
theorem o30 (O : Oracle) (R : Jump) (q : Nat) : HoldsAll c30 O R q 0 (d30 O R q) := ⟨fun y0 h => e30_0 O R q y0 h, trivial⟩
/- sprue/calls.cat -/
def c31 : MFunc := { np := 1, res := [.cell 2 true 6, .t 3], frz := true, body := (.seq (.reg [(oA 2 (.alloc [(.p (.int .i64 0)), (.p (.bool false)), (.p (.int .i64 0)), (.p (.str [])), (.p .nilslice), (.p .nilslice)] false)), (oA 3 (.mv (.k (.v (.c (.p (.int .i64 0)))))))] []) (.seq (.block 0 (.seq (.reg [(oA 5 (.mv (.t 0))), (oA 6 (.bslice 1 2 [(.p (.int .i64 0))] [(0, (.k (.v (.c (.p (.int .i64 3)))))), (1, (.k (.v (.c (.p (.int .i64 3))))))] false)), (oA 7 (.call (.k (.v (.c (.func 34 [])))) [(.t 5), (.t 6)])), (oA 8 (.un .not (.t 7))), (oA 4 (.mv (.t 8)))] []) (.cond (.t 4) (.seq (.reg [(oA 9 (.build [(.p (.int .i64 0)), (.p (.bool false)), (.p (.int .i64 0)), (.p (.str [])), (.p .nilslice), (.p .nilslice)] [])), (oN (.store 6 (.t 2) (.t 9))), (oA 3 (.mv (.k (.v (.c (.p (.int .i64 17)))))))] []) .ret) (.seq (.reg [(oA 11 (.mv (.t 0))), (oA 12 (.iaddr 6 (.t 11) (.k (.v (.c (.p (.int .i64 0))))))), (oA 13 (.faddr 3 (.t 12))), (oA 14 (.load false 1 (.t 13))), (oA 15 (.len 0 (.t 14))), (oA 16 (.mv (.t 0))), (oA 17 (.iaddr 6 (.t 16) (.k (.v (.c (.p (.int .i64 1))))))), (oA 18 (.faddr 3 (.t 17))), (oA 19 (.load false 1 (.t 18))), (oA 20 (.len 0 (.t 19))), (oA 21 (.bin .sub 0 (.k (.v (.c (.p (.int .i64 65536))))) (.t 20))), (oA 22 (.bin .gtr 0 (.t 15) (.t 21))), (oA 10 (.mv (.t 22)))] []) (.cond (.t 10) (.seq (.reg [(oA 23 (.build [(.p (.int .i64 0)), (.p (.bool false)), (.p (.int .i64 0)), (.p (.str [])), (.p .nilslice), (.p .nilslice)] [])), (oN (.store 6 (.t 2) (.t 23))), (oA 3 (.mv (.k (.v (.c (.p (.int .i64 34)))))))] []) .ret) .skip))))) (.seq (.reg [(oA 24 (.mv (.t 0))), (oA 25 (.iaddr 6 (.t 24) (.k (.v (.c (.p (.int .i64 0))))))), (oA 26 (.faddr 3 (.t 25))), (oA 27 (.load false 1 (.t 26))), (oA 28 (.mv (.t 0))), (oA 29 (.iaddr 6 (.t 28) (.k (.v (.c (.p (.int .i64 1))))))), (oA 30 (.faddr 3 (.t 29))), (oA 31 (.load false 1 (.t 30))), (oA 32 (.bin .add 0 (.t 27) (.t 31))), (oA 33 (.call (.k (.v (.c (.func 54 [])))) [(.t 32)])), (oN (.store 6 (.t 2) (.t 33))), (oA 3 (.mv (.k (.v (.c (.p (.int .i64 0)))))))] []) .ret))) }
theorem t31 : compF Tryd.prog (globs2 tabs opq) (fun _ => false) true Tryd.f31 = some c31.erase := by kernel_rfl
noncomputable def b31_0 (O : Oracle) (R : Jump) (q : Nat) (x0 : TVal) (h : Heap) : Res1 :=
 vop O (.alloc [(.p (.int .i64 0)), (.p (.bool false)), (.p (.int .i64 0)), (.p (.str [])), (.p .nilslice), (.p .nilslice)] false) h 2 fun x2 h =>
 vop O (.bslice 1 2 [(.p (.int .i64 0))] [(0, (.k (kI 3))), (1, (.k (kI 3)))] false) h 6 fun x6 h =>
 vcall O (.v (.c (.func 34 []))) [x0, x6] h 7 fun x7 h =>
 vop O (.un .not (.k x7)) h 8 fun x8 h =>
 vif x8 (
 vop O (.build [(.p (.int .i64 0)), (.p (.bool false)), (.p (.int .i64 0)), (.p (.str [])), (.p .nilslice), (.p .nilslice)] []) h 9 fun x9 h =>
 vstore 6 x2 x9 h fun _ h =>
 vcell true 6 x2 h fun c0 => tcomp (kI 17) fun c1 => vfin true q [c0, c1] h)
 (viaddr 6 x0 (kI 0) h fun x12 h =>
 vfaddr 3 x12 h fun x13 h =>
 vload false 1 x13 h fun x14 h =>
 vlen O 0 x14 h 15 fun x15 h =>
 viaddr 6 x0 (kI 1) h fun x17 h =>
 vfaddr 3 x17 h fun x18 h =>
 vload false 1 x18 h fun x19 h =>
 vlen O 0 x19 h 20 fun x20 h =>
 vbin .sub 0 (kI 65536) x20 h fun x21 h =>
 vbin .gtr 0 x15 x21 h fun x22 h =>
 vif x22 (
 vop O (.build [(.p (.int .i64 0)), (.p (.bool false)), (.p (.int .i64 0)), (.p (.str [])), (.p .nilslice), (.p .nilslice)] []) h 23 fun x23 h =>
 vstore 6 x2 x23 h fun _ h =>
 vcell true 6 x2 h fun c0 => tcomp (kI 34) fun c1 => vfin true q [c0, c1] h)
 (viaddr 6 x0 (kI 0) h fun x25 h =>
 vfaddr 3 x25 h fun x26 h =>
 vload false 1 x26 h fun x27 h =>
 viaddr 6 x0 (kI 1) h fun x29 h =>
 vfaddr 3 x29 h fun x30 h =>
 vload false 1 x30 h fun x31 h =>
 vbin .add 0 x27 x31 h fun x32 h =>
 vcall O (.v (.c (.func 54 []))) [x32] h 33 fun x33 h =>
 vstore 6 x2 x33 h fun _ h =>
 vcell true 6 x2 h fun c0 => tcomp (kI 0) fun c1 => vfin true q [c0, c1] h))
theorem e31_0 (O : Oracle) (R : Jump) (q : Nat) (x0 : TVal) (h : Heap) : b31_0 O R q x0 h = stepF c31 O R q 0 [x0] h := by kernel_rfl
noncomputable def d31 : BlkF := fun O R q => [.s fun y0 => .z fun h => b31_0 O R q y0 h]
theorem o31 (O : Oracle) (R : Jump) (q : Nat) : HoldsAll c31 O R q 0 (d31 O R q) := ⟨fun y0 h => e31_0 O R q y0 h, trivial⟩
/- sprue/calls.written -/
def c32 : MFunc := { np := 1, res := [.cell 2 true 6, .t 3], frz := true, body := (.seq (.reg [(oA 1 (.box (.t 0) false)), (oA 2 (.alloc [(.p (.int .i64 0)), (.p (.bool false)), (.p (.int .i64 0)), (.p (.str [])), (.p .nilslice), (.p .nilslice)] false)), (oA 3 (.mv (.k (.v (.c (.p (.int .i64 0)))))))] []) (.seq (.seq (.reg [(oA 4 (.faddr 0 (.t 1))), (oA 5 (.load false 1 (.t 4)))] []) (.block 0 (.seq (.reg [(oA 7 (.bin .eql 0 (.t 5) (.k (.v (.c (.p (.int .i64 2))))))), (oA 6 (.mv (.t 7)))] []) (.cond (.t 6) (.seq (.reg [(oA 8 (.faddr 2 (.t 1))), (oA 9 (.load false 1 (.t 8))), (oA 10 (.call (.k (.v (.c (.func 55 [])))) [(.t 9), (.k (.v (.c (.p (.int .i64 10)))))])), (oA 11 (.call (.k (.v (.c (.func 54 [])))) [(.t 10)])), (oN (.store 6 (.t 2) (.t 11))), (oA 3 (.mv (.k (.v (.c (.p (.int .i64 0)))))))] []) .ret) (.seq (.reg [(oA 13 (.bin .eql 0 (.t 5) (.k (.v (.c (.p (.int .i64 1))))))), (oA 12 (.mv (.t 13)))] []) (.cond (.t 12) (.seq (.reg [(oA 14 (.faddr 1 (.t 1))), (oA 15 (.load false 1 (.t 14))), (oA 16 (.call (.k (.v (.c (.func 56 [])))) [(.t 15)])), (oA 17 (.call (.k (.v (.c (.func 54 [])))) [(.t 16)])), (oN (.store 6 (.t 2) (.t 17))), (oA 3 (.mv (.k (.v (.c (.p (.int .i64 0)))))))] []) .ret) .skip)))))) (.seq (.reg [(oA 18 (.build [(.p (.int .i64 0)), (.p (.bool false)), (.p (.int .i64 0)), (.p (.str [])), (.p .nilslice), (.p .nilslice)] [])), (oN (.store 6 (.t 2) (.t 18))), (oA 3 (.mv (.k (.v (.c (.p (.int .i64 17)))))))] []) .ret))) }
theorem t32 : compF Tryd.prog (globs2 tabs opq) (fun _ => false) true Tryd.f32 = some c32.erase := by kernel_rfl
noncomputable def b32_0 (O : Oracle) (R : Jump) (q : Nat) (x0 : TVal) (h : Heap) : Res1 :=
 vop O (.box (.k x0) false) h 1 fun x1 h =>
 vop O (.alloc [(.p (.int .i64 0)), (.p (.bool false)), (.p (.int .i64 0)), (.p (.str [])), (.p .nilslice), (.p .nilslice)] false) h 2 fun x2 h =>
 vfaddr 0 x1 h fun x4 h =>
 vload false 1 x4 h fun x5 h =>
 vbin .eql 0 x5 (kI 2) h fun x7 h =>
 vif x7 (
 vfaddr 2 x1 h fun x8 h =>
 vload false 1 x8 h fun x9 h =>
 vcall O (.v (.c (.func 55 []))) [x9, (kI 10)] h 10 fun x10 h =>
 vcall O (.v (.c (.func 54 []))) [x10] h 11 fun x11 h =>
 vstore 6 x2 x11 h fun _ h =>
 vcell true 6 x2 h fun c0 => tcomp (kI 0) fun c1 => vfin true q [c0, c1] h)
 (vbin .eql 0 x5 (kI 1) h fun x13 h =>
 vif x13 (
 vfaddr 1 x1 h fun x14 h =>
 vload false 1 x14 h fun x15 h =>
 vcall O (.v (.c (.func 56 []))) [x15] h 16 fun x16 h =>
 vcall O (.v (.c (.func 54 []))) [x16] h 17 fun x17 h =>
 vstore 6 x2 x17 h fun _ h =>
 vcell true 6 x2 h fun c0 => tcomp (kI 0) fun c1 => vfin true q [c0, c1] h)
 (vop O (.build [(.p (.int .i64 0)), (.p (.bool false)), (.p (.int .i64 0)), (.p (.str [])), (.p .nilslice), (.p .nilslice)] []) h 18 fun x18 h =>
 vstore 6 x2 x18 h fun _ h =>
 vcell true 6 x2 h fun c0 => tcomp (kI 17) fun c1 => vfin true q [c0, c1] h))
theorem e32_0 (O : Oracle) (R : Jump) (q : Nat) (x0 : TVal) (h : Heap) : b32_0 O R q x0 h = stepF c32 O R q 0 [x0] h := by kernel_rfl
noncomputable def d32 : BlkF := fun O R q => [.s fun y0 => .z fun h => b32_0 O R q y0 h]
theorem o32 (O : Oracle) (R : Jump) (q : Nat) : HoldsAll c32 O R q 0 (d32 O R q) := ⟨fun y0 h => e32_0 O R q y0 h, trivial⟩
/- sprue/calls.at -/
def c33 : MFunc := { np := 1, res := [.cell 2 true 6, .t 3], frz := true, body := (.seq (.reg [(oA 2 (.alloc [(.p (.int .i64 0)), (.p (.bool false)), (.p (.int .i64 0)), (.p (.str [])), (.p .nilslice), (.p .nilslice)] false)), (oA 3 (.mv (.k (.v (.c (.p (.int .i64 0)))))))] []) (.seq (.block 0 (.seq (.reg [(oA 5 (.mv (.t 0))), (oA 6 (.bslice 1 2 [(.p (.int .i64 0))] [(0, (.k (.v (.c (.p (.int .i64 4)))))), (1, (.k (.v (.c (.p (.int .i64 2))))))] false)), (oA 7 (.call (.k (.v (.c (.func 34 [])))) [(.t 5), (.t 6)])), (oA 8 (.un .not (.t 7))), (oA 4 (.mv (.t 8)))] []) (.cond (.t 4) (.seq (.reg [(oA 9 (.build [(.p (.int .i64 0)), (.p (.bool false)), (.p (.int .i64 0)), (.p (.str [])), (.p .nilslice), (.p .nilslice)] [])), (oN (.store 6 (.t 2) (.t 9))), (oA 3 (.mv (.k (.v (.c (.p (.int .i64 17)))))))] []) .ret) (.seq (.reg [(oA 11 (.mv (.t 0))), (oA 12 (.iaddr 6 (.t 11) (.k (.v (.c (.p (.int .i64 1))))))), (oA 13 (.faddr 2 (.t 12))), (oA 14 (.load false 1 (.t 13))), (oA 15 (.bin .lss 0 (.t 14) (.k (.v (.c (.p (.int .i64 0))))))), (oA 16 (.mv (.t 15))), ⟨(some 17), (.mv (.t 0)), (some (16, false))⟩, ⟨(some 18), (.iaddr 6 (.t 17) (.k (.v (.c (.p (.int .i64 1)))))), (some (16, false))⟩, ⟨(some 19), (.faddr 2 (.t 18)), (some (16, false))⟩, ⟨(some 20), (.load false 1 (.t 19)), (some (16, false))⟩, ⟨(some 21), (.mv (.t 0)), (some (16, false))⟩, ⟨(some 22), (.iaddr 6 (.t 21) (.k (.v (.c (.p (.int .i64 0)))))), (some (16, false))⟩, ⟨(some 23), (.faddr 5 (.t 22)), (some (16, false))⟩, ⟨(some 24), (.load false 1 (.t 23)), (some (16, false))⟩, ⟨(some 25), (.len 2 (.t 24)), (some (16, false))⟩, ⟨(some 26), (.bin .geq 0 (.t 20) (.t 25)), (some (16, false))⟩, (oA 27 (.pick (.t 16) (.k (.v (.c (.p (.bool true))))) (.t 26))), (oA 10 (.mv (.t 27)))] []) (.cond (.t 10) (.seq (.reg [(oA 28 (.build [(.p (.int .i64 0)), (.p (.bool false)), (.p (.int .i64 0)), (.p (.str [])), (.p .nilslice), (.p .nilslice)] [])), (oN (.store 6 (.t 2) (.t 28))), (oA 3 (.mv (.k (.v (.c (.p (.int .i64 32)))))))] []) .ret) .skip))))) (.seq (.reg [(oA 29 (.mv (.t 0))), (oA 30 (.iaddr 6 (.t 29) (.k (.v (.c (.p (.int .i64 0))))))), (oA 31 (.faddr 5 (.t 30))), (oA 32 (.load false 1 (.t 31))), (oA 33 (.mv (.t 0))), (oA 34 (.iaddr 6 (.t 33) (.k (.v (.c (.p (.int .i64 1))))))), (oA 35 (.faddr 2 (.t 34))), (oA 36 (.load false 1 (.t 35))), (oA 37 (.iaddr 6 (.t 32) (.t 36))), (oA 38 (.load true 6 (.t 37))), (oA 39 (.call (.k (.v (.c (.func 37 [])))) [(.t 38)])), (oN (.store 6 (.t 2) (.t 39))), (oA 3 (.mv (.k (.v (.c (.p (.int .i64 0)))))))] []) .ret))) }
theorem t33 : compF Tryd.prog (globs2 tabs opq) (fun _ => false) true Tryd.f33 = some c33.erase := by kernel_rfl
noncomputable def b33_0 (O : Oracle) (R : Jump) (q : Nat) (x0 : TVal) (h : Heap) : Res1 :=
 vop O (.alloc [(.p (.int .i64 0)), (.p (.bool false)), (.p (.int .i64 0)), (.p (.str [])), (.p .nilslice), (.p .nilslice)] false) h 2 fun x2 h =>
 vop O (.bslice 1 2 [(.p (.int .i64 0))] [(0, (.k (kI 4))), (1, (.k (kI 2)))] false) h 6 fun x6 h =>
 vcall O (.v (.c (.func 34 []))) [x0, x6] h 7 fun x7 h =>
 vop O (.un .not (.k x7)) h 8 fun x8 h =>
 vif x8 (
 vop O (.build [(.p (.int .i64 0)), (.p (.bool false)), (.p (.int .i64 0)), (.p (.str [])), (.p .nilslice), (.p .nilslice)] []) h 9 fun x9 h =>
 vstore 6 x2 x9 h fun _ h =>
 vcell true 6 x2 h fun c0 => tcomp (kI 17) fun c1 => vfin true q [c0, c1] h)
 (viaddr 6 x0 (kI 1) h fun x12 h =>
 vfaddr 2 x12 h fun x13 h =>
 vload false 1 x13 h fun x14 h =>
 vbin .lss 0 x14 (kI 0) h fun x15 h =>
 vguard x15 false (fun kk => kk x0 h) h fun x17 h =>
 vguard x15 false (fun kk => viaddr 6 x17 (kI 1) h kk) h fun x18 h =>
 vguard x15 false (fun kk => vfaddr 2 x18 h kk) h fun x19 h =>
 vguard x15 false (fun kk => vload false 1 x19 h kk) h fun x20 h =>
 vguard x15 false (fun kk => kk x0 h) h fun x21 h =>
 vguard x15 false (fun kk => viaddr 6 x21 (kI 0) h kk) h fun x22 h =>
 vguard x15 false (fun kk => vfaddr 5 x22 h kk) h fun x23 h =>
 vguard x15 false (fun kk => vload false 1 x23 h kk) h fun x24 h =>
 vguard x15 false (fun kk => vlen O 2 x24 h 25 kk) h fun x25 h =>
 vguard x15 false (fun kk => vbin .geq 0 x20 x25 h kk) h fun x26 h =>
 vop O (.pick (.k x15) (.k (kB true)) (.k x26)) h 27 fun x27 h =>
 vif x27 (
 vop O (.build [(.p (.int .i64 0)), (.p (.bool false)), (.p (.int .i64 0)), (.p (.str [])), (.p .nilslice), (.p .nilslice)] []) h 28 fun x28 h =>
 vstore 6 x2 x28 h fun _ h =>
 vcell true 6 x2 h fun c0 => tcomp (kI 32) fun c1 => vfin true q [c0, c1] h)
 (viaddr 6 x0 (kI 0) h fun x30 h =>
 vfaddr 5 x30 h fun x31 h =>
 vload false 1 x31 h fun x32 h =>
 viaddr 6 x0 (kI 1) h fun x34 h =>
 vfaddr 2 x34 h fun x35 h =>
 vload false 1 x35 h fun x36 h =>
 viaddr 6 x32 x36 h fun x37 h =>
 vload true 6 x37 h fun x38 h =>
 vcall O (.v (.c (.func 37 []))) [x38] h 39 fun x39 h =>
 vstore 6 x2 x39 h fun _ h =>
 vcell true 6 x2 h fun c0 => tcomp (kI 0) fun c1 => vfin true q [c0, c1] h))
theorem e33_0 (O : Oracle) (R : Jump) (q : Nat) (x0 : TVal) (h : Heap) : b33_0 O R q x0 h = stepF c33 O R q 0 [x0] h := by kernel_rfl
noncomputable def d33 : BlkF := fun O R q => [.s fun y0 => .z fun h => b33_0 O R q y0 h]
theorem o33 (O : Oracle) (R : Jump) (q : Nat) : HoldsAll c33 O R q 0 (d33 O R q) := ⟨fun y0 h => e33_0 O R q y0 h, trivial⟩
/- sprue/calls.are -/
def c34 : MFunc := { np := 2, res := [.t 4], frz := true, body := (.seq (.reg [(oA 4 (.mv (.k (.v (.c (.p (.bool false)))))))] []) (.seq (.seq (.reg [(oA 7 (.mv (.t 1))), (oA 8 (.len 2 (.t 7))), (oA 9 (.mv (.k (.v (.c (.p (.int .i64 0)))))))] []) (.block 0 (.loop 1 [0, 7, 8, 9] (.seq (.reg [(oA 10 (.bin .lss 0 (.t 9) (.t 8)))] []) (.seq (.cond (.t 10) .skip (.exit 0)) (.seq (.block 1 (.seq (.reg [(oA 11 (.mv (.t 9))), (oA 12 (.iaddr 1 (.t 7) (.t 9))), (oA 13 (.load false 1 (.t 12))), (oA 5 (.mv (.t 11))), (oA 6 (.mv (.t 13)))] []) (.seq (.reg [(oA 14 (.mv (.t 0))), (oA 15 (.mv (.t 5))), (oA 16 (.iaddr 6 (.t 14) (.t 15))), (oA 17 (.faddr 0 (.t 16))), (oA 18 (.load false 1 (.t 17))), (oA 19 (.mv (.t 6))), (oA 20 (.bin .neq 0 (.t 18) (.t 19)))] []) (.cond (.t 20) (.seq (.reg [(oA 4 (.mv (.k (.v (.c (.p (.bool false)))))))] []) .ret) .skip)))) (.reg [(oA 21 (.bin .add 0 (.t 9) (.k (.v (.c (.p (.int .i64 1))))))), (oA 9 (.mv (.t 21)))] []))))))) (.seq (.reg [(oA 4 (.mv (.k (.v (.c (.p (.bool true)))))))] []) .ret))) }
theorem t34 : compF Tryd.prog (globs2 tabs opq) (fun _ => false) true Tryd.f34 = some c34.erase := by kernel_rfl
noncomputable def b34_0 (O : Oracle) (R : Jump) (q : Nat) (x0 x1 : TVal) (h : Heap) : Res1 :=
 vlen O 2 x1 h 8 fun x8 h =>
 R 1 [x0, x1, x8, (kI 0)] h
theorem e34_0 (O : Oracle) (R : Jump) (q : Nat) (x0 x1 : TVal) (h : Heap) : b34_0 O R q x0 x1 h = stepF c34 O R q 0 [x0, x1] h := by kernel_rfl
noncomputable def b34_1 (O : Oracle) (R : Jump) (q : Nat) (x0 x7 x8 x9 : TVal) (h : Heap) : Res1 :=
 vbin .lss 0 x9 x8 h fun x10 h =>
 vif x10 (
 viaddr 1 x7 x9 h fun x12 h =>
 vload false 1 x12 h fun x13 h =>
 viaddr 6 x0 x9 h fun x16 h =>
 vfaddr 0 x16 h fun x17 h =>
 vload false 1 x17 h fun x18 h =>
 vbin .neq 0 x18 x13 h fun x20 h =>
 vif x20 (
 tcomp (kB false) fun c0 => vfin true q [c0] h)
 (vbin .add 0 x9 (kI 1) h fun x21 h =>
 R 1 [x0, x7, x8, x21] h))
 (tcomp (kB true) fun c0 => vfin true q [c0] h)
theorem e34_1 (O : Oracle) (R : Jump) (q : Nat) (x0 x7 x8 x9 : TVal) (h : Heap) : b34_1 O R q x0 x7 x8 x9 h = stepF c34 O R q 1 [x0, x7, x8, x9] h := by kernel_rfl
noncomputable def d34 : BlkF := fun O R q => [.s fun y0 => .s fun y1 => .z fun h => b34_0 O R q y0 y1 h, .s fun y0 => .s fun y1 => .s fun y2 => .s fun y3 => .z fun h => b34_1 O R q y0 y1 y2 y3 h]
theorem o34 (O : Oracle) (R : Jump) (q : Nat) : HoldsAll c34 O R q 0 (d34 O R q) := ⟨fun y0 y1 h => e34_0 O R q y0 y1 h, fun y0 y1 y2 y3 h => e34_1 O R q y0 y1 y2 y3 h, trivial⟩
/- sprue/data.Get -/
def c35 : MFunc := { np := 2, res := [.cell 4 true 6, .t 5], frz := true, body := (.seq (.reg [(oA 2 (.box (.t 0) false)), (oA 4 (.alloc [(.p (.int .i64 0)), (.p (.bool false)), (.p (.int .i64 0)), (.p (.str [])), (.p .nilslice), (.p .nilslice)] false)), (oA 5 (.mv (.k (.v (.c (.p (.bool false)))))))] []) (.seq (.reg [(oA 7 (.faddr 4 (.t 2))), (oA 8 (.load false 1 (.t 7))), (oA 9 (.mv (.t 1))), (oA 10 (.call (.k (.v (.c (.func 57 [])))) [(.t 8), (.t 9)])), (oA 6 (.mv (.t 10)))] []) (.seq (.seq (.reg [(oA 11 (.faddr 0 (.t 2))), (oA 12 (.load false 1 (.t 11))), (oA 13 (.bin .neq 0 (.t 12) (.k (.v (.c (.p (.int .i64 5))))))), (oA 14 (.mv (.t 13))), ⟨(some 15), (.mv (.t 6)), (some (14, false))⟩, ⟨(some 16), (.bin .lss 0 (.t 15) (.k (.v (.c (.p (.int .i64 0)))))), (some (14, false))⟩, (oA 17 (.pick (.t 14) (.k (.v (.c (.p (.bool true))))) (.t 16))), (oA 18 (.mv (.t 17))), ⟨(some 19), (.mv (.t 6)), (some (18, false))⟩, ⟨(some 20), (.faddr 5 (.t 2)), (some (18, false))⟩, ⟨(some 21), (.load false 1 (.t 20)), (some (18, false))⟩, ⟨(some 22), (.len 2 (.t 21)), (some (18, false))⟩, ⟨(some 23), (.bin .geq 0 (.t 19) (.t 22)), (some (18, false))⟩, (oA 24 (.pick (.t 18) (.k (.v (.c (.p (.bool true))))) (.t 23)))] []) (.cond (.t 24) (.seq (.reg [(oA 25 (.build [(.p (.int .i64 0)), (.p (.bool false)), (.p (.int .i64 0)), (.p (.str [])), (.p .nilslice), (.p .nilslice)] [])), (oN (.store 6 (.t 4) (.t 25))), (oA 5 (.mv (.k (.v (.c (.p (.bool false)))))))] []) .ret) .skip)) (.seq (.reg [(oA 26 (.faddr 5 (.t 2))), (oA 27 (.load false 1 (.t 26))), (oA 28 (.mv (.t 6))), (oA 29 (.iaddr 6 (.t 27) (.t 28))), (oA 30 (.load true 6 (.t 29))), (oA 31 (.call (.k (.v (.c (.func 58 [])))) [(.t 30)])), (oN (.store 6 (.t 4) (.t 31))), (oA 5 (.mv (.k (.v (.c (.p (.bool true)))))))] []) .ret)))) }
theorem t35 : compF Tryd.prog (globs2 tabs opq) (fun _ => false) true Tryd.f35 = some c35.erase := by kernel_rfl
noncomputable def b35_0 (O : Oracle) (R : Jump) (q : Nat) (x0 x1 : TVal) (h : Heap) : Res1 :=
 vop O (.box (.k x0) false) h 2 fun x2 h =>
 vop O (.alloc [(.p (.int .i64 0)), (.p (.bool false)), (.p (.int .i64 0)), (.p (.str [])), (.p .nilslice), (.p .nilslice)] false) h 4 fun x4 h =>
 vfaddr 4 x2 h fun x7 h =>
 vload false 1 x7 h fun x8 h =>
 vcall O (.v (.c (.func 57 []))) [x8, x1] h 10 fun x10 h =>
 vfaddr 0 x2 h fun x11 h =>
 vload false 1 x11 h fun x12 h =>
 vbin .neq 0 x12 (kI 5) h fun x13 h =>
 vguard x13 false (fun kk => kk x10 h) h fun x15 h =>
 vguard x13 false (fun kk => vbin .lss 0 x15 (kI 0) h kk) h fun x16 h =>
 vop O (.pick (.k x13) (.k (kB true)) (.k x16)) h 17 fun x17 h =>
 vguard x17 false (fun kk => kk x10 h) h fun x19 h =>
 vguard x17 false (fun kk => vfaddr 5 x2 h kk) h fun x20 h =>
 vguard x17 false (fun kk => vload false 1 x20 h kk) h fun x21 h =>
 vguard x17 false (fun kk => vlen O 2 x21 h 22 kk) h fun x22 h =>
 vguard x17 false (fun kk => vbin .geq 0 x19 x22 h kk) h fun x23 h =>
 vop O (.pick (.k x17) (.k (kB true)) (.k x23)) h 24 fun x24 h =>
 vif x24 (
 vop O (.build [(.p (.int .i64 0)), (.p (.bool false)), (.p (.int .i64 0)), (.p (.str [])), (.p .nilslice), (.p .nilslice)] []) h 25 fun x25 h =>
 vstore 6 x4 x25 h fun _ h =>
 vcell true 6 x4 h fun c0 => tcomp (kB false) fun c1 => vfin true q [c0, c1] h)
 (vfaddr 5 x2 h fun x26 h =>
 vload false 1 x26 h fun x27 h =>
 viaddr 6 x27 x10 h fun x29 h =>
 vload true 6 x29 h fun x30 h =>
 vcall O (.v (.c (.func 58 []))) [x30] h 31 fun x31 h =>
 vstore 6 x4 x31 h fun _ h =>
 vcell true 6 x4 h fun c0 => tcomp (kB true) fun c1 => vfin true q [c0, c1] h)
theorem e35_0 (O : Oracle) (R : Jump) (q : Nat) (x0 x1 : TVal) (h : Heap) : b35_0 O R q x0 x1 h = stepF c35 O R q 0 [x0, x1] h := by kernel_rfl
noncomputable def d35 : BlkF := fun O R q => [.s fun y0 => .s fun y1 => .z fun h => b35_0 O R q y0 y1 h]
theorem o35 (O : Oracle) (R : Jump) (q : Nat) : HoldsAll c35 O R q 0 (d35 O R q) := ⟨fun y0 y1 h => e35_0 O R q y0 y1 h, trivial⟩
/- sprue/calls.truth -/
def c36 : MFunc := { np := 1, res := [.cell 2 true 6], frz := true, body := (.seq (.reg [(oA 2 (.alloc [(.p (.int .i64 0)), (.p (.bool false)), (.p (.int .i64 0)), (.p (.str [])), (.p .nilslice), (.p .nilslice)] false))] []) (.seq (.reg [(oA 3 (.mv (.t 0))), (oA 4 (.build [(.p (.int .i64 0)), (.p (.bool false)), (.p (.int .i64 0)), (.p (.str [])), (.p .nilslice), (.p .nilslice)] [(0, 1, (.k (.v (.c (.p (.int .i64 1)))))), (1, 1, (.t 3))])), (oN (.store 6 (.t 2) (.t 4)))] []) .ret)) }
theorem t36 : compF Tryd.prog (globs2 tabs opq) (fun _ => false) true Tryd.f36 = some c36.erase := by kernel_rfl
noncomputable def b36_0 (O : Oracle) (R : Jump) (q : Nat) (x0 : TVal) (h : Heap) : Res1 :=
 vop O (.alloc [(.p (.int .i64 0)), (.p (.bool false)), (.p (.int .i64 0)), (.p (.str [])), (.p .nilslice), (.p .nilslice)] false) h 2 fun x2 h =>
 vop O (.build [(.p (.int .i64 0)), (.p (.bool false)), (.p (.int .i64 0)), (.p (.str [])), (.p .nilslice), (.p .nilslice)] [(0, 1, (.k (kI 1))), (1, 1, (.k x0))]) h 4 fun x4 h =>
 vstore 6 x2 x4 h fun _ h =>
 vcell true 6 x2 h fun c0 => vfin true q [c0] h
theorem e36_0 (O : Oracle) (R : Jump) (q : Nat) (x0 : TVal) (h : Heap) : b36_0 O R q x0 h = stepF c36 O R q 0 [x0] h := by kernel_rfl
noncomputable def d36 : BlkF := fun O R q => [.s fun y0 => .z fun h => b36_0 O R q y0 h]
theorem o36 (O : Oracle) (R : Jump) (q : Nat) : HoldsAll c36 O R q 0 (d36 O R q) := ⟨fun y0 h => e36_0 O R q y0 h, trivial⟩
/- sprue/calls.own -/
def c37 : MFunc := { np := 1, res := [.cell 2 true 6], frz := true, body := (.seq (.reg [(oA 1 (.box (.t 0) false)), (oA 2 (.alloc [(.p (.int .i64 0)), (.p (.bool false)), (.p (.int .i64 0)), (.p (.str [])), (.p .nilslice), (.p .nilslice)] false))] []) (.seq (.reg [(oA 6 (.bslice 1 1 [(.p (.str []))] [(0, (.k (.v (.c (.p (.str []))))))] false)), (oA 7 (.load true 6 (.t 1))), (oA 8 (.bslice 6 1 [(.p (.int .i64 0)), (.p (.bool false)), (.p (.int .i64 0)), (.p (.str [])), (.p .nilslice), (.p .nilslice)] [(0, (.t 7))] false)), (oA 9 (.build [(.p (.int .i64 0)), (.p (.bool false)), (.p (.int .i64 0)), (.p (.str [])), (.p .nilslice), (.p .nilslice)] [(0, 1, (.k (.v (.c (.p (.int .i64 5)))))), (4, 1, (.t 6)), (5, 1, (.t 8))])), (oA 10 (.call (.k (.v (.c (.func 35 [])))) [(.t 9), (.k (.v (.c (.p (.str [])))))])), (oA 5 (.mv (.t 10))), (oA 11 (.extract (.t 5) 0)), (oA 12 (.extract (.t 5) 1)), (oA 3 (.alloc [(.p (.int .i64 0)), (.p (.bool false)), (.p (.int .i64 0)), (.p (.str [])), (.p .nilslice), (.p .nilslice)] false)), (oN (.store 6 (.t 3) (.t 11))), (oA 4 (.mv (.t 12)))] []) (.seq (.reg [(oA 13 (.load true 6 (.t 3))), (oN (.store 6 (.t 2) (.t 13)))] []) .ret))) }
theorem t37 : compF Tryd.prog (globs2 tabs opq) (fun _ => false) true Tryd.f37 = some c37.erase := by kernel_rfl
noncomputable def b37_0 (O : Oracle) (R : Jump) (q : Nat) (x0 : TVal) (h : Heap) : Res1 :=
 vop O (.box (.k x0) false) h 1 fun x1 h =>
 vop O (.alloc [(.p (.int .i64 0)), (.p (.bool false)), (.p (.int .i64 0)), (.p (.str [])), (.p .nilslice), (.p .nilslice)] false) h 2 fun x2 h =>
 vop O (.bslice 1 1 [(.p (.str []))] [(0, (.k (kS [])))] false) h 6 fun x6 h =>
 vload true 6 x1 h fun x7 h =>
 vop O (.bslice 6 1 [(.p (.int .i64 0)), (.p (.bool false)), (.p (.int .i64 0)), (.p (.str [])), (.p .nilslice), (.p .nilslice)] [(0, (.k x7))] false) h 8 fun x8 h =>
 vop O (.build [(.p (.int .i64 0)), (.p (.bool false)), (.p (.int .i64 0)), (.p (.str [])), (.p .nilslice), (.p .nilslice)] [(0, 1, (.k (kI 5))), (4, 1, (.k x6)), (5, 1, (.k x8))]) h 9 fun x9 h =>
 vcall O (.v (.c (.func 35 []))) [x9, (kS [])] h 10 fun x10 h =>
 vext x10 0 h fun x11 h =>
 vext x10 1 h fun x12 h =>
 vop O (.alloc [(.p (.int .i64 0)), (.p (.bool false)), (.p (.int .i64 0)), (.p (.str [])), (.p .nilslice), (.p .nilslice)] false) h 3 fun x3 h =>
 vstore 6 x3 x11 h fun _ h =>
 vload true 6 x3 h fun x13 h =>
 vstore 6 x2 x13 h fun _ h =>
 vcell true 6 x2 h fun c0 => vfin true q [c0] h
theorem e37_0 (O : Oracle) (R : Jump) (q : Nat) (x0 : TVal) (h : Heap) : b37_0 O R q x0 h = stepF c37 O R q 0 [x0] h := by kernel_rfl
noncomputable def d37 : BlkF := fun O R q => [.s fun y0 => .z fun h => b37_0 O R q y0 h]
theorem o37 (O : Oracle) (R : Jump) (q : Nat) : HoldsAll c37 O R q 0 (d37 O R q) := ⟨fun y0 h => e37_0 O R q y0 h, trivial⟩
/- sprue/calls.numbers -/
def c38 : MFunc := { np := 2, res := [.cell 4 true 6, .t 5], frz := true, body := (.seq (.reg [(oA 4 (.alloc [(.p (.int .i64 0)), (.p (.bool false)), (.p (.int .i64 0)), (.p (.str [])), (.p .nilslice), (.p .nilslice)] false)), (oA 5 (.mv (.k (.v (.c (.p (.int .i64 0)))))))] []) (.seq (.seq (.reg [(oA 6 (.mv (.t 1))), (oA 7 (.call (.k (.v (.c (.func 52 [])))) [(.t 6), (.k (.v (.c (.func 59 []))))]))] []) (.cond (.t 7) (.seq (.reg [(oA 8 (.build [(.p (.int .i64 0)), (.p (.bool false)), (.p (.int .i64 0)), (.p (.str [])), (.p .nilslice), (.p .nilslice)] [])), (oN (.store 6 (.t 4) (.t 8))), (oA 5 (.mv (.k (.v (.c (.p (.int .i64 17)))))))] []) .ret) .skip)) (.seq (.block 0 (.seq (.reg [(oA 10 (.mv (.t 1))), (oA 11 (.len 2 (.t 10))), (oA 12 (.bin .eql 0 (.t 11) (.k (.v (.c (.p (.int .i64 1))))))), (oA 9 (.mv (.t 12)))] []) (.cond (.t 9) (.seq (.reg [(oA 13 (.mv (.t 0))), (oA 14 (.mv (.t 1))), (oA 15 (.iaddr 6 (.t 14) (.k (.v (.c (.p (.int .i64 0))))))), (oA 16 (.faddr 2 (.t 15))), (oA 17 (.load false 1 (.t 16))), (oA 18 (.call (.k (.v (.c (.func 60 [])))) [(.t 13), (.t 17)])), (oA 19 (.call (.k (.v (.c (.func 51 [])))) [(.t 18)])), (oN (.store 6 (.t 4) (.t 19))), (oA 5 (.mv (.k (.v (.c (.p (.int .i64 0)))))))] []) .ret) (.seq (.reg [(oA 21 (.mv (.t 0))), (oA 22 (.bin .eql 0 (.t 21) (.k (.v (.c (.p (.str [108, 116]))))))), (oA 20 (.mv (.t 22)))] []) (.cond (.t 20) (.seq (.reg [(oA 23 (.mv (.t 1))), (oA 24 (.iaddr 6 (.t 23) (.k (.v (.c (.p (.int .i64 0))))))), (oA 25 (.faddr 2 (.t 24))), (oA 26 (.load false 1 (.t 25))), (oA 27 (.mv (.t 1))), (oA 28 (.iaddr 6 (.t 27) (.k (.v (.c (.p (.int .i64 1))))))), (oA 29 (.faddr 2 (.t 28))), (oA 30 (.load false 1 (.t 29))), (oA 31 (.bin .lss 0 (.t 26) (.t 30))), (oA 32 (.call (.k (.v (.c (.func 36 [])))) [(.t 31)])), (oN (.store 6 (.t 4) (.t 32))), (oA 5 (.mv (.k (.v (.c (.p (.int .i64 0)))))))] []) .ret) .skip))))) (.seq (.reg [(oA 33 (.mv (.t 0))), (oA 34 (.mv (.t 1))), (oA 35 (.iaddr 6 (.t 34) (.k (.v (.c (.p (.int .i64 0))))))), (oA 36 (.faddr 2 (.t 35))), (oA 37 (.load false 1 (.t 36))), (oA 38 (.mv (.t 1))), (oA 39 (.iaddr 6 (.t 38) (.k (.v (.c (.p (.int .i64 1))))))), (oA 40 (.faddr 2 (.t 39))), (oA 41 (.load false 1 (.t 40))), (oA 42 (.call (.k (.v (.c (.func 61 [])))) [(.t 33), (.t 37), (.t 41)])), (oA 43 (.call (.k (.v (.c (.func 51 [])))) [(.t 42)])), (oN (.store 6 (.t 4) (.t 43))), (oA 5 (.mv (.k (.v (.c (.p (.int .i64 0)))))))] []) .ret)))) }
theorem t38 : compF Tryd.prog (globs2 tabs opq) (fun _ => false) true Tryd.f38 = some c38.erase := by kernel_rfl
noncomputable def b38_0 (O : Oracle) (R : Jump) (q : Nat) (x0 x1 : TVal) (h : Heap) : Res1 :=
 vop O (.alloc [(.p (.int .i64 0)), (.p (.bool false)), (.p (.int .i64 0)), (.p (.str [])), (.p .nilslice), (.p .nilslice)] false) h 4 fun x4 h =>
 vcall O (.v (.c (.func 52 []))) [x1, (.v (.c (.func 59 [])))] h 7 fun x7 h =>
 vif x7 (
 vop O (.build [(.p (.int .i64 0)), (.p (.bool false)), (.p (.int .i64 0)), (.p (.str [])), (.p .nilslice), (.p .nilslice)] []) h 8 fun x8 h =>
 vstore 6 x4 x8 h fun _ h =>
 vcell true 6 x4 h fun c0 => tcomp (kI 17) fun c1 => vfin true q [c0, c1] h)
 (vlen O 2 x1 h 11 fun x11 h =>
 vbin .eql 0 x11 (kI 1) h fun x12 h =>
 vif x12 (
 viaddr 6 x1 (kI 0) h fun x15 h =>
 vfaddr 2 x15 h fun x16 h =>
 vload false 1 x16 h fun x17 h =>
 vcall O (.v (.c (.func 60 []))) [x0, x17] h 18 fun x18 h =>
 vcall O (.v (.c (.func 51 []))) [x18] h 19 fun x19 h =>
 vstore 6 x4 x19 h fun _ h =>
 vcell true 6 x4 h fun c0 => tcomp (kI 0) fun c1 => vfin true q [c0, c1] h)
 (vbin .eql 0 x0 (kS [108, 116]) h fun x22 h =>
 vif x22 (
 viaddr 6 x1 (kI 0) h fun x24 h =>
 vfaddr 2 x24 h fun x25 h =>
 vload false 1 x25 h fun x26 h =>
 viaddr 6 x1 (kI 1) h fun x28 h =>
 vfaddr 2 x28 h fun x29 h =>
 vload false 1 x29 h fun x30 h =>
 vbin .lss 0 x26 x30 h fun x31 h =>
 vcall O (.v (.c (.func 36 []))) [x31] h 32 fun x32 h =>
 vstore 6 x4 x32 h fun _ h =>
 vcell true 6 x4 h fun c0 => tcomp (kI 0) fun c1 => vfin true q [c0, c1] h)
 (viaddr 6 x1 (kI 0) h fun x35 h =>
 vfaddr 2 x35 h fun x36 h =>
 vload false 1 x36 h fun x37 h =>
 viaddr 6 x1 (kI 1) h fun x39 h =>
 vfaddr 2 x39 h fun x40 h =>
 vload false 1 x40 h fun x41 h =>
 vcall O (.v (.c (.func 61 []))) [x0, x37, x41] h 42 fun x42 h =>
 vcall O (.v (.c (.func 51 []))) [x42] h 43 fun x43 h =>
 vstore 6 x4 x43 h fun _ h =>
 vcell true 6 x4 h fun c0 => tcomp (kI 0) fun c1 => vfin true q [c0, c1] h)))
theorem e38_0 (O : Oracle) (R : Jump) (q : Nat) (x0 x1 : TVal) (h : Heap) : b38_0 O R q x0 x1 h = stepF c38 O R q 0 [x0, x1] h := by kernel_rfl
noncomputable def d38 : BlkF := fun O R q => [.s fun y0 => .s fun y1 => .z fun h => b38_0 O R q y0 y1 h]
theorem o38 (O : Oracle) (R : Jump) (q : Nat) : HoldsAll c38 O R q 0 (d38 O R q) := ⟨fun y0 y1 h => e38_0 O R q y0 y1 h, trivial⟩
/- slices.Clone[[]sprue/api.Value,sprue/api.Value] -/
def c46 : MFunc := { np := 1, res := [.t 2], frz := false, body := (.seq (.reg [(oA 2 (.mv (.k (.v (.c (.p .nilslice))))))] []) (.seq (.seq (.reg [(oA 3 (.mv (.t 0))), (oA 4 (.bin .eql 2 (.t 3) (.k (.v (.c (.p .nilslice))))))] []) (.cond (.t 4) (.seq (.reg [(oA 2 (.mv (.k (.v (.c (.p .nilslice))))))] []) .ret) .skip)) (.seq (.reg [(oA 5 (.bslice 6 0 [(.p (.int .i64 0)), (.p (.bool false)), (.p (.int .i64 0)), (.p (.str [])), (.p .nilslice), (.p .nilslice)] [] true)), (oA 6 (.mv (.t 0))), (oA 7 (.append 6 88 true (.t 5) (.t 6))), (oA 2 (.mv (.t 7)))] []) .ret))) }
theorem t46 : compF Tryd.prog (globs2 tabs opq) (fun _ => true) false Tryd.f46 = some c46.erase := by kernel_rfl
noncomputable def b46_0 (O : Oracle) (R : Jump) (q : Nat) (x0 : TVal) (h : Heap) : Res1 :=
 vbin .eql 2 x0 (.v (.c (.p .nilslice))) h fun x4 h =>
 vif x4 (
 tcomp (.v (.c (.p .nilslice))) fun c0 => vfin false q [c0] h)
 (vop O (.bslice 6 0 [(.p (.int .i64 0)), (.p (.bool false)), (.p (.int .i64 0)), (.p (.str [])), (.p .nilslice), (.p .nilslice)] [] true) h 5 fun x5 h =>
 vop O (.append 6 88 true (.k x5) (.k x0)) h 7 fun x7 h =>
 tcomp x7 fun c0 => vfin false q [c0] h)
theorem e46_0 (O : Oracle) (R : Jump) (q : Nat) (x0 : TVal) (h : Heap) : b46_0 O R q x0 h = stepF c46 O R q 0 [x0] h := by kernel_rfl
noncomputable def d46 : BlkF := fun O R q => [.s fun y0 => .z fun h => b46_0 O R q y0 h]
theorem o46 (O : Oracle) (R : Jump) (q : Nat) : HoldsAll c46 O R q 0 (d46 O R q) := ⟨fun y0 h => e46_0 O R q y0 h, trivial⟩
/- sprue/scan.Ident -/
def c49 : MFunc := { np := 1, res := [.t 2], frz := true, body := (.seq (.reg [(oA 2 (.mv (.k (.v (.c (.p (.bool false)))))))] []) (.seq (.reg [(oA 3 (.mv (.t 0))), (oA 4 (.bin .neq 0 (.t 3) (.k (.v (.c (.p (.str []))))))), (oA 5 (.mv (.t 4))), ⟨(some 6), (.mv (.t 0)), (some (5, true))⟩, ⟨(some 7), (.len 0 (.t 6)), (some (5, true))⟩, ⟨(some 8), (.bin .leq 0 (.t 7) (.k (.v (.c (.p (.int .i64 16)))))), (some (5, true))⟩, (oA 9 (.pick (.t 5) (.t 8) (.k (.v (.c (.p (.bool false))))))), (oA 10 (.mv (.t 9))), ⟨(some 11), (.mv (.t 0)), (some (10, true))⟩, ⟨(some 12), (.index (.t 11) (.k (.v (.c (.p (.int .i64 0)))))), (some (10, true))⟩, ⟨(some 13), (.call (.k (.v (.c (.func 69 [])))) [(.t 12)]), (some (10, true))⟩, ⟨(some 14), (.un .not (.t 13)), (some (10, true))⟩, (oA 15 (.pick (.t 10) (.t 14) (.k (.v (.c (.p (.bool false))))))), (oA 16 (.mv (.t 15))), ⟨(some 17), (.mv (.t 0)), (some (16, true))⟩, ⟨(some 18), (.call (.k (.v (.c (.func 70 [])))) [(.t 17)]), (some (16, true))⟩, ⟨(some 19), (.mv (.t 0)), (some (16, true))⟩, ⟨(some 20), (.len 0 (.t 19)), (some (16, true))⟩, ⟨(some 21), (.bin .eql 0 (.t 18) (.t 20)), (some (16, true))⟩, (oA 22 (.pick (.t 16) (.t 21) (.k (.v (.c (.p (.bool false))))))), (oA 2 (.mv (.t 22)))] []) .ret)) }
theorem t49 : compF Tryd.prog (globs2 tabs opq) (fun _ => false) true Tryd.f49 = some c49.erase := by kernel_rfl
noncomputable def b49_0 (O : Oracle) (R : Jump) (q : Nat) (x0 : TVal) (h : Heap) : Res1 :=
 vbin .neq 0 x0 (kS []) h fun x4 h =>
 vguard x4 true (fun kk => kk x0 h) h fun x6 h =>
 vguard x4 true (fun kk => vlen O 0 x6 h 7 kk) h fun x7 h =>
 vguard x4 true (fun kk => vbin .leq 0 x7 (kI 16) h kk) h fun x8 h =>
 vop O (.pick (.k x4) (.k x8) (.k (kB false))) h 9 fun x9 h =>
 vguard x9 true (fun kk => kk x0 h) h fun x11 h =>
 vguard x9 true (fun kk => vindex x11 (kI 0) h kk) h fun x12 h =>
 vguard x9 true (fun kk => vcall O (.v (.c (.func 69 []))) [x12] h 13 kk) h fun x13 h =>
 vguard x9 true (fun kk => vop O (.un .not (.k x13)) h 14 kk) h fun x14 h =>
 vop O (.pick (.k x9) (.k x14) (.k (kB false))) h 15 fun x15 h =>
 vguard x15 true (fun kk => kk x0 h) h fun x17 h =>
 vguard x15 true (fun kk => vcall O (.v (.c (.func 70 []))) [x17] h 18 kk) h fun x18 h =>
 vguard x15 true (fun kk => kk x0 h) h fun x19 h =>
 vguard x15 true (fun kk => vlen O 0 x19 h 20 kk) h fun x20 h =>
 vguard x15 true (fun kk => vbin .eql 0 x18 x20 h kk) h fun x21 h =>
 vop O (.pick (.k x15) (.k x21) (.k (kB false))) h 22 fun x22 h =>
 tcomp x22 fun c0 => vfin true q [c0] h
theorem e49_0 (O : Oracle) (R : Jump) (q : Nat) (x0 : TVal) (h : Heap) : b49_0 O R q x0 h = stepF c49 O R q 0 [x0] h := by kernel_rfl
noncomputable def d49 : BlkF := fun O R q => [.s fun y0 => .z fun h => b49_0 O R q y0 h]
theorem o49 (O : Oracle) (R : Jump) (q : Nat) : HoldsAll c49 O R q 0 (d49 O R q) := ⟨fun y0 h => e49_0 O R q y0 h, trivial⟩
/- strings.Contains -/
def c50 : MFunc := { np := 2, res := [.t 4], frz := true, body := (.seq (.reg [(oA 4 (.mv (.k (.v (.c (.p (.bool false)))))))] []) (.seq (.reg [(oA 5 (.mv (.t 0))), (oA 6 (.mv (.t 1))), (oA 7 (.call (.k (.v (.c (.func 71 [])))) [(.t 5), (.t 6)])), (oA 8 (.bin .geq 0 (.t 7) (.k (.v (.c (.p (.int .i64 0))))))), (oA 4 (.mv (.t 8)))] []) .ret)) }
theorem t50 : compF Tryd.prog (globs2 tabs opq) (fun _ => false) true Tryd.f50 = some c50.erase := by kernel_rfl
noncomputable def b50_0 (O : Oracle) (R : Jump) (q : Nat) (x0 x1 : TVal) (h : Heap) : Res1 :=
 vcall O (.v (.c (.func 71 []))) [x0, x1] h 7 fun x7 h =>
 vbin .geq 0 x7 (kI 0) h fun x8 h =>
 tcomp x8 fun c0 => vfin true q [c0] h
theorem e50_0 (O : Oracle) (R : Jump) (q : Nat) (x0 x1 : TVal) (h : Heap) : b50_0 O R q x0 x1 h = stepF c50 O R q 0 [x0, x1] h := by kernel_rfl
noncomputable def d50 : BlkF := fun O R q => [.s fun y0 => .s fun y1 => .z fun h => b50_0 O R q y0 y1 h]
theorem o50 (O : Oracle) (R : Jump) (q : Nat) : HoldsAll c50 O R q 0 (d50 O R q) := ⟨fun y0 y1 h => e50_0 O R q y0 y1 h, trivial⟩
/- sprue/calls.number -/
def c51 : MFunc := { np := 1, res := [.cell 2 true 6], frz := true, body := (.seq (.reg [(oA 2 (.alloc [(.p (.int .i64 0)), (.p (.bool false)), (.p (.int .i64 0)), (.p (.str [])), (.p .nilslice), (.p .nilslice)] false))] []) (.seq (.reg [(oA 3 (.mv (.t 0))), (oA 4 (.build [(.p (.int .i64 0)), (.p (.bool false)), (.p (.int .i64 0)), (.p (.str [])), (.p .nilslice), (.p .nilslice)] [(0, 1, (.k (.v (.c (.p (.int .i64 2)))))), (2, 1, (.t 3))])), (oN (.store 6 (.t 2) (.t 4)))] []) .ret)) }
theorem t51 : compF Tryd.prog (globs2 tabs opq) (fun _ => false) true Tryd.f51 = some c51.erase := by kernel_rfl
noncomputable def b51_0 (O : Oracle) (R : Jump) (q : Nat) (x0 : TVal) (h : Heap) : Res1 :=
 vop O (.alloc [(.p (.int .i64 0)), (.p (.bool false)), (.p (.int .i64 0)), (.p (.str [])), (.p .nilslice), (.p .nilslice)] false) h 2 fun x2 h =>
 vop O (.build [(.p (.int .i64 0)), (.p (.bool false)), (.p (.int .i64 0)), (.p (.str [])), (.p .nilslice), (.p .nilslice)] [(0, 1, (.k (kI 2))), (2, 1, (.k x0))]) h 4 fun x4 h =>
 vstore 6 x2 x4 h fun _ h =>
 vcell true 6 x2 h fun c0 => vfin true q [c0] h
theorem e51_0 (O : Oracle) (R : Jump) (q : Nat) (x0 : TVal) (h : Heap) : b51_0 O R q x0 h = stepF c51 O R q 0 [x0] h := by kernel_rfl
noncomputable def d51 : BlkF := fun O R q => [.s fun y0 => .z fun h => b51_0 O R q y0 h]
theorem o51 (O : Oracle) (R : Jump) (q : Nat) : HoldsAll c51 O R q 0 (d51 O R q) := ⟨fun y0 h => e51_0 O R q y0 h, trivial⟩
/- slices.ContainsFunc[[]sprue/api.Value,sprue/api.Value] -/
def c52 : MFunc := { np := 2, res := [.t 4], frz := true, body := (.seq (.reg [(oA 4 (.mv (.k (.v (.c (.p (.bool false)))))))] []) (.seq (.reg [(oA 5 (.mv (.t 0))), (oA 6 (.mv (.t 1))), (oA 7 (.call (.k (.v (.c (.func 72 [])))) [(.t 5), (.t 6)])), (oA 8 (.bin .geq 0 (.t 7) (.k (.v (.c (.p (.int .i64 0))))))), (oA 4 (.mv (.t 8)))] []) .ret)) }
theorem t52 : compF Tryd.prog (globs2 tabs opq) (fun _ => false) true Tryd.f52 = some c52.erase := by kernel_rfl
noncomputable def b52_0 (O : Oracle) (R : Jump) (q : Nat) (x0 x1 : TVal) (h : Heap) : Res1 :=
 vcall O (.v (.c (.func 72 []))) [x0, x1] h 7 fun x7 h =>
 vbin .geq 0 x7 (kI 0) h fun x8 h =>
 tcomp x8 fun c0 => vfin true q [c0] h
theorem e52_0 (O : Oracle) (R : Jump) (q : Nat) (x0 x1 : TVal) (h : Heap) : b52_0 O R q x0 x1 h = stepF c52 O R q 0 [x0, x1] h := by kernel_rfl
noncomputable def d52 : BlkF := fun O R q => [.s fun y0 => .s fun y1 => .z fun h => b52_0 O R q y0 y1 h]
theorem o52 (O : Oracle) (R : Jump) (q : Nat) : HoldsAll c52 O R q 0 (d52 O R q) := ⟨fun y0 y1 h => e52_0 O R q y0 y1 h, trivial⟩
/- sprue/calls.logic$1 -/
def c53 : MFunc := { np := 1, res := [.t 2], frz := true, body := (.seq (.reg [(oA 1 (.box (.t 0) false)), (oA 2 (.mv (.k (.v (.c (.p (.bool false)))))))] []) (.seq (.reg [(oA 3 (.faddr 0 (.t 1))), (oA 4 (.load false 1 (.t 3))), (oA 5 (.bin .neq 0 (.t 4) (.k (.v (.c (.p (.int .i64 1))))))), (oA 2 (.mv (.t 5)))] []) .ret)) }
theorem t53 : compF Tryd.prog (globs2 tabs opq) (fun _ => false) true Tryd.f53 = some c53.erase := by kernel_rfl
noncomputable def b53_0 (O : Oracle) (R : Jump) (q : Nat) (x0 : TVal) (h : Heap) : Res1 :=
 vop O (.box (.k x0) false) h 1 fun x1 h =>
 vfaddr 0 x1 h fun x3 h =>
 vload false 1 x3 h fun x4 h =>
 vbin .neq 0 x4 (kI 1) h fun x5 h =>
 tcomp x5 fun c0 => vfin true q [c0] h
theorem e53_0 (O : Oracle) (R : Jump) (q : Nat) (x0 : TVal) (h : Heap) : b53_0 O R q x0 h = stepF c53 O R q 0 [x0] h := by kernel_rfl
noncomputable def d53 : BlkF := fun O R q => [.s fun y0 => .z fun h => b53_0 O R q y0 h]
theorem o53 (O : Oracle) (R : Jump) (q : Nat) : HoldsAll c53 O R q 0 (d53 O R q) := ⟨fun y0 h => e53_0 O R q y0 h, trivial⟩
/- sprue/calls.text -/
def c54 : MFunc := { np := 1, res := [.cell 2 true 6], frz := true, body := (.seq (.reg [(oA 2 (.alloc [(.p (.int .i64 0)), (.p (.bool false)), (.p (.int .i64 0)), (.p (.str [])), (.p .nilslice), (.p .nilslice)] false))] []) (.seq (.reg [(oA 3 (.mv (.t 0))), (oA 4 (.build [(.p (.int .i64 0)), (.p (.bool false)), (.p (.int .i64 0)), (.p (.str [])), (.p .nilslice), (.p .nilslice)] [(0, 1, (.k (.v (.c (.p (.int .i64 3)))))), (3, 1, (.t 3))])), (oN (.store 6 (.t 2) (.t 4)))] []) .ret)) }
theorem t54 : compF Tryd.prog (globs2 tabs opq) (fun _ => false) true Tryd.f54 = some c54.erase := by kernel_rfl
noncomputable def b54_0 (O : Oracle) (R : Jump) (q : Nat) (x0 : TVal) (h : Heap) : Res1 :=
 vop O (.alloc [(.p (.int .i64 0)), (.p (.bool false)), (.p (.int .i64 0)), (.p (.str [])), (.p .nilslice), (.p .nilslice)] false) h 2 fun x2 h =>
 vop O (.build [(.p (.int .i64 0)), (.p (.bool false)), (.p (.int .i64 0)), (.p (.str [])), (.p .nilslice), (.p .nilslice)] [(0, 1, (.k (kI 3))), (3, 1, (.k x0))]) h 4 fun x4 h =>
 vstore 6 x2 x4 h fun _ h =>
 vcell true 6 x2 h fun c0 => vfin true q [c0] h
theorem e54_0 (O : Oracle) (R : Jump) (q : Nat) (x0 : TVal) (h : Heap) : b54_0 O R q x0 h = stepF c54 O R q 0 [x0] h := by kernel_rfl
noncomputable def d54 : BlkF := fun O R q => [.s fun y0 => .z fun h => b54_0 O R q y0 h]
theorem o54 (O : Oracle) (R : Jump) (q : Nat) : HoldsAll c54 O R q 0 (d54 O R q) := ⟨fun y0 h => e54_0 O R q y0 h, trivial⟩
/- strconv.FormatInt -/
def c55 : MFunc := { np := 2, res := [.t 4], frz := true, body := (.seq (.reg [(oA 4 (.mv (.k (.v (.c (.p (.str [])))))))] []) (.seq (.reg [(oA 5 (.mv (.t 0))), (oA 6 (.mv (.t 1))), (oA 7 (.call (.k (.v (.c (.func 73 [])))) [(.t 5), (.t 6)])), (oA 4 (.mv (.t 7)))] []) .ret)) }
theorem t55 : compF Tryd.prog (globs2 tabs opq) (fun _ => false) true Tryd.f55 = some c55.erase := by kernel_rfl
noncomputable def b55_0 (O : Oracle) (R : Jump) (q : Nat) (x0 x1 : TVal) (h : Heap) : Res1 :=
 vcall O (.v (.c (.func 73 []))) [x0, x1] h 7 fun x7 h =>
 tcomp x7 fun c0 => vfin true q [c0] h
theorem e55_0 (O : Oracle) (R : Jump) (q : Nat) (x0 x1 : TVal) (h : Heap) : b55_0 O R q x0 x1 h = stepF c55 O R q 0 [x0, x1] h := by kernel_rfl
noncomputable def d55 : BlkF := fun O R q => [.s fun y0 => .s fun y1 => .z fun h => b55_0 O R q y0 y1 h]
theorem o55 (O : Oracle) (R : Jump) (q : Nat) : HoldsAll c55 O R q 0 (d55 O R q) := ⟨fun y0 y1 h => e55_0 O R q y0 y1 h, trivial⟩
/- strconv.FormatBool -/
def c56 : MFunc := { np := 1, res := [.t 2], frz := true, body := (.seq (.reg [(oA 2 (.mv (.k (.v (.c (.p (.str [])))))))] []) (.seq (.reg [(oA 3 (.mv (.t 0))), (oA 4 (.call (.k (.v (.c (.func 74 [])))) [(.t 3)])), (oA 2 (.mv (.t 4)))] []) .ret)) }
theorem t56 : compF Tryd.prog (globs2 tabs opq) (fun _ => false) true Tryd.f56 = some c56.erase := by kernel_rfl
noncomputable def b56_0 (O : Oracle) (R : Jump) (q : Nat) (x0 : TVal) (h : Heap) : Res1 :=
 vcall O (.v (.c (.func 74 []))) [x0] h 4 fun x4 h =>
 tcomp x4 fun c0 => vfin true q [c0] h
theorem e56_0 (O : Oracle) (R : Jump) (q : Nat) (x0 : TVal) (h : Heap) : b56_0 O R q x0 h = stepF c56 O R q 0 [x0] h := by kernel_rfl
noncomputable def d56 : BlkF := fun O R q => [.s fun y0 => .z fun h => b56_0 O R q y0 h]
theorem o56 (O : Oracle) (R : Jump) (q : Nat) : HoldsAll c56 O R q 0 (d56 O R q) := ⟨fun y0 h => e56_0 O R q y0 h, trivial⟩
/- slices.Index[[]string,string] -/
def c57 : MFunc := { np := 2, res := [.t 4], frz := true, body := (.seq (.reg [(oA 4 (.mv (.k (.v (.c (.p (.int .i64 0)))))))] []) (.seq (.seq (.reg [(oA 6 (.mv (.t 0))), (oA 7 (.len 2 (.t 6))), (oA 8 (.mv (.k (.v (.c (.p (.int .i64 0)))))))] []) (.block 0 (.loop 1 [0, 1, 7, 8] (.seq (.reg [(oA 9 (.bin .lss 0 (.t 8) (.t 7)))] []) (.seq (.cond (.t 9) .skip (.exit 0)) (.seq (.block 1 (.seq (.reg [(oA 10 (.mv (.t 8))), (oA 5 (.mv (.t 10)))] []) (.seq (.reg [(oA 11 (.mv (.t 1))), (oA 12 (.mv (.t 0))), (oA 13 (.mv (.t 5))), (oA 14 (.iaddr 1 (.t 12) (.t 13))), (oA 15 (.load false 1 (.t 14))), (oA 16 (.bin .eql 0 (.t 11) (.t 15)))] []) (.cond (.t 16) (.seq (.reg [(oA 17 (.mv (.t 5))), (oA 4 (.mv (.t 17)))] []) .ret) .skip)))) (.reg [(oA 18 (.bin .add 0 (.t 8) (.k (.v (.c (.p (.int .i64 1))))))), (oA 8 (.mv (.t 18)))] []))))))) (.seq (.reg [(oA 4 (.mv (.k (.v (.c (.p (.int .i64 (-1))))))))] []) .ret))) }
theorem t57 : compF Tryd.prog (globs2 tabs opq) (fun _ => false) true Tryd.f57 = some c57.erase := by kernel_rfl
noncomputable def b57_0 (O : Oracle) (R : Jump) (q : Nat) (x0 x1 : TVal) (h : Heap) : Res1 :=
 vlen O 2 x0 h 7 fun x7 h =>
 R 1 [x0, x1, x7, (kI 0)] h
theorem e57_0 (O : Oracle) (R : Jump) (q : Nat) (x0 x1 : TVal) (h : Heap) : b57_0 O R q x0 x1 h = stepF c57 O R q 0 [x0, x1] h := by kernel_rfl
noncomputable def b57_1 (O : Oracle) (R : Jump) (q : Nat) (x0 x1 x7 x8 : TVal) (h : Heap) : Res1 :=
 vbin .lss 0 x8 x7 h fun x9 h =>
 vif x9 (
 viaddr 1 x0 x8 h fun x14 h =>
 vload false 1 x14 h fun x15 h =>
 vbin .eql 0 x1 x15 h fun x16 h =>
 vif x16 (
 tcomp x8 fun c0 => vfin true q [c0] h)
 (vbin .add 0 x8 (kI 1) h fun x18 h =>
 R 1 [x0, x1, x7, x18] h))
 (tcomp (kI (-1)) fun c0 => vfin true q [c0] h)
theorem e57_1 (O : Oracle) (R : Jump) (q : Nat) (x0 x1 x7 x8 : TVal) (h : Heap) : b57_1 O R q x0 x1 x7 x8 h = stepF c57 O R q 1 [x0, x1, x7, x8] h := by kernel_rfl
noncomputable def d57 : BlkF := fun O R q => [.s fun y0 => .s fun y1 => .z fun h => b57_0 O R q y0 y1 h, .s fun y0 => .s fun y1 => .s fun y2 => .s fun y3 => .z fun h => b57_1 O R q y0 y1 y2 y3 h]
theorem o57 (O : Oracle) (R : Jump) (q : Nat) : HoldsAll c57 O R q 0 (d57 O R q) := ⟨fun y0 y1 h => e57_0 O R q y0 y1 h, fun y0 y1 y2 y3 h => e57_1 O R q y0 y1 y2 y3 h, trivial⟩
/- sprue/data.own -/
def c58 : MFunc := { np := 1, res := [.cell 2 true 6], frz := true, body := (.seq (.reg [(oA 1 (.box (.t 0) false)), (oA 2 (.alloc [(.p (.int .i64 0)), (.p (.bool false)), (.p (.int .i64 0)), (.p (.str [])), (.p .nilslice), (.p .nilslice)] false))] []) (.seq (.reg [(oA 5 (.faddr 4 (.t 1))), (oA 6 (.load false 1 (.t 5))), (oA 7 (.call (.k (.v (.c (.func 75 [])))) [(.t 6)])), (oA 8 (.faddr 5 (.t 1))), (oA 9 (.load false 1 (.t 8))), (oA 10 (.call (.k (.v (.c (.func 46 [])))) [(.t 9)])), (oA 11 (.faddr 4 (.t 1))), (oN (.store 1 (.t 11) (.t 7))), (oA 12 (.faddr 5 (.t 1))), (oN (.store 1 (.t 12) (.t 10)))] [(2, 4)]) (.seq (.seq (.reg [(oA 13 (.faddr 5 (.t 1))), (oA 14 (.load false 1 (.t 13))), (oA 15 (.len 2 (.t 14))), (oA 16 (.mv (.k (.v (.c (.p (.int .i64 0)))))))] []) (.block 0 (.loop 1 [1, 2, 14, 15, 16] (.seq (.reg [(oA 17 (.bin .lss 0 (.t 16) (.t 15)))] []) (.seq (.cond (.t 17) .skip (.exit 0)) (.seq (.block 1 (.seq (.reg [(oA 18 (.mv (.t 16))), (oA 19 (.iaddr 6 (.t 14) (.t 16))), (oA 20 (.load true 6 (.t 19))), (oA 4 (.alloc [(.p (.int .i64 0)), (.p (.bool false)), (.p (.int .i64 0)), (.p (.str [])), (.p .nilslice), (.p .nilslice)] false)), (oA 3 (.mv (.t 18))), (oN (.store 6 (.t 4) (.t 20)))] []) (.reg [(oA 21 (.faddr 5 (.t 1))), (oA 22 (.load false 1 (.t 21))), (oA 23 (.mv (.t 3))), (oA 24 (.load true 6 (.t 4))), (oA 25 (.call (.k (.v (.c (.func 58 [])))) [(.t 24)])), (oA 26 (.iaddr 6 (.t 22) (.t 23))), (oN (.store 6 (.t 26) (.t 25)))] [(1, 4)]))) (.reg [(oA 27 (.bin .add 0 (.t 16) (.k (.v (.c (.p (.int .i64 1))))))), (oA 16 (.mv (.t 27)))] []))))))) (.mark 2 [1, 2] (.seq (.reg [(oA 28 (.load true 6 (.t 1))), (oN (.store 6 (.t 2) (.t 28)))] []) .ret))))) }
theorem t58 : compF Tryd.prog (globs2 tabs opq) (fun _ => false) true Tryd.f58 = some c58.erase := by kernel_rfl
noncomputable def b58_0 (O : Oracle) (R : Jump) (q : Nat) (x0 : TVal) (h : Heap) : Res1 :=
 vop O (.box (.k x0) false) h 1 fun x1 h =>
 vop O (.alloc [(.p (.int .i64 0)), (.p (.bool false)), (.p (.int .i64 0)), (.p (.str [])), (.p .nilslice), (.p .nilslice)] false) h 2 fun x2 h =>
 vtouch O (.faddr 4 (.k x1)) h 5 fun x5 h t0 =>
 vtouch O (.load false 1 (.k x5)) h 6 fun x6 h t1 =>
 vtouch O (.call (.k (.v (.c (.func 75 [])))) [(.k x6)]) h 7 fun x7 h t2 =>
 vtouch O (.faddr 5 (.k x1)) h 8 fun x8 h t3 =>
 vtouch O (.load false 1 (.k x8)) h 9 fun x9 h t4 =>
 vtouch O (.call (.k (.v (.c (.func 46 [])))) [(.k x9)]) h 10 fun x10 h t5 =>
 vtouch O (.faddr 4 (.k x1)) h 11 fun x11 h t6 =>
 vtouch O (.store 1 (.k x11) (.k x7)) h 1000000 fun _ h t7 =>
 vtouch O (.faddr 5 (.k x1)) h 12 fun x12 h t8 =>
 vtouch O (.store 1 (.k x12) (.k x10)) h 1000000 fun _ h t9 =>
 bif apartAll [t0, t1, t2, t3, t4, t5, t6, t7, t8, t9] [(2, 4)] then
 vfaddr 5 x1 h fun x13 h =>
 vload false 1 x13 h fun x14 h =>
 vlen O 2 x14 h 15 fun x15 h =>
 R 1 [x1, x2, x14, x15, (kI 0)] h
 else none
theorem e58_0 (O : Oracle) (R : Jump) (q : Nat) (x0 : TVal) (h : Heap) : b58_0 O R q x0 h = stepF c58 O R q 0 [x0] h := by kernel_rfl
noncomputable def b58_1 (O : Oracle) (R : Jump) (q : Nat) (x1 x2 x14 x15 x16 : TVal) (h : Heap) : Res1 :=
 vbin .lss 0 x16 x15 h fun x17 h =>
 vif x17 (
 viaddr 6 x14 x16 h fun x19 h =>
 vload true 6 x19 h fun x20 h =>
 vop O (.alloc [(.p (.int .i64 0)), (.p (.bool false)), (.p (.int .i64 0)), (.p (.str [])), (.p .nilslice), (.p .nilslice)] false) h 4 fun x4 h =>
 vstore 6 x4 x20 h fun _ h =>
 vtouch O (.faddr 5 (.k x1)) h 21 fun x21 h t0 =>
 vtouch O (.load false 1 (.k x21)) h 22 fun x22 h t1 =>
 vtouch O (.mv (.k x16)) h 23 fun x23 h t2 =>
 vtouch O (.load true 6 (.k x4)) h 24 fun x24 h t3 =>
 vtouch O (.call (.k (.v (.c (.func 58 [])))) [(.k x24)]) h 25 fun x25 h t4 =>
 vtouch O (.iaddr 6 (.k x22) (.k x23)) h 26 fun x26 h t5 =>
 vtouch O (.store 6 (.k x26) (.k x25)) h 1000000 fun _ h t6 =>
 bif apartAll [t0, t1, t2, t3, t4, t5, t6] [(1, 4)] then
 vbin .add 0 x16 (kI 1) h fun x27 h =>
 R 1 [x1, x2, x14, x15, x27] h
 else none)
 (R 2 [x1, x2] h)
theorem e58_1 (O : Oracle) (R : Jump) (q : Nat) (x1 x2 x14 x15 x16 : TVal) (h : Heap) : b58_1 O R q x1 x2 x14 x15 x16 h = stepF c58 O R q 1 [x1, x2, x14, x15, x16] h := by kernel_rfl
noncomputable def b58_2 (O : Oracle) (R : Jump) (q : Nat) (x1 x2 : TVal) (h : Heap) : Res1 :=
 vload true 6 x1 h fun x28 h =>
 vstore 6 x2 x28 h fun _ h =>
 vcell true 6 x2 h fun c0 => vfin true q [c0] h
theorem e58_2 (O : Oracle) (R : Jump) (q : Nat) (x1 x2 : TVal) (h : Heap) : b58_2 O R q x1 x2 h = stepF c58 O R q 2 [x1, x2] h := by kernel_rfl
noncomputable def d58 : BlkF := fun O R q => [.s fun y0 => .z fun h => b58_0 O R q y0 h, .s fun y0 => .s fun y1 => .s fun y2 => .s fun y3 => .s fun y4 => .z fun h => b58_1 O R q y0 y1 y2 y3 y4 h, .s fun y0 => .s fun y1 => .z fun h => b58_2 O R q y0 y1 h]
theorem o58 (O : Oracle) (R : Jump) (q : Nat) : HoldsAll c58 O R q 0 (d58 O R q) := ⟨fun y0 h => e58_0 O R q y0 h, fun y0 y1 y2 y3 y4 h => e58_1 O R q y0 y1 y2 y3 y4 h, fun y0 y1 h => e58_2 O R q y0 y1 h, trivial⟩
/- sprue/calls.numbers$1 -/
def c59 : MFunc := { np := 1, res := [.t 2], frz := true, body := (.seq (.reg [(oA 1 (.box (.t 0) false)), (oA 2 (.mv (.k (.v (.c (.p (.bool false)))))))] []) (.seq (.reg [(oA 3 (.faddr 0 (.t 1))), (oA 4 (.load false 1 (.t 3))), (oA 5 (.bin .neq 0 (.t 4) (.k (.v (.c (.p (.int .i64 2))))))), (oA 2 (.mv (.t 5)))] []) .ret)) }
theorem t59 : compF Tryd.prog (globs2 tabs opq) (fun _ => false) true Tryd.f59 = some c59.erase := by kernel_rfl
noncomputable def b59_0 (O : Oracle) (R : Jump) (q : Nat) (x0 : TVal) (h : Heap) : Res1 :=
 vop O (.box (.k x0) false) h 1 fun x1 h =>
 vfaddr 0 x1 h fun x3 h =>
 vload false 1 x3 h fun x4 h =>
 vbin .neq 0 x4 (kI 2) h fun x5 h =>
 tcomp x5 fun c0 => vfin true q [c0] h
theorem e59_0 (O : Oracle) (R : Jump) (q : Nat) (x0 : TVal) (h : Heap) : b59_0 O R q x0 h = stepF c59 O R q 0 [x0] h := by kernel_rfl
noncomputable def d59 : BlkF := fun O R q => [.s fun y0 => .z fun h => b59_0 O R q y0 h]
theorem o59 (O : Oracle) (R : Jump) (q : Nat) : HoldsAll c59 O R q 0 (d59 O R q) := ⟨fun y0 h => e59_0 O R q y0 h, trivial⟩
/- sprue/calls.narrow -/
def c60 : MFunc := { np := 2, res := [.t 4], frz := true, body := (.seq (.reg [(oA 4 (.mv (.k (.v (.c (.p (.int .i64 0)))))))] []) (.seq (.seq (.reg [(oA 5 (.mv (.t 0)))] []) (.block 0 (.seq (.reg [(oA 7 (.bin .eql 0 (.t 5) (.k (.v (.c (.p (.str [105, 56]))))))), (oA 6 (.mv (.t 7)))] []) (.cond (.t 6) (.seq (.reg [(oA 8 (.mv (.t 1))), (oA 9 (.toInt .i8 (.t 8))), (oA 10 (.toInt .i64 (.t 9))), (oA 4 (.mv (.t 10)))] []) .ret) (.seq (.reg [(oA 12 (.bin .eql 0 (.t 5) (.k (.v (.c (.p (.str [105, 49, 54]))))))), (oA 11 (.mv (.t 12)))] []) (.cond (.t 11) (.seq (.reg [(oA 13 (.mv (.t 1))), (oA 14 (.toInt .i16 (.t 13))), (oA 15 (.toInt .i64 (.t 14))), (oA 4 (.mv (.t 15)))] []) .ret) (.seq (.reg [(oA 17 (.bin .eql 0 (.t 5) (.k (.v (.c (.p (.str [105, 51, 50]))))))), (oA 16 (.mv (.t 17)))] []) (.cond (.t 16) (.seq (.reg [(oA 18 (.mv (.t 1))), (oA 19 (.toInt .i32 (.t 18))), (oA 20 (.toInt .i64 (.t 19))), (oA 4 (.mv (.t 20)))] []) .ret) (.seq (.reg [(oA 22 (.bin .eql 0 (.t 5) (.k (.v (.c (.p (.str [117, 56]))))))), (oA 21 (.mv (.t 22)))] []) (.cond (.t 21) (.seq (.reg [(oA 23 (.mv (.t 1))), (oA 24 (.toInt .u8 (.t 23))), (oA 25 (.toInt .i64 (.t 24))), (oA 4 (.mv (.t 25)))] []) .ret) (.seq (.reg [(oA 27 (.bin .eql 0 (.t 5) (.k (.v (.c (.p (.str [117, 49, 54]))))))), (oA 26 (.mv (.t 27)))] []) (.cond (.t 26) (.seq (.reg [(oA 28 (.mv (.t 1))), (oA 29 (.toInt .u16 (.t 28))), (oA 30 (.toInt .i64 (.t 29))), (oA 4 (.mv (.t 30)))] []) .ret) .skip)))))))))))) (.seq (.reg [(oA 31 (.mv (.t 1))), (oA 32 (.toInt .u32 (.t 31))), (oA 33 (.toInt .i64 (.t 32))), (oA 4 (.mv (.t 33)))] []) .ret))) }
theorem t60 : compF Tryd.prog (globs2 tabs opq) (fun _ => false) true Tryd.f60 = some c60.erase := by kernel_rfl
noncomputable def b60_0 (O : Oracle) (R : Jump) (q : Nat) (x0 x1 : TVal) (h : Heap) : Res1 :=
 vbin .eql 0 x0 (kS [105, 56]) h fun x7 h =>
 vif x7 (
 vtoInt .i8 x1 h fun x9 h =>
 vtoInt .i64 x9 h fun x10 h =>
 tcomp x10 fun c0 => vfin true q [c0] h)
 (vbin .eql 0 x0 (kS [105, 49, 54]) h fun x12 h =>
 vif x12 (
 vtoInt .i16 x1 h fun x14 h =>
 vtoInt .i64 x14 h fun x15 h =>
 tcomp x15 fun c0 => vfin true q [c0] h)
 (vbin .eql 0 x0 (kS [105, 51, 50]) h fun x17 h =>
 vif x17 (
 vtoInt .i32 x1 h fun x19 h =>
 vtoInt .i64 x19 h fun x20 h =>
 tcomp x20 fun c0 => vfin true q [c0] h)
 (vbin .eql 0 x0 (kS [117, 56]) h fun x22 h =>
 vif x22 (
 vtoInt .u8 x1 h fun x24 h =>
 vtoInt .i64 x24 h fun x25 h =>
 tcomp x25 fun c0 => vfin true q [c0] h)
 (vbin .eql 0 x0 (kS [117, 49, 54]) h fun x27 h =>
 vif x27 (
 vtoInt .u16 x1 h fun x29 h =>
 vtoInt .i64 x29 h fun x30 h =>
 tcomp x30 fun c0 => vfin true q [c0] h)
 (vtoInt .u32 x1 h fun x32 h =>
 vtoInt .i64 x32 h fun x33 h =>
 tcomp x33 fun c0 => vfin true q [c0] h)))))
theorem e60_0 (O : Oracle) (R : Jump) (q : Nat) (x0 x1 : TVal) (h : Heap) : b60_0 O R q x0 x1 h = stepF c60 O R q 0 [x0, x1] h := by kernel_rfl
noncomputable def d60 : BlkF := fun O R q => [.s fun y0 => .s fun y1 => .z fun h => b60_0 O R q y0 y1 h]
theorem o60 (O : Oracle) (R : Jump) (q : Nat) : HoldsAll c60 O R q 0 (d60 O R q) := ⟨fun y0 y1 h => e60_0 O R q y0 y1 h, trivial⟩
/- sprue/calls.reckon -/
def c61 : MFunc := { np := 3, res := [.t 6], frz := true, body := (.seq (.reg [(oA 6 (.mv (.k (.v (.c (.p (.int .i64 0)))))))] []) (.seq (.seq (.reg [(oA 7 (.mv (.t 0)))] []) (.block 0 (.seq (.reg [(oA 9 (.bin .eql 0 (.t 7) (.k (.v (.c (.p (.str [97, 100, 100]))))))), (oA 8 (.mv (.t 9)))] []) (.cond (.t 8) (.seq (.reg [(oA 10 (.mv (.t 1))), (oA 11 (.mv (.t 2))), (oA 12 (.bin .add 0 (.t 10) (.t 11))), (oA 6 (.mv (.t 12)))] []) .ret) (.seq (.reg [(oA 14 (.bin .eql 0 (.t 7) (.k (.v (.c (.p (.str [115, 117, 98]))))))), (oA 13 (.mv (.t 14)))] []) (.cond (.t 13) (.seq (.reg [(oA 15 (.mv (.t 1))), (oA 16 (.mv (.t 2))), (oA 17 (.bin .sub 0 (.t 15) (.t 16))), (oA 6 (.mv (.t 17)))] []) .ret) (.seq (.reg [(oA 19 (.bin .eql 0 (.t 7) (.k (.v (.c (.p (.str [109, 117, 108]))))))), (oA 18 (.mv (.t 19)))] []) (.cond (.t 18) (.seq (.reg [(oA 20 (.mv (.t 1))), (oA 21 (.mv (.t 2))), (oA 22 (.bin .mul 0 (.t 20) (.t 21))), (oA 6 (.mv (.t 22)))] []) .ret) (.seq (.reg [(oA 24 (.bin .eql 0 (.t 7) (.k (.v (.c (.p (.str [115, 104, 108]))))))), (oA 23 (.mv (.t 24)))] []) (.cond (.t 23) (.seq (.reg [(oA 25 (.mv (.t 1))), (oA 26 (.mv (.t 2))), (oA 27 (.toInt .u64 (.t 26))), (oA 28 (.bin .rem 0 (.t 27) (.k (.v (.c (.p (.int .u64 64))))))), (oA 29 (.bin .shl 0 (.t 25) (.t 28))), (oA 6 (.mv (.t 29)))] []) .ret) .skip)))))))))) (.seq (.reg [(oA 30 (.mv (.t 1))), (oA 31 (.mv (.t 2))), (oA 32 (.toInt .u64 (.t 31))), (oA 33 (.bin .rem 0 (.t 32) (.k (.v (.c (.p (.int .u64 64))))))), (oA 34 (.bin .shr 0 (.t 30) (.t 33))), (oA 6 (.mv (.t 34)))] []) .ret))) }
theorem t61 : compF Tryd.prog (globs2 tabs opq) (fun _ => false) true Tryd.f61 = some c61.erase := by kernel_rfl
noncomputable def b61_0 (O : Oracle) (R : Jump) (q : Nat) (x0 x1 x2 : TVal) (h : Heap) : Res1 :=
 vbin .eql 0 x0 (kS [97, 100, 100]) h fun x9 h =>
 vif x9 (
 vbin .add 0 x1 x2 h fun x12 h =>
 tcomp x12 fun c0 => vfin true q [c0] h)
 (vbin .eql 0 x0 (kS [115, 117, 98]) h fun x14 h =>
 vif x14 (
 vbin .sub 0 x1 x2 h fun x17 h =>
 tcomp x17 fun c0 => vfin true q [c0] h)
 (vbin .eql 0 x0 (kS [109, 117, 108]) h fun x19 h =>
 vif x19 (
 vbin .mul 0 x1 x2 h fun x22 h =>
 tcomp x22 fun c0 => vfin true q [c0] h)
 (vbin .eql 0 x0 (kS [115, 104, 108]) h fun x24 h =>
 vif x24 (
 vtoInt .u64 x2 h fun x27 h =>
 vbin .rem 0 x27 (.v (.c (.p (.int .u64 64)))) h fun x28 h =>
 vbin .shl 0 x1 x28 h fun x29 h =>
 tcomp x29 fun c0 => vfin true q [c0] h)
 (vtoInt .u64 x2 h fun x32 h =>
 vbin .rem 0 x32 (.v (.c (.p (.int .u64 64)))) h fun x33 h =>
 vbin .shr 0 x1 x33 h fun x34 h =>
 tcomp x34 fun c0 => vfin true q [c0] h))))
theorem e61_0 (O : Oracle) (R : Jump) (q : Nat) (x0 x1 x2 : TVal) (h : Heap) : b61_0 O R q x0 x1 x2 h = stepF c61 O R q 0 [x0, x1, x2] h := by kernel_rfl
noncomputable def d61 : BlkF := fun O R q => [.s fun y0 => .s fun y1 => .s fun y2 => .z fun h => b61_0 O R q y0 y1 y2 h]
theorem o61 (O : Oracle) (R : Jump) (q : Nat) : HoldsAll c61 O R q 0 (d61 O R q) := ⟨fun y0 y1 y2 h => e61_0 O R q y0 y1 y2 h, trivial⟩
/- sprue/scan.digit -/
def c69 : MFunc := { np := 1, res := [.t 2], frz := true, body := (.seq (.reg [(oA 2 (.mv (.k (.v (.c (.p (.bool false)))))))] []) (.seq (.reg [(oA 3 (.mv (.t 0))), (oA 4 (.bin .geq 0 (.t 3) (.k (.v (.c (.p (.int .u8 48))))))), (oA 5 (.mv (.t 4))), ⟨(some 6), (.mv (.t 0)), (some (5, true))⟩, ⟨(some 7), (.bin .leq 0 (.t 6) (.k (.v (.c (.p (.int .u8 57)))))), (some (5, true))⟩, (oA 8 (.pick (.t 5) (.t 7) (.k (.v (.c (.p (.bool false))))))), (oA 2 (.mv (.t 8)))] []) .ret)) }
theorem t69 : compF Tryd.prog (globs2 tabs opq) (fun _ => false) true Tryd.f69 = some c69.erase := by kernel_rfl
noncomputable def b69_0 (O : Oracle) (R : Jump) (q : Nat) (x0 : TVal) (h : Heap) : Res1 :=
 vbin .geq 0 x0 (.v (.c (.p (.int .u8 48)))) h fun x4 h =>
 vguard x4 true (fun kk => kk x0 h) h fun x6 h =>
 vguard x4 true (fun kk => vbin .leq 0 x6 (.v (.c (.p (.int .u8 57)))) h kk) h fun x7 h =>
 vop O (.pick (.k x4) (.k x7) (.k (kB false))) h 8 fun x8 h =>
 tcomp x8 fun c0 => vfin true q [c0] h
theorem e69_0 (O : Oracle) (R : Jump) (q : Nat) (x0 : TVal) (h : Heap) : b69_0 O R q x0 h = stepF c69 O R q 0 [x0] h := by kernel_rfl
noncomputable def d69 : BlkF := fun O R q => [.s fun y0 => .z fun h => b69_0 O R q y0 h]
theorem o69 (O : Oracle) (R : Jump) (q : Nat) : HoldsAll c69 O R q 0 (d69 O R q) := ⟨fun y0 h => e69_0 O R q y0 h, trivial⟩
/- sprue/scan.row -/
def c70 : MFunc := { np := 1, res := [.t 2], frz := true, body := (.seq (.reg [(oA 2 (.mv (.k (.v (.c (.p (.int .i64 0)))))))] []) (.seq (.reg [(oA 3 (.mv (.t 0))), (oA 4 (.call (.k (.v (.c (.func 80 [])))) [(.t 3), (.k (.v (.c (.func 81 []))))])), (oA 2 (.mv (.t 4)))] []) .ret)) }
theorem t70 : compF Tryd.prog (globs2 tabs opq) (fun _ => false) true Tryd.f70 = some c70.erase := by kernel_rfl
noncomputable def b70_0 (O : Oracle) (R : Jump) (q : Nat) (x0 : TVal) (h : Heap) : Res1 :=
 vcall O (.v (.c (.func 80 []))) [x0, (.v (.c (.func 81 [])))] h 4 fun x4 h =>
 tcomp x4 fun c0 => vfin true q [c0] h
theorem e70_0 (O : Oracle) (R : Jump) (q : Nat) (x0 : TVal) (h : Heap) : b70_0 O R q x0 h = stepF c70 O R q 0 [x0] h := by kernel_rfl
noncomputable def d70 : BlkF := fun O R q => [.s fun y0 => .z fun h => b70_0 O R q y0 h]
theorem o70 (O : Oracle) (R : Jump) (q : Nat) : HoldsAll c70 O R q 0 (d70 O R q) := ⟨fun y0 h => e70_0 O R q y0 h, trivial⟩
/- strings.Index -/
def c71 : MFunc := { np := 2, res := [.t 4], frz := true, body := (.seq (.reg [(oA 4 (.mv (.k (.v (.c (.p (.int .i64 0)))))))] []) (.seq (.reg [(oA 5 (.mv (.t 0))), (oA 6 (.mv (.t 1))), (oA 7 (.call (.k (.v (.c (.func 83 [])))) [(.t 5), (.t 6)])), (oA 4 (.mv (.t 7)))] []) .ret)) }
theorem t71 : compF Tryd.prog (globs2 tabs opq) (fun _ => false) true Tryd.f71 = some c71.erase := by kernel_rfl
noncomputable def b71_0 (O : Oracle) (R : Jump) (q : Nat) (x0 x1 : TVal) (h : Heap) : Res1 :=
 vcall O (.v (.c (.func 83 []))) [x0, x1] h 7 fun x7 h =>
 tcomp x7 fun c0 => vfin true q [c0] h
theorem e71_0 (O : Oracle) (R : Jump) (q : Nat) (x0 x1 : TVal) (h : Heap) : b71_0 O R q x0 x1 h = stepF c71 O R q 0 [x0, x1] h := by kernel_rfl
noncomputable def d71 : BlkF := fun O R q => [.s fun y0 => .s fun y1 => .z fun h => b71_0 O R q y0 y1 h]
theorem o71 (O : Oracle) (R : Jump) (q : Nat) : HoldsAll c71 O R q 0 (d71 O R q) := ⟨fun y0 y1 h => e71_0 O R q y0 y1 h, trivial⟩
/- slices.IndexFunc[[]sprue/api.Value,sprue/api.Value] -/
def c72 : MFunc := { np := 2, res := [.t 4], frz := true, body := (.seq (.reg [(oA 4 (.mv (.k (.v (.c (.p (.int .i64 0)))))))] []) (.seq (.seq (.reg [(oA 6 (.mv (.t 0))), (oA 7 (.len 2 (.t 6))), (oA 8 (.mv (.k (.v (.c (.p (.int .i64 0)))))))] []) (.block 0 (.loop 1 [0, 1, 7, 8] (.seq (.reg [(oA 9 (.bin .lss 0 (.t 8) (.t 7)))] []) (.seq (.cond (.t 9) .skip (.exit 0)) (.seq (.block 1 (.seq (.reg [(oA 10 (.mv (.t 8))), (oA 5 (.mv (.t 10)))] []) (.seq (.reg [(oA 11 (.mv (.t 1))), (oA 12 (.mv (.t 0))), (oA 13 (.mv (.t 5))), (oA 14 (.iaddr 6 (.t 12) (.t 13))), (oA 15 (.load true 6 (.t 14))), (oA 16 (.call (.t 11) [(.t 15)]))] []) (.cond (.t 16) (.seq (.reg [(oA 17 (.mv (.t 5))), (oA 4 (.mv (.t 17)))] []) .ret) .skip)))) (.reg [(oA 18 (.bin .add 0 (.t 8) (.k (.v (.c (.p (.int .i64 1))))))), (oA 8 (.mv (.t 18)))] []))))))) (.seq (.reg [(oA 4 (.mv (.k (.v (.c (.p (.int .i64 (-1))))))))] []) .ret))) }
theorem t72 : compF Tryd.prog (globs2 tabs opq) (fun _ => false) true Tryd.f72 = some c72.erase := by kernel_rfl
noncomputable def b72_0 (O : Oracle) (R : Jump) (q : Nat) (x0 x1 : TVal) (h : Heap) : Res1 :=
 vlen O 2 x0 h 7 fun x7 h =>
 R 1 [x0, x1, x7, (kI 0)] h
theorem e72_0 (O : Oracle) (R : Jump) (q : Nat) (x0 x1 : TVal) (h : Heap) : b72_0 O R q x0 x1 h = stepF c72 O R q 0 [x0, x1] h := by kernel_rfl
noncomputable def b72_1 (O : Oracle) (R : Jump) (q : Nat) (x0 x1 x7 x8 : TVal) (h : Heap) : Res1 :=
 vbin .lss 0 x8 x7 h fun x9 h =>
 vif x9 (
 viaddr 6 x0 x8 h fun x14 h =>
 vload true 6 x14 h fun x15 h =>
 vcall O x1 [x15] h 16 fun x16 h =>
 vif x16 (
 tcomp x8 fun c0 => vfin true q [c0] h)
 (vbin .add 0 x8 (kI 1) h fun x18 h =>
 R 1 [x0, x1, x7, x18] h))
 (tcomp (kI (-1)) fun c0 => vfin true q [c0] h)
theorem e72_1 (O : Oracle) (R : Jump) (q : Nat) (x0 x1 x7 x8 : TVal) (h : Heap) : b72_1 O R q x0 x1 x7 x8 h = stepF c72 O R q 1 [x0, x1, x7, x8] h := by kernel_rfl
noncomputable def d72 : BlkF := fun O R q => [.s fun y0 => .s fun y1 => .z fun h => b72_0 O R q y0 y1 h, .s fun y0 => .s fun y1 => .s fun y2 => .s fun y3 => .z fun h => b72_1 O R q y0 y1 y2 y3 h]
theorem o72 (O : Oracle) (R : Jump) (q : Nat) : HoldsAll c72 O R q 0 (d72 O R q) := ⟨fun y0 y1 h => e72_0 O R q y0 y1 h, fun y0 y1 y2 y3 h => e72_1 O R q y0 y1 y2 y3 h, trivial⟩
/- internal/strconv.FormatInt -/
def c73 : MFunc := { np := 2, res := [.t 4], frz := true, body := (.seq (.reg [(oA 4 (.mv (.k (.v (.c (.p (.str [])))))))] []) (.seq (.seq (.reg [(oA 10 (.mv (.t 1))), (oA 11 (.bin .eql 0 (.t 10) (.k (.v (.c (.p (.int .i64 10)))))))] []) (.cond (.t 11) (.seq (.seq (.reg [(oA 12 (.mv (.t 0))), (oA 13 (.bin .leq 0 (.k (.v (.c (.p (.int .i64 0))))) (.t 12))), (oA 14 (.mv (.t 13))), ⟨(some 15), (.mv (.t 0)), (some (14, true))⟩, ⟨(some 16), (.bin .lss 0 (.t 15) (.k (.v (.c (.p (.int .i64 100)))))), (some (14, true))⟩, (oA 17 (.pick (.t 14) (.t 16) (.k (.v (.c (.p (.bool false)))))))] []) (.cond (.t 17) (.seq (.reg [(oA 18 (.mv (.t 0))), (oA 19 (.call (.k (.v (.c (.func 84 [])))) [(.t 18)])), (oA 4 (.mv (.t 19)))] []) .ret) .skip)) (.seq (.reg [(oA 5 (.alloc [(.p (.int .u8 0)), (.p (.int .u8 0)), (.p (.int .u8 0)), (.p (.int .u8 0)), (.p (.int .u8 0)), (.p (.int .u8 0)), (.p (.int .u8 0)), (.p (.int .u8 0)), (.p (.int .u8 0)), (.p (.int .u8 0)), (.p (.int .u8 0)), (.p (.int .u8 0)), (.p (.int .u8 0)), (.p (.int .u8 0)), (.p (.int .u8 0)), (.p (.int .u8 0)), (.p (.int .u8 0)), (.p (.int .u8 0)), (.p (.int .u8 0)), (.p (.int .u8 0)), (.p (.int .u8 0)), (.p (.int .u8 0)), (.p (.int .u8 0)), (.p (.int .u8 0))] false))] []) (.seq (.reg [(oA 20 (.mv (.t 0))), (oA 21 (.toInt .u64 (.t 20))), (oA 6 (.mv (.t 21)))] []) (.seq (.seq (.reg [(oA 22 (.mv (.t 0))), (oA 23 (.bin .lss 0 (.t 22) (.k (.v (.c (.p (.int .i64 0)))))))] []) (.cond (.t 23) (.reg [(oA 24 (.mv (.t 6))), (oA 25 (.un .neg (.t 24))), (oA 6 (.mv (.t 25)))] []) .skip)) (.mark 1 [0, 5, 6] (.seq (.reg [(oA 26 (.mv (.t 6))), (oA 27 (.call (.k (.v (.c (.func 85 [])))) [(.t 26)])), (oA 7 (.mv (.t 27)))] []) (.seq (.reg [(oA 28 (.mv (.t 7))), (oA 29 (.bin .add 0 (.k (.v (.c (.p (.int .i64 1))))) (.t 28))), (oA 30 (.sliceA 24 1 (.t 5) (some (.k (.v (.c (.p (.int .i64 1)))))) (some (.t 29)))), (oA 31 (.mv (.t 6))), (oA 32 (.call (.k (.v (.c (.func 86 [])))) [(.t 30), (.t 31)]))] []) (.seq (.seq (.reg [(oA 33 (.mv (.t 0))), (oA 34 (.bin .lss 0 (.t 33) (.k (.v (.c (.p (.int .i64 0)))))))] []) (.cond (.t 34) (.seq (.reg [(oA 35 (.iaddrA 24 1 (.t 5) (.k (.v (.c (.p (.int .i64 0))))))), (oN (.store 1 (.t 35) (.k (.v (.c (.p (.int .u8 45)))))))] []) (.seq (.reg [(oA 36 (.mv (.t 7))), (oA 37 (.bin .add 0 (.k (.v (.c (.p (.int .i64 1))))) (.t 36))), (oA 38 (.sliceA 24 1 (.t 5) none (some (.t 37)))), (oA 39 (.toStr (.t 38))), (oA 4 (.mv (.t 39)))] []) .ret)) .skip)) (.seq (.reg [(oA 40 (.mv (.t 7))), (oA 41 (.bin .add 0 (.k (.v (.c (.p (.int .i64 1))))) (.t 40))), (oA 42 (.sliceA 24 1 (.t 5) (some (.k (.v (.c (.p (.int .i64 1)))))) (some (.t 41)))), (oA 43 (.toStr (.t 42))), (oA 4 (.mv (.t 43)))] []) .ret))))))))) .skip)) (.seq (.reg [(oA 45 (.mv (.t 0))), (oA 46 (.toInt .u64 (.t 45))), (oA 47 (.mv (.t 1))), (oA 48 (.mv (.t 0))), (oA 49 (.bin .lss 0 (.t 48) (.k (.v (.c (.p (.int .i64 0))))))), (oA 50 (.call (.k (.v (.c (.func 87 [])))) [(.k (.v (.c (.p .nilslice)))), (.t 46), (.t 47), (.t 49), (.k (.v (.c (.p (.bool false)))))])), (oA 44 (.mv (.t 50))), (oA 51 (.extract (.t 44) 0)), (oA 52 (.extract (.t 44) 1)), (oA 8 (.mv (.t 51))), (oA 9 (.mv (.t 52)))] []) (.seq (.reg [(oA 53 (.mv (.t 9))), (oA 4 (.mv (.t 53)))] []) .ret)))) }
theorem t73 : compF Tryd.prog (globs2 tabs opq) (fun _ => false) true Tryd.f73 = some c73.erase := by kernel_rfl
noncomputable def b73_0 (O : Oracle) (R : Jump) (q : Nat) (x0 x1 : TVal) (h : Heap) : Res1 :=
 vbin .eql 0 x1 (kI 10) h fun x11 h =>
 vif x11 (
 vbin .leq 0 (kI 0) x0 h fun x13 h =>
 vguard x13 true (fun kk => kk x0 h) h fun x15 h =>
 vguard x13 true (fun kk => vbin .lss 0 x15 (kI 100) h kk) h fun x16 h =>
 vop O (.pick (.k x13) (.k x16) (.k (kB false))) h 17 fun x17 h =>
 vif x17 (
 vcall O (.v (.c (.func 84 []))) [x0] h 19 fun x19 h =>
 tcomp x19 fun c0 => vfin true q [c0] h)
 (vop O (.alloc [(.p (.int .u8 0)), (.p (.int .u8 0)), (.p (.int .u8 0)), (.p (.int .u8 0)), (.p (.int .u8 0)), (.p (.int .u8 0)), (.p (.int .u8 0)), (.p (.int .u8 0)), (.p (.int .u8 0)), (.p (.int .u8 0)), (.p (.int .u8 0)), (.p (.int .u8 0)), (.p (.int .u8 0)), (.p (.int .u8 0)), (.p (.int .u8 0)), (.p (.int .u8 0)), (.p (.int .u8 0)), (.p (.int .u8 0)), (.p (.int .u8 0)), (.p (.int .u8 0)), (.p (.int .u8 0)), (.p (.int .u8 0)), (.p (.int .u8 0)), (.p (.int .u8 0))] false) h 5 fun x5 h =>
 vtoInt .u64 x0 h fun x21 h =>
 vbin .lss 0 x0 (kI 0) h fun x23 h =>
 vif x23 (
 vop O (.un .neg (.k x21)) h 25 fun x25 h =>
 R 1 [x0, x5, x25] h)
 (R 1 [x0, x5, x21] h)))
 (vtoInt .u64 x0 h fun x46 h =>
 vbin .lss 0 x0 (kI 0) h fun x49 h =>
 vcall O (.v (.c (.func 87 []))) [(.v (.c (.p .nilslice))), x46, x1, x49, (kB false)] h 50 fun x50 h =>
 vext x50 0 h fun x51 h =>
 vext x50 1 h fun x52 h =>
 tcomp x52 fun c0 => vfin true q [c0] h)
theorem e73_0 (O : Oracle) (R : Jump) (q : Nat) (x0 x1 : TVal) (h : Heap) : b73_0 O R q x0 x1 h = stepF c73 O R q 0 [x0, x1] h := by kernel_rfl
noncomputable def b73_1 (O : Oracle) (R : Jump) (q : Nat) (x0 x5 x6 : TVal) (h : Heap) : Res1 :=
 vcall O (.v (.c (.func 85 []))) [x6] h 27 fun x27 h =>
 vbin .add 0 (kI 1) x27 h fun x29 h =>
 vop O (.sliceA 24 1 (.k x5) (some (.k (kI 1))) (some (.k x29))) h 30 fun x30 h =>
 vcall O (.v (.c (.func 86 []))) [x30, x6] h 32 fun x32 h =>
 vbin .lss 0 x0 (kI 0) h fun x34 h =>
 vif x34 (
 vop O (.iaddrA 24 1 (.k x5) (.k (kI 0))) h 35 fun x35 h =>
 vstore 1 x35 (.v (.c (.p (.int .u8 45)))) h fun _ h =>
 vbin .add 0 (kI 1) x27 h fun x37 h =>
 vop O (.sliceA 24 1 (.k x5) none (some (.k x37))) h 38 fun x38 h =>
 vop O (.toStr (.k x38)) h 39 fun x39 h =>
 tcomp x39 fun c0 => vfin true q [c0] h)
 (vbin .add 0 (kI 1) x27 h fun x41 h =>
 vop O (.sliceA 24 1 (.k x5) (some (.k (kI 1))) (some (.k x41))) h 42 fun x42 h =>
 vop O (.toStr (.k x42)) h 43 fun x43 h =>
 tcomp x43 fun c0 => vfin true q [c0] h)
theorem e73_1 (O : Oracle) (R : Jump) (q : Nat) (x0 x5 x6 : TVal) (h : Heap) : b73_1 O R q x0 x5 x6 h = stepF c73 O R q 1 [x0, x5, x6] h := by kernel_rfl
noncomputable def d73 : BlkF := fun O R q => [.s fun y0 => .s fun y1 => .z fun h => b73_0 O R q y0 y1 h, .s fun y0 => .s fun y1 => .s fun y2 => .z fun h => b73_1 O R q y0 y1 y2 h]
theorem o73 (O : Oracle) (R : Jump) (q : Nat) : HoldsAll c73 O R q 0 (d73 O R q) := ⟨fun y0 y1 h => e73_0 O R q y0 y1 h, fun y0 y1 y2 h => e73_1 O R q y0 y1 y2 h, trivial⟩
/- internal/strconv.FormatBool -/
def c74 : MFunc := { np := 1, res := [.t 2], frz := true, body := (.seq (.reg [(oA 2 (.mv (.k (.v (.c (.p (.str [])))))))] []) (.seq (.seq (.reg [(oA 3 (.mv (.t 0)))] []) (.cond (.t 3) (.seq (.reg [(oA 2 (.mv (.k (.v (.c (.p (.str [116, 114, 117, 101])))))))] []) .ret) .skip)) (.seq (.reg [(oA 2 (.mv (.k (.v (.c (.p (.str [102, 97, 108, 115, 101])))))))] []) .ret))) }
theorem t74 : compF Tryd.prog (globs2 tabs opq) (fun _ => false) true Tryd.f74 = some c74.erase := by kernel_rfl
noncomputable def b74_0 (O : Oracle) (R : Jump) (q : Nat) (x0 : TVal) (h : Heap) : Res1 :=
 vif x0 (
 tcomp (kS [116, 114, 117, 101]) fun c0 => vfin true q [c0] h)
 (tcomp (kS [102, 97, 108, 115, 101]) fun c0 => vfin true q [c0] h)
theorem e74_0 (O : Oracle) (R : Jump) (q : Nat) (x0 : TVal) (h : Heap) : b74_0 O R q x0 h = stepF c74 O R q 0 [x0] h := by kernel_rfl
noncomputable def d74 : BlkF := fun O R q => [.s fun y0 => .z fun h => b74_0 O R q y0 h]
theorem o74 (O : Oracle) (R : Jump) (q : Nat) : HoldsAll c74 O R q 0 (d74 O R q) := ⟨fun y0 h => e74_0 O R q y0 h, trivial⟩
/- slices.Clone[[]string,string] -/
def c75 : MFunc := { np := 1, res := [.t 2], frz := true, body := (.seq (.reg [(oA 2 (.mv (.k (.v (.c (.p .nilslice))))))] []) (.seq (.seq (.reg [(oA 3 (.mv (.t 0))), (oA 4 (.bin .eql 2 (.t 3) (.k (.v (.c (.p .nilslice))))))] []) (.cond (.t 4) (.seq (.reg [(oA 2 (.mv (.k (.v (.c (.p .nilslice))))))] []) .ret) .skip)) (.seq (.reg [(oA 5 (.bslice 1 0 [(.p (.str []))] [] false)), (oA 6 (.mv (.t 0))), (oA 7 (.append 1 16 false (.t 5) (.t 6))), (oA 2 (.mv (.t 7)))] []) .ret))) }
theorem t75 : compF Tryd.prog (globs2 tabs opq) (fun _ => false) true Tryd.f75 = some c75.erase := by kernel_rfl
noncomputable def b75_0 (O : Oracle) (R : Jump) (q : Nat) (x0 : TVal) (h : Heap) : Res1 :=
 vbin .eql 2 x0 (.v (.c (.p .nilslice))) h fun x4 h =>
 vif x4 (
 tcomp (.v (.c (.p .nilslice))) fun c0 => vfin true q [c0] h)
 (vop O (.bslice 1 0 [(.p (.str []))] [] false) h 5 fun x5 h =>
 vop O (.append 1 16 false (.k x5) (.k x0)) h 7 fun x7 h =>
 tcomp x7 fun c0 => vfin true q [c0] h)
theorem e75_0 (O : Oracle) (R : Jump) (q : Nat) (x0 : TVal) (h : Heap) : b75_0 O R q x0 h = stepF c75 O R q 0 [x0] h := by kernel_rfl
noncomputable def d75 : BlkF := fun O R q => [.s fun y0 => .z fun h => b75_0 O R q y0 h]
theorem o75 (O : Oracle) (R : Jump) (q : Nat) : HoldsAll c75 O R q 0 (d75 O R q) := ⟨fun y0 h => e75_0 O R q y0 h, trivial⟩
/- sprue/scan.front -/
def c80 : MFunc := { np := 2, res := [.t 4], frz := true, body := (.seq (.reg [(oA 4 (.mv (.k (.v (.c (.p (.int .i64 0)))))))] []) (.seq (.seq (.reg [(oA 6 (.mv (.t 0))), (oA 7 (.rangeS (.t 6)))] []) (.block 0 (.loop 1 [0, 1, 7] (.seq (.reg [(oA 8 (.nextS (.t 7))), (oA 9 (.extract (.t 8) 0))] []) (.seq (.cond (.t 9) .skip (.exit 0)) (.block 1 (.seq (.reg [(oA 10 (.extract (.t 8) 1)), (oA 5 (.mv (.t 10)))] []) (.seq (.reg [(oA 11 (.mv (.t 1))), (oA 12 (.mv (.t 0))), (oA 13 (.mv (.t 5))), (oA 14 (.index (.t 12) (.t 13))), (oA 15 (.call (.t 11) [(.t 14)])), (oA 16 (.un .not (.t 15)))] []) (.cond (.t 16) (.seq (.reg [(oA 17 (.mv (.t 5))), (oA 4 (.mv (.t 17)))] []) .ret) .skip))))))))) (.mark 2 [0] (.seq (.reg [(oA 18 (.mv (.t 0))), (oA 19 (.len 0 (.t 18))), (oA 4 (.mv (.t 19)))] []) .ret)))) }
theorem t80 : compF Tryd.prog (globs2 tabs opq) (fun _ => false) true Tryd.f80 = some c80.erase := by kernel_rfl
noncomputable def b80_0 (O : Oracle) (R : Jump) (q : Nat) (x0 x1 : TVal) (h : Heap) : Res1 :=
 vop O (.rangeS (.k x0)) h 7 fun x7 h =>
 R 1 [x0, x1, x7] h
theorem e80_0 (O : Oracle) (R : Jump) (q : Nat) (x0 x1 : TVal) (h : Heap) : b80_0 O R q x0 x1 h = stepF c80 O R q 0 [x0, x1] h := by kernel_rfl
noncomputable def b80_1 (O : Oracle) (R : Jump) (q : Nat) (x0 x1 x7 : TVal) (h : Heap) : Res1 :=
 vop O (.nextS (.k x7)) h 8 fun x8 h =>
 vext x8 0 h fun x9 h =>
 vif x9 (
 vext x8 1 h fun x10 h =>
 vindex x0 x10 h fun x14 h =>
 vcall O x1 [x14] h 15 fun x15 h =>
 vop O (.un .not (.k x15)) h 16 fun x16 h =>
 vif x16 (
 tcomp x10 fun c0 => vfin true q [c0] h)
 (R 1 [x0, x1, x7] h))
 (R 2 [x0] h)
theorem e80_1 (O : Oracle) (R : Jump) (q : Nat) (x0 x1 x7 : TVal) (h : Heap) : b80_1 O R q x0 x1 x7 h = stepF c80 O R q 1 [x0, x1, x7] h := by kernel_rfl
noncomputable def b80_2 (O : Oracle) (R : Jump) (q : Nat) (x0 : TVal) (h : Heap) : Res1 :=
 vlen O 0 x0 h 19 fun x19 h =>
 tcomp x19 fun c0 => vfin true q [c0] h
theorem e80_2 (O : Oracle) (R : Jump) (q : Nat) (x0 : TVal) (h : Heap) : b80_2 O R q x0 h = stepF c80 O R q 2 [x0] h := by kernel_rfl
noncomputable def d80 : BlkF := fun O R q => [.s fun y0 => .s fun y1 => .z fun h => b80_0 O R q y0 y1 h, .s fun y0 => .s fun y1 => .s fun y2 => .z fun h => b80_1 O R q y0 y1 y2 h, .s fun y0 => .z fun h => b80_2 O R q y0 h]
theorem o80 (O : Oracle) (R : Jump) (q : Nat) : HoldsAll c80 O R q 0 (d80 O R q) := ⟨fun y0 y1 h => e80_0 O R q y0 y1 h, fun y0 y1 y2 h => e80_1 O R q y0 y1 y2 h, fun y0 h => e80_2 O R q y0 h, trivial⟩
/- sprue/scan.row$1 -/
def c81 : MFunc := { np := 1, res := [.t 2], frz := true, body := (.seq (.reg [(oA 2 (.mv (.k (.v (.c (.p (.bool false)))))))] []) (.seq (.reg [(oA 3 (.mv (.t 0))), (oA 4 (.call (.k (.v (.c (.func 82 [])))) [(.t 3)])), (oA 5 (.mv (.t 4))), ⟨(some 6), (.mv (.t 0)), (some (5, false))⟩, ⟨(some 7), (.call (.k (.v (.c (.func 69 [])))) [(.t 6)]), (some (5, false))⟩, (oA 8 (.pick (.t 5) (.k (.v (.c (.p (.bool true))))) (.t 7))), (oA 2 (.mv (.t 8)))] []) .ret)) }
theorem t81 : compF Tryd.prog (globs2 tabs opq) (fun _ => false) true Tryd.f81 = some c81.erase := by kernel_rfl
noncomputable def b81_0 (O : Oracle) (R : Jump) (q : Nat) (x0 : TVal) (h : Heap) : Res1 :=
 vcall O (.v (.c (.func 82 []))) [x0] h 4 fun x4 h =>
 vguard x4 false (fun kk => kk x0 h) h fun x6 h =>
 vguard x4 false (fun kk => vcall O (.v (.c (.func 69 []))) [x6] h 7 kk) h fun x7 h =>
 vop O (.pick (.k x4) (.k (kB true)) (.k x7)) h 8 fun x8 h =>
 tcomp x8 fun c0 => vfin true q [c0] h
theorem e81_0 (O : Oracle) (R : Jump) (q : Nat) (x0 : TVal) (h : Heap) : b81_0 O R q x0 h = stepF c81 O R q 0 [x0] h := by kernel_rfl
noncomputable def d81 : BlkF := fun O R q => [.s fun y0 => .z fun h => b81_0 O R q y0 h]
theorem o81 (O : Oracle) (R : Jump) (q : Nat) : HoldsAll c81 O R q 0 (d81 O R q) := ⟨fun y0 h => e81_0 O R q y0 h, trivial⟩
/- sprue/scan.letter -/
def c82 : MFunc := { np := 1, res := [.t 2], frz := true, body := (.seq (.reg [(oA 2 (.mv (.k (.v (.c (.p (.bool false)))))))] []) (.seq (.reg [(oA 3 (.mv (.t 0))), (oA 4 (.bin .eql 0 (.t 3) (.k (.v (.c (.p (.int .u8 95))))))), (oA 5 (.mv (.t 4))), ⟨(some 6), (.mv (.t 0)), (some (5, false))⟩, ⟨(some 7), (.bin .or 0 (.t 6) (.k (.v (.c (.p (.int .u8 32)))))), (some (5, false))⟩, ⟨(some 8), (.bin .geq 0 (.t 7) (.k (.v (.c (.p (.int .u8 97)))))), (some (5, false))⟩, ⟨(some 9), (.mv (.t 8)), (some (5, false))⟩, ⟨(some 10), (.mv (.t 0)), (some (9, true))⟩, ⟨(some 11), (.bin .or 0 (.t 10) (.k (.v (.c (.p (.int .u8 32)))))), (some (9, true))⟩, ⟨(some 12), (.bin .leq 0 (.t 11) (.k (.v (.c (.p (.int .u8 122)))))), (some (9, true))⟩, ⟨(some 13), (.pick (.t 9) (.t 12) (.k (.v (.c (.p (.bool false)))))), (some (5, false))⟩, (oA 14 (.pick (.t 5) (.k (.v (.c (.p (.bool true))))) (.t 13))), (oA 2 (.mv (.t 14)))] []) .ret)) }
theorem t82 : compF Tryd.prog (globs2 tabs opq) (fun _ => false) true Tryd.f82 = some c82.erase := by kernel_rfl
noncomputable def b82_0 (O : Oracle) (R : Jump) (q : Nat) (x0 : TVal) (h : Heap) : Res1 :=
 vbin .eql 0 x0 (.v (.c (.p (.int .u8 95)))) h fun x4 h =>
 vguard x4 false (fun kk => kk x0 h) h fun x6 h =>
 vguard x4 false (fun kk => vbin .or 0 x6 (.v (.c (.p (.int .u8 32)))) h kk) h fun x7 h =>
 vguard x4 false (fun kk => vbin .geq 0 x7 (.v (.c (.p (.int .u8 97)))) h kk) h fun x8 h =>
 vguard x4 false (fun kk => kk x8 h) h fun x9 h =>
 vguard x9 true (fun kk => kk x0 h) h fun x10 h =>
 vguard x9 true (fun kk => vbin .or 0 x10 (.v (.c (.p (.int .u8 32)))) h kk) h fun x11 h =>
 vguard x9 true (fun kk => vbin .leq 0 x11 (.v (.c (.p (.int .u8 122)))) h kk) h fun x12 h =>
 vguard x4 false (fun kk => vop O (.pick (.k x9) (.k x12) (.k (kB false))) h 13 kk) h fun x13 h =>
 vop O (.pick (.k x4) (.k (kB true)) (.k x13)) h 14 fun x14 h =>
 tcomp x14 fun c0 => vfin true q [c0] h
theorem e82_0 (O : Oracle) (R : Jump) (q : Nat) (x0 : TVal) (h : Heap) : b82_0 O R q x0 h = stepF c82 O R q 0 [x0] h := by kernel_rfl
noncomputable def d82 : BlkF := fun O R q => [.s fun y0 => .z fun h => b82_0 O R q y0 h]
theorem o82 (O : Oracle) (R : Jump) (q : Nat) : HoldsAll c82 O R q 0 (d82 O R q) := ⟨fun y0 h => e82_0 O R q y0 h, trivial⟩
end Go.Proofs.YtpfbbgjefdbbmaaDoor.Ab
