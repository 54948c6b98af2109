/- Functions of the given program as the abstract interpreter has them (part 0), printed by a program of our own; each is shown to be what 'compF' makes of the given program's. No condition. -/
import Derived.Test.YtljhpmggifjigaaDoorChecked
import Derived.Test.YtljhpmggifjigaaDoorAd
namespace Go.Proofs.YtljhpmggifjigaaDoor.Ab
open Go Go.AI
set_option linter.all false
set_option linter.unusedVariables false
set_option maxRecDepth 100000
def vals0 : List Int := [0, 0, 0, 0, 0, 0, 0, 0, 0, 1, 1, 1, 1, 1, 0, 0, 0, 0, 0, 0, 0, 0, 0, 0, 0, 0, 0, 0, 0, 0, 0, 0, 1, 0, 0, 0, 0, 0, 0, 0, 0, 0, 0, 0, 0, 0, 0, 0, 0, 0, 0, 0, 0, 0, 0, 0, 0, 0, 0, 0, 0, 0, 0, 0, 0, 0, 0, 0, 0, 0, 0, 0, 0, 0, 0, 0, 0, 0, 0, 0, 0, 0, 0, 0, 0, 0, 0, 0, 0, 0, 0, 0, 0, 0, 0, 0, 0, 0, 0, 0, 0, 0, 0, 0, 0, 0, 0, 0, 0, 0, 0, 0, 0, 0, 0, 0, 0, 0, 0, 0, 0, 0, 0, 0, 0, 0, 0, 0, 0, 0, 0, 0, 0, 0, 0, 0, 0, 0, 0, 0, 0, 0, 0, 0, 0, 0, 0, 0, 0, 0, 0, 0, 0, 0, 0, 0, 0, 0, 0, 0, 0, 0, 0, 0, 0, 0, 0, 0, 0, 0, 0, 0, 0, 0, 0, 0, 0, 0, 0, 0, 0, 0, 0, 0, 0, 0, 0, 0, 0, 0, 0, 0, 0, 0, 0, 0, 0, 0, 0, 0, 0, 0, 0, 0, 0, 0, 0, 0, 0, 0, 0, 0, 0, 0, 0, 0, 0, 0, 0, 0, 0, 0, 0, 0, 0, 0, 0, 0, 0, 0, 0, 0, 0, 0, 0, 0, 0, 0, 0, 0, 0, 0, 0, 0, 0, 0, 0, 0, 0, 0, 0, 0, 0, 0, 0, 0]
def tabs : List Tabl := [Tabl.mk "strings.asciiSpace" 1 .u8 [0, 0, 0, 0, 0, 0, 0, 0, 0, 1, 1, 1, 1, 1, 0, 0, 0, 0, 0, 0, 0, 0, 0, 0, 0, 0, 0, 0, 0, 0, 0, 0, 1, 0, 0, 0, 0, 0, 0, 0, 0, 0, 0, 0, 0, 0, 0, 0, 0, 0, 0, 0, 0, 0, 0, 0, 0, 0, 0, 0, 0, 0, 0, 0, 0, 0, 0, 0, 0, 0, 0, 0, 0, 0, 0, 0, 0, 0, 0, 0, 0, 0, 0, 0, 0, 0, 0, 0, 0, 0, 0, 0, 0, 0, 0, 0, 0, 0, 0, 0, 0, 0, 0, 0, 0, 0, 0, 0, 0, 0, 0, 0, 0, 0, 0, 0, 0, 0, 0, 0, 0, 0, 0, 0, 0, 0, 0, 0, 0, 0, 0, 0, 0, 0, 0, 0, 0, 0, 0, 0, 0, 0, 0, 0, 0, 0, 0, 0, 0, 0, 0, 0, 0, 0, 0, 0, 0, 0, 0, 0, 0, 0, 0, 0, 0, 0, 0, 0, 0, 0, 0, 0, 0, 0, 0, 0, 0, 0, 0, 0, 0, 0, 0, 0, 0, 0, 0, 0, 0, 0, 0, 0, 0, 0, 0, 0, 0, 0, 0, 0, 0, 0, 0, 0, 0, 0, 0, 0, 0, 0, 0, 0, 0, 0, 0, 0, 0, 0, 0, 0, 0, 0, 0, 0, 0, 0, 0, 0, 0, 0, 0, 0, 0, 0, 0, 0, 0, 0, 0, 0, 0, 0, 0, 0, 0, 0, 0, 0, 0, 0, 0, 0, 0, 0, 0, 0]]
def opq : Option Nat := some 0
/- sprue/spruelaw1.ScanBlanks -/
def c3 : MFunc := { np := 2, res := [.t 4], frz := true, body := (.seq (.reg [(oA 4 (.mv (.k (.v (.c (.p (.bool false)))))))] []) (.seq (.seq (.reg [(oA 16 (.call (.k (.v (.c (.func 12 [])))) [])), (oA 17 (.un .not (.t 16)))] []) (.cond (.t 17) (.seq (.reg [(oA 4 (.mv (.k (.v (.c (.p (.bool false)))))))] []) .ret) .skip)) (.seq (.reg [(oA 5 (.mv (.k (.v (.c (.p (.str []))))))), (oA 6 (.mv (.k (.v (.c (.p (.str [])))))))] []) (.seq (.seq (.reg [(oA 7 (.mv (.k (.v (.c (.p (.int .i64 0)))))))] []) (.block 0 (.loop 1 [0, 1, 5, 6, 7] (.seq (.seq (.reg [(oA 18 (.mv (.t 7))), (oA 19 (.mv (.t 0))), (oA 20 (.len 2 (.t 19))), (oA 21 (.bin .lss 0 (.t 18) (.t 20))), (oA 22 (.mv (.t 21))), ⟨(some 23), (.mv (.t 7)), (some (22, true))⟩, ⟨(some 24), (.bin .lss 0 (.t 23) (.k (.v (.c (.p (.int .i64 30)))))), (some (22, true))⟩, (oA 25 (.pick (.t 22) (.t 24) (.k (.v (.c (.p (.bool false)))))))] []) (.cond (.t 25) .skip (.exit 0))) (.seq (.block 1 (.seq (.reg [(oA 28 (.mv (.t 0))), (oA 29 (.mv (.t 7))), (oA 30 (.iaddr 1 (.t 28) (.t 29))), (oA 31 (.load false 1 (.t 30))), (oA 32 (.call (.k (.v (.c (.func 13 [])))) [(.t 31)])), (oA 8 (.mv (.t 32)))] []) (.seq (.seq (.reg [(oA 34 (.mv (.t 8))), (oA 35 (.call (.k (.v (.c (.func 14 [])))) [(.t 34)])), (oA 33 (.mv (.t 35))), (oA 36 (.extract (.t 33) 0)), (oA 37 (.extract (.t 33) 1)), (oA 9 (.mv (.t 36))), (oA 10 (.mv (.t 37)))] []) (.seq (.reg [(oA 38 (.mv (.t 10))), (oA 39 (.bin .neq 0 (.t 38) (.k (.v (.c (.p (.int .i64 0)))))))] []) (.cond (.t 39) (.seq (.reg [(oA 4 (.mv (.k (.v (.c (.p (.bool true)))))))] []) .ret) .skip))) (.seq (.reg [(oA 40 (.mv (.t 5))), (oA 41 (.mv (.t 8))), (oA 42 (.bin .add 0 (.t 40) (.t 41))), (oA 43 (.bin .add 0 (.t 42) (.k (.v (.c (.p (.str [32]))))))), (oA 5 (.mv (.t 43)))] []) (.seq (.reg [(oA 44 (.mv (.t 6))), (oA 45 (.bin .add 0 (.t 44) (.k (.v (.c (.p (.str [10]))))))), (oA 46 (.mv (.t 8))), (oA 47 (.bin .add 0 (.t 45) (.t 46))), (oA 6 (.mv (.t 47)))] []) (.seq (.reg [(oA 48 (.mv (.t 7))), (oA 49 (.mv (.t 1))), (oA 50 (.len 2 (.t 49))), (oA 51 (.bin .lss 0 (.t 48) (.t 50)))] []) (.cond (.t 51) (.reg [(oA 52 (.mv (.t 6))), (oA 53 (.bslice 1 3 [(.p (.str []))] [(0, (.k (.v (.c (.p (.str [])))))), (1, (.k (.v (.c (.p (.str [32, 32])))))), (2, (.k (.v (.c (.p (.str [9, 13, 10]))))))] false)), (oA 54 (.mv (.t 1))), (oA 55 (.mv (.t 7))), (oA 56 (.iaddr 1 (.t 54) (.t 55))), (oA 57 (.load false 1 (.t 56))), (oA 58 (.call (.k (.v (.c (.func 15 [])))) [(.t 57), (.k (.v (.c (.p (.int .i64 3)))))])), (oA 59 (.iaddr 1 (.t 53) (.t 58))), (oA 60 (.load false 1 (.t 59))), (oA 61 (.bin .add 0 (.t 52) (.t 60))), (oA 6 (.mv (.t 61)))] []) .skip))))))) (.mark 2 [0, 1, 5, 6, 7] (.reg [(oA 26 (.mv (.t 7))), (oA 27 (.bin .add 0 (.t 26) (.k (.v (.c (.p (.int .i64 1))))))), (oA 7 (.mv (.t 27)))] []))))))) (.mark 3 [5, 6] (.seq (.reg [(oA 63 (.mv (.t 5))), (oA 64 (.call (.k (.v (.c (.func 16 [])))) [(.t 63)])), (oA 62 (.mv (.t 64))), (oA 65 (.extract (.t 62) 0)), (oA 66 (.extract (.t 62) 1)), (oA 11 (.mv (.t 65))), (oA 12 (.mv (.t 66)))] []) (.seq (.reg [(oA 68 (.mv (.t 6))), (oA 69 (.call (.k (.v (.c (.func 16 [])))) [(.t 68)])), (oA 67 (.mv (.t 69))), (oA 70 (.extract (.t 67) 0)), (oA 71 (.extract (.t 67) 1)), (oA 13 (.mv (.t 70))), (oA 14 (.mv (.t 71)))] []) (.seq (.seq (.reg [(oA 72 (.mv (.t 12))), (oA 73 (.mv (.t 14))), (oA 74 (.bin .neq 0 (.t 72) (.t 73))), (oA 75 (.mv (.t 74))), ⟨(some 76), (.mv (.t 11)), (some (75, false))⟩, ⟨(some 77), (.len 2 (.t 76)), (some (75, false))⟩, ⟨(some 78), (.mv (.t 13)), (some (75, false))⟩, ⟨(some 79), (.len 2 (.t 78)), (some (75, false))⟩, ⟨(some 80), (.bin .neq 0 (.t 77) (.t 79)), (some (75, false))⟩, (oA 81 (.pick (.t 75) (.k (.v (.c (.p (.bool true))))) (.t 80)))] []) (.cond (.t 81) (.seq (.reg [(oA 4 (.mv (.k (.v (.c (.p (.bool false)))))))] []) .ret) .skip)) (.seq (.seq (.reg [(oA 15 (.mv (.k (.v (.c (.p (.int .i64 0)))))))] []) (.block 2 (.loop 4 [11, 13, 15] (.seq (.seq (.reg [(oA 82 (.mv (.t 15))), (oA 83 (.mv (.t 11))), (oA 84 (.len 2 (.t 83))), (oA 85 (.bin .lss 0 (.t 82) (.t 84)))] []) (.cond (.t 85) .skip (.exit 2))) (.seq (.block 3 (.seq (.reg [(oA 88 (.mv (.t 11))), (oA 89 (.mv (.t 15))), (oA 90 (.iaddr 4 (.t 88) (.t 89))), (oA 91 (.faddr 0 (.t 90))), (oA 92 (.load false 1 (.t 91))), (oA 93 (.mv (.t 13))), (oA 94 (.mv (.t 15))), (oA 95 (.iaddr 4 (.t 93) (.t 94))), (oA 96 (.faddr 0 (.t 95))), (oA 97 (.load false 1 (.t 96))), (oA 98 (.bin .neq 0 (.t 92) (.t 97))), (oA 99 (.mv (.t 98))), ⟨(some 100), (.mv (.t 11)), (some (99, false))⟩, ⟨(some 101), (.mv (.t 15)), (some (99, false))⟩, ⟨(some 102), (.iaddr 4 (.t 100) (.t 101)), (some (99, false))⟩, ⟨(some 103), (.faddr 1 (.t 102)), (some (99, false))⟩, ⟨(some 104), (.load false 1 (.t 103)), (some (99, false))⟩, ⟨(some 105), (.mv (.t 13)), (some (99, false))⟩, ⟨(some 106), (.mv (.t 15)), (some (99, false))⟩, ⟨(some 107), (.iaddr 4 (.t 105) (.t 106)), (some (99, false))⟩, ⟨(some 108), (.faddr 1 (.t 107)), (some (99, false))⟩, ⟨(some 109), (.load false 1 (.t 108)), (some (99, false))⟩, ⟨(some 110), (.bin .neq 0 (.t 104) (.t 109)), (some (99, false))⟩, (oA 111 (.pick (.t 99) (.k (.v (.c (.p (.bool true))))) (.t 110))), (oA 112 (.mv (.t 111))), ⟨(some 113), (.mv (.t 11)), (some (112, false))⟩, ⟨(some 114), (.mv (.t 15)), (some (112, false))⟩, ⟨(some 115), (.iaddr 4 (.t 113) (.t 114)), (some (112, false))⟩, ⟨(some 116), (.faddr 2 (.t 115)), (some (112, false))⟩, ⟨(some 117), (.load false 1 (.t 116)), (some (112, false))⟩, ⟨(some 118), (.mv (.t 13)), (some (112, false))⟩, ⟨(some 119), (.mv (.t 15)), (some (112, false))⟩, ⟨(some 120), (.iaddr 4 (.t 118) (.t 119)), (some (112, false))⟩, ⟨(some 121), (.faddr 2 (.t 120)), (some (112, false))⟩, ⟨(some 122), (.load false 1 (.t 121)), (some (112, false))⟩, ⟨(some 123), (.bin .neq 0 (.t 117) (.t 122)), (some (112, false))⟩, (oA 124 (.pick (.t 112) (.k (.v (.c (.p (.bool true))))) (.t 123))), (oA 125 (.mv (.t 124))), ⟨(some 126), (.mv (.t 15)), (some (125, false))⟩, ⟨(some 127), (.bin .gtr 0 (.t 126) (.k (.v (.c (.p (.int .i64 0)))))), (some (125, false))⟩, ⟨(some 128), (.mv (.t 127)), (some (125, false))⟩, ⟨(some 129), (.mv (.t 13)), (some (128, true))⟩, ⟨(some 130), (.mv (.t 15)), (some (128, true))⟩, ⟨(some 131), (.iaddr 4 (.t 129) (.t 130)), (some (128, true))⟩, ⟨(some 132), (.faddr 3 (.t 131)), (some (128, true))⟩, ⟨(some 133), (.load false 1 (.t 132)), (some (128, true))⟩, ⟨(some 134), (.mv (.t 13)), (some (128, true))⟩, ⟨(some 135), (.mv (.t 15)), (some (128, true))⟩, ⟨(some 136), (.bin .sub 0 (.t 135) (.k (.v (.c (.p (.int .i64 1)))))), (some (128, true))⟩, ⟨(some 137), (.iaddr 4 (.t 134) (.t 136)), (some (128, true))⟩, ⟨(some 138), (.faddr 3 (.t 137)), (some (128, true))⟩, ⟨(some 139), (.load false 1 (.t 138)), (some (128, true))⟩, ⟨(some 140), (.bin .leq 0 (.t 133) (.t 139)), (some (128, true))⟩, ⟨(some 141), (.pick (.t 128) (.t 140) (.k (.v (.c (.p (.bool false)))))), (some (125, false))⟩, (oA 142 (.pick (.t 125) (.k (.v (.c (.p (.bool true))))) (.t 141)))] []) (.cond (.t 142) (.seq (.reg [(oA 4 (.mv (.k (.v (.c (.p (.bool false)))))))] []) .ret) .skip))) (.reg [(oA 86 (.mv (.t 15))), (oA 87 (.bin .add 0 (.t 86) (.k (.v (.c (.p (.int .i64 1))))))), (oA 15 (.mv (.t 87)))] [])))))) (.seq (.reg [(oA 4 (.mv (.k (.v (.c (.p (.bool true)))))))] []) .ret)))))))))) }
theorem t3 : compF Tryd.prog (globs2 tabs opq) (fun _ => false) true Tryd.f3 = some c3.erase := by kernel_rfl
noncomputable def b3_0 (O : Oracle) (R : Jump) (q : Nat) (x0 x1 : TVal) (h : Heap) : Res1 :=
 vcall O (.v (.c (.func 12 []))) [] h 16 fun x16 h =>
 vop O (.un .not (.k x16)) h 17 fun x17 h =>
 vif x17 (
 tcomp (kB false) fun c0 => vfin true q [c0] h)
 (R 1 [x0, x1, (kS []), (kS []), (kI 0)] h)
theorem e3_0 (O : Oracle) (R : Jump) (q : Nat) (x0 x1 : TVal) (h : Heap) : b3_0 O R q x0 x1 h = stepF c3 O R q 0 [x0, x1] h := by kernel_rfl
noncomputable def b3_1 (O : Oracle) (R : Jump) (q : Nat) (x0 x1 x5 x6 x7 : TVal) (h : Heap) : Res1 :=
 vlen O 2 x0 h 20 fun x20 h =>
 vbin .lss 0 x7 x20 h fun x21 h =>
 vguard x21 true (fun kk => kk x7 h) h fun x23 h =>
 vguard x21 true (fun kk => vbin .lss 0 x23 (kI 30) h kk) h fun x24 h =>
 vop O (.pick (.k x21) (.k x24) (.k (kB false))) h 25 fun x25 h =>
 vif x25 (
 viaddr 1 x0 x7 h fun x30 h =>
 vload false 1 x30 h fun x31 h =>
 vcall O (.v (.c (.func 13 []))) [x31] h 32 fun x32 h =>
 vcall O (.v (.c (.func 14 []))) [x32] h 35 fun x35 h =>
 vext x35 0 h fun x36 h =>
 vext x35 1 h fun x37 h =>
 vbin .neq 0 x37 (kI 0) h fun x39 h =>
 vif x39 (
 tcomp (kB true) fun c0 => vfin true q [c0] h)
 (vbin .add 0 x5 x32 h fun x42 h =>
 vbin .add 0 x42 (kS [32]) h fun x43 h =>
 vbin .add 0 x6 (kS [10]) h fun x45 h =>
 vbin .add 0 x45 x32 h fun x47 h =>
 vlen O 2 x1 h 50 fun x50 h =>
 vbin .lss 0 x7 x50 h fun x51 h =>
 vif x51 (
 vop O (.bslice 1 3 [(.p (.str []))] [(0, (.k (kS []))), (1, (.k (kS [32, 32]))), (2, (.k (kS [9, 13, 10])))] false) h 53 fun x53 h =>
 viaddr 1 x1 x7 h fun x56 h =>
 vload false 1 x56 h fun x57 h =>
 vcall O (.v (.c (.func 15 []))) [x57, (kI 3)] h 58 fun x58 h =>
 viaddr 1 x53 x58 h fun x59 h =>
 vload false 1 x59 h fun x60 h =>
 vbin .add 0 x47 x60 h fun x61 h =>
 R 2 [x0, x1, x43, x61, x7] h)
 (R 2 [x0, x1, x43, x47, x7] h)))
 (R 3 [x5, x6] h)
theorem e3_1 (O : Oracle) (R : Jump) (q : Nat) (x0 x1 x5 x6 x7 : TVal) (h : Heap) : b3_1 O R q x0 x1 x5 x6 x7 h = stepF c3 O R q 1 [x0, x1, x5, x6, x7] h := by kernel_rfl
noncomputable def b3_2 (O : Oracle) (R : Jump) (q : Nat) (x0 x1 x5 x6 x7 : TVal) (h : Heap) : Res1 :=
 vbin .add 0 x7 (kI 1) h fun x27 h =>
 R 1 [x0, x1, x5, x6, x27] h
theorem e3_2 (O : Oracle) (R : Jump) (q : Nat) (x0 x1 x5 x6 x7 : TVal) (h : Heap) : b3_2 O R q x0 x1 x5 x6 x7 h = stepF c3 O R q 2 [x0, x1, x5, x6, x7] h := by kernel_rfl
noncomputable def b3_3 (O : Oracle) (R : Jump) (q : Nat) (x5 x6 : TVal) (h : Heap) : Res1 :=
 vcall O (.v (.c (.func 16 []))) [x5] h 64 fun x64 h =>
 vext x64 0 h fun x65 h =>
 vext x64 1 h fun x66 h =>
 vcall O (.v (.c (.func 16 []))) [x6] h 69 fun x69 h =>
 vext x69 0 h fun x70 h =>
 vext x69 1 h fun x71 h =>
 vbin .neq 0 x66 x71 h fun x74 h =>
 vguard x74 false (fun kk => kk x65 h) h fun x76 h =>
 vguard x74 false (fun kk => vlen O 2 x76 h 77 kk) h fun x77 h =>
 vguard x74 false (fun kk => kk x70 h) h fun x78 h =>
 vguard x74 false (fun kk => vlen O 2 x78 h 79 kk) h fun x79 h =>
 vguard x74 false (fun kk => vbin .neq 0 x77 x79 h kk) h fun x80 h =>
 vop O (.pick (.k x74) (.k (kB true)) (.k x80)) h 81 fun x81 h =>
 vif x81 (
 tcomp (kB false) fun c0 => vfin true q [c0] h)
 (R 4 [x65, x70, (kI 0)] h)
theorem e3_3 (O : Oracle) (R : Jump) (q : Nat) (x5 x6 : TVal) (h : Heap) : b3_3 O R q x5 x6 h = stepF c3 O R q 3 [x5, x6] h := by kernel_rfl
noncomputable def b3_4 (O : Oracle) (R : Jump) (q : Nat) (x11 x13 x15 : TVal) (h : Heap) : Res1 :=
 vlen O 2 x11 h 84 fun x84 h =>
 vbin .lss 0 x15 x84 h fun x85 h =>
 vif x85 (
 viaddr 4 x11 x15 h fun x90 h =>
 vfaddr 0 x90 h fun x91 h =>
 vload false 1 x91 h fun x92 h =>
 viaddr 4 x13 x15 h fun x95 h =>
 vfaddr 0 x95 h fun x96 h =>
 vload false 1 x96 h fun x97 h =>
 vbin .neq 0 x92 x97 h fun x98 h =>
 vguard x98 false (fun kk => kk x11 h) h fun x100 h =>
 vguard x98 false (fun kk => kk x15 h) h fun x101 h =>
 vguard x98 false (fun kk => viaddr 4 x100 x101 h kk) h fun x102 h =>
 vguard x98 false (fun kk => vfaddr 1 x102 h kk) h fun x103 h =>
 vguard x98 false (fun kk => vload false 1 x103 h kk) h fun x104 h =>
 vguard x98 false (fun kk => kk x13 h) h fun x105 h =>
 vguard x98 false (fun kk => kk x15 h) h fun x106 h =>
 vguard x98 false (fun kk => viaddr 4 x105 x106 h kk) h fun x107 h =>
 vguard x98 false (fun kk => vfaddr 1 x107 h kk) h fun x108 h =>
 vguard x98 false (fun kk => vload false 1 x108 h kk) h fun x109 h =>
 vguard x98 false (fun kk => vbin .neq 0 x104 x109 h kk) h fun x110 h =>
 vop O (.pick (.k x98) (.k (kB true)) (.k x110)) h 111 fun x111 h =>
 vguard x111 false (fun kk => kk x11 h) h fun x113 h =>
 vguard x111 false (fun kk => kk x15 h) h fun x114 h =>
 vguard x111 false (fun kk => viaddr 4 x113 x114 h kk) h fun x115 h =>
 vguard x111 false (fun kk => vfaddr 2 x115 h kk) h fun x116 h =>
 vguard x111 false (fun kk => vload false 1 x116 h kk) h fun x117 h =>
 vguard x111 false (fun kk => kk x13 h) h fun x118 h =>
 vguard x111 false (fun kk => kk x15 h) h fun x119 h =>
 vguard x111 false (fun kk => viaddr 4 x118 x119 h kk) h fun x120 h =>
 vguard x111 false (fun kk => vfaddr 2 x120 h kk) h fun x121 h =>
 vguard x111 false (fun kk => vload false 1 x121 h kk) h fun x122 h =>
 vguard x111 false (fun kk => vbin .neq 0 x117 x122 h kk) h fun x123 h =>
 vop O (.pick (.k x111) (.k (kB true)) (.k x123)) h 124 fun x124 h =>
 vguard x124 false (fun kk => kk x15 h) h fun x126 h =>
 vguard x124 false (fun kk => vbin .gtr 0 x126 (kI 0) h kk) h fun x127 h =>
 vguard x124 false (fun kk => kk x127 h) h fun x128 h =>
 vguard x128 true (fun kk => kk x13 h) h fun x129 h =>
 vguard x128 true (fun kk => kk x15 h) h fun x130 h =>
 vguard x128 true (fun kk => viaddr 4 x129 x130 h kk) h fun x131 h =>
 vguard x128 true (fun kk => vfaddr 3 x131 h kk) h fun x132 h =>
 vguard x128 true (fun kk => vload false 1 x132 h kk) h fun x133 h =>
 vguard x128 true (fun kk => kk x13 h) h fun x134 h =>
 vguard x128 true (fun kk => kk x15 h) h fun x135 h =>
 vguard x128 true (fun kk => vbin .sub 0 x135 (kI 1) h kk) h fun x136 h =>
 vguard x128 true (fun kk => viaddr 4 x134 x136 h kk) h fun x137 h =>
 vguard x128 true (fun kk => vfaddr 3 x137 h kk) h fun x138 h =>
 vguard x128 true (fun kk => vload false 1 x138 h kk) h fun x139 h =>
 vguard x128 true (fun kk => vbin .leq 0 x133 x139 h kk) h fun x140 h =>
 vguard x124 false (fun kk => vop O (.pick (.k x128) (.k x140) (.k (kB false))) h 141 kk) h fun x141 h =>
 vop O (.pick (.k x124) (.k (kB true)) (.k x141)) h 142 fun x142 h =>
 vif x142 (
 tcomp (kB false) fun c0 => vfin true q [c0] h)
 (vbin .add 0 x15 (kI 1) h fun x87 h =>
 R 4 [x11, x13, x87] h))
 (tcomp (kB true) fun c0 => vfin true q [c0] h)
theorem e3_4 (O : Oracle) (R : Jump) (q : Nat) (x11 x13 x15 : TVal) (h : Heap) : b3_4 O R q x11 x13 x15 h = stepF c3 O R q 4 [x11, x13, x15] h := by kernel_rfl
noncomputable def d3 : BlkF := fun O R q => [.s fun y0 => .s fun y1 => .z fun h => b3_0 O R q y0 y1 h, .s fun y0 => .s fun y1 => .s fun y2 => .s fun y3 => .s fun y4 => .z fun h => b3_1 O R q y0 y1 y2 y3 y4 h, .s fun y0 => .s fun y1 => .s fun y2 => .s fun y3 => .s fun y4 => .z fun h => b3_2 O R q y0 y1 y2 y3 y4 h, .s fun y0 => .s fun y1 => .z fun h => b3_3 O R q y0 y1 h, .s fun y0 => .s fun y1 => .s fun y2 => .z fun h => b3_4 O R q y0 y1 y2 h]
theorem o3 (O : Oracle) (R : Jump) (q : Nat) : HoldsAll c3 O R q 0 (d3 O R q) := ⟨fun y0 y1 h => e3_0 O R q y0 y1 h, fun y0 y1 y2 y3 y4 h => e3_1 O R q y0 y1 y2 y3 y4 h, fun y0 y1 y2 y3 y4 h => e3_2 O R q y0 y1 y2 y3 y4 h, fun y0 y1 h => e3_3 O R q y0 y1 h, fun y0 y1 y2 h => e3_4 O R q y0 y1 y2 h, trivial⟩
/- sprue/spruelaw1.ScanBounds -/
def c4 : MFunc := { np := 2, res := [.t 4], frz := true, body := (.seq (.reg [(oA 4 (.mv (.k (.v (.c (.p (.bool false)))))))] []) (.seq (.seq (.reg [(oA 12 (.call (.k (.v (.c (.func 12 [])))) [])), (oA 13 (.un .not (.t 12)))] []) (.cond (.t 13) (.seq (.reg [(oA 4 (.mv (.k (.v (.c (.p (.bool false)))))))] []) .ret) .skip)) (.seq (.reg [(oA 14 (.mv (.t 1))), (oA 15 (.call (.k (.v (.c (.func 15 [])))) [(.t 14), (.k (.v (.c (.p (.int .i64 4)))))])), (oA 1 (.mv (.t 15)))] []) (.seq (.reg [(oA 5 (.mv (.k (.v (.c (.p (.str []))))))), (oA 6 (.mv (.k (.v (.c (.p (.int .i64 1500))))))), (oA 7 (.mv (.k (.v (.c (.p (.int .i64 4)))))))] []) (.seq (.reg [(oA 8 (.mv (.k (.v (.c (.p (.str [32])))))))] []) (.seq (.seq (.reg [(oA 16 (.mv (.t 0))), (oA 17 (.call (.k (.v (.c (.func 15 [])))) [(.t 16), (.k (.v (.c (.p (.int .i64 4)))))]))] []) (.block 0 (.seq (.reg [(oA 19 (.bin .eql 0 (.t 17) (.k (.v (.c (.p (.int .i64 1))))))), (oA 18 (.mv (.t 19)))] []) (.cond (.t 18) (.reg [(oA 8 (.mv (.k (.v (.c (.p (.str [113]))))))), (oA 6 (.mv (.k (.v (.c (.p (.int .i64 16)))))))] []) (.seq (.reg [(oA 21 (.bin .eql 0 (.t 17) (.k (.v (.c (.p (.int .i64 2))))))), (oA 20 (.mv (.t 21)))] []) (.cond (.t 20) (.reg [(oA 8 (.mv (.k (.v (.c (.p (.str [44]))))))), (oA 6 (.mv (.k (.v (.c (.p (.int .i64 400))))))), (oA 7 (.mv (.k (.v (.c (.p (.int .i64 3)))))))] []) (.seq (.reg [(oA 23 (.bin .eql 0 (.t 17) (.k (.v (.c (.p (.int .i64 3))))))), (oA 22 (.mv (.t 23)))] []) (.cond (.t 22) (.reg [(oA 5 (.mv (.k (.v (.c (.p (.str [34]))))))), (oA 8 (.mv (.k (.v (.c (.p (.str [122]))))))), (oA 6 (.mv (.k (.v (.c (.p (.int .i64 200)))))))] []) .skip)))))))) (.mark 1 [1, 5, 6, 7, 8] (.seq (.seq (.reg [(oA 9 (.mv (.k (.v (.c (.p (.int .i64 0)))))))] []) (.block 1 (.loop 2 [1, 5, 6, 7, 8, 9] (.seq (.seq (.reg [(oA 24 (.mv (.t 9))), (oA 25 (.mv (.t 6))), (oA 26 (.bin .sub 0 (.t 25) (.k (.v (.c (.p (.int .i64 1))))))), (oA 27 (.mv (.t 1))), (oA 28 (.bin .add 0 (.t 26) (.t 27))), (oA 29 (.bin .lss 0 (.t 24) (.t 28)))] []) (.cond (.t 29) .skip (.exit 1))) (.seq (.block 2 (.reg [(oA 32 (.mv (.t 5))), (oA 33 (.mv (.t 8))), (oA 34 (.bin .add 0 (.t 32) (.t 33))), (oA 5 (.mv (.t 34)))] [])) (.reg [(oA 30 (.mv (.t 9))), (oA 31 (.bin .add 0 (.t 30) (.k (.v (.c (.p (.int .i64 1))))))), (oA 9 (.mv (.t 31)))] [])))))) (.mark 3 [1, 5, 7] (.seq (.seq (.reg [(oA 35 (.mv (.t 5))), (oA 36 (.index (.t 35) (.k (.v (.c (.p (.int .i64 0))))))), (oA 37 (.bin .eql 0 (.t 36) (.k (.v (.c (.p (.int .u8 34)))))))] []) (.cond (.t 37) (.reg [(oA 38 (.mv (.t 5))), (oA 39 (.bin .add 0 (.t 38) (.k (.v (.c (.p (.str [34]))))))), (oA 5 (.mv (.t 39)))] []) .skip)) (.mark 4 [1, 5, 7] (.seq (.reg [(oA 41 (.mv (.t 5))), (oA 42 (.call (.k (.v (.c (.func 16 [])))) [(.t 41)])), (oA 40 (.mv (.t 42))), (oA 43 (.extract (.t 40) 0)), (oA 44 (.extract (.t 40) 1)), (oA 10 (.mv (.t 43))), (oA 11 (.mv (.t 44)))] []) (.seq (.reg [(oA 45 (.mv (.t 1))), (oA 46 (.bin .leq 0 (.t 45) (.k (.v (.c (.p (.int .i64 1))))))), (oA 47 (.mv (.t 46))), ⟨(some 48), (.mv (.t 11)), (some (47, true))⟩, ⟨(some 49), (.bin .eql 0 (.t 48) (.k (.v (.c (.p (.int .i64 0)))))), (some (47, true))⟩, (oA 50 (.pick (.t 47) (.t 49) (.k (.v (.c (.p (.bool false))))))), (oA 51 (.mv (.t 50))), ⟨(some 52), (.mv (.t 1)), (some (51, false))⟩, ⟨(some 53), (.bin .gtr 0 (.t 52) (.k (.v (.c (.p (.int .i64 1)))))), (some (51, false))⟩, ⟨(some 54), (.mv (.t 53)), (some (51, false))⟩, ⟨(some 55), (.mv (.t 11)), (some (54, true))⟩, ⟨(some 56), (.mv (.t 7)), (some (54, true))⟩, ⟨(some 57), (.bin .eql 0 (.t 55) (.t 56)), (some (54, true))⟩, ⟨(some 58), (.pick (.t 54) (.t 57) (.k (.v (.c (.p (.bool false)))))), (some (51, false))⟩, (oA 59 (.pick (.t 51) (.k (.v (.c (.p (.bool true))))) (.t 58))), (oA 4 (.mv (.t 59)))] []) .ret))))))))))))) }
theorem t4 : compF Tryd.prog (globs2 tabs opq) (fun _ => false) true Tryd.f4 = some c4.erase := by kernel_rfl
noncomputable def b4_0 (O : Oracle) (R : Jump) (q : Nat) (x0 x1 : TVal) (h : Heap) : Res1 :=
 vcall O (.v (.c (.func 12 []))) [] h 12 fun x12 h =>
 vop O (.un .not (.k x12)) h 13 fun x13 h =>
 vif x13 (
 tcomp (kB false) fun c0 => vfin true q [c0] h)
 (vcall O (.v (.c (.func 15 []))) [x1, (kI 4)] h 15 fun x15 h =>
 vcall O (.v (.c (.func 15 []))) [x0, (kI 4)] h 17 fun x17 h =>
 vbin .eql 0 x17 (kI 1) h fun x19 h =>
 vif x19 (
 R 1 [x15, (kS []), (kI 16), (kI 4), (kS [113])] h)
 (vbin .eql 0 x17 (kI 2) h fun x21 h =>
 vif x21 (
 R 1 [x15, (kS []), (kI 400), (kI 3), (kS [44])] h)
 (vbin .eql 0 x17 (kI 3) h fun x23 h =>
 vif x23 (
 R 1 [x15, (kS [34]), (kI 200), (kI 4), (kS [122])] h)
 (R 1 [x15, (kS []), (kI 1500), (kI 4), (kS [32])] h))))
theorem e4_0 (O : Oracle) (R : Jump) (q : Nat) (x0 x1 : TVal) (h : Heap) : b4_0 O R q x0 x1 h = stepF c4 O R q 0 [x0, x1] h := by kernel_rfl
noncomputable def b4_1 (O : Oracle) (R : Jump) (q : Nat) (x1 x5 x6 x7 x8 : TVal) (h : Heap) : Res1 :=
 R 2 [x1, x5, x6, x7, x8, (kI 0)] h
theorem e4_1 (O : Oracle) (R : Jump) (q : Nat) (x1 x5 x6 x7 x8 : TVal) (h : Heap) : b4_1 O R q x1 x5 x6 x7 x8 h = stepF c4 O R q 1 [x1, x5, x6, x7, x8] h := by kernel_rfl
noncomputable def b4_2 (O : Oracle) (R : Jump) (q : Nat) (x1 x5 x6 x7 x8 x9 : TVal) (h : Heap) : Res1 :=
 vbin .sub 0 x6 (kI 1) h fun x26 h =>
 vbin .add 0 x26 x1 h fun x28 h =>
 vbin .lss 0 x9 x28 h fun x29 h =>
 vif x29 (
 vbin .add 0 x5 x8 h fun x34 h =>
 vbin .add 0 x9 (kI 1) h fun x31 h =>
 R 2 [x1, x34, x6, x7, x8, x31] h)
 (R 3 [x1, x5, x7] h)
theorem e4_2 (O : Oracle) (R : Jump) (q : Nat) (x1 x5 x6 x7 x8 x9 : TVal) (h : Heap) : b4_2 O R q x1 x5 x6 x7 x8 x9 h = stepF c4 O R q 2 [x1, x5, x6, x7, x8, x9] h := by kernel_rfl
noncomputable def b4_3 (O : Oracle) (R : Jump) (q : Nat) (x1 x5 x7 : TVal) (h : Heap) : Res1 :=
 vindex x5 (kI 0) h fun x36 h =>
 vbin .eql 0 x36 (.v (.c (.p (.int .u8 34)))) h fun x37 h =>
 vif x37 (
 vbin .add 0 x5 (kS [34]) h fun x39 h =>
 R 4 [x1, x39, x7] h)
 (R 4 [x1, x5, x7] h)
theorem e4_3 (O : Oracle) (R : Jump) (q : Nat) (x1 x5 x7 : TVal) (h : Heap) : b4_3 O R q x1 x5 x7 h = stepF c4 O R q 3 [x1, x5, x7] h := by kernel_rfl
noncomputable def b4_4 (O : Oracle) (R : Jump) (q : Nat) (x1 x5 x7 : TVal) (h : Heap) : Res1 :=
 vcall O (.v (.c (.func 16 []))) [x5] h 42 fun x42 h =>
 vext x42 0 h fun x43 h =>
 vext x42 1 h fun x44 h =>
 vbin .leq 0 x1 (kI 1) h fun x46 h =>
 vguard x46 true (fun kk => kk x44 h) h fun x48 h =>
 vguard x46 true (fun kk => vbin .eql 0 x48 (kI 0) h kk) h fun x49 h =>
 vop O (.pick (.k x46) (.k x49) (.k (kB false))) h 50 fun x50 h =>
 vguard x50 false (fun kk => kk x1 h) h fun x52 h =>
 vguard x50 false (fun kk => vbin .gtr 0 x52 (kI 1) h kk) h fun x53 h =>
 vguard x50 false (fun kk => kk x53 h) h fun x54 h =>
 vguard x54 true (fun kk => kk x44 h) h fun x55 h =>
 vguard x54 true (fun kk => kk x7 h) h fun x56 h =>
 vguard x54 true (fun kk => vbin .eql 0 x55 x56 h kk) h fun x57 h =>
 vguard x50 false (fun kk => vop O (.pick (.k x54) (.k x57) (.k (kB false))) h 58 kk) h fun x58 h =>
 vop O (.pick (.k x50) (.k (kB true)) (.k x58)) h 59 fun x59 h =>
 tcomp x59 fun c0 => vfin true q [c0] h
theorem e4_4 (O : Oracle) (R : Jump) (q : Nat) (x1 x5 x7 : TVal) (h : Heap) : b4_4 O R q x1 x5 x7 h = stepF c4 O R q 4 [x1, x5, x7] h := by kernel_rfl
noncomputable def d4 : BlkF := fun O R q => [.s fun y0 => .s fun y1 => .z fun h => b4_0 O R q y0 y1 h, .s fun y0 => .s fun y1 => .s fun y2 => .s fun y3 => .s fun y4 => .z fun h => b4_1 O R q y0 y1 y2 y3 y4 h, .s fun y0 => .s fun y1 => .s fun y2 => .s fun y3 => .s fun y4 => .s fun y5 => .z fun h => b4_2 O R q y0 y1 y2 y3 y4 y5 h, .s fun y0 => .s fun y1 => .s fun y2 => .z fun h => b4_3 O R q y0 y1 y2 h, .s fun y0 => .s fun y1 => .s fun y2 => .z fun h => b4_4 O R q y0 y1 y2 h]
theorem o4 (O : Oracle) (R : Jump) (q : Nat) : HoldsAll c4 O R q 0 (d4 O R q) := ⟨fun y0 y1 h => e4_0 O R q y0 y1 h, fun y0 y1 y2 y3 y4 h => e4_1 O R q y0 y1 y2 y3 y4 h, fun y0 y1 y2 y3 y4 y5 h => e4_2 O R q y0 y1 y2 y3 y4 y5 h, fun y0 y1 y2 h => e4_3 O R q y0 y1 y2 h, fun y0 y1 y2 h => e4_4 O R q y0 y1 y2 h, trivial⟩
/- sprue/spruelaw1.ScanNumbers -/
def c5 : MFunc := { np := 3, res := [.t 6], frz := true, body := (.seq (.reg [(oA 6 (.mv (.k (.v (.c (.p (.bool false)))))))] []) (.seq (.seq (.reg [(oA 14 (.call (.k (.v (.c (.func 12 [])))) [])), (oA 15 (.un .not (.t 14)))] []) (.cond (.t 15) (.seq (.reg [(oA 6 (.mv (.k (.v (.c (.p (.bool false)))))))] []) .ret) .skip)) (.seq (.reg [(oA 7 (.mv (.k (.v (.c (.p (.str [])))))))] []) (.seq (.reg [(oA 16 (.mv (.t 0))), (oA 17 (.toInt .u64 (.t 16))), (oA 8 (.mv (.t 17)))] []) (.seq (.seq (.reg [(oA 18 (.mv (.t 0))), (oA 19 (.bin .lss 0 (.t 18) (.k (.v (.c (.p (.int .i64 0)))))))] []) (.cond (.t 19) (.reg [(oA 20 (.mv (.t 8))), (oA 21 (.un .neg (.t 20))), (oA 8 (.mv (.t 21)))] []) .skip)) (.mark 1 [0, 1, 2, 7, 8] (.seq (.seq (.reg [(oA 9 (.mv (.k (.v (.c (.p (.int .i64 0)))))))] []) (.block 0 (.loop 2 [0, 1, 2, 7, 8, 9] (.seq (.seq (.reg [(oA 22 (.mv (.t 9))), (oA 23 (.bin .eql 0 (.t 22) (.k (.v (.c (.p (.int .i64 0))))))), (oA 24 (.mv (.t 23))), ⟨(some 25), (.mv (.t 8)), (some (24, false))⟩, ⟨(some 26), (.bin .gtr 0 (.t 25) (.k (.v (.c (.p (.int .u64 0)))))), (some (24, false))⟩, (oA 27 (.pick (.t 24) (.k (.v (.c (.p (.bool true))))) (.t 26)))] []) (.cond (.t 27) .skip (.exit 0))) (.seq (.block 1 (.seq (.reg [(oA 30 (.mv (.t 8))), (oA 31 (.bin .rem 0 (.t 30) (.k (.v (.c (.p (.int .u64 10))))))), (oA 32 (.bin .add 0 (.k (.v (.c (.p (.int .u64 48))))) (.t 31))), (oA 33 (.toInt .u8 (.t 32))), (oA 34 (.bslice 1 1 [(.p (.int .u8 0))] [(0, (.t 33))] false)), (oA 35 (.toStr (.t 34))), (oA 36 (.mv (.t 7))), (oA 37 (.bin .add 0 (.t 35) (.t 36))), (oA 7 (.mv (.t 37)))] []) (.reg [(oA 38 (.mv (.t 8))), (oA 39 (.bin .quo 0 (.t 38) (.k (.v (.c (.p (.int .u64 10))))))), (oA 8 (.mv (.t 39)))] []))) (.reg [(oA 28 (.mv (.t 9))), (oA 29 (.bin .add 0 (.t 28) (.k (.v (.c (.p (.int .i64 1))))))), (oA 9 (.mv (.t 29)))] [])))))) (.mark 3 [0, 1, 2, 7] (.seq (.seq (.reg [(oA 40 (.mv (.t 0))), (oA 41 (.bin .lss 0 (.t 40) (.k (.v (.c (.p (.int .i64 0)))))))] []) (.cond (.t 41) (.reg [(oA 42 (.mv (.t 7))), (oA 43 (.bin .add 0 (.k (.v (.c (.p (.str [45]))))) (.t 42))), (oA 7 (.mv (.t 43)))] []) .skip)) (.mark 4 [0, 1, 2, 7] (.seq (.reg [(oA 44 (.bslice 1 5 [(.p (.str []))] [(0, (.k (.v (.c (.p (.str [])))))), (1, (.k (.v (.c (.p (.str [32])))))), (2, (.k (.v (.c (.p (.str [46])))))), (3, (.k (.v (.c (.p (.str [41])))))), (4, (.k (.v (.c (.p (.str [97]))))))] false)), (oA 45 (.mv (.t 1))), (oA 46 (.call (.k (.v (.c (.func 15 [])))) [(.t 45), (.k (.v (.c (.p (.int .i64 5)))))])), (oA 47 (.iaddr 1 (.t 44) (.t 46))), (oA 48 (.load false 1 (.t 47))), (oA 10 (.mv (.t 48)))] []) (.seq (.seq (.reg [(oA 49 (.mv (.t 2)))] []) (.cond (.t 49) (.reg [(oA 50 (.mv (.t 7))), (oA 51 (.bin .add 0 (.k (.v (.c (.p (.str [44]))))) (.t 50))), (oA 7 (.mv (.t 51)))] []) .skip)) (.mark 5 [0, 2, 7, 10] (.seq (.reg [(oA 53 (.mv (.t 7))), (oA 54 (.mv (.t 10))), (oA 55 (.bin .add 0 (.t 53) (.t 54))), (oA 56 (.call (.k (.v (.c (.func 16 [])))) [(.t 55)])), (oA 52 (.mv (.t 56))), (oA 57 (.extract (.t 52) 0)), (oA 58 (.extract (.t 52) 1)), (oA 11 (.mv (.t 57))), (oA 12 (.mv (.t 58)))] []) (.seq (.seq (.reg [(oA 59 (.mv (.t 12))), (oA 60 (.bin .neq 0 (.t 59) (.k (.v (.c (.p (.int .i64 0))))))), (oA 61 (.mv (.t 60))), ⟨(some 62), (.mv (.t 11)), (some (61, false))⟩, ⟨(some 63), (.len 2 (.t 62)), (some (61, false))⟩, ⟨(some 64), (.bin .lss 0 (.t 63) (.k (.v (.c (.p (.int .i64 1)))))), (some (61, false))⟩, (oA 65 (.pick (.t 61) (.k (.v (.c (.p (.bool true))))) (.t 64)))] []) (.cond (.t 65) (.seq (.reg [(oA 6 (.mv (.k (.v (.c (.p (.bool false)))))))] []) .ret) .skip)) (.seq (.reg [(oA 13 (.mv (.k (.v (.c (.p (.int .i64 0)))))))] []) (.seq (.seq (.reg [(oA 66 (.mv (.t 2)))] []) (.cond (.t 66) (.reg [(oA 13 (.mv (.k (.v (.c (.p (.int .i64 1)))))))] []) .skip)) (.mark 6 [0, 11, 13] (.seq (.reg [(oA 67 (.mv (.t 11))), (oA 68 (.len 2 (.t 67))), (oA 69 (.mv (.t 13))), (oA 70 (.bin .gtr 0 (.t 68) (.t 69))), (oA 71 (.mv (.t 70))), ⟨(some 72), (.mv (.t 11)), (some (71, true))⟩, ⟨(some 73), (.mv (.t 13)), (some (71, true))⟩, ⟨(some 74), (.iaddr 4 (.t 72) (.t 73)), (some (71, true))⟩, ⟨(some 75), (.faddr 0 (.t 74)), (some (71, true))⟩, ⟨(some 76), (.load false 1 (.t 75)), (some (71, true))⟩, ⟨(some 77), (.bin .eql 0 (.t 76) (.k (.v (.c (.p (.int .i64 3)))))), (some (71, true))⟩, (oA 78 (.pick (.t 71) (.t 77) (.k (.v (.c (.p (.bool false))))))), (oA 79 (.mv (.t 78))), ⟨(some 80), (.mv (.t 11)), (some (79, true))⟩, ⟨(some 81), (.mv (.t 13)), (some (79, true))⟩, ⟨(some 82), (.iaddr 4 (.t 80) (.t 81)), (some (79, true))⟩, ⟨(some 83), (.faddr 2 (.t 82)), (some (79, true))⟩, ⟨(some 84), (.load false 1 (.t 83)), (some (79, true))⟩, ⟨(some 85), (.mv (.t 0)), (some (79, true))⟩, ⟨(some 86), (.bin .eql 0 (.t 84) (.t 85)), (some (79, true))⟩, (oA 87 (.pick (.t 79) (.t 86) (.k (.v (.c (.p (.bool false))))))), (oA 6 (.mv (.t 87)))] []) .ret))))))))))))))))))) }
theorem t5 : compF Tryd.prog (globs2 tabs opq) (fun _ => false) true Tryd.f5 = some c5.erase := by kernel_rfl
noncomputable def b5_0 (O : Oracle) (R : Jump) (q : Nat) (x0 x1 x2 : TVal) (h : Heap) : Res1 :=
 vcall O (.v (.c (.func 12 []))) [] h 14 fun x14 h =>
 vop O (.un .not (.k x14)) h 15 fun x15 h =>
 vif x15 (
 tcomp (kB false) fun c0 => vfin true q [c0] h)
 (vtoInt .u64 x0 h fun x17 h =>
 vbin .lss 0 x0 (kI 0) h fun x19 h =>
 vif x19 (
 vop O (.un .neg (.k x17)) h 21 fun x21 h =>
 R 1 [x0, x1, x2, (kS []), x21] h)
 (R 1 [x0, x1, x2, (kS []), x17] h))
theorem e5_0 (O : Oracle) (R : Jump) (q : Nat) (x0 x1 x2 : TVal) (h : Heap) : b5_0 O R q x0 x1 x2 h = stepF c5 O R q 0 [x0, x1, x2] h := by kernel_rfl
noncomputable def b5_1 (O : Oracle) (R : Jump) (q : Nat) (x0 x1 x2 x7 x8 : TVal) (h : Heap) : Res1 :=
 R 2 [x0, x1, x2, x7, x8, (kI 0)] h
theorem e5_1 (O : Oracle) (R : Jump) (q : Nat) (x0 x1 x2 x7 x8 : TVal) (h : Heap) : b5_1 O R q x0 x1 x2 x7 x8 h = stepF c5 O R q 1 [x0, x1, x2, x7, x8] h := by kernel_rfl
noncomputable def b5_2 (O : Oracle) (R : Jump) (q : Nat) (x0 x1 x2 x7 x8 x9 : TVal) (h : Heap) : Res1 :=
 vbin .eql 0 x9 (kI 0) h fun x23 h =>
 vguard x23 false (fun kk => kk x8 h) h fun x25 h =>
 vguard x23 false (fun kk => vbin .gtr 0 x25 (.v (.c (.p (.int .u64 0)))) h kk) h fun x26 h =>
 vop O (.pick (.k x23) (.k (kB true)) (.k x26)) h 27 fun x27 h =>
 vif x27 (
 vbin .rem 0 x8 (.v (.c (.p (.int .u64 10)))) h fun x31 h =>
 vbin .add 0 (.v (.c (.p (.int .u64 48)))) x31 h fun x32 h =>
 vtoInt .u8 x32 h fun x33 h =>
 vop O (.bslice 1 1 [(.p (.int .u8 0))] [(0, (.k x33))] false) h 34 fun x34 h =>
 vop O (.toStr (.k x34)) h 35 fun x35 h =>
 vbin .add 0 x35 x7 h fun x37 h =>
 vbin .quo 0 x8 (.v (.c (.p (.int .u64 10)))) h fun x39 h =>
 vbin .add 0 x9 (kI 1) h fun x29 h =>
 R 2 [x0, x1, x2, x37, x39, x29] h)
 (R 3 [x0, x1, x2, x7] h)
theorem e5_2 (O : Oracle) (R : Jump) (q : Nat) (x0 x1 x2 x7 x8 x9 : TVal) (h : Heap) : b5_2 O R q x0 x1 x2 x7 x8 x9 h = stepF c5 O R q 2 [x0, x1, x2, x7, x8, x9] h := by kernel_rfl
noncomputable def b5_3 (O : Oracle) (R : Jump) (q : Nat) (x0 x1 x2 x7 : TVal) (h : Heap) : Res1 :=
 vbin .lss 0 x0 (kI 0) h fun x41 h =>
 vif x41 (
 vbin .add 0 (kS [45]) x7 h fun x43 h =>
 R 4 [x0, x1, x2, x43] h)
 (R 4 [x0, x1, x2, x7] h)
theorem e5_3 (O : Oracle) (R : Jump) (q : Nat) (x0 x1 x2 x7 : TVal) (h : Heap) : b5_3 O R q x0 x1 x2 x7 h = stepF c5 O R q 3 [x0, x1, x2, x7] h := by kernel_rfl
noncomputable def b5_4 (O : Oracle) (R : Jump) (q : Nat) (x0 x1 x2 x7 : TVal) (h : Heap) : Res1 :=
 vop O (.bslice 1 5 [(.p (.str []))] [(0, (.k (kS []))), (1, (.k (kS [32]))), (2, (.k (kS [46]))), (3, (.k (kS [41]))), (4, (.k (kS [97])))] false) h 44 fun x44 h =>
 vcall O (.v (.c (.func 15 []))) [x1, (kI 5)] h 46 fun x46 h =>
 viaddr 1 x44 x46 h fun x47 h =>
 vload false 1 x47 h fun x48 h =>
 vif x2 (
 vbin .add 0 (kS [44]) x7 h fun x51 h =>
 R 5 [x0, x2, x51, x48] h)
 (R 5 [x0, x2, x7, x48] h)
theorem e5_4 (O : Oracle) (R : Jump) (q : Nat) (x0 x1 x2 x7 : TVal) (h : Heap) : b5_4 O R q x0 x1 x2 x7 h = stepF c5 O R q 4 [x0, x1, x2, x7] h := by kernel_rfl
noncomputable def b5_5 (O : Oracle) (R : Jump) (q : Nat) (x0 x2 x7 x10 : TVal) (h : Heap) : Res1 :=
 vbin .add 0 x7 x10 h fun x55 h =>
 vcall O (.v (.c (.func 16 []))) [x55] h 56 fun x56 h =>
 vext x56 0 h fun x57 h =>
 vext x56 1 h fun x58 h =>
 vbin .neq 0 x58 (kI 0) h fun x60 h =>
 vguard x60 false (fun kk => kk x57 h) h fun x62 h =>
 vguard x60 false (fun kk => vlen O 2 x62 h 63 kk) h fun x63 h =>
 vguard x60 false (fun kk => vbin .lss 0 x63 (kI 1) h kk) h fun x64 h =>
 vop O (.pick (.k x60) (.k (kB true)) (.k x64)) h 65 fun x65 h =>
 vif x65 (
 tcomp (kB false) fun c0 => vfin true q [c0] h)
 (vif x2 (
 R 6 [x0, x57, (kI 1)] h)
 (R 6 [x0, x57, (kI 0)] h))
theorem e5_5 (O : Oracle) (R : Jump) (q : Nat) (x0 x2 x7 x10 : TVal) (h : Heap) : b5_5 O R q x0 x2 x7 x10 h = stepF c5 O R q 5 [x0, x2, x7, x10] h := by kernel_rfl
noncomputable def b5_6 (O : Oracle) (R : Jump) (q : Nat) (x0 x11 x13 : TVal) (h : Heap) : Res1 :=
 vlen O 2 x11 h 68 fun x68 h =>
 vbin .gtr 0 x68 x13 h fun x70 h =>
 vguard x70 true (fun kk => kk x11 h) h fun x72 h =>
 vguard x70 true (fun kk => kk x13 h) h fun x73 h =>
 vguard x70 true (fun kk => viaddr 4 x72 x73 h kk) h fun x74 h =>
 vguard x70 true (fun kk => vfaddr 0 x74 h kk) h fun x75 h =>
 vguard x70 true (fun kk => vload false 1 x75 h kk) h fun x76 h =>
 vguard x70 true (fun kk => vbin .eql 0 x76 (kI 3) h kk) h fun x77 h =>
 vop O (.pick (.k x70) (.k x77) (.k (kB false))) h 78 fun x78 h =>
 vguard x78 true (fun kk => kk x11 h) h fun x80 h =>
 vguard x78 true (fun kk => kk x13 h) h fun x81 h =>
 vguard x78 true (fun kk => viaddr 4 x80 x81 h kk) h fun x82 h =>
 vguard x78 true (fun kk => vfaddr 2 x82 h kk) h fun x83 h =>
 vguard x78 true (fun kk => vload false 1 x83 h kk) h fun x84 h =>
 vguard x78 true (fun kk => kk x0 h) h fun x85 h =>
 vguard x78 true (fun kk => vbin .eql 0 x84 x85 h kk) h fun x86 h =>
 vop O (.pick (.k x78) (.k x86) (.k (kB false))) h 87 fun x87 h =>
 tcomp x87 fun c0 => vfin true q [c0] h
theorem e5_6 (O : Oracle) (R : Jump) (q : Nat) (x0 x11 x13 : TVal) (h : Heap) : b5_6 O R q x0 x11 x13 h = stepF c5 O R q 6 [x0, x11, x13] h := by kernel_rfl
noncomputable def d5 : BlkF := fun O R q => [.s fun y0 => .s fun y1 => .s fun y2 => .z fun h => b5_0 O R q y0 y1 y2 h, .s fun y0 => .s fun y1 => .s fun y2 => .s fun y3 => .s fun y4 => .z fun h => b5_1 O R q y0 y1 y2 y3 y4 h, .s fun y0 => .s fun y1 => .s fun y2 => .s fun y3 => .s fun y4 => .s fun y5 => .z fun h => b5_2 O R q y0 y1 y2 y3 y4 y5 h, .s fun y0 => .s fun y1 => .s fun y2 => .s fun y3 => .z fun h => b5_3 O R q y0 y1 y2 y3 h, .s fun y0 => .s fun y1 => .s fun y2 => .s fun y3 => .z fun h => b5_4 O R q y0 y1 y2 y3 h, .s fun y0 => .s fun y1 => .s fun y2 => .s fun y3 => .z fun h => b5_5 O R q y0 y1 y2 y3 h, .s fun y0 => .s fun y1 => .s fun y2 => .z fun h => b5_6 O R q y0 y1 y2 h]
theorem o5 (O : Oracle) (R : Jump) (q : Nat) : HoldsAll c5 O R q 0 (d5 O R q) := ⟨fun y0 y1 y2 h => e5_0 O R q y0 y1 y2 h, fun y0 y1 y2 y3 y4 h => e5_1 O R q y0 y1 y2 y3 y4 h, fun y0 y1 y2 y3 y4 y5 h => e5_2 O R q y0 y1 y2 y3 y4 y5 h, fun y0 y1 y2 y3 h => e5_3 O R q y0 y1 y2 y3 h, fun y0 y1 y2 y3 h => e5_4 O R q y0 y1 y2 y3 h, fun y0 y1 y2 y3 h => e5_5 O R q y0 y1 y2 y3 h, fun y0 y1 y2 h => e5_6 O R q y0 y1 y2 h, trivial⟩
/- sprue/spruelaw1.ScanStrings -/
def c6 : MFunc := { np := 1, res := [.t 2], frz := true, body := (.seq (.reg [(oA 2 (.mv (.k (.v (.c (.p (.bool false)))))))] []) (.seq (.seq (.reg [(oA 9 (.call (.k (.v (.c (.func 12 [])))) [])), (oA 10 (.un .not (.t 9)))] []) (.cond (.t 10) (.seq (.reg [(oA 2 (.mv (.k (.v (.c (.p (.bool false)))))))] []) .ret) .skip)) (.seq (.seq (.reg [(oA 11 (.mv (.t 0))), (oA 12 (.len 2 (.t 11))), (oA 13 (.bin .gtr 0 (.t 12) (.k (.v (.c (.p (.int .i64 200)))))))] []) (.cond (.t 13) (.reg [(oA 14 (.mv (.t 0))), (oA 15 (.slice 1 false (.t 14) none (some (.k (.v (.c (.p (.int .i64 200)))))) none)), (oA 0 (.mv (.t 15)))] []) .skip)) (.mark 1 [0] (.seq (.reg [(oA 3 (.mv (.k (.v (.c (.p (.str [34]))))))), (oA 4 (.mv (.k (.v (.c (.p (.str [])))))))] []) (.seq (.seq (.reg [(oA 5 (.mv (.k (.v (.c (.p (.int .i64 0)))))))] []) (.block 0 (.loop 2 [0, 3, 4, 5] (.seq (.seq (.reg [(oA 16 (.mv (.t 5))), (oA 17 (.mv (.t 0))), (oA 18 (.len 2 (.t 17))), (oA 19 (.bin .lss 0 (.t 16) (.t 18)))] []) (.cond (.t 19) .skip (.exit 0))) (.seq (.block 1 (.seq (.reg [(oA 22 (.mv (.t 0))), (oA 23 (.mv (.t 5))), (oA 24 (.mv (.t 5))), (oA 25 (.bin .add 0 (.t 24) (.k (.v (.c (.p (.int .i64 1))))))), (oA 26 (.slice 1 false (.t 22) (some (.t 23)) (some (.t 25)) none)), (oA 27 (.toStr (.t 26))), (oA 6 (.mv (.t 27)))] []) (.seq (.block 2 (.seq (.reg [(oA 32 (.mv (.t 0))), (oA 33 (.mv (.t 5))), (oA 34 (.iaddr 1 (.t 32) (.t 33))), (oA 35 (.load false 1 (.t 34))), (oA 36 (.bin .eql 0 (.t 35) (.k (.v (.c (.p (.int .u8 34))))))), (oA 37 (.mv (.t 36))), ⟨(some 38), (.mv (.t 0)), (some (37, false))⟩, ⟨(some 39), (.mv (.t 5)), (some (37, false))⟩, ⟨(some 40), (.iaddr 1 (.t 38) (.t 39)), (some (37, false))⟩, ⟨(some 41), (.load false 1 (.t 40)), (some (37, false))⟩, ⟨(some 42), (.bin .eql 0 (.t 41) (.k (.v (.c (.p (.int .u8 92)))))), (some (37, false))⟩, (oA 43 (.pick (.t 37) (.k (.v (.c (.p (.bool true))))) (.t 42))), (oA 31 (.mv (.t 43)))] []) (.cond (.t 31) (.reg [(oA 44 (.mv (.t 3))), (oA 45 (.bin .add 0 (.t 44) (.k (.v (.c (.p (.str [92]))))))), (oA 46 (.mv (.t 6))), (oA 47 (.bin .add 0 (.t 45) (.t 46))), (oA 3 (.mv (.t 47)))] []) (.seq (.reg [(oA 49 (.mv (.t 0))), (oA 50 (.mv (.t 5))), (oA 51 (.iaddr 1 (.t 49) (.t 50))), (oA 52 (.load false 1 (.t 51))), (oA 53 (.bin .eql 0 (.t 52) (.k (.v (.c (.p (.int .u8 10))))))), (oA 48 (.mv (.t 53)))] []) (.cond (.t 48) (.reg [(oA 54 (.mv (.t 3))), (oA 55 (.bin .add 0 (.t 54) (.k (.v (.c (.p (.str [92, 110]))))))), (oA 3 (.mv (.t 55)))] []) (.seq (.reg [(oA 57 (.mv (.t 0))), (oA 58 (.mv (.t 5))), (oA 59 (.iaddr 1 (.t 57) (.t 58))), (oA 60 (.load false 1 (.t 59))), (oA 61 (.bin .eql 0 (.t 60) (.k (.v (.c (.p (.int .u8 9))))))), (oA 56 (.mv (.t 61)))] []) (.cond (.t 56) (.reg [(oA 62 (.mv (.t 3))), (oA 63 (.bin .add 0 (.t 62) (.k (.v (.c (.p (.str [92, 116]))))))), (oA 3 (.mv (.t 63)))] []) (.seq (.reg [(oA 65 (.mv (.t 0))), (oA 66 (.mv (.t 5))), (oA 67 (.iaddr 1 (.t 65) (.t 66))), (oA 68 (.load false 1 (.t 67))), (oA 69 (.bin .lss 0 (.t 68) (.k (.v (.c (.p (.int .u8 32))))))), (oA 64 (.mv (.t 69)))] []) (.cond (.t 64) (.exit 1) (.reg [(oA 28 (.mv (.t 3))), (oA 29 (.mv (.t 6))), (oA 30 (.bin .add 0 (.t 28) (.t 29))), (oA 3 (.mv (.t 30)))] [])))))))))) (.mark 3 [0, 3, 4, 5, 6] (.reg [(oA 70 (.mv (.t 4))), (oA 71 (.mv (.t 6))), (oA 72 (.bin .add 0 (.t 70) (.t 71))), (oA 4 (.mv (.t 72)))] []))))) (.mark 4 [0, 3, 4, 5] (.reg [(oA 20 (.mv (.t 5))), (oA 21 (.bin .add 0 (.t 20) (.k (.v (.c (.p (.int .i64 1))))))), (oA 5 (.mv (.t 21)))] []))))))) (.mark 5 [3, 4] (.seq (.reg [(oA 74 (.mv (.t 3))), (oA 75 (.bin .add 0 (.k (.v (.c (.p (.str [32]))))) (.t 74))), (oA 76 (.bin .add 0 (.t 75) (.k (.v (.c (.p (.str [34, 32]))))))), (oA 77 (.call (.k (.v (.c (.func 16 [])))) [(.t 76)])), (oA 73 (.mv (.t 77))), (oA 78 (.extract (.t 73) 0)), (oA 79 (.extract (.t 73) 1)), (oA 7 (.mv (.t 78))), (oA 8 (.mv (.t 79)))] []) (.seq (.reg [(oA 80 (.mv (.t 8))), (oA 81 (.bin .eql 0 (.t 80) (.k (.v (.c (.p (.int .i64 0))))))), (oA 82 (.mv (.t 81))), ⟨(some 83), (.mv (.t 7)), (some (82, true))⟩, ⟨(some 84), (.len 2 (.t 83)), (some (82, true))⟩, ⟨(some 85), (.bin .eql 0 (.t 84) (.k (.v (.c (.p (.int .i64 1)))))), (some (82, true))⟩, (oA 86 (.pick (.t 82) (.t 85) (.k (.v (.c (.p (.bool false))))))), (oA 87 (.mv (.t 86))), ⟨(some 88), (.mv (.t 7)), (some (87, true))⟩, ⟨(some 89), (.iaddr 4 (.t 88) (.k (.v (.c (.p (.int .i64 0)))))), (some (87, true))⟩, ⟨(some 90), (.faddr 0 (.t 89)), (some (87, true))⟩, ⟨(some 91), (.load false 1 (.t 90)), (some (87, true))⟩, ⟨(some 92), (.bin .eql 0 (.t 91) (.k (.v (.c (.p (.int .i64 2)))))), (some (87, true))⟩, (oA 93 (.pick (.t 87) (.t 92) (.k (.v (.c (.p (.bool false))))))), (oA 94 (.mv (.t 93))), ⟨(some 95), (.mv (.t 7)), (some (94, true))⟩, ⟨(some 96), (.iaddr 4 (.t 95) (.k (.v (.c (.p (.int .i64 0)))))), (some (94, true))⟩, ⟨(some 97), (.faddr 1 (.t 96)), (some (94, true))⟩, ⟨(some 98), (.load false 1 (.t 97)), (some (94, true))⟩, ⟨(some 99), (.mv (.t 4)), (some (94, true))⟩, ⟨(some 100), (.bin .eql 0 (.t 98) (.t 99)), (some (94, true))⟩, (oA 101 (.pick (.t 94) (.t 100) (.k (.v (.c (.p (.bool false))))))), (oA 102 (.mv (.t 101))), ⟨(some 103), (.mv (.t 7)), (some (102, true))⟩, ⟨(some 104), (.iaddr 4 (.t 103) (.k (.v (.c (.p (.int .i64 0)))))), (some (102, true))⟩, ⟨(some 105), (.faddr 3 (.t 104)), (some (102, true))⟩, ⟨(some 106), (.load false 1 (.t 105)), (some (102, true))⟩, ⟨(some 107), (.bin .eql 0 (.t 106) (.k (.v (.c (.p (.int .i64 1)))))), (some (102, true))⟩, (oA 108 (.pick (.t 102) (.t 107) (.k (.v (.c (.p (.bool false))))))), (oA 2 (.mv (.t 108)))] []) .ret))))))))) }
theorem t6 : compF Tryd.prog (globs2 tabs opq) (fun _ => false) true Tryd.f6 = some c6.erase := by kernel_rfl
noncomputable def b6_0 (O : Oracle) (R : Jump) (q : Nat) (x0 : TVal) (h : Heap) : Res1 :=
 vcall O (.v (.c (.func 12 []))) [] h 9 fun x9 h =>
 vop O (.un .not (.k x9)) h 10 fun x10 h =>
 vif x10 (
 tcomp (kB false) fun c0 => vfin true q [c0] h)
 (vlen O 2 x0 h 12 fun x12 h =>
 vbin .gtr 0 x12 (kI 200) h fun x13 h =>
 vif x13 (
 vop O (.slice 1 false (.k x0) none (some (.k (kI 200))) none) h 15 fun x15 h =>
 R 1 [x15] h)
 (R 1 [x0] h))
theorem e6_0 (O : Oracle) (R : Jump) (q : Nat) (x0 : TVal) (h : Heap) : b6_0 O R q x0 h = stepF c6 O R q 0 [x0] h := by kernel_rfl
noncomputable def b6_1 (O : Oracle) (R : Jump) (q : Nat) (x0 : TVal) (h : Heap) : Res1 :=
 R 2 [x0, (kS [34]), (kS []), (kI 0)] h
theorem e6_1 (O : Oracle) (R : Jump) (q : Nat) (x0 : TVal) (h : Heap) : b6_1 O R q x0 h = stepF c6 O R q 1 [x0] h := by kernel_rfl
noncomputable def b6_2 (O : Oracle) (R : Jump) (q : Nat) (x0 x3 x4 x5 : TVal) (h : Heap) : Res1 :=
 vlen O 2 x0 h 18 fun x18 h =>
 vbin .lss 0 x5 x18 h fun x19 h =>
 vif x19 (
 vbin .add 0 x5 (kI 1) h fun x25 h =>
 vop O (.slice 1 false (.k x0) (some (.k x5)) (some (.k x25)) none) h 26 fun x26 h =>
 vop O (.toStr (.k x26)) h 27 fun x27 h =>
 viaddr 1 x0 x5 h fun x34 h =>
 vload false 1 x34 h fun x35 h =>
 vbin .eql 0 x35 (.v (.c (.p (.int .u8 34)))) h fun x36 h =>
 vguard x36 false (fun kk => kk x0 h) h fun x38 h =>
 vguard x36 false (fun kk => kk x5 h) h fun x39 h =>
 vguard x36 false (fun kk => viaddr 1 x38 x39 h kk) h fun x40 h =>
 vguard x36 false (fun kk => vload false 1 x40 h kk) h fun x41 h =>
 vguard x36 false (fun kk => vbin .eql 0 x41 (.v (.c (.p (.int .u8 92)))) h kk) h fun x42 h =>
 vop O (.pick (.k x36) (.k (kB true)) (.k x42)) h 43 fun x43 h =>
 vif x43 (
 vbin .add 0 x3 (kS [92]) h fun x45 h =>
 vbin .add 0 x45 x27 h fun x47 h =>
 R 3 [x0, x47, x4, x5, x27] h)
 (viaddr 1 x0 x5 h fun x51 h =>
 vload false 1 x51 h fun x52 h =>
 vbin .eql 0 x52 (.v (.c (.p (.int .u8 10)))) h fun x53 h =>
 vif x53 (
 vbin .add 0 x3 (kS [92, 110]) h fun x55 h =>
 R 3 [x0, x55, x4, x5, x27] h)
 (viaddr 1 x0 x5 h fun x59 h =>
 vload false 1 x59 h fun x60 h =>
 vbin .eql 0 x60 (.v (.c (.p (.int .u8 9)))) h fun x61 h =>
 vif x61 (
 vbin .add 0 x3 (kS [92, 116]) h fun x63 h =>
 R 3 [x0, x63, x4, x5, x27] h)
 (viaddr 1 x0 x5 h fun x67 h =>
 vload false 1 x67 h fun x68 h =>
 vbin .lss 0 x68 (.v (.c (.p (.int .u8 32)))) h fun x69 h =>
 vif x69 (
 R 4 [x0, x3, x4, x5] h)
 (vbin .add 0 x3 x27 h fun x30 h =>
 R 3 [x0, x30, x4, x5, x27] h)))))
 (R 5 [x3, x4] h)
theorem e6_2 (O : Oracle) (R : Jump) (q : Nat) (x0 x3 x4 x5 : TVal) (h : Heap) : b6_2 O R q x0 x3 x4 x5 h = stepF c6 O R q 2 [x0, x3, x4, x5] h := by kernel_rfl
noncomputable def b6_3 (O : Oracle) (R : Jump) (q : Nat) (x0 x3 x4 x5 x6 : TVal) (h : Heap) : Res1 :=
 vbin .add 0 x4 x6 h fun x72 h =>
 R 4 [x0, x3, x72, x5] h
theorem e6_3 (O : Oracle) (R : Jump) (q : Nat) (x0 x3 x4 x5 x6 : TVal) (h : Heap) : b6_3 O R q x0 x3 x4 x5 x6 h = stepF c6 O R q 3 [x0, x3, x4, x5, x6] h := by kernel_rfl
noncomputable def b6_4 (O : Oracle) (R : Jump) (q : Nat) (x0 x3 x4 x5 : TVal) (h : Heap) : Res1 :=
 vbin .add 0 x5 (kI 1) h fun x21 h =>
 R 2 [x0, x3, x4, x21] h
theorem e6_4 (O : Oracle) (R : Jump) (q : Nat) (x0 x3 x4 x5 : TVal) (h : Heap) : b6_4 O R q x0 x3 x4 x5 h = stepF c6 O R q 4 [x0, x3, x4, x5] h := by kernel_rfl
noncomputable def b6_5 (O : Oracle) (R : Jump) (q : Nat) (x3 x4 : TVal) (h : Heap) : Res1 :=
 vbin .add 0 (kS [32]) x3 h fun x75 h =>
 vbin .add 0 x75 (kS [34, 32]) h fun x76 h =>
 vcall O (.v (.c (.func 16 []))) [x76] h 77 fun x77 h =>
 vext x77 0 h fun x78 h =>
 vext x77 1 h fun x79 h =>
 vbin .eql 0 x79 (kI 0) h fun x81 h =>
 vguard x81 true (fun kk => kk x78 h) h fun x83 h =>
 vguard x81 true (fun kk => vlen O 2 x83 h 84 kk) h fun x84 h =>
 vguard x81 true (fun kk => vbin .eql 0 x84 (kI 1) h kk) h fun x85 h =>
 vop O (.pick (.k x81) (.k x85) (.k (kB false))) h 86 fun x86 h =>
 vguard x86 true (fun kk => kk x78 h) h fun x88 h =>
 vguard x86 true (fun kk => viaddr 4 x88 (kI 0) h kk) h fun x89 h =>
 vguard x86 true (fun kk => vfaddr 0 x89 h kk) h fun x90 h =>
 vguard x86 true (fun kk => vload false 1 x90 h kk) h fun x91 h =>
 vguard x86 true (fun kk => vbin .eql 0 x91 (kI 2) h kk) h fun x92 h =>
 vop O (.pick (.k x86) (.k x92) (.k (kB false))) h 93 fun x93 h =>
 vguard x93 true (fun kk => kk x78 h) h fun x95 h =>
 vguard x93 true (fun kk => viaddr 4 x95 (kI 0) h kk) h fun x96 h =>
 vguard x93 true (fun kk => vfaddr 1 x96 h kk) h fun x97 h =>
 vguard x93 true (fun kk => vload false 1 x97 h kk) h fun x98 h =>
 vguard x93 true (fun kk => kk x4 h) h fun x99 h =>
 vguard x93 true (fun kk => vbin .eql 0 x98 x99 h kk) h fun x100 h =>
 vop O (.pick (.k x93) (.k x100) (.k (kB false))) h 101 fun x101 h =>
 vguard x101 true (fun kk => kk x78 h) h fun x103 h =>
 vguard x101 true (fun kk => viaddr 4 x103 (kI 0) h kk) h fun x104 h =>
 vguard x101 true (fun kk => vfaddr 3 x104 h kk) h fun x105 h =>
 vguard x101 true (fun kk => vload false 1 x105 h kk) h fun x106 h =>
 vguard x101 true (fun kk => vbin .eql 0 x106 (kI 1) h kk) h fun x107 h =>
 vop O (.pick (.k x101) (.k x107) (.k (kB false))) h 108 fun x108 h =>
 tcomp x108 fun c0 => vfin true q [c0] h
theorem e6_5 (O : Oracle) (R : Jump) (q : Nat) (x3 x4 : TVal) (h : Heap) : b6_5 O R q x3 x4 h = stepF c6 O R q 5 [x3, x4] h := by kernel_rfl
noncomputable def d6 : BlkF := fun O R q => [.s fun y0 => .z fun h => b6_0 O R q y0 h, .s fun y0 => .z fun h => b6_1 O R q y0 h, .s fun y0 => .s fun y1 => .s fun y2 => .s fun y3 => .z fun h => b6_2 O R q y0 y1 y2 y3 h, .s fun y0 => .s fun y1 => .s fun y2 => .s fun y3 => .s fun y4 => .z fun h => b6_3 O R q y0 y1 y2 y3 y4 h, .s fun y0 => .s fun y1 => .s fun y2 => .s fun y3 => .z fun h => b6_4 O R q y0 y1 y2 y3 h, .s fun y0 => .s fun y1 => .z fun h => b6_5 O R q y0 y1 h]
theorem o6 (O : Oracle) (R : Jump) (q : Nat) : HoldsAll c6 O R q 0 (d6 O R q) := ⟨fun y0 h => e6_0 O R q y0 h, fun y0 h => e6_1 O R q y0 h, fun y0 y1 y2 y3 h => e6_2 O R q y0 y1 y2 y3 h, fun y0 y1 y2 y3 y4 h => e6_3 O R q y0 y1 y2 y3 y4 h, fun y0 y1 y2 y3 h => e6_4 O R q y0 y1 y2 y3 h, fun y0 y1 h => e6_5 O R q y0 y1 h, trivial⟩
/- sprue/spruelaw1.ScanSigns -/
def c7 : MFunc := { np := 1, res := [.t 2], frz := true, body := (.seq (.reg [(oA 2 (.mv (.k (.v (.c (.p (.bool false)))))))] []) (.seq (.seq (.reg [(oA 12 (.call (.k (.v (.c (.func 12 [])))) [])), (oA 13 (.un .not (.t 12)))] []) (.cond (.t 13) (.seq (.reg [(oA 2 (.mv (.k (.v (.c (.p (.bool false)))))))] []) .ret) .skip)) (.seq (.reg [(oA 14 (.bslice 1 15 [(.p (.str []))] [(0, (.k (.v (.c (.p (.str [45, 62])))))), (1, (.k (.v (.c (.p (.str [58, 61])))))), (2, (.k (.v (.c (.p (.str [123])))))), (3, (.k (.v (.c (.p (.str [125])))))), (4, (.k (.v (.c (.p (.str [60])))))), (5, (.k (.v (.c (.p (.str [62])))))), (6, (.k (.v (.c (.p (.str [44])))))), (7, (.k (.v (.c (.p (.str [58])))))), (8, (.k (.v (.c (.p (.str [40])))))), (9, (.k (.v (.c (.p (.str [41])))))), (10, (.k (.v (.c (.p (.str [46])))))), (11, (.k (.v (.c (.p (.str [36])))))), (12, (.k (.v (.c (.p (.str [124])))))), (13, (.k (.v (.c (.p (.str [61])))))), (14, (.k (.v (.c (.p (.str [59]))))))] true)), (oA 3 (.mv (.t 14)))] []) (.seq (.reg [(oA 4 (.mv (.k (.v (.c (.p (.str [])))))))] []) (.seq (.reg [(oA 5 (.mv (.k (.v (.c (.p .nilslice))))))] []) (.seq (.seq (.reg [(oA 6 (.mv (.k (.v (.c (.p (.int .i64 0)))))))] []) (.block 0 (.loop 1 [0, 3, 4, 5, 6] (.seq (.seq (.reg [(oA 15 (.mv (.t 6))), (oA 16 (.mv (.t 0))), (oA 17 (.len 2 (.t 16))), (oA 18 (.bin .lss 0 (.t 15) (.t 17))), (oA 19 (.mv (.t 18))), ⟨(some 20), (.mv (.t 6)), (some (19, true))⟩, ⟨(some 21), (.bin .lss 0 (.t 20) (.k (.v (.c (.p (.int .i64 50)))))), (some (19, true))⟩, (oA 22 (.pick (.t 19) (.t 21) (.k (.v (.c (.p (.bool false)))))))] []) (.cond (.t 22) .skip (.exit 0))) (.seq (.block 1 (.seq (.reg [(oA 25 (.mv (.t 3))), (oA 26 (.mv (.t 0))), (oA 27 (.mv (.t 6))), (oA 28 (.iaddr 1 (.t 26) (.t 27))), (oA 29 (.load false 1 (.t 28))), (oA 30 (.mv (.t 3))), (oA 31 (.len 2 (.t 30))), (oA 32 (.call (.k (.v (.c (.func 15 [])))) [(.t 29), (.t 31)])), (oA 33 (.iaddr 1 (.t 25) (.t 32))), (oA 34 (.load false 1 (.t 33))), (oA 7 (.mv (.t 34)))] []) (.seq (.seq (.reg [(oA 35 (.mv (.t 5))), (oA 36 (.len 2 (.t 35))), (oA 37 (.bin .gtr 0 (.t 36) (.k (.v (.c (.p (.int .i64 0))))))), (oA 38 (.mv (.t 37))), ⟨(some 39), (.mv (.t 5)), (some (38, true))⟩, ⟨(some 40), (.mv (.t 5)), (some (38, true))⟩, ⟨(some 41), (.len 2 (.t 40)), (some (38, true))⟩, ⟨(some 42), (.bin .sub 0 (.t 41) (.k (.v (.c (.p (.int .i64 1)))))), (some (38, true))⟩, ⟨(some 43), (.iaddr 1 (.t 39) (.t 42)), (some (38, true))⟩, ⟨(some 44), (.load false 1 (.t 43)), (some (38, true))⟩, ⟨(some 45), (.bin .eql 0 (.t 44) (.k (.v (.c (.p (.str [58])))))), (some (38, true))⟩, (oA 46 (.pick (.t 38) (.t 45) (.k (.v (.c (.p (.bool false))))))), (oA 47 (.mv (.t 46))), ⟨(some 48), (.mv (.t 7)), (some (47, true))⟩, ⟨(some 49), (.index (.t 48) (.k (.v (.c (.p (.int .i64 0)))))), (some (47, true))⟩, ⟨(some 50), (.bin .eql 0 (.t 49) (.k (.v (.c (.p (.int .u8 61)))))), (some (47, true))⟩, (oA 51 (.pick (.t 47) (.t 50) (.k (.v (.c (.p (.bool false)))))))] []) (.cond (.t 51) (.seq (.reg [(oA 52 (.mv (.t 5))), (oA 53 (.mv (.t 5))), (oA 54 (.len 2 (.t 53))), (oA 55 (.bin .sub 0 (.t 54) (.k (.v (.c (.p (.int .i64 1))))))), (oA 56 (.iaddr 1 (.t 52) (.t 55))), (oN (.store 1 (.t 56) (.k (.v (.c (.p (.str [58, 61])))))))] []) (.seq (.reg [(oA 57 (.mv (.t 4))), (oA 58 (.mv (.t 7))), (oA 59 (.bin .add 0 (.t 57) (.t 58))), (oA 4 (.mv (.t 59)))] []) (.exit 1))) .skip)) (.reg [(oA 60 (.mv (.t 4))), (oA 61 (.mv (.t 7))), (oA 62 (.bin .add 0 (.t 60) (.t 61))), (oA 63 (.mv (.t 5))), (oA 64 (.mv (.t 7))), (oA 65 (.bslice 1 1 [(.p (.str []))] [(0, (.t 64))] true)), (oA 66 (.append 1 16 true (.t 63) (.t 65))), (oA 4 (.mv (.t 62))), (oA 5 (.mv (.t 66)))] [])))) (.mark 2 [0, 3, 4, 5, 6] (.reg [(oA 23 (.mv (.t 6))), (oA 24 (.bin .add 0 (.t 23) (.k (.v (.c (.p (.int .i64 1))))))), (oA 6 (.mv (.t 24)))] []))))))) (.mark 3 [4, 5] (.seq (.reg [(oA 68 (.mv (.t 4))), (oA 69 (.call (.k (.v (.c (.func 16 [])))) [(.t 68)])), (oA 67 (.mv (.t 69))), (oA 70 (.extract (.t 67) 0)), (oA 71 (.extract (.t 67) 1)), (oA 8 (.mv (.t 70))), (oA 9 (.mv (.t 71)))] []) (.seq (.seq (.reg [(oA 72 (.mv (.t 9))), (oA 73 (.bin .neq 0 (.t 72) (.k (.v (.c (.p (.int .i64 0))))))), (oA 74 (.mv (.t 73))), ⟨(some 75), (.mv (.t 8)), (some (74, false))⟩, ⟨(some 76), (.len 2 (.t 75)), (some (74, false))⟩, ⟨(some 77), (.mv (.t 5)), (some (74, false))⟩, ⟨(some 78), (.len 2 (.t 77)), (some (74, false))⟩, ⟨(some 79), (.bin .neq 0 (.t 76) (.t 78)), (some (74, false))⟩, (oA 80 (.pick (.t 74) (.k (.v (.c (.p (.bool true))))) (.t 79)))] []) (.cond (.t 80) (.seq (.reg [(oA 2 (.mv (.k (.v (.c (.p (.bool false)))))))] []) .ret) .skip)) (.seq (.reg [(oA 10 (.mv (.k (.v (.c (.p (.int .i64 0)))))))] []) (.seq (.seq (.reg [(oA 11 (.mv (.k (.v (.c (.p (.int .i64 0)))))))] []) (.block 2 (.loop 4 [5, 8, 10, 11] (.seq (.seq (.reg [(oA 81 (.mv (.t 11))), (oA 82 (.mv (.t 8))), (oA 83 (.len 2 (.t 82))), (oA 84 (.bin .lss 0 (.t 81) (.t 83)))] []) (.cond (.t 84) .skip (.exit 2))) (.seq (.block 3 (.seq (.seq (.reg [(oA 87 (.mv (.t 8))), (oA 88 (.mv (.t 11))), (oA 89 (.iaddr 4 (.t 87) (.t 88))), (oA 90 (.faddr 0 (.t 89))), (oA 91 (.load false 1 (.t 90))), (oA 92 (.bin .neq 0 (.t 91) (.k (.v (.c (.p (.int .i64 4))))))), (oA 93 (.mv (.t 92))), ⟨(some 94), (.mv (.t 8)), (some (93, false))⟩, ⟨(some 95), (.mv (.t 11)), (some (93, false))⟩, ⟨(some 96), (.iaddr 4 (.t 94) (.t 95)), (some (93, false))⟩, ⟨(some 97), (.faddr 1 (.t 96)), (some (93, false))⟩, ⟨(some 98), (.load false 1 (.t 97)), (some (93, false))⟩, ⟨(some 99), (.mv (.t 5)), (some (93, false))⟩, ⟨(some 100), (.mv (.t 11)), (some (93, false))⟩, ⟨(some 101), (.iaddr 1 (.t 99) (.t 100)), (some (93, false))⟩, ⟨(some 102), (.load false 1 (.t 101)), (some (93, false))⟩, ⟨(some 103), (.bin .neq 0 (.t 98) (.t 102)), (some (93, false))⟩, (oA 104 (.pick (.t 93) (.k (.v (.c (.p (.bool true))))) (.t 103))), (oA 105 (.mv (.t 104))), ⟨(some 106), (.mv (.t 8)), (some (105, false))⟩, ⟨(some 107), (.mv (.t 11)), (some (105, false))⟩, ⟨(some 108), (.iaddr 4 (.t 106) (.t 107)), (some (105, false))⟩, ⟨(some 109), (.faddr 3 (.t 108)), (some (105, false))⟩, ⟨(some 110), (.load false 1 (.t 109)), (some (105, false))⟩, ⟨(some 111), (.mv (.t 10)), (some (105, false))⟩, ⟨(some 112), (.bin .neq 0 (.t 110) (.t 111)), (some (105, false))⟩, (oA 113 (.pick (.t 105) (.k (.v (.c (.p (.bool true))))) (.t 112)))] []) (.cond (.t 113) (.seq (.reg [(oA 2 (.mv (.k (.v (.c (.p (.bool false)))))))] []) .ret) .skip)) (.reg [(oA 114 (.mv (.t 10))), (oA 115 (.mv (.t 5))), (oA 116 (.mv (.t 11))), (oA 117 (.iaddr 1 (.t 115) (.t 116))), (oA 118 (.load false 1 (.t 117))), (oA 119 (.len 0 (.t 118))), (oA 120 (.bin .add 0 (.t 114) (.t 119))), (oA 10 (.mv (.t 120)))] []))) (.reg [(oA 85 (.mv (.t 11))), (oA 86 (.bin .add 0 (.t 85) (.k (.v (.c (.p (.int .i64 1))))))), (oA 11 (.mv (.t 86)))] [])))))) (.seq (.reg [(oA 2 (.mv (.k (.v (.c (.p (.bool true)))))))] []) .ret)))))))))))) }
theorem t7 : compF Tryd.prog (globs2 tabs opq) (fun _ => true) true Tryd.f7 = some c7.erase := by kernel_rfl
noncomputable def b7_0 (O : Oracle) (R : Jump) (q : Nat) (x0 : TVal) (h : Heap) : Res1 :=
 vcall O (.v (.c (.func 12 []))) [] h 12 fun x12 h =>
 vop O (.un .not (.k x12)) h 13 fun x13 h =>
 vif x13 (
 tcomp (kB false) fun c0 => vfin true q [c0] h)
 (vop O (.bslice 1 15 [(.p (.str []))] [(0, (.k (kS [45, 62]))), (1, (.k (kS [58, 61]))), (2, (.k (kS [123]))), (3, (.k (kS [125]))), (4, (.k (kS [60]))), (5, (.k (kS [62]))), (6, (.k (kS [44]))), (7, (.k (kS [58]))), (8, (.k (kS [40]))), (9, (.k (kS [41]))), (10, (.k (kS [46]))), (11, (.k (kS [36]))), (12, (.k (kS [124]))), (13, (.k (kS [61]))), (14, (.k (kS [59])))] true) h 14 fun x14 h =>
 R 1 [x0, x14, (kS []), (.v (.c (.p .nilslice))), (kI 0)] h)
theorem e7_0 (O : Oracle) (R : Jump) (q : Nat) (x0 : TVal) (h : Heap) : b7_0 O R q x0 h = stepF c7 O R q 0 [x0] h := by kernel_rfl
noncomputable def b7_1 (O : Oracle) (R : Jump) (q : Nat) (x0 x3 x4 x5 x6 : TVal) (h : Heap) : Res1 :=
 vlen O 2 x0 h 17 fun x17 h =>
 vbin .lss 0 x6 x17 h fun x18 h =>
 vguard x18 true (fun kk => kk x6 h) h fun x20 h =>
 vguard x18 true (fun kk => vbin .lss 0 x20 (kI 50) h kk) h fun x21 h =>
 vop O (.pick (.k x18) (.k x21) (.k (kB false))) h 22 fun x22 h =>
 vif x22 (
 viaddr 1 x0 x6 h fun x28 h =>
 vload false 1 x28 h fun x29 h =>
 vlen O 2 x3 h 31 fun x31 h =>
 vcall O (.v (.c (.func 15 []))) [x29, x31] h 32 fun x32 h =>
 viaddr 1 x3 x32 h fun x33 h =>
 vload false 1 x33 h fun x34 h =>
 vlen O 2 x5 h 36 fun x36 h =>
 vbin .gtr 0 x36 (kI 0) h fun x37 h =>
 vguard x37 true (fun kk => kk x5 h) h fun x39 h =>
 vguard x37 true (fun kk => kk x5 h) h fun x40 h =>
 vguard x37 true (fun kk => vlen O 2 x40 h 41 kk) h fun x41 h =>
 vguard x37 true (fun kk => vbin .sub 0 x41 (kI 1) h kk) h fun x42 h =>
 vguard x37 true (fun kk => viaddr 1 x39 x42 h kk) h fun x43 h =>
 vguard x37 true (fun kk => vload false 1 x43 h kk) h fun x44 h =>
 vguard x37 true (fun kk => vbin .eql 0 x44 (kS [58]) h kk) h fun x45 h =>
 vop O (.pick (.k x37) (.k x45) (.k (kB false))) h 46 fun x46 h =>
 vguard x46 true (fun kk => kk x34 h) h fun x48 h =>
 vguard x46 true (fun kk => vindex x48 (kI 0) h kk) h fun x49 h =>
 vguard x46 true (fun kk => vbin .eql 0 x49 (.v (.c (.p (.int .u8 61)))) h kk) h fun x50 h =>
 vop O (.pick (.k x46) (.k x50) (.k (kB false))) h 51 fun x51 h =>
 vif x51 (
 vlen O 2 x5 h 54 fun x54 h =>
 vbin .sub 0 x54 (kI 1) h fun x55 h =>
 viaddr 1 x5 x55 h fun x56 h =>
 vstore 1 x56 (kS [58, 61]) h fun _ h =>
 vbin .add 0 x4 x34 h fun x59 h =>
 R 2 [x0, x3, x59, x5, x6] h)
 (vbin .add 0 x4 x34 h fun x62 h =>
 vop O (.bslice 1 1 [(.p (.str []))] [(0, (.k x34))] true) h 65 fun x65 h =>
 vop O (.append 1 16 true (.k x5) (.k x65)) h 66 fun x66 h =>
 R 2 [x0, x3, x62, x66, x6] h))
 (R 3 [x4, x5] h)
theorem e7_1 (O : Oracle) (R : Jump) (q : Nat) (x0 x3 x4 x5 x6 : TVal) (h : Heap) : b7_1 O R q x0 x3 x4 x5 x6 h = stepF c7 O R q 1 [x0, x3, x4, x5, x6] h := by kernel_rfl
noncomputable def b7_2 (O : Oracle) (R : Jump) (q : Nat) (x0 x3 x4 x5 x6 : TVal) (h : Heap) : Res1 :=
 vbin .add 0 x6 (kI 1) h fun x24 h =>
 R 1 [x0, x3, x4, x5, x24] h
theorem e7_2 (O : Oracle) (R : Jump) (q : Nat) (x0 x3 x4 x5 x6 : TVal) (h : Heap) : b7_2 O R q x0 x3 x4 x5 x6 h = stepF c7 O R q 2 [x0, x3, x4, x5, x6] h := by kernel_rfl
noncomputable def b7_3 (O : Oracle) (R : Jump) (q : Nat) (x4 x5 : TVal) (h : Heap) : Res1 :=
 vcall O (.v (.c (.func 16 []))) [x4] h 69 fun x69 h =>
 vext x69 0 h fun x70 h =>
 vext x69 1 h fun x71 h =>
 vbin .neq 0 x71 (kI 0) h fun x73 h =>
 vguard x73 false (fun kk => kk x70 h) h fun x75 h =>
 vguard x73 false (fun kk => vlen O 2 x75 h 76 kk) h fun x76 h =>
 vguard x73 false (fun kk => kk x5 h) h fun x77 h =>
 vguard x73 false (fun kk => vlen O 2 x77 h 78 kk) h fun x78 h =>
 vguard x73 false (fun kk => vbin .neq 0 x76 x78 h kk) h fun x79 h =>
 vop O (.pick (.k x73) (.k (kB true)) (.k x79)) h 80 fun x80 h =>
 vif x80 (
 tcomp (kB false) fun c0 => vfin true q [c0] h)
 (R 4 [x5, x70, (kI 0), (kI 0)] h)
theorem e7_3 (O : Oracle) (R : Jump) (q : Nat) (x4 x5 : TVal) (h : Heap) : b7_3 O R q x4 x5 h = stepF c7 O R q 3 [x4, x5] h := by kernel_rfl
noncomputable def b7_4 (O : Oracle) (R : Jump) (q : Nat) (x5 x8 x10 x11 : TVal) (h : Heap) : Res1 :=
 vlen O 2 x8 h 83 fun x83 h =>
 vbin .lss 0 x11 x83 h fun x84 h =>
 vif x84 (
 viaddr 4 x8 x11 h fun x89 h =>
 vfaddr 0 x89 h fun x90 h =>
 vload false 1 x90 h fun x91 h =>
 vbin .neq 0 x91 (kI 4) h fun x92 h =>
 vguard x92 false (fun kk => kk x8 h) h fun x94 h =>
 vguard x92 false (fun kk => kk x11 h) h fun x95 h =>
 vguard x92 false (fun kk => viaddr 4 x94 x95 h kk) h fun x96 h =>
 vguard x92 false (fun kk => vfaddr 1 x96 h kk) h fun x97 h =>
 vguard x92 false (fun kk => vload false 1 x97 h kk) h fun x98 h =>
 vguard x92 false (fun kk => kk x5 h) h fun x99 h =>
 vguard x92 false (fun kk => kk x11 h) h fun x100 h =>
 vguard x92 false (fun kk => viaddr 1 x99 x100 h kk) h fun x101 h =>
 vguard x92 false (fun kk => vload false 1 x101 h kk) h fun x102 h =>
 vguard x92 false (fun kk => vbin .neq 0 x98 x102 h kk) h fun x103 h =>
 vop O (.pick (.k x92) (.k (kB true)) (.k x103)) h 104 fun x104 h =>
 vguard x104 false (fun kk => kk x8 h) h fun x106 h =>
 vguard x104 false (fun kk => kk x11 h) h fun x107 h =>
 vguard x104 false (fun kk => viaddr 4 x106 x107 h kk) h fun x108 h =>
 vguard x104 false (fun kk => vfaddr 3 x108 h kk) h fun x109 h =>
 vguard x104 false (fun kk => vload false 1 x109 h kk) h fun x110 h =>
 vguard x104 false (fun kk => kk x10 h) h fun x111 h =>
 vguard x104 false (fun kk => vbin .neq 0 x110 x111 h kk) h fun x112 h =>
 vop O (.pick (.k x104) (.k (kB true)) (.k x112)) h 113 fun x113 h =>
 vif x113 (
 tcomp (kB false) fun c0 => vfin true q [c0] h)
 (viaddr 1 x5 x11 h fun x117 h =>
 vload false 1 x117 h fun x118 h =>
 vlen O 0 x118 h 119 fun x119 h =>
 vbin .add 0 x10 x119 h fun x120 h =>
 vbin .add 0 x11 (kI 1) h fun x86 h =>
 R 4 [x5, x8, x120, x86] h))
 (tcomp (kB true) fun c0 => vfin true q [c0] h)
theorem e7_4 (O : Oracle) (R : Jump) (q : Nat) (x5 x8 x10 x11 : TVal) (h : Heap) : b7_4 O R q x5 x8 x10 x11 h = stepF c7 O R q 4 [x5, x8, x10, x11] h := by kernel_rfl
noncomputable def d7 : BlkF := fun O R q => [.s fun y0 => .z fun h => b7_0 O R q y0 h, .s fun y0 => .s fun y1 => .s fun y2 => .s fun y3 => .s fun y4 => .z fun h => b7_1 O R q y0 y1 y2 y3 y4 h, .s fun y0 => .s fun y1 => .s fun y2 => .s fun y3 => .s fun y4 => .z fun h => b7_2 O R q y0 y1 y2 y3 y4 h, .s fun y0 => .s fun y1 => .z fun h => b7_3 O R q y0 y1 h, .s fun y0 => .s fun y1 => .s fun y2 => .s fun y3 => .z fun h => b7_4 O R q y0 y1 y2 y3 h]
theorem o7 (O : Oracle) (R : Jump) (q : Nat) : HoldsAll c7 O R q 0 (d7 O R q) := ⟨fun y0 h => e7_0 O R q y0 h, fun y0 y1 y2 y3 y4 h => e7_1 O R q y0 y1 y2 y3 y4 h, fun y0 y1 y2 y3 y4 h => e7_2 O R q y0 y1 y2 y3 y4 h, fun y0 y1 h => e7_3 O R q y0 y1 h, fun y0 y1 y2 y3 h => e7_4 O R q y0 y1 y2 y3 h, trivial⟩
/- sprue/spruelaw1.ScanFirst -/
def c8 : MFunc := { np := 3, res := [.t 6], frz := true, body := (.seq (.reg [(oA 6 (.mv (.k (.v (.c (.p (.bool false)))))))] []) (.seq (.seq (.reg [(oA 13 (.call (.k (.v (.c (.func 12 [])))) [])), (oA 14 (.un .not (.t 13)))] []) (.cond (.t 14) (.seq (.reg [(oA 6 (.mv (.k (.v (.c (.p (.bool false)))))))] []) .ret) .skip)) (.seq (.reg [(oA 15 (.bslice 1 5 [(.p (.str []))] [(0, (.k (.v (.c (.p (.str [35])))))), (1, (.k (.v (.c (.p (.str [97, 98, 99, 100, 101, 102, 103, 104, 105, 106, 107, 108, 109, 110, 111, 112, 113, 114])))))), (2, (.k (.v (.c (.p (.str [34, 92, 113, 34])))))), (3, (.k (.v (.c (.p (.str [57, 57, 57, 57, 57, 57, 57, 57, 57, 57, 57, 57, 57, 57, 57, 57, 57, 57, 57, 57])))))), (4, (.k (.v (.c (.p (.str [57, 50, 50, 51, 51, 55, 50, 48, 51, 54, 56, 53, 52, 55, 55, 53, 56, 48, 56]))))))] false)), (oA 7 (.mv (.t 15)))] []) (.seq (.reg [(oA 16 (.bslice 1 5 [(.p (.int .i64 0))] [(0, (.k (.v (.c (.p (.int .i64 11)))))), (1, (.k (.v (.c (.p (.int .i64 4)))))), (2, (.k (.v (.c (.p (.int .i64 11)))))), (3, (.k (.v (.c (.p (.int .i64 4)))))), (4, (.k (.v (.c (.p (.int .i64 11))))))] false)), (oA 8 (.mv (.t 16)))] []) (.seq (.reg [(oA 9 (.mv (.k (.v (.c (.p (.str [])))))))] []) (.seq (.seq (.reg [(oA 10 (.mv (.k (.v (.c (.p (.int .i64 0)))))))] []) (.block 0 (.loop 1 [0, 1, 2, 7, 8, 9, 10] (.seq (.seq (.reg [(oA 17 (.mv (.t 10))), (oA 18 (.mv (.t 0))), (oA 19 (.len 2 (.t 18))), (oA 20 (.bin .lss 0 (.t 17) (.t 19))), (oA 21 (.mv (.t 20))), ⟨(some 22), (.mv (.t 10)), (some (21, true))⟩, ⟨(some 23), (.bin .lss 0 (.t 22) (.k (.v (.c (.p (.int .i64 20)))))), (some (21, true))⟩, (oA 24 (.pick (.t 21) (.t 23) (.k (.v (.c (.p (.bool false)))))))] []) (.cond (.t 24) .skip (.exit 0))) (.seq (.block 1 (.reg [(oA 27 (.mv (.t 9))), (oA 28 (.bslice 1 5 [(.p (.str []))] [(0, (.k (.v (.c (.p (.str [97, 32])))))), (1, (.k (.v (.c (.p (.str [49, 32])))))), (2, (.k (.v (.c (.p (.str [34, 113, 34, 32])))))), (3, (.k (.v (.c (.p (.str [46, 32])))))), (4, (.k (.v (.c (.p (.str [45, 62, 32]))))))] false)), (oA 29 (.mv (.t 0))), (oA 30 (.mv (.t 10))), (oA 31 (.iaddr 1 (.t 29) (.t 30))), (oA 32 (.load false 1 (.t 31))), (oA 33 (.call (.k (.v (.c (.func 15 [])))) [(.t 32), (.k (.v (.c (.p (.int .i64 5)))))])), (oA 34 (.iaddr 1 (.t 28) (.t 33))), (oA 35 (.load false 1 (.t 34))), (oA 36 (.bin .add 0 (.t 27) (.t 35))), (oA 9 (.mv (.t 36)))] [])) (.reg [(oA 25 (.mv (.t 10))), (oA 26 (.bin .add 0 (.t 25) (.k (.v (.c (.p (.int .i64 1))))))), (oA 10 (.mv (.t 26)))] [])))))) (.mark 2 [1, 2, 7, 8, 9] (.seq (.reg [(oA 37 (.mv (.t 1))), (oA 38 (.call (.k (.v (.c (.func 15 [])))) [(.t 37), (.k (.v (.c (.p (.int .i64 5)))))])), (oA 39 (.mv (.t 2))), (oA 40 (.call (.k (.v (.c (.func 15 [])))) [(.t 39), (.k (.v (.c (.p (.int .i64 5)))))])), (oA 1 (.mv (.t 38))), (oA 2 (.mv (.t 40)))] []) (.seq (.reg [(oA 42 (.mv (.t 9))), (oA 43 (.mv (.t 7))), (oA 44 (.mv (.t 1))), (oA 45 (.iaddr 1 (.t 43) (.t 44))), (oA 46 (.load false 1 (.t 45))), (oA 47 (.bin .add 0 (.t 42) (.t 46))), (oA 48 (.bin .add 0 (.t 47) (.k (.v (.c (.p (.str [32]))))))), (oA 49 (.mv (.t 7))), (oA 50 (.mv (.t 2))), (oA 51 (.iaddr 1 (.t 49) (.t 50))), (oA 52 (.load false 1 (.t 51))), (oA 53 (.bin .add 0 (.t 48) (.t 52))), (oA 54 (.call (.k (.v (.c (.func 16 [])))) [(.t 53)])), (oA 41 (.mv (.t 54))), (oA 55 (.extract (.t 41) 0)), (oA 56 (.extract (.t 41) 1)), (oA 11 (.mv (.t 55))), (oA 12 (.mv (.t 56)))] []) (.seq (.reg [(oA 57 (.mv (.t 12))), (oA 58 (.mv (.t 8))), (oA 59 (.mv (.t 1))), (oA 60 (.iaddr 1 (.t 58) (.t 59))), (oA 61 (.load false 1 (.t 60))), (oA 62 (.bin .eql 0 (.t 57) (.t 61))), (oA 63 (.mv (.t 62))), ⟨(some 64), (.mv (.t 11)), (some (63, true))⟩, ⟨(some 65), (.len 2 (.t 64)), (some (63, true))⟩, ⟨(some 66), (.bin .eql 0 (.t 65) (.k (.v (.c (.p (.int .i64 0)))))), (some (63, true))⟩, (oA 67 (.pick (.t 63) (.t 66) (.k (.v (.c (.p (.bool false))))))), (oA 6 (.mv (.t 67)))] []) .ret)))))))))) }
theorem t8 : compF Tryd.prog (globs2 tabs opq) (fun _ => false) true Tryd.f8 = some c8.erase := by kernel_rfl
noncomputable def b8_0 (O : Oracle) (R : Jump) (q : Nat) (x0 x1 x2 : TVal) (h : Heap) : Res1 :=
 vcall O (.v (.c (.func 12 []))) [] h 13 fun x13 h =>
 vop O (.un .not (.k x13)) h 14 fun x14 h =>
 vif x14 (
 tcomp (kB false) fun c0 => vfin true q [c0] h)
 (vop O (.bslice 1 5 [(.p (.str []))] [(0, (.k (kS [35]))), (1, (.k (kS [97, 98, 99, 100, 101, 102, 103, 104, 105, 106, 107, 108, 109, 110, 111, 112, 113, 114]))), (2, (.k (kS [34, 92, 113, 34]))), (3, (.k (kS [57, 57, 57, 57, 57, 57, 57, 57, 57, 57, 57, 57, 57, 57, 57, 57, 57, 57, 57, 57]))), (4, (.k (kS [57, 50, 50, 51, 51, 55, 50, 48, 51, 54, 56, 53, 52, 55, 55, 53, 56, 48, 56])))] false) h 15 fun x15 h =>
 vop O (.bslice 1 5 [(.p (.int .i64 0))] [(0, (.k (kI 11))), (1, (.k (kI 4))), (2, (.k (kI 11))), (3, (.k (kI 4))), (4, (.k (kI 11)))] false) h 16 fun x16 h =>
 R 1 [x0, x1, x2, x15, x16, (kS []), (kI 0)] h)
theorem e8_0 (O : Oracle) (R : Jump) (q : Nat) (x0 x1 x2 : TVal) (h : Heap) : b8_0 O R q x0 x1 x2 h = stepF c8 O R q 0 [x0, x1, x2] h := by kernel_rfl
noncomputable def b8_1 (O : Oracle) (R : Jump) (q : Nat) (x0 x1 x2 x7 x8 x9 x10 : TVal) (h : Heap) : Res1 :=
 vlen O 2 x0 h 19 fun x19 h =>
 vbin .lss 0 x10 x19 h fun x20 h =>
 vguard x20 true (fun kk => kk x10 h) h fun x22 h =>
 vguard x20 true (fun kk => vbin .lss 0 x22 (kI 20) h kk) h fun x23 h =>
 vop O (.pick (.k x20) (.k x23) (.k (kB false))) h 24 fun x24 h =>
 vif x24 (
 vop O (.bslice 1 5 [(.p (.str []))] [(0, (.k (kS [97, 32]))), (1, (.k (kS [49, 32]))), (2, (.k (kS [34, 113, 34, 32]))), (3, (.k (kS [46, 32]))), (4, (.k (kS [45, 62, 32])))] false) h 28 fun x28 h =>
 viaddr 1 x0 x10 h fun x31 h =>
 vload false 1 x31 h fun x32 h =>
 vcall O (.v (.c (.func 15 []))) [x32, (kI 5)] h 33 fun x33 h =>
 viaddr 1 x28 x33 h fun x34 h =>
 vload false 1 x34 h fun x35 h =>
 vbin .add 0 x9 x35 h fun x36 h =>
 vbin .add 0 x10 (kI 1) h fun x26 h =>
 R 1 [x0, x1, x2, x7, x8, x36, x26] h)
 (R 2 [x1, x2, x7, x8, x9] h)
theorem e8_1 (O : Oracle) (R : Jump) (q : Nat) (x0 x1 x2 x7 x8 x9 x10 : TVal) (h : Heap) : b8_1 O R q x0 x1 x2 x7 x8 x9 x10 h = stepF c8 O R q 1 [x0, x1, x2, x7, x8, x9, x10] h := by kernel_rfl
noncomputable def b8_2 (O : Oracle) (R : Jump) (q : Nat) (x1 x2 x7 x8 x9 : TVal) (h : Heap) : Res1 :=
 vcall O (.v (.c (.func 15 []))) [x1, (kI 5)] h 38 fun x38 h =>
 vcall O (.v (.c (.func 15 []))) [x2, (kI 5)] h 40 fun x40 h =>
 viaddr 1 x7 x38 h fun x45 h =>
 vload false 1 x45 h fun x46 h =>
 vbin .add 0 x9 x46 h fun x47 h =>
 vbin .add 0 x47 (kS [32]) h fun x48 h =>
 viaddr 1 x7 x40 h fun x51 h =>
 vload false 1 x51 h fun x52 h =>
 vbin .add 0 x48 x52 h fun x53 h =>
 vcall O (.v (.c (.func 16 []))) [x53] h 54 fun x54 h =>
 vext x54 0 h fun x55 h =>
 vext x54 1 h fun x56 h =>
 viaddr 1 x8 x38 h fun x60 h =>
 vload false 1 x60 h fun x61 h =>
 vbin .eql 0 x56 x61 h fun x62 h =>
 vguard x62 true (fun kk => kk x55 h) h fun x64 h =>
 vguard x62 true (fun kk => vlen O 2 x64 h 65 kk) h fun x65 h =>
 vguard x62 true (fun kk => vbin .eql 0 x65 (kI 0) h kk) h fun x66 h =>
 vop O (.pick (.k x62) (.k x66) (.k (kB false))) h 67 fun x67 h =>
 tcomp x67 fun c0 => vfin true q [c0] h
theorem e8_2 (O : Oracle) (R : Jump) (q : Nat) (x1 x2 x7 x8 x9 : TVal) (h : Heap) : b8_2 O R q x1 x2 x7 x8 x9 h = stepF c8 O R q 2 [x1, x2, x7, x8, x9] h := by kernel_rfl
noncomputable def d8 : BlkF := fun O R q => [.s fun y0 => .s fun y1 => .s fun y2 => .z fun h => b8_0 O R q y0 y1 y2 h, .s fun y0 => .s fun y1 => .s fun y2 => .s fun y3 => .s fun y4 => .s fun y5 => .s fun y6 => .z fun h => b8_1 O R q y0 y1 y2 y3 y4 y5 y6 h, .s fun y0 => .s fun y1 => .s fun y2 => .s fun y3 => .s fun y4 => .z fun h => b8_2 O R q y0 y1 y2 y3 y4 h]
theorem o8 (O : Oracle) (R : Jump) (q : Nat) : HoldsAll c8 O R q 0 (d8 O R q) := ⟨fun y0 y1 y2 h => e8_0 O R q y0 y1 y2 h, fun y0 y1 y2 y3 y4 y5 y6 h => e8_1 O R q y0 y1 y2 y3 y4 y5 y6 h, fun y0 y1 y2 y3 y4 h => e8_2 O R q y0 y1 y2 y3 y4 h, trivial⟩
/- sprue/spruelaw1.ScanFronts -/
def c9 : MFunc := { np := 2, res := [.t 4], frz := true, body := (.seq (.reg [(oA 4 (.mv (.k (.v (.c (.p (.bool false)))))))] []) (.seq (.seq (.reg [(oA 16 (.call (.k (.v (.c (.func 12 [])))) [])), (oA 17 (.un .not (.t 16)))] []) (.cond (.t 17) (.seq (.reg [(oA 4 (.mv (.k (.v (.c (.p (.bool false)))))))] []) .ret) .skip)) (.seq (.reg [(oA 5 (.mv (.k (.v (.c (.p (.str []))))))), (oA 6 (.mv (.k (.v (.c (.p (.str [])))))))] []) (.seq (.reg [(oA 18 (.mv (.t 0))), (oA 19 (.len 2 (.t 18))), (oA 20 (.minmax false [(.t 19), (.k (.v (.c (.p (.int .i64 30)))))])), (oA 7 (.mv (.t 20)))] []) (.seq (.reg [(oA 21 (.mv (.t 1))), (oA 22 (.mv (.t 7))), (oA 23 (.bin .add 0 (.t 22) (.k (.v (.c (.p (.int .i64 1))))))), (oA 24 (.call (.k (.v (.c (.func 15 [])))) [(.t 21), (.t 23)])), (oA 8 (.mv (.t 24)))] []) (.seq (.seq (.reg [(oA 9 (.mv (.k (.v (.c (.p (.int .i64 0)))))))] []) (.block 0 (.loop 1 [0, 5, 6, 7, 8, 9] (.seq (.seq (.reg [(oA 25 (.mv (.t 9))), (oA 26 (.mv (.t 7))), (oA 27 (.bin .lss 0 (.t 25) (.t 26)))] []) (.cond (.t 27) .skip (.exit 0))) (.seq (.block 1 (.seq (.reg [(oA 30 (.bslice 1 9 [(.p (.str []))] [(0, (.k (.v (.c (.p (.str [97])))))), (1, (.k (.v (.c (.p (.str [98, 57])))))), (2, (.k (.v (.c (.p (.str [55])))))), (3, (.k (.v (.c (.p (.str [45, 55])))))), (4, (.k (.v (.c (.p (.str [34, 120, 32, 121, 34])))))), (5, (.k (.v (.c (.p (.str [45, 62])))))), (6, (.k (.v (.c (.p (.str [46])))))), (7, (.k (.v (.c (.p (.str [36])))))), (8, (.k (.v (.c (.p (.str [123]))))))] false)), (oA 31 (.mv (.t 0))), (oA 32 (.mv (.t 9))), (oA 33 (.iaddr 1 (.t 31) (.t 32))), (oA 34 (.load false 1 (.t 33))), (oA 35 (.call (.k (.v (.c (.func 15 [])))) [(.t 34), (.k (.v (.c (.p (.int .i64 9)))))])), (oA 36 (.iaddr 1 (.t 30) (.t 35))), (oA 37 (.load false 1 (.t 36))), (oA 10 (.mv (.t 37)))] []) (.seq (.reg [(oA 38 (.mv (.t 5))), (oA 39 (.mv (.t 10))), (oA 40 (.bin .add 0 (.t 38) (.t 39))), (oA 41 (.bin .add 0 (.t 40) (.k (.v (.c (.p (.str [32]))))))), (oA 5 (.mv (.t 41)))] []) (.seq (.reg [(oA 42 (.mv (.t 9))), (oA 43 (.mv (.t 8))), (oA 44 (.bin .lss 0 (.t 42) (.t 43)))] []) (.cond (.t 44) (.reg [(oA 45 (.mv (.t 5))), (oA 6 (.mv (.t 45)))] []) .skip))))) (.mark 2 [0, 5, 6, 7, 8, 9] (.reg [(oA 28 (.mv (.t 9))), (oA 29 (.bin .add 0 (.t 28) (.k (.v (.c (.p (.int .i64 1))))))), (oA 9 (.mv (.t 29)))] []))))))) (.mark 3 [5, 6, 7, 8] (.seq (.reg [(oA 47 (.mv (.t 5))), (oA 48 (.call (.k (.v (.c (.func 16 [])))) [(.t 47)])), (oA 46 (.mv (.t 48))), (oA 49 (.extract (.t 46) 0)), (oA 50 (.extract (.t 46) 1)), (oA 11 (.mv (.t 49))), (oA 12 (.mv (.t 50)))] []) (.seq (.reg [(oA 52 (.mv (.t 6))), (oA 53 (.call (.k (.v (.c (.func 16 [])))) [(.t 52)])), (oA 51 (.mv (.t 53))), (oA 54 (.extract (.t 51) 0)), (oA 55 (.extract (.t 51) 1)), (oA 13 (.mv (.t 54))), (oA 14 (.mv (.t 55)))] []) (.seq (.seq (.reg [(oA 56 (.mv (.t 12))), (oA 57 (.bin .neq 0 (.t 56) (.k (.v (.c (.p (.int .i64 0))))))), (oA 58 (.mv (.t 57))), ⟨(some 59), (.mv (.t 14)), (some (58, false))⟩, ⟨(some 60), (.bin .neq 0 (.t 59) (.k (.v (.c (.p (.int .i64 0)))))), (some (58, false))⟩, (oA 61 (.pick (.t 58) (.k (.v (.c (.p (.bool true))))) (.t 60))), (oA 62 (.mv (.t 61))), ⟨(some 63), (.mv (.t 11)), (some (62, false))⟩, ⟨(some 64), (.len 2 (.t 63)), (some (62, false))⟩, ⟨(some 65), (.mv (.t 7)), (some (62, false))⟩, ⟨(some 66), (.bin .neq 0 (.t 64) (.t 65)), (some (62, false))⟩, (oA 67 (.pick (.t 62) (.k (.v (.c (.p (.bool true))))) (.t 66))), (oA 68 (.mv (.t 67))), ⟨(some 69), (.mv (.t 13)), (some (68, false))⟩, ⟨(some 70), (.len 2 (.t 69)), (some (68, false))⟩, ⟨(some 71), (.mv (.t 8)), (some (68, false))⟩, ⟨(some 72), (.bin .neq 0 (.t 70) (.t 71)), (some (68, false))⟩, (oA 73 (.pick (.t 68) (.k (.v (.c (.p (.bool true))))) (.t 72)))] []) (.cond (.t 73) (.seq (.reg [(oA 4 (.mv (.k (.v (.c (.p (.bool false)))))))] []) .ret) .skip)) (.seq (.seq (.reg [(oA 15 (.mv (.k (.v (.c (.p (.int .i64 0)))))))] []) (.block 2 (.loop 4 [8, 11, 13, 15] (.seq (.seq (.reg [(oA 74 (.mv (.t 15))), (oA 75 (.mv (.t 8))), (oA 76 (.bin .lss 0 (.t 74) (.t 75)))] []) (.cond (.t 76) .skip (.exit 2))) (.seq (.block 3 (.seq (.reg [(oA 79 (.mv (.t 11))), (oA 80 (.mv (.t 15))), (oA 81 (.iaddr 4 (.t 79) (.t 80))), (oA 82 (.load true 4 (.t 81))), (oA 83 (.mv (.t 13))), (oA 84 (.mv (.t 15))), (oA 85 (.iaddr 4 (.t 83) (.t 84))), (oA 86 (.load true 4 (.t 85))), (oA 87 (.bin .neq 97 (.t 82) (.t 86)))] []) (.cond (.t 87) (.seq (.reg [(oA 4 (.mv (.k (.v (.c (.p (.bool false)))))))] []) .ret) .skip))) (.reg [(oA 77 (.mv (.t 15))), (oA 78 (.bin .add 0 (.t 77) (.k (.v (.c (.p (.int .i64 1))))))), (oA 15 (.mv (.t 78)))] [])))))) (.seq (.reg [(oA 4 (.mv (.k (.v (.c (.p (.bool true)))))))] []) .ret)))))))))))) }
theorem t9 : compF Tryd.prog (globs2 tabs opq) (fun _ => false) true Tryd.f9 = some c9.erase := by kernel_rfl
noncomputable def b9_0 (O : Oracle) (R : Jump) (q : Nat) (x0 x1 : TVal) (h : Heap) : Res1 :=
 vcall O (.v (.c (.func 12 []))) [] h 16 fun x16 h =>
 vop O (.un .not (.k x16)) h 17 fun x17 h =>
 vif x17 (
 tcomp (kB false) fun c0 => vfin true q [c0] h)
 (vlen O 2 x0 h 19 fun x19 h =>
 vop O (.minmax false [(.k x19), (.k (kI 30))]) h 20 fun x20 h =>
 vbin .add 0 x20 (kI 1) h fun x23 h =>
 vcall O (.v (.c (.func 15 []))) [x1, x23] h 24 fun x24 h =>
 R 1 [x0, (kS []), (kS []), x20, x24, (kI 0)] h)
theorem e9_0 (O : Oracle) (R : Jump) (q : Nat) (x0 x1 : TVal) (h : Heap) : b9_0 O R q x0 x1 h = stepF c9 O R q 0 [x0, x1] h := by kernel_rfl
noncomputable def b9_1 (O : Oracle) (R : Jump) (q : Nat) (x0 x5 x6 x7 x8 x9 : TVal) (h : Heap) : Res1 :=
 vbin .lss 0 x9 x7 h fun x27 h =>
 vif x27 (
 vop O (.bslice 1 9 [(.p (.str []))] [(0, (.k (kS [97]))), (1, (.k (kS [98, 57]))), (2, (.k (kS [55]))), (3, (.k (kS [45, 55]))), (4, (.k (kS [34, 120, 32, 121, 34]))), (5, (.k (kS [45, 62]))), (6, (.k (kS [46]))), (7, (.k (kS [36]))), (8, (.k (kS [123])))] false) h 30 fun x30 h =>
 viaddr 1 x0 x9 h fun x33 h =>
 vload false 1 x33 h fun x34 h =>
 vcall O (.v (.c (.func 15 []))) [x34, (kI 9)] h 35 fun x35 h =>
 viaddr 1 x30 x35 h fun x36 h =>
 vload false 1 x36 h fun x37 h =>
 vbin .add 0 x5 x37 h fun x40 h =>
 vbin .add 0 x40 (kS [32]) h fun x41 h =>
 vbin .lss 0 x9 x8 h fun x44 h =>
 vif x44 (
 R 2 [x0, x41, x41, x7, x8, x9] h)
 (R 2 [x0, x41, x6, x7, x8, x9] h))
 (R 3 [x5, x6, x7, x8] h)
theorem e9_1 (O : Oracle) (R : Jump) (q : Nat) (x0 x5 x6 x7 x8 x9 : TVal) (h : Heap) : b9_1 O R q x0 x5 x6 x7 x8 x9 h = stepF c9 O R q 1 [x0, x5, x6, x7, x8, x9] h := by kernel_rfl
noncomputable def b9_2 (O : Oracle) (R : Jump) (q : Nat) (x0 x5 x6 x7 x8 x9 : TVal) (h : Heap) : Res1 :=
 vbin .add 0 x9 (kI 1) h fun x29 h =>
 R 1 [x0, x5, x6, x7, x8, x29] h
theorem e9_2 (O : Oracle) (R : Jump) (q : Nat) (x0 x5 x6 x7 x8 x9 : TVal) (h : Heap) : b9_2 O R q x0 x5 x6 x7 x8 x9 h = stepF c9 O R q 2 [x0, x5, x6, x7, x8, x9] h := by kernel_rfl
noncomputable def b9_3 (O : Oracle) (R : Jump) (q : Nat) (x5 x6 x7 x8 : TVal) (h : Heap) : Res1 :=
 vcall O (.v (.c (.func 16 []))) [x5] h 48 fun x48 h =>
 vext x48 0 h fun x49 h =>
 vext x48 1 h fun x50 h =>
 vcall O (.v (.c (.func 16 []))) [x6] h 53 fun x53 h =>
 vext x53 0 h fun x54 h =>
 vext x53 1 h fun x55 h =>
 vbin .neq 0 x50 (kI 0) h fun x57 h =>
 vguard x57 false (fun kk => kk x55 h) h fun x59 h =>
 vguard x57 false (fun kk => vbin .neq 0 x59 (kI 0) h kk) h fun x60 h =>
 vop O (.pick (.k x57) (.k (kB true)) (.k x60)) h 61 fun x61 h =>
 vguard x61 false (fun kk => kk x49 h) h fun x63 h =>
 vguard x61 false (fun kk => vlen O 2 x63 h 64 kk) h fun x64 h =>
 vguard x61 false (fun kk => kk x7 h) h fun x65 h =>
 vguard x61 false (fun kk => vbin .neq 0 x64 x65 h kk) h fun x66 h =>
 vop O (.pick (.k x61) (.k (kB true)) (.k x66)) h 67 fun x67 h =>
 vguard x67 false (fun kk => kk x54 h) h fun x69 h =>
 vguard x67 false (fun kk => vlen O 2 x69 h 70 kk) h fun x70 h =>
 vguard x67 false (fun kk => kk x8 h) h fun x71 h =>
 vguard x67 false (fun kk => vbin .neq 0 x70 x71 h kk) h fun x72 h =>
 vop O (.pick (.k x67) (.k (kB true)) (.k x72)) h 73 fun x73 h =>
 vif x73 (
 tcomp (kB false) fun c0 => vfin true q [c0] h)
 (R 4 [x8, x49, x54, (kI 0)] h)
theorem e9_3 (O : Oracle) (R : Jump) (q : Nat) (x5 x6 x7 x8 : TVal) (h : Heap) : b9_3 O R q x5 x6 x7 x8 h = stepF c9 O R q 3 [x5, x6, x7, x8] h := by kernel_rfl
noncomputable def b9_4 (O : Oracle) (R : Jump) (q : Nat) (x8 x11 x13 x15 : TVal) (h : Heap) : Res1 :=
 vbin .lss 0 x15 x8 h fun x76 h =>
 vif x76 (
 viaddr 4 x11 x15 h fun x81 h =>
 vload true 4 x81 h fun x82 h =>
 viaddr 4 x13 x15 h fun x85 h =>
 vload true 4 x85 h fun x86 h =>
 vbin .neq 97 x82 x86 h fun x87 h =>
 vif x87 (
 tcomp (kB false) fun c0 => vfin true q [c0] h)
 (vbin .add 0 x15 (kI 1) h fun x78 h =>
 R 4 [x8, x11, x13, x78] h))
 (tcomp (kB true) fun c0 => vfin true q [c0] h)
theorem e9_4 (O : Oracle) (R : Jump) (q : Nat) (x8 x11 x13 x15 : TVal) (h : Heap) : b9_4 O R q x8 x11 x13 x15 h = stepF c9 O R q 4 [x8, x11, x13, x15] h := by kernel_rfl
noncomputable def d9 : BlkF := fun O R q => [.s fun y0 => .s fun y1 => .z fun h => b9_0 O R q y0 y1 h, .s fun y0 => .s fun y1 => .s fun y2 => .s fun y3 => .s fun y4 => .s fun y5 => .z fun h => b9_1 O R q y0 y1 y2 y3 y4 y5 h, .s fun y0 => .s fun y1 => .s fun y2 => .s fun y3 => .s fun y4 => .s fun y5 => .z fun h => b9_2 O R q y0 y1 y2 y3 y4 y5 h, .s fun y0 => .s fun y1 => .s fun y2 => .s fun y3 => .z fun h => b9_3 O R q y0 y1 y2 y3 h, .s fun y0 => .s fun y1 => .s fun y2 => .s fun y3 => .z fun h => b9_4 O R q y0 y1 y2 y3 h]
theorem o9 (O : Oracle) (R : Jump) (q : Nat) : HoldsAll c9 O R q 0 (d9 O R q) := ⟨fun y0 y1 h => e9_0 O R q y0 y1 h, fun y0 y1 y2 y3 y4 y5 h => e9_1 O R q y0 y1 y2 y3 y4 y5 h, fun y0 y1 y2 y3 y4 y5 h => e9_2 O R q y0 y1 y2 y3 y4 y5 h, fun y0 y1 y2 y3 h => e9_3 O R q y0 y1 y2 y3 h, fun y0 y1 y2 y3 h => e9_4 O R q y0 y1 y2 y3 h, trivial⟩
/- sprue/spruelaw1.ScanTokens -/
def c10 : MFunc := { np := 3, res := [.t 6], frz := true, body := (.seq (.reg [(oA 6 (.mv (.k (.v (.c (.p (.bool false)))))))] []) (.seq (.seq (.reg [(oA 15 (.call (.k (.v (.c (.func 12 [])))) [])), (oA 16 (.un .not (.t 15)))] []) (.cond (.t 16) (.seq (.reg [(oA 6 (.mv (.k (.v (.c (.p (.bool false)))))))] []) .ret) .skip)) (.seq (.seq (.reg [(oA 17 (.mv (.t 0))), (oA 18 (.len 0 (.t 17))), (oA 19 (.bin .gtr 0 (.t 18) (.k (.v (.c (.p (.int .i64 2000)))))))] []) (.cond (.t 19) (.seq (.reg [(oA 6 (.mv (.k (.v (.c (.p (.bool true)))))))] []) .ret) .skip)) (.seq (.reg [(oA 7 (.mv (.k (.v (.c (.p (.str [])))))))] []) (.seq (.seq (.reg [(oA 8 (.mv (.k (.v (.c (.p (.int .i64 0)))))))] []) (.block 0 (.loop 1 [0, 1, 2, 7, 8] (.seq (.seq (.reg [(oA 20 (.mv (.t 8))), (oA 21 (.mv (.t 1))), (oA 22 (.len 2 (.t 21))), (oA 23 (.bin .lss 0 (.t 20) (.t 22))), (oA 24 (.mv (.t 23))), ⟨(some 25), (.mv (.t 8)), (some (24, true))⟩, ⟨(some 26), (.bin .lss 0 (.t 25) (.k (.v (.c (.p (.int .i64 60)))))), (some (24, true))⟩, (oA 27 (.pick (.t 24) (.t 26) (.k (.v (.c (.p (.bool false)))))))] []) (.cond (.t 27) .skip (.exit 0))) (.seq (.block 1 (.seq (.reg [(oA 30 (.mv (.t 7))), (oA 31 (.mv (.t 1))), (oA 32 (.mv (.t 8))), (oA 33 (.iaddr 1 (.t 31) (.t 32))), (oA 34 (.load false 1 (.t 33))), (oA 35 (.call (.k (.v (.c (.func 13 [])))) [(.t 34)])), (oA 36 (.bin .add 0 (.t 30) (.t 35))), (oA 7 (.mv (.t 36)))] []) (.seq (.reg [(oA 37 (.mv (.t 8))), (oA 38 (.mv (.t 2))), (oA 39 (.len 2 (.t 38))), (oA 40 (.bin .lss 0 (.t 37) (.t 39)))] []) (.cond (.t 40) (.reg [(oA 41 (.mv (.t 7))), (oA 42 (.bslice 1 5 [(.p (.str []))] [(0, (.k (.v (.c (.p (.str [])))))), (1, (.k (.v (.c (.p (.str [32])))))), (2, (.k (.v (.c (.p (.str [10])))))), (3, (.k (.v (.c (.p (.str [9, 32])))))), (4, (.k (.v (.c (.p (.str [13]))))))] false)), (oA 43 (.mv (.t 2))), (oA 44 (.mv (.t 8))), (oA 45 (.iaddr 1 (.t 43) (.t 44))), (oA 46 (.load false 1 (.t 45))), (oA 47 (.call (.k (.v (.c (.func 15 [])))) [(.t 46), (.k (.v (.c (.p (.int .i64 5)))))])), (oA 48 (.iaddr 1 (.t 42) (.t 47))), (oA 49 (.load false 1 (.t 48))), (oA 50 (.bin .add 0 (.t 41) (.t 49))), (oA 7 (.mv (.t 50)))] []) .skip)))) (.mark 2 [0, 1, 2, 7, 8] (.reg [(oA 28 (.mv (.t 8))), (oA 29 (.bin .add 0 (.t 28) (.k (.v (.c (.p (.int .i64 1))))))), (oA 8 (.mv (.t 29)))] []))))))) (.mark 3 [0, 7] (.seq (.reg [(oA 51 (.mv (.t 0))), (oA 52 (.mv (.t 7))), (oA 53 (.mv (.t 7))), (oA 54 (.mv (.t 0))), (oA 55 (.bin .add 0 (.t 53) (.t 54))), (oA 56 (.bslice 1 3 [(.p (.str []))] [(0, (.t 51)), (1, (.t 52)), (2, (.t 55))] false)), (oA 9 (.mv (.t 56)))] []) (.seq (.seq (.reg [(oA 10 (.mv (.k (.v (.c (.p (.int .i64 0)))))))] []) (.block 2 (.loop 4 [9, 10] (.seq (.seq (.reg [(oA 57 (.mv (.t 10))), (oA 58 (.bin .lss 0 (.t 57) (.k (.v (.c (.p (.int .i64 3)))))))] []) (.cond (.t 58) .skip (.exit 2))) (.seq (.block 3 (.seq (.reg [(oA 62 (.mv (.t 9))), (oA 63 (.mv (.t 10))), (oA 64 (.iaddr 1 (.t 62) (.t 63))), (oA 65 (.load false 1 (.t 64))), (oA 66 (.call (.k (.v (.c (.func 16 [])))) [(.t 65)])), (oA 61 (.mv (.t 66))), (oA 67 (.extract (.t 61) 0)), (oA 68 (.extract (.t 61) 1)), (oA 11 (.mv (.t 67))), (oA 12 (.mv (.t 68)))] []) (.seq (.reg [(oA 70 (.mv (.t 9))), (oA 71 (.mv (.t 10))), (oA 72 (.iaddr 1 (.t 70) (.t 71))), (oA 73 (.load false 1 (.t 72))), (oA 74 (.call (.k (.v (.c (.func 14 [])))) [(.t 73)])), (oA 69 (.mv (.t 74))), (oA 75 (.extract (.t 69) 0)), (oA 76 (.extract (.t 69) 1)), (oA 13 (.mv (.t 75))), (oA 14 (.mv (.t 76)))] []) (.seq (.reg [(oA 77 (.mv (.t 12))), (oA 78 (.mv (.t 14))), (oA 79 (.bin .neq 0 (.t 77) (.t 78))), (oA 80 (.mv (.t 79))), ⟨(some 81), (.mv (.t 11)), (some (80, false))⟩, ⟨(some 82), (.mv (.t 13)), (some (80, false))⟩, ⟨(some 83), (.call (.k (.v (.c (.func 17 [])))) [(.t 81), (.t 82)]), (some (80, false))⟩, ⟨(some 84), (.un .not (.t 83)), (some (80, false))⟩, (oA 85 (.pick (.t 80) (.k (.v (.c (.p (.bool true))))) (.t 84))), (oA 86 (.mv (.t 85))), ⟨(some 87), (.mv (.t 9)), (some (86, false))⟩, ⟨(some 88), (.mv (.t 10)), (some (86, false))⟩, ⟨(some 89), (.iaddr 1 (.t 87) (.t 88)), (some (86, false))⟩, ⟨(some 90), (.load false 1 (.t 89)), (some (86, false))⟩, ⟨(some 91), (.call (.k (.v (.c (.func 18 [])))) [(.t 90)]), (some (86, false))⟩, ⟨(some 92), (.mv (.t 9)), (some (86, false))⟩, ⟨(some 93), (.mv (.t 10)), (some (86, false))⟩, ⟨(some 94), (.iaddr 1 (.t 92) (.t 93)), (some (86, false))⟩, ⟨(some 95), (.load false 1 (.t 94)), (some (86, false))⟩, ⟨(some 96), (.call (.k (.v (.c (.func 19 [])))) [(.t 95)]), (some (86, false))⟩, ⟨(some 97), (.bin .neq 5 (.t 91) (.t 96)), (some (86, false))⟩, (oA 98 (.pick (.t 86) (.k (.v (.c (.p (.bool true))))) (.t 97)))] [(14, 18)]) (.cond (.t 98) (.seq (.reg [(oA 6 (.mv (.k (.v (.c (.p (.bool false)))))))] []) .ret) .skip))))) (.reg [(oA 59 (.mv (.t 10))), (oA 60 (.bin .add 0 (.t 59) (.k (.v (.c (.p (.int .i64 1))))))), (oA 10 (.mv (.t 60)))] [])))))) (.seq (.reg [(oA 6 (.mv (.k (.v (.c (.p (.bool true)))))))] []) .ret))))))))) }
theorem t10 : compF Tryd.prog (globs2 tabs opq) (fun _ => false) true Tryd.f10 = some c10.erase := by kernel_rfl
noncomputable def b10_0 (O : Oracle) (R : Jump) (q : Nat) (x0 x1 x2 : TVal) (h : Heap) : Res1 :=
 vcall O (.v (.c (.func 12 []))) [] h 15 fun x15 h =>
 vop O (.un .not (.k x15)) h 16 fun x16 h =>
 vif x16 (
 tcomp (kB false) fun c0 => vfin true q [c0] h)
 (vlen O 0 x0 h 18 fun x18 h =>
 vbin .gtr 0 x18 (kI 2000) h fun x19 h =>
 vif x19 (
 tcomp (kB true) fun c0 => vfin true q [c0] h)
 (R 1 [x0, x1, x2, (kS []), (kI 0)] h))
theorem e10_0 (O : Oracle) (R : Jump) (q : Nat) (x0 x1 x2 : TVal) (h : Heap) : b10_0 O R q x0 x1 x2 h = stepF c10 O R q 0 [x0, x1, x2] h := by kernel_rfl
noncomputable def b10_1 (O : Oracle) (R : Jump) (q : Nat) (x0 x1 x2 x7 x8 : TVal) (h : Heap) : Res1 :=
 vlen O 2 x1 h 22 fun x22 h =>
 vbin .lss 0 x8 x22 h fun x23 h =>
 vguard x23 true (fun kk => kk x8 h) h fun x25 h =>
 vguard x23 true (fun kk => vbin .lss 0 x25 (kI 60) h kk) h fun x26 h =>
 vop O (.pick (.k x23) (.k x26) (.k (kB false))) h 27 fun x27 h =>
 vif x27 (
 viaddr 1 x1 x8 h fun x33 h =>
 vload false 1 x33 h fun x34 h =>
 vcall O (.v (.c (.func 13 []))) [x34] h 35 fun x35 h =>
 vbin .add 0 x7 x35 h fun x36 h =>
 vlen O 2 x2 h 39 fun x39 h =>
 vbin .lss 0 x8 x39 h fun x40 h =>
 vif x40 (
 vop O (.bslice 1 5 [(.p (.str []))] [(0, (.k (kS []))), (1, (.k (kS [32]))), (2, (.k (kS [10]))), (3, (.k (kS [9, 32]))), (4, (.k (kS [13])))] false) h 42 fun x42 h =>
 viaddr 1 x2 x8 h fun x45 h =>
 vload false 1 x45 h fun x46 h =>
 vcall O (.v (.c (.func 15 []))) [x46, (kI 5)] h 47 fun x47 h =>
 viaddr 1 x42 x47 h fun x48 h =>
 vload false 1 x48 h fun x49 h =>
 vbin .add 0 x36 x49 h fun x50 h =>
 R 2 [x0, x1, x2, x50, x8] h)
 (R 2 [x0, x1, x2, x36, x8] h))
 (R 3 [x0, x7] h)
theorem e10_1 (O : Oracle) (R : Jump) (q : Nat) (x0 x1 x2 x7 x8 : TVal) (h : Heap) : b10_1 O R q x0 x1 x2 x7 x8 h = stepF c10 O R q 1 [x0, x1, x2, x7, x8] h := by kernel_rfl
noncomputable def b10_2 (O : Oracle) (R : Jump) (q : Nat) (x0 x1 x2 x7 x8 : TVal) (h : Heap) : Res1 :=
 vbin .add 0 x8 (kI 1) h fun x29 h =>
 R 1 [x0, x1, x2, x7, x29] h
theorem e10_2 (O : Oracle) (R : Jump) (q : Nat) (x0 x1 x2 x7 x8 : TVal) (h : Heap) : b10_2 O R q x0 x1 x2 x7 x8 h = stepF c10 O R q 2 [x0, x1, x2, x7, x8] h := by kernel_rfl
noncomputable def b10_3 (O : Oracle) (R : Jump) (q : Nat) (x0 x7 : TVal) (h : Heap) : Res1 :=
 vbin .add 0 x7 x0 h fun x55 h =>
 vop O (.bslice 1 3 [(.p (.str []))] [(0, (.k x0)), (1, (.k x7)), (2, (.k x55))] false) h 56 fun x56 h =>
 R 4 [x56, (kI 0)] h
theorem e10_3 (O : Oracle) (R : Jump) (q : Nat) (x0 x7 : TVal) (h : Heap) : b10_3 O R q x0 x7 h = stepF c10 O R q 3 [x0, x7] h := by kernel_rfl
noncomputable def b10_4 (O : Oracle) (R : Jump) (q : Nat) (x9 x10 : TVal) (h : Heap) : Res1 :=
 vbin .lss 0 x10 (kI 3) h fun x58 h =>
 vif x58 (
 viaddr 1 x9 x10 h fun x64 h =>
 vload false 1 x64 h fun x65 h =>
 vcall O (.v (.c (.func 16 []))) [x65] h 66 fun x66 h =>
 vext x66 0 h fun x67 h =>
 vext x66 1 h fun x68 h =>
 viaddr 1 x9 x10 h fun x72 h =>
 vload false 1 x72 h fun x73 h =>
 vcall O (.v (.c (.func 14 []))) [x73] h 74 fun x74 h =>
 vext x74 0 h fun x75 h =>
 vext x74 1 h fun x76 h =>
 vtouch O (.mv (.k x68)) h 77 fun x77 h t0 =>
 vtouch O (.mv (.k x76)) h 78 fun x78 h t1 =>
 vtouch O (.bin .neq 0 (.k x77) (.k x78)) h 79 fun x79 h t2 =>
 vtouch O (.mv (.k x79)) h 80 fun x80 h t3 =>
 vguardT x80 false (fun kk => vtouch O (.mv (.k x67)) h 81 kk) h fun x81 h t4 =>
 vguardT x80 false (fun kk => vtouch O (.mv (.k x75)) h 82 kk) h fun x82 h t5 =>
 vguardT x80 false (fun kk => vtouch O (.call (.k (.v (.c (.func 17 [])))) [(.k x81), (.k x82)]) h 83 kk) h fun x83 h t6 =>
 vguardT x80 false (fun kk => vtouch O (.un .not (.k x83)) h 84 kk) h fun x84 h t7 =>
 vtouch O (.pick (.k x80) (.k (kB true)) (.k x84)) h 85 fun x85 h t8 =>
 vtouch O (.mv (.k x85)) h 86 fun x86 h t9 =>
 vguardT x86 false (fun kk => vtouch O (.mv (.k x9)) h 87 kk) h fun x87 h t10 =>
 vguardT x86 false (fun kk => vtouch O (.mv (.k x10)) h 88 kk) h fun x88 h t11 =>
 vguardT x86 false (fun kk => vtouch O (.iaddr 1 (.k x87) (.k x88)) h 89 kk) h fun x89 h t12 =>
 vguardT x86 false (fun kk => vtouch O (.load false 1 (.k x89)) h 90 kk) h fun x90 h t13 =>
 vguardT x86 false (fun kk => vtouch O (.call (.k (.v (.c (.func 18 [])))) [(.k x90)]) h 91 kk) h fun x91 h t14 =>
 vguardT x86 false (fun kk => vtouch O (.mv (.k x9)) h 92 kk) h fun x92 h t15 =>
 vguardT x86 false (fun kk => vtouch O (.mv (.k x10)) h 93 kk) h fun x93 h t16 =>
 vguardT x86 false (fun kk => vtouch O (.iaddr 1 (.k x92) (.k x93)) h 94 kk) h fun x94 h t17 =>
 vguardT x86 false (fun kk => vtouch O (.load false 1 (.k x94)) h 95 kk) h fun x95 h t18 =>
 vguardT x86 false (fun kk => vtouch O (.call (.k (.v (.c (.func 19 [])))) [(.k x95)]) h 96 kk) h fun x96 h t19 =>
 vguardT x86 false (fun kk => vtouch O (.bin .neq 5 (.k x91) (.k x96)) h 97 kk) h fun x97 h t20 =>
 vtouch O (.pick (.k x86) (.k (kB true)) (.k x97)) h 98 fun x98 h t21 =>
 bif apartAll [t0, t1, t2, t3, t4, t5, t6, t7, t8, t9, t10, t11, t12, t13, t14, t15, t16, t17, t18, t19, t20, t21] [(14, 18)] then
 vif x98 (
 tcomp (kB false) fun c0 => vfin true q [c0] h)
 (vbin .add 0 x10 (kI 1) h fun x60 h =>
 R 4 [x9, x60] h)
 else none)
 (tcomp (kB true) fun c0 => vfin true q [c0] h)
theorem e10_4 (O : Oracle) (R : Jump) (q : Nat) (x9 x10 : TVal) (h : Heap) : b10_4 O R q x9 x10 h = stepF c10 O R q 4 [x9, x10] h := by kernel_rfl
noncomputable def d10 : BlkF := fun O R q => [.s fun y0 => .s fun y1 => .s fun y2 => .z fun h => b10_0 O R q y0 y1 y2 h, .s fun y0 => .s fun y1 => .s fun y2 => .s fun y3 => .s fun y4 => .z fun h => b10_1 O R q y0 y1 y2 y3 y4 h, .s fun y0 => .s fun y1 => .s fun y2 => .s fun y3 => .s fun y4 => .z fun h => b10_2 O R q y0 y1 y2 y3 y4 h, .s fun y0 => .s fun y1 => .z fun h => b10_3 O R q y0 y1 h, .s fun y0 => .s fun y1 => .z fun h => b10_4 O R q y0 y1 h]
theorem o10 (O : Oracle) (R : Jump) (q : Nat) : HoldsAll c10 O R q 0 (d10 O R q) := ⟨fun y0 y1 y2 h => e10_0 O R q y0 y1 y2 h, fun y0 y1 y2 y3 y4 h => e10_1 O R q y0 y1 y2 y3 y4 h, fun y0 y1 y2 y3 y4 h => e10_2 O R q y0 y1 y2 y3 y4 h, fun y0 y1 h => e10_3 O R q y0 y1 h, fun y0 y1 h => e10_4 O R q y0 y1 h, trivial⟩
/- sprue/spruelaw1.ScanNames -/
def c11 : MFunc := { np := 1, res := [.t 2], frz := true, body := (.seq (.reg [(oA 2 (.mv (.k (.v (.c (.p (.bool false)))))))] []) (.seq (.seq (.reg [(oA 11 (.call (.k (.v (.c (.func 12 [])))) [])), (oA 12 (.un .not (.t 11)))] []) (.cond (.t 12) (.seq (.reg [(oA 2 (.mv (.k (.v (.c (.p (.bool false)))))))] []) .ret) .skip)) (.seq (.reg [(oA 3 (.mv (.k (.v (.c (.p (.str [97, 90, 95, 48, 57, 120, 66])))))))] []) (.seq (.reg [(oA 4 (.mv (.k (.v (.c (.p (.str [])))))))] []) (.seq (.seq (.reg [(oA 5 (.mv (.k (.v (.c (.p (.int .i64 0)))))))] []) (.block 0 (.loop 1 [0, 3, 4, 5] (.seq (.seq (.reg [(oA 13 (.mv (.t 5))), (oA 14 (.mv (.t 0))), (oA 15 (.len 2 (.t 14))), (oA 16 (.bin .lss 0 (.t 13) (.t 15))), (oA 17 (.mv (.t 16))), ⟨(some 18), (.mv (.t 5)), (some (17, true))⟩, ⟨(some 19), (.bin .lss 0 (.t 18) (.k (.v (.c (.p (.int .i64 16)))))), (some (17, true))⟩, (oA 20 (.pick (.t 17) (.t 19) (.k (.v (.c (.p (.bool false)))))))] []) (.cond (.t 20) .skip (.exit 0))) (.seq (.block 1 (.seq (.reg [(oA 23 (.mv (.t 0))), (oA 24 (.mv (.t 5))), (oA 25 (.iaddr 1 (.t 23) (.t 24))), (oA 26 (.load false 1 (.t 25))), (oA 27 (.call (.k (.v (.c (.func 15 [])))) [(.t 26), (.k (.v (.c (.p (.int .i64 7)))))])), (oA 6 (.mv (.t 27)))] []) (.seq (.seq (.reg [(oA 28 (.mv (.t 5))), (oA 29 (.bin .eql 0 (.t 28) (.k (.v (.c (.p (.int .i64 0))))))), (oA 30 (.mv (.t 29))), ⟨(some 31), (.mv (.t 6)), (some (30, true))⟩, ⟨(some 32), (.bin .eql 0 (.t 31) (.k (.v (.c (.p (.int .i64 3)))))), (some (30, true))⟩, ⟨(some 33), (.mv (.t 32)), (some (30, true))⟩, ⟨(some 34), (.mv (.t 6)), (some (33, false))⟩, ⟨(some 35), (.bin .eql 0 (.t 34) (.k (.v (.c (.p (.int .i64 4)))))), (some (33, false))⟩, ⟨(some 36), (.pick (.t 33) (.k (.v (.c (.p (.bool true))))) (.t 35)), (some (30, true))⟩, (oA 37 (.pick (.t 30) (.t 36) (.k (.v (.c (.p (.bool false)))))))] []) (.cond (.t 37) (.reg [(oA 6 (.mv (.k (.v (.c (.p (.int .i64 0)))))))] []) .skip)) (.mark 2 [0, 3, 4, 5, 6] (.reg [(oA 38 (.mv (.t 4))), (oA 39 (.mv (.t 3))), (oA 40 (.mv (.t 6))), (oA 41 (.mv (.t 6))), (oA 42 (.bin .add 0 (.t 41) (.k (.v (.c (.p (.int .i64 1))))))), (oA 43 (.slice 0 true (.t 39) (some (.t 40)) (some (.t 42)) none)), (oA 44 (.bin .add 0 (.t 38) (.t 43))), (oA 4 (.mv (.t 44)))] []))))) (.reg [(oA 21 (.mv (.t 5))), (oA 22 (.bin .add 0 (.t 21) (.k (.v (.c (.p (.int .i64 1))))))), (oA 5 (.mv (.t 22)))] [])))))) (.mark 3 [4] (.seq (.seq (.reg [(oA 45 (.mv (.t 4))), (oA 46 (.bin .eql 0 (.t 45) (.k (.v (.c (.p (.str [])))))))] []) (.cond (.t 46) (.seq (.reg [(oA 47 (.mv (.t 4))), (oA 48 (.call (.k (.v (.c (.func 18 [])))) [(.t 47)])), (oA 49 (.un .not (.t 48))), (oA 2 (.mv (.t 49)))] []) .ret) .skip)) (.seq (.reg [(oA 51 (.mv (.t 4))), (oA 52 (.call (.k (.v (.c (.func 16 [])))) [(.t 51)])), (oA 50 (.mv (.t 52))), (oA 53 (.extract (.t 50) 0)), (oA 54 (.extract (.t 50) 1)), (oA 7 (.mv (.t 53))), (oA 8 (.mv (.t 54)))] []) (.seq (.reg [(oA 56 (.mv (.t 4))), (oA 57 (.bin .add 0 (.k (.v (.c (.p (.str [52, 32]))))) (.t 56))), (oA 58 (.call (.k (.v (.c (.func 16 [])))) [(.t 57)])), (oA 55 (.mv (.t 58))), (oA 59 (.extract (.t 55) 0)), (oA 60 (.extract (.t 55) 1)), (oA 9 (.mv (.t 59))), (oA 10 (.mv (.t 60)))] []) (.seq (.reg [(oA 61 (.mv (.t 8))), (oA 62 (.bin .eql 0 (.t 61) (.k (.v (.c (.p (.int .i64 0))))))), (oA 63 (.mv (.t 62))), ⟨(some 64), (.mv (.t 7)), (some (63, true))⟩, ⟨(some 65), (.len 2 (.t 64)), (some (63, true))⟩, ⟨(some 66), (.bin .eql 0 (.t 65) (.k (.v (.c (.p (.int .i64 1)))))), (some (63, true))⟩, (oA 67 (.pick (.t 63) (.t 66) (.k (.v (.c (.p (.bool false))))))), (oA 68 (.mv (.t 67))), ⟨(some 69), (.mv (.t 7)), (some (68, true))⟩, ⟨(some 70), (.iaddr 4 (.t 69) (.k (.v (.c (.p (.int .i64 0)))))), (some (68, true))⟩, ⟨(some 71), (.faddr 0 (.t 70)), (some (68, true))⟩, ⟨(some 72), (.load false 1 (.t 71)), (some (68, true))⟩, ⟨(some 73), (.bin .eql 0 (.t 72) (.k (.v (.c (.p (.int .i64 1)))))), (some (68, true))⟩, (oA 74 (.pick (.t 68) (.t 73) (.k (.v (.c (.p (.bool false))))))), (oA 75 (.mv (.t 74))), ⟨(some 76), (.mv (.t 7)), (some (75, true))⟩, ⟨(some 77), (.iaddr 4 (.t 76) (.k (.v (.c (.p (.int .i64 0)))))), (some (75, true))⟩, ⟨(some 78), (.faddr 1 (.t 77)), (some (75, true))⟩, ⟨(some 79), (.load false 1 (.t 78)), (some (75, true))⟩, ⟨(some 80), (.mv (.t 4)), (some (75, true))⟩, ⟨(some 81), (.bin .eql 0 (.t 79) (.t 80)), (some (75, true))⟩, (oA 82 (.pick (.t 75) (.t 81) (.k (.v (.c (.p (.bool false))))))), (oA 83 (.mv (.t 82))), ⟨(some 84), (.mv (.t 4)), (some (83, true))⟩, ⟨(some 85), (.call (.k (.v (.c (.func 18 [])))) [(.t 84)]), (some (83, true))⟩, (oA 86 (.pick (.t 83) (.t 85) (.k (.v (.c (.p (.bool false))))))), (oA 87 (.mv (.t 86))), ⟨(some 88), (.mv (.t 10)), (some (87, true))⟩, ⟨(some 89), (.bin .eql 0 (.t 88) (.k (.v (.c (.p (.int .i64 0)))))), (some (87, true))⟩, (oA 90 (.pick (.t 87) (.t 89) (.k (.v (.c (.p (.bool false))))))), (oA 91 (.mv (.t 90))), ⟨(some 92), (.mv (.t 9)), (some (91, true))⟩, ⟨(some 93), (.len 2 (.t 92)), (some (91, true))⟩, ⟨(some 94), (.bin .eql 0 (.t 93) (.k (.v (.c (.p (.int .i64 2)))))), (some (91, true))⟩, (oA 95 (.pick (.t 91) (.t 94) (.k (.v (.c (.p (.bool false))))))), (oA 96 (.mv (.t 95))), ⟨(some 97), (.mv (.t 9)), (some (96, true))⟩, ⟨(some 98), (.iaddr 4 (.t 97) (.k (.v (.c (.p (.int .i64 0)))))), (some (96, true))⟩, ⟨(some 99), (.faddr 2 (.t 98)), (some (96, true))⟩, ⟨(some 100), (.load false 1 (.t 99)), (some (96, true))⟩, ⟨(some 101), (.bin .eql 0 (.t 100) (.k (.v (.c (.p (.int .i64 4)))))), (some (96, true))⟩, (oA 102 (.pick (.t 96) (.t 101) (.k (.v (.c (.p (.bool false))))))), (oA 103 (.mv (.t 102))), ⟨(some 104), (.mv (.t 4)), (some (103, true))⟩, ⟨(some 105), (.bin .add 0 (.k (.v (.c (.p (.str [52]))))) (.t 104)), (some (103, true))⟩, ⟨(some 106), (.call (.k (.v (.c (.func 18 [])))) [(.t 105)]), (some (103, true))⟩, ⟨(some 107), (.un .not (.t 106)), (some (103, true))⟩, (oA 108 (.pick (.t 103) (.t 107) (.k (.v (.c (.p (.bool false))))))), (oA 2 (.mv (.t 108)))] []) .ret)))))))))) }
theorem t11 : compF Tryd.prog (globs2 tabs opq) (fun _ => false) true Tryd.f11 = some c11.erase := by kernel_rfl
noncomputable def b11_0 (O : Oracle) (R : Jump) (q : Nat) (x0 : TVal) (h : Heap) : Res1 :=
 vcall O (.v (.c (.func 12 []))) [] h 11 fun x11 h =>
 vop O (.un .not (.k x11)) h 12 fun x12 h =>
 vif x12 (
 tcomp (kB false) fun c0 => vfin true q [c0] h)
 (R 1 [x0, (kS [97, 90, 95, 48, 57, 120, 66]), (kS []), (kI 0)] h)
theorem e11_0 (O : Oracle) (R : Jump) (q : Nat) (x0 : TVal) (h : Heap) : b11_0 O R q x0 h = stepF c11 O R q 0 [x0] h := by kernel_rfl
noncomputable def b11_1 (O : Oracle) (R : Jump) (q : Nat) (x0 x3 x4 x5 : TVal) (h : Heap) : Res1 :=
 vlen O 2 x0 h 15 fun x15 h =>
 vbin .lss 0 x5 x15 h fun x16 h =>
 vguard x16 true (fun kk => kk x5 h) h fun x18 h =>
 vguard x16 true (fun kk => vbin .lss 0 x18 (kI 16) h kk) h fun x19 h =>
 vop O (.pick (.k x16) (.k x19) (.k (kB false))) h 20 fun x20 h =>
 vif x20 (
 viaddr 1 x0 x5 h fun x25 h =>
 vload false 1 x25 h fun x26 h =>
 vcall O (.v (.c (.func 15 []))) [x26, (kI 7)] h 27 fun x27 h =>
 vbin .eql 0 x5 (kI 0) h fun x29 h =>
 vguard x29 true (fun kk => kk x27 h) h fun x31 h =>
 vguard x29 true (fun kk => vbin .eql 0 x31 (kI 3) h kk) h fun x32 h =>
 vguard x29 true (fun kk => kk x32 h) h fun x33 h =>
 vguard x33 false (fun kk => kk x27 h) h fun x34 h =>
 vguard x33 false (fun kk => vbin .eql 0 x34 (kI 4) h kk) h fun x35 h =>
 vguard x29 true (fun kk => vop O (.pick (.k x33) (.k (kB true)) (.k x35)) h 36 kk) h fun x36 h =>
 vop O (.pick (.k x29) (.k x36) (.k (kB false))) h 37 fun x37 h =>
 vif x37 (
 R 2 [x0, x3, x4, x5, (kI 0)] h)
 (R 2 [x0, x3, x4, x5, x27] h))
 (R 3 [x4] h)
theorem e11_1 (O : Oracle) (R : Jump) (q : Nat) (x0 x3 x4 x5 : TVal) (h : Heap) : b11_1 O R q x0 x3 x4 x5 h = stepF c11 O R q 1 [x0, x3, x4, x5] h := by kernel_rfl
noncomputable def b11_2 (O : Oracle) (R : Jump) (q : Nat) (x0 x3 x4 x5 x6 : TVal) (h : Heap) : Res1 :=
 vbin .add 0 x6 (kI 1) h fun x42 h =>
 vop O (.slice 0 true (.k x3) (some (.k x6)) (some (.k x42)) none) h 43 fun x43 h =>
 vbin .add 0 x4 x43 h fun x44 h =>
 vbin .add 0 x5 (kI 1) h fun x22 h =>
 R 1 [x0, x3, x44, x22] h
theorem e11_2 (O : Oracle) (R : Jump) (q : Nat) (x0 x3 x4 x5 x6 : TVal) (h : Heap) : b11_2 O R q x0 x3 x4 x5 x6 h = stepF c11 O R q 2 [x0, x3, x4, x5, x6] h := by kernel_rfl
noncomputable def b11_3 (O : Oracle) (R : Jump) (q : Nat) (x4 : TVal) (h : Heap) : Res1 :=
 vbin .eql 0 x4 (kS []) h fun x46 h =>
 vif x46 (
 vcall O (.v (.c (.func 18 []))) [x4] h 48 fun x48 h =>
 vop O (.un .not (.k x48)) h 49 fun x49 h =>
 tcomp x49 fun c0 => vfin true q [c0] h)
 (vcall O (.v (.c (.func 16 []))) [x4] h 52 fun x52 h =>
 vext x52 0 h fun x53 h =>
 vext x52 1 h fun x54 h =>
 vbin .add 0 (kS [52, 32]) x4 h fun x57 h =>
 vcall O (.v (.c (.func 16 []))) [x57] h 58 fun x58 h =>
 vext x58 0 h fun x59 h =>
 vext x58 1 h fun x60 h =>
 vbin .eql 0 x54 (kI 0) h fun x62 h =>
 vguard x62 true (fun kk => kk x53 h) h fun x64 h =>
 vguard x62 true (fun kk => vlen O 2 x64 h 65 kk) h fun x65 h =>
 vguard x62 true (fun kk => vbin .eql 0 x65 (kI 1) h kk) h fun x66 h =>
 vop O (.pick (.k x62) (.k x66) (.k (kB false))) h 67 fun x67 h =>
 vguard x67 true (fun kk => kk x53 h) h fun x69 h =>
 vguard x67 true (fun kk => viaddr 4 x69 (kI 0) h kk) h fun x70 h =>
 vguard x67 true (fun kk => vfaddr 0 x70 h kk) h fun x71 h =>
 vguard x67 true (fun kk => vload false 1 x71 h kk) h fun x72 h =>
 vguard x67 true (fun kk => vbin .eql 0 x72 (kI 1) h kk) h fun x73 h =>
 vop O (.pick (.k x67) (.k x73) (.k (kB false))) h 74 fun x74 h =>
 vguard x74 true (fun kk => kk x53 h) h fun x76 h =>
 vguard x74 true (fun kk => viaddr 4 x76 (kI 0) h kk) h fun x77 h =>
 vguard x74 true (fun kk => vfaddr 1 x77 h kk) h fun x78 h =>
 vguard x74 true (fun kk => vload false 1 x78 h kk) h fun x79 h =>
 vguard x74 true (fun kk => kk x4 h) h fun x80 h =>
 vguard x74 true (fun kk => vbin .eql 0 x79 x80 h kk) h fun x81 h =>
 vop O (.pick (.k x74) (.k x81) (.k (kB false))) h 82 fun x82 h =>
 vguard x82 true (fun kk => kk x4 h) h fun x84 h =>
 vguard x82 true (fun kk => vcall O (.v (.c (.func 18 []))) [x84] h 85 kk) h fun x85 h =>
 vop O (.pick (.k x82) (.k x85) (.k (kB false))) h 86 fun x86 h =>
 vguard x86 true (fun kk => kk x60 h) h fun x88 h =>
 vguard x86 true (fun kk => vbin .eql 0 x88 (kI 0) h kk) h fun x89 h =>
 vop O (.pick (.k x86) (.k x89) (.k (kB false))) h 90 fun x90 h =>
 vguard x90 true (fun kk => kk x59 h) h fun x92 h =>
 vguard x90 true (fun kk => vlen O 2 x92 h 93 kk) h fun x93 h =>
 vguard x90 true (fun kk => vbin .eql 0 x93 (kI 2) h kk) h fun x94 h =>
 vop O (.pick (.k x90) (.k x94) (.k (kB false))) h 95 fun x95 h =>
 vguard x95 true (fun kk => kk x59 h) h fun x97 h =>
 vguard x95 true (fun kk => viaddr 4 x97 (kI 0) h kk) h fun x98 h =>
 vguard x95 true (fun kk => vfaddr 2 x98 h kk) h fun x99 h =>
 vguard x95 true (fun kk => vload false 1 x99 h kk) h fun x100 h =>
 vguard x95 true (fun kk => vbin .eql 0 x100 (kI 4) h kk) h fun x101 h =>
 vop O (.pick (.k x95) (.k x101) (.k (kB false))) h 102 fun x102 h =>
 vguard x102 true (fun kk => kk x4 h) h fun x104 h =>
 vguard x102 true (fun kk => vbin .add 0 (kS [52]) x104 h kk) h fun x105 h =>
 vguard x102 true (fun kk => vcall O (.v (.c (.func 18 []))) [x105] h 106 kk) h fun x106 h =>
 vguard x102 true (fun kk => vop O (.un .not (.k x106)) h 107 kk) h fun x107 h =>
 vop O (.pick (.k x102) (.k x107) (.k (kB false))) h 108 fun x108 h =>
 tcomp x108 fun c0 => vfin true q [c0] h)
theorem e11_3 (O : Oracle) (R : Jump) (q : Nat) (x4 : TVal) (h : Heap) : b11_3 O R q x4 h = stepF c11 O R q 3 [x4] h := by kernel_rfl
noncomputable def d11 : BlkF := fun O R q => [.s fun y0 => .z fun h => b11_0 O R q y0 h, .s fun y0 => .s fun y1 => .s fun y2 => .s fun y3 => .z fun h => b11_1 O R q y0 y1 y2 y3 h, .s fun y0 => .s fun y1 => .s fun y2 => .s fun y3 => .s fun y4 => .z fun h => b11_2 O R q y0 y1 y2 y3 y4 h, .s fun y0 => .z fun h => b11_3 O R q y0 h]
theorem o11 (O : Oracle) (R : Jump) (q : Nat) : HoldsAll c11 O R q 0 (d11 O R q) := ⟨fun y0 h => e11_0 O R q y0 h, fun y0 y1 y2 y3 h => e11_1 O R q y0 y1 y2 y3 h, fun y0 y1 y2 y3 y4 h => e11_2 O R q y0 y1 y2 y3 y4 h, fun y0 h => e11_3 O R q y0 h, trivial⟩
/- sprue/spruelaw1.known -/
def c12 : MFunc := { np := 0, res := [.t 0], frz := true, body := (.seq (.reg [(oA 0 (.mv (.k (.v (.c (.p (.bool false)))))))] []) (.seq (.reg [(oA 6 (.call (.k (.v (.c (.func 16 [])))) [(.k (.v (.c (.p (.str [97, 46, 98, 32, 45, 53])))))])), (oA 5 (.mv (.t 6))), (oA 7 (.extract (.t 5) 0)), (oA 8 (.extract (.t 5) 1)), (oA 1 (.mv (.t 7))), (oA 2 (.mv (.t 8)))] []) (.seq (.reg [(oA 10 (.call (.k (.v (.c (.func 16 [])))) [(.k (.v (.c (.p (.str [45, 32, 53])))))])), (oA 9 (.mv (.t 10))), (oA 11 (.extract (.t 9) 0)), (oA 12 (.extract (.t 9) 1)), (oA 3 (.mv (.t 11))), (oA 4 (.mv (.t 12)))] []) (.seq (.reg [(oA 13 (.mv (.t 2))), (oA 14 (.bin .eql 0 (.t 13) (.k (.v (.c (.p (.int .i64 0))))))), (oA 15 (.mv (.t 14))), ⟨(some 16), (.mv (.t 1)), (some (15, true))⟩, ⟨(some 17), (.len 2 (.t 16)), (some (15, true))⟩, ⟨(some 18), (.bin .eql 0 (.t 17) (.k (.v (.c (.p (.int .i64 4)))))), (some (15, true))⟩, (oA 19 (.pick (.t 15) (.t 18) (.k (.v (.c (.p (.bool false))))))), (oA 20 (.mv (.t 19))), ⟨(some 21), (.mv (.t 1)), (some (20, true))⟩, ⟨(some 22), (.iaddr 4 (.t 21) (.k (.v (.c (.p (.int .i64 3)))))), (some (20, true))⟩, ⟨(some 23), (.faddr 2 (.t 22)), (some (20, true))⟩, ⟨(some 24), (.load false 1 (.t 23)), (some (20, true))⟩, ⟨(some 25), (.bin .eql 0 (.t 24) (.k (.v (.c (.p (.int .i64 (-5))))))), (some (20, true))⟩, (oA 26 (.pick (.t 20) (.t 25) (.k (.v (.c (.p (.bool false))))))), (oA 27 (.mv (.t 26))), ⟨(some 28), (.mv (.t 4)), (some (27, true))⟩, ⟨(some 29), (.bin .eql 0 (.t 28) (.k (.v (.c (.p (.int .i64 11)))))), (some (27, true))⟩, (oA 30 (.pick (.t 27) (.t 29) (.k (.v (.c (.p (.bool false))))))), (oA 0 (.mv (.t 30)))] []) .ret)))) }
theorem t12 : compF Tryd.prog (globs2 tabs opq) (fun _ => false) true Tryd.f12 = some c12.erase := by kernel_rfl
noncomputable def b12_0 (O : Oracle) (R : Jump) (q : Nat) (h : Heap) : Res1 :=
 vcall O (.v (.c (.func 16 []))) [(kS [97, 46, 98, 32, 45, 53])] h 6 fun x6 h =>
 vext x6 0 h fun x7 h =>
 vext x6 1 h fun x8 h =>
 vcall O (.v (.c (.func 16 []))) [(kS [45, 32, 53])] h 10 fun x10 h =>
 vext x10 0 h fun x11 h =>
 vext x10 1 h fun x12 h =>
 vbin .eql 0 x8 (kI 0) h fun x14 h =>
 vguard x14 true (fun kk => kk x7 h) h fun x16 h =>
 vguard x14 true (fun kk => vlen O 2 x16 h 17 kk) h fun x17 h =>
 vguard x14 true (fun kk => vbin .eql 0 x17 (kI 4) h kk) h fun x18 h =>
 vop O (.pick (.k x14) (.k x18) (.k (kB false))) h 19 fun x19 h =>
 vguard x19 true (fun kk => kk x7 h) h fun x21 h =>
 vguard x19 true (fun kk => viaddr 4 x21 (kI 3) h kk) h fun x22 h =>
 vguard x19 true (fun kk => vfaddr 2 x22 h kk) h fun x23 h =>
 vguard x19 true (fun kk => vload false 1 x23 h kk) h fun x24 h =>
 vguard x19 true (fun kk => vbin .eql 0 x24 (kI (-5)) h kk) h fun x25 h =>
 vop O (.pick (.k x19) (.k x25) (.k (kB false))) h 26 fun x26 h =>
 vguard x26 true (fun kk => kk x12 h) h fun x28 h =>
 vguard x26 true (fun kk => vbin .eql 0 x28 (kI 11) h kk) h fun x29 h =>
 vop O (.pick (.k x26) (.k x29) (.k (kB false))) h 30 fun x30 h =>
 tcomp x30 fun c0 => vfin true q [c0] h
theorem e12_0 (O : Oracle) (R : Jump) (q : Nat) (h : Heap) : b12_0 O R q  h = stepF c12 O R q 0 [] h := by kernel_rfl
noncomputable def d12 : BlkF := fun O R q => [.z fun h => b12_0 O R q  h]
theorem o12 (O : Oracle) (R : Jump) (q : Nat) : HoldsAll c12 O R q 0 (d12 O R q) := ⟨fun  h => e12_0 O R q  h, trivial⟩
/- sprue/spruelaw1.piece -/
def c13 : MFunc := { np := 1, res := [.t 2], frz := true, body := (.seq (.reg [(oA 2 (.mv (.k (.v (.c (.p (.str [])))))))] []) (.seq (.reg [(oA 4 (.bslice 1 40 [(.p (.str []))] [(0, (.k (.v (.c (.p (.str [97])))))), (1, (.k (.v (.c (.p (.str [105, 102])))))), (2, (.k (.v (.c (.p (.str [95, 120, 57])))))), (3, (.k (.v (.c (.p (.str [97, 98, 99, 100, 101, 102, 103, 104, 105, 106, 107, 108, 109, 110, 111, 112])))))), (4, (.k (.v (.c (.p (.str [97, 98, 99, 100, 101, 102, 103, 104, 105, 106, 107, 108, 109, 110, 111, 112, 113])))))), (5, (.k (.v (.c (.p (.str [48])))))), (6, (.k (.v (.c (.p (.str [55])))))), (7, (.k (.v (.c (.p (.str [45, 55])))))), (8, (.k (.v (.c (.p (.str [57, 50, 50, 51, 51, 55, 50, 48, 51, 54, 56, 53, 52, 55, 55, 53, 56, 48, 55])))))), (9, (.k (.v (.c (.p (.str [57, 50, 50, 51, 51, 55, 50, 48, 51, 54, 56, 53, 52, 55, 55, 53, 56, 48, 56])))))), (10, (.k (.v (.c (.p (.str [45, 57, 50, 50, 51, 51, 55, 50, 48, 51, 54, 56, 53, 52, 55, 55, 53, 56, 48, 56])))))), (11, (.k (.v (.c (.p (.str [45, 57, 50, 50, 51, 51, 55, 50, 48, 51, 54, 56, 53, 52, 55, 55, 53, 56, 48, 57])))))), (12, (.k (.v (.c (.p (.str [48, 48, 48, 48, 48, 48, 48, 48, 48, 48, 48, 48, 48, 48, 48, 48, 48, 48, 48, 49])))))), (13, (.k (.v (.c (.p (.str [48, 49])))))), (14, (.k (.v (.c (.p (.str [45, 62])))))), (15, (.k (.v (.c (.p (.str [58, 61])))))), (16, (.k (.v (.c (.p (.str [123])))))), (17, (.k (.v (.c (.p (.str [125])))))), (18, (.k (.v (.c (.p (.str [60])))))), (19, (.k (.v (.c (.p (.str [62])))))), (20, (.k (.v (.c (.p (.str [44])))))), (21, (.k (.v (.c (.p (.str [58])))))), (22, (.k (.v (.c (.p (.str [40])))))), (23, (.k (.v (.c (.p (.str [41])))))), (24, (.k (.v (.c (.p (.str [46])))))), (25, (.k (.v (.c (.p (.str [36])))))), (26, (.k (.v (.c (.p (.str [124])))))), (27, (.k (.v (.c (.p (.str [61])))))), (28, (.k (.v (.c (.p (.str [59])))))), (29, (.k (.v (.c (.p (.str [34, 34])))))), (30, (.k (.v (.c (.p (.str [34, 97, 32, 98, 34])))))), (31, (.k (.v (.c (.p (.str [34, 92, 92, 92, 34, 92, 110, 92, 116, 34])))))), (32, (.k (.v (.c (.p (.str [34, 255, 34])))))), (33, (.k (.v (.c (.p (.str [34])))))), (34, (.k (.v (.c (.p (.str [34, 92, 120, 34])))))), (35, (.k (.v (.c (.p (.str [34, 10, 34])))))), (36, (.k (.v (.c (.p (.str [45])))))), (37, (.k (.v (.c (.p (.str [43])))))), (38, (.k (.v (.c (.p (.str [35])))))), (39, (.k (.v (.c (.p (.str [57, 97]))))))] false)), (oA 3 (.mv (.t 4)))] []) (.seq (.reg [(oA 5 (.mv (.t 3))), (oA 6 (.mv (.t 0))), (oA 7 (.mv (.t 3))), (oA 8 (.len 2 (.t 7))), (oA 9 (.call (.k (.v (.c (.func 15 [])))) [(.t 6), (.t 8)])), (oA 10 (.iaddr 1 (.t 5) (.t 9))), (oA 11 (.load false 1 (.t 10))), (oA 2 (.mv (.t 11)))] []) .ret))) }
theorem t13 : compF Tryd.prog (globs2 tabs opq) (fun _ => false) true Tryd.f13 = some c13.erase := by kernel_rfl
noncomputable def b13_0 (O : Oracle) (R : Jump) (q : Nat) (x0 : TVal) (h : Heap) : Res1 :=
 vop O (.bslice 1 40 [(.p (.str []))] [(0, (.k (kS [97]))), (1, (.k (kS [105, 102]))), (2, (.k (kS [95, 120, 57]))), (3, (.k (kS [97, 98, 99, 100, 101, 102, 103, 104, 105, 106, 107, 108, 109, 110, 111, 112]))), (4, (.k (kS [97, 98, 99, 100, 101, 102, 103, 104, 105, 106, 107, 108, 109, 110, 111, 112, 113]))), (5, (.k (kS [48]))), (6, (.k (kS [55]))), (7, (.k (kS [45, 55]))), (8, (.k (kS [57, 50, 50, 51, 51, 55, 50, 48, 51, 54, 56, 53, 52, 55, 55, 53, 56, 48, 55]))), (9, (.k (kS [57, 50, 50, 51, 51, 55, 50, 48, 51, 54, 56, 53, 52, 55, 55, 53, 56, 48, 56]))), (10, (.k (kS [45, 57, 50, 50, 51, 51, 55, 50, 48, 51, 54, 56, 53, 52, 55, 55, 53, 56, 48, 56]))), (11, (.k (kS [45, 57, 50, 50, 51, 51, 55, 50, 48, 51, 54, 56, 53, 52, 55, 55, 53, 56, 48, 57]))), (12, (.k (kS [48, 48, 48, 48, 48, 48, 48, 48, 48, 48, 48, 48, 48, 48, 48, 48, 48, 48, 48, 49]))), (13, (.k (kS [48, 49]))), (14, (.k (kS [45, 62]))), (15, (.k (kS [58, 61]))), (16, (.k (kS [123]))), (17, (.k (kS [125]))), (18, (.k (kS [60]))), (19, (.k (kS [62]))), (20, (.k (kS [44]))), (21, (.k (kS [58]))), (22, (.k (kS [40]))), (23, (.k (kS [41]))), (24, (.k (kS [46]))), (25, (.k (kS [36]))), (26, (.k (kS [124]))), (27, (.k (kS [61]))), (28, (.k (kS [59]))), (29, (.k (kS [34, 34]))), (30, (.k (kS [34, 97, 32, 98, 34]))), (31, (.k (kS [34, 92, 92, 92, 34, 92, 110, 92, 116, 34]))), (32, (.k (kS [34, 255, 34]))), (33, (.k (kS [34]))), (34, (.k (kS [34, 92, 120, 34]))), (35, (.k (kS [34, 10, 34]))), (36, (.k (kS [45]))), (37, (.k (kS [43]))), (38, (.k (kS [35]))), (39, (.k (kS [57, 97])))] false) h 4 fun x4 h =>
 vlen O 2 x4 h 8 fun x8 h =>
 vcall O (.v (.c (.func 15 []))) [x0, x8] h 9 fun x9 h =>
 viaddr 1 x4 x9 h fun x10 h =>
 vload false 1 x10 h fun x11 h =>
 tcomp x11 fun c0 => vfin true q [c0] h
theorem e13_0 (O : Oracle) (R : Jump) (q : Nat) (x0 : TVal) (h : Heap) : b13_0 O R q x0 h = stepF c13 O R q 0 [x0] h := by kernel_rfl
noncomputable def d13 : BlkF := fun O R q => [.s fun y0 => .z fun h => b13_0 O R q y0 h]
theorem o13 (O : Oracle) (R : Jump) (q : Nat) : HoldsAll c13 O R q 0 (d13 O R q) := ⟨fun y0 h => e13_0 O R q y0 h, trivial⟩
/- sprue/sprueref1.Tokens -/
def c14 : MFunc := { np := 1, res := [.t 2, .t 3], frz := true, body := (.seq (.reg [(oA 2 (.mv (.k (.v (.c (.p .nilslice)))))), (oA 3 (.mv (.k (.v (.c (.p (.int .i64 0)))))))] []) (.seq (.seq (.reg [(oA 9 (.mv (.t 0))), (oA 10 (.len 0 (.t 9))), (oA 11 (.bin .gtr 0 (.t 10) (.k (.v (.c (.p (.int .i64 1500)))))))] []) (.cond (.t 11) (.seq (.reg [(oA 2 (.mv (.k (.v (.c (.p .nilslice)))))), (oA 3 (.mv (.k (.v (.c (.p (.int .i64 4)))))))] []) .ret) .skip)) (.seq (.reg [(oA 4 (.mv (.k (.v (.c (.p .nilslice))))))] []) (.seq (.reg [(oA 5 (.mv (.k (.v (.c (.p (.int .i64 0)))))))] []) (.seq (.block 0 (.loop 1 [0, 4, 5] (.seq (.seq (.reg [(oA 12 (.mv (.t 5))), (oA 13 (.mv (.t 0))), (oA 14 (.len 0 (.t 13))), (oA 15 (.bin .lss 0 (.t 12) (.t 14)))] []) (.cond (.t 15) .skip (.exit 0))) (.block 1 (.seq (.seq (.reg [(oA 16 (.mv (.t 0))), (oA 17 (.mv (.t 5))), (oA 18 (.index (.t 16) (.t 17))), (oA 19 (.call (.k (.v (.c (.func 20 [])))) [(.t 18)]))] []) (.cond (.t 19) (.seq (.reg [(oA 20 (.mv (.t 5))), (oA 21 (.bin .add 0 (.t 20) (.k (.v (.c (.p (.int .i64 1))))))), (oA 5 (.mv (.t 21)))] []) (.exit 1)) .skip)) (.seq (.reg [(oA 23 (.mv (.t 0))), (oA 24 (.mv (.t 5))), (oA 25 (.call (.k (.v (.c (.func 21 [])))) [(.t 23), (.t 24)])), (oA 22 (.mv (.t 25))), (oA 26 (.extract (.t 22) 0)), (oA 27 (.extract (.t 22) 1)), (oA 28 (.extract (.t 22) 2)), (oA 6 (.alloc [(.p (.int .i64 0)), (.p (.str [])), (.p (.int .i64 0)), (.p (.int .i64 0))] false)), (oN (.store 4 (.t 6) (.t 26))), (oA 7 (.mv (.t 27))), (oA 8 (.mv (.t 28)))] []) (.seq (.seq (.reg [(oA 29 (.mv (.t 8))), (oA 30 (.bin .neq 0 (.t 29) (.k (.v (.c (.p (.int .i64 0)))))))] []) (.cond (.t 30) (.seq (.reg [(oA 31 (.mv (.t 8))), (oA 2 (.mv (.k (.v (.c (.p .nilslice)))))), (oA 3 (.mv (.t 31)))] []) .ret) .skip)) (.seq (.reg [(oA 32 (.mv (.t 4))), (oA 33 (.load true 4 (.t 6))), (oA 34 (.bslice 4 1 [(.p (.int .i64 0)), (.p (.str [])), (.p (.int .i64 0)), (.p (.int .i64 0))] [(0, (.t 33))] false)), (oA 35 (.append 4 40 false (.t 32) (.t 34))), (oA 4 (.mv (.t 35)))] []) (.reg [(oA 36 (.mv (.t 7))), (oA 5 (.mv (.t 36)))] []))))))))) (.mark 2 [4] (.seq (.seq (.reg [(oA 37 (.mv (.t 4))), (oA 38 (.len 2 (.t 37))), (oA 39 (.bin .gtr 0 (.t 38) (.k (.v (.c (.p (.int .i64 400)))))))] []) (.cond (.t 39) (.seq (.reg [(oA 2 (.mv (.k (.v (.c (.p .nilslice)))))), (oA 3 (.mv (.k (.v (.c (.p (.int .i64 3)))))))] []) .ret) .skip)) (.seq (.reg [(oA 40 (.mv (.t 4))), (oA 2 (.mv (.t 40))), (oA 3 (.mv (.k (.v (.c (.p (.int .i64 0)))))))] []) .ret)))))))) }
theorem t14 : compF Tryd.prog (globs2 tabs opq) (fun _ => false) true Tryd.f14 = some c14.erase := by kernel_rfl
noncomputable def b14_0 (O : Oracle) (R : Jump) (q : Nat) (x0 : TVal) (h : Heap) : Res1 :=
 vlen O 0 x0 h 10 fun x10 h =>
 vbin .gtr 0 x10 (kI 1500) h fun x11 h =>
 vif x11 (
 tcomp (.v (.c (.p .nilslice))) fun c0 => tcomp (kI 4) fun c1 => vfin true q [c0, c1] h)
 (R 1 [x0, (.v (.c (.p .nilslice))), (kI 0)] h)
theorem e14_0 (O : Oracle) (R : Jump) (q : Nat) (x0 : TVal) (h : Heap) : b14_0 O R q x0 h = stepF c14 O R q 0 [x0] h := by kernel_rfl
noncomputable def b14_1 (O : Oracle) (R : Jump) (q : Nat) (x0 x4 x5 : TVal) (h : Heap) : Res1 :=
 vlen O 0 x0 h 14 fun x14 h =>
 vbin .lss 0 x5 x14 h fun x15 h =>
 vif x15 (
 vindex x0 x5 h fun x18 h =>
 vcall O (.v (.c (.func 20 []))) [x18] h 19 fun x19 h =>
 vif x19 (
 vbin .add 0 x5 (kI 1) h fun x21 h =>
 R 1 [x0, x4, x21] h)
 (vcall O (.v (.c (.func 21 []))) [x0, x5] h 25 fun x25 h =>
 vext x25 0 h fun x26 h =>
 vext x25 1 h fun x27 h =>
 vext x25 2 h fun x28 h =>
 vop O (.alloc [(.p (.int .i64 0)), (.p (.str [])), (.p (.int .i64 0)), (.p (.int .i64 0))] false) h 6 fun x6 h =>
 vstore 4 x6 x26 h fun _ h =>
 vbin .neq 0 x28 (kI 0) h fun x30 h =>
 vif x30 (
 tcomp (.v (.c (.p .nilslice))) fun c0 => tcomp x28 fun c1 => vfin true q [c0, c1] h)
 (vload true 4 x6 h fun x33 h =>
 vop O (.bslice 4 1 [(.p (.int .i64 0)), (.p (.str [])), (.p (.int .i64 0)), (.p (.int .i64 0))] [(0, (.k x33))] false) h 34 fun x34 h =>
 vop O (.append 4 40 false (.k x4) (.k x34)) h 35 fun x35 h =>
 R 1 [x0, x35, x27] h)))
 (R 2 [x4] h)
theorem e14_1 (O : Oracle) (R : Jump) (q : Nat) (x0 x4 x5 : TVal) (h : Heap) : b14_1 O R q x0 x4 x5 h = stepF c14 O R q 1 [x0, x4, x5] h := by kernel_rfl
noncomputable def b14_2 (O : Oracle) (R : Jump) (q : Nat) (x4 : TVal) (h : Heap) : Res1 :=
 vlen O 2 x4 h 38 fun x38 h =>
 vbin .gtr 0 x38 (kI 400) h fun x39 h =>
 vif x39 (
 tcomp (.v (.c (.p .nilslice))) fun c0 => tcomp (kI 3) fun c1 => vfin true q [c0, c1] h)
 (tcomp x4 fun c0 => tcomp (kI 0) fun c1 => vfin true q [c0, c1] h)
theorem e14_2 (O : Oracle) (R : Jump) (q : Nat) (x4 : TVal) (h : Heap) : b14_2 O R q x4 h = stepF c14 O R q 2 [x4] h := by kernel_rfl
noncomputable def d14 : BlkF := fun O R q => [.s fun y0 => .z fun h => b14_0 O R q y0 h, .s fun y0 => .s fun y1 => .s fun y2 => .z fun h => b14_1 O R q y0 y1 y2 h, .s fun y0 => .z fun h => b14_2 O R q y0 h]
theorem o14 (O : Oracle) (R : Jump) (q : Nat) : HoldsAll c14 O R q 0 (d14 O R q) := ⟨fun y0 h => e14_0 O R q y0 h, fun y0 y1 y2 h => e14_1 O R q y0 y1 y2 h, fun y0 h => e14_2 O R q y0 h, trivial⟩
/- sprue/spruelaw1.within -/
def c15 : MFunc := { np := 2, res := [.t 4], frz := true, body := (.seq (.reg [(oA 4 (.mv (.k (.v (.c (.p (.int .i64 0)))))))] []) (.seq (.reg [(oA 6 (.mv (.t 0))), (oA 7 (.mv (.t 1))), (oA 8 (.bin .rem 0 (.t 6) (.t 7))), (oA 5 (.mv (.t 8)))] []) (.seq (.seq (.reg [(oA 9 (.mv (.t 5))), (oA 10 (.bin .lss 0 (.t 9) (.k (.v (.c (.p (.int .i64 0)))))))] []) (.cond (.t 10) (.reg [(oA 11 (.mv (.t 5))), (oA 12 (.mv (.t 1))), (oA 13 (.bin .add 0 (.t 11) (.t 12))), (oA 5 (.mv (.t 13)))] []) .skip)) (.seq (.reg [(oA 14 (.mv (.t 5))), (oA 4 (.mv (.t 14)))] []) .ret)))) }
theorem t15 : compF Tryd.prog (globs2 tabs opq) (fun _ => false) true Tryd.f15 = some c15.erase := by kernel_rfl
noncomputable def b15_0 (O : Oracle) (R : Jump) (q : Nat) (x0 x1 : TVal) (h : Heap) : Res1 :=
 vbin .rem 0 x0 x1 h fun x8 h =>
 vbin .lss 0 x8 (kI 0) h fun x10 h =>
 vif x10 (
 vbin .add 0 x8 x1 h fun x13 h =>
 tcomp x13 fun c0 => vfin true q [c0] h)
 (tcomp x8 fun c0 => vfin true q [c0] h)
theorem e15_0 (O : Oracle) (R : Jump) (q : Nat) (x0 x1 : TVal) (h : Heap) : b15_0 O R q x0 x1 h = stepF c15 O R q 0 [x0, x1] h := by kernel_rfl
noncomputable def d15 : BlkF := fun O R q => [.s fun y0 => .s fun y1 => .z fun h => b15_0 O R q y0 y1 h]
theorem o15 (O : Oracle) (R : Jump) (q : Nat) : HoldsAll c15 O R q 0 (d15 O R q) := ⟨fun y0 y1 h => e15_0 O R q y0 y1 h, trivial⟩
/- sprue/scan.Tokens -/
def c16 : MFunc := { np := 1, res := [.t 2, .t 3], frz := true, body := (.seq (.reg [(oA 2 (.mv (.k (.v (.c (.p .nilslice)))))), (oA 3 (.mv (.k (.v (.c (.p (.int .i64 0)))))))] []) (.seq (.seq (.reg [(oA 9 (.mv (.t 0))), (oA 10 (.len 0 (.t 9))), (oA 11 (.bin .gtr 0 (.t 10) (.k (.v (.c (.p (.int .i64 1500)))))))] []) (.cond (.t 11) (.seq (.reg [(oA 2 (.mv (.k (.v (.c (.p .nilslice)))))), (oA 3 (.mv (.k (.v (.c (.p (.int .i64 4)))))))] []) .ret) .skip)) (.seq (.reg [(oA 4 (.mv (.k (.v (.c (.p .nilslice))))))] []) (.seq (.seq (.reg [(oA 5 (.mv (.k (.v (.c (.p (.int .i64 0)))))))] []) (.block 0 (.loop 1 [0, 4, 5] (.block 1 (.seq (.block 2 (.loop 2 [0, 4, 5] (.seq (.seq (.reg [(oA 12 (.mv (.t 5))), (oA 13 (.mv (.t 0))), (oA 14 (.len 0 (.t 13))), (oA 15 (.bin .lss 0 (.t 12) (.t 14))), (oA 16 (.mv (.t 15))), ⟨(some 17), (.mv (.t 0)), (some (16, true))⟩, ⟨(some 18), (.mv (.t 5)), (some (16, true))⟩, ⟨(some 19), (.mv (.t 5)), (some (16, true))⟩, ⟨(some 20), (.bin .add 0 (.t 19) (.k (.v (.c (.p (.int .i64 1)))))), (some (16, true))⟩, ⟨(some 21), (.slice 0 true (.t 17) (some (.t 18)) (some (.t 20)) none), (some (16, true))⟩, ⟨(some 22), (.call (.k (.v (.c (.func 22 [])))) [(.k (.v (.c (.p (.str [32, 9, 10, 13]))))), (.t 21)]), (some (16, true))⟩, (oA 23 (.pick (.t 16) (.t 22) (.k (.v (.c (.p (.bool false)))))))] []) (.cond (.t 23) .skip (.exit 2))) (.block 3 (.reg [(oA 24 (.mv (.t 5))), (oA 25 (.bin .add 0 (.t 24) (.k (.v (.c (.p (.int .i64 1))))))), (oA 5 (.mv (.t 25)))] []))))) (.mark 3 [0, 4, 5] (.seq (.seq (.reg [(oA 26 (.mv (.t 5))), (oA 27 (.mv (.t 0))), (oA 28 (.len 0 (.t 27))), (oA 29 (.bin .eql 0 (.t 26) (.t 28)))] []) (.cond (.t 29) (.exit 0) .skip)) (.seq (.reg [(oA 31 (.mv (.t 0))), (oA 32 (.mv (.t 5))), (oA 33 (.slice 0 true (.t 31) (some (.t 32)) none none)), (oA 34 (.call (.k (.v (.c (.func 23 [])))) [(.t 33)])), (oA 30 (.mv (.t 34))), (oA 35 (.extract (.t 30) 0)), (oA 36 (.extract (.t 30) 1)), (oA 37 (.extract (.t 30) 2)), (oA 6 (.alloc [(.p (.int .i64 0)), (.p (.str [])), (.p (.int .i64 0)), (.p (.int .i64 0))] false)), (oN (.store 4 (.t 6) (.t 35))), (oA 7 (.mv (.t 36))), (oA 8 (.mv (.t 37)))] []) (.seq (.seq (.reg [(oA 38 (.mv (.t 8))), (oA 39 (.bin .neq 0 (.t 38) (.k (.v (.c (.p (.int .i64 0)))))))] []) (.cond (.t 39) (.seq (.reg [(oA 40 (.mv (.t 8))), (oA 2 (.mv (.k (.v (.c (.p .nilslice)))))), (oA 3 (.mv (.t 40)))] []) .ret) .skip)) (.seq (.reg [(oA 41 (.mv (.t 5))), (oA 42 (.faddr 3 (.t 6))), (oN (.store 1 (.t 42) (.t 41)))] []) (.seq (.reg [(oA 43 (.mv (.t 4))), (oA 44 (.load true 4 (.t 6))), (oA 45 (.bslice 4 1 [(.p (.int .i64 0)), (.p (.str [])), (.p (.int .i64 0)), (.p (.int .i64 0))] [(0, (.t 44))] false)), (oA 46 (.append 4 40 false (.t 43) (.t 45))), (oA 4 (.mv (.t 46)))] []) (.reg [(oA 47 (.mv (.t 5))), (oA 48 (.mv (.t 7))), (oA 49 (.bin .add 0 (.t 47) (.t 48))), (oA 5 (.mv (.t 49)))] [])))))))))))) (.mark 4 [4] (.seq (.seq (.reg [(oA 50 (.mv (.t 4))), (oA 51 (.len 2 (.t 50))), (oA 52 (.bin .gtr 0 (.t 51) (.k (.v (.c (.p (.int .i64 400)))))))] []) (.cond (.t 52) (.seq (.reg [(oA 2 (.mv (.k (.v (.c (.p .nilslice)))))), (oA 3 (.mv (.k (.v (.c (.p (.int .i64 3)))))))] []) .ret) .skip)) (.seq (.reg [(oA 53 (.mv (.t 4))), (oA 2 (.mv (.t 53))), (oA 3 (.mv (.k (.v (.c (.p (.int .i64 0)))))))] []) .ret))))))) }
theorem t16 : compF Tryd.prog (globs2 tabs opq) (fun _ => false) true Tryd.f16 = some c16.erase := by kernel_rfl
noncomputable def b16_0 (O : Oracle) (R : Jump) (q : Nat) (x0 : TVal) (h : Heap) : Res1 :=
 vlen O 0 x0 h 10 fun x10 h =>
 vbin .gtr 0 x10 (kI 1500) h fun x11 h =>
 vif x11 (
 tcomp (.v (.c (.p .nilslice))) fun c0 => tcomp (kI 4) fun c1 => vfin true q [c0, c1] h)
 (R 1 [x0, (.v (.c (.p .nilslice))), (kI 0)] h)
theorem e16_0 (O : Oracle) (R : Jump) (q : Nat) (x0 : TVal) (h : Heap) : b16_0 O R q x0 h = stepF c16 O R q 0 [x0] h := by kernel_rfl
noncomputable def b16_1 (O : Oracle) (R : Jump) (q : Nat) (x0 x4 x5 : TVal) (h : Heap) : Res1 :=
 R 2 [x0, x4, x5] h
theorem e16_1 (O : Oracle) (R : Jump) (q : Nat) (x0 x4 x5 : TVal) (h : Heap) : b16_1 O R q x0 x4 x5 h = stepF c16 O R q 1 [x0, x4, x5] h := by kernel_rfl
noncomputable def b16_2 (O : Oracle) (R : Jump) (q : Nat) (x0 x4 x5 : TVal) (h : Heap) : Res1 :=
 vlen O 0 x0 h 14 fun x14 h =>
 vbin .lss 0 x5 x14 h fun x15 h =>
 vguard x15 true (fun kk => kk x0 h) h fun x17 h =>
 vguard x15 true (fun kk => kk x5 h) h fun x18 h =>
 vguard x15 true (fun kk => kk x5 h) h fun x19 h =>
 vguard x15 true (fun kk => vbin .add 0 x19 (kI 1) h kk) h fun x20 h =>
 vguard x15 true (fun kk => vop O (.slice 0 true (.k x17) (some (.k x18)) (some (.k x20)) none) h 21 kk) h fun x21 h =>
 vguard x15 true (fun kk => vcall O (.v (.c (.func 22 []))) [(kS [32, 9, 10, 13]), x21] h 22 kk) h fun x22 h =>
 vop O (.pick (.k x15) (.k x22) (.k (kB false))) h 23 fun x23 h =>
 vif x23 (
 vbin .add 0 x5 (kI 1) h fun x25 h =>
 R 2 [x0, x4, x25] h)
 (R 3 [x0, x4, x5] h)
theorem e16_2 (O : Oracle) (R : Jump) (q : Nat) (x0 x4 x5 : TVal) (h : Heap) : b16_2 O R q x0 x4 x5 h = stepF c16 O R q 2 [x0, x4, x5] h := by kernel_rfl
noncomputable def b16_3 (O : Oracle) (R : Jump) (q : Nat) (x0 x4 x5 : TVal) (h : Heap) : Res1 :=
 vlen O 0 x0 h 28 fun x28 h =>
 vbin .eql 0 x5 x28 h fun x29 h =>
 vif x29 (
 R 4 [x4] h)
 (vop O (.slice 0 true (.k x0) (some (.k x5)) none none) h 33 fun x33 h =>
 vcall O (.v (.c (.func 23 []))) [x33] h 34 fun x34 h =>
 vext x34 0 h fun x35 h =>
 vext x34 1 h fun x36 h =>
 vext x34 2 h fun x37 h =>
 vop O (.alloc [(.p (.int .i64 0)), (.p (.str [])), (.p (.int .i64 0)), (.p (.int .i64 0))] false) h 6 fun x6 h =>
 vstore 4 x6 x35 h fun _ h =>
 vbin .neq 0 x37 (kI 0) h fun x39 h =>
 vif x39 (
 tcomp (.v (.c (.p .nilslice))) fun c0 => tcomp x37 fun c1 => vfin true q [c0, c1] h)
 (vfaddr 3 x6 h fun x42 h =>
 vstore 1 x42 x5 h fun _ h =>
 vload true 4 x6 h fun x44 h =>
 vop O (.bslice 4 1 [(.p (.int .i64 0)), (.p (.str [])), (.p (.int .i64 0)), (.p (.int .i64 0))] [(0, (.k x44))] false) h 45 fun x45 h =>
 vop O (.append 4 40 false (.k x4) (.k x45)) h 46 fun x46 h =>
 vbin .add 0 x5 x36 h fun x49 h =>
 R 1 [x0, x46, x49] h))
theorem e16_3 (O : Oracle) (R : Jump) (q : Nat) (x0 x4 x5 : TVal) (h : Heap) : b16_3 O R q x0 x4 x5 h = stepF c16 O R q 3 [x0, x4, x5] h := by kernel_rfl
noncomputable def b16_4 (O : Oracle) (R : Jump) (q : Nat) (x4 : TVal) (h : Heap) : Res1 :=
 vlen O 2 x4 h 51 fun x51 h =>
 vbin .gtr 0 x51 (kI 400) h fun x52 h =>
 vif x52 (
 tcomp (.v (.c (.p .nilslice))) fun c0 => tcomp (kI 3) fun c1 => vfin true q [c0, c1] h)
 (tcomp x4 fun c0 => tcomp (kI 0) fun c1 => vfin true q [c0, c1] h)
theorem e16_4 (O : Oracle) (R : Jump) (q : Nat) (x4 : TVal) (h : Heap) : b16_4 O R q x4 h = stepF c16 O R q 4 [x4] h := by kernel_rfl
noncomputable def d16 : BlkF := fun O R q => [.s fun y0 => .z fun h => b16_0 O R q y0 h, .s fun y0 => .s fun y1 => .s fun y2 => .z fun h => b16_1 O R q y0 y1 y2 h, .s fun y0 => .s fun y1 => .s fun y2 => .z fun h => b16_2 O R q y0 y1 y2 h, .s fun y0 => .s fun y1 => .s fun y2 => .z fun h => b16_3 O R q y0 y1 y2 h, .s fun y0 => .z fun h => b16_4 O R q y0 h]
theorem o16 (O : Oracle) (R : Jump) (q : Nat) : HoldsAll c16 O R q 0 (d16 O R q) := ⟨fun y0 h => e16_0 O R q y0 h, fun y0 y1 y2 h => e16_1 O R q y0 y1 y2 h, fun y0 y1 y2 h => e16_2 O R q y0 y1 y2 h, fun y0 y1 y2 h => e16_3 O R q y0 y1 y2 h, fun y0 h => e16_4 O R q y0 h, trivial⟩
/- sprue/spruelaw1.same -/
def c17 : MFunc := { np := 2, res := [.t 4], frz := true, body := (.seq (.reg [(oA 4 (.mv (.k (.v (.c (.p (.bool false)))))))] []) (.seq (.seq (.reg [(oA 6 (.mv (.t 0))), (oA 7 (.len 2 (.t 6))), (oA 8 (.mv (.t 1))), (oA 9 (.len 2 (.t 8))), (oA 10 (.bin .neq 0 (.t 7) (.t 9)))] []) (.cond (.t 10) (.seq (.reg [(oA 4 (.mv (.k (.v (.c (.p (.bool false)))))))] []) .ret) .skip)) (.seq (.seq (.reg [(oA 5 (.mv (.k (.v (.c (.p (.int .i64 0)))))))] []) (.block 0 (.loop 1 [0, 1, 5] (.seq (.seq (.reg [(oA 11 (.mv (.t 5))), (oA 12 (.mv (.t 0))), (oA 13 (.len 2 (.t 12))), (oA 14 (.bin .lss 0 (.t 11) (.t 13)))] []) (.cond (.t 14) .skip (.exit 0))) (.seq (.block 1 (.seq (.reg [(oA 17 (.mv (.t 0))), (oA 18 (.mv (.t 5))), (oA 19 (.iaddr 4 (.t 17) (.t 18))), (oA 20 (.faddr 0 (.t 19))), (oA 21 (.load false 1 (.t 20))), (oA 22 (.mv (.t 1))), (oA 23 (.mv (.t 5))), (oA 24 (.iaddr 4 (.t 22) (.t 23))), (oA 25 (.faddr 0 (.t 24))), (oA 26 (.load false 1 (.t 25))), (oA 27 (.bin .neq 0 (.t 21) (.t 26))), (oA 28 (.mv (.t 27))), ⟨(some 29), (.mv (.t 0)), (some (28, false))⟩, ⟨(some 30), (.mv (.t 5)), (some (28, false))⟩, ⟨(some 31), (.iaddr 4 (.t 29) (.t 30)), (some (28, false))⟩, ⟨(some 32), (.faddr 1 (.t 31)), (some (28, false))⟩, ⟨(some 33), (.load false 1 (.t 32)), (some (28, false))⟩, ⟨(some 34), (.mv (.t 1)), (some (28, false))⟩, ⟨(some 35), (.mv (.t 5)), (some (28, false))⟩, ⟨(some 36), (.iaddr 4 (.t 34) (.t 35)), (some (28, false))⟩, ⟨(some 37), (.faddr 1 (.t 36)), (some (28, false))⟩, ⟨(some 38), (.load false 1 (.t 37)), (some (28, false))⟩, ⟨(some 39), (.bin .neq 0 (.t 33) (.t 38)), (some (28, false))⟩, (oA 40 (.pick (.t 28) (.k (.v (.c (.p (.bool true))))) (.t 39))), (oA 41 (.mv (.t 40))), ⟨(some 42), (.mv (.t 0)), (some (41, false))⟩, ⟨(some 43), (.mv (.t 5)), (some (41, false))⟩, ⟨(some 44), (.iaddr 4 (.t 42) (.t 43)), (some (41, false))⟩, ⟨(some 45), (.faddr 2 (.t 44)), (some (41, false))⟩, ⟨(some 46), (.load false 1 (.t 45)), (some (41, false))⟩, ⟨(some 47), (.mv (.t 1)), (some (41, false))⟩, ⟨(some 48), (.mv (.t 5)), (some (41, false))⟩, ⟨(some 49), (.iaddr 4 (.t 47) (.t 48)), (some (41, false))⟩, ⟨(some 50), (.faddr 2 (.t 49)), (some (41, false))⟩, ⟨(some 51), (.load false 1 (.t 50)), (some (41, false))⟩, ⟨(some 52), (.bin .neq 0 (.t 46) (.t 51)), (some (41, false))⟩, (oA 53 (.pick (.t 41) (.k (.v (.c (.p (.bool true))))) (.t 52))), (oA 54 (.mv (.t 53))), ⟨(some 55), (.mv (.t 0)), (some (54, false))⟩, ⟨(some 56), (.mv (.t 5)), (some (54, false))⟩, ⟨(some 57), (.iaddr 4 (.t 55) (.t 56)), (some (54, false))⟩, ⟨(some 58), (.faddr 3 (.t 57)), (some (54, false))⟩, ⟨(some 59), (.load false 1 (.t 58)), (some (54, false))⟩, ⟨(some 60), (.mv (.t 1)), (some (54, false))⟩, ⟨(some 61), (.mv (.t 5)), (some (54, false))⟩, ⟨(some 62), (.iaddr 4 (.t 60) (.t 61)), (some (54, false))⟩, ⟨(some 63), (.faddr 3 (.t 62)), (some (54, false))⟩, ⟨(some 64), (.load false 1 (.t 63)), (some (54, false))⟩, ⟨(some 65), (.bin .neq 0 (.t 59) (.t 64)), (some (54, false))⟩, (oA 66 (.pick (.t 54) (.k (.v (.c (.p (.bool true))))) (.t 65)))] []) (.cond (.t 66) (.seq (.reg [(oA 4 (.mv (.k (.v (.c (.p (.bool false)))))))] []) .ret) .skip))) (.reg [(oA 15 (.mv (.t 5))), (oA 16 (.bin .add 0 (.t 15) (.k (.v (.c (.p (.int .i64 1))))))), (oA 5 (.mv (.t 16)))] [])))))) (.seq (.reg [(oA 4 (.mv (.k (.v (.c (.p (.bool true)))))))] []) .ret)))) }
theorem t17 : compF Tryd.prog (globs2 tabs opq) (fun _ => false) true Tryd.f17 = some c17.erase := by kernel_rfl
noncomputable def b17_0 (O : Oracle) (R : Jump) (q : Nat) (x0 x1 : TVal) (h : Heap) : Res1 :=
 vlen O 2 x0 h 7 fun x7 h =>
 vlen O 2 x1 h 9 fun x9 h =>
 vbin .neq 0 x7 x9 h fun x10 h =>
 vif x10 (
 tcomp (kB false) fun c0 => vfin true q [c0] h)
 (R 1 [x0, x1, (kI 0)] h)
theorem e17_0 (O : Oracle) (R : Jump) (q : Nat) (x0 x1 : TVal) (h : Heap) : b17_0 O R q x0 x1 h = stepF c17 O R q 0 [x0, x1] h := by kernel_rfl
noncomputable def b17_1 (O : Oracle) (R : Jump) (q : Nat) (x0 x1 x5 : TVal) (h : Heap) : Res1 :=
 vlen O 2 x0 h 13 fun x13 h =>
 vbin .lss 0 x5 x13 h fun x14 h =>
 vif x14 (
 viaddr 4 x0 x5 h fun x19 h =>
 vfaddr 0 x19 h fun x20 h =>
 vload false 1 x20 h fun x21 h =>
 viaddr 4 x1 x5 h fun x24 h =>
 vfaddr 0 x24 h fun x25 h =>
 vload false 1 x25 h fun x26 h =>
 vbin .neq 0 x21 x26 h fun x27 h =>
 vguard x27 false (fun kk => kk x0 h) h fun x29 h =>
 vguard x27 false (fun kk => kk x5 h) h fun x30 h =>
 vguard x27 false (fun kk => viaddr 4 x29 x30 h kk) h fun x31 h =>
 vguard x27 false (fun kk => vfaddr 1 x31 h kk) h fun x32 h =>
 vguard x27 false (fun kk => vload false 1 x32 h kk) h fun x33 h =>
 vguard x27 false (fun kk => kk x1 h) h fun x34 h =>
 vguard x27 false (fun kk => kk x5 h) h fun x35 h =>
 vguard x27 false (fun kk => viaddr 4 x34 x35 h kk) h fun x36 h =>
 vguard x27 false (fun kk => vfaddr 1 x36 h kk) h fun x37 h =>
 vguard x27 false (fun kk => vload false 1 x37 h kk) h fun x38 h =>
 vguard x27 false (fun kk => vbin .neq 0 x33 x38 h kk) h fun x39 h =>
 vop O (.pick (.k x27) (.k (kB true)) (.k x39)) h 40 fun x40 h =>
 vguard x40 false (fun kk => kk x0 h) h fun x42 h =>
 vguard x40 false (fun kk => kk x5 h) h fun x43 h =>
 vguard x40 false (fun kk => viaddr 4 x42 x43 h kk) h fun x44 h =>
 vguard x40 false (fun kk => vfaddr 2 x44 h kk) h fun x45 h =>
 vguard x40 false (fun kk => vload false 1 x45 h kk) h fun x46 h =>
 vguard x40 false (fun kk => kk x1 h) h fun x47 h =>
 vguard x40 false (fun kk => kk x5 h) h fun x48 h =>
 vguard x40 false (fun kk => viaddr 4 x47 x48 h kk) h fun x49 h =>
 vguard x40 false (fun kk => vfaddr 2 x49 h kk) h fun x50 h =>
 vguard x40 false (fun kk => vload false 1 x50 h kk) h fun x51 h =>
 vguard x40 false (fun kk => vbin .neq 0 x46 x51 h kk) h fun x52 h =>
 vop O (.pick (.k x40) (.k (kB true)) (.k x52)) h 53 fun x53 h =>
 vguard x53 false (fun kk => kk x0 h) h fun x55 h =>
 vguard x53 false (fun kk => kk x5 h) h fun x56 h =>
 vguard x53 false (fun kk => viaddr 4 x55 x56 h kk) h fun x57 h =>
 vguard x53 false (fun kk => vfaddr 3 x57 h kk) h fun x58 h =>
 vguard x53 false (fun kk => vload false 1 x58 h kk) h fun x59 h =>
 vguard x53 false (fun kk => kk x1 h) h fun x60 h =>
 vguard x53 false (fun kk => kk x5 h) h fun x61 h =>
 vguard x53 false (fun kk => viaddr 4 x60 x61 h kk) h fun x62 h =>
 vguard x53 false (fun kk => vfaddr 3 x62 h kk) h fun x63 h =>
 vguard x53 false (fun kk => vload false 1 x63 h kk) h fun x64 h =>
 vguard x53 false (fun kk => vbin .neq 0 x59 x64 h kk) h fun x65 h =>
 vop O (.pick (.k x53) (.k (kB true)) (.k x65)) h 66 fun x66 h =>
 vif x66 (
 tcomp (kB false) fun c0 => vfin true q [c0] h)
 (vbin .add 0 x5 (kI 1) h fun x16 h =>
 R 1 [x0, x1, x16] h))
 (tcomp (kB true) fun c0 => vfin true q [c0] h)
theorem e17_1 (O : Oracle) (R : Jump) (q : Nat) (x0 x1 x5 : TVal) (h : Heap) : b17_1 O R q x0 x1 x5 h = stepF c17 O R q 1 [x0, x1, x5] h := by kernel_rfl
noncomputable def d17 : BlkF := fun O R q => [.s fun y0 => .s fun y1 => .z fun h => b17_0 O R q y0 y1 h, .s fun y0 => .s fun y1 => .s fun y2 => .z fun h => b17_1 O R q y0 y1 y2 h]
theorem o17 (O : Oracle) (R : Jump) (q : Nat) : HoldsAll c17 O R q 0 (d17 O R q) := ⟨fun y0 y1 h => e17_0 O R q y0 y1 h, fun y0 y1 y2 h => e17_1 O R q y0 y1 y2 h, trivial⟩
/- sprue/scan.Ident -/
def c18 : MFunc := { np := 1, res := [.t 2], frz := true, body := (.seq (.reg [(oA 2 (.mv (.k (.v (.c (.p (.bool false)))))))] []) (.seq (.reg [(oA 3 (.mv (.t 0))), (oA 4 (.bin .neq 0 (.t 3) (.k (.v (.c (.p (.str []))))))), (oA 5 (.mv (.t 4))), ⟨(some 6), (.mv (.t 0)), (some (5, true))⟩, ⟨(some 7), (.len 0 (.t 6)), (some (5, true))⟩, ⟨(some 8), (.bin .leq 0 (.t 7) (.k (.v (.c (.p (.int .i64 16)))))), (some (5, true))⟩, (oA 9 (.pick (.t 5) (.t 8) (.k (.v (.c (.p (.bool false))))))), (oA 10 (.mv (.t 9))), ⟨(some 11), (.mv (.t 0)), (some (10, true))⟩, ⟨(some 12), (.index (.t 11) (.k (.v (.c (.p (.int .i64 0)))))), (some (10, true))⟩, ⟨(some 13), (.call (.k (.v (.c (.func 24 [])))) [(.t 12)]), (some (10, true))⟩, ⟨(some 14), (.un .not (.t 13)), (some (10, true))⟩, (oA 15 (.pick (.t 10) (.t 14) (.k (.v (.c (.p (.bool false))))))), (oA 16 (.mv (.t 15))), ⟨(some 17), (.mv (.t 0)), (some (16, true))⟩, ⟨(some 18), (.call (.k (.v (.c (.func 25 [])))) [(.t 17)]), (some (16, true))⟩, ⟨(some 19), (.mv (.t 0)), (some (16, true))⟩, ⟨(some 20), (.len 0 (.t 19)), (some (16, true))⟩, ⟨(some 21), (.bin .eql 0 (.t 18) (.t 20)), (some (16, true))⟩, (oA 22 (.pick (.t 16) (.t 21) (.k (.v (.c (.p (.bool false))))))), (oA 2 (.mv (.t 22)))] []) .ret)) }
theorem t18 : compF Tryd.prog (globs2 tabs opq) (fun _ => false) true Tryd.f18 = some c18.erase := by kernel_rfl
noncomputable def b18_0 (O : Oracle) (R : Jump) (q : Nat) (x0 : TVal) (h : Heap) : Res1 :=
 vbin .neq 0 x0 (kS []) h fun x4 h =>
 vguard x4 true (fun kk => kk x0 h) h fun x6 h =>
 vguard x4 true (fun kk => vlen O 0 x6 h 7 kk) h fun x7 h =>
 vguard x4 true (fun kk => vbin .leq 0 x7 (kI 16) h kk) h fun x8 h =>
 vop O (.pick (.k x4) (.k x8) (.k (kB false))) h 9 fun x9 h =>
 vguard x9 true (fun kk => kk x0 h) h fun x11 h =>
 vguard x9 true (fun kk => vindex x11 (kI 0) h kk) h fun x12 h =>
 vguard x9 true (fun kk => vcall O (.v (.c (.func 24 []))) [x12] h 13 kk) h fun x13 h =>
 vguard x9 true (fun kk => vop O (.un .not (.k x13)) h 14 kk) h fun x14 h =>
 vop O (.pick (.k x9) (.k x14) (.k (kB false))) h 15 fun x15 h =>
 vguard x15 true (fun kk => kk x0 h) h fun x17 h =>
 vguard x15 true (fun kk => vcall O (.v (.c (.func 25 []))) [x17] h 18 kk) h fun x18 h =>
 vguard x15 true (fun kk => kk x0 h) h fun x19 h =>
 vguard x15 true (fun kk => vlen O 0 x19 h 20 kk) h fun x20 h =>
 vguard x15 true (fun kk => vbin .eql 0 x18 x20 h kk) h fun x21 h =>
 vop O (.pick (.k x15) (.k x21) (.k (kB false))) h 22 fun x22 h =>
 tcomp x22 fun c0 => vfin true q [c0] h
theorem e18_0 (O : Oracle) (R : Jump) (q : Nat) (x0 : TVal) (h : Heap) : b18_0 O R q x0 h = stepF c18 O R q 0 [x0] h := by kernel_rfl
noncomputable def d18 : BlkF := fun O R q => [.s fun y0 => .z fun h => b18_0 O R q y0 h]
theorem o18 (O : Oracle) (R : Jump) (q : Nat) : HoldsAll c18 O R q 0 (d18 O R q) := ⟨fun y0 h => e18_0 O R q y0 h, trivial⟩
/- sprue/sprueref1.Ident -/
def c19 : MFunc := { np := 1, res := [.t 2], frz := true, body := (.seq (.reg [(oA 2 (.mv (.k (.v (.c (.p (.bool false)))))))] []) (.seq (.seq (.reg [(oA 4 (.mv (.t 0))), (oA 5 (.len 0 (.t 4))), (oA 6 (.bin .eql 0 (.t 5) (.k (.v (.c (.p (.int .i64 0))))))), (oA 7 (.mv (.t 6))), ⟨(some 8), (.mv (.t 0)), (some (7, false))⟩, ⟨(some 9), (.len 0 (.t 8)), (some (7, false))⟩, ⟨(some 10), (.bin .gtr 0 (.t 9) (.k (.v (.c (.p (.int .i64 16)))))), (some (7, false))⟩, (oA 11 (.pick (.t 7) (.k (.v (.c (.p (.bool true))))) (.t 10))), (oA 12 (.mv (.t 11))), ⟨(some 13), (.mv (.t 0)), (some (12, false))⟩, ⟨(some 14), (.index (.t 13) (.k (.v (.c (.p (.int .i64 0)))))), (some (12, false))⟩, ⟨(some 15), (.call (.k (.v (.c (.func 26 [])))) [(.t 14)]), (some (12, false))⟩, ⟨(some 16), (.un .not (.t 15)), (some (12, false))⟩, (oA 17 (.pick (.t 12) (.k (.v (.c (.p (.bool true))))) (.t 16)))] []) (.cond (.t 17) (.seq (.reg [(oA 2 (.mv (.k (.v (.c (.p (.bool false)))))))] []) .ret) .skip)) (.seq (.seq (.reg [(oA 3 (.mv (.k (.v (.c (.p (.int .i64 0)))))))] []) (.block 0 (.loop 1 [0, 3] (.seq (.seq (.reg [(oA 18 (.mv (.t 3))), (oA 19 (.mv (.t 0))), (oA 20 (.len 0 (.t 19))), (oA 21 (.bin .lss 0 (.t 18) (.t 20)))] []) (.cond (.t 21) .skip (.exit 0))) (.seq (.block 1 (.seq (.reg [(oA 24 (.mv (.t 0))), (oA 25 (.mv (.t 3))), (oA 26 (.index (.t 24) (.t 25))), (oA 27 (.call (.k (.v (.c (.func 26 [])))) [(.t 26)])), (oA 28 (.un .not (.t 27))), (oA 29 (.mv (.t 28))), ⟨(some 30), (.mv (.t 0)), (some (29, true))⟩, ⟨(some 31), (.mv (.t 3)), (some (29, true))⟩, ⟨(some 32), (.index (.t 30) (.t 31)), (some (29, true))⟩, ⟨(some 33), (.call (.k (.v (.c (.func 27 [])))) [(.t 32)]), (some (29, true))⟩, ⟨(some 34), (.un .not (.t 33)), (some (29, true))⟩, (oA 35 (.pick (.t 29) (.t 34) (.k (.v (.c (.p (.bool false)))))))] []) (.cond (.t 35) (.seq (.reg [(oA 2 (.mv (.k (.v (.c (.p (.bool false)))))))] []) .ret) .skip))) (.reg [(oA 22 (.mv (.t 3))), (oA 23 (.bin .add 0 (.t 22) (.k (.v (.c (.p (.int .i64 1))))))), (oA 3 (.mv (.t 23)))] [])))))) (.seq (.reg [(oA 2 (.mv (.k (.v (.c (.p (.bool true)))))))] []) .ret)))) }
theorem t19 : compF Tryd.prog (globs2 tabs opq) (fun _ => false) true Tryd.f19 = some c19.erase := by kernel_rfl
noncomputable def b19_0 (O : Oracle) (R : Jump) (q : Nat) (x0 : TVal) (h : Heap) : Res1 :=
 vlen O 0 x0 h 5 fun x5 h =>
 vbin .eql 0 x5 (kI 0) h fun x6 h =>
 vguard x6 false (fun kk => kk x0 h) h fun x8 h =>
 vguard x6 false (fun kk => vlen O 0 x8 h 9 kk) h fun x9 h =>
 vguard x6 false (fun kk => vbin .gtr 0 x9 (kI 16) h kk) h fun x10 h =>
 vop O (.pick (.k x6) (.k (kB true)) (.k x10)) h 11 fun x11 h =>
 vguard x11 false (fun kk => kk x0 h) h fun x13 h =>
 vguard x11 false (fun kk => vindex x13 (kI 0) h kk) h fun x14 h =>
 vguard x11 false (fun kk => vcall O (.v (.c (.func 26 []))) [x14] h 15 kk) h fun x15 h =>
 vguard x11 false (fun kk => vop O (.un .not (.k x15)) h 16 kk) h fun x16 h =>
 vop O (.pick (.k x11) (.k (kB true)) (.k x16)) h 17 fun x17 h =>
 vif x17 (
 tcomp (kB false) fun c0 => vfin true q [c0] h)
 (R 1 [x0, (kI 0)] h)
theorem e19_0 (O : Oracle) (R : Jump) (q : Nat) (x0 : TVal) (h : Heap) : b19_0 O R q x0 h = stepF c19 O R q 0 [x0] h := by kernel_rfl
noncomputable def b19_1 (O : Oracle) (R : Jump) (q : Nat) (x0 x3 : TVal) (h : Heap) : Res1 :=
 vlen O 0 x0 h 20 fun x20 h =>
 vbin .lss 0 x3 x20 h fun x21 h =>
 vif x21 (
 vindex x0 x3 h fun x26 h =>
 vcall O (.v (.c (.func 26 []))) [x26] h 27 fun x27 h =>
 vop O (.un .not (.k x27)) h 28 fun x28 h =>
 vguard x28 true (fun kk => kk x0 h) h fun x30 h =>
 vguard x28 true (fun kk => kk x3 h) h fun x31 h =>
 vguard x28 true (fun kk => vindex x30 x31 h kk) h fun x32 h =>
 vguard x28 true (fun kk => vcall O (.v (.c (.func 27 []))) [x32] h 33 kk) h fun x33 h =>
 vguard x28 true (fun kk => vop O (.un .not (.k x33)) h 34 kk) h fun x34 h =>
 vop O (.pick (.k x28) (.k x34) (.k (kB false))) h 35 fun x35 h =>
 vif x35 (
 tcomp (kB false) fun c0 => vfin true q [c0] h)
 (vbin .add 0 x3 (kI 1) h fun x23 h =>
 R 1 [x0, x23] h))
 (tcomp (kB true) fun c0 => vfin true q [c0] h)
theorem e19_1 (O : Oracle) (R : Jump) (q : Nat) (x0 x3 : TVal) (h : Heap) : b19_1 O R q x0 x3 h = stepF c19 O R q 1 [x0, x3] h := by kernel_rfl
noncomputable def d19 : BlkF := fun O R q => [.s fun y0 => .z fun h => b19_0 O R q y0 h, .s fun y0 => .s fun y1 => .z fun h => b19_1 O R q y0 y1 h]
theorem o19 (O : Oracle) (R : Jump) (q : Nat) : HoldsAll c19 O R q 0 (d19 O R q) := ⟨fun y0 h => e19_0 O R q y0 h, fun y0 y1 h => e19_1 O R q y0 y1 h, trivial⟩
/- sprue/sprueref1.blank -/
def c20 : MFunc := { np := 1, res := [.t 2], frz := true, body := (.seq (.reg [(oA 2 (.mv (.k (.v (.c (.p (.bool false)))))))] []) (.seq (.reg [(oA 3 (.mv (.t 0))), (oA 4 (.bin .eql 0 (.t 3) (.k (.v (.c (.p (.int .u8 32))))))), (oA 5 (.mv (.t 4))), ⟨(some 6), (.mv (.t 0)), (some (5, false))⟩, ⟨(some 7), (.bin .eql 0 (.t 6) (.k (.v (.c (.p (.int .u8 9)))))), (some (5, false))⟩, (oA 8 (.pick (.t 5) (.k (.v (.c (.p (.bool true))))) (.t 7))), (oA 9 (.mv (.t 8))), ⟨(some 10), (.mv (.t 0)), (some (9, false))⟩, ⟨(some 11), (.bin .eql 0 (.t 10) (.k (.v (.c (.p (.int .u8 10)))))), (some (9, false))⟩, (oA 12 (.pick (.t 9) (.k (.v (.c (.p (.bool true))))) (.t 11))), (oA 13 (.mv (.t 12))), ⟨(some 14), (.mv (.t 0)), (some (13, false))⟩, ⟨(some 15), (.bin .eql 0 (.t 14) (.k (.v (.c (.p (.int .u8 13)))))), (some (13, false))⟩, (oA 16 (.pick (.t 13) (.k (.v (.c (.p (.bool true))))) (.t 15))), (oA 2 (.mv (.t 16)))] []) .ret)) }
theorem t20 : compF Tryd.prog (globs2 tabs opq) (fun _ => false) true Tryd.f20 = some c20.erase := by kernel_rfl
noncomputable def b20_0 (O : Oracle) (R : Jump) (q : Nat) (x0 : TVal) (h : Heap) : Res1 :=
 vbin .eql 0 x0 (.v (.c (.p (.int .u8 32)))) h fun x4 h =>
 vguard x4 false (fun kk => kk x0 h) h fun x6 h =>
 vguard x4 false (fun kk => vbin .eql 0 x6 (.v (.c (.p (.int .u8 9)))) h kk) h fun x7 h =>
 vop O (.pick (.k x4) (.k (kB true)) (.k x7)) h 8 fun x8 h =>
 vguard x8 false (fun kk => kk x0 h) h fun x10 h =>
 vguard x8 false (fun kk => vbin .eql 0 x10 (.v (.c (.p (.int .u8 10)))) h kk) h fun x11 h =>
 vop O (.pick (.k x8) (.k (kB true)) (.k x11)) h 12 fun x12 h =>
 vguard x12 false (fun kk => kk x0 h) h fun x14 h =>
 vguard x12 false (fun kk => vbin .eql 0 x14 (.v (.c (.p (.int .u8 13)))) h kk) h fun x15 h =>
 vop O (.pick (.k x12) (.k (kB true)) (.k x15)) h 16 fun x16 h =>
 tcomp x16 fun c0 => vfin true q [c0] h
theorem e20_0 (O : Oracle) (R : Jump) (q : Nat) (x0 : TVal) (h : Heap) : b20_0 O R q x0 h = stepF c20 O R q 0 [x0] h := by kernel_rfl
noncomputable def d20 : BlkF := fun O R q => [.s fun y0 => .z fun h => b20_0 O R q y0 h]
theorem o20 (O : Oracle) (R : Jump) (q : Nat) : HoldsAll c20 O R q 0 (d20 O R q) := ⟨fun y0 h => e20_0 O R q y0 h, trivial⟩
/- sprue/sprueref1.next -/
def c21 : MFunc := { np := 2, res := [.cell 4 true 4, .t 5, .t 6], frz := true, body := (.seq (.reg [(oA 4 (.alloc [(.p (.int .i64 0)), (.p (.str [])), (.p (.int .i64 0)), (.p (.int .i64 0))] false)), (oA 5 (.mv (.k (.v (.c (.p (.int .i64 0))))))), (oA 6 (.mv (.k (.v (.c (.p (.int .i64 0)))))))] []) (.seq (.reg [(oA 14 (.mv (.t 1))), (oA 7 (.mv (.t 14)))] []) (.seq (.block 0 (.seq (.reg [(oA 16 (.mv (.t 0))), (oA 17 (.mv (.t 1))), (oA 18 (.index (.t 16) (.t 17))), (oA 19 (.call (.k (.v (.c (.func 26 [])))) [(.t 18)])), (oA 15 (.mv (.t 19)))] []) (.cond (.t 15) (.seq (.block 1 (.loop 1 [0, 1, 4, 7] (.seq (.seq (.reg [(oA 20 (.mv (.t 7))), (oA 21 (.mv (.t 0))), (oA 22 (.len 0 (.t 21))), (oA 23 (.bin .lss 0 (.t 20) (.t 22))), (oA 24 (.mv (.t 23))), ⟨(some 25), (.mv (.t 0)), (some (24, true))⟩, ⟨(some 26), (.mv (.t 7)), (some (24, true))⟩, ⟨(some 27), (.index (.t 25) (.t 26)), (some (24, true))⟩, ⟨(some 28), (.call (.k (.v (.c (.func 26 [])))) [(.t 27)]), (some (24, true))⟩, ⟨(some 29), (.mv (.t 28)), (some (24, true))⟩, ⟨(some 30), (.mv (.t 0)), (some (29, false))⟩, ⟨(some 31), (.mv (.t 7)), (some (29, false))⟩, ⟨(some 32), (.index (.t 30) (.t 31)), (some (29, false))⟩, ⟨(some 33), (.call (.k (.v (.c (.func 27 [])))) [(.t 32)]), (some (29, false))⟩, ⟨(some 34), (.pick (.t 29) (.k (.v (.c (.p (.bool true))))) (.t 33)), (some (24, true))⟩, (oA 35 (.pick (.t 24) (.t 34) (.k (.v (.c (.p (.bool false)))))))] []) (.cond (.t 35) .skip (.exit 1))) (.block 2 (.reg [(oA 36 (.mv (.t 7))), (oA 37 (.bin .add 0 (.t 36) (.k (.v (.c (.p (.int .i64 1))))))), (oA 7 (.mv (.t 37)))] []))))) (.mark 2 [0, 1, 4, 7] (.seq (.seq (.reg [(oA 38 (.mv (.t 7))), (oA 39 (.mv (.t 1))), (oA 40 (.bin .sub 0 (.t 38) (.t 39))), (oA 41 (.bin .gtr 0 (.t 40) (.k (.v (.c (.p (.int .i64 16)))))))] []) (.cond (.t 41) (.seq (.reg [(oA 42 (.build [(.p (.int .i64 0)), (.p (.str [])), (.p (.int .i64 0)), (.p (.int .i64 0))] [])), (oN (.store 4 (.t 4) (.t 42))), (oA 5 (.mv (.k (.v (.c (.p (.int .i64 0))))))), (oA 6 (.mv (.k (.v (.c (.p (.int .i64 4)))))))] []) .ret) .skip)) (.seq (.reg [(oA 43 (.mv (.t 0))), (oA 44 (.mv (.t 1))), (oA 45 (.mv (.t 7))), (oA 46 (.slice 0 true (.t 43) (some (.t 44)) (some (.t 45)) none)), (oA 47 (.mv (.t 1))), (oA 48 (.build [(.p (.int .i64 0)), (.p (.str [])), (.p (.int .i64 0)), (.p (.int .i64 0))] [(0, 1, (.k (.v (.c (.p (.int .i64 1)))))), (1, 1, (.t 46)), (3, 1, (.t 47))])), (oA 49 (.mv (.t 7))), (oN (.store 4 (.t 4) (.t 48))), (oA 5 (.mv (.t 49))), (oA 6 (.mv (.k (.v (.c (.p (.int .i64 0)))))))] []) .ret)))) (.seq (.reg [(oA 51 (.mv (.t 0))), (oA 52 (.mv (.t 1))), (oA 53 (.index (.t 51) (.t 52))), (oA 54 (.call (.k (.v (.c (.func 27 [])))) [(.t 53)])), (oA 55 (.mv (.t 54))), ⟨(some 56), (.mv (.t 0)), (some (55, false))⟩, ⟨(some 57), (.mv (.t 1)), (some (55, false))⟩, ⟨(some 58), (.index (.t 56) (.t 57)), (some (55, false))⟩, ⟨(some 59), (.bin .eql 0 (.t 58) (.k (.v (.c (.p (.int .u8 45)))))), (some (55, false))⟩, ⟨(some 60), (.mv (.t 59)), (some (55, false))⟩, ⟨(some 61), (.mv (.t 1)), (some (60, true))⟩, ⟨(some 62), (.bin .add 0 (.t 61) (.k (.v (.c (.p (.int .i64 1)))))), (some (60, true))⟩, ⟨(some 63), (.mv (.t 0)), (some (60, true))⟩, ⟨(some 64), (.len 0 (.t 63)), (some (60, true))⟩, ⟨(some 65), (.bin .lss 0 (.t 62) (.t 64)), (some (60, true))⟩, ⟨(some 66), (.pick (.t 60) (.t 65) (.k (.v (.c (.p (.bool false)))))), (some (55, false))⟩, ⟨(some 67), (.mv (.t 66)), (some (55, false))⟩, ⟨(some 68), (.mv (.t 0)), (some (67, true))⟩, ⟨(some 69), (.mv (.t 1)), (some (67, true))⟩, ⟨(some 70), (.bin .add 0 (.t 69) (.k (.v (.c (.p (.int .i64 1)))))), (some (67, true))⟩, ⟨(some 71), (.index (.t 68) (.t 70)), (some (67, true))⟩, ⟨(some 72), (.call (.k (.v (.c (.func 27 [])))) [(.t 71)]), (some (67, true))⟩, ⟨(some 73), (.pick (.t 67) (.t 72) (.k (.v (.c (.p (.bool false)))))), (some (55, false))⟩, (oA 74 (.pick (.t 55) (.k (.v (.c (.p (.bool true))))) (.t 73))), (oA 50 (.mv (.t 74)))] []) (.cond (.t 50) (.seq (.reg [(oA 75 (.mv (.t 7))), (oA 76 (.bin .add 0 (.t 75) (.k (.v (.c (.p (.int .i64 1))))))), (oA 7 (.mv (.t 76)))] []) (.seq (.block 3 (.loop 3 [0, 1, 4, 7] (.seq (.seq (.reg [(oA 77 (.mv (.t 7))), (oA 78 (.mv (.t 0))), (oA 79 (.len 0 (.t 78))), (oA 80 (.bin .lss 0 (.t 77) (.t 79))), (oA 81 (.mv (.t 80))), ⟨(some 82), (.mv (.t 0)), (some (81, true))⟩, ⟨(some 83), (.mv (.t 7)), (some (81, true))⟩, ⟨(some 84), (.index (.t 82) (.t 83)), (some (81, true))⟩, ⟨(some 85), (.call (.k (.v (.c (.func 27 [])))) [(.t 84)]), (some (81, true))⟩, (oA 86 (.pick (.t 81) (.t 85) (.k (.v (.c (.p (.bool false)))))))] []) (.cond (.t 86) .skip (.exit 3))) (.block 4 (.reg [(oA 87 (.mv (.t 7))), (oA 88 (.bin .add 0 (.t 87) (.k (.v (.c (.p (.int .i64 1))))))), (oA 7 (.mv (.t 88)))] []))))) (.mark 4 [0, 1, 4, 7] (.seq (.reg [(oA 90 (.mv (.t 0))), (oA 91 (.mv (.t 1))), (oA 92 (.mv (.t 7))), (oA 93 (.slice 0 true (.t 90) (some (.t 91)) (some (.t 92)) none)), (oA 94 (.call (.k (.v (.c (.func 28 [])))) [(.t 93)])), (oA 89 (.mv (.t 94))), (oA 95 (.extract (.t 89) 0)), (oA 96 (.extract (.t 89) 1)), (oA 8 (.mv (.t 95))), (oA 9 (.mv (.t 96)))] []) (.seq (.reg [(oA 97 (.mv (.t 8))), (oA 98 (.mv (.t 1))), (oA 99 (.build [(.p (.int .i64 0)), (.p (.str [])), (.p (.int .i64 0)), (.p (.int .i64 0))] [(0, 1, (.k (.v (.c (.p (.int .i64 3)))))), (2, 1, (.t 97)), (3, 1, (.t 98))])), (oA 100 (.mv (.t 7))), (oA 101 (.mv (.t 9))), (oN (.store 4 (.t 4) (.t 99))), (oA 5 (.mv (.t 100))), (oA 6 (.mv (.t 101)))] []) .ret))))) (.seq (.reg [(oA 103 (.mv (.t 0))), (oA 104 (.mv (.t 1))), (oA 105 (.index (.t 103) (.t 104))), (oA 106 (.bin .eql 0 (.t 105) (.k (.v (.c (.p (.int .u8 34))))))), (oA 102 (.mv (.t 106)))] []) (.cond (.t 102) (.seq (.reg [(oA 108 (.mv (.t 0))), (oA 109 (.mv (.t 1))), (oA 110 (.call (.k (.v (.c (.func 29 [])))) [(.t 108), (.t 109)])), (oA 107 (.mv (.t 110))), (oA 111 (.extract (.t 107) 0)), (oA 112 (.extract (.t 107) 1)), (oA 10 (.mv (.t 111))), (oA 11 (.mv (.t 112)))] []) (.seq (.seq (.reg [(oA 113 (.mv (.t 11))), (oA 114 (.bin .lss 0 (.t 113) (.k (.v (.c (.p (.int .i64 0)))))))] []) (.cond (.t 114) (.seq (.reg [(oA 115 (.build [(.p (.int .i64 0)), (.p (.str [])), (.p (.int .i64 0)), (.p (.int .i64 0))] [])), (oN (.store 4 (.t 4) (.t 115))), (oA 5 (.mv (.k (.v (.c (.p (.int .i64 0))))))), (oA 6 (.mv (.k (.v (.c (.p (.int .i64 11)))))))] []) .ret) .skip)) (.seq (.seq (.reg [(oA 116 (.mv (.t 10))), (oA 117 (.len 0 (.t 116))), (oA 118 (.bin .gtr 0 (.t 117) (.k (.v (.c (.p (.int .i64 200)))))))] []) (.cond (.t 118) (.seq (.reg [(oA 119 (.build [(.p (.int .i64 0)), (.p (.str [])), (.p (.int .i64 0)), (.p (.int .i64 0))] [])), (oN (.store 4 (.t 4) (.t 119))), (oA 5 (.mv (.k (.v (.c (.p (.int .i64 0))))))), (oA 6 (.mv (.k (.v (.c (.p (.int .i64 4)))))))] []) .ret) .skip)) (.seq (.reg [(oA 120 (.mv (.t 10))), (oA 121 (.mv (.t 1))), (oA 122 (.build [(.p (.int .i64 0)), (.p (.str [])), (.p (.int .i64 0)), (.p (.int .i64 0))] [(0, 1, (.k (.v (.c (.p (.int .i64 2)))))), (1, 1, (.t 120)), (3, 1, (.t 121))])), (oA 123 (.mv (.t 11))), (oN (.store 4 (.t 4) (.t 122))), (oA 5 (.mv (.t 123))), (oA 6 (.mv (.k (.v (.c (.p (.int .i64 0)))))))] []) .ret)))) .skip))))))) (.mark 5 [0, 1, 4] (.seq (.seq (.reg [(oA 124 (.mv (.t 1))), (oA 125 (.bin .add 0 (.t 124) (.k (.v (.c (.p (.int .i64 2))))))), (oA 126 (.mv (.t 0))), (oA 127 (.len 0 (.t 126))), (oA 128 (.bin .leq 0 (.t 125) (.t 127))), (oA 129 (.mv (.t 128))), ⟨(some 130), (.mv (.t 0)), (some (129, true))⟩, ⟨(some 131), (.mv (.t 1)), (some (129, true))⟩, ⟨(some 132), (.mv (.t 1)), (some (129, true))⟩, ⟨(some 133), (.bin .add 0 (.t 132) (.k (.v (.c (.p (.int .i64 2)))))), (some (129, true))⟩, ⟨(some 134), (.slice 0 true (.t 130) (some (.t 131)) (some (.t 133)) none), (some (129, true))⟩, ⟨(some 135), (.bin .eql 0 (.t 134) (.k (.v (.c (.p (.str [45, 62])))))), (some (129, true))⟩, ⟨(some 136), (.mv (.t 135)), (some (129, true))⟩, ⟨(some 137), (.mv (.t 0)), (some (136, false))⟩, ⟨(some 138), (.mv (.t 1)), (some (136, false))⟩, ⟨(some 139), (.mv (.t 1)), (some (136, false))⟩, ⟨(some 140), (.bin .add 0 (.t 139) (.k (.v (.c (.p (.int .i64 2)))))), (some (136, false))⟩, ⟨(some 141), (.slice 0 true (.t 137) (some (.t 138)) (some (.t 140)) none), (some (136, false))⟩, ⟨(some 142), (.bin .eql 0 (.t 141) (.k (.v (.c (.p (.str [58, 61])))))), (some (136, false))⟩, ⟨(some 143), (.pick (.t 136) (.k (.v (.c (.p (.bool true))))) (.t 142)), (some (129, true))⟩, (oA 144 (.pick (.t 129) (.t 143) (.k (.v (.c (.p (.bool false)))))))] []) (.cond (.t 144) (.seq (.reg [(oA 145 (.mv (.t 0))), (oA 146 (.mv (.t 1))), (oA 147 (.mv (.t 1))), (oA 148 (.bin .add 0 (.t 147) (.k (.v (.c (.p (.int .i64 2))))))), (oA 149 (.slice 0 true (.t 145) (some (.t 146)) (some (.t 148)) none)), (oA 150 (.mv (.t 1))), (oA 151 (.build [(.p (.int .i64 0)), (.p (.str [])), (.p (.int .i64 0)), (.p (.int .i64 0))] [(0, 1, (.k (.v (.c (.p (.int .i64 4)))))), (1, 1, (.t 149)), (3, 1, (.t 150))])), (oA 152 (.mv (.t 1))), (oA 153 (.bin .add 0 (.t 152) (.k (.v (.c (.p (.int .i64 2))))))), (oN (.store 4 (.t 4) (.t 151))), (oA 5 (.mv (.t 153))), (oA 6 (.mv (.k (.v (.c (.p (.int .i64 0)))))))] []) .ret) .skip)) (.seq (.reg [(oA 12 (.mv (.k (.v (.c (.p (.str [123, 125, 60, 62, 44, 58, 40, 41, 46, 36, 124, 61, 59])))))))] []) (.seq (.seq (.reg [(oA 13 (.mv (.k (.v (.c (.p (.int .i64 0)))))))] []) (.block 5 (.loop 6 [0, 1, 4, 12, 13] (.seq (.seq (.reg [(oA 154 (.mv (.t 13))), (oA 155 (.mv (.t 12))), (oA 156 (.len 0 (.t 155))), (oA 157 (.bin .lss 0 (.t 154) (.t 156)))] []) (.cond (.t 157) .skip (.exit 5))) (.seq (.block 6 (.seq (.reg [(oA 160 (.mv (.t 12))), (oA 161 (.mv (.t 13))), (oA 162 (.index (.t 160) (.t 161))), (oA 163 (.mv (.t 0))), (oA 164 (.mv (.t 1))), (oA 165 (.index (.t 163) (.t 164))), (oA 166 (.bin .eql 0 (.t 162) (.t 165)))] []) (.cond (.t 166) (.seq (.reg [(oA 167 (.mv (.t 0))), (oA 168 (.mv (.t 1))), (oA 169 (.mv (.t 1))), (oA 170 (.bin .add 0 (.t 169) (.k (.v (.c (.p (.int .i64 1))))))), (oA 171 (.slice 0 true (.t 167) (some (.t 168)) (some (.t 170)) none)), (oA 172 (.mv (.t 1))), (oA 173 (.build [(.p (.int .i64 0)), (.p (.str [])), (.p (.int .i64 0)), (.p (.int .i64 0))] [(0, 1, (.k (.v (.c (.p (.int .i64 4)))))), (1, 1, (.t 171)), (3, 1, (.t 172))])), (oA 174 (.mv (.t 1))), (oA 175 (.bin .add 0 (.t 174) (.k (.v (.c (.p (.int .i64 1))))))), (oN (.store 4 (.t 4) (.t 173))), (oA 5 (.mv (.t 175))), (oA 6 (.mv (.k (.v (.c (.p (.int .i64 0)))))))] []) .ret) .skip))) (.reg [(oA 158 (.mv (.t 13))), (oA 159 (.bin .add 0 (.t 158) (.k (.v (.c (.p (.int .i64 1))))))), (oA 13 (.mv (.t 159)))] [])))))) (.mark 7 [4] (.seq (.reg [(oA 176 (.build [(.p (.int .i64 0)), (.p (.str [])), (.p (.int .i64 0)), (.p (.int .i64 0))] [])), (oN (.store 4 (.t 4) (.t 176))), (oA 5 (.mv (.k (.v (.c (.p (.int .i64 0))))))), (oA 6 (.mv (.k (.v (.c (.p (.int .i64 11)))))))] []) .ret))))))))) }
theorem t21 : compF Tryd.prog (globs2 tabs opq) (fun _ => false) true Tryd.f21 = some c21.erase := by kernel_rfl
noncomputable def b21_0 (O : Oracle) (R : Jump) (q : Nat) (x0 x1 : TVal) (h : Heap) : Res1 :=
 vop O (.alloc [(.p (.int .i64 0)), (.p (.str [])), (.p (.int .i64 0)), (.p (.int .i64 0))] false) h 4 fun x4 h =>
 vindex x0 x1 h fun x18 h =>
 vcall O (.v (.c (.func 26 []))) [x18] h 19 fun x19 h =>
 vif x19 (
 R 1 [x0, x1, x4, x1] h)
 (vindex x0 x1 h fun x53 h =>
 vcall O (.v (.c (.func 27 []))) [x53] h 54 fun x54 h =>
 vguard x54 false (fun kk => kk x0 h) h fun x56 h =>
 vguard x54 false (fun kk => kk x1 h) h fun x57 h =>
 vguard x54 false (fun kk => vindex x56 x57 h kk) h fun x58 h =>
 vguard x54 false (fun kk => vbin .eql 0 x58 (.v (.c (.p (.int .u8 45)))) h kk) h fun x59 h =>
 vguard x54 false (fun kk => kk x59 h) h fun x60 h =>
 vguard x60 true (fun kk => kk x1 h) h fun x61 h =>
 vguard x60 true (fun kk => vbin .add 0 x61 (kI 1) h kk) h fun x62 h =>
 vguard x60 true (fun kk => kk x0 h) h fun x63 h =>
 vguard x60 true (fun kk => vlen O 0 x63 h 64 kk) h fun x64 h =>
 vguard x60 true (fun kk => vbin .lss 0 x62 x64 h kk) h fun x65 h =>
 vguard x54 false (fun kk => vop O (.pick (.k x60) (.k x65) (.k (kB false))) h 66 kk) h fun x66 h =>
 vguard x54 false (fun kk => kk x66 h) h fun x67 h =>
 vguard x67 true (fun kk => kk x0 h) h fun x68 h =>
 vguard x67 true (fun kk => kk x1 h) h fun x69 h =>
 vguard x67 true (fun kk => vbin .add 0 x69 (kI 1) h kk) h fun x70 h =>
 vguard x67 true (fun kk => vindex x68 x70 h kk) h fun x71 h =>
 vguard x67 true (fun kk => vcall O (.v (.c (.func 27 []))) [x71] h 72 kk) h fun x72 h =>
 vguard x54 false (fun kk => vop O (.pick (.k x67) (.k x72) (.k (kB false))) h 73 kk) h fun x73 h =>
 vop O (.pick (.k x54) (.k (kB true)) (.k x73)) h 74 fun x74 h =>
 vif x74 (
 vbin .add 0 x1 (kI 1) h fun x76 h =>
 R 3 [x0, x1, x4, x76] h)
 (vindex x0 x1 h fun x105 h =>
 vbin .eql 0 x105 (.v (.c (.p (.int .u8 34)))) h fun x106 h =>
 vif x106 (
 vcall O (.v (.c (.func 29 []))) [x0, x1] h 110 fun x110 h =>
 vext x110 0 h fun x111 h =>
 vext x110 1 h fun x112 h =>
 vbin .lss 0 x112 (kI 0) h fun x114 h =>
 vif x114 (
 vop O (.build [(.p (.int .i64 0)), (.p (.str [])), (.p (.int .i64 0)), (.p (.int .i64 0))] []) h 115 fun x115 h =>
 vstore 4 x4 x115 h fun _ h =>
 vcell true 4 x4 h fun c0 => tcomp (kI 0) fun c1 => tcomp (kI 11) fun c2 => vfin true q [c0, c1, c2] h)
 (vlen O 0 x111 h 117 fun x117 h =>
 vbin .gtr 0 x117 (kI 200) h fun x118 h =>
 vif x118 (
 vop O (.build [(.p (.int .i64 0)), (.p (.str [])), (.p (.int .i64 0)), (.p (.int .i64 0))] []) h 119 fun x119 h =>
 vstore 4 x4 x119 h fun _ h =>
 vcell true 4 x4 h fun c0 => tcomp (kI 0) fun c1 => tcomp (kI 4) fun c2 => vfin true q [c0, c1, c2] h)
 (vop O (.build [(.p (.int .i64 0)), (.p (.str [])), (.p (.int .i64 0)), (.p (.int .i64 0))] [(0, 1, (.k (kI 2))), (1, 1, (.k x111)), (3, 1, (.k x1))]) h 122 fun x122 h =>
 vstore 4 x4 x122 h fun _ h =>
 vcell true 4 x4 h fun c0 => tcomp x112 fun c1 => tcomp (kI 0) fun c2 => vfin true q [c0, c1, c2] h)))
 (R 5 [x0, x1, x4] h)))
theorem e21_0 (O : Oracle) (R : Jump) (q : Nat) (x0 x1 : TVal) (h : Heap) : b21_0 O R q x0 x1 h = stepF c21 O R q 0 [x0, x1] h := by kernel_rfl
noncomputable def b21_1 (O : Oracle) (R : Jump) (q : Nat) (x0 x1 x4 x7 : TVal) (h : Heap) : Res1 :=
 vlen O 0 x0 h 22 fun x22 h =>
 vbin .lss 0 x7 x22 h fun x23 h =>
 vguard x23 true (fun kk => kk x0 h) h fun x25 h =>
 vguard x23 true (fun kk => kk x7 h) h fun x26 h =>
 vguard x23 true (fun kk => vindex x25 x26 h kk) h fun x27 h =>
 vguard x23 true (fun kk => vcall O (.v (.c (.func 26 []))) [x27] h 28 kk) h fun x28 h =>
 vguard x23 true (fun kk => kk x28 h) h fun x29 h =>
 vguard x29 false (fun kk => kk x0 h) h fun x30 h =>
 vguard x29 false (fun kk => kk x7 h) h fun x31 h =>
 vguard x29 false (fun kk => vindex x30 x31 h kk) h fun x32 h =>
 vguard x29 false (fun kk => vcall O (.v (.c (.func 27 []))) [x32] h 33 kk) h fun x33 h =>
 vguard x23 true (fun kk => vop O (.pick (.k x29) (.k (kB true)) (.k x33)) h 34 kk) h fun x34 h =>
 vop O (.pick (.k x23) (.k x34) (.k (kB false))) h 35 fun x35 h =>
 vif x35 (
 vbin .add 0 x7 (kI 1) h fun x37 h =>
 R 1 [x0, x1, x4, x37] h)
 (R 2 [x0, x1, x4, x7] h)
theorem e21_1 (O : Oracle) (R : Jump) (q : Nat) (x0 x1 x4 x7 : TVal) (h : Heap) : b21_1 O R q x0 x1 x4 x7 h = stepF c21 O R q 1 [x0, x1, x4, x7] h := by kernel_rfl
noncomputable def b21_2 (O : Oracle) (R : Jump) (q : Nat) (x0 x1 x4 x7 : TVal) (h : Heap) : Res1 :=
 vbin .sub 0 x7 x1 h fun x40 h =>
 vbin .gtr 0 x40 (kI 16) h fun x41 h =>
 vif x41 (
 vop O (.build [(.p (.int .i64 0)), (.p (.str [])), (.p (.int .i64 0)), (.p (.int .i64 0))] []) h 42 fun x42 h =>
 vstore 4 x4 x42 h fun _ h =>
 vcell true 4 x4 h fun c0 => tcomp (kI 0) fun c1 => tcomp (kI 4) fun c2 => vfin true q [c0, c1, c2] h)
 (vop O (.slice 0 true (.k x0) (some (.k x1)) (some (.k x7)) none) h 46 fun x46 h =>
 vop O (.build [(.p (.int .i64 0)), (.p (.str [])), (.p (.int .i64 0)), (.p (.int .i64 0))] [(0, 1, (.k (kI 1))), (1, 1, (.k x46)), (3, 1, (.k x1))]) h 48 fun x48 h =>
 vstore 4 x4 x48 h fun _ h =>
 vcell true 4 x4 h fun c0 => tcomp x7 fun c1 => tcomp (kI 0) fun c2 => vfin true q [c0, c1, c2] h)
theorem e21_2 (O : Oracle) (R : Jump) (q : Nat) (x0 x1 x4 x7 : TVal) (h : Heap) : b21_2 O R q x0 x1 x4 x7 h = stepF c21 O R q 2 [x0, x1, x4, x7] h := by kernel_rfl
noncomputable def b21_3 (O : Oracle) (R : Jump) (q : Nat) (x0 x1 x4 x7 : TVal) (h : Heap) : Res1 :=
 vlen O 0 x0 h 79 fun x79 h =>
 vbin .lss 0 x7 x79 h fun x80 h =>
 vguard x80 true (fun kk => kk x0 h) h fun x82 h =>
 vguard x80 true (fun kk => kk x7 h) h fun x83 h =>
 vguard x80 true (fun kk => vindex x82 x83 h kk) h fun x84 h =>
 vguard x80 true (fun kk => vcall O (.v (.c (.func 27 []))) [x84] h 85 kk) h fun x85 h =>
 vop O (.pick (.k x80) (.k x85) (.k (kB false))) h 86 fun x86 h =>
 vif x86 (
 vbin .add 0 x7 (kI 1) h fun x88 h =>
 R 3 [x0, x1, x4, x88] h)
 (R 4 [x0, x1, x4, x7] h)
theorem e21_3 (O : Oracle) (R : Jump) (q : Nat) (x0 x1 x4 x7 : TVal) (h : Heap) : b21_3 O R q x0 x1 x4 x7 h = stepF c21 O R q 3 [x0, x1, x4, x7] h := by kernel_rfl
noncomputable def b21_4 (O : Oracle) (R : Jump) (q : Nat) (x0 x1 x4 x7 : TVal) (h : Heap) : Res1 :=
 vop O (.slice 0 true (.k x0) (some (.k x1)) (some (.k x7)) none) h 93 fun x93 h =>
 vcall O (.v (.c (.func 28 []))) [x93] h 94 fun x94 h =>
 vext x94 0 h fun x95 h =>
 vext x94 1 h fun x96 h =>
 vop O (.build [(.p (.int .i64 0)), (.p (.str [])), (.p (.int .i64 0)), (.p (.int .i64 0))] [(0, 1, (.k (kI 3))), (2, 1, (.k x95)), (3, 1, (.k x1))]) h 99 fun x99 h =>
 vstore 4 x4 x99 h fun _ h =>
 vcell true 4 x4 h fun c0 => tcomp x7 fun c1 => tcomp x96 fun c2 => vfin true q [c0, c1, c2] h
theorem e21_4 (O : Oracle) (R : Jump) (q : Nat) (x0 x1 x4 x7 : TVal) (h : Heap) : b21_4 O R q x0 x1 x4 x7 h = stepF c21 O R q 4 [x0, x1, x4, x7] h := by kernel_rfl
noncomputable def b21_5 (O : Oracle) (R : Jump) (q : Nat) (x0 x1 x4 : TVal) (h : Heap) : Res1 :=
 vbin .add 0 x1 (kI 2) h fun x125 h =>
 vlen O 0 x0 h 127 fun x127 h =>
 vbin .leq 0 x125 x127 h fun x128 h =>
 vguard x128 true (fun kk => kk x0 h) h fun x130 h =>
 vguard x128 true (fun kk => kk x1 h) h fun x131 h =>
 vguard x128 true (fun kk => kk x1 h) h fun x132 h =>
 vguard x128 true (fun kk => vbin .add 0 x132 (kI 2) h kk) h fun x133 h =>
 vguard x128 true (fun kk => vop O (.slice 0 true (.k x130) (some (.k x131)) (some (.k x133)) none) h 134 kk) h fun x134 h =>
 vguard x128 true (fun kk => vbin .eql 0 x134 (kS [45, 62]) h kk) h fun x135 h =>
 vguard x128 true (fun kk => kk x135 h) h fun x136 h =>
 vguard x136 false (fun kk => kk x0 h) h fun x137 h =>
 vguard x136 false (fun kk => kk x1 h) h fun x138 h =>
 vguard x136 false (fun kk => kk x1 h) h fun x139 h =>
 vguard x136 false (fun kk => vbin .add 0 x139 (kI 2) h kk) h fun x140 h =>
 vguard x136 false (fun kk => vop O (.slice 0 true (.k x137) (some (.k x138)) (some (.k x140)) none) h 141 kk) h fun x141 h =>
 vguard x136 false (fun kk => vbin .eql 0 x141 (kS [58, 61]) h kk) h fun x142 h =>
 vguard x128 true (fun kk => vop O (.pick (.k x136) (.k (kB true)) (.k x142)) h 143 kk) h fun x143 h =>
 vop O (.pick (.k x128) (.k x143) (.k (kB false))) h 144 fun x144 h =>
 vif x144 (
 vbin .add 0 x1 (kI 2) h fun x148 h =>
 vop O (.slice 0 true (.k x0) (some (.k x1)) (some (.k x148)) none) h 149 fun x149 h =>
 vop O (.build [(.p (.int .i64 0)), (.p (.str [])), (.p (.int .i64 0)), (.p (.int .i64 0))] [(0, 1, (.k (kI 4))), (1, 1, (.k x149)), (3, 1, (.k x1))]) h 151 fun x151 h =>
 vbin .add 0 x1 (kI 2) h fun x153 h =>
 vstore 4 x4 x151 h fun _ h =>
 vcell true 4 x4 h fun c0 => tcomp x153 fun c1 => tcomp (kI 0) fun c2 => vfin true q [c0, c1, c2] h)
 (R 6 [x0, x1, x4, (kS [123, 125, 60, 62, 44, 58, 40, 41, 46, 36, 124, 61, 59]), (kI 0)] h)
theorem e21_5 (O : Oracle) (R : Jump) (q : Nat) (x0 x1 x4 : TVal) (h : Heap) : b21_5 O R q x0 x1 x4 h = stepF c21 O R q 5 [x0, x1, x4] h := by kernel_rfl
noncomputable def b21_6 (O : Oracle) (R : Jump) (q : Nat) (x0 x1 x4 x12 x13 : TVal) (h : Heap) : Res1 :=
 vlen O 0 x12 h 156 fun x156 h =>
 vbin .lss 0 x13 x156 h fun x157 h =>
 vif x157 (
 vindex x12 x13 h fun x162 h =>
 vindex x0 x1 h fun x165 h =>
 vbin .eql 0 x162 x165 h fun x166 h =>
 vif x166 (
 vbin .add 0 x1 (kI 1) h fun x170 h =>
 vop O (.slice 0 true (.k x0) (some (.k x1)) (some (.k x170)) none) h 171 fun x171 h =>
 vop O (.build [(.p (.int .i64 0)), (.p (.str [])), (.p (.int .i64 0)), (.p (.int .i64 0))] [(0, 1, (.k (kI 4))), (1, 1, (.k x171)), (3, 1, (.k x1))]) h 173 fun x173 h =>
 vbin .add 0 x1 (kI 1) h fun x175 h =>
 vstore 4 x4 x173 h fun _ h =>
 vcell true 4 x4 h fun c0 => tcomp x175 fun c1 => tcomp (kI 0) fun c2 => vfin true q [c0, c1, c2] h)
 (vbin .add 0 x13 (kI 1) h fun x159 h =>
 R 6 [x0, x1, x4, x12, x159] h))
 (R 7 [x4] h)
theorem e21_6 (O : Oracle) (R : Jump) (q : Nat) (x0 x1 x4 x12 x13 : TVal) (h : Heap) : b21_6 O R q x0 x1 x4 x12 x13 h = stepF c21 O R q 6 [x0, x1, x4, x12, x13] h := by kernel_rfl
noncomputable def b21_7 (O : Oracle) (R : Jump) (q : Nat) (x4 : TVal) (h : Heap) : Res1 :=
 vop O (.build [(.p (.int .i64 0)), (.p (.str [])), (.p (.int .i64 0)), (.p (.int .i64 0))] []) h 176 fun x176 h =>
 vstore 4 x4 x176 h fun _ h =>
 vcell true 4 x4 h fun c0 => tcomp (kI 0) fun c1 => tcomp (kI 11) fun c2 => vfin true q [c0, c1, c2] h
theorem e21_7 (O : Oracle) (R : Jump) (q : Nat) (x4 : TVal) (h : Heap) : b21_7 O R q x4 h = stepF c21 O R q 7 [x4] h := by kernel_rfl
noncomputable def d21 : BlkF := fun O R q => [.s fun y0 => .s fun y1 => .z fun h => b21_0 O R q y0 y1 h, .s fun y0 => .s fun y1 => .s fun y2 => .s fun y3 => .z fun h => b21_1 O R q y0 y1 y2 y3 h, .s fun y0 => .s fun y1 => .s fun y2 => .s fun y3 => .z fun h => b21_2 O R q y0 y1 y2 y3 h, .s fun y0 => .s fun y1 => .s fun y2 => .s fun y3 => .z fun h => b21_3 O R q y0 y1 y2 y3 h, .s fun y0 => .s fun y1 => .s fun y2 => .s fun y3 => .z fun h => b21_4 O R q y0 y1 y2 y3 h, .s fun y0 => .s fun y1 => .s fun y2 => .z fun h => b21_5 O R q y0 y1 y2 h, .s fun y0 => .s fun y1 => .s fun y2 => .s fun y3 => .s fun y4 => .z fun h => b21_6 O R q y0 y1 y2 y3 y4 h, .s fun y0 => .z fun h => b21_7 O R q y0 h]
theorem o21 (O : Oracle) (R : Jump) (q : Nat) : HoldsAll c21 O R q 0 (d21 O R q) := ⟨fun y0 y1 h => e21_0 O R q y0 y1 h, fun y0 y1 y2 y3 h => e21_1 O R q y0 y1 y2 y3 h, fun y0 y1 y2 y3 h => e21_2 O R q y0 y1 y2 y3 h, fun y0 y1 y2 y3 h => e21_3 O R q y0 y1 y2 y3 h, fun y0 y1 y2 y3 h => e21_4 O R q y0 y1 y2 y3 h, fun y0 y1 y2 h => e21_5 O R q y0 y1 y2 h, fun y0 y1 y2 y3 y4 h => e21_6 O R q y0 y1 y2 y3 y4 h, fun y0 h => e21_7 O R q y0 h, trivial⟩
/- strings.Contains -/
def c22 : MFunc := { np := 2, res := [.t 4], frz := true, body := (.seq (.reg [(oA 4 (.mv (.k (.v (.c (.p (.bool false)))))))] []) (.seq (.reg [(oA 5 (.mv (.t 0))), (oA 6 (.mv (.t 1))), (oA 7 (.call (.k (.v (.c (.func 30 [])))) [(.t 5), (.t 6)])), (oA 8 (.bin .geq 0 (.t 7) (.k (.v (.c (.p (.int .i64 0))))))), (oA 4 (.mv (.t 8)))] []) .ret)) }
theorem t22 : compF Tryd.prog (globs2 tabs opq) (fun _ => false) true Tryd.f22 = some c22.erase := by kernel_rfl
noncomputable def b22_0 (O : Oracle) (R : Jump) (q : Nat) (x0 x1 : TVal) (h : Heap) : Res1 :=
 vcall O (.v (.c (.func 30 []))) [x0, x1] h 7 fun x7 h =>
 vbin .geq 0 x7 (kI 0) h fun x8 h =>
 tcomp x8 fun c0 => vfin true q [c0] h
theorem e22_0 (O : Oracle) (R : Jump) (q : Nat) (x0 x1 : TVal) (h : Heap) : b22_0 O R q x0 x1 h = stepF c22 O R q 0 [x0, x1] h := by kernel_rfl
noncomputable def d22 : BlkF := fun O R q => [.s fun y0 => .s fun y1 => .z fun h => b22_0 O R q y0 y1 h]
theorem o22 (O : Oracle) (R : Jump) (q : Nat) : HoldsAll c22 O R q 0 (d22 O R q) := ⟨fun y0 y1 h => e22_0 O R q y0 y1 h, trivial⟩
/- sprue/scan.one -/
def c23 : MFunc := { np := 1, res := [.cell 2 true 4, .t 3, .t 4], frz := true, body := (.seq (.reg [(oA 2 (.alloc [(.p (.int .i64 0)), (.p (.str [])), (.p (.int .i64 0)), (.p (.int .i64 0))] false)), (oA 3 (.mv (.k (.v (.c (.p (.int .i64 0))))))), (oA 4 (.mv (.k (.v (.c (.p (.int .i64 0)))))))] []) (.seq (.seq (.reg [(oA 6 (.mv (.t 0))), (oA 7 (.index (.t 6) (.k (.v (.c (.p (.int .i64 0))))))), (oA 5 (.mv (.t 7)))] []) (.block 0 (.seq (.reg [(oA 9 (.mv (.t 5))), (oA 10 (.call (.k (.v (.c (.func 31 [])))) [(.t 9)])), (oA 8 (.mv (.t 10)))] []) (.cond (.t 8) (.seq (.reg [(oA 11 (.mv (.t 0))), (oA 12 (.call (.k (.v (.c (.func 32 [])))) [(.t 11)])), (oA 13 (.extract (.t 12) 0)), (oA 14 (.extract (.t 12) 1)), (oA 15 (.extract (.t 12) 2)), (oN (.store 4 (.t 2) (.t 13))), (oA 3 (.mv (.t 14))), (oA 4 (.mv (.t 15)))] []) .ret) (.seq (.seq (.reg [(oA 17 (.mv (.t 5))), (oA 18 (.call (.k (.v (.c (.func 24 [])))) [(.t 17)])), (oA 16 (.mv (.t 18)))] []) (.cond (.t 16) .skip (.reg [(oA 19 (.mv (.t 5))), (oA 20 (.bin .eql 0 (.t 19) (.k (.v (.c (.p (.int .u8 45))))))), (oA 21 (.mv (.t 20))), ⟨(some 22), (.mv (.t 0)), (some (21, true))⟩, ⟨(some 23), (.len 0 (.t 22)), (some (21, true))⟩, ⟨(some 24), (.bin .gtr 0 (.t 23) (.k (.v (.c (.p (.int .i64 1)))))), (some (21, true))⟩, (oA 25 (.pick (.t 21) (.t 24) (.k (.v (.c (.p (.bool false))))))), (oA 26 (.mv (.t 25))), ⟨(some 27), (.mv (.t 0)), (some (26, true))⟩, ⟨(some 28), (.index (.t 27) (.k (.v (.c (.p (.int .i64 1)))))), (some (26, true))⟩, ⟨(some 29), (.call (.k (.v (.c (.func 24 [])))) [(.t 28)]), (some (26, true))⟩, (oA 30 (.pick (.t 26) (.t 29) (.k (.v (.c (.p (.bool false))))))), (oA 16 (.mv (.t 30)))] []))) (.mark 1 [0, 2, 5, 16] (.cond (.t 16) (.seq (.reg [(oA 31 (.mv (.t 0))), (oA 32 (.call (.k (.v (.c (.func 33 [])))) [(.t 31)])), (oA 33 (.extract (.t 32) 0)), (oA 34 (.extract (.t 32) 1)), (oA 35 (.extract (.t 32) 2)), (oN (.store 4 (.t 2) (.t 33))), (oA 3 (.mv (.t 34))), (oA 4 (.mv (.t 35)))] []) .ret) (.seq (.reg [(oA 37 (.mv (.t 5))), (oA 38 (.bin .eql 0 (.t 37) (.k (.v (.c (.p (.int .u8 34))))))), (oA 36 (.mv (.t 38)))] []) (.cond (.t 36) (.seq (.reg [(oA 39 (.mv (.t 0))), (oA 40 (.call (.k (.v (.c (.func 34 [])))) [(.t 39)])), (oA 41 (.extract (.t 40) 0)), (oA 42 (.extract (.t 40) 1)), (oA 43 (.extract (.t 40) 2)), (oN (.store 4 (.t 2) (.t 41))), (oA 3 (.mv (.t 42))), (oA 4 (.mv (.t 43)))] []) .ret) .skip))))))))) (.seq (.reg [(oA 44 (.mv (.t 0))), (oA 45 (.call (.k (.v (.c (.func 35 [])))) [(.t 44)])), (oA 46 (.extract (.t 45) 0)), (oA 47 (.extract (.t 45) 1)), (oA 48 (.extract (.t 45) 2)), (oN (.store 4 (.t 2) (.t 46))), (oA 3 (.mv (.t 47))), (oA 4 (.mv (.t 48)))] []) .ret))) }
theorem t23 : compF Tryd.prog (globs2 tabs opq) (fun _ => false) true Tryd.f23 = some c23.erase := by kernel_rfl
noncomputable def b23_0 (O : Oracle) (R : Jump) (q : Nat) (x0 : TVal) (h : Heap) : Res1 :=
 vop O (.alloc [(.p (.int .i64 0)), (.p (.str [])), (.p (.int .i64 0)), (.p (.int .i64 0))] false) h 2 fun x2 h =>
 vindex x0 (kI 0) h fun x7 h =>
 vcall O (.v (.c (.func 31 []))) [x7] h 10 fun x10 h =>
 vif x10 (
 vcall O (.v (.c (.func 32 []))) [x0] h 12 fun x12 h =>
 vext x12 0 h fun x13 h =>
 vext x12 1 h fun x14 h =>
 vext x12 2 h fun x15 h =>
 vstore 4 x2 x13 h fun _ h =>
 vcell true 4 x2 h fun c0 => tcomp x14 fun c1 => tcomp x15 fun c2 => vfin true q [c0, c1, c2] h)
 (vcall O (.v (.c (.func 24 []))) [x7] h 18 fun x18 h =>
 vif x18 (
 R 1 [x0, x2, x7, x18] h)
 (vbin .eql 0 x7 (.v (.c (.p (.int .u8 45)))) h fun x20 h =>
 vguard x20 true (fun kk => kk x0 h) h fun x22 h =>
 vguard x20 true (fun kk => vlen O 0 x22 h 23 kk) h fun x23 h =>
 vguard x20 true (fun kk => vbin .gtr 0 x23 (kI 1) h kk) h fun x24 h =>
 vop O (.pick (.k x20) (.k x24) (.k (kB false))) h 25 fun x25 h =>
 vguard x25 true (fun kk => kk x0 h) h fun x27 h =>
 vguard x25 true (fun kk => vindex x27 (kI 1) h kk) h fun x28 h =>
 vguard x25 true (fun kk => vcall O (.v (.c (.func 24 []))) [x28] h 29 kk) h fun x29 h =>
 vop O (.pick (.k x25) (.k x29) (.k (kB false))) h 30 fun x30 h =>
 R 1 [x0, x2, x7, x30] h))
theorem e23_0 (O : Oracle) (R : Jump) (q : Nat) (x0 : TVal) (h : Heap) : b23_0 O R q x0 h = stepF c23 O R q 0 [x0] h := by kernel_rfl
noncomputable def b23_1 (O : Oracle) (R : Jump) (q : Nat) (x0 x2 x5 x16 : TVal) (h : Heap) : Res1 :=
 vif x16 (
 vcall O (.v (.c (.func 33 []))) [x0] h 32 fun x32 h =>
 vext x32 0 h fun x33 h =>
 vext x32 1 h fun x34 h =>
 vext x32 2 h fun x35 h =>
 vstore 4 x2 x33 h fun _ h =>
 vcell true 4 x2 h fun c0 => tcomp x34 fun c1 => tcomp x35 fun c2 => vfin true q [c0, c1, c2] h)
 (vbin .eql 0 x5 (.v (.c (.p (.int .u8 34)))) h fun x38 h =>
 vif x38 (
 vcall O (.v (.c (.func 34 []))) [x0] h 40 fun x40 h =>
 vext x40 0 h fun x41 h =>
 vext x40 1 h fun x42 h =>
 vext x40 2 h fun x43 h =>
 vstore 4 x2 x41 h fun _ h =>
 vcell true 4 x2 h fun c0 => tcomp x42 fun c1 => tcomp x43 fun c2 => vfin true q [c0, c1, c2] h)
 (vcall O (.v (.c (.func 35 []))) [x0] h 45 fun x45 h =>
 vext x45 0 h fun x46 h =>
 vext x45 1 h fun x47 h =>
 vext x45 2 h fun x48 h =>
 vstore 4 x2 x46 h fun _ h =>
 vcell true 4 x2 h fun c0 => tcomp x47 fun c1 => tcomp x48 fun c2 => vfin true q [c0, c1, c2] h))
theorem e23_1 (O : Oracle) (R : Jump) (q : Nat) (x0 x2 x5 x16 : TVal) (h : Heap) : b23_1 O R q x0 x2 x5 x16 h = stepF c23 O R q 1 [x0, x2, x5, x16] h := by kernel_rfl
noncomputable def d23 : BlkF := fun O R q => [.s fun y0 => .z fun h => b23_0 O R q y0 h, .s fun y0 => .s fun y1 => .s fun y2 => .s fun y3 => .z fun h => b23_1 O R q y0 y1 y2 y3 h]
theorem o23 (O : Oracle) (R : Jump) (q : Nat) : HoldsAll c23 O R q 0 (d23 O R q) := ⟨fun y0 h => e23_0 O R q y0 h, fun y0 y1 y2 y3 h => e23_1 O R q y0 y1 y2 y3 h, trivial⟩
/- sprue/scan.digit -/
def c24 : MFunc := { np := 1, res := [.t 2], frz := true, body := (.seq (.reg [(oA 2 (.mv (.k (.v (.c (.p (.bool false)))))))] []) (.seq (.reg [(oA 3 (.mv (.t 0))), (oA 4 (.bin .geq 0 (.t 3) (.k (.v (.c (.p (.int .u8 48))))))), (oA 5 (.mv (.t 4))), ⟨(some 6), (.mv (.t 0)), (some (5, true))⟩, ⟨(some 7), (.bin .leq 0 (.t 6) (.k (.v (.c (.p (.int .u8 57)))))), (some (5, true))⟩, (oA 8 (.pick (.t 5) (.t 7) (.k (.v (.c (.p (.bool false))))))), (oA 2 (.mv (.t 8)))] []) .ret)) }
theorem t24 : compF Tryd.prog (globs2 tabs opq) (fun _ => false) true Tryd.f24 = some c24.erase := by kernel_rfl
noncomputable def b24_0 (O : Oracle) (R : Jump) (q : Nat) (x0 : TVal) (h : Heap) : Res1 :=
 vbin .geq 0 x0 (.v (.c (.p (.int .u8 48)))) h fun x4 h =>
 vguard x4 true (fun kk => kk x0 h) h fun x6 h =>
 vguard x4 true (fun kk => vbin .leq 0 x6 (.v (.c (.p (.int .u8 57)))) h kk) h fun x7 h =>
 vop O (.pick (.k x4) (.k x7) (.k (kB false))) h 8 fun x8 h =>
 tcomp x8 fun c0 => vfin true q [c0] h
theorem e24_0 (O : Oracle) (R : Jump) (q : Nat) (x0 : TVal) (h : Heap) : b24_0 O R q x0 h = stepF c24 O R q 0 [x0] h := by kernel_rfl
noncomputable def d24 : BlkF := fun O R q => [.s fun y0 => .z fun h => b24_0 O R q y0 h]
theorem o24 (O : Oracle) (R : Jump) (q : Nat) : HoldsAll c24 O R q 0 (d24 O R q) := ⟨fun y0 h => e24_0 O R q y0 h, trivial⟩
/- sprue/scan.row -/
def c25 : MFunc := { np := 1, res := [.t 2], frz := true, body := (.seq (.reg [(oA 2 (.mv (.k (.v (.c (.p (.int .i64 0)))))))] []) (.seq (.reg [(oA 3 (.mv (.t 0))), (oA 4 (.call (.k (.v (.c (.func 36 [])))) [(.t 3), (.k (.v (.c (.func 37 []))))])), (oA 2 (.mv (.t 4)))] []) .ret)) }
theorem t25 : compF Tryd.prog (globs2 tabs opq) (fun _ => false) true Tryd.f25 = some c25.erase := by kernel_rfl
noncomputable def b25_0 (O : Oracle) (R : Jump) (q : Nat) (x0 : TVal) (h : Heap) : Res1 :=
 vcall O (.v (.c (.func 36 []))) [x0, (.v (.c (.func 37 [])))] h 4 fun x4 h =>
 tcomp x4 fun c0 => vfin true q [c0] h
theorem e25_0 (O : Oracle) (R : Jump) (q : Nat) (x0 : TVal) (h : Heap) : b25_0 O R q x0 h = stepF c25 O R q 0 [x0] h := by kernel_rfl
noncomputable def d25 : BlkF := fun O R q => [.s fun y0 => .z fun h => b25_0 O R q y0 h]
theorem o25 (O : Oracle) (R : Jump) (q : Nat) : HoldsAll c25 O R q 0 (d25 O R q) := ⟨fun y0 h => e25_0 O R q y0 h, trivial⟩
/- sprue/sprueref1.letter -/
def c26 : MFunc := { np := 1, res := [.t 2], frz := true, body := (.seq (.reg [(oA 2 (.mv (.k (.v (.c (.p (.bool false)))))))] []) (.seq (.reg [(oA 3 (.mv (.t 0))), (oA 4 (.bin .geq 0 (.t 3) (.k (.v (.c (.p (.int .u8 97))))))), (oA 5 (.mv (.t 4))), ⟨(some 6), (.mv (.t 0)), (some (5, true))⟩, ⟨(some 7), (.bin .leq 0 (.t 6) (.k (.v (.c (.p (.int .u8 122)))))), (some (5, true))⟩, (oA 8 (.pick (.t 5) (.t 7) (.k (.v (.c (.p (.bool false))))))), (oA 9 (.mv (.t 8))), ⟨(some 10), (.mv (.t 0)), (some (9, false))⟩, ⟨(some 11), (.bin .geq 0 (.t 10) (.k (.v (.c (.p (.int .u8 65)))))), (some (9, false))⟩, ⟨(some 12), (.mv (.t 11)), (some (9, false))⟩, ⟨(some 13), (.mv (.t 0)), (some (12, true))⟩, ⟨(some 14), (.bin .leq 0 (.t 13) (.k (.v (.c (.p (.int .u8 90)))))), (some (12, true))⟩, ⟨(some 15), (.pick (.t 12) (.t 14) (.k (.v (.c (.p (.bool false)))))), (some (9, false))⟩, (oA 16 (.pick (.t 9) (.k (.v (.c (.p (.bool true))))) (.t 15))), (oA 17 (.mv (.t 16))), ⟨(some 18), (.mv (.t 0)), (some (17, false))⟩, ⟨(some 19), (.bin .eql 0 (.t 18) (.k (.v (.c (.p (.int .u8 95)))))), (some (17, false))⟩, (oA 20 (.pick (.t 17) (.k (.v (.c (.p (.bool true))))) (.t 19))), (oA 2 (.mv (.t 20)))] []) .ret)) }
theorem t26 : compF Tryd.prog (globs2 tabs opq) (fun _ => false) true Tryd.f26 = some c26.erase := by kernel_rfl
noncomputable def b26_0 (O : Oracle) (R : Jump) (q : Nat) (x0 : TVal) (h : Heap) : Res1 :=
 vbin .geq 0 x0 (.v (.c (.p (.int .u8 97)))) h fun x4 h =>
 vguard x4 true (fun kk => kk x0 h) h fun x6 h =>
 vguard x4 true (fun kk => vbin .leq 0 x6 (.v (.c (.p (.int .u8 122)))) h kk) h fun x7 h =>
 vop O (.pick (.k x4) (.k x7) (.k (kB false))) h 8 fun x8 h =>
 vguard x8 false (fun kk => kk x0 h) h fun x10 h =>
 vguard x8 false (fun kk => vbin .geq 0 x10 (.v (.c (.p (.int .u8 65)))) h kk) h fun x11 h =>
 vguard x8 false (fun kk => kk x11 h) h fun x12 h =>
 vguard x12 true (fun kk => kk x0 h) h fun x13 h =>
 vguard x12 true (fun kk => vbin .leq 0 x13 (.v (.c (.p (.int .u8 90)))) h kk) h fun x14 h =>
 vguard x8 false (fun kk => vop O (.pick (.k x12) (.k x14) (.k (kB false))) h 15 kk) h fun x15 h =>
 vop O (.pick (.k x8) (.k (kB true)) (.k x15)) h 16 fun x16 h =>
 vguard x16 false (fun kk => kk x0 h) h fun x18 h =>
 vguard x16 false (fun kk => vbin .eql 0 x18 (.v (.c (.p (.int .u8 95)))) h kk) h fun x19 h =>
 vop O (.pick (.k x16) (.k (kB true)) (.k x19)) h 20 fun x20 h =>
 tcomp x20 fun c0 => vfin true q [c0] h
theorem e26_0 (O : Oracle) (R : Jump) (q : Nat) (x0 : TVal) (h : Heap) : b26_0 O R q x0 h = stepF c26 O R q 0 [x0] h := by kernel_rfl
noncomputable def d26 : BlkF := fun O R q => [.s fun y0 => .z fun h => b26_0 O R q y0 h]
theorem o26 (O : Oracle) (R : Jump) (q : Nat) : HoldsAll c26 O R q 0 (d26 O R q) := ⟨fun y0 h => e26_0 O R q y0 h, trivial⟩
/- sprue/sprueref1.digit -/
def c27 : MFunc := { np := 1, res := [.t 2], frz := true, body := (.seq (.reg [(oA 2 (.mv (.k (.v (.c (.p (.bool false)))))))] []) (.seq (.reg [(oA 3 (.mv (.t 0))), (oA 4 (.bin .geq 0 (.t 3) (.k (.v (.c (.p (.int .u8 48))))))), (oA 5 (.mv (.t 4))), ⟨(some 6), (.mv (.t 0)), (some (5, true))⟩, ⟨(some 7), (.bin .leq 0 (.t 6) (.k (.v (.c (.p (.int .u8 57)))))), (some (5, true))⟩, (oA 8 (.pick (.t 5) (.t 7) (.k (.v (.c (.p (.bool false))))))), (oA 2 (.mv (.t 8)))] []) .ret)) }
theorem t27 : compF Tryd.prog (globs2 tabs opq) (fun _ => false) true Tryd.f27 = some c27.erase := by kernel_rfl
noncomputable def b27_0 (O : Oracle) (R : Jump) (q : Nat) (x0 : TVal) (h : Heap) : Res1 :=
 vbin .geq 0 x0 (.v (.c (.p (.int .u8 48)))) h fun x4 h =>
 vguard x4 true (fun kk => kk x0 h) h fun x6 h =>
 vguard x4 true (fun kk => vbin .leq 0 x6 (.v (.c (.p (.int .u8 57)))) h kk) h fun x7 h =>
 vop O (.pick (.k x4) (.k x7) (.k (kB false))) h 8 fun x8 h =>
 tcomp x8 fun c0 => vfin true q [c0] h
theorem e27_0 (O : Oracle) (R : Jump) (q : Nat) (x0 : TVal) (h : Heap) : b27_0 O R q x0 h = stepF c27 O R q 0 [x0] h := by kernel_rfl
noncomputable def d27 : BlkF := fun O R q => [.s fun y0 => .z fun h => b27_0 O R q y0 h]
theorem o27 (O : Oracle) (R : Jump) (q : Nat) : HoldsAll c27 O R q 0 (d27 O R q) := ⟨fun y0 h => e27_0 O R q y0 h, trivial⟩
/- sprue/sprueref1.Number -/
def c28 : MFunc := { np := 1, res := [.t 2, .t 3], frz := true, body := (.seq (.reg [(oA 2 (.mv (.k (.v (.c (.p (.int .i64 0))))))), (oA 3 (.mv (.k (.v (.c (.p (.int .i64 0)))))))] []) (.seq (.reg [(oA 7 (.mv (.t 0))), (oA 4 (.mv (.t 7)))] []) (.seq (.seq (.reg [(oA 8 (.mv (.t 0))), (oA 9 (.index (.t 8) (.k (.v (.c (.p (.int .i64 0))))))), (oA 10 (.bin .eql 0 (.t 9) (.k (.v (.c (.p (.int .u8 45)))))))] []) (.cond (.t 10) (.reg [(oA 11 (.mv (.t 0))), (oA 12 (.slice 0 true (.t 11) (some (.k (.v (.c (.p (.int .i64 1)))))) none none)), (oA 4 (.mv (.t 12)))] []) .skip)) (.mark 1 [0, 4] (.seq (.seq (.reg [(oA 13 (.mv (.t 4))), (oA 14 (.len 0 (.t 13))), (oA 15 (.bin .gtr 0 (.t 14) (.k (.v (.c (.p (.int .i64 19)))))))] []) (.cond (.t 15) (.seq (.reg [(oA 2 (.mv (.k (.v (.c (.p (.int .i64 0))))))), (oA 3 (.mv (.k (.v (.c (.p (.int .i64 4)))))))] []) .ret) .skip)) (.seq (.reg [(oA 5 (.mv (.k (.v (.c (.p (.int .u64 0)))))))] []) (.seq (.seq (.reg [(oA 6 (.mv (.k (.v (.c (.p (.int .i64 0)))))))] []) (.block 0 (.loop 2 [0, 4, 5, 6] (.seq (.seq (.reg [(oA 16 (.mv (.t 6))), (oA 17 (.mv (.t 4))), (oA 18 (.len 0 (.t 17))), (oA 19 (.bin .lss 0 (.t 16) (.t 18)))] []) (.cond (.t 19) .skip (.exit 0))) (.seq (.block 1 (.reg [(oA 22 (.mv (.t 5))), (oA 23 (.bin .mul 0 (.t 22) (.k (.v (.c (.p (.int .u64 10))))))), (oA 24 (.mv (.t 4))), (oA 25 (.mv (.t 6))), (oA 26 (.index (.t 24) (.t 25))), (oA 27 (.bin .sub 0 (.t 26) (.k (.v (.c (.p (.int .u8 48))))))), (oA 28 (.toInt .u64 (.t 27))), (oA 29 (.bin .add 0 (.t 23) (.t 28))), (oA 5 (.mv (.t 29)))] [])) (.reg [(oA 20 (.mv (.t 6))), (oA 21 (.bin .add 0 (.t 20) (.k (.v (.c (.p (.int .i64 1))))))), (oA 6 (.mv (.t 21)))] [])))))) (.mark 3 [0, 5] (.seq (.seq (.reg [(oA 30 (.mv (.t 0))), (oA 31 (.index (.t 30) (.k (.v (.c (.p (.int .i64 0))))))), (oA 32 (.bin .eql 0 (.t 31) (.k (.v (.c (.p (.int .u8 45)))))))] []) (.cond (.t 32) (.seq (.seq (.reg [(oA 33 (.mv (.t 5))), (oA 34 (.bin .gtr 0 (.t 33) (.k (.v (.c (.p (.int .u64 9223372036854775808)))))))] []) (.cond (.t 34) (.seq (.reg [(oA 2 (.mv (.k (.v (.c (.p (.int .i64 0))))))), (oA 3 (.mv (.k (.v (.c (.p (.int .i64 11)))))))] []) .ret) .skip)) (.seq (.reg [(oA 35 (.mv (.t 5))), (oA 36 (.un .neg (.t 35))), (oA 37 (.toInt .i64 (.t 36))), (oA 2 (.mv (.t 37))), (oA 3 (.mv (.k (.v (.c (.p (.int .i64 0)))))))] []) .ret)) .skip)) (.seq (.seq (.reg [(oA 38 (.mv (.t 5))), (oA 39 (.bin .gtr 0 (.t 38) (.k (.v (.c (.p (.int .u64 9223372036854775807)))))))] []) (.cond (.t 39) (.seq (.reg [(oA 2 (.mv (.k (.v (.c (.p (.int .i64 0))))))), (oA 3 (.mv (.k (.v (.c (.p (.int .i64 11)))))))] []) .ret) .skip)) (.seq (.reg [(oA 40 (.mv (.t 5))), (oA 41 (.toInt .i64 (.t 40))), (oA 2 (.mv (.t 41))), (oA 3 (.mv (.k (.v (.c (.p (.int .i64 0)))))))] []) .ret))))))))))) }
theorem t28 : compF Tryd.prog (globs2 tabs opq) (fun _ => false) true Tryd.f28 = some c28.erase := by kernel_rfl
noncomputable def b28_0 (O : Oracle) (R : Jump) (q : Nat) (x0 : TVal) (h : Heap) : Res1 :=
 vindex x0 (kI 0) h fun x9 h =>
 vbin .eql 0 x9 (.v (.c (.p (.int .u8 45)))) h fun x10 h =>
 vif x10 (
 vop O (.slice 0 true (.k x0) (some (.k (kI 1))) none none) h 12 fun x12 h =>
 R 1 [x0, x12] h)
 (R 1 [x0, x0] h)
theorem e28_0 (O : Oracle) (R : Jump) (q : Nat) (x0 : TVal) (h : Heap) : b28_0 O R q x0 h = stepF c28 O R q 0 [x0] h := by kernel_rfl
noncomputable def b28_1 (O : Oracle) (R : Jump) (q : Nat) (x0 x4 : TVal) (h : Heap) : Res1 :=
 vlen O 0 x4 h 14 fun x14 h =>
 vbin .gtr 0 x14 (kI 19) h fun x15 h =>
 vif x15 (
 tcomp (kI 0) fun c0 => tcomp (kI 4) fun c1 => vfin true q [c0, c1] h)
 (R 2 [x0, x4, (.v (.c (.p (.int .u64 0)))), (kI 0)] h)
theorem e28_1 (O : Oracle) (R : Jump) (q : Nat) (x0 x4 : TVal) (h : Heap) : b28_1 O R q x0 x4 h = stepF c28 O R q 1 [x0, x4] h := by kernel_rfl
noncomputable def b28_2 (O : Oracle) (R : Jump) (q : Nat) (x0 x4 x5 x6 : TVal) (h : Heap) : Res1 :=
 vlen O 0 x4 h 18 fun x18 h =>
 vbin .lss 0 x6 x18 h fun x19 h =>
 vif x19 (
 vbin .mul 0 x5 (.v (.c (.p (.int .u64 10)))) h fun x23 h =>
 vindex x4 x6 h fun x26 h =>
 vbin .sub 0 x26 (.v (.c (.p (.int .u8 48)))) h fun x27 h =>
 vtoInt .u64 x27 h fun x28 h =>
 vbin .add 0 x23 x28 h fun x29 h =>
 vbin .add 0 x6 (kI 1) h fun x21 h =>
 R 2 [x0, x4, x29, x21] h)
 (R 3 [x0, x5] h)
theorem e28_2 (O : Oracle) (R : Jump) (q : Nat) (x0 x4 x5 x6 : TVal) (h : Heap) : b28_2 O R q x0 x4 x5 x6 h = stepF c28 O R q 2 [x0, x4, x5, x6] h := by kernel_rfl
noncomputable def b28_3 (O : Oracle) (R : Jump) (q : Nat) (x0 x5 : TVal) (h : Heap) : Res1 :=
 vindex x0 (kI 0) h fun x31 h =>
 vbin .eql 0 x31 (.v (.c (.p (.int .u8 45)))) h fun x32 h =>
 vif x32 (
 vbin .gtr 0 x5 (.v (.c (.p (.int .u64 9223372036854775808)))) h fun x34 h =>
 vif x34 (
 tcomp (kI 0) fun c0 => tcomp (kI 11) fun c1 => vfin true q [c0, c1] h)
 (vop O (.un .neg (.k x5)) h 36 fun x36 h =>
 vtoInt .i64 x36 h fun x37 h =>
 tcomp x37 fun c0 => tcomp (kI 0) fun c1 => vfin true q [c0, c1] h))
 (vbin .gtr 0 x5 (.v (.c (.p (.int .u64 9223372036854775807)))) h fun x39 h =>
 vif x39 (
 tcomp (kI 0) fun c0 => tcomp (kI 11) fun c1 => vfin true q [c0, c1] h)
 (vtoInt .i64 x5 h fun x41 h =>
 tcomp x41 fun c0 => tcomp (kI 0) fun c1 => vfin true q [c0, c1] h))
theorem e28_3 (O : Oracle) (R : Jump) (q : Nat) (x0 x5 : TVal) (h : Heap) : b28_3 O R q x0 x5 h = stepF c28 O R q 3 [x0, x5] h := by kernel_rfl
noncomputable def d28 : BlkF := fun O R q => [.s fun y0 => .z fun h => b28_0 O R q y0 h, .s fun y0 => .s fun y1 => .z fun h => b28_1 O R q y0 y1 h, .s fun y0 => .s fun y1 => .s fun y2 => .s fun y3 => .z fun h => b28_2 O R q y0 y1 y2 y3 h, .s fun y0 => .s fun y1 => .z fun h => b28_3 O R q y0 y1 h]
theorem o28 (O : Oracle) (R : Jump) (q : Nat) : HoldsAll c28 O R q 0 (d28 O R q) := ⟨fun y0 h => e28_0 O R q y0 h, fun y0 y1 h => e28_1 O R q y0 y1 h, fun y0 y1 y2 y3 h => e28_2 O R q y0 y1 y2 y3 h, fun y0 y1 h => e28_3 O R q y0 y1 h, trivial⟩
/- sprue/sprueref1.Quoted -/
def c29 : MFunc := { np := 2, res := [.t 4, .t 5], frz := true, body := (.seq (.reg [(oA 4 (.mv (.k (.v (.c (.p (.str []))))))), (oA 5 (.mv (.k (.v (.c (.p (.int .i64 0)))))))] []) (.seq (.reg [(oA 6 (.mv (.k (.v (.c (.p (.str [])))))))] []) (.seq (.reg [(oA 8 (.mv (.t 1))), (oA 9 (.bin .add 0 (.t 8) (.k (.v (.c (.p (.int .i64 1))))))), (oA 1 (.mv (.t 9)))] []) (.seq (.block 0 (.loop 1 [0, 1, 6] (.seq (.seq (.reg [(oA 10 (.mv (.t 1))), (oA 11 (.mv (.t 0))), (oA 12 (.len 0 (.t 11))), (oA 13 (.bin .lss 0 (.t 10) (.t 12)))] []) (.cond (.t 13) .skip (.exit 0))) (.block 1 (.seq (.reg [(oA 14 (.mv (.t 0))), (oA 15 (.mv (.t 1))), (oA 16 (.index (.t 14) (.t 15))), (oA 7 (.mv (.t 16)))] []) (.seq (.block 2 (.seq (.reg [(oA 18 (.mv (.t 7))), (oA 19 (.bin .eql 0 (.t 18) (.k (.v (.c (.p (.int .u8 34))))))), (oA 17 (.mv (.t 19)))] []) (.cond (.t 17) (.seq (.reg [(oA 20 (.mv (.t 6))), (oA 21 (.mv (.t 1))), (oA 22 (.bin .add 0 (.t 21) (.k (.v (.c (.p (.int .i64 1))))))), (oA 4 (.mv (.t 20))), (oA 5 (.mv (.t 22)))] []) .ret) (.seq (.reg [(oA 24 (.mv (.t 7))), (oA 25 (.bin .lss 0 (.t 24) (.k (.v (.c (.p (.int .u8 32))))))), (oA 23 (.mv (.t 25)))] []) (.cond (.t 23) (.seq (.reg [(oA 4 (.mv (.k (.v (.c (.p (.str []))))))), (oA 5 (.mv (.k (.v (.c (.p (.int .i64 (-1))))))))] []) .ret) (.seq (.reg [(oA 27 (.mv (.t 7))), (oA 28 (.bin .neq 0 (.t 27) (.k (.v (.c (.p (.int .u8 92))))))), (oA 26 (.mv (.t 28)))] []) (.cond (.t 26) (.seq (.reg [(oA 29 (.mv (.t 6))), (oA 30 (.mv (.t 0))), (oA 31 (.mv (.t 1))), (oA 32 (.mv (.t 1))), (oA 33 (.bin .add 0 (.t 32) (.k (.v (.c (.p (.int .i64 1))))))), (oA 34 (.slice 0 true (.t 30) (some (.t 31)) (some (.t 33)) none)), (oA 35 (.bin .add 0 (.t 29) (.t 34))), (oA 6 (.mv (.t 35)))] []) (.seq (.reg [(oA 36 (.mv (.t 1))), (oA 37 (.bin .add 0 (.t 36) (.k (.v (.c (.p (.int .i64 1))))))), (oA 1 (.mv (.t 37)))] []) (.exit 1))) .skip))))))) (.seq (.seq (.reg [(oA 38 (.mv (.t 1))), (oA 39 (.bin .add 0 (.t 38) (.k (.v (.c (.p (.int .i64 1))))))), (oA 40 (.mv (.t 0))), (oA 41 (.len 0 (.t 40))), (oA 42 (.bin .geq 0 (.t 39) (.t 41)))] []) (.cond (.t 42) (.seq (.reg [(oA 4 (.mv (.k (.v (.c (.p (.str []))))))), (oA 5 (.mv (.k (.v (.c (.p (.int .i64 (-1))))))))] []) .ret) .skip)) (.seq (.seq (.reg [(oA 43 (.mv (.t 0))), (oA 44 (.mv (.t 1))), (oA 45 (.bin .add 0 (.t 44) (.k (.v (.c (.p (.int .i64 1))))))), (oA 46 (.index (.t 43) (.t 45)))] []) (.block 3 (.seq (.seq (.reg [(oA 48 (.bin .eql 0 (.t 46) (.k (.v (.c (.p (.int .u8 92))))))), (oA 47 (.mv (.t 48)))] []) (.cond (.t 47) .skip (.reg [(oA 49 (.bin .eql 0 (.t 46) (.k (.v (.c (.p (.int .u8 34))))))), (oA 47 (.mv (.t 49)))] []))) (.mark 2 [0, 1, 6, 46, 47] (.cond (.t 47) (.reg [(oA 50 (.mv (.t 6))), (oA 51 (.mv (.t 0))), (oA 52 (.mv (.t 1))), (oA 53 (.bin .add 0 (.t 52) (.k (.v (.c (.p (.int .i64 1))))))), (oA 54 (.mv (.t 1))), (oA 55 (.bin .add 0 (.t 54) (.k (.v (.c (.p (.int .i64 2))))))), (oA 56 (.slice 0 true (.t 51) (some (.t 53)) (some (.t 55)) none)), (oA 57 (.bin .add 0 (.t 50) (.t 56))), (oA 6 (.mv (.t 57)))] []) (.seq (.reg [(oA 59 (.bin .eql 0 (.t 46) (.k (.v (.c (.p (.int .u8 110))))))), (oA 58 (.mv (.t 59)))] []) (.cond (.t 58) (.reg [(oA 60 (.mv (.t 6))), (oA 61 (.bin .add 0 (.t 60) (.k (.v (.c (.p (.str [10]))))))), (oA 6 (.mv (.t 61)))] []) (.seq (.reg [(oA 63 (.bin .eql 0 (.t 46) (.k (.v (.c (.p (.int .u8 116))))))), (oA 62 (.mv (.t 63)))] []) (.cond (.t 62) (.reg [(oA 64 (.mv (.t 6))), (oA 65 (.bin .add 0 (.t 64) (.k (.v (.c (.p (.str [9]))))))), (oA 6 (.mv (.t 65)))] []) (.seq (.reg [(oA 4 (.mv (.k (.v (.c (.p (.str []))))))), (oA 5 (.mv (.k (.v (.c (.p (.int .i64 (-1))))))))] []) .ret)))))))))) (.mark 3 [0, 1, 6] (.reg [(oA 66 (.mv (.t 1))), (oA 67 (.bin .add 0 (.t 66) (.k (.v (.c (.p (.int .i64 2))))))), (oA 1 (.mv (.t 67)))] [])))))))))) (.seq (.reg [(oA 4 (.mv (.k (.v (.c (.p (.str []))))))), (oA 5 (.mv (.k (.v (.c (.p (.int .i64 (-1))))))))] []) .ret))))) }
theorem t29 : compF Tryd.prog (globs2 tabs opq) (fun _ => false) true Tryd.f29 = some c29.erase := by kernel_rfl
noncomputable def b29_0 (O : Oracle) (R : Jump) (q : Nat) (x0 x1 : TVal) (h : Heap) : Res1 :=
 vbin .add 0 x1 (kI 1) h fun x9 h =>
 R 1 [x0, x9, (kS [])] h
theorem e29_0 (O : Oracle) (R : Jump) (q : Nat) (x0 x1 : TVal) (h : Heap) : b29_0 O R q x0 x1 h = stepF c29 O R q 0 [x0, x1] h := by kernel_rfl
noncomputable def b29_1 (O : Oracle) (R : Jump) (q : Nat) (x0 x1 x6 : TVal) (h : Heap) : Res1 :=
 vlen O 0 x0 h 12 fun x12 h =>
 vbin .lss 0 x1 x12 h fun x13 h =>
 vif x13 (
 vindex x0 x1 h fun x16 h =>
 vbin .eql 0 x16 (.v (.c (.p (.int .u8 34)))) h fun x19 h =>
 vif x19 (
 vbin .add 0 x1 (kI 1) h fun x22 h =>
 tcomp x6 fun c0 => tcomp x22 fun c1 => vfin true q [c0, c1] h)
 (vbin .lss 0 x16 (.v (.c (.p (.int .u8 32)))) h fun x25 h =>
 vif x25 (
 tcomp (kS []) fun c0 => tcomp (kI (-1)) fun c1 => vfin true q [c0, c1] h)
 (vbin .neq 0 x16 (.v (.c (.p (.int .u8 92)))) h fun x28 h =>
 vif x28 (
 vbin .add 0 x1 (kI 1) h fun x33 h =>
 vop O (.slice 0 true (.k x0) (some (.k x1)) (some (.k x33)) none) h 34 fun x34 h =>
 vbin .add 0 x6 x34 h fun x35 h =>
 vbin .add 0 x1 (kI 1) h fun x37 h =>
 R 1 [x0, x37, x35] h)
 (vbin .add 0 x1 (kI 1) h fun x39 h =>
 vlen O 0 x0 h 41 fun x41 h =>
 vbin .geq 0 x39 x41 h fun x42 h =>
 vif x42 (
 tcomp (kS []) fun c0 => tcomp (kI (-1)) fun c1 => vfin true q [c0, c1] h)
 (vbin .add 0 x1 (kI 1) h fun x45 h =>
 vindex x0 x45 h fun x46 h =>
 vbin .eql 0 x46 (.v (.c (.p (.int .u8 92)))) h fun x48 h =>
 vif x48 (
 R 2 [x0, x1, x6, x46, x48] h)
 (vbin .eql 0 x46 (.v (.c (.p (.int .u8 34)))) h fun x49 h =>
 R 2 [x0, x1, x6, x46, x49] h))))))
 (tcomp (kS []) fun c0 => tcomp (kI (-1)) fun c1 => vfin true q [c0, c1] h)
theorem e29_1 (O : Oracle) (R : Jump) (q : Nat) (x0 x1 x6 : TVal) (h : Heap) : b29_1 O R q x0 x1 x6 h = stepF c29 O R q 1 [x0, x1, x6] h := by kernel_rfl
noncomputable def b29_2 (O : Oracle) (R : Jump) (q : Nat) (x0 x1 x6 x46 x47 : TVal) (h : Heap) : Res1 :=
 vif x47 (
 vbin .add 0 x1 (kI 1) h fun x53 h =>
 vbin .add 0 x1 (kI 2) h fun x55 h =>
 vop O (.slice 0 true (.k x0) (some (.k x53)) (some (.k x55)) none) h 56 fun x56 h =>
 vbin .add 0 x6 x56 h fun x57 h =>
 R 3 [x0, x1, x57] h)
 (vbin .eql 0 x46 (.v (.c (.p (.int .u8 110)))) h fun x59 h =>
 vif x59 (
 vbin .add 0 x6 (kS [10]) h fun x61 h =>
 R 3 [x0, x1, x61] h)
 (vbin .eql 0 x46 (.v (.c (.p (.int .u8 116)))) h fun x63 h =>
 vif x63 (
 vbin .add 0 x6 (kS [9]) h fun x65 h =>
 R 3 [x0, x1, x65] h)
 (tcomp (kS []) fun c0 => tcomp (kI (-1)) fun c1 => vfin true q [c0, c1] h)))
theorem e29_2 (O : Oracle) (R : Jump) (q : Nat) (x0 x1 x6 x46 x47 : TVal) (h : Heap) : b29_2 O R q x0 x1 x6 x46 x47 h = stepF c29 O R q 2 [x0, x1, x6, x46, x47] h := by kernel_rfl
noncomputable def b29_3 (O : Oracle) (R : Jump) (q : Nat) (x0 x1 x6 : TVal) (h : Heap) : Res1 :=
 vbin .add 0 x1 (kI 2) h fun x67 h =>
 R 1 [x0, x67, x6] h
theorem e29_3 (O : Oracle) (R : Jump) (q : Nat) (x0 x1 x6 : TVal) (h : Heap) : b29_3 O R q x0 x1 x6 h = stepF c29 O R q 3 [x0, x1, x6] h := by kernel_rfl
noncomputable def d29 : BlkF := fun O R q => [.s fun y0 => .s fun y1 => .z fun h => b29_0 O R q y0 y1 h, .s fun y0 => .s fun y1 => .s fun y2 => .z fun h => b29_1 O R q y0 y1 y2 h, .s fun y0 => .s fun y1 => .s fun y2 => .s fun y3 => .s fun y4 => .z fun h => b29_2 O R q y0 y1 y2 y3 y4 h, .s fun y0 => .s fun y1 => .s fun y2 => .z fun h => b29_3 O R q y0 y1 y2 h]
theorem o29 (O : Oracle) (R : Jump) (q : Nat) : HoldsAll c29 O R q 0 (d29 O R q) := ⟨fun y0 y1 h => e29_0 O R q y0 y1 h, fun y0 y1 y2 h => e29_1 O R q y0 y1 y2 h, fun y0 y1 y2 y3 y4 h => e29_2 O R q y0 y1 y2 y3 y4 h, fun y0 y1 y2 h => e29_3 O R q y0 y1 y2 h, trivial⟩
/- strings.Index -/
def c30 : MFunc := { np := 2, res := [.t 4], frz := true, body := (.seq (.reg [(oA 4 (.mv (.k (.v (.c (.p (.int .i64 0)))))))] []) (.seq (.reg [(oA 5 (.mv (.t 0))), (oA 6 (.mv (.t 1))), (oA 7 (.call (.k (.v (.c (.func 38 [])))) [(.t 5), (.t 6)])), (oA 4 (.mv (.t 7)))] []) .ret)) }
theorem t30 : compF Tryd.prog (globs2 tabs opq) (fun _ => false) true Tryd.f30 = some c30.erase := by kernel_rfl
noncomputable def b30_0 (O : Oracle) (R : Jump) (q : Nat) (x0 x1 : TVal) (h : Heap) : Res1 :=
 vcall O (.v (.c (.func 38 []))) [x0, x1] h 7 fun x7 h =>
 tcomp x7 fun c0 => vfin true q [c0] h
theorem e30_0 (O : Oracle) (R : Jump) (q : Nat) (x0 x1 : TVal) (h : Heap) : b30_0 O R q x0 x1 h = stepF c30 O R q 0 [x0, x1] h := by kernel_rfl
noncomputable def d30 : BlkF := fun O R q => [.s fun y0 => .s fun y1 => .z fun h => b30_0 O R q y0 y1 h]
theorem o30 (O : Oracle) (R : Jump) (q : Nat) : HoldsAll c30 O R q 0 (d30 O R q) := ⟨fun y0 y1 h => e30_0 O R q y0 y1 h, trivial⟩
/- sprue/scan.letter -/
def c31 : MFunc := { np := 1, res := [.t 2], frz := true, body := (.seq (.reg [(oA 2 (.mv (.k (.v (.c (.p (.bool false)))))))] []) (.seq (.reg [(oA 3 (.mv (.t 0))), (oA 4 (.bin .eql 0 (.t 3) (.k (.v (.c (.p (.int .u8 95))))))), (oA 5 (.mv (.t 4))), ⟨(some 6), (.mv (.t 0)), (some (5, false))⟩, ⟨(some 7), (.bin .or 0 (.t 6) (.k (.v (.c (.p (.int .u8 32)))))), (some (5, false))⟩, ⟨(some 8), (.bin .geq 0 (.t 7) (.k (.v (.c (.p (.int .u8 97)))))), (some (5, false))⟩, ⟨(some 9), (.mv (.t 8)), (some (5, false))⟩, ⟨(some 10), (.mv (.t 0)), (some (9, true))⟩, ⟨(some 11), (.bin .or 0 (.t 10) (.k (.v (.c (.p (.int .u8 32)))))), (some (9, true))⟩, ⟨(some 12), (.bin .leq 0 (.t 11) (.k (.v (.c (.p (.int .u8 122)))))), (some (9, true))⟩, ⟨(some 13), (.pick (.t 9) (.t 12) (.k (.v (.c (.p (.bool false)))))), (some (5, false))⟩, (oA 14 (.pick (.t 5) (.k (.v (.c (.p (.bool true))))) (.t 13))), (oA 2 (.mv (.t 14)))] []) .ret)) }
theorem t31 : compF Tryd.prog (globs2 tabs opq) (fun _ => false) true Tryd.f31 = some c31.erase := by kernel_rfl
noncomputable def b31_0 (O : Oracle) (R : Jump) (q : Nat) (x0 : TVal) (h : Heap) : Res1 :=
 vbin .eql 0 x0 (.v (.c (.p (.int .u8 95)))) h fun x4 h =>
 vguard x4 false (fun kk => kk x0 h) h fun x6 h =>
 vguard x4 false (fun kk => vbin .or 0 x6 (.v (.c (.p (.int .u8 32)))) h kk) h fun x7 h =>
 vguard x4 false (fun kk => vbin .geq 0 x7 (.v (.c (.p (.int .u8 97)))) h kk) h fun x8 h =>
 vguard x4 false (fun kk => kk x8 h) h fun x9 h =>
 vguard x9 true (fun kk => kk x0 h) h fun x10 h =>
 vguard x9 true (fun kk => vbin .or 0 x10 (.v (.c (.p (.int .u8 32)))) h kk) h fun x11 h =>
 vguard x9 true (fun kk => vbin .leq 0 x11 (.v (.c (.p (.int .u8 122)))) h kk) h fun x12 h =>
 vguard x4 false (fun kk => vop O (.pick (.k x9) (.k x12) (.k (kB false))) h 13 kk) h fun x13 h =>
 vop O (.pick (.k x4) (.k (kB true)) (.k x13)) h 14 fun x14 h =>
 tcomp x14 fun c0 => vfin true q [c0] h
theorem e31_0 (O : Oracle) (R : Jump) (q : Nat) (x0 : TVal) (h : Heap) : b31_0 O R q x0 h = stepF c31 O R q 0 [x0] h := by kernel_rfl
noncomputable def d31 : BlkF := fun O R q => [.s fun y0 => .z fun h => b31_0 O R q y0 h]
theorem o31 (O : Oracle) (R : Jump) (q : Nat) : HoldsAll c31 O R q 0 (d31 O R q) := ⟨fun y0 h => e31_0 O R q y0 h, trivial⟩
end Go.Proofs.YtljhpmggifjigaaDoor.Ab
