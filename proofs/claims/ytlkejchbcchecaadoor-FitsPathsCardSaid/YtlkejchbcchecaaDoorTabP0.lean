/- Functions of the given program as the abstract interpreter has them (part 0), printed by a program of our own; each is shown to be what 'compF' makes of the given program's. No condition. -/
import Derived.Test.YtlkejchbcchecaaDoorChecked
import Derived.Test.YtlkejchbcchecaaDoorAd
namespace Go.Proofs.YtlkejchbcchecaaDoor.Ab
open Go Go.AI
set_option linter.all false
set_option linter.unusedVariables false
set_option maxRecDepth 100000
def tabs : List Tabl := []
def opq : Option Nat := some 0
/- sprue/spruelaw14.FitsPaths -/
def c3 : MFunc := { np := 1, res := [.t 2], frz := true, body := (.seq (.reg [(oA 2 (.mv (.k (.v (.c (.p (.bool false)))))))] []) (.seq (.seq (.reg [(oA 13 (.call (.k (.v (.c (.func 13 [])))) [])), (oA 14 (.un .not (.t 13)))] []) (.cond (.t 14) (.seq (.reg [(oA 2 (.mv (.k (.v (.c (.p (.bool false)))))))] []) .ret) .skip)) (.seq (.reg [(oA 15 (.build [(.p (.int .i64 0)), (.p (.str [])), (.p .nilslice), (.p .nilslice)] [(0, 1, (.k (.v (.c (.p (.int .i64 2))))))])), (oA 16 (.build [(.p (.int .i64 0)), (.p (.bool false)), (.p (.int .i64 0)), (.p (.str [])), (.p .nilslice), (.p .nilslice)] [(0, 1, (.k (.v (.c (.p (.int .i64 1))))))])), (oA 3 (.alloc [(.p (.int .i64 0)), (.p (.str [])), (.p .nilslice), (.p .nilslice)] false)), (oA 4 (.alloc [(.p (.int .i64 0)), (.p (.bool false)), (.p (.int .i64 0)), (.p (.str [])), (.p .nilslice), (.p .nilslice)] false)), (oN (.store 4 (.t 3) (.t 15))), (oN (.store 6 (.t 4) (.t 16))), (oA 5 (.mv (.k (.v (.c (.p (.str [])))))))] []) (.seq (.reg [(oA 17 (.build [(.p (.int .i64 0)), (.p (.bool false)), (.p (.int .i64 0)), (.p (.str [])), (.p .nilslice), (.p .nilslice)] [(0, 1, (.k (.v (.c (.p (.int .i64 2))))))])), (oA 6 (.alloc [(.p (.int .i64 0)), (.p (.bool false)), (.p (.int .i64 0)), (.p (.str [])), (.p .nilslice), (.p .nilslice)] false)), (oN (.store 6 (.t 6) (.t 17)))] []) (.seq (.seq (.reg [(oA 7 (.mv (.k (.v (.c (.p (.int .i64 0)))))))] []) (.block 0 (.loop 1 [0, 3, 4, 5, 6, 7] (.seq (.seq (.reg [(oA 18 (.mv (.t 7))), (oA 19 (.mv (.t 0))), (oA 20 (.len 2 (.t 19))), (oA 21 (.bin .lss 0 (.t 18) (.t 20))), (oA 22 (.mv (.t 21))), ⟨(some 23), (.mv (.t 7)), (some (22, true))⟩, ⟨(some 24), (.bin .lss 0 (.t 23) (.k (.v (.c (.p (.int .i64 8)))))), (some (22, true))⟩, (oA 25 (.pick (.t 22) (.t 24) (.k (.v (.c (.p (.bool false)))))))] []) (.cond (.t 25) .skip (.exit 0))) (.seq (.block 1 (.seq (.reg [(oA 28 (.mv (.t 0))), (oA 29 (.mv (.t 7))), (oA 30 (.iaddr 1 (.t 28) (.t 29))), (oA 31 (.load false 1 (.t 30))), (oA 32 (.call (.k (.v (.c (.func 14 [])))) [(.t 31), (.k (.v (.c (.p (.int .i64 5)))))]))] []) (.block 2 (.seq (.reg [(oA 34 (.bin .eql 0 (.t 32) (.k (.v (.c (.p (.int .i64 0))))))), (oA 33 (.mv (.t 34)))] []) (.cond (.t 33) (.seq (.reg [(oA 35 (.load true 6 (.t 6))), (oA 36 (.load true 6 (.t 4))), (oA 37 (.bslice 6 2 [(.p (.int .i64 0)), (.p (.bool false)), (.p (.int .i64 0)), (.p (.str [])), (.p .nilslice), (.p .nilslice)] [(0, (.t 35)), (1, (.t 36))] false)), (oA 38 (.build [(.p (.int .i64 0)), (.p (.bool false)), (.p (.int .i64 0)), (.p (.str [])), (.p .nilslice), (.p .nilslice)] [(0, 1, (.k (.v (.c (.p (.int .i64 4)))))), (5, 1, (.t 37))])), (oA 39 (.mv (.t 5))), (oA 40 (.bin .add 0 (.k (.v (.c (.p (.str [91, 49, 93]))))) (.t 39))), (oN (.store 6 (.t 4) (.t 38))), (oA 5 (.mv (.t 40)))] []) (.seq (.reg [(oA 41 (.build [(.p (.int .i64 0)), (.p (.bool false)), (.p (.int .i64 0)), (.p (.str [])), (.p .nilslice), (.p .nilslice)] [(0, 1, (.k (.v (.c (.p (.int .i64 4))))))])), (oN (.store 6 (.t 6) (.t 41)))] []) (.reg [(oA 42 (.load true 4 (.t 3))), (oA 43 (.bslice 4 1 [(.p (.int .i64 0)), (.p (.str [])), (.p .nilslice), (.p .nilslice)] [(0, (.t 42))] false)), (oA 44 (.build [(.p (.int .i64 0)), (.p (.str [])), (.p .nilslice), (.p .nilslice)] [(0, 1, (.k (.v (.c (.p (.int .i64 4)))))), (3, 1, (.t 43))])), (oN (.store 4 (.t 3) (.t 44)))] []))) (.seq (.reg [(oA 46 (.bin .eql 0 (.t 32) (.k (.v (.c (.p (.int .i64 1))))))), (oA 45 (.mv (.t 46)))] []) (.cond (.t 45) (.seq (.reg [(oA 47 (.bslice 1 2 [(.p (.str []))] [(0, (.k (.v (.c (.p (.str [107])))))), (1, (.k (.v (.c (.p (.str [113]))))))] false)), (oA 48 (.load true 6 (.t 6))), (oA 49 (.load true 6 (.t 4))), (oA 50 (.bslice 6 2 [(.p (.int .i64 0)), (.p (.bool false)), (.p (.int .i64 0)), (.p (.str [])), (.p .nilslice), (.p .nilslice)] [(0, (.t 48)), (1, (.t 49))] false)), (oA 51 (.build [(.p (.int .i64 0)), (.p (.bool false)), (.p (.int .i64 0)), (.p (.str [])), (.p .nilslice), (.p .nilslice)] [(0, 1, (.k (.v (.c (.p (.int .i64 5)))))), (4, 1, (.t 47)), (5, 1, (.t 50))])), (oA 52 (.mv (.t 5))), (oA 53 (.bin .add 0 (.k (.v (.c (.p (.str [91, 34, 113, 34, 93]))))) (.t 52))), (oN (.store 6 (.t 4) (.t 51))), (oA 5 (.mv (.t 53)))] []) (.seq (.reg [(oA 54 (.build [(.p (.int .i64 0)), (.p (.bool false)), (.p (.int .i64 0)), (.p (.str [])), (.p .nilslice), (.p .nilslice)] [(0, 1, (.k (.v (.c (.p (.int .i64 5))))))])), (oN (.store 6 (.t 6) (.t 54)))] []) (.reg [(oA 55 (.load true 4 (.t 3))), (oA 56 (.bslice 4 1 [(.p (.int .i64 0)), (.p (.str [])), (.p .nilslice), (.p .nilslice)] [(0, (.t 55))] false)), (oA 57 (.build [(.p (.int .i64 0)), (.p (.str [])), (.p .nilslice), (.p .nilslice)] [(0, 1, (.k (.v (.c (.p (.int .i64 5)))))), (3, 1, (.t 56))])), (oN (.store 4 (.t 3) (.t 57)))] []))) (.seq (.reg [(oA 59 (.bin .eql 0 (.t 32) (.k (.v (.c (.p (.int .i64 2))))))), (oA 58 (.mv (.t 59)))] []) (.cond (.t 58) (.seq (.reg [(oA 60 (.bslice 1 2 [(.p (.str []))] [(0, (.k (.v (.c (.p (.str [97])))))), (1, (.k (.v (.c (.p (.str [98]))))))] false)), (oA 61 (.load true 6 (.t 6))), (oA 62 (.load true 6 (.t 4))), (oA 63 (.bslice 6 2 [(.p (.int .i64 0)), (.p (.bool false)), (.p (.int .i64 0)), (.p (.str [])), (.p .nilslice), (.p .nilslice)] [(0, (.t 61)), (1, (.t 62))] false)), (oA 64 (.build [(.p (.int .i64 0)), (.p (.bool false)), (.p (.int .i64 0)), (.p (.str [])), (.p .nilslice), (.p .nilslice)] [(0, 1, (.k (.v (.c (.p (.int .i64 5)))))), (4, 1, (.t 60)), (5, 1, (.t 63))])), (oA 65 (.mv (.t 5))), (oA 66 (.bin .add 0 (.k (.v (.c (.p (.str [46, 98]))))) (.t 65))), (oN (.store 6 (.t 4) (.t 64))), (oA 5 (.mv (.t 66)))] []) (.seq (.reg [(oA 67 (.bslice 1 2 [(.p (.str []))] [(0, (.k (.v (.c (.p (.str [97])))))), (1, (.k (.v (.c (.p (.str [98]))))))] false)), (oA 68 (.load true 6 (.t 6))), (oA 69 (.load true 6 (.t 6))), (oA 70 (.bslice 6 2 [(.p (.int .i64 0)), (.p (.bool false)), (.p (.int .i64 0)), (.p (.str [])), (.p .nilslice), (.p .nilslice)] [(0, (.t 68)), (1, (.t 69))] false)), (oA 71 (.build [(.p (.int .i64 0)), (.p (.bool false)), (.p (.int .i64 0)), (.p (.str [])), (.p .nilslice), (.p .nilslice)] [(0, 1, (.k (.v (.c (.p (.int .i64 5)))))), (4, 1, (.t 67)), (5, 1, (.t 70))])), (oN (.store 6 (.t 6) (.t 71)))] []) (.reg [(oA 72 (.bslice 1 2 [(.p (.str []))] [(0, (.k (.v (.c (.p (.str [97])))))), (1, (.k (.v (.c (.p (.str [98]))))))] false)), (oA 73 (.load true 4 (.t 3))), (oA 74 (.load true 4 (.t 3))), (oA 75 (.bslice 4 2 [(.p (.int .i64 0)), (.p (.str [])), (.p .nilslice), (.p .nilslice)] [(0, (.t 73)), (1, (.t 74))] false)), (oA 76 (.build [(.p (.int .i64 0)), (.p (.str [])), (.p .nilslice), (.p .nilslice)] [(0, 1, (.k (.v (.c (.p (.int .i64 7)))))), (2, 1, (.t 72)), (3, 1, (.t 75))])), (oN (.store 4 (.t 3) (.t 76)))] []))) (.seq (.reg [(oA 78 (.bin .eql 0 (.t 32) (.k (.v (.c (.p (.int .i64 3))))))), (oA 77 (.mv (.t 78)))] []) (.cond (.t 77) (.seq (.reg [(oA 79 (.bslice 1 1 [(.p (.str []))] [(0, (.k (.v (.c (.p (.str [119]))))))] false)), (oA 80 (.load true 6 (.t 4))), (oA 81 (.bslice 6 1 [(.p (.int .i64 0)), (.p (.bool false)), (.p (.int .i64 0)), (.p (.str [])), (.p .nilslice), (.p .nilslice)] [(0, (.t 80))] false)), (oA 82 (.build [(.p (.int .i64 0)), (.p (.bool false)), (.p (.int .i64 0)), (.p (.str [])), (.p .nilslice), (.p .nilslice)] [(0, 1, (.k (.v (.c (.p (.int .i64 5)))))), (4, 1, (.t 79)), (5, 1, (.t 81))])), (oA 83 (.mv (.t 5))), (oA 84 (.bin .add 0 (.k (.v (.c (.p (.str [46, 119]))))) (.t 83))), (oN (.store 6 (.t 4) (.t 82))), (oA 5 (.mv (.t 84)))] []) (.seq (.reg [(oA 85 (.bslice 1 1 [(.p (.str []))] [(0, (.k (.v (.c (.p (.str [119]))))))] false)), (oA 86 (.load true 6 (.t 6))), (oA 87 (.bslice 6 1 [(.p (.int .i64 0)), (.p (.bool false)), (.p (.int .i64 0)), (.p (.str [])), (.p .nilslice), (.p .nilslice)] [(0, (.t 86))] false)), (oA 88 (.build [(.p (.int .i64 0)), (.p (.bool false)), (.p (.int .i64 0)), (.p (.str [])), (.p .nilslice), (.p .nilslice)] [(0, 1, (.k (.v (.c (.p (.int .i64 5)))))), (4, 1, (.t 85)), (5, 1, (.t 87))])), (oN (.store 6 (.t 6) (.t 88)))] []) (.reg [(oA 89 (.bslice 1 2 [(.p (.str []))] [(0, (.k (.v (.c (.p (.str [118])))))), (1, (.k (.v (.c (.p (.str [119]))))))] false)), (oA 90 (.build [(.p (.int .i64 0)), (.p (.str [])), (.p .nilslice), (.p .nilslice)] [(0, 1, (.k (.v (.c (.p (.int .i64 1))))))])), (oA 91 (.load true 4 (.t 3))), (oA 92 (.bslice 4 2 [(.p (.int .i64 0)), (.p (.str [])), (.p .nilslice), (.p .nilslice)] [(0, (.t 90)), (1, (.t 91))] false)), (oA 93 (.build [(.p (.int .i64 0)), (.p (.str [])), (.p .nilslice), (.p .nilslice)] [(0, 1, (.k (.v (.c (.p (.int .i64 8)))))), (2, 1, (.t 89)), (3, 1, (.t 92))])), (oN (.store 4 (.t 3) (.t 93)))] []))) (.seq (.reg [(oA 95 (.bin .eql 0 (.t 32) (.k (.v (.c (.p (.int .i64 4))))))), (oA 94 (.mv (.t 95)))] []) (.cond (.t 94) (.seq (.reg [(oA 96 (.faddr 0 (.t 3))), (oA 97 (.load false 1 (.t 96))), (oA 98 (.bin .neq 0 (.t 97) (.k (.v (.c (.p (.int .i64 6)))))))] []) (.cond (.t 98) (.reg [(oA 99 (.load true 4 (.t 3))), (oA 100 (.bslice 4 1 [(.p (.int .i64 0)), (.p (.str [])), (.p .nilslice), (.p .nilslice)] [(0, (.t 99))] false)), (oA 101 (.build [(.p (.int .i64 0)), (.p (.str [])), (.p .nilslice), (.p .nilslice)] [(0, 1, (.k (.v (.c (.p (.int .i64 6)))))), (3, 1, (.t 100))])), (oN (.store 4 (.t 3) (.t 101)))] []) .skip)) .skip))))))))))))) (.mark 2 [0, 3, 4, 5, 6, 7] (.reg [(oA 26 (.mv (.t 7))), (oA 27 (.bin .add 0 (.t 26) (.k (.v (.c (.p (.int .i64 1))))))), (oA 7 (.mv (.t 27)))] []))))))) (.mark 3 [3, 4, 5, 6] (.seq (.reg [(oA 102 (.load true 4 (.t 3))), (oA 103 (.build [(.p (.int .i64 0)), (.p (.str [])), (.p .nilslice), (.p .nilslice), (.p .nilslice), (.p .nilslice)] [(0, 4, (.t 102))])), (oA 8 (.alloc [(.p (.int .i64 0)), (.p (.str [])), (.p .nilslice), (.p .nilslice), (.p .nilslice), (.p .nilslice)] false)), (oN (.store 6 (.t 8) (.t 103)))] []) (.seq (.seq (.reg [(oA 104 (.load true 6 (.t 8))), (oA 105 (.call (.k (.v (.c (.func 15 [])))) [(.t 104)])), (oA 106 (.bin .neq 0 (.t 105) (.k (.v (.c (.p (.int .i64 0))))))), (oA 107 (.mv (.t 106))), ⟨(some 108), (.load true 6 (.t 4)), (some (107, false))⟩, ⟨(some 109), (.call (.k (.v (.c (.func 16 [])))) [(.t 108)]), (some (107, false))⟩, ⟨(some 110), (.bin .neq 0 (.t 109) (.k (.v (.c (.p (.int .i64 0)))))), (some (107, false))⟩, (oA 111 (.pick (.t 107) (.k (.v (.c (.p (.bool true))))) (.t 110))), (oA 112 (.mv (.t 111))), ⟨(some 113), (.load true 6 (.t 6)), (some (112, false))⟩, ⟨(some 114), (.call (.k (.v (.c (.func 16 [])))) [(.t 113)]), (some (112, false))⟩, ⟨(some 115), (.bin .neq 0 (.t 114) (.k (.v (.c (.p (.int .i64 0)))))), (some (112, false))⟩, (oA 116 (.pick (.t 112) (.k (.v (.c (.p (.bool true))))) (.t 115)))] []) (.cond (.t 116) (.seq (.reg [(oA 2 (.mv (.k (.v (.c (.p (.bool true)))))))] []) .ret) .skip)) (.seq (.reg [(oA 118 (.load true 6 (.t 8))), (oA 119 (.load true 4 (.t 3))), (oA 120 (.load true 6 (.t 4))), (oA 121 (.call (.k (.v (.c (.func 17 [])))) [(.t 118), (.t 119), (.t 120)])), (oA 117 (.mv (.t 121))), (oA 122 (.extract (.t 117) 0)), (oA 123 (.extract (.t 117) 1)), (oA 9 (.mv (.t 122))), (oA 10 (.mv (.t 123)))] []) (.seq (.reg [(oA 125 (.load true 6 (.t 8))), (oA 126 (.load true 4 (.t 3))), (oA 127 (.load true 6 (.t 6))), (oA 128 (.call (.k (.v (.c (.func 17 [])))) [(.t 125), (.t 126), (.t 127)])), (oA 124 (.mv (.t 128))), (oA 129 (.extract (.t 124) 0)), (oA 130 (.extract (.t 124) 1)), (oA 11 (.mv (.t 129))), (oA 12 (.mv (.t 130)))] []) (.seq (.reg [(oA 131 (.mv (.t 9))), (oA 132 (.mv (.t 5))), (oA 133 (.bin .eql 0 (.t 131) (.t 132))), (oA 134 (.mv (.t 133))), ⟨(some 135), (.mv (.t 10)), (some (134, true))⟩, ⟨(some 136), (.bin .eql 0 (.t 135) (.k (.v (.c (.p (.int .i64 31)))))), (some (134, true))⟩, (oA 137 (.pick (.t 134) (.t 136) (.k (.v (.c (.p (.bool false))))))), (oA 138 (.mv (.t 137))), ⟨(some 139), (.mv (.t 11)), (some (138, true))⟩, ⟨(some 140), (.bin .eql 0 (.t 139) (.k (.v (.c (.p (.str [])))))), (some (138, true))⟩, (oA 141 (.pick (.t 138) (.t 140) (.k (.v (.c (.p (.bool false))))))), (oA 142 (.mv (.t 141))), ⟨(some 143), (.mv (.t 12)), (some (142, true))⟩, ⟨(some 144), (.bin .eql 0 (.t 143) (.k (.v (.c (.p (.int .i64 0)))))), (some (142, true))⟩, (oA 145 (.pick (.t 142) (.t 144) (.k (.v (.c (.p (.bool false))))))), (oA 2 (.mv (.t 145)))] []) .ret))))))))))) }
theorem t3 : compF Tryd.prog (globs2 tabs opq) (fun _ => false) true Tryd.f3 = some c3.erase := by kernel_rfl
noncomputable def b3_0 (O : Oracle) (R : Jump) (q : Nat) (x0 : TVal) (h : Heap) : Res1 :=
 vcall O (.v (.c (.func 13 []))) [] h 13 fun x13 h =>
 vop O (.un .not (.k x13)) h 14 fun x14 h =>
 vif x14 (
 tcomp (kB false) fun c0 => vfin true q [c0] h)
 (vop O (.build [(.p (.int .i64 0)), (.p (.str [])), (.p .nilslice), (.p .nilslice)] [(0, 1, (.k (kI 2)))]) h 15 fun x15 h =>
 vop O (.build [(.p (.int .i64 0)), (.p (.bool false)), (.p (.int .i64 0)), (.p (.str [])), (.p .nilslice), (.p .nilslice)] [(0, 1, (.k (kI 1)))]) h 16 fun x16 h =>
 vop O (.alloc [(.p (.int .i64 0)), (.p (.str [])), (.p .nilslice), (.p .nilslice)] false) h 3 fun x3 h =>
 vop O (.alloc [(.p (.int .i64 0)), (.p (.bool false)), (.p (.int .i64 0)), (.p (.str [])), (.p .nilslice), (.p .nilslice)] false) h 4 fun x4 h =>
 vstore 4 x3 x15 h fun _ h =>
 vstore 6 x4 x16 h fun _ h =>
 vop O (.build [(.p (.int .i64 0)), (.p (.bool false)), (.p (.int .i64 0)), (.p (.str [])), (.p .nilslice), (.p .nilslice)] [(0, 1, (.k (kI 2)))]) h 17 fun x17 h =>
 vop O (.alloc [(.p (.int .i64 0)), (.p (.bool false)), (.p (.int .i64 0)), (.p (.str [])), (.p .nilslice), (.p .nilslice)] false) h 6 fun x6 h =>
 vstore 6 x6 x17 h fun _ h =>
 R 1 [x0, x3, x4, (kS []), x6, (kI 0)] h)
theorem e3_0 (O : Oracle) (R : Jump) (q : Nat) (x0 : TVal) (h : Heap) : b3_0 O R q x0 h = stepF c3 O R q 0 [x0] h := by kernel_rfl
noncomputable def b3_1 (O : Oracle) (R : Jump) (q : Nat) (x0 x3 x4 x5 x6 x7 : TVal) (h : Heap) : Res1 :=
 vlen O 2 x0 h 20 fun x20 h =>
 vbin .lss 0 x7 x20 h fun x21 h =>
 vguard x21 true (fun kk => kk x7 h) h fun x23 h =>
 vguard x21 true (fun kk => vbin .lss 0 x23 (kI 8) h kk) h fun x24 h =>
 vop O (.pick (.k x21) (.k x24) (.k (kB false))) h 25 fun x25 h =>
 vif x25 (
 viaddr 1 x0 x7 h fun x30 h =>
 vload false 1 x30 h fun x31 h =>
 vcall O (.v (.c (.func 14 []))) [x31, (kI 5)] h 32 fun x32 h =>
 vbin .eql 0 x32 (kI 0) h fun x34 h =>
 vif x34 (
 vload true 6 x6 h fun x35 h =>
 vload true 6 x4 h fun x36 h =>
 vop O (.bslice 6 2 [(.p (.int .i64 0)), (.p (.bool false)), (.p (.int .i64 0)), (.p (.str [])), (.p .nilslice), (.p .nilslice)] [(0, (.k x35)), (1, (.k x36))] false) h 37 fun x37 h =>
 vop O (.build [(.p (.int .i64 0)), (.p (.bool false)), (.p (.int .i64 0)), (.p (.str [])), (.p .nilslice), (.p .nilslice)] [(0, 1, (.k (kI 4))), (5, 1, (.k x37))]) h 38 fun x38 h =>
 vbin .add 0 (kS [91, 49, 93]) x5 h fun x40 h =>
 vstore 6 x4 x38 h fun _ h =>
 vop O (.build [(.p (.int .i64 0)), (.p (.bool false)), (.p (.int .i64 0)), (.p (.str [])), (.p .nilslice), (.p .nilslice)] [(0, 1, (.k (kI 4)))]) h 41 fun x41 h =>
 vstore 6 x6 x41 h fun _ h =>
 vload true 4 x3 h fun x42 h =>
 vop O (.bslice 4 1 [(.p (.int .i64 0)), (.p (.str [])), (.p .nilslice), (.p .nilslice)] [(0, (.k x42))] false) h 43 fun x43 h =>
 vop O (.build [(.p (.int .i64 0)), (.p (.str [])), (.p .nilslice), (.p .nilslice)] [(0, 1, (.k (kI 4))), (3, 1, (.k x43))]) h 44 fun x44 h =>
 vstore 4 x3 x44 h fun _ h =>
 R 2 [x0, x3, x4, x40, x6, x7] h)
 (vbin .eql 0 x32 (kI 1) h fun x46 h =>
 vif x46 (
 vop O (.bslice 1 2 [(.p (.str []))] [(0, (.k (kS [107]))), (1, (.k (kS [113])))] false) h 47 fun x47 h =>
 vload true 6 x6 h fun x48 h =>
 vload true 6 x4 h fun x49 h =>
 vop O (.bslice 6 2 [(.p (.int .i64 0)), (.p (.bool false)), (.p (.int .i64 0)), (.p (.str [])), (.p .nilslice), (.p .nilslice)] [(0, (.k x48)), (1, (.k x49))] false) h 50 fun x50 h =>
 vop O (.build [(.p (.int .i64 0)), (.p (.bool false)), (.p (.int .i64 0)), (.p (.str [])), (.p .nilslice), (.p .nilslice)] [(0, 1, (.k (kI 5))), (4, 1, (.k x47)), (5, 1, (.k x50))]) h 51 fun x51 h =>
 vbin .add 0 (kS [91, 34, 113, 34, 93]) x5 h fun x53 h =>
 vstore 6 x4 x51 h fun _ h =>
 vop O (.build [(.p (.int .i64 0)), (.p (.bool false)), (.p (.int .i64 0)), (.p (.str [])), (.p .nilslice), (.p .nilslice)] [(0, 1, (.k (kI 5)))]) h 54 fun x54 h =>
 vstore 6 x6 x54 h fun _ h =>
 vload true 4 x3 h fun x55 h =>
 vop O (.bslice 4 1 [(.p (.int .i64 0)), (.p (.str [])), (.p .nilslice), (.p .nilslice)] [(0, (.k x55))] false) h 56 fun x56 h =>
 vop O (.build [(.p (.int .i64 0)), (.p (.str [])), (.p .nilslice), (.p .nilslice)] [(0, 1, (.k (kI 5))), (3, 1, (.k x56))]) h 57 fun x57 h =>
 vstore 4 x3 x57 h fun _ h =>
 R 2 [x0, x3, x4, x53, x6, x7] h)
 (vbin .eql 0 x32 (kI 2) h fun x59 h =>
 vif x59 (
 vop O (.bslice 1 2 [(.p (.str []))] [(0, (.k (kS [97]))), (1, (.k (kS [98])))] false) h 60 fun x60 h =>
 vload true 6 x6 h fun x61 h =>
 vload true 6 x4 h fun x62 h =>
 vop O (.bslice 6 2 [(.p (.int .i64 0)), (.p (.bool false)), (.p (.int .i64 0)), (.p (.str [])), (.p .nilslice), (.p .nilslice)] [(0, (.k x61)), (1, (.k x62))] false) h 63 fun x63 h =>
 vop O (.build [(.p (.int .i64 0)), (.p (.bool false)), (.p (.int .i64 0)), (.p (.str [])), (.p .nilslice), (.p .nilslice)] [(0, 1, (.k (kI 5))), (4, 1, (.k x60)), (5, 1, (.k x63))]) h 64 fun x64 h =>
 vbin .add 0 (kS [46, 98]) x5 h fun x66 h =>
 vstore 6 x4 x64 h fun _ h =>
 vop O (.bslice 1 2 [(.p (.str []))] [(0, (.k (kS [97]))), (1, (.k (kS [98])))] false) h 67 fun x67 h =>
 vload true 6 x6 h fun x68 h =>
 vload true 6 x6 h fun x69 h =>
 vop O (.bslice 6 2 [(.p (.int .i64 0)), (.p (.bool false)), (.p (.int .i64 0)), (.p (.str [])), (.p .nilslice), (.p .nilslice)] [(0, (.k x68)), (1, (.k x69))] false) h 70 fun x70 h =>
 vop O (.build [(.p (.int .i64 0)), (.p (.bool false)), (.p (.int .i64 0)), (.p (.str [])), (.p .nilslice), (.p .nilslice)] [(0, 1, (.k (kI 5))), (4, 1, (.k x67)), (5, 1, (.k x70))]) h 71 fun x71 h =>
 vstore 6 x6 x71 h fun _ h =>
 vop O (.bslice 1 2 [(.p (.str []))] [(0, (.k (kS [97]))), (1, (.k (kS [98])))] false) h 72 fun x72 h =>
 vload true 4 x3 h fun x73 h =>
 vload true 4 x3 h fun x74 h =>
 vop O (.bslice 4 2 [(.p (.int .i64 0)), (.p (.str [])), (.p .nilslice), (.p .nilslice)] [(0, (.k x73)), (1, (.k x74))] false) h 75 fun x75 h =>
 vop O (.build [(.p (.int .i64 0)), (.p (.str [])), (.p .nilslice), (.p .nilslice)] [(0, 1, (.k (kI 7))), (2, 1, (.k x72)), (3, 1, (.k x75))]) h 76 fun x76 h =>
 vstore 4 x3 x76 h fun _ h =>
 R 2 [x0, x3, x4, x66, x6, x7] h)
 (vbin .eql 0 x32 (kI 3) h fun x78 h =>
 vif x78 (
 vop O (.bslice 1 1 [(.p (.str []))] [(0, (.k (kS [119])))] false) h 79 fun x79 h =>
 vload true 6 x4 h fun x80 h =>
 vop O (.bslice 6 1 [(.p (.int .i64 0)), (.p (.bool false)), (.p (.int .i64 0)), (.p (.str [])), (.p .nilslice), (.p .nilslice)] [(0, (.k x80))] false) h 81 fun x81 h =>
 vop O (.build [(.p (.int .i64 0)), (.p (.bool false)), (.p (.int .i64 0)), (.p (.str [])), (.p .nilslice), (.p .nilslice)] [(0, 1, (.k (kI 5))), (4, 1, (.k x79)), (5, 1, (.k x81))]) h 82 fun x82 h =>
 vbin .add 0 (kS [46, 119]) x5 h fun x84 h =>
 vstore 6 x4 x82 h fun _ h =>
 vop O (.bslice 1 1 [(.p (.str []))] [(0, (.k (kS [119])))] false) h 85 fun x85 h =>
 vload true 6 x6 h fun x86 h =>
 vop O (.bslice 6 1 [(.p (.int .i64 0)), (.p (.bool false)), (.p (.int .i64 0)), (.p (.str [])), (.p .nilslice), (.p .nilslice)] [(0, (.k x86))] false) h 87 fun x87 h =>
 vop O (.build [(.p (.int .i64 0)), (.p (.bool false)), (.p (.int .i64 0)), (.p (.str [])), (.p .nilslice), (.p .nilslice)] [(0, 1, (.k (kI 5))), (4, 1, (.k x85)), (5, 1, (.k x87))]) h 88 fun x88 h =>
 vstore 6 x6 x88 h fun _ h =>
 vop O (.bslice 1 2 [(.p (.str []))] [(0, (.k (kS [118]))), (1, (.k (kS [119])))] false) h 89 fun x89 h =>
 vop O (.build [(.p (.int .i64 0)), (.p (.str [])), (.p .nilslice), (.p .nilslice)] [(0, 1, (.k (kI 1)))]) h 90 fun x90 h =>
 vload true 4 x3 h fun x91 h =>
 vop O (.bslice 4 2 [(.p (.int .i64 0)), (.p (.str [])), (.p .nilslice), (.p .nilslice)] [(0, (.k x90)), (1, (.k x91))] false) h 92 fun x92 h =>
 vop O (.build [(.p (.int .i64 0)), (.p (.str [])), (.p .nilslice), (.p .nilslice)] [(0, 1, (.k (kI 8))), (2, 1, (.k x89)), (3, 1, (.k x92))]) h 93 fun x93 h =>
 vstore 4 x3 x93 h fun _ h =>
 R 2 [x0, x3, x4, x84, x6, x7] h)
 (vbin .eql 0 x32 (kI 4) h fun x95 h =>
 vif x95 (
 vfaddr 0 x3 h fun x96 h =>
 vload false 1 x96 h fun x97 h =>
 vbin .neq 0 x97 (kI 6) h fun x98 h =>
 vif x98 (
 vload true 4 x3 h fun x99 h =>
 vop O (.bslice 4 1 [(.p (.int .i64 0)), (.p (.str [])), (.p .nilslice), (.p .nilslice)] [(0, (.k x99))] false) h 100 fun x100 h =>
 vop O (.build [(.p (.int .i64 0)), (.p (.str [])), (.p .nilslice), (.p .nilslice)] [(0, 1, (.k (kI 6))), (3, 1, (.k x100))]) h 101 fun x101 h =>
 vstore 4 x3 x101 h fun _ h =>
 R 2 [x0, x3, x4, x5, x6, x7] h)
 (R 2 [x0, x3, x4, x5, x6, x7] h))
 (R 2 [x0, x3, x4, x5, x6, x7] h))))))
 (R 3 [x3, x4, x5, x6] h)
theorem e3_1 (O : Oracle) (R : Jump) (q : Nat) (x0 x3 x4 x5 x6 x7 : TVal) (h : Heap) : b3_1 O R q x0 x3 x4 x5 x6 x7 h = stepF c3 O R q 1 [x0, x3, x4, x5, x6, x7] h := by kernel_rfl
noncomputable def b3_2 (O : Oracle) (R : Jump) (q : Nat) (x0 x3 x4 x5 x6 x7 : TVal) (h : Heap) : Res1 :=
 vbin .add 0 x7 (kI 1) h fun x27 h =>
 R 1 [x0, x3, x4, x5, x6, x27] h
theorem e3_2 (O : Oracle) (R : Jump) (q : Nat) (x0 x3 x4 x5 x6 x7 : TVal) (h : Heap) : b3_2 O R q x0 x3 x4 x5 x6 x7 h = stepF c3 O R q 2 [x0, x3, x4, x5, x6, x7] h := by kernel_rfl
noncomputable def b3_3 (O : Oracle) (R : Jump) (q : Nat) (x3 x4 x5 x6 : TVal) (h : Heap) : Res1 :=
 vload true 4 x3 h fun x102 h =>
 vop O (.build [(.p (.int .i64 0)), (.p (.str [])), (.p .nilslice), (.p .nilslice), (.p .nilslice), (.p .nilslice)] [(0, 4, (.k x102))]) h 103 fun x103 h =>
 vop O (.alloc [(.p (.int .i64 0)), (.p (.str [])), (.p .nilslice), (.p .nilslice), (.p .nilslice), (.p .nilslice)] false) h 8 fun x8 h =>
 vstore 6 x8 x103 h fun _ h =>
 vload true 6 x8 h fun x104 h =>
 vcall O (.v (.c (.func 15 []))) [x104] h 105 fun x105 h =>
 vbin .neq 0 x105 (kI 0) h fun x106 h =>
 vguard x106 false (fun kk => vload true 6 x4 h kk) h fun x108 h =>
 vguard x106 false (fun kk => vcall O (.v (.c (.func 16 []))) [x108] h 109 kk) h fun x109 h =>
 vguard x106 false (fun kk => vbin .neq 0 x109 (kI 0) h kk) h fun x110 h =>
 vop O (.pick (.k x106) (.k (kB true)) (.k x110)) h 111 fun x111 h =>
 vguard x111 false (fun kk => vload true 6 x6 h kk) h fun x113 h =>
 vguard x111 false (fun kk => vcall O (.v (.c (.func 16 []))) [x113] h 114 kk) h fun x114 h =>
 vguard x111 false (fun kk => vbin .neq 0 x114 (kI 0) h kk) h fun x115 h =>
 vop O (.pick (.k x111) (.k (kB true)) (.k x115)) h 116 fun x116 h =>
 vif x116 (
 tcomp (kB true) fun c0 => vfin true q [c0] h)
 (vload true 6 x8 h fun x118 h =>
 vload true 4 x3 h fun x119 h =>
 vload true 6 x4 h fun x120 h =>
 vcall O (.v (.c (.func 17 []))) [x118, x119, x120] h 121 fun x121 h =>
 vext x121 0 h fun x122 h =>
 vext x121 1 h fun x123 h =>
 vload true 6 x8 h fun x125 h =>
 vload true 4 x3 h fun x126 h =>
 vload true 6 x6 h fun x127 h =>
 vcall O (.v (.c (.func 17 []))) [x125, x126, x127] h 128 fun x128 h =>
 vext x128 0 h fun x129 h =>
 vext x128 1 h fun x130 h =>
 vbin .eql 0 x122 x5 h fun x133 h =>
 vguard x133 true (fun kk => kk x123 h) h fun x135 h =>
 vguard x133 true (fun kk => vbin .eql 0 x135 (kI 31) h kk) h fun x136 h =>
 vop O (.pick (.k x133) (.k x136) (.k (kB false))) h 137 fun x137 h =>
 vguard x137 true (fun kk => kk x129 h) h fun x139 h =>
 vguard x137 true (fun kk => vbin .eql 0 x139 (kS []) h kk) h fun x140 h =>
 vop O (.pick (.k x137) (.k x140) (.k (kB false))) h 141 fun x141 h =>
 vguard x141 true (fun kk => kk x130 h) h fun x143 h =>
 vguard x141 true (fun kk => vbin .eql 0 x143 (kI 0) h kk) h fun x144 h =>
 vop O (.pick (.k x141) (.k x144) (.k (kB false))) h 145 fun x145 h =>
 tcomp x145 fun c0 => vfin true q [c0] h)
theorem e3_3 (O : Oracle) (R : Jump) (q : Nat) (x3 x4 x5 x6 : TVal) (h : Heap) : b3_3 O R q x3 x4 x5 x6 h = stepF c3 O R q 3 [x3, x4, x5, x6] h := by kernel_rfl
noncomputable def d3 : BlkF := fun O R q => [.s fun y0 => .z fun h => b3_0 O R q y0 h, .s fun y0 => .s fun y1 => .s fun y2 => .s fun y3 => .s fun y4 => .s fun y5 => .z fun h => b3_1 O R q y0 y1 y2 y3 y4 y5 h, .s fun y0 => .s fun y1 => .s fun y2 => .s fun y3 => .s fun y4 => .s fun y5 => .z fun h => b3_2 O R q y0 y1 y2 y3 y4 y5 h, .s fun y0 => .s fun y1 => .s fun y2 => .s fun y3 => .z fun h => b3_3 O R q y0 y1 y2 y3 h]
theorem o3 (O : Oracle) (R : Jump) (q : Nat) : HoldsAll c3 O R q 0 (d3 O R q) := ⟨fun y0 h => e3_0 O R q y0 h, fun y0 y1 y2 y3 y4 y5 h => e3_1 O R q y0 y1 y2 y3 y4 y5 h, fun y0 y1 y2 y3 y4 y5 h => e3_2 O R q y0 y1 y2 y3 y4 y5 h, fun y0 y1 y2 y3 h => e3_3 O R q y0 y1 y2 y3 h, trivial⟩
/- sprue/spruelaw14.known -/
def c13 : MFunc := { np := 0, res := [.t 0], frz := true, body := (.seq (.reg [(oA 0 (.mv (.k (.v (.c (.p (.bool false)))))))] []) (.seq (.reg [(oA 5 (.bslice 1 1 [(.p (.str []))] [(0, (.k (.v (.c (.p (.str [97]))))))] false)), (oA 6 (.build [(.p (.int .i64 0)), (.p (.str [])), (.p .nilslice), (.p .nilslice)] [(0, 1, (.k (.v (.c (.p (.int .i64 2))))))])), (oA 7 (.bslice 4 1 [(.p (.int .i64 0)), (.p (.str [])), (.p .nilslice), (.p .nilslice)] [(0, (.t 6))] false)), (oA 8 (.build [(.p (.int .i64 0)), (.p (.str [])), (.p .nilslice), (.p .nilslice)] [(0, 1, (.k (.v (.c (.p (.int .i64 4)))))), (3, 1, (.t 7))])), (oA 9 (.bslice 4 1 [(.p (.int .i64 0)), (.p (.str [])), (.p .nilslice), (.p .nilslice)] [(0, (.t 8))] false)), (oA 10 (.build [(.p (.int .i64 0)), (.p (.str [])), (.p .nilslice), (.p .nilslice)] [(0, 1, (.k (.v (.c (.p (.int .i64 7)))))), (2, 1, (.t 5)), (3, 1, (.t 9))])), (oA 11 (.build [(.p (.int .i64 0)), (.p (.str [])), (.p .nilslice), (.p .nilslice), (.p .nilslice), (.p .nilslice)] [(0, 4, (.t 10))])), (oA 1 (.alloc [(.p (.int .i64 0)), (.p (.str [])), (.p .nilslice), (.p .nilslice), (.p .nilslice), (.p .nilslice)] false)), (oN (.store 6 (.t 1) (.t 11)))] []) (.seq (.reg [(oA 12 (.bslice 1 1 [(.p (.str []))] [(0, (.k (.v (.c (.p (.str [97]))))))] false)), (oA 13 (.build [(.p (.int .i64 0)), (.p (.bool false)), (.p (.int .i64 0)), (.p (.str [])), (.p .nilslice), (.p .nilslice)] [(0, 1, (.k (.v (.c (.p (.int .i64 2))))))])), (oA 14 (.build [(.p (.int .i64 0)), (.p (.bool false)), (.p (.int .i64 0)), (.p (.str [])), (.p .nilslice), (.p .nilslice)] [(0, 1, (.k (.v (.c (.p (.int .i64 3))))))])), (oA 15 (.bslice 6 2 [(.p (.int .i64 0)), (.p (.bool false)), (.p (.int .i64 0)), (.p (.str [])), (.p .nilslice), (.p .nilslice)] [(0, (.t 13)), (1, (.t 14))] false)), (oA 16 (.build [(.p (.int .i64 0)), (.p (.bool false)), (.p (.int .i64 0)), (.p (.str [])), (.p .nilslice), (.p .nilslice)] [(0, 1, (.k (.v (.c (.p (.int .i64 4)))))), (5, 1, (.t 15))])), (oA 17 (.bslice 6 1 [(.p (.int .i64 0)), (.p (.bool false)), (.p (.int .i64 0)), (.p (.str [])), (.p .nilslice), (.p .nilslice)] [(0, (.t 16))] false)), (oA 18 (.build [(.p (.int .i64 0)), (.p (.bool false)), (.p (.int .i64 0)), (.p (.str [])), (.p .nilslice), (.p .nilslice)] [(0, 1, (.k (.v (.c (.p (.int .i64 5)))))), (4, 1, (.t 12)), (5, 1, (.t 17))])), (oA 2 (.alloc [(.p (.int .i64 0)), (.p (.bool false)), (.p (.int .i64 0)), (.p (.str [])), (.p .nilslice), (.p .nilslice)] false)), (oN (.store 6 (.t 2) (.t 18)))] []) (.seq (.reg [(oA 20 (.load true 6 (.t 1))), (oA 21 (.faddr 0 (.t 1))), (oA 22 (.load true 4 (.t 21))), (oA 23 (.load true 6 (.t 2))), (oA 24 (.call (.k (.v (.c (.func 17 [])))) [(.t 20), (.t 22), (.t 23)])), (oA 19 (.mv (.t 24))), (oA 25 (.extract (.t 19) 0)), (oA 26 (.extract (.t 19) 1)), (oA 3 (.mv (.t 25))), (oA 4 (.mv (.t 26)))] []) (.seq (.reg [(oA 27 (.mv (.t 4))), (oA 28 (.bin .eql 0 (.t 27) (.k (.v (.c (.p (.int .i64 31))))))), (oA 29 (.mv (.t 28))), ⟨(some 30), (.mv (.t 3)), (some (29, true))⟩, ⟨(some 31), (.bin .eql 0 (.t 30) (.k (.v (.c (.p (.str [46, 97, 91, 49, 93])))))), (some (29, true))⟩, (oA 32 (.pick (.t 29) (.t 31) (.k (.v (.c (.p (.bool false))))))), (oA 0 (.mv (.t 32)))] []) .ret))))) }
theorem t13 : compF Tryd.prog (globs2 tabs opq) (fun _ => false) true Tryd.f13 = some c13.erase := by kernel_rfl
noncomputable def b13_0 (O : Oracle) (R : Jump) (q : Nat) (h : Heap) : Res1 :=
 vop O (.bslice 1 1 [(.p (.str []))] [(0, (.k (kS [97])))] false) h 5 fun x5 h =>
 vop O (.build [(.p (.int .i64 0)), (.p (.str [])), (.p .nilslice), (.p .nilslice)] [(0, 1, (.k (kI 2)))]) h 6 fun x6 h =>
 vop O (.bslice 4 1 [(.p (.int .i64 0)), (.p (.str [])), (.p .nilslice), (.p .nilslice)] [(0, (.k x6))] false) h 7 fun x7 h =>
 vop O (.build [(.p (.int .i64 0)), (.p (.str [])), (.p .nilslice), (.p .nilslice)] [(0, 1, (.k (kI 4))), (3, 1, (.k x7))]) h 8 fun x8 h =>
 vop O (.bslice 4 1 [(.p (.int .i64 0)), (.p (.str [])), (.p .nilslice), (.p .nilslice)] [(0, (.k x8))] false) h 9 fun x9 h =>
 vop O (.build [(.p (.int .i64 0)), (.p (.str [])), (.p .nilslice), (.p .nilslice)] [(0, 1, (.k (kI 7))), (2, 1, (.k x5)), (3, 1, (.k x9))]) h 10 fun x10 h =>
 vop O (.build [(.p (.int .i64 0)), (.p (.str [])), (.p .nilslice), (.p .nilslice), (.p .nilslice), (.p .nilslice)] [(0, 4, (.k x10))]) h 11 fun x11 h =>
 vop O (.alloc [(.p (.int .i64 0)), (.p (.str [])), (.p .nilslice), (.p .nilslice), (.p .nilslice), (.p .nilslice)] false) h 1 fun x1 h =>
 vstore 6 x1 x11 h fun _ h =>
 vop O (.bslice 1 1 [(.p (.str []))] [(0, (.k (kS [97])))] false) h 12 fun x12 h =>
 vop O (.build [(.p (.int .i64 0)), (.p (.bool false)), (.p (.int .i64 0)), (.p (.str [])), (.p .nilslice), (.p .nilslice)] [(0, 1, (.k (kI 2)))]) h 13 fun x13 h =>
 vop O (.build [(.p (.int .i64 0)), (.p (.bool false)), (.p (.int .i64 0)), (.p (.str [])), (.p .nilslice), (.p .nilslice)] [(0, 1, (.k (kI 3)))]) h 14 fun x14 h =>
 vop O (.bslice 6 2 [(.p (.int .i64 0)), (.p (.bool false)), (.p (.int .i64 0)), (.p (.str [])), (.p .nilslice), (.p .nilslice)] [(0, (.k x13)), (1, (.k x14))] false) h 15 fun x15 h =>
 vop O (.build [(.p (.int .i64 0)), (.p (.bool false)), (.p (.int .i64 0)), (.p (.str [])), (.p .nilslice), (.p .nilslice)] [(0, 1, (.k (kI 4))), (5, 1, (.k x15))]) h 16 fun x16 h =>
 vop O (.bslice 6 1 [(.p (.int .i64 0)), (.p (.bool false)), (.p (.int .i64 0)), (.p (.str [])), (.p .nilslice), (.p .nilslice)] [(0, (.k x16))] false) h 17 fun x17 h =>
 vop O (.build [(.p (.int .i64 0)), (.p (.bool false)), (.p (.int .i64 0)), (.p (.str [])), (.p .nilslice), (.p .nilslice)] [(0, 1, (.k (kI 5))), (4, 1, (.k x12)), (5, 1, (.k x17))]) h 18 fun x18 h =>
 vop O (.alloc [(.p (.int .i64 0)), (.p (.bool false)), (.p (.int .i64 0)), (.p (.str [])), (.p .nilslice), (.p .nilslice)] false) h 2 fun x2 h =>
 vstore 6 x2 x18 h fun _ h =>
 vload true 6 x1 h fun x20 h =>
 vfaddr 0 x1 h fun x21 h =>
 vload true 4 x21 h fun x22 h =>
 vload true 6 x2 h fun x23 h =>
 vcall O (.v (.c (.func 17 []))) [x20, x22, x23] h 24 fun x24 h =>
 vext x24 0 h fun x25 h =>
 vext x24 1 h fun x26 h =>
 vbin .eql 0 x26 (kI 31) h fun x28 h =>
 vguard x28 true (fun kk => kk x25 h) h fun x30 h =>
 vguard x28 true (fun kk => vbin .eql 0 x30 (kS [46, 97, 91, 49, 93]) h kk) h fun x31 h =>
 vop O (.pick (.k x28) (.k x31) (.k (kB false))) h 32 fun x32 h =>
 tcomp x32 fun c0 => vfin true q [c0] h
theorem e13_0 (O : Oracle) (R : Jump) (q : Nat) (h : Heap) : b13_0 O R q  h = stepF c13 O R q 0 [] h := by kernel_rfl
noncomputable def d13 : BlkF := fun O R q => [.z fun h => b13_0 O R q  h]
theorem o13 (O : Oracle) (R : Jump) (q : Nat) : HoldsAll c13 O R q 0 (d13 O R q) := ⟨fun  h => e13_0 O R q  h, trivial⟩
/- sprue/spruelaw14.within -/
def c14 : MFunc := { np := 2, res := [.t 4], frz := true, body := (.seq (.reg [(oA 4 (.mv (.k (.v (.c (.p (.int .i64 0)))))))] []) (.seq (.reg [(oA 6 (.mv (.t 0))), (oA 7 (.mv (.t 1))), (oA 8 (.bin .rem 0 (.t 6) (.t 7))), (oA 5 (.mv (.t 8)))] []) (.seq (.seq (.reg [(oA 9 (.mv (.t 5))), (oA 10 (.bin .lss 0 (.t 9) (.k (.v (.c (.p (.int .i64 0)))))))] []) (.cond (.t 10) (.reg [(oA 11 (.mv (.t 5))), (oA 12 (.mv (.t 1))), (oA 13 (.bin .add 0 (.t 11) (.t 12))), (oA 5 (.mv (.t 13)))] []) .skip)) (.seq (.reg [(oA 14 (.mv (.t 5))), (oA 4 (.mv (.t 14)))] []) .ret)))) }
theorem t14 : compF Tryd.prog (globs2 tabs opq) (fun _ => false) true Tryd.f14 = some c14.erase := by kernel_rfl
noncomputable def b14_0 (O : Oracle) (R : Jump) (q : Nat) (x0 x1 : TVal) (h : Heap) : Res1 :=
 vbin .rem 0 x0 x1 h fun x8 h =>
 vbin .lss 0 x8 (kI 0) h fun x10 h =>
 vif x10 (
 vbin .add 0 x8 x1 h fun x13 h =>
 tcomp x13 fun c0 => vfin true q [c0] h)
 (tcomp x8 fun c0 => vfin true q [c0] h)
theorem e14_0 (O : Oracle) (R : Jump) (q : Nat) (x0 x1 : TVal) (h : Heap) : b14_0 O R q x0 x1 h = stepF c14 O R q 0 [x0, x1] h := by kernel_rfl
noncomputable def d14 : BlkF := fun O R q => [.s fun y0 => .s fun y1 => .z fun h => b14_0 O R q y0 y1 h]
theorem o14 (O : Oracle) (R : Jump) (q : Nat) : HoldsAll c14 O R q 0 (d14 O R q) := ⟨fun y0 y1 h => e14_0 O R q y0 y1 h, trivial⟩
/- sprue/sprueref4.Check -/
def c15 : MFunc := { np := 1, res := [.t 2], frz := true, body := (.seq (.reg [(oA 1 (.box (.t 0) false)), (oA 2 (.mv (.k (.v (.c (.p (.int .i64 0)))))))] []) (.seq (.seq (.reg [(oA 12 (.faddr 4 (.t 1))), (oA 13 (.load false 1 (.t 12))), (oA 14 (.len 2 (.t 13))), (oA 15 (.bin .gtr 0 (.t 14) (.k (.v (.c (.p (.int .i64 12))))))), (oA 16 (.mv (.t 15))), ⟨(some 17), (.faddr 5 (.t 1)), (some (16, false))⟩, ⟨(some 18), (.load false 1 (.t 17)), (some (16, false))⟩, ⟨(some 19), (.len 2 (.t 18)), (some (16, false))⟩, ⟨(some 20), (.bin .gtr 0 (.t 19) (.k (.v (.c (.p (.int .i64 12)))))), (some (16, false))⟩, (oA 21 (.pick (.t 16) (.k (.v (.c (.p (.bool true))))) (.t 20)))] []) (.cond (.t 21) (.seq (.reg [(oA 2 (.mv (.k (.v (.c (.p (.int .i64 3)))))))] []) .ret) .skip)) (.seq (.seq (.reg [(oA 3 (.mv (.k (.v (.c (.p (.int .i64 0)))))))] []) (.block 0 (.loop 1 [1, 3] (.seq (.seq (.reg [(oA 22 (.mv (.t 3))), (oA 23 (.faddr 4 (.t 1))), (oA 24 (.load false 1 (.t 23))), (oA 25 (.len 2 (.t 24))), (oA 26 (.bin .lss 0 (.t 22) (.t 25)))] []) (.cond (.t 26) .skip (.exit 0))) (.seq (.block 1 (.seq (.seq (.reg [(oA 29 (.faddr 4 (.t 1))), (oA 30 (.load false 1 (.t 29))), (oA 31 (.mv (.t 3))), (oA 32 (.iaddr 5 (.t 30) (.t 31))), (oA 33 (.faddr 0 (.t 32))), (oA 34 (.load false 1 (.t 33))), (oA 35 (.call (.k (.v (.c (.func 49 [])))) [(.t 34)])), (oA 36 (.un .not (.t 35))), (oA 37 (.mv (.t 36))), ⟨(some 38), (.faddr 4 (.t 1)), (some (37, false))⟩, ⟨(some 39), (.load false 1 (.t 38)), (some (37, false))⟩, ⟨(some 40), (.mv (.t 3)), (some (37, false))⟩, ⟨(some 41), (.iaddr 5 (.t 39) (.t 40)), (some (37, false))⟩, ⟨(some 42), (.faddr 0 (.t 41)), (some (37, false))⟩, ⟨(some 43), (.load false 1 (.t 42)), (some (37, false))⟩, ⟨(some 44), (.call (.k (.v (.c (.func 50 [])))) [(.t 43)]), (some (37, false))⟩, (oA 45 (.pick (.t 37) (.k (.v (.c (.p (.bool true))))) (.t 44)))] []) (.cond (.t 45) (.seq (.reg [(oA 2 (.mv (.k (.v (.c (.p (.int .i64 15)))))))] []) .ret) .skip)) (.seq (.reg [(oA 46 (.mv (.t 3))), (oA 47 (.bin .gtr 0 (.t 46) (.k (.v (.c (.p (.int .i64 0))))))), (oA 48 (.mv (.t 47))), ⟨(some 49), (.faddr 4 (.t 1)), (some (48, true))⟩, ⟨(some 50), (.load false 1 (.t 49)), (some (48, true))⟩, ⟨(some 51), (.mv (.t 3)), (some (48, true))⟩, ⟨(some 52), (.iaddr 5 (.t 50) (.t 51)), (some (48, true))⟩, ⟨(some 53), (.faddr 0 (.t 52)), (some (48, true))⟩, ⟨(some 54), (.load false 1 (.t 53)), (some (48, true))⟩, ⟨(some 55), (.faddr 4 (.t 1)), (some (48, true))⟩, ⟨(some 56), (.load false 1 (.t 55)), (some (48, true))⟩, ⟨(some 57), (.mv (.t 3)), (some (48, true))⟩, ⟨(some 58), (.bin .sub 0 (.t 57) (.k (.v (.c (.p (.int .i64 1)))))), (some (48, true))⟩, ⟨(some 59), (.iaddr 5 (.t 56) (.t 58)), (some (48, true))⟩, ⟨(some 60), (.faddr 0 (.t 59)), (some (48, true))⟩, ⟨(some 61), (.load false 1 (.t 60)), (some (48, true))⟩, ⟨(some 62), (.bin .leq 0 (.t 54) (.t 61)), (some (48, true))⟩, (oA 63 (.pick (.t 48) (.t 62) (.k (.v (.c (.p (.bool false)))))))] []) (.cond (.t 63) (.seq (.reg [(oA 2 (.mv (.k (.v (.c (.p (.int .i64 6)))))))] []) .ret) .skip)))) (.reg [(oA 27 (.mv (.t 3))), (oA 28 (.bin .add 0 (.t 27) (.k (.v (.c (.p (.int .i64 1))))))), (oA 3 (.mv (.t 28)))] [])))))) (.mark 2 [1] (.seq (.reg [(oA 64 (.load true 6 (.t 1))), (oA 65 (.build [(.p (.int .i64 0)), (.p (.str [])), (.p .nilslice), (.p .nilslice), (.p .nilslice), (.p .nilslice), (.p (.int .i64 0))] [(0, 6, (.t 64))])), (oA 66 (.box (.t 65) false)), (oA 4 (.mv (.t 66)))] []) (.seq (.reg [(oA 5 (.mv (.k (.v (.c (.p (.int .i64 0)))))))] []) (.seq (.seq (.reg [(oA 6 (.mv (.k (.v (.c (.p (.int .i64 0)))))))] []) (.block 2 (.loop 3 [1, 4, 5, 6] (.seq (.seq (.reg [(oA 67 (.mv (.t 6))), (oA 68 (.faddr 4 (.t 1))), (oA 69 (.load false 1 (.t 68))), (oA 70 (.len 2 (.t 69))), (oA 71 (.bin .lss 0 (.t 67) (.t 70))), (oA 72 (.mv (.t 71))), ⟨(some 73), (.mv (.t 5)), (some (72, true))⟩, ⟨(some 74), (.bin .eql 0 (.t 73) (.k (.v (.c (.p (.int .i64 0)))))), (some (72, true))⟩, (oA 75 (.pick (.t 72) (.t 74) (.k (.v (.c (.p (.bool false)))))))] []) (.cond (.t 75) .skip (.exit 2))) (.seq (.block 3 (.reg [(oA 78 (.mv (.t 4))), (oA 79 (.faddr 4 (.t 1))), (oA 80 (.load false 1 (.t 79))), (oA 81 (.mv (.t 6))), (oA 82 (.iaddr 5 (.t 80) (.t 81))), (oA 83 (.faddr 1 (.t 82))), (oA 84 (.load true 4 (.t 83))), (oA 85 (.call (.k (.v (.c (.func 51 [])))) [(.t 78), (.t 84), (.k (.v (.c (.p (.int .i64 1)))))])), (oA 5 (.mv (.t 85)))] [])) (.reg [(oA 76 (.mv (.t 6))), (oA 77 (.bin .add 0 (.t 76) (.k (.v (.c (.p (.int .i64 1))))))), (oA 6 (.mv (.t 77)))] [])))))) (.mark 4 [1, 4, 5] (.seq (.seq (.reg [(oA 86 (.mv (.t 5))), (oA 87 (.bin .eql 0 (.t 86) (.k (.v (.c (.p (.int .i64 0)))))))] []) (.cond (.t 87) (.reg [(oA 88 (.mv (.t 4))), (oA 89 (.faddr 0 (.t 1))), (oA 90 (.load true 4 (.t 89))), (oA 91 (.call (.k (.v (.c (.func 51 [])))) [(.t 88), (.t 90), (.k (.v (.c (.p (.int .i64 1)))))])), (oA 5 (.mv (.t 91)))] []) .skip)) (.mark 5 [1, 4, 5] (.seq (.seq (.reg [(oA 92 (.mv (.t 5))), (oA 93 (.bin .neq 0 (.t 92) (.k (.v (.c (.p (.int .i64 0)))))))] []) (.cond (.t 93) (.seq (.reg [(oA 94 (.mv (.t 5))), (oA 2 (.mv (.t 94)))] []) .ret) .skip)) (.seq (.seq (.reg [(oA 7 (.mv (.k (.v (.c (.p (.int .i64 0)))))))] []) (.block 4 (.loop 6 [1, 4, 5, 7] (.seq (.seq (.reg [(oA 95 (.mv (.t 7))), (oA 96 (.faddr 5 (.t 1))), (oA 97 (.load false 1 (.t 96))), (oA 98 (.len 2 (.t 97))), (oA 99 (.bin .lss 0 (.t 95) (.t 98)))] []) (.cond (.t 99) .skip (.exit 4))) (.seq (.block 5 (.seq (.reg [(oA 102 (.faddr 5 (.t 1))), (oA 103 (.load false 1 (.t 102))), (oA 104 (.mv (.t 7))), (oA 105 (.iaddr 6 (.t 103) (.t 104))), (oA 106 (.load true 6 (.t 105))), (oA 8 (.alloc [(.p (.str [])), (.p .nilslice), (.p (.int .i64 0)), (.p (.str [])), (.p .nilslice), (.p .nilslice)] false)), (oN (.store 6 (.t 8) (.t 106)))] []) (.seq (.seq (.reg [(oA 107 (.faddr 0 (.t 8))), (oA 108 (.load false 1 (.t 107))), (oA 109 (.call (.k (.v (.c (.func 49 [])))) [(.t 108)])), (oA 110 (.un .not (.t 109))), (oA 111 (.mv (.t 110))), ⟨(some 112), (.faddr 0 (.t 8)), (some (111, false))⟩, ⟨(some 113), (.load false 1 (.t 112)), (some (111, false))⟩, ⟨(some 114), (.call (.k (.v (.c (.func 52 [])))) [(.t 113)]), (some (111, false))⟩, (oA 115 (.pick (.t 111) (.k (.v (.c (.p (.bool true))))) (.t 114)))] []) (.cond (.t 115) (.seq (.reg [(oA 2 (.mv (.k (.v (.c (.p (.int .i64 15)))))))] []) .ret) .skip)) (.seq (.seq (.reg [(oA 116 (.mv (.t 7))), (oA 117 (.bin .gtr 0 (.t 116) (.k (.v (.c (.p (.int .i64 0))))))), (oA 118 (.mv (.t 117))), ⟨(some 119), (.faddr 0 (.t 8)), (some (118, true))⟩, ⟨(some 120), (.load false 1 (.t 119)), (some (118, true))⟩, ⟨(some 121), (.faddr 5 (.t 1)), (some (118, true))⟩, ⟨(some 122), (.load false 1 (.t 121)), (some (118, true))⟩, ⟨(some 123), (.mv (.t 7)), (some (118, true))⟩, ⟨(some 124), (.bin .sub 0 (.t 123) (.k (.v (.c (.p (.int .i64 1)))))), (some (118, true))⟩, ⟨(some 125), (.iaddr 6 (.t 122) (.t 124)), (some (118, true))⟩, ⟨(some 126), (.faddr 0 (.t 125)), (some (118, true))⟩, ⟨(some 127), (.load false 1 (.t 126)), (some (118, true))⟩, ⟨(some 128), (.bin .leq 0 (.t 120) (.t 127)), (some (118, true))⟩, (oA 129 (.pick (.t 118) (.t 128) (.k (.v (.c (.p (.bool false)))))))] []) (.cond (.t 129) (.seq (.reg [(oA 2 (.mv (.k (.v (.c (.p (.int .i64 6)))))))] []) .ret) .skip)) (.seq (.seq (.reg [(oA 130 (.faddr 1 (.t 8))), (oA 131 (.load false 1 (.t 130))), (oA 132 (.len 2 (.t 131))), (oA 133 (.bin .gtr 0 (.t 132) (.k (.v (.c (.p (.int .i64 4)))))))] []) (.cond (.t 133) (.seq (.reg [(oA 2 (.mv (.k (.v (.c (.p (.int .i64 18)))))))] []) .ret) .skip)) (.seq (.seq (.reg [(oA 9 (.mv (.k (.v (.c (.p (.int .i64 0)))))))] []) (.block 6 (.loop 7 [1, 4, 5, 7, 8, 9] (.seq (.seq (.reg [(oA 134 (.mv (.t 9))), (oA 135 (.faddr 1 (.t 8))), (oA 136 (.load false 1 (.t 135))), (oA 137 (.len 2 (.t 136))), (oA 138 (.bin .lss 0 (.t 134) (.t 137))), (oA 139 (.mv (.t 138))), ⟨(some 140), (.mv (.t 5)), (some (139, true))⟩, ⟨(some 141), (.bin .eql 0 (.t 140) (.k (.v (.c (.p (.int .i64 0)))))), (some (139, true))⟩, (oA 142 (.pick (.t 139) (.t 141) (.k (.v (.c (.p (.bool false)))))))] []) (.cond (.t 142) .skip (.exit 6))) (.seq (.block 7 (.reg [(oA 145 (.mv (.t 4))), (oA 146 (.faddr 1 (.t 8))), (oA 147 (.load false 1 (.t 146))), (oA 148 (.mv (.t 9))), (oA 149 (.iaddr 4 (.t 147) (.t 148))), (oA 150 (.load true 4 (.t 149))), (oA 151 (.call (.k (.v (.c (.func 51 [])))) [(.t 145), (.t 150), (.k (.v (.c (.p (.int .i64 1)))))])), (oA 5 (.mv (.t 151)))] [])) (.reg [(oA 143 (.mv (.t 9))), (oA 144 (.bin .add 0 (.t 143) (.k (.v (.c (.p (.int .i64 1))))))), (oA 9 (.mv (.t 144)))] [])))))) (.mark 8 [1, 4, 5, 7, 8] (.seq (.seq (.reg [(oA 152 (.mv (.t 5))), (oA 153 (.bin .eql 0 (.t 152) (.k (.v (.c (.p (.int .i64 0)))))))] []) (.cond (.t 153) (.reg [(oA 154 (.mv (.t 4))), (oA 155 (.faddr 2 (.t 8))), (oA 156 (.load true 4 (.t 155))), (oA 157 (.call (.k (.v (.c (.func 51 [])))) [(.t 154), (.t 156), (.k (.v (.c (.p (.int .i64 1)))))])), (oA 5 (.mv (.t 157)))] []) .skip)) (.mark 9 [1, 4, 5, 7] (.seq (.reg [(oA 158 (.mv (.t 5))), (oA 159 (.bin .neq 0 (.t 158) (.k (.v (.c (.p (.int .i64 0)))))))] []) (.cond (.t 159) (.seq (.reg [(oA 160 (.mv (.t 5))), (oA 2 (.mv (.t 160)))] []) .ret) .skip))))))))))) (.mark 10 [1, 4, 5, 7] (.reg [(oA 100 (.mv (.t 7))), (oA 101 (.bin .add 0 (.t 100) (.k (.v (.c (.p (.int .i64 1))))))), (oA 7 (.mv (.t 101)))] []))))))) (.mark 11 [1] (.seq (.seq (.reg [(oA 161 (.load true 6 (.t 1))), (oA 162 (.call (.k (.v (.c (.func 53 [])))) [(.t 161)])), (oA 163 (.len 2 (.t 162))), (oA 164 (.faddr 4 (.t 1))), (oA 165 (.load false 1 (.t 164))), (oA 166 (.len 2 (.t 165))), (oA 167 (.bin .neq 0 (.t 163) (.t 166)))] [(1, 4), (1, 5)]) (.cond (.t 167) (.seq (.reg [(oA 2 (.mv (.k (.v (.c (.p (.int .i64 14)))))))] []) .ret) .skip)) (.seq (.reg [(oA 168 (.load true 6 (.t 1))), (oA 169 (.call (.k (.v (.c (.func 54 [])))) [(.t 168)])), (oA 10 (.mv (.t 169)))] []) (.seq (.seq (.reg [(oA 11 (.mv (.k (.v (.c (.p (.int .i64 0)))))))] []) (.block 8 (.loop 12 [1, 10, 11] (.seq (.seq (.reg [(oA 170 (.mv (.t 11))), (oA 171 (.mv (.t 10))), (oA 172 (.len 2 (.t 171))), (oA 173 (.bin .lss 0 (.t 170) (.t 172)))] []) (.cond (.t 173) .skip (.exit 8))) (.seq (.block 9 (.seq (.reg [(oA 176 (.load true 6 (.t 1))), (oA 177 (.mv (.t 10))), (oA 178 (.mv (.t 11))), (oA 179 (.iaddr 4 (.t 177) (.t 178))), (oA 180 (.load true 4 (.t 179))), (oA 181 (.call (.k (.v (.c (.func 55 [])))) [(.t 176), (.t 180)]))] []) (.cond (.t 181) (.seq (.reg [(oA 2 (.mv (.k (.v (.c (.p (.int .i64 17)))))))] []) .ret) .skip))) (.reg [(oA 174 (.mv (.t 11))), (oA 175 (.bin .add 0 (.t 174) (.k (.v (.c (.p (.int .i64 1))))))), (oA 11 (.mv (.t 175)))] [])))))) (.seq (.reg [(oA 2 (.mv (.k (.v (.c (.p (.int .i64 0)))))))] []) .ret))))))))))))))))) }
theorem t15 : compF Tryd.prog (globs2 tabs opq) (fun _ => false) true Tryd.f15 = some c15.erase := by kernel_rfl
noncomputable def b15_0 (O : Oracle) (R : Jump) (q : Nat) (x0 : TVal) (h : Heap) : Res1 :=
 vop O (.box (.k x0) false) h 1 fun x1 h =>
 vfaddr 4 x1 h fun x12 h =>
 vload false 1 x12 h fun x13 h =>
 vlen O 2 x13 h 14 fun x14 h =>
 vbin .gtr 0 x14 (kI 12) h fun x15 h =>
 vguard x15 false (fun kk => vfaddr 5 x1 h kk) h fun x17 h =>
 vguard x15 false (fun kk => vload false 1 x17 h kk) h fun x18 h =>
 vguard x15 false (fun kk => vlen O 2 x18 h 19 kk) h fun x19 h =>
 vguard x15 false (fun kk => vbin .gtr 0 x19 (kI 12) h kk) h fun x20 h =>
 vop O (.pick (.k x15) (.k (kB true)) (.k x20)) h 21 fun x21 h =>
 vif x21 (
 tcomp (kI 3) fun c0 => vfin true q [c0] h)
 (R 1 [x1, (kI 0)] h)
theorem e15_0 (O : Oracle) (R : Jump) (q : Nat) (x0 : TVal) (h : Heap) : b15_0 O R q x0 h = stepF c15 O R q 0 [x0] h := by kernel_rfl
noncomputable def b15_1 (O : Oracle) (R : Jump) (q : Nat) (x1 x3 : TVal) (h : Heap) : Res1 :=
 vfaddr 4 x1 h fun x23 h =>
 vload false 1 x23 h fun x24 h =>
 vlen O 2 x24 h 25 fun x25 h =>
 vbin .lss 0 x3 x25 h fun x26 h =>
 vif x26 (
 vfaddr 4 x1 h fun x29 h =>
 vload false 1 x29 h fun x30 h =>
 viaddr 5 x30 x3 h fun x32 h =>
 vfaddr 0 x32 h fun x33 h =>
 vload false 1 x33 h fun x34 h =>
 vcall O (.v (.c (.func 49 []))) [x34] h 35 fun x35 h =>
 vop O (.un .not (.k x35)) h 36 fun x36 h =>
 vguard x36 false (fun kk => vfaddr 4 x1 h kk) h fun x38 h =>
 vguard x36 false (fun kk => vload false 1 x38 h kk) h fun x39 h =>
 vguard x36 false (fun kk => kk x3 h) h fun x40 h =>
 vguard x36 false (fun kk => viaddr 5 x39 x40 h kk) h fun x41 h =>
 vguard x36 false (fun kk => vfaddr 0 x41 h kk) h fun x42 h =>
 vguard x36 false (fun kk => vload false 1 x42 h kk) h fun x43 h =>
 vguard x36 false (fun kk => vcall O (.v (.c (.func 50 []))) [x43] h 44 kk) h fun x44 h =>
 vop O (.pick (.k x36) (.k (kB true)) (.k x44)) h 45 fun x45 h =>
 vif x45 (
 tcomp (kI 15) fun c0 => vfin true q [c0] h)
 (vbin .gtr 0 x3 (kI 0) h fun x47 h =>
 vguard x47 true (fun kk => vfaddr 4 x1 h kk) h fun x49 h =>
 vguard x47 true (fun kk => vload false 1 x49 h kk) h fun x50 h =>
 vguard x47 true (fun kk => kk x3 h) h fun x51 h =>
 vguard x47 true (fun kk => viaddr 5 x50 x51 h kk) h fun x52 h =>
 vguard x47 true (fun kk => vfaddr 0 x52 h kk) h fun x53 h =>
 vguard x47 true (fun kk => vload false 1 x53 h kk) h fun x54 h =>
 vguard x47 true (fun kk => vfaddr 4 x1 h kk) h fun x55 h =>
 vguard x47 true (fun kk => vload false 1 x55 h kk) h fun x56 h =>
 vguard x47 true (fun kk => kk x3 h) h fun x57 h =>
 vguard x47 true (fun kk => vbin .sub 0 x57 (kI 1) h kk) h fun x58 h =>
 vguard x47 true (fun kk => viaddr 5 x56 x58 h kk) h fun x59 h =>
 vguard x47 true (fun kk => vfaddr 0 x59 h kk) h fun x60 h =>
 vguard x47 true (fun kk => vload false 1 x60 h kk) h fun x61 h =>
 vguard x47 true (fun kk => vbin .leq 0 x54 x61 h kk) h fun x62 h =>
 vop O (.pick (.k x47) (.k x62) (.k (kB false))) h 63 fun x63 h =>
 vif x63 (
 tcomp (kI 6) fun c0 => vfin true q [c0] h)
 (vbin .add 0 x3 (kI 1) h fun x28 h =>
 R 1 [x1, x28] h)))
 (R 2 [x1] h)
theorem e15_1 (O : Oracle) (R : Jump) (q : Nat) (x1 x3 : TVal) (h : Heap) : b15_1 O R q x1 x3 h = stepF c15 O R q 1 [x1, x3] h := by kernel_rfl
noncomputable def b15_2 (O : Oracle) (R : Jump) (q : Nat) (x1 : TVal) (h : Heap) : Res1 :=
 vload true 6 x1 h fun x64 h =>
 vop O (.build [(.p (.int .i64 0)), (.p (.str [])), (.p .nilslice), (.p .nilslice), (.p .nilslice), (.p .nilslice), (.p (.int .i64 0))] [(0, 6, (.k x64))]) h 65 fun x65 h =>
 vop O (.box (.k x65) false) h 66 fun x66 h =>
 R 3 [x1, x66, (kI 0), (kI 0)] h
theorem e15_2 (O : Oracle) (R : Jump) (q : Nat) (x1 : TVal) (h : Heap) : b15_2 O R q x1 h = stepF c15 O R q 2 [x1] h := by kernel_rfl
noncomputable def b15_3 (O : Oracle) (R : Jump) (q : Nat) (x1 x4 x5 x6 : TVal) (h : Heap) : Res1 :=
 vfaddr 4 x1 h fun x68 h =>
 vload false 1 x68 h fun x69 h =>
 vlen O 2 x69 h 70 fun x70 h =>
 vbin .lss 0 x6 x70 h fun x71 h =>
 vguard x71 true (fun kk => kk x5 h) h fun x73 h =>
 vguard x71 true (fun kk => vbin .eql 0 x73 (kI 0) h kk) h fun x74 h =>
 vop O (.pick (.k x71) (.k x74) (.k (kB false))) h 75 fun x75 h =>
 vif x75 (
 vfaddr 4 x1 h fun x79 h =>
 vload false 1 x79 h fun x80 h =>
 viaddr 5 x80 x6 h fun x82 h =>
 vfaddr 1 x82 h fun x83 h =>
 vload true 4 x83 h fun x84 h =>
 vcall O (.v (.c (.func 51 []))) [x4, x84, (kI 1)] h 85 fun x85 h =>
 vbin .add 0 x6 (kI 1) h fun x77 h =>
 R 3 [x1, x4, x85, x77] h)
 (R 4 [x1, x4, x5] h)
theorem e15_3 (O : Oracle) (R : Jump) (q : Nat) (x1 x4 x5 x6 : TVal) (h : Heap) : b15_3 O R q x1 x4 x5 x6 h = stepF c15 O R q 3 [x1, x4, x5, x6] h := by kernel_rfl
noncomputable def b15_4 (O : Oracle) (R : Jump) (q : Nat) (x1 x4 x5 : TVal) (h : Heap) : Res1 :=
 vbin .eql 0 x5 (kI 0) h fun x87 h =>
 vif x87 (
 vfaddr 0 x1 h fun x89 h =>
 vload true 4 x89 h fun x90 h =>
 vcall O (.v (.c (.func 51 []))) [x4, x90, (kI 1)] h 91 fun x91 h =>
 R 5 [x1, x4, x91] h)
 (R 5 [x1, x4, x5] h)
theorem e15_4 (O : Oracle) (R : Jump) (q : Nat) (x1 x4 x5 : TVal) (h : Heap) : b15_4 O R q x1 x4 x5 h = stepF c15 O R q 4 [x1, x4, x5] h := by kernel_rfl
noncomputable def b15_5 (O : Oracle) (R : Jump) (q : Nat) (x1 x4 x5 : TVal) (h : Heap) : Res1 :=
 vbin .neq 0 x5 (kI 0) h fun x93 h =>
 vif x93 (
 tcomp x5 fun c0 => vfin true q [c0] h)
 (R 6 [x1, x4, x5, (kI 0)] h)
theorem e15_5 (O : Oracle) (R : Jump) (q : Nat) (x1 x4 x5 : TVal) (h : Heap) : b15_5 O R q x1 x4 x5 h = stepF c15 O R q 5 [x1, x4, x5] h := by kernel_rfl
noncomputable def b15_6 (O : Oracle) (R : Jump) (q : Nat) (x1 x4 x5 x7 : TVal) (h : Heap) : Res1 :=
 vfaddr 5 x1 h fun x96 h =>
 vload false 1 x96 h fun x97 h =>
 vlen O 2 x97 h 98 fun x98 h =>
 vbin .lss 0 x7 x98 h fun x99 h =>
 vif x99 (
 vfaddr 5 x1 h fun x102 h =>
 vload false 1 x102 h fun x103 h =>
 viaddr 6 x103 x7 h fun x105 h =>
 vload true 6 x105 h fun x106 h =>
 vop O (.alloc [(.p (.str [])), (.p .nilslice), (.p (.int .i64 0)), (.p (.str [])), (.p .nilslice), (.p .nilslice)] false) h 8 fun x8 h =>
 vstore 6 x8 x106 h fun _ h =>
 vfaddr 0 x8 h fun x107 h =>
 vload false 1 x107 h fun x108 h =>
 vcall O (.v (.c (.func 49 []))) [x108] h 109 fun x109 h =>
 vop O (.un .not (.k x109)) h 110 fun x110 h =>
 vguard x110 false (fun kk => vfaddr 0 x8 h kk) h fun x112 h =>
 vguard x110 false (fun kk => vload false 1 x112 h kk) h fun x113 h =>
 vguard x110 false (fun kk => vcall O (.v (.c (.func 52 []))) [x113] h 114 kk) h fun x114 h =>
 vop O (.pick (.k x110) (.k (kB true)) (.k x114)) h 115 fun x115 h =>
 vif x115 (
 tcomp (kI 15) fun c0 => vfin true q [c0] h)
 (vbin .gtr 0 x7 (kI 0) h fun x117 h =>
 vguard x117 true (fun kk => vfaddr 0 x8 h kk) h fun x119 h =>
 vguard x117 true (fun kk => vload false 1 x119 h kk) h fun x120 h =>
 vguard x117 true (fun kk => vfaddr 5 x1 h kk) h fun x121 h =>
 vguard x117 true (fun kk => vload false 1 x121 h kk) h fun x122 h =>
 vguard x117 true (fun kk => kk x7 h) h fun x123 h =>
 vguard x117 true (fun kk => vbin .sub 0 x123 (kI 1) h kk) h fun x124 h =>
 vguard x117 true (fun kk => viaddr 6 x122 x124 h kk) h fun x125 h =>
 vguard x117 true (fun kk => vfaddr 0 x125 h kk) h fun x126 h =>
 vguard x117 true (fun kk => vload false 1 x126 h kk) h fun x127 h =>
 vguard x117 true (fun kk => vbin .leq 0 x120 x127 h kk) h fun x128 h =>
 vop O (.pick (.k x117) (.k x128) (.k (kB false))) h 129 fun x129 h =>
 vif x129 (
 tcomp (kI 6) fun c0 => vfin true q [c0] h)
 (vfaddr 1 x8 h fun x130 h =>
 vload false 1 x130 h fun x131 h =>
 vlen O 2 x131 h 132 fun x132 h =>
 vbin .gtr 0 x132 (kI 4) h fun x133 h =>
 vif x133 (
 tcomp (kI 18) fun c0 => vfin true q [c0] h)
 (R 7 [x1, x4, x5, x7, x8, (kI 0)] h))))
 (R 11 [x1] h)
theorem e15_6 (O : Oracle) (R : Jump) (q : Nat) (x1 x4 x5 x7 : TVal) (h : Heap) : b15_6 O R q x1 x4 x5 x7 h = stepF c15 O R q 6 [x1, x4, x5, x7] h := by kernel_rfl
noncomputable def b15_7 (O : Oracle) (R : Jump) (q : Nat) (x1 x4 x5 x7 x8 x9 : TVal) (h : Heap) : Res1 :=
 vfaddr 1 x8 h fun x135 h =>
 vload false 1 x135 h fun x136 h =>
 vlen O 2 x136 h 137 fun x137 h =>
 vbin .lss 0 x9 x137 h fun x138 h =>
 vguard x138 true (fun kk => kk x5 h) h fun x140 h =>
 vguard x138 true (fun kk => vbin .eql 0 x140 (kI 0) h kk) h fun x141 h =>
 vop O (.pick (.k x138) (.k x141) (.k (kB false))) h 142 fun x142 h =>
 vif x142 (
 vfaddr 1 x8 h fun x146 h =>
 vload false 1 x146 h fun x147 h =>
 viaddr 4 x147 x9 h fun x149 h =>
 vload true 4 x149 h fun x150 h =>
 vcall O (.v (.c (.func 51 []))) [x4, x150, (kI 1)] h 151 fun x151 h =>
 vbin .add 0 x9 (kI 1) h fun x144 h =>
 R 7 [x1, x4, x151, x7, x8, x144] h)
 (R 8 [x1, x4, x5, x7, x8] h)
theorem e15_7 (O : Oracle) (R : Jump) (q : Nat) (x1 x4 x5 x7 x8 x9 : TVal) (h : Heap) : b15_7 O R q x1 x4 x5 x7 x8 x9 h = stepF c15 O R q 7 [x1, x4, x5, x7, x8, x9] h := by kernel_rfl
noncomputable def b15_8 (O : Oracle) (R : Jump) (q : Nat) (x1 x4 x5 x7 x8 : TVal) (h : Heap) : Res1 :=
 vbin .eql 0 x5 (kI 0) h fun x153 h =>
 vif x153 (
 vfaddr 2 x8 h fun x155 h =>
 vload true 4 x155 h fun x156 h =>
 vcall O (.v (.c (.func 51 []))) [x4, x156, (kI 1)] h 157 fun x157 h =>
 R 9 [x1, x4, x157, x7] h)
 (R 9 [x1, x4, x5, x7] h)
theorem e15_8 (O : Oracle) (R : Jump) (q : Nat) (x1 x4 x5 x7 x8 : TVal) (h : Heap) : b15_8 O R q x1 x4 x5 x7 x8 h = stepF c15 O R q 8 [x1, x4, x5, x7, x8] h := by kernel_rfl
noncomputable def b15_9 (O : Oracle) (R : Jump) (q : Nat) (x1 x4 x5 x7 : TVal) (h : Heap) : Res1 :=
 vbin .neq 0 x5 (kI 0) h fun x159 h =>
 vif x159 (
 tcomp x5 fun c0 => vfin true q [c0] h)
 (R 10 [x1, x4, x5, x7] h)
theorem e15_9 (O : Oracle) (R : Jump) (q : Nat) (x1 x4 x5 x7 : TVal) (h : Heap) : b15_9 O R q x1 x4 x5 x7 h = stepF c15 O R q 9 [x1, x4, x5, x7] h := by kernel_rfl
noncomputable def b15_10 (O : Oracle) (R : Jump) (q : Nat) (x1 x4 x5 x7 : TVal) (h : Heap) : Res1 :=
 vbin .add 0 x7 (kI 1) h fun x101 h =>
 R 6 [x1, x4, x5, x101] h
theorem e15_10 (O : Oracle) (R : Jump) (q : Nat) (x1 x4 x5 x7 : TVal) (h : Heap) : b15_10 O R q x1 x4 x5 x7 h = stepF c15 O R q 10 [x1, x4, x5, x7] h := by kernel_rfl
noncomputable def b15_11 (O : Oracle) (R : Jump) (q : Nat) (x1 : TVal) (h : Heap) : Res1 :=
 vtouch O (.load true 6 (.k x1)) h 161 fun x161 h t0 =>
 vtouch O (.call (.k (.v (.c (.func 53 [])))) [(.k x161)]) h 162 fun x162 h t1 =>
 vtouch O (.len 2 (.k x162)) h 163 fun x163 h t2 =>
 vtouch O (.faddr 4 (.k x1)) h 164 fun x164 h t3 =>
 vtouch O (.load false 1 (.k x164)) h 165 fun x165 h t4 =>
 vtouch O (.len 2 (.k x165)) h 166 fun x166 h t5 =>
 vtouch O (.bin .neq 0 (.k x163) (.k x166)) h 167 fun x167 h t6 =>
 bif apartAll [t0, t1, t2, t3, t4, t5, t6] [(1, 4), (1, 5)] then
 vif x167 (
 tcomp (kI 14) fun c0 => vfin true q [c0] h)
 (vload true 6 x1 h fun x168 h =>
 vcall O (.v (.c (.func 54 []))) [x168] h 169 fun x169 h =>
 R 12 [x1, x169, (kI 0)] h)
 else none
theorem e15_11 (O : Oracle) (R : Jump) (q : Nat) (x1 : TVal) (h : Heap) : b15_11 O R q x1 h = stepF c15 O R q 11 [x1] h := by kernel_rfl
noncomputable def b15_12 (O : Oracle) (R : Jump) (q : Nat) (x1 x10 x11 : TVal) (h : Heap) : Res1 :=
 vlen O 2 x10 h 172 fun x172 h =>
 vbin .lss 0 x11 x172 h fun x173 h =>
 vif x173 (
 vload true 6 x1 h fun x176 h =>
 viaddr 4 x10 x11 h fun x179 h =>
 vload true 4 x179 h fun x180 h =>
 vcall O (.v (.c (.func 55 []))) [x176, x180] h 181 fun x181 h =>
 vif x181 (
 tcomp (kI 17) fun c0 => vfin true q [c0] h)
 (vbin .add 0 x11 (kI 1) h fun x175 h =>
 R 12 [x1, x10, x175] h))
 (tcomp (kI 0) fun c0 => vfin true q [c0] h)
theorem e15_12 (O : Oracle) (R : Jump) (q : Nat) (x1 x10 x11 : TVal) (h : Heap) : b15_12 O R q x1 x10 x11 h = stepF c15 O R q 12 [x1, x10, x11] h := by kernel_rfl
noncomputable def d15 : BlkF := fun O R q => [.s fun y0 => .z fun h => b15_0 O R q y0 h, .s fun y0 => .s fun y1 => .z fun h => b15_1 O R q y0 y1 h, .s fun y0 => .z fun h => b15_2 O R q y0 h, .s fun y0 => .s fun y1 => .s fun y2 => .s fun y3 => .z fun h => b15_3 O R q y0 y1 y2 y3 h, .s fun y0 => .s fun y1 => .s fun y2 => .z fun h => b15_4 O R q y0 y1 y2 h, .s fun y0 => .s fun y1 => .s fun y2 => .z fun h => b15_5 O R q y0 y1 y2 h, .s fun y0 => .s fun y1 => .s fun y2 => .s fun y3 => .z fun h => b15_6 O R q y0 y1 y2 y3 h, .s fun y0 => .s fun y1 => .s fun y2 => .s fun y3 => .s fun y4 => .s fun y5 => .z fun h => b15_7 O R q y0 y1 y2 y3 y4 y5 h, .s fun y0 => .s fun y1 => .s fun y2 => .s fun y3 => .s fun y4 => .z fun h => b15_8 O R q y0 y1 y2 y3 y4 h, .s fun y0 => .s fun y1 => .s fun y2 => .s fun y3 => .z fun h => b15_9 O R q y0 y1 y2 y3 h, .s fun y0 => .s fun y1 => .s fun y2 => .s fun y3 => .z fun h => b15_10 O R q y0 y1 y2 y3 h, .s fun y0 => .z fun h => b15_11 O R q y0 h, .s fun y0 => .s fun y1 => .s fun y2 => .z fun h => b15_12 O R q y0 y1 y2 h]
theorem o15 (O : Oracle) (R : Jump) (q : Nat) : HoldsAll c15 O R q 0 (d15 O R q) := ⟨fun y0 h => e15_0 O R q y0 h, fun y0 y1 h => e15_1 O R q y0 y1 h, fun y0 h => e15_2 O R q y0 h, fun y0 y1 y2 y3 h => e15_3 O R q y0 y1 y2 y3 h, fun y0 y1 y2 h => e15_4 O R q y0 y1 y2 h, fun y0 y1 y2 h => e15_5 O R q y0 y1 y2 h, fun y0 y1 y2 y3 h => e15_6 O R q y0 y1 y2 y3 h, fun y0 y1 y2 y3 y4 y5 h => e15_7 O R q y0 y1 y2 y3 y4 y5 h, fun y0 y1 y2 y3 y4 h => e15_8 O R q y0 y1 y2 y3 y4 h, fun y0 y1 y2 y3 h => e15_9 O R q y0 y1 y2 y3 h, fun y0 y1 y2 y3 h => e15_10 O R q y0 y1 y2 y3 h, fun y0 h => e15_11 O R q y0 h, fun y0 y1 y2 h => e15_12 O R q y0 y1 y2 h, trivial⟩
/- sprue/sprueref13.Check -/
def c16 : MFunc := { np := 1, res := [.t 2], frz := true, body := (.seq (.reg [(oA 1 (.box (.t 0) false)), (oA 2 (.mv (.k (.v (.c (.p (.int .i64 0)))))))] []) (.seq (.reg [(oA 4 (.build [(.p (.int .i64 0))] [])), (oA 5 (.box (.t 4) false)), (oA 3 (.mv (.t 5)))] []) (.seq (.reg [(oA 6 (.mv (.t 3))), (oA 7 (.load true 6 (.t 1))), (oA 8 (.call (.k (.v (.c (.func 56 [])))) [(.t 6), (.t 7), (.k (.v (.c (.p (.int .i64 1)))))])), (oA 2 (.mv (.t 8)))] []) .ret))) }
theorem t16 : compF Tryd.prog (globs2 tabs opq) (fun _ => false) true Tryd.f16 = some c16.erase := by kernel_rfl
noncomputable def b16_0 (O : Oracle) (R : Jump) (q : Nat) (x0 : TVal) (h : Heap) : Res1 :=
 vop O (.box (.k x0) false) h 1 fun x1 h =>
 vop O (.build [(.p (.int .i64 0))] []) h 4 fun x4 h =>
 vop O (.box (.k x4) false) h 5 fun x5 h =>
 vload true 6 x1 h fun x7 h =>
 vcall O (.v (.c (.func 56 []))) [x5, x7, (kI 1)] h 8 fun x8 h =>
 tcomp x8 fun c0 => vfin true q [c0] h
theorem e16_0 (O : Oracle) (R : Jump) (q : Nat) (x0 : TVal) (h : Heap) : b16_0 O R q x0 h = stepF c16 O R q 0 [x0] h := by kernel_rfl
noncomputable def d16 : BlkF := fun O R q => [.s fun y0 => .z fun h => b16_0 O R q y0 h]
theorem o16 (O : Oracle) (R : Jump) (q : Nat) : HoldsAll c16 O R q 0 (d16 O R q) := ⟨fun y0 h => e16_0 O R q y0 h, trivial⟩
/- sprue/fits.Fit -/
def c17 : MFunc := { np := 3, res := [.t 6, .t 7], frz := true, body := (.seq (.reg [(oA 3 (.box (.t 0) false)), (oA 4 (.box (.t 1) false)), (oA 5 (.box (.t 2) false)), (oA 6 (.mv (.k (.v (.c (.p (.str []))))))), (oA 7 (.mv (.k (.v (.c (.p (.int .i64 0)))))))] []) (.seq (.seq (.reg [(oA 11 (.load true 6 (.t 3))), (oA 12 (.call (.k (.v (.c (.func 57 [])))) [(.t 11)])), (oA 13 (.load true 4 (.t 4))), (oA 14 (.load true 6 (.t 5))), (oA 15 (.call (.k (.v (.c (.func 58 [])))) [(.t 12), (.t 13), (.t 14)])), (oA 10 (.mv (.t 15))), (oA 16 (.extract (.t 10) 0)), (oA 17 (.extract (.t 10) 1)), (oA 8 (.mv (.t 16))), (oA 9 (.mv (.t 17)))] [(1, 2), (1, 3)]) (.seq (.reg [(oA 18 (.mv (.t 9))), (oA 19 (.un .not (.t 18)))] []) (.cond (.t 19) (.seq (.reg [(oA 20 (.mv (.t 8))), (oA 6 (.mv (.t 20))), (oA 7 (.mv (.k (.v (.c (.p (.int .i64 31)))))))] []) .ret) .skip))) (.seq (.reg [(oA 6 (.mv (.k (.v (.c (.p (.str []))))))), (oA 7 (.mv (.k (.v (.c (.p (.int .i64 0)))))))] []) .ret))) }
theorem t17 : compF Tryd.prog (globs2 tabs opq) (fun _ => false) true Tryd.f17 = some c17.erase := by kernel_rfl
noncomputable def b17_0 (O : Oracle) (R : Jump) (q : Nat) (x0 x1 x2 : TVal) (h : Heap) : Res1 :=
 vop O (.box (.k x0) false) h 3 fun x3 h =>
 vop O (.box (.k x1) false) h 4 fun x4 h =>
 vop O (.box (.k x2) false) h 5 fun x5 h =>
 vtouch O (.load true 6 (.k x3)) h 11 fun x11 h t0 =>
 vtouch O (.call (.k (.v (.c (.func 57 [])))) [(.k x11)]) h 12 fun x12 h t1 =>
 vtouch O (.load true 4 (.k x4)) h 13 fun x13 h t2 =>
 vtouch O (.load true 6 (.k x5)) h 14 fun x14 h t3 =>
 vtouch O (.call (.k (.v (.c (.func 58 [])))) [(.k x12), (.k x13), (.k x14)]) h 15 fun x15 h t4 =>
 vtouch O (.mv (.k x15)) h 10 fun x10 h t5 =>
 vtouch O (.extract (.k x10) 0) h 16 fun x16 h t6 =>
 vtouch O (.extract (.k x10) 1) h 17 fun x17 h t7 =>
 vtouch O (.mv (.k x16)) h 8 fun x8 h t8 =>
 vtouch O (.mv (.k x17)) h 9 fun x9 h t9 =>
 bif apartAll [t0, t1, t2, t3, t4, t5, t6, t7, t8, t9] [(1, 2), (1, 3)] then
 vop O (.un .not (.k x9)) h 19 fun x19 h =>
 vif x19 (
 tcomp x8 fun c0 => tcomp (kI 31) fun c1 => vfin true q [c0, c1] h)
 (tcomp (kS []) fun c0 => tcomp (kI 0) fun c1 => vfin true q [c0, c1] h)
 else none
theorem e17_0 (O : Oracle) (R : Jump) (q : Nat) (x0 x1 x2 : TVal) (h : Heap) : b17_0 O R q x0 x1 x2 h = stepF c17 O R q 0 [x0, x1, x2] h := by kernel_rfl
noncomputable def d17 : BlkF := fun O R q => [.s fun y0 => .s fun y1 => .s fun y2 => .z fun h => b17_0 O R q y0 y1 y2 h]
theorem o17 (O : Oracle) (R : Jump) (q : Nat) : HoldsAll c17 O R q 0 (d17 O R q) := ⟨fun y0 y1 y2 h => e17_0 O R q y0 y1 y2 h, trivial⟩
/- sprue/sprueref1.Ident -/
def c49 : MFunc := { np := 1, res := [.t 2], frz := true, body := (.seq (.reg [(oA 2 (.mv (.k (.v (.c (.p (.bool false)))))))] []) (.seq (.seq (.reg [(oA 4 (.mv (.t 0))), (oA 5 (.len 0 (.t 4))), (oA 6 (.bin .eql 0 (.t 5) (.k (.v (.c (.p (.int .i64 0))))))), (oA 7 (.mv (.t 6))), ⟨(some 8), (.mv (.t 0)), (some (7, false))⟩, ⟨(some 9), (.len 0 (.t 8)), (some (7, false))⟩, ⟨(some 10), (.bin .gtr 0 (.t 9) (.k (.v (.c (.p (.int .i64 16)))))), (some (7, false))⟩, (oA 11 (.pick (.t 7) (.k (.v (.c (.p (.bool true))))) (.t 10))), (oA 12 (.mv (.t 11))), ⟨(some 13), (.mv (.t 0)), (some (12, false))⟩, ⟨(some 14), (.index (.t 13) (.k (.v (.c (.p (.int .i64 0)))))), (some (12, false))⟩, ⟨(some 15), (.call (.k (.v (.c (.func 107 [])))) [(.t 14)]), (some (12, false))⟩, ⟨(some 16), (.un .not (.t 15)), (some (12, false))⟩, (oA 17 (.pick (.t 12) (.k (.v (.c (.p (.bool true))))) (.t 16)))] []) (.cond (.t 17) (.seq (.reg [(oA 2 (.mv (.k (.v (.c (.p (.bool false)))))))] []) .ret) .skip)) (.seq (.seq (.reg [(oA 3 (.mv (.k (.v (.c (.p (.int .i64 0)))))))] []) (.block 0 (.loop 1 [0, 3] (.seq (.seq (.reg [(oA 18 (.mv (.t 3))), (oA 19 (.mv (.t 0))), (oA 20 (.len 0 (.t 19))), (oA 21 (.bin .lss 0 (.t 18) (.t 20)))] []) (.cond (.t 21) .skip (.exit 0))) (.seq (.block 1 (.seq (.reg [(oA 24 (.mv (.t 0))), (oA 25 (.mv (.t 3))), (oA 26 (.index (.t 24) (.t 25))), (oA 27 (.call (.k (.v (.c (.func 107 [])))) [(.t 26)])), (oA 28 (.un .not (.t 27))), (oA 29 (.mv (.t 28))), ⟨(some 30), (.mv (.t 0)), (some (29, true))⟩, ⟨(some 31), (.mv (.t 3)), (some (29, true))⟩, ⟨(some 32), (.index (.t 30) (.t 31)), (some (29, true))⟩, ⟨(some 33), (.call (.k (.v (.c (.func 108 [])))) [(.t 32)]), (some (29, true))⟩, ⟨(some 34), (.un .not (.t 33)), (some (29, true))⟩, (oA 35 (.pick (.t 29) (.t 34) (.k (.v (.c (.p (.bool false)))))))] []) (.cond (.t 35) (.seq (.reg [(oA 2 (.mv (.k (.v (.c (.p (.bool false)))))))] []) .ret) .skip))) (.reg [(oA 22 (.mv (.t 3))), (oA 23 (.bin .add 0 (.t 22) (.k (.v (.c (.p (.int .i64 1))))))), (oA 3 (.mv (.t 23)))] [])))))) (.seq (.reg [(oA 2 (.mv (.k (.v (.c (.p (.bool true)))))))] []) .ret)))) }
theorem t49 : compF Tryd.prog (globs2 tabs opq) (fun _ => false) true Tryd.f49 = some c49.erase := by kernel_rfl
noncomputable def b49_0 (O : Oracle) (R : Jump) (q : Nat) (x0 : TVal) (h : Heap) : Res1 :=
 vlen O 0 x0 h 5 fun x5 h =>
 vbin .eql 0 x5 (kI 0) h fun x6 h =>
 vguard x6 false (fun kk => kk x0 h) h fun x8 h =>
 vguard x6 false (fun kk => vlen O 0 x8 h 9 kk) h fun x9 h =>
 vguard x6 false (fun kk => vbin .gtr 0 x9 (kI 16) h kk) h fun x10 h =>
 vop O (.pick (.k x6) (.k (kB true)) (.k x10)) h 11 fun x11 h =>
 vguard x11 false (fun kk => kk x0 h) h fun x13 h =>
 vguard x11 false (fun kk => vindex x13 (kI 0) h kk) h fun x14 h =>
 vguard x11 false (fun kk => vcall O (.v (.c (.func 107 []))) [x14] h 15 kk) h fun x15 h =>
 vguard x11 false (fun kk => vop O (.un .not (.k x15)) h 16 kk) h fun x16 h =>
 vop O (.pick (.k x11) (.k (kB true)) (.k x16)) h 17 fun x17 h =>
 vif x17 (
 tcomp (kB false) fun c0 => vfin true q [c0] h)
 (R 1 [x0, (kI 0)] h)
theorem e49_0 (O : Oracle) (R : Jump) (q : Nat) (x0 : TVal) (h : Heap) : b49_0 O R q x0 h = stepF c49 O R q 0 [x0] h := by kernel_rfl
noncomputable def b49_1 (O : Oracle) (R : Jump) (q : Nat) (x0 x3 : TVal) (h : Heap) : Res1 :=
 vlen O 0 x0 h 20 fun x20 h =>
 vbin .lss 0 x3 x20 h fun x21 h =>
 vif x21 (
 vindex x0 x3 h fun x26 h =>
 vcall O (.v (.c (.func 107 []))) [x26] h 27 fun x27 h =>
 vop O (.un .not (.k x27)) h 28 fun x28 h =>
 vguard x28 true (fun kk => kk x0 h) h fun x30 h =>
 vguard x28 true (fun kk => kk x3 h) h fun x31 h =>
 vguard x28 true (fun kk => vindex x30 x31 h kk) h fun x32 h =>
 vguard x28 true (fun kk => vcall O (.v (.c (.func 108 []))) [x32] h 33 kk) h fun x33 h =>
 vguard x28 true (fun kk => vop O (.un .not (.k x33)) h 34 kk) h fun x34 h =>
 vop O (.pick (.k x28) (.k x34) (.k (kB false))) h 35 fun x35 h =>
 vif x35 (
 tcomp (kB false) fun c0 => vfin true q [c0] h)
 (vbin .add 0 x3 (kI 1) h fun x23 h =>
 R 1 [x0, x23] h))
 (tcomp (kB true) fun c0 => vfin true q [c0] h)
theorem e49_1 (O : Oracle) (R : Jump) (q : Nat) (x0 x3 : TVal) (h : Heap) : b49_1 O R q x0 x3 h = stepF c49 O R q 1 [x0, x3] h := by kernel_rfl
noncomputable def d49 : BlkF := fun O R q => [.s fun y0 => .z fun h => b49_0 O R q y0 h, .s fun y0 => .s fun y1 => .z fun h => b49_1 O R q y0 y1 h]
theorem o49 (O : Oracle) (R : Jump) (q : Nat) : HoldsAll c49 O R q 0 (d49 O R q) := ⟨fun y0 h => e49_0 O R q y0 h, fun y0 y1 h => e49_1 O R q y0 y1 h, trivial⟩
/- sprue/sprueref4.word -/
def c50 : MFunc := { np := 1, res := [.t 2], frz := true, body := (.seq (.reg [(oA 2 (.mv (.k (.v (.c (.p (.bool false)))))))] []) (.seq (.reg [(oA 3 (.mv (.t 0))), (oA 4 (.bin .eql 0 (.t 3) (.k (.v (.c (.p (.str [66, 111, 111, 108]))))))), (oA 5 (.mv (.t 4))), ⟨(some 6), (.mv (.t 0)), (some (5, false))⟩, ⟨(some 7), (.bin .eql 0 (.t 6) (.k (.v (.c (.p (.str [73, 110, 116])))))), (some (5, false))⟩, (oA 8 (.pick (.t 5) (.k (.v (.c (.p (.bool true))))) (.t 7))), (oA 9 (.mv (.t 8))), ⟨(some 10), (.mv (.t 0)), (some (9, false))⟩, ⟨(some 11), (.bin .eql 0 (.t 10) (.k (.v (.c (.p (.str [84, 101, 120, 116])))))), (some (9, false))⟩, (oA 12 (.pick (.t 9) (.k (.v (.c (.p (.bool true))))) (.t 11))), (oA 13 (.mv (.t 12))), ⟨(some 14), (.mv (.t 0)), (some (13, false))⟩, ⟨(some 15), (.bin .eql 0 (.t 14) (.k (.v (.c (.p (.str [76, 105, 115, 116])))))), (some (13, false))⟩, (oA 16 (.pick (.t 13) (.k (.v (.c (.p (.bool true))))) (.t 15))), (oA 17 (.mv (.t 16))), ⟨(some 18), (.mv (.t 0)), (some (17, false))⟩, ⟨(some 19), (.bin .eql 0 (.t 18) (.k (.v (.c (.p (.str [77, 97, 112])))))), (some (17, false))⟩, (oA 20 (.pick (.t 17) (.k (.v (.c (.p (.bool true))))) (.t 19))), (oA 21 (.mv (.t 20))), ⟨(some 22), (.mv (.t 0)), (some (21, false))⟩, ⟨(some 23), (.bin .eql 0 (.t 22) (.k (.v (.c (.p (.str [79, 112, 116])))))), (some (21, false))⟩, (oA 24 (.pick (.t 21) (.k (.v (.c (.p (.bool true))))) (.t 23))), (oA 25 (.mv (.t 24))), ⟨(some 26), (.mv (.t 0)), (some (25, false))⟩, ⟨(some 27), (.bin .eql 0 (.t 26) (.k (.v (.c (.p (.str [85, 110, 105, 111, 110])))))), (some (25, false))⟩, (oA 28 (.pick (.t 25) (.k (.v (.c (.p (.bool true))))) (.t 27))), (oA 2 (.mv (.t 28)))] []) .ret)) }
theorem t50 : compF Tryd.prog (globs2 tabs opq) (fun _ => false) true Tryd.f50 = some c50.erase := by kernel_rfl
noncomputable def b50_0 (O : Oracle) (R : Jump) (q : Nat) (x0 : TVal) (h : Heap) : Res1 :=
 vbin .eql 0 x0 (kS [66, 111, 111, 108]) h fun x4 h =>
 vguard x4 false (fun kk => kk x0 h) h fun x6 h =>
 vguard x4 false (fun kk => vbin .eql 0 x6 (kS [73, 110, 116]) h kk) h fun x7 h =>
 vop O (.pick (.k x4) (.k (kB true)) (.k x7)) h 8 fun x8 h =>
 vguard x8 false (fun kk => kk x0 h) h fun x10 h =>
 vguard x8 false (fun kk => vbin .eql 0 x10 (kS [84, 101, 120, 116]) h kk) h fun x11 h =>
 vop O (.pick (.k x8) (.k (kB true)) (.k x11)) h 12 fun x12 h =>
 vguard x12 false (fun kk => kk x0 h) h fun x14 h =>
 vguard x12 false (fun kk => vbin .eql 0 x14 (kS [76, 105, 115, 116]) h kk) h fun x15 h =>
 vop O (.pick (.k x12) (.k (kB true)) (.k x15)) h 16 fun x16 h =>
 vguard x16 false (fun kk => kk x0 h) h fun x18 h =>
 vguard x16 false (fun kk => vbin .eql 0 x18 (kS [77, 97, 112]) h kk) h fun x19 h =>
 vop O (.pick (.k x16) (.k (kB true)) (.k x19)) h 20 fun x20 h =>
 vguard x20 false (fun kk => kk x0 h) h fun x22 h =>
 vguard x20 false (fun kk => vbin .eql 0 x22 (kS [79, 112, 116]) h kk) h fun x23 h =>
 vop O (.pick (.k x20) (.k (kB true)) (.k x23)) h 24 fun x24 h =>
 vguard x24 false (fun kk => kk x0 h) h fun x26 h =>
 vguard x24 false (fun kk => vbin .eql 0 x26 (kS [85, 110, 105, 111, 110]) h kk) h fun x27 h =>
 vop O (.pick (.k x24) (.k (kB true)) (.k x27)) h 28 fun x28 h =>
 tcomp x28 fun c0 => vfin true q [c0] h
theorem e50_0 (O : Oracle) (R : Jump) (q : Nat) (x0 : TVal) (h : Heap) : b50_0 O R q x0 h = stepF c50 O R q 0 [x0] h := by kernel_rfl
noncomputable def d50 : BlkF := fun O R q => [.s fun y0 => .z fun h => b50_0 O R q y0 h]
theorem o50 (O : Oracle) (R : Jump) (q : Nat) : HoldsAll c50 O R q 0 (d50 O R q) := ⟨fun y0 h => e50_0 O R q y0 h, trivial⟩
/- (*sprue/sprueref4.walk).may -/
def c51 : MFunc := { np := 3, res := [.t 6], frz := true, body := (.seq (.reg [(oA 4 (.box (.t 1) false)), (oA 6 (.mv (.k (.v (.c (.p (.int .i64 0)))))))] []) (.seq (.reg [(oA 9 (.mv (.t 0))), (oA 10 (.nilck (.t 9))), (oA 11 (.faddr 6 (.t 10))), (oA 12 (.load false 1 (.t 11))), (oA 13 (.bin .add 0 (.t 12) (.k (.v (.c (.p (.int .i64 1))))))), (oA 14 (.nilck (.t 9))), (oA 15 (.faddr 6 (.t 14))), (oN (.store 1 (.t 15) (.t 13)))] []) (.seq (.seq (.reg [(oA 16 (.mv (.t 0))), (oA 17 (.nilck (.t 16))), (oA 18 (.faddr 6 (.t 17))), (oA 19 (.load false 1 (.t 18))), (oA 20 (.bin .gtr 0 (.t 19) (.k (.v (.c (.p (.int .i64 400)))))))] []) (.cond (.t 20) (.seq (.reg [(oA 6 (.mv (.k (.v (.c (.p (.int .i64 3)))))))] []) .ret) .skip)) (.seq (.seq (.reg [(oA 21 (.mv (.t 2))), (oA 22 (.bin .gtr 0 (.t 21) (.k (.v (.c (.p (.int .i64 12)))))))] []) (.cond (.t 22) (.seq (.reg [(oA 6 (.mv (.k (.v (.c (.p (.int .i64 13)))))))] []) .ret) .skip)) (.seq (.reg [(oA 23 (.mv (.t 0))), (oA 24 (.nilck (.t 23))), (oA 25 (.faddr 0 (.t 24))), (oA 26 (.load true 6 (.t 25))), (oA 27 (.load true 4 (.t 4))), (oA 28 (.call (.k (.v (.c (.func 109 [])))) [(.t 26), (.t 27)])), (oA 7 (.mv (.t 28)))] []) (.seq (.seq (.reg [(oA 8 (.mv (.k (.v (.c (.p (.int .i64 0)))))))] []) (.block 0 (.loop 1 [0, 2, 4, 7, 8] (.seq (.seq (.reg [(oA 29 (.mv (.t 8))), (oA 30 (.faddr 3 (.t 4))), (oA 31 (.load false 1 (.t 30))), (oA 32 (.len 2 (.t 31))), (oA 33 (.bin .lss 0 (.t 29) (.t 32))), (oA 34 (.mv (.t 33))), ⟨(some 35), (.mv (.t 7)), (some (34, true))⟩, ⟨(some 36), (.bin .eql 0 (.t 35) (.k (.v (.c (.p (.int .i64 0)))))), (some (34, true))⟩, (oA 37 (.pick (.t 34) (.t 36) (.k (.v (.c (.p (.bool false)))))))] []) (.cond (.t 37) .skip (.exit 0))) (.seq (.block 1 (.reg [(oA 40 (.mv (.t 0))), (oA 41 (.faddr 3 (.t 4))), (oA 42 (.load false 1 (.t 41))), (oA 43 (.mv (.t 8))), (oA 44 (.iaddr 4 (.t 42) (.t 43))), (oA 45 (.load true 4 (.t 44))), (oA 46 (.mv (.t 2))), (oA 47 (.bin .add 0 (.t 46) (.k (.v (.c (.p (.int .i64 1))))))), (oA 48 (.call (.k (.v (.c (.func 51 [])))) [(.t 40), (.t 45), (.t 47)])), (oA 7 (.mv (.t 48)))] [])) (.reg [(oA 38 (.mv (.t 8))), (oA 39 (.bin .add 0 (.t 38) (.k (.v (.c (.p (.int .i64 1))))))), (oA 8 (.mv (.t 39)))] [])))))) (.seq (.reg [(oA 49 (.mv (.t 7))), (oA 6 (.mv (.t 49)))] []) .ret))))))) }
theorem t51 : compF Tryd.prog (globs2 tabs opq) (fun _ => false) true Tryd.f51 = some c51.erase := by kernel_rfl
noncomputable def b51_0 (O : Oracle) (R : Jump) (q : Nat) (x0 x1 x2 : TVal) (h : Heap) : Res1 :=
 vop O (.box (.k x1) false) h 4 fun x4 h =>
 vop O (.nilck (.k x0)) h 10 fun x10 h =>
 vfaddr 6 x10 h fun x11 h =>
 vload false 1 x11 h fun x12 h =>
 vbin .add 0 x12 (kI 1) h fun x13 h =>
 vop O (.nilck (.k x0)) h 14 fun x14 h =>
 vfaddr 6 x14 h fun x15 h =>
 vstore 1 x15 x13 h fun _ h =>
 vop O (.nilck (.k x0)) h 17 fun x17 h =>
 vfaddr 6 x17 h fun x18 h =>
 vload false 1 x18 h fun x19 h =>
 vbin .gtr 0 x19 (kI 400) h fun x20 h =>
 vif x20 (
 tcomp (kI 3) fun c0 => vfin true q [c0] h)
 (vbin .gtr 0 x2 (kI 12) h fun x22 h =>
 vif x22 (
 tcomp (kI 13) fun c0 => vfin true q [c0] h)
 (vop O (.nilck (.k x0)) h 24 fun x24 h =>
 vfaddr 0 x24 h fun x25 h =>
 vload true 6 x25 h fun x26 h =>
 vload true 4 x4 h fun x27 h =>
 vcall O (.v (.c (.func 109 []))) [x26, x27] h 28 fun x28 h =>
 R 1 [x0, x2, x4, x28, (kI 0)] h))
theorem e51_0 (O : Oracle) (R : Jump) (q : Nat) (x0 x1 x2 : TVal) (h : Heap) : b51_0 O R q x0 x1 x2 h = stepF c51 O R q 0 [x0, x1, x2] h := by kernel_rfl
noncomputable def b51_1 (O : Oracle) (R : Jump) (q : Nat) (x0 x2 x4 x7 x8 : TVal) (h : Heap) : Res1 :=
 vfaddr 3 x4 h fun x30 h =>
 vload false 1 x30 h fun x31 h =>
 vlen O 2 x31 h 32 fun x32 h =>
 vbin .lss 0 x8 x32 h fun x33 h =>
 vguard x33 true (fun kk => kk x7 h) h fun x35 h =>
 vguard x33 true (fun kk => vbin .eql 0 x35 (kI 0) h kk) h fun x36 h =>
 vop O (.pick (.k x33) (.k x36) (.k (kB false))) h 37 fun x37 h =>
 vif x37 (
 vfaddr 3 x4 h fun x41 h =>
 vload false 1 x41 h fun x42 h =>
 viaddr 4 x42 x8 h fun x44 h =>
 vload true 4 x44 h fun x45 h =>
 vbin .add 0 x2 (kI 1) h fun x47 h =>
 vcall O (.v (.c (.func 51 []))) [x0, x45, x47] h 48 fun x48 h =>
 vbin .add 0 x8 (kI 1) h fun x39 h =>
 R 1 [x0, x2, x4, x48, x39] h)
 (tcomp x7 fun c0 => vfin true q [c0] h)
theorem e51_1 (O : Oracle) (R : Jump) (q : Nat) (x0 x2 x4 x7 x8 : TVal) (h : Heap) : b51_1 O R q x0 x2 x4 x7 x8 h = stepF c51 O R q 1 [x0, x2, x4, x7, x8] h := by kernel_rfl
noncomputable def d51 : BlkF := fun O R q => [.s fun y0 => .s fun y1 => .s fun y2 => .z fun h => b51_0 O R q y0 y1 y2 h, .s fun y0 => .s fun y1 => .s fun y2 => .s fun y3 => .s fun y4 => .z fun h => b51_1 O R q y0 y1 y2 y3 y4 h]
theorem o51 (O : Oracle) (R : Jump) (q : Nat) : HoldsAll c51 O R q 0 (d51 O R q) := ⟨fun y0 y1 y2 h => e51_0 O R q y0 y1 y2 h, fun y0 y1 y2 y3 y4 h => e51_1 O R q y0 y1 y2 y3 y4 h, trivial⟩
/- sprue/sprueref4.Builtin -/
def c52 : MFunc := { np := 1, res := [.t 2], frz := true, body := (.seq (.reg [(oA 2 (.mv (.k (.v (.c (.p (.bool false)))))))] []) (.seq (.seq (.reg [(oA 3 (.mv (.t 0)))] []) (.block 0 (.seq (.seq (.reg [(oA 5 (.bin .eql 0 (.t 3) (.k (.v (.c (.p (.str [108, 101, 110]))))))), (oA 4 (.mv (.t 5)))] []) (.cond (.t 4) .skip (.seq (.reg [(oA 6 (.bin .eql 0 (.t 3) (.k (.v (.c (.p (.str [110, 111, 116]))))))), (oA 4 (.mv (.t 6)))] []) (.cond (.t 4) .skip (.seq (.reg [(oA 7 (.bin .eql 0 (.t 3) (.k (.v (.c (.p (.str [97, 110, 100]))))))), (oA 4 (.mv (.t 7)))] []) (.cond (.t 4) .skip (.seq (.reg [(oA 8 (.bin .eql 0 (.t 3) (.k (.v (.c (.p (.str [111, 114]))))))), (oA 4 (.mv (.t 8)))] []) (.cond (.t 4) .skip (.seq (.reg [(oA 9 (.bin .eql 0 (.t 3) (.k (.v (.c (.p (.str [101, 113]))))))), (oA 4 (.mv (.t 9)))] []) (.cond (.t 4) .skip (.seq (.reg [(oA 10 (.bin .eql 0 (.t 3) (.k (.v (.c (.p (.str [108, 116]))))))), (oA 4 (.mv (.t 10)))] []) (.cond (.t 4) .skip (.seq (.reg [(oA 11 (.bin .eql 0 (.t 3) (.k (.v (.c (.p (.str [97, 100, 100]))))))), (oA 4 (.mv (.t 11)))] []) (.cond (.t 4) .skip (.seq (.reg [(oA 12 (.bin .eql 0 (.t 3) (.k (.v (.c (.p (.str [115, 117, 98]))))))), (oA 4 (.mv (.t 12)))] []) (.cond (.t 4) .skip (.seq (.reg [(oA 13 (.bin .eql 0 (.t 3) (.k (.v (.c (.p (.str [109, 117, 108]))))))), (oA 4 (.mv (.t 13)))] []) (.cond (.t 4) .skip (.seq (.reg [(oA 14 (.bin .eql 0 (.t 3) (.k (.v (.c (.p (.str [115, 104, 108]))))))), (oA 4 (.mv (.t 14)))] []) (.cond (.t 4) .skip (.seq (.reg [(oA 15 (.bin .eql 0 (.t 3) (.k (.v (.c (.p (.str [115, 104, 114]))))))), (oA 4 (.mv (.t 15)))] []) (.cond (.t 4) .skip (.seq (.reg [(oA 16 (.bin .eql 0 (.t 3) (.k (.v (.c (.p (.str [105, 56]))))))), (oA 4 (.mv (.t 16)))] []) (.cond (.t 4) .skip (.seq (.reg [(oA 17 (.bin .eql 0 (.t 3) (.k (.v (.c (.p (.str [105, 49, 54]))))))), (oA 4 (.mv (.t 17)))] []) (.cond (.t 4) .skip (.seq (.reg [(oA 18 (.bin .eql 0 (.t 3) (.k (.v (.c (.p (.str [105, 51, 50]))))))), (oA 4 (.mv (.t 18)))] []) (.cond (.t 4) .skip (.seq (.reg [(oA 19 (.bin .eql 0 (.t 3) (.k (.v (.c (.p (.str [117, 56]))))))), (oA 4 (.mv (.t 19)))] []) (.cond (.t 4) .skip (.seq (.reg [(oA 20 (.bin .eql 0 (.t 3) (.k (.v (.c (.p (.str [117, 49, 54]))))))), (oA 4 (.mv (.t 20)))] []) (.cond (.t 4) .skip (.seq (.reg [(oA 21 (.bin .eql 0 (.t 3) (.k (.v (.c (.p (.str [117, 51, 50]))))))), (oA 4 (.mv (.t 21)))] []) (.cond (.t 4) .skip (.seq (.reg [(oA 22 (.bin .eql 0 (.t 3) (.k (.v (.c (.p (.str [99, 97, 116]))))))), (oA 4 (.mv (.t 22)))] []) (.cond (.t 4) .skip (.seq (.reg [(oA 23 (.bin .eql 0 (.t 3) (.k (.v (.c (.p (.str [116, 101, 120, 116]))))))), (oA 4 (.mv (.t 23)))] []) (.cond (.t 4) .skip (.seq (.reg [(oA 24 (.bin .eql 0 (.t 3) (.k (.v (.c (.p (.str [97, 116]))))))), (oA 4 (.mv (.t 24)))] []) (.cond (.t 4) .skip (.seq (.reg [(oA 25 (.bin .eql 0 (.t 3) (.k (.v (.c (.p (.str [103, 101, 116]))))))), (oA 4 (.mv (.t 25)))] []) (.cond (.t 4) .skip (.seq (.reg [(oA 26 (.bin .eql 0 (.t 3) (.k (.v (.c (.p (.str [104, 97, 115]))))))), (oA 4 (.mv (.t 26)))] []) (.cond (.t 4) .skip (.reg [(oA 27 (.bin .eql 0 (.t 3) (.k (.v (.c (.p (.str [111, 114, 101, 108, 115, 101]))))))), (oA 4 (.mv (.t 27)))] []))))))))))))))))))))))))))))))))))))))))))))) (.mark 1 [4] (.cond (.t 4) (.seq (.reg [(oA 2 (.mv (.k (.v (.c (.p (.bool true)))))))] []) .ret) .skip))))) (.seq (.reg [(oA 2 (.mv (.k (.v (.c (.p (.bool false)))))))] []) .ret))) }
theorem t52 : compF Tryd.prog (globs2 tabs opq) (fun _ => false) true Tryd.f52 = some c52.erase := by kernel_rfl
noncomputable def b52_0 (O : Oracle) (R : Jump) (q : Nat) (x0 : TVal) (h : Heap) : Res1 :=
 vbin .eql 0 x0 (kS [108, 101, 110]) h fun x5 h =>
 vif x5 (
 R 1 [x5] h)
 (vbin .eql 0 x0 (kS [110, 111, 116]) h fun x6 h =>
 vif x6 (
 R 1 [x6] h)
 (vbin .eql 0 x0 (kS [97, 110, 100]) h fun x7 h =>
 vif x7 (
 R 1 [x7] h)
 (vbin .eql 0 x0 (kS [111, 114]) h fun x8 h =>
 vif x8 (
 R 1 [x8] h)
 (vbin .eql 0 x0 (kS [101, 113]) h fun x9 h =>
 vif x9 (
 R 1 [x9] h)
 (vbin .eql 0 x0 (kS [108, 116]) h fun x10 h =>
 vif x10 (
 R 1 [x10] h)
 (vbin .eql 0 x0 (kS [97, 100, 100]) h fun x11 h =>
 vif x11 (
 R 1 [x11] h)
 (vbin .eql 0 x0 (kS [115, 117, 98]) h fun x12 h =>
 vif x12 (
 R 1 [x12] h)
 (vbin .eql 0 x0 (kS [109, 117, 108]) h fun x13 h =>
 vif x13 (
 R 1 [x13] h)
 (vbin .eql 0 x0 (kS [115, 104, 108]) h fun x14 h =>
 vif x14 (
 R 1 [x14] h)
 (vbin .eql 0 x0 (kS [115, 104, 114]) h fun x15 h =>
 vif x15 (
 R 1 [x15] h)
 (vbin .eql 0 x0 (kS [105, 56]) h fun x16 h =>
 vif x16 (
 R 1 [x16] h)
 (vbin .eql 0 x0 (kS [105, 49, 54]) h fun x17 h =>
 vif x17 (
 R 1 [x17] h)
 (vbin .eql 0 x0 (kS [105, 51, 50]) h fun x18 h =>
 vif x18 (
 R 1 [x18] h)
 (vbin .eql 0 x0 (kS [117, 56]) h fun x19 h =>
 vif x19 (
 R 1 [x19] h)
 (vbin .eql 0 x0 (kS [117, 49, 54]) h fun x20 h =>
 vif x20 (
 R 1 [x20] h)
 (vbin .eql 0 x0 (kS [117, 51, 50]) h fun x21 h =>
 vif x21 (
 R 1 [x21] h)
 (vbin .eql 0 x0 (kS [99, 97, 116]) h fun x22 h =>
 vif x22 (
 R 1 [x22] h)
 (vbin .eql 0 x0 (kS [116, 101, 120, 116]) h fun x23 h =>
 vif x23 (
 R 1 [x23] h)
 (vbin .eql 0 x0 (kS [97, 116]) h fun x24 h =>
 vif x24 (
 R 1 [x24] h)
 (vbin .eql 0 x0 (kS [103, 101, 116]) h fun x25 h =>
 vif x25 (
 R 1 [x25] h)
 (vbin .eql 0 x0 (kS [104, 97, 115]) h fun x26 h =>
 vif x26 (
 R 1 [x26] h)
 (vbin .eql 0 x0 (kS [111, 114, 101, 108, 115, 101]) h fun x27 h =>
 R 1 [x27] h))))))))))))))))))))))
theorem e52_0 (O : Oracle) (R : Jump) (q : Nat) (x0 : TVal) (h : Heap) : b52_0 O R q x0 h = stepF c52 O R q 0 [x0] h := by kernel_rfl
noncomputable def b52_1 (O : Oracle) (R : Jump) (q : Nat) (x4 : TVal) (h : Heap) : Res1 :=
 vif x4 (
 tcomp (kB true) fun c0 => vfin true q [c0] h)
 (tcomp (kB false) fun c0 => vfin true q [c0] h)
theorem e52_1 (O : Oracle) (R : Jump) (q : Nat) (x4 : TVal) (h : Heap) : b52_1 O R q x4 h = stepF c52 O R q 1 [x4] h := by kernel_rfl
noncomputable def d52 : BlkF := fun O R q => [.s fun y0 => .z fun h => b52_0 O R q y0 h, .s fun y0 => .z fun h => b52_1 O R q y0 h]
theorem o52 (O : Oracle) (R : Jump) (q : Nat) : HoldsAll c52 O R q 0 (d52 O R q) := ⟨fun y0 h => e52_0 O R q y0 h, fun y0 h => e52_1 O R q y0 h, trivial⟩
/- sprue/sprueref4.finite -/
def c53 : MFunc := { np := 1, res := [.t 2], frz := true, body := (.seq (.reg [(oA 1 (.box (.t 0) false)), (oA 2 (.mv (.k (.v (.c (.p .nilslice))))))] []) (.seq (.reg [(oA 3 (.mv (.k (.v (.c (.p .nilslice))))))] []) (.seq (.seq (.reg [(oA 4 (.mv (.k (.v (.c (.p (.int .i64 0)))))))] []) (.block 0 (.loop 1 [1, 3, 4] (.seq (.seq (.reg [(oA 7 (.mv (.t 4))), (oA 8 (.faddr 4 (.t 1))), (oA 9 (.load false 1 (.t 8))), (oA 10 (.len 2 (.t 9))), (oA 11 (.bin .leq 0 (.t 7) (.t 10)))] []) (.cond (.t 11) .skip (.exit 0))) (.seq (.block 1 (.seq (.reg [(oA 5 (.mv (.k (.v (.c (.p .nilslice))))))] []) (.seq (.seq (.reg [(oA 6 (.mv (.k (.v (.c (.p (.int .i64 0)))))))] []) (.block 2 (.loop 2 [1, 3, 4, 5, 6] (.seq (.seq (.reg [(oA 14 (.mv (.t 6))), (oA 15 (.faddr 4 (.t 1))), (oA 16 (.load false 1 (.t 15))), (oA 17 (.len 2 (.t 16))), (oA 18 (.bin .lss 0 (.t 14) (.t 17)))] []) (.cond (.t 18) .skip (.exit 2))) (.seq (.block 3 (.seq (.reg [(oA 21 (.mv (.t 3))), (oA 22 (.faddr 4 (.t 1))), (oA 23 (.load false 1 (.t 22))), (oA 24 (.mv (.t 6))), (oA 25 (.iaddr 5 (.t 23) (.t 24))), (oA 26 (.faddr 1 (.t 25))), (oA 27 (.load true 4 (.t 26))), (oA 28 (.call (.k (.v (.c (.func 110 [])))) [(.t 21), (.t 27)]))] []) (.cond (.t 28) (.reg [(oA 29 (.mv (.t 5))), (oA 30 (.faddr 4 (.t 1))), (oA 31 (.load false 1 (.t 30))), (oA 32 (.mv (.t 6))), (oA 33 (.iaddr 5 (.t 31) (.t 32))), (oA 34 (.faddr 0 (.t 33))), (oA 35 (.load false 1 (.t 34))), (oA 36 (.bslice 1 1 [(.p (.str []))] [(0, (.t 35))] false)), (oA 37 (.append 1 16 false (.t 29) (.t 36))), (oA 5 (.mv (.t 37)))] []) .skip))) (.mark 3 [1, 3, 4, 5, 6] (.reg [(oA 19 (.mv (.t 6))), (oA 20 (.bin .add 0 (.t 19) (.k (.v (.c (.p (.int .i64 1))))))), (oA 6 (.mv (.t 20)))] []))))))) (.mark 4 [1, 4, 5] (.reg [(oA 38 (.mv (.t 5))), (oA 3 (.mv (.t 38)))] []))))) (.mark 5 [1, 3, 4] (.reg [(oA 12 (.mv (.t 4))), (oA 13 (.bin .add 0 (.t 12) (.k (.v (.c (.p (.int .i64 1))))))), (oA 4 (.mv (.t 13)))] []))))))) (.seq (.reg [(oA 39 (.mv (.t 3))), (oA 2 (.mv (.t 39)))] []) .ret)))) }
theorem t53 : compF Tryd.prog (globs2 tabs opq) (fun _ => false) true Tryd.f53 = some c53.erase := by kernel_rfl
noncomputable def b53_0 (O : Oracle) (R : Jump) (q : Nat) (x0 : TVal) (h : Heap) : Res1 :=
 vop O (.box (.k x0) false) h 1 fun x1 h =>
 R 1 [x1, (.v (.c (.p .nilslice))), (kI 0)] h
theorem e53_0 (O : Oracle) (R : Jump) (q : Nat) (x0 : TVal) (h : Heap) : b53_0 O R q x0 h = stepF c53 O R q 0 [x0] h := by kernel_rfl
noncomputable def b53_1 (O : Oracle) (R : Jump) (q : Nat) (x1 x3 x4 : TVal) (h : Heap) : Res1 :=
 vfaddr 4 x1 h fun x8 h =>
 vload false 1 x8 h fun x9 h =>
 vlen O 2 x9 h 10 fun x10 h =>
 vbin .leq 0 x4 x10 h fun x11 h =>
 vif x11 (
 R 2 [x1, x3, x4, (.v (.c (.p .nilslice))), (kI 0)] h)
 (tcomp x3 fun c0 => vfin true q [c0] h)
theorem e53_1 (O : Oracle) (R : Jump) (q : Nat) (x1 x3 x4 : TVal) (h : Heap) : b53_1 O R q x1 x3 x4 h = stepF c53 O R q 1 [x1, x3, x4] h := by kernel_rfl
noncomputable def b53_2 (O : Oracle) (R : Jump) (q : Nat) (x1 x3 x4 x5 x6 : TVal) (h : Heap) : Res1 :=
 vfaddr 4 x1 h fun x15 h =>
 vload false 1 x15 h fun x16 h =>
 vlen O 2 x16 h 17 fun x17 h =>
 vbin .lss 0 x6 x17 h fun x18 h =>
 vif x18 (
 vfaddr 4 x1 h fun x22 h =>
 vload false 1 x22 h fun x23 h =>
 viaddr 5 x23 x6 h fun x25 h =>
 vfaddr 1 x25 h fun x26 h =>
 vload true 4 x26 h fun x27 h =>
 vcall O (.v (.c (.func 110 []))) [x3, x27] h 28 fun x28 h =>
 vif x28 (
 vfaddr 4 x1 h fun x30 h =>
 vload false 1 x30 h fun x31 h =>
 viaddr 5 x31 x6 h fun x33 h =>
 vfaddr 0 x33 h fun x34 h =>
 vload false 1 x34 h fun x35 h =>
 vop O (.bslice 1 1 [(.p (.str []))] [(0, (.k x35))] false) h 36 fun x36 h =>
 vop O (.append 1 16 false (.k x5) (.k x36)) h 37 fun x37 h =>
 R 3 [x1, x3, x4, x37, x6] h)
 (R 3 [x1, x3, x4, x5, x6] h))
 (R 4 [x1, x4, x5] h)
theorem e53_2 (O : Oracle) (R : Jump) (q : Nat) (x1 x3 x4 x5 x6 : TVal) (h : Heap) : b53_2 O R q x1 x3 x4 x5 x6 h = stepF c53 O R q 2 [x1, x3, x4, x5, x6] h := by kernel_rfl
noncomputable def b53_3 (O : Oracle) (R : Jump) (q : Nat) (x1 x3 x4 x5 x6 : TVal) (h : Heap) : Res1 :=
 vbin .add 0 x6 (kI 1) h fun x20 h =>
 R 2 [x1, x3, x4, x5, x20] h
theorem e53_3 (O : Oracle) (R : Jump) (q : Nat) (x1 x3 x4 x5 x6 : TVal) (h : Heap) : b53_3 O R q x1 x3 x4 x5 x6 h = stepF c53 O R q 3 [x1, x3, x4, x5, x6] h := by kernel_rfl
noncomputable def b53_4 (O : Oracle) (R : Jump) (q : Nat) (x1 x4 x5 : TVal) (h : Heap) : Res1 :=
 R 5 [x1, x5, x4] h
theorem e53_4 (O : Oracle) (R : Jump) (q : Nat) (x1 x4 x5 : TVal) (h : Heap) : b53_4 O R q x1 x4 x5 h = stepF c53 O R q 4 [x1, x4, x5] h := by kernel_rfl
noncomputable def b53_5 (O : Oracle) (R : Jump) (q : Nat) (x1 x3 x4 : TVal) (h : Heap) : Res1 :=
 vbin .add 0 x4 (kI 1) h fun x13 h =>
 R 1 [x1, x3, x13] h
theorem e53_5 (O : Oracle) (R : Jump) (q : Nat) (x1 x3 x4 : TVal) (h : Heap) : b53_5 O R q x1 x3 x4 h = stepF c53 O R q 5 [x1, x3, x4] h := by kernel_rfl
noncomputable def d53 : BlkF := fun O R q => [.s fun y0 => .z fun h => b53_0 O R q y0 h, .s fun y0 => .s fun y1 => .s fun y2 => .z fun h => b53_1 O R q y0 y1 y2 h, .s fun y0 => .s fun y1 => .s fun y2 => .s fun y3 => .s fun y4 => .z fun h => b53_2 O R q y0 y1 y2 y3 y4 h, .s fun y0 => .s fun y1 => .s fun y2 => .s fun y3 => .s fun y4 => .z fun h => b53_3 O R q y0 y1 y2 y3 y4 h, .s fun y0 => .s fun y1 => .s fun y2 => .z fun h => b53_4 O R q y0 y1 y2 h, .s fun y0 => .s fun y1 => .s fun y2 => .z fun h => b53_5 O R q y0 y1 y2 h]
theorem o53 (O : Oracle) (R : Jump) (q : Nat) : HoldsAll c53 O R q 0 (d53 O R q) := ⟨fun y0 h => e53_0 O R q y0 h, fun y0 y1 y2 h => e53_1 O R q y0 y1 y2 h, fun y0 y1 y2 y3 y4 h => e53_2 O R q y0 y1 y2 y3 y4 h, fun y0 y1 y2 y3 y4 h => e53_3 O R q y0 y1 y2 y3 y4 h, fun y0 y1 y2 h => e53_4 O R q y0 y1 y2 h, fun y0 y1 y2 h => e53_5 O R q y0 y1 y2 h, trivial⟩
/- sprue/sprueref4.all -/
def c54 : MFunc := { np := 1, res := [.t 2], frz := true, body := (.seq (.reg [(oA 1 (.box (.t 0) false)), (oA 2 (.mv (.k (.v (.c (.p .nilslice))))))] []) (.seq (.reg [(oA 3 (.mv (.k (.v (.c (.p .nilslice))))))] []) (.seq (.seq (.reg [(oA 4 (.mv (.k (.v (.c (.p (.int .i64 0)))))))] []) (.block 0 (.loop 1 [1, 3, 4] (.seq (.seq (.reg [(oA 6 (.mv (.t 4))), (oA 7 (.faddr 4 (.t 1))), (oA 8 (.load false 1 (.t 7))), (oA 9 (.len 2 (.t 8))), (oA 10 (.bin .lss 0 (.t 6) (.t 9)))] []) (.cond (.t 10) .skip (.exit 0))) (.seq (.block 1 (.reg [(oA 13 (.mv (.t 3))), (oA 14 (.faddr 4 (.t 1))), (oA 15 (.load false 1 (.t 14))), (oA 16 (.mv (.t 4))), (oA 17 (.iaddr 5 (.t 15) (.t 16))), (oA 18 (.faddr 1 (.t 17))), (oA 19 (.load true 4 (.t 18))), (oA 20 (.bslice 4 1 [(.p (.int .i64 0)), (.p (.str [])), (.p .nilslice), (.p .nilslice)] [(0, (.t 19))] false)), (oA 21 (.append 4 72 false (.t 13) (.t 20))), (oA 3 (.mv (.t 21)))] [])) (.reg [(oA 11 (.mv (.t 4))), (oA 12 (.bin .add 0 (.t 11) (.k (.v (.c (.p (.int .i64 1))))))), (oA 4 (.mv (.t 12)))] [])))))) (.mark 2 [1, 3] (.seq (.reg [(oA 22 (.mv (.t 3))), (oA 23 (.faddr 0 (.t 1))), (oA 24 (.load true 4 (.t 23))), (oA 25 (.bslice 4 1 [(.p (.int .i64 0)), (.p (.str [])), (.p .nilslice), (.p .nilslice)] [(0, (.t 24))] false)), (oA 26 (.append 4 72 false (.t 22) (.t 25))), (oA 3 (.mv (.t 26)))] []) (.seq (.seq (.reg [(oA 5 (.mv (.k (.v (.c (.p (.int .i64 0)))))))] []) (.block 2 (.loop 3 [1, 3, 5] (.seq (.seq (.reg [(oA 27 (.mv (.t 5))), (oA 28 (.faddr 5 (.t 1))), (oA 29 (.load false 1 (.t 28))), (oA 30 (.len 2 (.t 29))), (oA 31 (.bin .lss 0 (.t 27) (.t 30)))] []) (.cond (.t 31) .skip (.exit 2))) (.seq (.block 3 (.seq (.reg [(oA 34 (.mv (.t 3))), (oA 35 (.faddr 5 (.t 1))), (oA 36 (.load false 1 (.t 35))), (oA 37 (.mv (.t 5))), (oA 38 (.iaddr 6 (.t 36) (.t 37))), (oA 39 (.faddr 1 (.t 38))), (oA 40 (.load false 1 (.t 39))), (oA 41 (.append 4 72 false (.t 34) (.t 40))), (oA 3 (.mv (.t 41)))] []) (.reg [(oA 42 (.mv (.t 3))), (oA 43 (.faddr 5 (.t 1))), (oA 44 (.load false 1 (.t 43))), (oA 45 (.mv (.t 5))), (oA 46 (.iaddr 6 (.t 44) (.t 45))), (oA 47 (.faddr 2 (.t 46))), (oA 48 (.load true 4 (.t 47))), (oA 49 (.bslice 4 1 [(.p (.int .i64 0)), (.p (.str [])), (.p .nilslice), (.p .nilslice)] [(0, (.t 48))] false)), (oA 50 (.append 4 72 false (.t 42) (.t 49))), (oA 3 (.mv (.t 50)))] []))) (.reg [(oA 32 (.mv (.t 5))), (oA 33 (.bin .add 0 (.t 32) (.k (.v (.c (.p (.int .i64 1))))))), (oA 5 (.mv (.t 33)))] [])))))) (.seq (.reg [(oA 51 (.mv (.t 3))), (oA 2 (.mv (.t 51)))] []) .ret))))))) }
theorem t54 : compF Tryd.prog (globs2 tabs opq) (fun _ => false) true Tryd.f54 = some c54.erase := by kernel_rfl
noncomputable def b54_0 (O : Oracle) (R : Jump) (q : Nat) (x0 : TVal) (h : Heap) : Res1 :=
 vop O (.box (.k x0) false) h 1 fun x1 h =>
 R 1 [x1, (.v (.c (.p .nilslice))), (kI 0)] h
theorem e54_0 (O : Oracle) (R : Jump) (q : Nat) (x0 : TVal) (h : Heap) : b54_0 O R q x0 h = stepF c54 O R q 0 [x0] h := by kernel_rfl
noncomputable def b54_1 (O : Oracle) (R : Jump) (q : Nat) (x1 x3 x4 : TVal) (h : Heap) : Res1 :=
 vfaddr 4 x1 h fun x7 h =>
 vload false 1 x7 h fun x8 h =>
 vlen O 2 x8 h 9 fun x9 h =>
 vbin .lss 0 x4 x9 h fun x10 h =>
 vif x10 (
 vfaddr 4 x1 h fun x14 h =>
 vload false 1 x14 h fun x15 h =>
 viaddr 5 x15 x4 h fun x17 h =>
 vfaddr 1 x17 h fun x18 h =>
 vload true 4 x18 h fun x19 h =>
 vop O (.bslice 4 1 [(.p (.int .i64 0)), (.p (.str [])), (.p .nilslice), (.p .nilslice)] [(0, (.k x19))] false) h 20 fun x20 h =>
 vop O (.append 4 72 false (.k x3) (.k x20)) h 21 fun x21 h =>
 vbin .add 0 x4 (kI 1) h fun x12 h =>
 R 1 [x1, x21, x12] h)
 (R 2 [x1, x3] h)
theorem e54_1 (O : Oracle) (R : Jump) (q : Nat) (x1 x3 x4 : TVal) (h : Heap) : b54_1 O R q x1 x3 x4 h = stepF c54 O R q 1 [x1, x3, x4] h := by kernel_rfl
noncomputable def b54_2 (O : Oracle) (R : Jump) (q : Nat) (x1 x3 : TVal) (h : Heap) : Res1 :=
 vfaddr 0 x1 h fun x23 h =>
 vload true 4 x23 h fun x24 h =>
 vop O (.bslice 4 1 [(.p (.int .i64 0)), (.p (.str [])), (.p .nilslice), (.p .nilslice)] [(0, (.k x24))] false) h 25 fun x25 h =>
 vop O (.append 4 72 false (.k x3) (.k x25)) h 26 fun x26 h =>
 R 3 [x1, x26, (kI 0)] h
theorem e54_2 (O : Oracle) (R : Jump) (q : Nat) (x1 x3 : TVal) (h : Heap) : b54_2 O R q x1 x3 h = stepF c54 O R q 2 [x1, x3] h := by kernel_rfl
noncomputable def b54_3 (O : Oracle) (R : Jump) (q : Nat) (x1 x3 x5 : TVal) (h : Heap) : Res1 :=
 vfaddr 5 x1 h fun x28 h =>
 vload false 1 x28 h fun x29 h =>
 vlen O 2 x29 h 30 fun x30 h =>
 vbin .lss 0 x5 x30 h fun x31 h =>
 vif x31 (
 vfaddr 5 x1 h fun x35 h =>
 vload false 1 x35 h fun x36 h =>
 viaddr 6 x36 x5 h fun x38 h =>
 vfaddr 1 x38 h fun x39 h =>
 vload false 1 x39 h fun x40 h =>
 vop O (.append 4 72 false (.k x3) (.k x40)) h 41 fun x41 h =>
 vfaddr 5 x1 h fun x43 h =>
 vload false 1 x43 h fun x44 h =>
 viaddr 6 x44 x5 h fun x46 h =>
 vfaddr 2 x46 h fun x47 h =>
 vload true 4 x47 h fun x48 h =>
 vop O (.bslice 4 1 [(.p (.int .i64 0)), (.p (.str [])), (.p .nilslice), (.p .nilslice)] [(0, (.k x48))] false) h 49 fun x49 h =>
 vop O (.append 4 72 false (.k x41) (.k x49)) h 50 fun x50 h =>
 vbin .add 0 x5 (kI 1) h fun x33 h =>
 R 3 [x1, x50, x33] h)
 (tcomp x3 fun c0 => vfin true q [c0] h)
theorem e54_3 (O : Oracle) (R : Jump) (q : Nat) (x1 x3 x5 : TVal) (h : Heap) : b54_3 O R q x1 x3 x5 h = stepF c54 O R q 3 [x1, x3, x5] h := by kernel_rfl
noncomputable def d54 : BlkF := fun O R q => [.s fun y0 => .z fun h => b54_0 O R q y0 h, .s fun y0 => .s fun y1 => .s fun y2 => .z fun h => b54_1 O R q y0 y1 y2 h, .s fun y0 => .s fun y1 => .z fun h => b54_2 O R q y0 y1 h, .s fun y0 => .s fun y1 => .s fun y2 => .z fun h => b54_3 O R q y0 y1 y2 h]
theorem o54 (O : Oracle) (R : Jump) (q : Nat) : HoldsAll c54 O R q 0 (d54 O R q) := ⟨fun y0 h => e54_0 O R q y0 h, fun y0 y1 y2 h => e54_1 O R q y0 y1 y2 h, fun y0 y1 h => e54_2 O R q y0 y1 h, fun y0 y1 y2 h => e54_3 O R q y0 y1 y2 h, trivial⟩
/- sprue/sprueref4.opts -/
def c55 : MFunc := { np := 2, res := [.t 4], frz := true, body := (.seq (.reg [(oA 2 (.box (.t 0) false)), (oA 3 (.box (.t 1) false)), (oA 4 (.mv (.k (.v (.c (.p (.bool false)))))))] []) (.seq (.seq (.reg [(oA 6 (.faddr 0 (.t 3))), (oA 7 (.load false 1 (.t 6))), (oA 8 (.bin .eql 0 (.t 7) (.k (.v (.c (.p (.int .i64 6))))))), (oA 9 (.mv (.t 8))), ⟨(some 10), (.load true 6 (.t 2)), (some (9, true))⟩, ⟨(some 11), (.faddr 3 (.t 3)), (some (9, true))⟩, ⟨(some 12), (.load false 1 (.t 11)), (some (9, true))⟩, ⟨(some 13), (.iaddr 4 (.t 12) (.k (.v (.c (.p (.int .i64 0)))))), (some (9, true))⟩, ⟨(some 14), (.load true 4 (.t 13)), (some (9, true))⟩, ⟨(some 15), (.call (.k (.v (.c (.func 111 [])))) [(.t 10), (.t 14)]), (some (9, true))⟩, ⟨(some 16), (.field 0 1 false (.t 15)), (some (9, true))⟩, ⟨(some 17), (.bin .eql 0 (.t 16) (.k (.v (.c (.p (.int .i64 6)))))), (some (9, true))⟩, (oA 18 (.pick (.t 9) (.t 17) (.k (.v (.c (.p (.bool false)))))))] []) (.cond (.t 18) (.seq (.reg [(oA 4 (.mv (.k (.v (.c (.p (.bool true)))))))] []) .ret) .skip)) (.seq (.seq (.reg [(oA 5 (.mv (.k (.v (.c (.p (.int .i64 0)))))))] []) (.block 0 (.loop 1 [2, 3, 5] (.seq (.seq (.reg [(oA 19 (.mv (.t 5))), (oA 20 (.faddr 3 (.t 3))), (oA 21 (.load false 1 (.t 20))), (oA 22 (.len 2 (.t 21))), (oA 23 (.bin .lss 0 (.t 19) (.t 22)))] []) (.cond (.t 23) .skip (.exit 0))) (.seq (.block 1 (.seq (.reg [(oA 26 (.load true 6 (.t 2))), (oA 27 (.faddr 3 (.t 3))), (oA 28 (.load false 1 (.t 27))), (oA 29 (.mv (.t 5))), (oA 30 (.iaddr 4 (.t 28) (.t 29))), (oA 31 (.load true 4 (.t 30))), (oA 32 (.call (.k (.v (.c (.func 55 [])))) [(.t 26), (.t 31)]))] []) (.cond (.t 32) (.seq (.reg [(oA 4 (.mv (.k (.v (.c (.p (.bool true)))))))] []) .ret) .skip))) (.reg [(oA 24 (.mv (.t 5))), (oA 25 (.bin .add 0 (.t 24) (.k (.v (.c (.p (.int .i64 1))))))), (oA 5 (.mv (.t 25)))] [])))))) (.seq (.reg [(oA 4 (.mv (.k (.v (.c (.p (.bool false)))))))] []) .ret)))) }
theorem t55 : compF Tryd.prog (globs2 tabs opq) (fun _ => false) true Tryd.f55 = some c55.erase := by kernel_rfl
noncomputable def b55_0 (O : Oracle) (R : Jump) (q : Nat) (x0 x1 : TVal) (h : Heap) : Res1 :=
 vop O (.box (.k x0) false) h 2 fun x2 h =>
 vop O (.box (.k x1) false) h 3 fun x3 h =>
 vfaddr 0 x3 h fun x6 h =>
 vload false 1 x6 h fun x7 h =>
 vbin .eql 0 x7 (kI 6) h fun x8 h =>
 vguard x8 true (fun kk => vload true 6 x2 h kk) h fun x10 h =>
 vguard x8 true (fun kk => vfaddr 3 x3 h kk) h fun x11 h =>
 vguard x8 true (fun kk => vload false 1 x11 h kk) h fun x12 h =>
 vguard x8 true (fun kk => viaddr 4 x12 (kI 0) h kk) h fun x13 h =>
 vguard x8 true (fun kk => vload true 4 x13 h kk) h fun x14 h =>
 vguard x8 true (fun kk => vcall O (.v (.c (.func 111 []))) [x10, x14] h 15 kk) h fun x15 h =>
 vguard x8 true (fun kk => vfield 0 1 false x15 h kk) h fun x16 h =>
 vguard x8 true (fun kk => vbin .eql 0 x16 (kI 6) h kk) h fun x17 h =>
 vop O (.pick (.k x8) (.k x17) (.k (kB false))) h 18 fun x18 h =>
 vif x18 (
 tcomp (kB true) fun c0 => vfin true q [c0] h)
 (R 1 [x2, x3, (kI 0)] h)
theorem e55_0 (O : Oracle) (R : Jump) (q : Nat) (x0 x1 : TVal) (h : Heap) : b55_0 O R q x0 x1 h = stepF c55 O R q 0 [x0, x1] h := by kernel_rfl
noncomputable def b55_1 (O : Oracle) (R : Jump) (q : Nat) (x2 x3 x5 : TVal) (h : Heap) : Res1 :=
 vfaddr 3 x3 h fun x20 h =>
 vload false 1 x20 h fun x21 h =>
 vlen O 2 x21 h 22 fun x22 h =>
 vbin .lss 0 x5 x22 h fun x23 h =>
 vif x23 (
 vload true 6 x2 h fun x26 h =>
 vfaddr 3 x3 h fun x27 h =>
 vload false 1 x27 h fun x28 h =>
 viaddr 4 x28 x5 h fun x30 h =>
 vload true 4 x30 h fun x31 h =>
 vcall O (.v (.c (.func 55 []))) [x26, x31] h 32 fun x32 h =>
 vif x32 (
 tcomp (kB true) fun c0 => vfin true q [c0] h)
 (vbin .add 0 x5 (kI 1) h fun x25 h =>
 R 1 [x2, x3, x25] h))
 (tcomp (kB false) fun c0 => vfin true q [c0] h)
theorem e55_1 (O : Oracle) (R : Jump) (q : Nat) (x2 x3 x5 : TVal) (h : Heap) : b55_1 O R q x2 x3 x5 h = stepF c55 O R q 1 [x2, x3, x5] h := by kernel_rfl
noncomputable def d55 : BlkF := fun O R q => [.s fun y0 => .s fun y1 => .z fun h => b55_0 O R q y0 y1 h, .s fun y0 => .s fun y1 => .s fun y2 => .z fun h => b55_1 O R q y0 y1 y2 h]
theorem o55 (O : Oracle) (R : Jump) (q : Nat) : HoldsAll c55 O R q 0 (d55 O R q) := ⟨fun y0 y1 h => e55_0 O R q y0 y1 h, fun y0 y1 y2 h => e55_1 O R q y0 y1 y2 h, trivial⟩
/- (*sprue/sprueref13.walk).check -/
def c56 : MFunc := { np := 3, res := [.t 6], frz := true, body := (.seq (.reg [(oA 4 (.box (.t 1) false)), (oA 6 (.mv (.k (.v (.c (.p (.int .i64 0)))))))] []) (.seq (.reg [(oA 11 (.mv (.t 0))), (oA 12 (.nilck (.t 11))), (oA 13 (.faddr 0 (.t 12))), (oA 14 (.load false 1 (.t 13))), (oA 15 (.bin .add 0 (.t 14) (.k (.v (.c (.p (.int .i64 1))))))), (oA 16 (.nilck (.t 11))), (oA 17 (.faddr 0 (.t 16))), (oN (.store 1 (.t 17) (.t 15)))] []) (.seq (.seq (.reg [(oA 18 (.mv (.t 0))), (oA 19 (.nilck (.t 18))), (oA 20 (.faddr 0 (.t 19))), (oA 21 (.load false 1 (.t 20))), (oA 22 (.bin .gtr 0 (.t 21) (.k (.v (.c (.p (.int .i64 2000)))))))] []) (.cond (.t 22) (.seq (.reg [(oA 6 (.mv (.k (.v (.c (.p (.int .i64 3)))))))] []) .ret) .skip)) (.seq (.seq (.reg [(oA 23 (.load true 6 (.t 4))), (oA 24 (.call (.k (.v (.c (.func 112 [])))) [(.t 23)])), (oA 25 (.un .not (.t 24)))] []) (.cond (.t 25) (.seq (.reg [(oA 6 (.mv (.k (.v (.c (.p (.int .i64 1)))))))] []) .ret) .skip)) (.seq (.seq (.reg [(oA 26 (.mv (.t 2))), (oA 27 (.bin .gtr 0 (.t 26) (.k (.v (.c (.p (.int .i64 12)))))))] []) (.cond (.t 27) (.seq (.reg [(oA 6 (.mv (.k (.v (.c (.p (.int .i64 13)))))))] []) .ret) .skip)) (.seq (.seq (.reg [(oA 28 (.faddr 5 (.t 4))), (oA 29 (.load false 1 (.t 28))), (oA 30 (.len 2 (.t 29))), (oA 31 (.bin .gtr 0 (.t 30) (.k (.v (.c (.p (.int .i64 40)))))))] []) (.cond (.t 31) (.seq (.reg [(oA 6 (.mv (.k (.v (.c (.p (.int .i64 3)))))))] []) .ret) .skip)) (.seq (.seq (.reg [(oA 32 (.faddr 3 (.t 4))), (oA 33 (.load false 1 (.t 32))), (oA 34 (.len 0 (.t 33))), (oA 35 (.bin .gtr 0 (.t 34) (.k (.v (.c (.p (.int .i64 200)))))))] []) (.cond (.t 35) (.seq (.reg [(oA 6 (.mv (.k (.v (.c (.p (.int .i64 4)))))))] []) .ret) .skip)) (.seq (.seq (.reg [(oA 7 (.mv (.k (.v (.c (.p (.int .i64 0)))))))] []) (.block 0 (.loop 1 [0, 2, 4, 7] (.seq (.seq (.reg [(oA 36 (.mv (.t 7))), (oA 37 (.faddr 4 (.t 4))), (oA 38 (.load false 1 (.t 37))), (oA 39 (.len 2 (.t 38))), (oA 40 (.bin .lss 0 (.t 36) (.t 39)))] []) (.cond (.t 40) .skip (.exit 0))) (.seq (.block 1 (.seq (.reg [(oA 43 (.faddr 4 (.t 4))), (oA 44 (.load false 1 (.t 43))), (oA 45 (.mv (.t 7))), (oA 46 (.iaddr 1 (.t 44) (.t 45))), (oA 47 (.load false 1 (.t 46))), (oA 48 (.len 0 (.t 47))), (oA 49 (.bin .gtr 0 (.t 48) (.k (.v (.c (.p (.int .i64 200)))))))] []) (.cond (.t 49) (.seq (.reg [(oA 6 (.mv (.k (.v (.c (.p (.int .i64 4)))))))] []) .ret) .skip))) (.reg [(oA 41 (.mv (.t 7))), (oA 42 (.bin .add 0 (.t 41) (.k (.v (.c (.p (.int .i64 1))))))), (oA 7 (.mv (.t 42)))] [])))))) (.mark 2 [0, 2, 4] (.seq (.seq (.reg [(oA 8 (.mv (.k (.v (.c (.p (.int .i64 1)))))))] []) (.block 2 (.loop 3 [0, 2, 4, 8] (.seq (.seq (.reg [(oA 50 (.mv (.t 8))), (oA 51 (.faddr 4 (.t 4))), (oA 52 (.load false 1 (.t 51))), (oA 53 (.len 2 (.t 52))), (oA 54 (.bin .lss 0 (.t 50) (.t 53)))] []) (.cond (.t 54) .skip (.exit 2))) (.seq (.block 3 (.seq (.reg [(oA 57 (.faddr 4 (.t 4))), (oA 58 (.load false 1 (.t 57))), (oA 59 (.mv (.t 8))), (oA 60 (.iaddr 1 (.t 58) (.t 59))), (oA 61 (.load false 1 (.t 60))), (oA 62 (.faddr 4 (.t 4))), (oA 63 (.load false 1 (.t 62))), (oA 64 (.mv (.t 8))), (oA 65 (.bin .sub 0 (.t 64) (.k (.v (.c (.p (.int .i64 1))))))), (oA 66 (.iaddr 1 (.t 63) (.t 65))), (oA 67 (.load false 1 (.t 66))), (oA 68 (.bin .leq 0 (.t 61) (.t 67)))] []) (.cond (.t 68) (.seq (.reg [(oA 6 (.mv (.k (.v (.c (.p (.int .i64 6)))))))] []) .ret) .skip))) (.reg [(oA 55 (.mv (.t 8))), (oA 56 (.bin .add 0 (.t 55) (.k (.v (.c (.p (.int .i64 1))))))), (oA 8 (.mv (.t 56)))] [])))))) (.mark 4 [0, 2, 4] (.seq (.seq (.reg [(oA 9 (.mv (.k (.v (.c (.p (.int .i64 0)))))))] []) (.block 4 (.loop 5 [0, 2, 4, 9] (.seq (.seq (.reg [(oA 69 (.mv (.t 9))), (oA 70 (.faddr 5 (.t 4))), (oA 71 (.load false 1 (.t 70))), (oA 72 (.len 2 (.t 71))), (oA 73 (.bin .lss 0 (.t 69) (.t 72)))] []) (.cond (.t 73) .skip (.exit 4))) (.seq (.block 5 (.seq (.reg [(oA 76 (.mv (.t 0))), (oA 77 (.faddr 5 (.t 4))), (oA 78 (.load false 1 (.t 77))), (oA 79 (.mv (.t 9))), (oA 80 (.iaddr 6 (.t 78) (.t 79))), (oA 81 (.load true 6 (.t 80))), (oA 82 (.mv (.t 2))), (oA 83 (.bin .add 0 (.t 82) (.k (.v (.c (.p (.int .i64 1))))))), (oA 84 (.call (.k (.v (.c (.func 56 [])))) [(.t 76), (.t 81), (.t 83)])), (oA 10 (.mv (.t 84)))] []) (.seq (.reg [(oA 85 (.mv (.t 10))), (oA 86 (.bin .neq 0 (.t 85) (.k (.v (.c (.p (.int .i64 0)))))))] []) (.cond (.t 86) (.seq (.reg [(oA 87 (.mv (.t 10))), (oA 6 (.mv (.t 87)))] []) .ret) .skip)))) (.reg [(oA 74 (.mv (.t 9))), (oA 75 (.bin .add 0 (.t 74) (.k (.v (.c (.p (.int .i64 1))))))), (oA 9 (.mv (.t 75)))] [])))))) (.seq (.reg [(oA 6 (.mv (.k (.v (.c (.p (.int .i64 0)))))))] []) .ret))))))))))))) }
theorem t56 : compF Tryd.prog (globs2 tabs opq) (fun _ => false) true Tryd.f56 = some c56.erase := by kernel_rfl
noncomputable def b56_0 (O : Oracle) (R : Jump) (q : Nat) (x0 x1 x2 : TVal) (h : Heap) : Res1 :=
 vop O (.box (.k x1) false) h 4 fun x4 h =>
 vop O (.nilck (.k x0)) h 12 fun x12 h =>
 vfaddr 0 x12 h fun x13 h =>
 vload false 1 x13 h fun x14 h =>
 vbin .add 0 x14 (kI 1) h fun x15 h =>
 vop O (.nilck (.k x0)) h 16 fun x16 h =>
 vfaddr 0 x16 h fun x17 h =>
 vstore 1 x17 x15 h fun _ h =>
 vop O (.nilck (.k x0)) h 19 fun x19 h =>
 vfaddr 0 x19 h fun x20 h =>
 vload false 1 x20 h fun x21 h =>
 vbin .gtr 0 x21 (kI 2000) h fun x22 h =>
 vif x22 (
 tcomp (kI 3) fun c0 => vfin true q [c0] h)
 (vload true 6 x4 h fun x23 h =>
 vcall O (.v (.c (.func 112 []))) [x23] h 24 fun x24 h =>
 vop O (.un .not (.k x24)) h 25 fun x25 h =>
 vif x25 (
 tcomp (kI 1) fun c0 => vfin true q [c0] h)
 (vbin .gtr 0 x2 (kI 12) h fun x27 h =>
 vif x27 (
 tcomp (kI 13) fun c0 => vfin true q [c0] h)
 (vfaddr 5 x4 h fun x28 h =>
 vload false 1 x28 h fun x29 h =>
 vlen O 2 x29 h 30 fun x30 h =>
 vbin .gtr 0 x30 (kI 40) h fun x31 h =>
 vif x31 (
 tcomp (kI 3) fun c0 => vfin true q [c0] h)
 (vfaddr 3 x4 h fun x32 h =>
 vload false 1 x32 h fun x33 h =>
 vlen O 0 x33 h 34 fun x34 h =>
 vbin .gtr 0 x34 (kI 200) h fun x35 h =>
 vif x35 (
 tcomp (kI 4) fun c0 => vfin true q [c0] h)
 (R 1 [x0, x2, x4, (kI 0)] h)))))
theorem e56_0 (O : Oracle) (R : Jump) (q : Nat) (x0 x1 x2 : TVal) (h : Heap) : b56_0 O R q x0 x1 x2 h = stepF c56 O R q 0 [x0, x1, x2] h := by kernel_rfl
noncomputable def b56_1 (O : Oracle) (R : Jump) (q : Nat) (x0 x2 x4 x7 : TVal) (h : Heap) : Res1 :=
 vfaddr 4 x4 h fun x37 h =>
 vload false 1 x37 h fun x38 h =>
 vlen O 2 x38 h 39 fun x39 h =>
 vbin .lss 0 x7 x39 h fun x40 h =>
 vif x40 (
 vfaddr 4 x4 h fun x43 h =>
 vload false 1 x43 h fun x44 h =>
 viaddr 1 x44 x7 h fun x46 h =>
 vload false 1 x46 h fun x47 h =>
 vlen O 0 x47 h 48 fun x48 h =>
 vbin .gtr 0 x48 (kI 200) h fun x49 h =>
 vif x49 (
 tcomp (kI 4) fun c0 => vfin true q [c0] h)
 (vbin .add 0 x7 (kI 1) h fun x42 h =>
 R 1 [x0, x2, x4, x42] h))
 (R 2 [x0, x2, x4] h)
theorem e56_1 (O : Oracle) (R : Jump) (q : Nat) (x0 x2 x4 x7 : TVal) (h : Heap) : b56_1 O R q x0 x2 x4 x7 h = stepF c56 O R q 1 [x0, x2, x4, x7] h := by kernel_rfl
noncomputable def b56_2 (O : Oracle) (R : Jump) (q : Nat) (x0 x2 x4 : TVal) (h : Heap) : Res1 :=
 R 3 [x0, x2, x4, (kI 1)] h
theorem e56_2 (O : Oracle) (R : Jump) (q : Nat) (x0 x2 x4 : TVal) (h : Heap) : b56_2 O R q x0 x2 x4 h = stepF c56 O R q 2 [x0, x2, x4] h := by kernel_rfl
noncomputable def b56_3 (O : Oracle) (R : Jump) (q : Nat) (x0 x2 x4 x8 : TVal) (h : Heap) : Res1 :=
 vfaddr 4 x4 h fun x51 h =>
 vload false 1 x51 h fun x52 h =>
 vlen O 2 x52 h 53 fun x53 h =>
 vbin .lss 0 x8 x53 h fun x54 h =>
 vif x54 (
 vfaddr 4 x4 h fun x57 h =>
 vload false 1 x57 h fun x58 h =>
 viaddr 1 x58 x8 h fun x60 h =>
 vload false 1 x60 h fun x61 h =>
 vfaddr 4 x4 h fun x62 h =>
 vload false 1 x62 h fun x63 h =>
 vbin .sub 0 x8 (kI 1) h fun x65 h =>
 viaddr 1 x63 x65 h fun x66 h =>
 vload false 1 x66 h fun x67 h =>
 vbin .leq 0 x61 x67 h fun x68 h =>
 vif x68 (
 tcomp (kI 6) fun c0 => vfin true q [c0] h)
 (vbin .add 0 x8 (kI 1) h fun x56 h =>
 R 3 [x0, x2, x4, x56] h))
 (R 4 [x0, x2, x4] h)
theorem e56_3 (O : Oracle) (R : Jump) (q : Nat) (x0 x2 x4 x8 : TVal) (h : Heap) : b56_3 O R q x0 x2 x4 x8 h = stepF c56 O R q 3 [x0, x2, x4, x8] h := by kernel_rfl
noncomputable def b56_4 (O : Oracle) (R : Jump) (q : Nat) (x0 x2 x4 : TVal) (h : Heap) : Res1 :=
 R 5 [x0, x2, x4, (kI 0)] h
theorem e56_4 (O : Oracle) (R : Jump) (q : Nat) (x0 x2 x4 : TVal) (h : Heap) : b56_4 O R q x0 x2 x4 h = stepF c56 O R q 4 [x0, x2, x4] h := by kernel_rfl
noncomputable def b56_5 (O : Oracle) (R : Jump) (q : Nat) (x0 x2 x4 x9 : TVal) (h : Heap) : Res1 :=
 vfaddr 5 x4 h fun x70 h =>
 vload false 1 x70 h fun x71 h =>
 vlen O 2 x71 h 72 fun x72 h =>
 vbin .lss 0 x9 x72 h fun x73 h =>
 vif x73 (
 vfaddr 5 x4 h fun x77 h =>
 vload false 1 x77 h fun x78 h =>
 viaddr 6 x78 x9 h fun x80 h =>
 vload true 6 x80 h fun x81 h =>
 vbin .add 0 x2 (kI 1) h fun x83 h =>
 vcall O (.v (.c (.func 56 []))) [x0, x81, x83] h 84 fun x84 h =>
 vbin .neq 0 x84 (kI 0) h fun x86 h =>
 vif x86 (
 tcomp x84 fun c0 => vfin true q [c0] h)
 (vbin .add 0 x9 (kI 1) h fun x75 h =>
 R 5 [x0, x2, x4, x75] h))
 (tcomp (kI 0) fun c0 => vfin true q [c0] h)
theorem e56_5 (O : Oracle) (R : Jump) (q : Nat) (x0 x2 x4 x9 : TVal) (h : Heap) : b56_5 O R q x0 x2 x4 x9 h = stepF c56 O R q 5 [x0, x2, x4, x9] h := by kernel_rfl
noncomputable def d56 : BlkF := fun O R q => [.s fun y0 => .s fun y1 => .s fun y2 => .z fun h => b56_0 O R q y0 y1 y2 h, .s fun y0 => .s fun y1 => .s fun y2 => .s fun y3 => .z fun h => b56_1 O R q y0 y1 y2 y3 h, .s fun y0 => .s fun y1 => .s fun y2 => .z fun h => b56_2 O R q y0 y1 y2 h, .s fun y0 => .s fun y1 => .s fun y2 => .s fun y3 => .z fun h => b56_3 O R q y0 y1 y2 y3 h, .s fun y0 => .s fun y1 => .s fun y2 => .z fun h => b56_4 O R q y0 y1 y2 h, .s fun y0 => .s fun y1 => .s fun y2 => .s fun y3 => .z fun h => b56_5 O R q y0 y1 y2 y3 h]
theorem o56 (O : Oracle) (R : Jump) (q : Nat) : HoldsAll c56 O R q 0 (d56 O R q) := ⟨fun y0 y1 y2 h => e56_0 O R q y0 y1 y2 h, fun y0 y1 y2 y3 h => e56_1 O R q y0 y1 y2 y3 h, fun y0 y1 y2 h => e56_2 O R q y0 y1 y2 h, fun y0 y1 y2 y3 h => e56_3 O R q y0 y1 y2 y3 h, fun y0 y1 y2 h => e56_4 O R q y0 y1 y2 h, fun y0 y1 y2 y3 h => e56_5 O R q y0 y1 y2 y3 h, trivial⟩
/- sprue/fits.made -/
def c57 : MFunc := { np := 1, res := [.t 2], frz := true, body := (.seq (.reg [(oA 1 (.box (.t 0) false)), (oA 2 (.mv (.k (.v (.c (.p .nilmap))))))] []) (.seq (.reg [(oA 6 .mkmap), (oA 3 (.mv (.t 6)))] []) (.seq (.seq (.reg [(oA 7 (.faddr 4 (.t 1))), (oA 8 (.load false 1 (.t 7))), (oA 9 (.len 2 (.t 8))), (oA 10 (.mv (.k (.v (.c (.p (.int .i64 0)))))))] []) (.block 0 (.loop 1 [3, 8, 9, 10] (.seq (.reg [(oA 11 (.bin .lss 0 (.t 10) (.t 9)))] []) (.seq (.cond (.t 11) .skip (.exit 0)) (.seq (.block 1 (.seq (.reg [(oA 12 (.iaddr 5 (.t 8) (.t 10))), (oA 13 (.load true 5 (.t 12))), (oA 5 (.alloc [(.p (.str [])), (.p (.int .i64 0)), (.p (.str [])), (.p .nilslice), (.p .nilslice)] false)), (oN (.store 5 (.t 5) (.t 13)))] []) (.reg [(oA 14 (.mv (.t 3))), (oA 15 (.faddr 0 (.t 5))), (oA 16 (.load false 1 (.t 15))), (oA 17 (.faddr 1 (.t 5))), (oA 18 (.load true 4 (.t 17))), (oN (.mapup 2 (.t 14) (.t 16) (.t 18)))] []))) (.reg [(oA 19 (.bin .add 0 (.t 10) (.k (.v (.c (.p (.int .i64 1))))))), (oA 10 (.mv (.t 19)))] []))))))) (.seq (.reg [(oA 20 (.mv (.t 3))), (oA 2 (.mv (.t 20)))] []) .ret)))) }
theorem t57 : compF Tryd.prog (globs2 tabs opq) (fun _ => false) true Tryd.f57 = some c57.erase := by kernel_rfl
noncomputable def b57_0 (O : Oracle) (R : Jump) (q : Nat) (x0 : TVal) (h : Heap) : Res1 :=
 vop O (.box (.k x0) false) h 1 fun x1 h =>
 vop O .mkmap h 6 fun x6 h =>
 vfaddr 4 x1 h fun x7 h =>
 vload false 1 x7 h fun x8 h =>
 vlen O 2 x8 h 9 fun x9 h =>
 R 1 [x6, x8, x9, (kI 0)] h
theorem e57_0 (O : Oracle) (R : Jump) (q : Nat) (x0 : TVal) (h : Heap) : b57_0 O R q x0 h = stepF c57 O R q 0 [x0] h := by kernel_rfl
noncomputable def b57_1 (O : Oracle) (R : Jump) (q : Nat) (x3 x8 x9 x10 : TVal) (h : Heap) : Res1 :=
 vbin .lss 0 x10 x9 h fun x11 h =>
 vif x11 (
 viaddr 5 x8 x10 h fun x12 h =>
 vload true 5 x12 h fun x13 h =>
 vop O (.alloc [(.p (.str [])), (.p (.int .i64 0)), (.p (.str [])), (.p .nilslice), (.p .nilslice)] false) h 5 fun x5 h =>
 vstore 5 x5 x13 h fun _ h =>
 vfaddr 0 x5 h fun x15 h =>
 vload false 1 x15 h fun x16 h =>
 vfaddr 1 x5 h fun x17 h =>
 vload true 4 x17 h fun x18 h =>
 vop O (.mapup 2 (.k x3) (.k x16) (.k x18)) h 1000000 fun _ h =>
 vbin .add 0 x10 (kI 1) h fun x19 h =>
 R 1 [x3, x8, x9, x19] h)
 (tcomp x3 fun c0 => vfin true q [c0] h)
theorem e57_1 (O : Oracle) (R : Jump) (q : Nat) (x3 x8 x9 x10 : TVal) (h : Heap) : b57_1 O R q x3 x8 x9 x10 h = stepF c57 O R q 1 [x3, x8, x9, x10] h := by kernel_rfl
noncomputable def d57 : BlkF := fun O R q => [.s fun y0 => .z fun h => b57_0 O R q y0 h, .s fun y0 => .s fun y1 => .s fun y2 => .s fun y3 => .z fun h => b57_1 O R q y0 y1 y2 y3 h]
theorem o57 (O : Oracle) (R : Jump) (q : Nat) : HoldsAll c57 O R q 0 (d57 O R q) := ⟨fun y0 h => e57_0 O R q y0 h, fun y0 y1 y2 y3 h => e57_1 O R q y0 y1 y2 y3 h, trivial⟩
/- (sprue/fits.fitter).fit -/
def c58 : MFunc := { np := 3, res := [.t 6, .t 7], frz := true, body := (.seq (.reg [(oA 4 (.box (.t 1) false)), (oA 5 (.box (.t 2) false)), (oA 6 (.mv (.k (.v (.c (.p (.str []))))))), (oA 7 (.mv (.k (.v (.c (.p (.bool false)))))))] []) (.seq (.seq (.reg [(oA 8 (.mv (.t 0))), (oA 9 (.load true 4 (.t 4))), (oA 10 (.call (.k (.v (.c (.func 113 [])))) [(.t 8), (.t 9)])), (oN (.store 4 (.t 4) (.t 10)))] []) (.seq (.reg [(oA 11 (.faddr 0 (.t 4))), (oA 12 (.load false 1 (.t 11)))] []) (.block 0 (.seq (.reg [(oA 14 (.bin .eql 0 (.t 12) (.k (.v (.c (.p (.int .i64 1))))))), (oA 13 (.mv (.t 14)))] []) (.cond (.t 13) (.seq (.reg [(oA 15 (.faddr 0 (.t 5))), (oA 16 (.load false 1 (.t 15))), (oA 17 (.bin .eql 0 (.t 16) (.k (.v (.c (.p (.int .i64 1))))))), (oA 6 (.mv (.k (.v (.c (.p (.str []))))))), (oA 7 (.mv (.t 17)))] []) .ret) (.seq (.reg [(oA 19 (.bin .eql 0 (.t 12) (.k (.v (.c (.p (.int .i64 2))))))), (oA 18 (.mv (.t 19)))] []) (.cond (.t 18) (.seq (.reg [(oA 20 (.faddr 0 (.t 5))), (oA 21 (.load false 1 (.t 20))), (oA 22 (.bin .eql 0 (.t 21) (.k (.v (.c (.p (.int .i64 2))))))), (oA 6 (.mv (.k (.v (.c (.p (.str []))))))), (oA 7 (.mv (.t 22)))] []) .ret) (.seq (.reg [(oA 24 (.bin .eql 0 (.t 12) (.k (.v (.c (.p (.int .i64 3))))))), (oA 23 (.mv (.t 24)))] []) (.cond (.t 23) (.seq (.reg [(oA 25 (.faddr 0 (.t 5))), (oA 26 (.load false 1 (.t 25))), (oA 27 (.bin .eql 0 (.t 26) (.k (.v (.c (.p (.int .i64 3))))))), (oA 6 (.mv (.k (.v (.c (.p (.str []))))))), (oA 7 (.mv (.t 27)))] []) .ret) (.seq (.reg [(oA 29 (.bin .eql 0 (.t 12) (.k (.v (.c (.p (.int .i64 4))))))), (oA 28 (.mv (.t 29)))] []) (.cond (.t 28) (.seq (.reg [(oA 30 (.mv (.t 0))), (oA 31 (.load true 4 (.t 4))), (oA 32 (.load true 6 (.t 5))), (oA 33 (.call (.k (.v (.c (.func 114 [])))) [(.t 30), (.t 31), (.t 32), (.k (.v (.c (.p (.int .i64 4))))), (.k (.v (.c (.func 115 []))))])), (oA 34 (.extract (.t 33) 0)), (oA 35 (.extract (.t 33) 1)), (oA 6 (.mv (.t 34))), (oA 7 (.mv (.t 35)))] []) .ret) (.seq (.reg [(oA 37 (.bin .eql 0 (.t 12) (.k (.v (.c (.p (.int .i64 5))))))), (oA 36 (.mv (.t 37)))] []) (.cond (.t 36) (.seq (.reg [(oA 38 (.mv (.t 0))), (oA 39 (.load true 4 (.t 4))), (oA 40 (.load true 6 (.t 5))), (oA 41 (.mkfn 117 [(.t 5)])), (oA 42 (.call (.k (.v (.c (.func 114 [])))) [(.t 38), (.t 39), (.t 40), (.k (.v (.c (.p (.int .i64 5))))), (.t 41)])), (oA 43 (.extract (.t 42) 0)), (oA 44 (.extract (.t 42) 1)), (oA 6 (.mv (.t 43))), (oA 7 (.mv (.t 44)))] []) .ret) (.seq (.reg [(oA 46 (.bin .eql 0 (.t 12) (.k (.v (.c (.p (.int .i64 6))))))), (oA 45 (.mv (.t 46)))] []) (.cond (.t 45) (.seq (.seq (.reg [(oA 47 (.faddr 0 (.t 5))), (oA 48 (.load false 1 (.t 47))), (oA 49 (.bin .eql 0 (.t 48) (.k (.v (.c (.p (.int .i64 0))))))), (oA 50 (.mv (.t 49))), ⟨(some 51), (.faddr 3 (.t 4)), (some (50, false))⟩, ⟨(some 52), (.load false 1 (.t 51)), (some (50, false))⟩, ⟨(some 53), (.len 2 (.t 52)), (some (50, false))⟩, ⟨(some 54), (.bin .neq 0 (.t 53) (.k (.v (.c (.p (.int .i64 1)))))), (some (50, false))⟩, (oA 55 (.pick (.t 50) (.k (.v (.c (.p (.bool true))))) (.t 54)))] []) (.cond (.t 55) (.seq (.reg [(oA 56 (.faddr 0 (.t 5))), (oA 57 (.load false 1 (.t 56))), (oA 58 (.bin .eql 0 (.t 57) (.k (.v (.c (.p (.int .i64 0))))))), (oA 6 (.mv (.k (.v (.c (.p (.str []))))))), (oA 7 (.mv (.t 58)))] []) .ret) .skip)) (.seq (.reg [(oA 59 (.mv (.t 0))), (oA 60 (.faddr 3 (.t 4))), (oA 61 (.load false 1 (.t 60))), (oA 62 (.iaddr 4 (.t 61) (.k (.v (.c (.p (.int .i64 0))))))), (oA 63 (.load true 4 (.t 62))), (oA 64 (.load true 6 (.t 5))), (oA 65 (.call (.k (.v (.c (.func 58 [])))) [(.t 59), (.t 63), (.t 64)])), (oA 66 (.extract (.t 65) 0)), (oA 67 (.extract (.t 65) 1)), (oA 6 (.mv (.t 66))), (oA 7 (.mv (.t 67)))] []) .ret)) (.seq (.reg [(oA 69 (.bin .eql 0 (.t 12) (.k (.v (.c (.p (.int .i64 7))))))), (oA 68 (.mv (.t 69)))] []) (.cond (.t 68) (.seq (.reg [(oA 70 (.mv (.t 0))), (oA 71 (.load true 4 (.t 4))), (oA 72 (.load true 6 (.t 5))), (oA 73 (.call (.k (.v (.c (.func 118 [])))) [(.t 70), (.t 71), (.t 72)])), (oA 74 (.extract (.t 73) 0)), (oA 75 (.extract (.t 73) 1)), (oA 6 (.mv (.t 74))), (oA 7 (.mv (.t 75)))] []) .ret) (.seq (.reg [(oA 77 (.bin .eql 0 (.t 12) (.k (.v (.c (.p (.int .i64 8))))))), (oA 76 (.mv (.t 77)))] []) (.cond (.t 76) (.seq (.reg [(oA 78 (.mv (.t 0))), (oA 79 (.load true 4 (.t 4))), (oA 80 (.load true 6 (.t 5))), (oA 81 (.call (.k (.v (.c (.func 119 [])))) [(.t 78), (.t 79), (.t 80)])), (oA 82 (.extract (.t 81) 0)), (oA 83 (.extract (.t 81) 1)), (oA 6 (.mv (.t 82))), (oA 7 (.mv (.t 83)))] []) .ret) .skip))))))))))))))))))) (.seq (.reg [(oA 6 (.mv (.k (.v (.c (.p (.str []))))))), (oA 7 (.mv (.k (.v (.c (.p (.bool false)))))))] []) .ret))) }
theorem t58 : compF Tryd.prog (globs2 tabs opq) (fun _ => false) true Tryd.f58 = some c58.erase := by kernel_rfl
noncomputable def b58_0 (O : Oracle) (R : Jump) (q : Nat) (x0 x1 x2 : TVal) (h : Heap) : Res1 :=
 vop O (.box (.k x1) false) h 4 fun x4 h =>
 vop O (.box (.k x2) false) h 5 fun x5 h =>
 vload true 4 x4 h fun x9 h =>
 vcall O (.v (.c (.func 113 []))) [x0, x9] h 10 fun x10 h =>
 vstore 4 x4 x10 h fun _ h =>
 vfaddr 0 x4 h fun x11 h =>
 vload false 1 x11 h fun x12 h =>
 vbin .eql 0 x12 (kI 1) h fun x14 h =>
 vif x14 (
 vfaddr 0 x5 h fun x15 h =>
 vload false 1 x15 h fun x16 h =>
 vbin .eql 0 x16 (kI 1) h fun x17 h =>
 tcomp (kS []) fun c0 => tcomp x17 fun c1 => vfin true q [c0, c1] h)
 (vbin .eql 0 x12 (kI 2) h fun x19 h =>
 vif x19 (
 vfaddr 0 x5 h fun x20 h =>
 vload false 1 x20 h fun x21 h =>
 vbin .eql 0 x21 (kI 2) h fun x22 h =>
 tcomp (kS []) fun c0 => tcomp x22 fun c1 => vfin true q [c0, c1] h)
 (vbin .eql 0 x12 (kI 3) h fun x24 h =>
 vif x24 (
 vfaddr 0 x5 h fun x25 h =>
 vload false 1 x25 h fun x26 h =>
 vbin .eql 0 x26 (kI 3) h fun x27 h =>
 tcomp (kS []) fun c0 => tcomp x27 fun c1 => vfin true q [c0, c1] h)
 (vbin .eql 0 x12 (kI 4) h fun x29 h =>
 vif x29 (
 vload true 4 x4 h fun x31 h =>
 vload true 6 x5 h fun x32 h =>
 vcall O (.v (.c (.func 114 []))) [x0, x31, x32, (kI 4), (.v (.c (.func 115 [])))] h 33 fun x33 h =>
 vext x33 0 h fun x34 h =>
 vext x33 1 h fun x35 h =>
 tcomp x34 fun c0 => tcomp x35 fun c1 => vfin true q [c0, c1] h)
 (vbin .eql 0 x12 (kI 5) h fun x37 h =>
 vif x37 (
 vload true 4 x4 h fun x39 h =>
 vload true 6 x5 h fun x40 h =>
 vop O (.mkfn 117 [(.k x5)]) h 41 fun x41 h =>
 vcall O (.v (.c (.func 114 []))) [x0, x39, x40, (kI 5), x41] h 42 fun x42 h =>
 vext x42 0 h fun x43 h =>
 vext x42 1 h fun x44 h =>
 tcomp x43 fun c0 => tcomp x44 fun c1 => vfin true q [c0, c1] h)
 (vbin .eql 0 x12 (kI 6) h fun x46 h =>
 vif x46 (
 vfaddr 0 x5 h fun x47 h =>
 vload false 1 x47 h fun x48 h =>
 vbin .eql 0 x48 (kI 0) h fun x49 h =>
 vguard x49 false (fun kk => vfaddr 3 x4 h kk) h fun x51 h =>
 vguard x49 false (fun kk => vload false 1 x51 h kk) h fun x52 h =>
 vguard x49 false (fun kk => vlen O 2 x52 h 53 kk) h fun x53 h =>
 vguard x49 false (fun kk => vbin .neq 0 x53 (kI 1) h kk) h fun x54 h =>
 vop O (.pick (.k x49) (.k (kB true)) (.k x54)) h 55 fun x55 h =>
 vif x55 (
 vfaddr 0 x5 h fun x56 h =>
 vload false 1 x56 h fun x57 h =>
 vbin .eql 0 x57 (kI 0) h fun x58 h =>
 tcomp (kS []) fun c0 => tcomp x58 fun c1 => vfin true q [c0, c1] h)
 (vfaddr 3 x4 h fun x60 h =>
 vload false 1 x60 h fun x61 h =>
 viaddr 4 x61 (kI 0) h fun x62 h =>
 vload true 4 x62 h fun x63 h =>
 vload true 6 x5 h fun x64 h =>
 vcall O (.v (.c (.func 58 []))) [x0, x63, x64] h 65 fun x65 h =>
 vext x65 0 h fun x66 h =>
 vext x65 1 h fun x67 h =>
 tcomp x66 fun c0 => tcomp x67 fun c1 => vfin true q [c0, c1] h))
 (vbin .eql 0 x12 (kI 7) h fun x69 h =>
 vif x69 (
 vload true 4 x4 h fun x71 h =>
 vload true 6 x5 h fun x72 h =>
 vcall O (.v (.c (.func 118 []))) [x0, x71, x72] h 73 fun x73 h =>
 vext x73 0 h fun x74 h =>
 vext x73 1 h fun x75 h =>
 tcomp x74 fun c0 => tcomp x75 fun c1 => vfin true q [c0, c1] h)
 (vbin .eql 0 x12 (kI 8) h fun x77 h =>
 vif x77 (
 vload true 4 x4 h fun x79 h =>
 vload true 6 x5 h fun x80 h =>
 vcall O (.v (.c (.func 119 []))) [x0, x79, x80] h 81 fun x81 h =>
 vext x81 0 h fun x82 h =>
 vext x81 1 h fun x83 h =>
 tcomp x82 fun c0 => tcomp x83 fun c1 => vfin true q [c0, c1] h)
 (tcomp (kS []) fun c0 => tcomp (kB false) fun c1 => vfin true q [c0, c1] h))))))))
theorem e58_0 (O : Oracle) (R : Jump) (q : Nat) (x0 x1 x2 : TVal) (h : Heap) : b58_0 O R q x0 x1 x2 h = stepF c58 O R q 0 [x0, x1, x2] h := by kernel_rfl
noncomputable def d58 : BlkF := fun O R q => [.s fun y0 => .s fun y1 => .s fun y2 => .z fun h => b58_0 O R q y0 y1 y2 h]
theorem o58 (O : Oracle) (R : Jump) (q : Nat) : HoldsAll c58 O R q 0 (d58 O R q) := ⟨fun y0 y1 y2 h => e58_0 O R q y0 y1 y2 h, trivial⟩
/- sprue/sprueref1.letter -/
def c107 : MFunc := { np := 1, res := [.t 2], frz := true, body := (.seq (.reg [(oA 2 (.mv (.k (.v (.c (.p (.bool false)))))))] []) (.seq (.reg [(oA 3 (.mv (.t 0))), (oA 4 (.bin .geq 0 (.t 3) (.k (.v (.c (.p (.int .u8 97))))))), (oA 5 (.mv (.t 4))), ⟨(some 6), (.mv (.t 0)), (some (5, true))⟩, ⟨(some 7), (.bin .leq 0 (.t 6) (.k (.v (.c (.p (.int .u8 122)))))), (some (5, true))⟩, (oA 8 (.pick (.t 5) (.t 7) (.k (.v (.c (.p (.bool false))))))), (oA 9 (.mv (.t 8))), ⟨(some 10), (.mv (.t 0)), (some (9, false))⟩, ⟨(some 11), (.bin .geq 0 (.t 10) (.k (.v (.c (.p (.int .u8 65)))))), (some (9, false))⟩, ⟨(some 12), (.mv (.t 11)), (some (9, false))⟩, ⟨(some 13), (.mv (.t 0)), (some (12, true))⟩, ⟨(some 14), (.bin .leq 0 (.t 13) (.k (.v (.c (.p (.int .u8 90)))))), (some (12, true))⟩, ⟨(some 15), (.pick (.t 12) (.t 14) (.k (.v (.c (.p (.bool false)))))), (some (9, false))⟩, (oA 16 (.pick (.t 9) (.k (.v (.c (.p (.bool true))))) (.t 15))), (oA 17 (.mv (.t 16))), ⟨(some 18), (.mv (.t 0)), (some (17, false))⟩, ⟨(some 19), (.bin .eql 0 (.t 18) (.k (.v (.c (.p (.int .u8 95)))))), (some (17, false))⟩, (oA 20 (.pick (.t 17) (.k (.v (.c (.p (.bool true))))) (.t 19))), (oA 2 (.mv (.t 20)))] []) .ret)) }
theorem t107 : compF Tryd.prog (globs2 tabs opq) (fun _ => false) true Tryd.f107 = some c107.erase := by kernel_rfl
noncomputable def b107_0 (O : Oracle) (R : Jump) (q : Nat) (x0 : TVal) (h : Heap) : Res1 :=
 vbin .geq 0 x0 (.v (.c (.p (.int .u8 97)))) h fun x4 h =>
 vguard x4 true (fun kk => kk x0 h) h fun x6 h =>
 vguard x4 true (fun kk => vbin .leq 0 x6 (.v (.c (.p (.int .u8 122)))) h kk) h fun x7 h =>
 vop O (.pick (.k x4) (.k x7) (.k (kB false))) h 8 fun x8 h =>
 vguard x8 false (fun kk => kk x0 h) h fun x10 h =>
 vguard x8 false (fun kk => vbin .geq 0 x10 (.v (.c (.p (.int .u8 65)))) h kk) h fun x11 h =>
 vguard x8 false (fun kk => kk x11 h) h fun x12 h =>
 vguard x12 true (fun kk => kk x0 h) h fun x13 h =>
 vguard x12 true (fun kk => vbin .leq 0 x13 (.v (.c (.p (.int .u8 90)))) h kk) h fun x14 h =>
 vguard x8 false (fun kk => vop O (.pick (.k x12) (.k x14) (.k (kB false))) h 15 kk) h fun x15 h =>
 vop O (.pick (.k x8) (.k (kB true)) (.k x15)) h 16 fun x16 h =>
 vguard x16 false (fun kk => kk x0 h) h fun x18 h =>
 vguard x16 false (fun kk => vbin .eql 0 x18 (.v (.c (.p (.int .u8 95)))) h kk) h fun x19 h =>
 vop O (.pick (.k x16) (.k (kB true)) (.k x19)) h 20 fun x20 h =>
 tcomp x20 fun c0 => vfin true q [c0] h
theorem e107_0 (O : Oracle) (R : Jump) (q : Nat) (x0 : TVal) (h : Heap) : b107_0 O R q x0 h = stepF c107 O R q 0 [x0] h := by kernel_rfl
noncomputable def d107 : BlkF := fun O R q => [.s fun y0 => .z fun h => b107_0 O R q y0 h]
theorem o107 (O : Oracle) (R : Jump) (q : Nat) : HoldsAll c107 O R q 0 (d107 O R q) := ⟨fun y0 h => e107_0 O R q y0 h, trivial⟩
/- sprue/sprueref1.digit -/
def c108 : MFunc := { np := 1, res := [.t 2], frz := true, body := (.seq (.reg [(oA 2 (.mv (.k (.v (.c (.p (.bool false)))))))] []) (.seq (.reg [(oA 3 (.mv (.t 0))), (oA 4 (.bin .geq 0 (.t 3) (.k (.v (.c (.p (.int .u8 48))))))), (oA 5 (.mv (.t 4))), ⟨(some 6), (.mv (.t 0)), (some (5, true))⟩, ⟨(some 7), (.bin .leq 0 (.t 6) (.k (.v (.c (.p (.int .u8 57)))))), (some (5, true))⟩, (oA 8 (.pick (.t 5) (.t 7) (.k (.v (.c (.p (.bool false))))))), (oA 2 (.mv (.t 8)))] []) .ret)) }
theorem t108 : compF Tryd.prog (globs2 tabs opq) (fun _ => false) true Tryd.f108 = some c108.erase := by kernel_rfl
noncomputable def b108_0 (O : Oracle) (R : Jump) (q : Nat) (x0 : TVal) (h : Heap) : Res1 :=
 vbin .geq 0 x0 (.v (.c (.p (.int .u8 48)))) h fun x4 h =>
 vguard x4 true (fun kk => kk x0 h) h fun x6 h =>
 vguard x4 true (fun kk => vbin .leq 0 x6 (.v (.c (.p (.int .u8 57)))) h kk) h fun x7 h =>
 vop O (.pick (.k x4) (.k x7) (.k (kB false))) h 8 fun x8 h =>
 tcomp x8 fun c0 => vfin true q [c0] h
theorem e108_0 (O : Oracle) (R : Jump) (q : Nat) (x0 : TVal) (h : Heap) : b108_0 O R q x0 h = stepF c108 O R q 0 [x0] h := by kernel_rfl
noncomputable def d108 : BlkF := fun O R q => [.s fun y0 => .z fun h => b108_0 O R q y0 h]
theorem o108 (O : Oracle) (R : Jump) (q : Nat) : HoldsAll c108 O R q 0 (d108 O R q) := ⟨fun y0 h => e108_0 O R q y0 h, trivial⟩
/- sprue/sprueref4.own -/
def c109 : MFunc := { np := 2, res := [.t 4], frz := true, body := (.seq (.reg [(oA 2 (.box (.t 0) false)), (oA 3 (.box (.t 1) false)), (oA 4 (.mv (.k (.v (.c (.p (.int .i64 0)))))))] []) (.seq (.seq (.reg [(oA 10 (.faddr 0 (.t 3))), (oA 11 (.load false 1 (.t 10))), (oA 12 (.bin .lss 0 (.t 11) (.k (.v (.c (.p (.int .i64 1))))))), (oA 13 (.mv (.t 12))), ⟨(some 14), (.faddr 0 (.t 3)), (some (13, false))⟩, ⟨(some 15), (.load false 1 (.t 14)), (some (13, false))⟩, ⟨(some 16), (.bin .gtr 0 (.t 15) (.k (.v (.c (.p (.int .i64 9)))))), (some (13, false))⟩, (oA 17 (.pick (.t 13) (.k (.v (.c (.p (.bool true))))) (.t 16)))] []) (.cond (.t 17) (.seq (.reg [(oA 4 (.mv (.k (.v (.c (.p (.int .i64 1)))))))] []) .ret) .skip)) (.seq (.reg [(oA 5 (.mv (.k (.v (.c (.p (.int .i64 0)))))))] []) (.seq (.seq (.reg [(oA 18 (.faddr 0 (.t 3))), (oA 19 (.load false 1 (.t 18)))] []) (.block 0 (.seq (.seq (.reg [(oA 21 (.bin .eql 0 (.t 19) (.k (.v (.c (.p (.int .i64 4))))))), (oA 20 (.mv (.t 21)))] []) (.cond (.t 20) .skip (.seq (.reg [(oA 22 (.bin .eql 0 (.t 19) (.k (.v (.c (.p (.int .i64 5))))))), (oA 20 (.mv (.t 22)))] []) (.cond (.t 20) .skip (.reg [(oA 23 (.bin .eql 0 (.t 19) (.k (.v (.c (.p (.int .i64 6))))))), (oA 20 (.mv (.t 23)))] []))))) (.mark 1 [2, 3, 5, 19, 20] (.cond (.t 20) (.reg [(oA 5 (.mv (.k (.v (.c (.p (.int .i64 1)))))))] []) (.seq (.seq (.reg [(oA 25 (.bin .eql 0 (.t 19) (.k (.v (.c (.p (.int .i64 7))))))), (oA 24 (.mv (.t 25)))] []) (.cond (.t 24) .skip (.reg [(oA 26 (.bin .eql 0 (.t 19) (.k (.v (.c (.p (.int .i64 8))))))), (oA 24 (.mv (.t 26)))] []))) (.mark 2 [2, 3, 5, 24] (.cond (.t 24) (.reg [(oA 27 (.faddr 2 (.t 3))), (oA 28 (.load false 1 (.t 27))), (oA 29 (.len 2 (.t 28))), (oA 5 (.mv (.t 29)))] []) .skip)))))))) (.mark 3 [2, 3, 5] (.seq (.reg [(oA 30 (.faddr 0 (.t 3))), (oA 31 (.load false 1 (.t 30))), (oA 32 (.bin .eql 0 (.t 31) (.k (.v (.c (.p (.int .i64 7))))))), (oA 33 (.mv (.t 32))), ⟨(some 34), (.faddr 0 (.t 3)), (some (33, false))⟩, ⟨(some 35), (.load false 1 (.t 34)), (some (33, false))⟩, ⟨(some 36), (.bin .eql 0 (.t 35) (.k (.v (.c (.p (.int .i64 8)))))), (some (33, false))⟩, (oA 37 (.pick (.t 33) (.k (.v (.c (.p (.bool true))))) (.t 36))), (oA 6 (.mv (.t 37)))] []) (.seq (.seq (.reg [(oA 38 (.faddr 3 (.t 3))), (oA 39 (.load false 1 (.t 38))), (oA 40 (.len 2 (.t 39))), (oA 41 (.mv (.t 5))), (oA 42 (.bin .neq 0 (.t 40) (.t 41))), (oA 43 (.mv (.t 42))), ⟨(some 44), (.faddr 0 (.t 3)), (some (43, false))⟩, ⟨(some 45), (.load false 1 (.t 44)), (some (43, false))⟩, ⟨(some 46), (.bin .neq 0 (.t 45) (.k (.v (.c (.p (.int .i64 9)))))), (some (43, false))⟩, ⟨(some 47), (.mv (.t 46)), (some (43, false))⟩, ⟨(some 48), (.faddr 1 (.t 3)), (some (47, true))⟩, ⟨(some 49), (.load false 1 (.t 48)), (some (47, true))⟩, ⟨(some 50), (.bin .neq 0 (.t 49) (.k (.v (.c (.p (.str [])))))), (some (47, true))⟩, ⟨(some 51), (.pick (.t 47) (.t 50) (.k (.v (.c (.p (.bool false)))))), (some (43, false))⟩, (oA 52 (.pick (.t 43) (.k (.v (.c (.p (.bool true))))) (.t 51))), (oA 53 (.mv (.t 52))), ⟨(some 54), (.mv (.t 6)), (some (53, false))⟩, ⟨(some 55), (.un .not (.t 54)), (some (53, false))⟩, ⟨(some 56), (.mv (.t 55)), (some (53, false))⟩, ⟨(some 57), (.faddr 2 (.t 3)), (some (56, true))⟩, ⟨(some 58), (.load false 1 (.t 57)), (some (56, true))⟩, ⟨(some 59), (.len 2 (.t 58)), (some (56, true))⟩, ⟨(some 60), (.bin .neq 0 (.t 59) (.k (.v (.c (.p (.int .i64 0)))))), (some (56, true))⟩, ⟨(some 61), (.pick (.t 56) (.t 60) (.k (.v (.c (.p (.bool false)))))), (some (53, false))⟩, (oA 62 (.pick (.t 53) (.k (.v (.c (.p (.bool true))))) (.t 61)))] []) (.cond (.t 62) (.seq (.reg [(oA 4 (.mv (.k (.v (.c (.p (.int .i64 12)))))))] []) .ret) .skip)) (.seq (.seq (.reg [(oA 63 (.faddr 0 (.t 3))), (oA 64 (.load false 1 (.t 63))), (oA 65 (.bin .eql 0 (.t 64) (.k (.v (.c (.p (.int .i64 9)))))))] []) (.cond (.t 65) (.seq (.reg [(oA 67 (.load true 6 (.t 2))), (oA 68 (.faddr 1 (.t 3))), (oA 69 (.load false 1 (.t 68))), (oA 70 (.call (.k (.v (.c (.func 162 [])))) [(.t 67), (.t 69)])), (oA 66 (.mv (.t 70))), (oA 71 (.extract (.t 66) 0)), (oA 72 (.extract (.t 66) 1)), (oA 7 (.alloc [(.p (.int .i64 0)), (.p (.str [])), (.p .nilslice), (.p .nilslice)] false)), (oN (.store 4 (.t 7) (.t 71))), (oA 8 (.mv (.t 72)))] []) (.seq (.reg [(oA 73 (.mv (.t 8))), (oA 74 (.un .not (.t 73)))] []) (.cond (.t 74) (.seq (.reg [(oA 4 (.mv (.k (.v (.c (.p (.int .i64 15)))))))] []) .ret) .skip))) .skip)) (.mark 4 [3] (.seq (.seq (.reg [(oA 75 (.faddr 2 (.t 3))), (oA 76 (.load false 1 (.t 75))), (oA 77 (.len 2 (.t 76))), (oA 78 (.bin .gtr 0 (.t 77) (.k (.v (.c (.p (.int .i64 8)))))))] []) (.cond (.t 78) (.seq (.reg [(oA 4 (.mv (.k (.v (.c (.p (.int .i64 3)))))))] []) .ret) .skip)) (.seq (.seq (.reg [(oA 9 (.mv (.k (.v (.c (.p (.int .i64 0)))))))] []) (.block 1 (.loop 5 [3, 9] (.seq (.seq (.reg [(oA 79 (.mv (.t 9))), (oA 80 (.faddr 2 (.t 3))), (oA 81 (.load false 1 (.t 80))), (oA 82 (.len 2 (.t 81))), (oA 83 (.bin .lss 0 (.t 79) (.t 82)))] []) (.cond (.t 83) .skip (.exit 1))) (.seq (.block 2 (.seq (.seq (.reg [(oA 86 (.faddr 2 (.t 3))), (oA 87 (.load false 1 (.t 86))), (oA 88 (.mv (.t 9))), (oA 89 (.iaddr 1 (.t 87) (.t 88))), (oA 90 (.load false 1 (.t 89))), (oA 91 (.call (.k (.v (.c (.func 49 [])))) [(.t 90)])), (oA 92 (.un .not (.t 91)))] []) (.cond (.t 92) (.seq (.reg [(oA 4 (.mv (.k (.v (.c (.p (.int .i64 15)))))))] []) .ret) .skip)) (.seq (.reg [(oA 93 (.mv (.t 9))), (oA 94 (.bin .gtr 0 (.t 93) (.k (.v (.c (.p (.int .i64 0))))))), (oA 95 (.mv (.t 94))), ⟨(some 96), (.faddr 2 (.t 3)), (some (95, true))⟩, ⟨(some 97), (.load false 1 (.t 96)), (some (95, true))⟩, ⟨(some 98), (.mv (.t 9)), (some (95, true))⟩, ⟨(some 99), (.iaddr 1 (.t 97) (.t 98)), (some (95, true))⟩, ⟨(some 100), (.load false 1 (.t 99)), (some (95, true))⟩, ⟨(some 101), (.faddr 2 (.t 3)), (some (95, true))⟩, ⟨(some 102), (.load false 1 (.t 101)), (some (95, true))⟩, ⟨(some 103), (.mv (.t 9)), (some (95, true))⟩, ⟨(some 104), (.bin .sub 0 (.t 103) (.k (.v (.c (.p (.int .i64 1)))))), (some (95, true))⟩, ⟨(some 105), (.iaddr 1 (.t 102) (.t 104)), (some (95, true))⟩, ⟨(some 106), (.load false 1 (.t 105)), (some (95, true))⟩, ⟨(some 107), (.bin .leq 0 (.t 100) (.t 106)), (some (95, true))⟩, (oA 108 (.pick (.t 95) (.t 107) (.k (.v (.c (.p (.bool false)))))))] []) (.cond (.t 108) (.seq (.reg [(oA 4 (.mv (.k (.v (.c (.p (.int .i64 6)))))))] []) .ret) .skip)))) (.reg [(oA 84 (.mv (.t 9))), (oA 85 (.bin .add 0 (.t 84) (.k (.v (.c (.p (.int .i64 1))))))), (oA 9 (.mv (.t 85)))] [])))))) (.mark 6 [3] (.seq (.seq (.reg [(oA 109 (.faddr 0 (.t 3))), (oA 110 (.load false 1 (.t 109))), (oA 111 (.bin .eql 0 (.t 110) (.k (.v (.c (.p (.int .i64 8))))))), (oA 112 (.mv (.t 111))), ⟨(some 113), (.faddr 2 (.t 3)), (some (112, true))⟩, ⟨(some 114), (.load false 1 (.t 113)), (some (112, true))⟩, ⟨(some 115), (.len 2 (.t 114)), (some (112, true))⟩, ⟨(some 116), (.bin .eql 0 (.t 115) (.k (.v (.c (.p (.int .i64 0)))))), (some (112, true))⟩, (oA 117 (.pick (.t 112) (.t 116) (.k (.v (.c (.p (.bool false)))))))] []) (.cond (.t 117) (.seq (.reg [(oA 4 (.mv (.k (.v (.c (.p (.int .i64 12)))))))] []) .ret) .skip)) (.seq (.reg [(oA 4 (.mv (.k (.v (.c (.p (.int .i64 0)))))))] []) .ret)))))))))))))) }
theorem t109 : compF Tryd.prog (globs2 tabs opq) (fun _ => false) true Tryd.f109 = some c109.erase := by kernel_rfl
noncomputable def b109_0 (O : Oracle) (R : Jump) (q : Nat) (x0 x1 : TVal) (h : Heap) : Res1 :=
 vop O (.box (.k x0) false) h 2 fun x2 h =>
 vop O (.box (.k x1) false) h 3 fun x3 h =>
 vfaddr 0 x3 h fun x10 h =>
 vload false 1 x10 h fun x11 h =>
 vbin .lss 0 x11 (kI 1) h fun x12 h =>
 vguard x12 false (fun kk => vfaddr 0 x3 h kk) h fun x14 h =>
 vguard x12 false (fun kk => vload false 1 x14 h kk) h fun x15 h =>
 vguard x12 false (fun kk => vbin .gtr 0 x15 (kI 9) h kk) h fun x16 h =>
 vop O (.pick (.k x12) (.k (kB true)) (.k x16)) h 17 fun x17 h =>
 vif x17 (
 tcomp (kI 1) fun c0 => vfin true q [c0] h)
 (vfaddr 0 x3 h fun x18 h =>
 vload false 1 x18 h fun x19 h =>
 vbin .eql 0 x19 (kI 4) h fun x21 h =>
 vif x21 (
 R 1 [x2, x3, (kI 0), x19, x21] h)
 (vbin .eql 0 x19 (kI 5) h fun x22 h =>
 vif x22 (
 R 1 [x2, x3, (kI 0), x19, x22] h)
 (vbin .eql 0 x19 (kI 6) h fun x23 h =>
 R 1 [x2, x3, (kI 0), x19, x23] h)))
theorem e109_0 (O : Oracle) (R : Jump) (q : Nat) (x0 x1 : TVal) (h : Heap) : b109_0 O R q x0 x1 h = stepF c109 O R q 0 [x0, x1] h := by kernel_rfl
noncomputable def b109_1 (O : Oracle) (R : Jump) (q : Nat) (x2 x3 x5 x19 x20 : TVal) (h : Heap) : Res1 :=
 vif x20 (
 R 3 [x2, x3, (kI 1)] h)
 (vbin .eql 0 x19 (kI 7) h fun x25 h =>
 vif x25 (
 R 2 [x2, x3, x5, x25] h)
 (vbin .eql 0 x19 (kI 8) h fun x26 h =>
 R 2 [x2, x3, x5, x26] h))
theorem e109_1 (O : Oracle) (R : Jump) (q : Nat) (x2 x3 x5 x19 x20 : TVal) (h : Heap) : b109_1 O R q x2 x3 x5 x19 x20 h = stepF c109 O R q 1 [x2, x3, x5, x19, x20] h := by kernel_rfl
noncomputable def b109_2 (O : Oracle) (R : Jump) (q : Nat) (x2 x3 x5 x24 : TVal) (h : Heap) : Res1 :=
 vif x24 (
 vfaddr 2 x3 h fun x27 h =>
 vload false 1 x27 h fun x28 h =>
 vlen O 2 x28 h 29 fun x29 h =>
 R 3 [x2, x3, x29] h)
 (R 3 [x2, x3, x5] h)
theorem e109_2 (O : Oracle) (R : Jump) (q : Nat) (x2 x3 x5 x24 : TVal) (h : Heap) : b109_2 O R q x2 x3 x5 x24 h = stepF c109 O R q 2 [x2, x3, x5, x24] h := by kernel_rfl
noncomputable def b109_3 (O : Oracle) (R : Jump) (q : Nat) (x2 x3 x5 : TVal) (h : Heap) : Res1 :=
 vfaddr 0 x3 h fun x30 h =>
 vload false 1 x30 h fun x31 h =>
 vbin .eql 0 x31 (kI 7) h fun x32 h =>
 vguard x32 false (fun kk => vfaddr 0 x3 h kk) h fun x34 h =>
 vguard x32 false (fun kk => vload false 1 x34 h kk) h fun x35 h =>
 vguard x32 false (fun kk => vbin .eql 0 x35 (kI 8) h kk) h fun x36 h =>
 vop O (.pick (.k x32) (.k (kB true)) (.k x36)) h 37 fun x37 h =>
 vfaddr 3 x3 h fun x38 h =>
 vload false 1 x38 h fun x39 h =>
 vlen O 2 x39 h 40 fun x40 h =>
 vbin .neq 0 x40 x5 h fun x42 h =>
 vguard x42 false (fun kk => vfaddr 0 x3 h kk) h fun x44 h =>
 vguard x42 false (fun kk => vload false 1 x44 h kk) h fun x45 h =>
 vguard x42 false (fun kk => vbin .neq 0 x45 (kI 9) h kk) h fun x46 h =>
 vguard x42 false (fun kk => kk x46 h) h fun x47 h =>
 vguard x47 true (fun kk => vfaddr 1 x3 h kk) h fun x48 h =>
 vguard x47 true (fun kk => vload false 1 x48 h kk) h fun x49 h =>
 vguard x47 true (fun kk => vbin .neq 0 x49 (kS []) h kk) h fun x50 h =>
 vguard x42 false (fun kk => vop O (.pick (.k x47) (.k x50) (.k (kB false))) h 51 kk) h fun x51 h =>
 vop O (.pick (.k x42) (.k (kB true)) (.k x51)) h 52 fun x52 h =>
 vguard x52 false (fun kk => kk x37 h) h fun x54 h =>
 vguard x52 false (fun kk => vop O (.un .not (.k x54)) h 55 kk) h fun x55 h =>
 vguard x52 false (fun kk => kk x55 h) h fun x56 h =>
 vguard x56 true (fun kk => vfaddr 2 x3 h kk) h fun x57 h =>
 vguard x56 true (fun kk => vload false 1 x57 h kk) h fun x58 h =>
 vguard x56 true (fun kk => vlen O 2 x58 h 59 kk) h fun x59 h =>
 vguard x56 true (fun kk => vbin .neq 0 x59 (kI 0) h kk) h fun x60 h =>
 vguard x52 false (fun kk => vop O (.pick (.k x56) (.k x60) (.k (kB false))) h 61 kk) h fun x61 h =>
 vop O (.pick (.k x52) (.k (kB true)) (.k x61)) h 62 fun x62 h =>
 vif x62 (
 tcomp (kI 12) fun c0 => vfin true q [c0] h)
 (vfaddr 0 x3 h fun x63 h =>
 vload false 1 x63 h fun x64 h =>
 vbin .eql 0 x64 (kI 9) h fun x65 h =>
 vif x65 (
 vload true 6 x2 h fun x67 h =>
 vfaddr 1 x3 h fun x68 h =>
 vload false 1 x68 h fun x69 h =>
 vcall O (.v (.c (.func 162 []))) [x67, x69] h 70 fun x70 h =>
 vext x70 0 h fun x71 h =>
 vext x70 1 h fun x72 h =>
 vop O (.alloc [(.p (.int .i64 0)), (.p (.str [])), (.p .nilslice), (.p .nilslice)] false) h 7 fun x7 h =>
 vstore 4 x7 x71 h fun _ h =>
 vop O (.un .not (.k x72)) h 74 fun x74 h =>
 vif x74 (
 tcomp (kI 15) fun c0 => vfin true q [c0] h)
 (R 4 [x3] h))
 (R 4 [x3] h))
theorem e109_3 (O : Oracle) (R : Jump) (q : Nat) (x2 x3 x5 : TVal) (h : Heap) : b109_3 O R q x2 x3 x5 h = stepF c109 O R q 3 [x2, x3, x5] h := by kernel_rfl
noncomputable def b109_4 (O : Oracle) (R : Jump) (q : Nat) (x3 : TVal) (h : Heap) : Res1 :=
 vfaddr 2 x3 h fun x75 h =>
 vload false 1 x75 h fun x76 h =>
 vlen O 2 x76 h 77 fun x77 h =>
 vbin .gtr 0 x77 (kI 8) h fun x78 h =>
 vif x78 (
 tcomp (kI 3) fun c0 => vfin true q [c0] h)
 (R 5 [x3, (kI 0)] h)
theorem e109_4 (O : Oracle) (R : Jump) (q : Nat) (x3 : TVal) (h : Heap) : b109_4 O R q x3 h = stepF c109 O R q 4 [x3] h := by kernel_rfl
noncomputable def b109_5 (O : Oracle) (R : Jump) (q : Nat) (x3 x9 : TVal) (h : Heap) : Res1 :=
 vfaddr 2 x3 h fun x80 h =>
 vload false 1 x80 h fun x81 h =>
 vlen O 2 x81 h 82 fun x82 h =>
 vbin .lss 0 x9 x82 h fun x83 h =>
 vif x83 (
 vfaddr 2 x3 h fun x86 h =>
 vload false 1 x86 h fun x87 h =>
 viaddr 1 x87 x9 h fun x89 h =>
 vload false 1 x89 h fun x90 h =>
 vcall O (.v (.c (.func 49 []))) [x90] h 91 fun x91 h =>
 vop O (.un .not (.k x91)) h 92 fun x92 h =>
 vif x92 (
 tcomp (kI 15) fun c0 => vfin true q [c0] h)
 (vbin .gtr 0 x9 (kI 0) h fun x94 h =>
 vguard x94 true (fun kk => vfaddr 2 x3 h kk) h fun x96 h =>
 vguard x94 true (fun kk => vload false 1 x96 h kk) h fun x97 h =>
 vguard x94 true (fun kk => kk x9 h) h fun x98 h =>
 vguard x94 true (fun kk => viaddr 1 x97 x98 h kk) h fun x99 h =>
 vguard x94 true (fun kk => vload false 1 x99 h kk) h fun x100 h =>
 vguard x94 true (fun kk => vfaddr 2 x3 h kk) h fun x101 h =>
 vguard x94 true (fun kk => vload false 1 x101 h kk) h fun x102 h =>
 vguard x94 true (fun kk => kk x9 h) h fun x103 h =>
 vguard x94 true (fun kk => vbin .sub 0 x103 (kI 1) h kk) h fun x104 h =>
 vguard x94 true (fun kk => viaddr 1 x102 x104 h kk) h fun x105 h =>
 vguard x94 true (fun kk => vload false 1 x105 h kk) h fun x106 h =>
 vguard x94 true (fun kk => vbin .leq 0 x100 x106 h kk) h fun x107 h =>
 vop O (.pick (.k x94) (.k x107) (.k (kB false))) h 108 fun x108 h =>
 vif x108 (
 tcomp (kI 6) fun c0 => vfin true q [c0] h)
 (vbin .add 0 x9 (kI 1) h fun x85 h =>
 R 5 [x3, x85] h)))
 (R 6 [x3] h)
theorem e109_5 (O : Oracle) (R : Jump) (q : Nat) (x3 x9 : TVal) (h : Heap) : b109_5 O R q x3 x9 h = stepF c109 O R q 5 [x3, x9] h := by kernel_rfl
noncomputable def b109_6 (O : Oracle) (R : Jump) (q : Nat) (x3 : TVal) (h : Heap) : Res1 :=
 vfaddr 0 x3 h fun x109 h =>
 vload false 1 x109 h fun x110 h =>
 vbin .eql 0 x110 (kI 8) h fun x111 h =>
 vguard x111 true (fun kk => vfaddr 2 x3 h kk) h fun x113 h =>
 vguard x111 true (fun kk => vload false 1 x113 h kk) h fun x114 h =>
 vguard x111 true (fun kk => vlen O 2 x114 h 115 kk) h fun x115 h =>
 vguard x111 true (fun kk => vbin .eql 0 x115 (kI 0) h kk) h fun x116 h =>
 vop O (.pick (.k x111) (.k x116) (.k (kB false))) h 117 fun x117 h =>
 vif x117 (
 tcomp (kI 12) fun c0 => vfin true q [c0] h)
 (tcomp (kI 0) fun c0 => vfin true q [c0] h)
theorem e109_6 (O : Oracle) (R : Jump) (q : Nat) (x3 : TVal) (h : Heap) : b109_6 O R q x3 h = stepF c109 O R q 6 [x3] h := by kernel_rfl
noncomputable def d109 : BlkF := fun O R q => [.s fun y0 => .s fun y1 => .z fun h => b109_0 O R q y0 y1 h, .s fun y0 => .s fun y1 => .s fun y2 => .s fun y3 => .s fun y4 => .z fun h => b109_1 O R q y0 y1 y2 y3 y4 h, .s fun y0 => .s fun y1 => .s fun y2 => .s fun y3 => .z fun h => b109_2 O R q y0 y1 y2 y3 h, .s fun y0 => .s fun y1 => .s fun y2 => .z fun h => b109_3 O R q y0 y1 y2 h, .s fun y0 => .z fun h => b109_4 O R q y0 h, .s fun y0 => .s fun y1 => .z fun h => b109_5 O R q y0 y1 h, .s fun y0 => .z fun h => b109_6 O R q y0 h]
theorem o109 (O : Oracle) (R : Jump) (q : Nat) : HoldsAll c109 O R q 0 (d109 O R q) := ⟨fun y0 y1 h => e109_0 O R q y0 y1 h, fun y0 y1 y2 y3 y4 h => e109_1 O R q y0 y1 y2 y3 y4 h, fun y0 y1 y2 y3 h => e109_2 O R q y0 y1 y2 y3 h, fun y0 y1 y2 h => e109_3 O R q y0 y1 y2 h, fun y0 h => e109_4 O R q y0 h, fun y0 y1 h => e109_5 O R q y0 y1 h, fun y0 h => e109_6 O R q y0 h, trivial⟩
/- sprue/sprueref4.ends -/
def c110 : MFunc := { np := 2, res := [.t 4], frz := true, body := (.seq (.reg [(oA 3 (.box (.t 1) false)), (oA 4 (.mv (.k (.v (.c (.p (.bool false)))))))] []) (.seq (.seq (.reg [(oA 7 (.faddr 0 (.t 3))), (oA 8 (.load false 1 (.t 7)))] []) (.block 0 (.seq (.reg [(oA 10 (.bin .eql 0 (.t 8) (.k (.v (.c (.p (.int .i64 7))))))), (oA 9 (.mv (.t 10)))] []) (.cond (.t 9) (.seq (.seq (.reg [(oA 5 (.mv (.k (.v (.c (.p (.int .i64 0)))))))] []) (.block 1 (.loop 1 [0, 3, 5] (.seq (.seq (.reg [(oA 11 (.mv (.t 5))), (oA 12 (.faddr 3 (.t 3))), (oA 13 (.load false 1 (.t 12))), (oA 14 (.len 2 (.t 13))), (oA 15 (.bin .lss 0 (.t 11) (.t 14)))] []) (.cond (.t 15) .skip (.exit 1))) (.seq (.block 2 (.seq (.reg [(oA 18 (.mv (.t 0))), (oA 19 (.faddr 3 (.t 3))), (oA 20 (.load false 1 (.t 19))), (oA 21 (.mv (.t 5))), (oA 22 (.iaddr 4 (.t 20) (.t 21))), (oA 23 (.load true 4 (.t 22))), (oA 24 (.call (.k (.v (.c (.func 110 [])))) [(.t 18), (.t 23)])), (oA 25 (.un .not (.t 24)))] []) (.cond (.t 25) (.seq (.reg [(oA 4 (.mv (.k (.v (.c (.p (.bool false)))))))] []) .ret) .skip))) (.reg [(oA 16 (.mv (.t 5))), (oA 17 (.bin .add 0 (.t 16) (.k (.v (.c (.p (.int .i64 1))))))), (oA 5 (.mv (.t 17)))] [])))))) (.seq (.reg [(oA 4 (.mv (.k (.v (.c (.p (.bool true)))))))] []) .ret)) (.seq (.reg [(oA 27 (.bin .eql 0 (.t 8) (.k (.v (.c (.p (.int .i64 8))))))), (oA 26 (.mv (.t 27)))] []) (.cond (.t 26) (.seq (.seq (.reg [(oA 6 (.mv (.k (.v (.c (.p (.int .i64 0)))))))] []) (.block 3 (.loop 2 [0, 3, 6] (.seq (.seq (.reg [(oA 28 (.mv (.t 6))), (oA 29 (.faddr 3 (.t 3))), (oA 30 (.load false 1 (.t 29))), (oA 31 (.len 2 (.t 30))), (oA 32 (.bin .lss 0 (.t 28) (.t 31)))] []) (.cond (.t 32) .skip (.exit 3))) (.seq (.block 4 (.seq (.reg [(oA 35 (.mv (.t 0))), (oA 36 (.faddr 3 (.t 3))), (oA 37 (.load false 1 (.t 36))), (oA 38 (.mv (.t 6))), (oA 39 (.iaddr 4 (.t 37) (.t 38))), (oA 40 (.load true 4 (.t 39))), (oA 41 (.call (.k (.v (.c (.func 110 [])))) [(.t 35), (.t 40)]))] []) (.cond (.t 41) (.seq (.reg [(oA 4 (.mv (.k (.v (.c (.p (.bool true)))))))] []) .ret) .skip))) (.reg [(oA 33 (.mv (.t 6))), (oA 34 (.bin .add 0 (.t 33) (.k (.v (.c (.p (.int .i64 1))))))), (oA 6 (.mv (.t 34)))] [])))))) (.seq (.reg [(oA 4 (.mv (.k (.v (.c (.p (.bool false)))))))] []) .ret)) (.seq (.reg [(oA 43 (.bin .eql 0 (.t 8) (.k (.v (.c (.p (.int .i64 9))))))), (oA 42 (.mv (.t 43)))] []) (.cond (.t 42) (.seq (.reg [(oA 44 (.mv (.t 0))), (oA 45 (.faddr 1 (.t 3))), (oA 46 (.load false 1 (.t 45))), (oA 47 (.call (.k (.v (.c (.func 163 [])))) [(.t 44), (.t 46)])), (oA 4 (.mv (.t 47)))] []) .ret) .skip)))))))) (.seq (.reg [(oA 4 (.mv (.k (.v (.c (.p (.bool true)))))))] []) .ret))) }
theorem t110 : compF Tryd.prog (globs2 tabs opq) (fun _ => false) true Tryd.f110 = some c110.erase := by kernel_rfl
noncomputable def b110_0 (O : Oracle) (R : Jump) (q : Nat) (x0 x1 : TVal) (h : Heap) : Res1 :=
 vop O (.box (.k x1) false) h 3 fun x3 h =>
 vfaddr 0 x3 h fun x7 h =>
 vload false 1 x7 h fun x8 h =>
 vbin .eql 0 x8 (kI 7) h fun x10 h =>
 vif x10 (
 R 1 [x0, x3, (kI 0)] h)
 (vbin .eql 0 x8 (kI 8) h fun x27 h =>
 vif x27 (
 R 2 [x0, x3, (kI 0)] h)
 (vbin .eql 0 x8 (kI 9) h fun x43 h =>
 vif x43 (
 vfaddr 1 x3 h fun x45 h =>
 vload false 1 x45 h fun x46 h =>
 vcall O (.v (.c (.func 163 []))) [x0, x46] h 47 fun x47 h =>
 tcomp x47 fun c0 => vfin true q [c0] h)
 (tcomp (kB true) fun c0 => vfin true q [c0] h)))
theorem e110_0 (O : Oracle) (R : Jump) (q : Nat) (x0 x1 : TVal) (h : Heap) : b110_0 O R q x0 x1 h = stepF c110 O R q 0 [x0, x1] h := by kernel_rfl
noncomputable def b110_1 (O : Oracle) (R : Jump) (q : Nat) (x0 x3 x5 : TVal) (h : Heap) : Res1 :=
 vfaddr 3 x3 h fun x12 h =>
 vload false 1 x12 h fun x13 h =>
 vlen O 2 x13 h 14 fun x14 h =>
 vbin .lss 0 x5 x14 h fun x15 h =>
 vif x15 (
 vfaddr 3 x3 h fun x19 h =>
 vload false 1 x19 h fun x20 h =>
 viaddr 4 x20 x5 h fun x22 h =>
 vload true 4 x22 h fun x23 h =>
 vcall O (.v (.c (.func 110 []))) [x0, x23] h 24 fun x24 h =>
 vop O (.un .not (.k x24)) h 25 fun x25 h =>
 vif x25 (
 tcomp (kB false) fun c0 => vfin true q [c0] h)
 (vbin .add 0 x5 (kI 1) h fun x17 h =>
 R 1 [x0, x3, x17] h))
 (tcomp (kB true) fun c0 => vfin true q [c0] h)
theorem e110_1 (O : Oracle) (R : Jump) (q : Nat) (x0 x3 x5 : TVal) (h : Heap) : b110_1 O R q x0 x3 x5 h = stepF c110 O R q 1 [x0, x3, x5] h := by kernel_rfl
noncomputable def b110_2 (O : Oracle) (R : Jump) (q : Nat) (x0 x3 x6 : TVal) (h : Heap) : Res1 :=
 vfaddr 3 x3 h fun x29 h =>
 vload false 1 x29 h fun x30 h =>
 vlen O 2 x30 h 31 fun x31 h =>
 vbin .lss 0 x6 x31 h fun x32 h =>
 vif x32 (
 vfaddr 3 x3 h fun x36 h =>
 vload false 1 x36 h fun x37 h =>
 viaddr 4 x37 x6 h fun x39 h =>
 vload true 4 x39 h fun x40 h =>
 vcall O (.v (.c (.func 110 []))) [x0, x40] h 41 fun x41 h =>
 vif x41 (
 tcomp (kB true) fun c0 => vfin true q [c0] h)
 (vbin .add 0 x6 (kI 1) h fun x34 h =>
 R 2 [x0, x3, x34] h))
 (tcomp (kB false) fun c0 => vfin true q [c0] h)
theorem e110_2 (O : Oracle) (R : Jump) (q : Nat) (x0 x3 x6 : TVal) (h : Heap) : b110_2 O R q x0 x3 x6 h = stepF c110 O R q 2 [x0, x3, x6] h := by kernel_rfl
noncomputable def d110 : BlkF := fun O R q => [.s fun y0 => .s fun y1 => .z fun h => b110_0 O R q y0 y1 h, .s fun y0 => .s fun y1 => .s fun y2 => .z fun h => b110_1 O R q y0 y1 y2 h, .s fun y0 => .s fun y1 => .s fun y2 => .z fun h => b110_2 O R q y0 y1 y2 h]
theorem o110 (O : Oracle) (R : Jump) (q : Nat) : HoldsAll c110 O R q 0 (d110 O R q) := ⟨fun y0 y1 h => e110_0 O R q y0 y1 h, fun y0 y1 y2 h => e110_1 O R q y0 y1 y2 h, fun y0 y1 y2 h => e110_2 O R q y0 y1 y2 h, trivial⟩
/- sprue/sprueref4.Open -/
def c111 : MFunc := { np := 2, res := [.cell 4 true 4], frz := true, body := (.seq (.reg [(oA 2 (.box (.t 0) false)), (oA 3 (.box (.t 1) false)), (oA 4 (.alloc [(.p (.int .i64 0)), (.p (.str [])), (.p .nilslice), (.p .nilslice)] false))] []) (.seq (.seq (.reg [(oA 5 (.mv (.k (.v (.c (.p (.int .i64 0)))))))] []) (.block 0 (.loop 1 [2, 3, 4, 5] (.seq (.seq (.reg [(oA 6 (.mv (.t 5))), (oA 7 (.faddr 4 (.t 2))), (oA 8 (.load false 1 (.t 7))), (oA 9 (.len 2 (.t 8))), (oA 10 (.bin .leq 0 (.t 6) (.t 9))), (oA 11 (.mv (.t 10))), ⟨(some 12), (.faddr 0 (.t 3)), (some (11, true))⟩, ⟨(some 13), (.load false 1 (.t 12)), (some (11, true))⟩, ⟨(some 14), (.bin .eql 0 (.t 13) (.k (.v (.c (.p (.int .i64 9)))))), (some (11, true))⟩, (oA 15 (.pick (.t 11) (.t 14) (.k (.v (.c (.p (.bool false)))))))] []) (.cond (.t 15) .skip (.exit 0))) (.seq (.block 1 (.reg [(oA 19 (.load true 6 (.t 2))), (oA 20 (.faddr 1 (.t 3))), (oA 21 (.load false 1 (.t 20))), (oA 22 (.call (.k (.v (.c (.func 162 [])))) [(.t 19), (.t 21)])), (oA 18 (.mv (.t 22))), (oA 23 (.extract (.t 18) 0)), (oA 24 (.extract (.t 18) 1)), (oN (.store 4 (.t 3) (.t 23)))] [])) (.reg [(oA 16 (.mv (.t 5))), (oA 17 (.bin .add 0 (.t 16) (.k (.v (.c (.p (.int .i64 1))))))), (oA 5 (.mv (.t 17)))] [])))))) (.mark 2 [3, 4] (.seq (.reg [(oA 25 (.load true 4 (.t 3))), (oN (.store 4 (.t 4) (.t 25)))] []) .ret)))) }
theorem t111 : compF Tryd.prog (globs2 tabs opq) (fun _ => false) true Tryd.f111 = some c111.erase := by kernel_rfl
noncomputable def b111_0 (O : Oracle) (R : Jump) (q : Nat) (x0 x1 : TVal) (h : Heap) : Res1 :=
 vop O (.box (.k x0) false) h 2 fun x2 h =>
 vop O (.box (.k x1) false) h 3 fun x3 h =>
 vop O (.alloc [(.p (.int .i64 0)), (.p (.str [])), (.p .nilslice), (.p .nilslice)] false) h 4 fun x4 h =>
 R 1 [x2, x3, x4, (kI 0)] h
theorem e111_0 (O : Oracle) (R : Jump) (q : Nat) (x0 x1 : TVal) (h : Heap) : b111_0 O R q x0 x1 h = stepF c111 O R q 0 [x0, x1] h := by kernel_rfl
noncomputable def b111_1 (O : Oracle) (R : Jump) (q : Nat) (x2 x3 x4 x5 : TVal) (h : Heap) : Res1 :=
 vfaddr 4 x2 h fun x7 h =>
 vload false 1 x7 h fun x8 h =>
 vlen O 2 x8 h 9 fun x9 h =>
 vbin .leq 0 x5 x9 h fun x10 h =>
 vguard x10 true (fun kk => vfaddr 0 x3 h kk) h fun x12 h =>
 vguard x10 true (fun kk => vload false 1 x12 h kk) h fun x13 h =>
 vguard x10 true (fun kk => vbin .eql 0 x13 (kI 9) h kk) h fun x14 h =>
 vop O (.pick (.k x10) (.k x14) (.k (kB false))) h 15 fun x15 h =>
 vif x15 (
 vload true 6 x2 h fun x19 h =>
 vfaddr 1 x3 h fun x20 h =>
 vload false 1 x20 h fun x21 h =>
 vcall O (.v (.c (.func 162 []))) [x19, x21] h 22 fun x22 h =>
 vext x22 0 h fun x23 h =>
 vext x22 1 h fun x24 h =>
 vstore 4 x3 x23 h fun _ h =>
 vbin .add 0 x5 (kI 1) h fun x17 h =>
 R 1 [x2, x3, x4, x17] h)
 (R 2 [x3, x4] h)
theorem e111_1 (O : Oracle) (R : Jump) (q : Nat) (x2 x3 x4 x5 : TVal) (h : Heap) : b111_1 O R q x2 x3 x4 x5 h = stepF c111 O R q 1 [x2, x3, x4, x5] h := by kernel_rfl
noncomputable def b111_2 (O : Oracle) (R : Jump) (q : Nat) (x3 x4 : TVal) (h : Heap) : Res1 :=
 vload true 4 x3 h fun x25 h =>
 vstore 4 x4 x25 h fun _ h =>
 vcell true 4 x4 h fun c0 => vfin true q [c0] h
theorem e111_2 (O : Oracle) (R : Jump) (q : Nat) (x3 x4 : TVal) (h : Heap) : b111_2 O R q x3 x4 h = stepF c111 O R q 2 [x3, x4] h := by kernel_rfl
noncomputable def d111 : BlkF := fun O R q => [.s fun y0 => .s fun y1 => .z fun h => b111_0 O R q y0 y1 h, .s fun y0 => .s fun y1 => .s fun y2 => .s fun y3 => .z fun h => b111_1 O R q y0 y1 y2 y3 h, .s fun y0 => .s fun y1 => .z fun h => b111_2 O R q y0 y1 h]
theorem o111 (O : Oracle) (R : Jump) (q : Nat) : HoldsAll c111 O R q 0 (d111 O R q) := ⟨fun y0 y1 h => e111_0 O R q y0 y1 h, fun y0 y1 y2 y3 h => e111_1 O R q y0 y1 y2 y3 h, fun y0 y1 h => e111_2 O R q y0 y1 h, trivial⟩
/- sprue/sprueref13.clean -/
def c112 : MFunc := { np := 1, res := [.t 2], frz := true, body := (.seq (.reg [(oA 1 (.box (.t 0) false)), (oA 2 (.mv (.k (.v (.c (.p (.bool false)))))))] []) (.seq (.reg [(oA 4 (.faddr 0 (.t 1))), (oA 5 (.load false 1 (.t 4))), (oA 3 (.mv (.t 5)))] []) (.seq (.seq (.reg [(oA 6 (.mv (.t 3))), (oA 7 (.bin .lss 0 (.t 6) (.k (.v (.c (.p (.int .i64 0))))))), (oA 8 (.mv (.t 7))), ⟨(some 9), (.mv (.t 3)), (some (8, false))⟩, ⟨(some 10), (.bin .gtr 0 (.t 9) (.k (.v (.c (.p (.int .i64 5)))))), (some (8, false))⟩, (oA 11 (.pick (.t 8) (.k (.v (.c (.p (.bool true))))) (.t 10)))] []) (.cond (.t 11) (.seq (.reg [(oA 2 (.mv (.k (.v (.c (.p (.bool false)))))))] []) .ret) .skip)) (.seq (.reg [(oA 12 (.mv (.t 3))), (oA 13 (.bin .eql 0 (.t 12) (.k (.v (.c (.p (.int .i64 1))))))), (oA 14 (.mv (.t 13))), ⟨(some 15), (.faddr 1 (.t 1)), (some (14, false))⟩, ⟨(some 16), (.load false 1 (.t 15)), (some (14, false))⟩, ⟨(some 17), (.un .not (.t 16)), (some (14, false))⟩, (oA 18 (.pick (.t 14) (.k (.v (.c (.p (.bool true))))) (.t 17))), (oA 19 (.mv (.t 18))), ⟨(some 20), (.mv (.t 3)), (some (19, true))⟩, ⟨(some 21), (.bin .eql 0 (.t 20) (.k (.v (.c (.p (.int .i64 2)))))), (some (19, true))⟩, ⟨(some 22), (.mv (.t 21)), (some (19, true))⟩, ⟨(some 23), (.faddr 2 (.t 1)), (some (22, false))⟩, ⟨(some 24), (.load false 1 (.t 23)), (some (22, false))⟩, ⟨(some 25), (.bin .eql 0 (.t 24) (.k (.v (.c (.p (.int .i64 0)))))), (some (22, false))⟩, ⟨(some 26), (.pick (.t 22) (.k (.v (.c (.p (.bool true))))) (.t 25)), (some (19, true))⟩, (oA 27 (.pick (.t 19) (.t 26) (.k (.v (.c (.p (.bool false))))))), (oA 28 (.mv (.t 27))), ⟨(some 29), (.mv (.t 3)), (some (28, true))⟩, ⟨(some 30), (.bin .eql 0 (.t 29) (.k (.v (.c (.p (.int .i64 3)))))), (some (28, true))⟩, ⟨(some 31), (.mv (.t 30)), (some (28, true))⟩, ⟨(some 32), (.faddr 3 (.t 1)), (some (31, false))⟩, ⟨(some 33), (.load false 1 (.t 32)), (some (31, false))⟩, ⟨(some 34), (.bin .eql 0 (.t 33) (.k (.v (.c (.p (.str [])))))), (some (31, false))⟩, ⟨(some 35), (.pick (.t 31) (.k (.v (.c (.p (.bool true))))) (.t 34)), (some (28, true))⟩, (oA 36 (.pick (.t 28) (.t 35) (.k (.v (.c (.p (.bool false))))))), (oA 37 (.mv (.t 36))), ⟨(some 38), (.mv (.t 3)), (some (37, true))⟩, ⟨(some 39), (.bin .geq 0 (.t 38) (.k (.v (.c (.p (.int .i64 4)))))), (some (37, true))⟩, ⟨(some 40), (.mv (.t 39)), (some (37, true))⟩, ⟨(some 41), (.faddr 5 (.t 1)), (some (40, false))⟩, ⟨(some 42), (.load false 1 (.t 41)), (some (40, false))⟩, ⟨(some 43), (.len 2 (.t 42)), (some (40, false))⟩, ⟨(some 44), (.bin .eql 0 (.t 43) (.k (.v (.c (.p (.int .i64 0)))))), (some (40, false))⟩, ⟨(some 45), (.pick (.t 40) (.k (.v (.c (.p (.bool true))))) (.t 44)), (some (37, true))⟩, (oA 46 (.pick (.t 37) (.t 45) (.k (.v (.c (.p (.bool false))))))), (oA 47 (.mv (.t 46))), ⟨(some 48), (.mv (.t 3)), (some (47, true))⟩, ⟨(some 49), (.bin .eql 0 (.t 48) (.k (.v (.c (.p (.int .i64 5)))))), (some (47, true))⟩, ⟨(some 50), (.mv (.t 49)), (some (47, true))⟩, ⟨(some 51), (.faddr 4 (.t 1)), (some (50, true))⟩, ⟨(some 52), (.load false 1 (.t 51)), (some (50, true))⟩, ⟨(some 53), (.len 2 (.t 52)), (some (50, true))⟩, ⟨(some 54), (.faddr 5 (.t 1)), (some (50, true))⟩, ⟨(some 55), (.load false 1 (.t 54)), (some (50, true))⟩, ⟨(some 56), (.len 2 (.t 55)), (some (50, true))⟩, ⟨(some 57), (.bin .eql 0 (.t 53) (.t 56)), (some (50, true))⟩, ⟨(some 58), (.pick (.t 50) (.t 57) (.k (.v (.c (.p (.bool false)))))), (some (47, true))⟩, ⟨(some 59), (.mv (.t 58)), (some (47, true))⟩, ⟨(some 60), (.mv (.t 3)), (some (59, false))⟩, ⟨(some 61), (.bin .neq 0 (.t 60) (.k (.v (.c (.p (.int .i64 5)))))), (some (59, false))⟩, ⟨(some 62), (.mv (.t 61)), (some (59, false))⟩, ⟨(some 63), (.faddr 4 (.t 1)), (some (62, true))⟩, ⟨(some 64), (.load false 1 (.t 63)), (some (62, true))⟩, ⟨(some 65), (.len 2 (.t 64)), (some (62, true))⟩, ⟨(some 66), (.bin .eql 0 (.t 65) (.k (.v (.c (.p (.int .i64 0)))))), (some (62, true))⟩, ⟨(some 67), (.pick (.t 62) (.t 66) (.k (.v (.c (.p (.bool false)))))), (some (59, false))⟩, ⟨(some 68), (.pick (.t 59) (.k (.v (.c (.p (.bool true))))) (.t 67)), (some (47, true))⟩, (oA 69 (.pick (.t 47) (.t 68) (.k (.v (.c (.p (.bool false))))))), (oA 2 (.mv (.t 69)))] []) .ret)))) }
theorem t112 : compF Tryd.prog (globs2 tabs opq) (fun _ => false) true Tryd.f112 = some c112.erase := by kernel_rfl
noncomputable def b112_0 (O : Oracle) (R : Jump) (q : Nat) (x0 : TVal) (h : Heap) : Res1 :=
 vop O (.box (.k x0) false) h 1 fun x1 h =>
 vfaddr 0 x1 h fun x4 h =>
 vload false 1 x4 h fun x5 h =>
 vbin .lss 0 x5 (kI 0) h fun x7 h =>
 vguard x7 false (fun kk => kk x5 h) h fun x9 h =>
 vguard x7 false (fun kk => vbin .gtr 0 x9 (kI 5) h kk) h fun x10 h =>
 vop O (.pick (.k x7) (.k (kB true)) (.k x10)) h 11 fun x11 h =>
 vif x11 (
 tcomp (kB false) fun c0 => vfin true q [c0] h)
 (vbin .eql 0 x5 (kI 1) h fun x13 h =>
 vguard x13 false (fun kk => vfaddr 1 x1 h kk) h fun x15 h =>
 vguard x13 false (fun kk => vload false 1 x15 h kk) h fun x16 h =>
 vguard x13 false (fun kk => vop O (.un .not (.k x16)) h 17 kk) h fun x17 h =>
 vop O (.pick (.k x13) (.k (kB true)) (.k x17)) h 18 fun x18 h =>
 vguard x18 true (fun kk => kk x5 h) h fun x20 h =>
 vguard x18 true (fun kk => vbin .eql 0 x20 (kI 2) h kk) h fun x21 h =>
 vguard x18 true (fun kk => kk x21 h) h fun x22 h =>
 vguard x22 false (fun kk => vfaddr 2 x1 h kk) h fun x23 h =>
 vguard x22 false (fun kk => vload false 1 x23 h kk) h fun x24 h =>
 vguard x22 false (fun kk => vbin .eql 0 x24 (kI 0) h kk) h fun x25 h =>
 vguard x18 true (fun kk => vop O (.pick (.k x22) (.k (kB true)) (.k x25)) h 26 kk) h fun x26 h =>
 vop O (.pick (.k x18) (.k x26) (.k (kB false))) h 27 fun x27 h =>
 vguard x27 true (fun kk => kk x5 h) h fun x29 h =>
 vguard x27 true (fun kk => vbin .eql 0 x29 (kI 3) h kk) h fun x30 h =>
 vguard x27 true (fun kk => kk x30 h) h fun x31 h =>
 vguard x31 false (fun kk => vfaddr 3 x1 h kk) h fun x32 h =>
 vguard x31 false (fun kk => vload false 1 x32 h kk) h fun x33 h =>
 vguard x31 false (fun kk => vbin .eql 0 x33 (kS []) h kk) h fun x34 h =>
 vguard x27 true (fun kk => vop O (.pick (.k x31) (.k (kB true)) (.k x34)) h 35 kk) h fun x35 h =>
 vop O (.pick (.k x27) (.k x35) (.k (kB false))) h 36 fun x36 h =>
 vguard x36 true (fun kk => kk x5 h) h fun x38 h =>
 vguard x36 true (fun kk => vbin .geq 0 x38 (kI 4) h kk) h fun x39 h =>
 vguard x36 true (fun kk => kk x39 h) h fun x40 h =>
 vguard x40 false (fun kk => vfaddr 5 x1 h kk) h fun x41 h =>
 vguard x40 false (fun kk => vload false 1 x41 h kk) h fun x42 h =>
 vguard x40 false (fun kk => vlen O 2 x42 h 43 kk) h fun x43 h =>
 vguard x40 false (fun kk => vbin .eql 0 x43 (kI 0) h kk) h fun x44 h =>
 vguard x36 true (fun kk => vop O (.pick (.k x40) (.k (kB true)) (.k x44)) h 45 kk) h fun x45 h =>
 vop O (.pick (.k x36) (.k x45) (.k (kB false))) h 46 fun x46 h =>
 vguard x46 true (fun kk => kk x5 h) h fun x48 h =>
 vguard x46 true (fun kk => vbin .eql 0 x48 (kI 5) h kk) h fun x49 h =>
 vguard x46 true (fun kk => kk x49 h) h fun x50 h =>
 vguard x50 true (fun kk => vfaddr 4 x1 h kk) h fun x51 h =>
 vguard x50 true (fun kk => vload false 1 x51 h kk) h fun x52 h =>
 vguard x50 true (fun kk => vlen O 2 x52 h 53 kk) h fun x53 h =>
 vguard x50 true (fun kk => vfaddr 5 x1 h kk) h fun x54 h =>
 vguard x50 true (fun kk => vload false 1 x54 h kk) h fun x55 h =>
 vguard x50 true (fun kk => vlen O 2 x55 h 56 kk) h fun x56 h =>
 vguard x50 true (fun kk => vbin .eql 0 x53 x56 h kk) h fun x57 h =>
 vguard x46 true (fun kk => vop O (.pick (.k x50) (.k x57) (.k (kB false))) h 58 kk) h fun x58 h =>
 vguard x46 true (fun kk => kk x58 h) h fun x59 h =>
 vguard x59 false (fun kk => kk x5 h) h fun x60 h =>
 vguard x59 false (fun kk => vbin .neq 0 x60 (kI 5) h kk) h fun x61 h =>
 vguard x59 false (fun kk => kk x61 h) h fun x62 h =>
 vguard x62 true (fun kk => vfaddr 4 x1 h kk) h fun x63 h =>
 vguard x62 true (fun kk => vload false 1 x63 h kk) h fun x64 h =>
 vguard x62 true (fun kk => vlen O 2 x64 h 65 kk) h fun x65 h =>
 vguard x62 true (fun kk => vbin .eql 0 x65 (kI 0) h kk) h fun x66 h =>
 vguard x59 false (fun kk => vop O (.pick (.k x62) (.k x66) (.k (kB false))) h 67 kk) h fun x67 h =>
 vguard x46 true (fun kk => vop O (.pick (.k x59) (.k (kB true)) (.k x67)) h 68 kk) h fun x68 h =>
 vop O (.pick (.k x46) (.k x68) (.k (kB false))) h 69 fun x69 h =>
 tcomp x69 fun c0 => vfin true q [c0] h)
theorem e112_0 (O : Oracle) (R : Jump) (q : Nat) (x0 : TVal) (h : Heap) : b112_0 O R q x0 h = stepF c112 O R q 0 [x0] h := by kernel_rfl
noncomputable def d112 : BlkF := fun O R q => [.s fun y0 => .z fun h => b112_0 O R q y0 h]
theorem o112 (O : Oracle) (R : Jump) (q : Nat) : HoldsAll c112 O R q 0 (d112 O R q) := ⟨fun y0 h => e112_0 O R q y0 h, trivial⟩
/- (sprue/fits.fitter).open -/
def c113 : MFunc := { np := 2, res := [.cell 4 true 4], frz := true, body := (.seq (.reg [(oA 3 (.box (.t 1) false)), (oA 4 (.alloc [(.p (.int .i64 0)), (.p (.str [])), (.p .nilslice), (.p .nilslice)] false))] []) (.seq (.seq (.reg [(oA 5 (.mv (.t 0))), (oA 6 (.len 3 (.t 5))), (oA 7 (.mv (.k (.v (.c (.p (.int .i64 0)))))))] []) (.block 0 (.loop 1 [0, 3, 4, 6, 7] (.seq (.reg [(oA 8 (.bin .lss 0 (.t 7) (.t 6)))] []) (.seq (.cond (.t 8) .skip (.exit 0)) (.seq (.block 1 (.seq (.reg [(oA 9 (.faddr 0 (.t 3))), (oA 10 (.load false 1 (.t 9))), (oA 11 (.bin .eql 0 (.t 10) (.k (.v (.c (.p (.int .i64 9)))))))] []) (.cond (.t 11) (.reg [(oA 12 (.mv (.t 0))), (oA 13 (.faddr 1 (.t 3))), (oA 14 (.load false 1 (.t 13))), (oA 15 (.lookup 2 (.agg [(.p (.int .i64 0)), (.p (.str [])), (.p .nilslice), (.p .nilslice)]) (.t 12) (.t 14) false)), (oN (.store 4 (.t 3) (.t 15)))] []) .skip))) (.mark 2 [0, 3, 4, 6, 7] (.reg [(oA 16 (.bin .add 0 (.t 7) (.k (.v (.c (.p (.int .i64 1))))))), (oA 7 (.mv (.t 16)))] [])))))))) (.mark 3 [3, 4] (.seq (.reg [(oA 17 (.load true 4 (.t 3))), (oN (.store 4 (.t 4) (.t 17)))] []) .ret)))) }
theorem t113 : compF Tryd.prog (globs2 tabs opq) (fun _ => false) true Tryd.f113 = some c113.erase := by kernel_rfl
noncomputable def b113_0 (O : Oracle) (R : Jump) (q : Nat) (x0 x1 : TVal) (h : Heap) : Res1 :=
 vop O (.box (.k x1) false) h 3 fun x3 h =>
 vop O (.alloc [(.p (.int .i64 0)), (.p (.str [])), (.p .nilslice), (.p .nilslice)] false) h 4 fun x4 h =>
 vlen O 3 x0 h 6 fun x6 h =>
 R 1 [x0, x3, x4, x6, (kI 0)] h
theorem e113_0 (O : Oracle) (R : Jump) (q : Nat) (x0 x1 : TVal) (h : Heap) : b113_0 O R q x0 x1 h = stepF c113 O R q 0 [x0, x1] h := by kernel_rfl
noncomputable def b113_1 (O : Oracle) (R : Jump) (q : Nat) (x0 x3 x4 x6 x7 : TVal) (h : Heap) : Res1 :=
 vbin .lss 0 x7 x6 h fun x8 h =>
 vif x8 (
 vfaddr 0 x3 h fun x9 h =>
 vload false 1 x9 h fun x10 h =>
 vbin .eql 0 x10 (kI 9) h fun x11 h =>
 vif x11 (
 vfaddr 1 x3 h fun x13 h =>
 vload false 1 x13 h fun x14 h =>
 vop O (.lookup 2 (.agg [(.p (.int .i64 0)), (.p (.str [])), (.p .nilslice), (.p .nilslice)]) (.k x0) (.k x14) false) h 15 fun x15 h =>
 vstore 4 x3 x15 h fun _ h =>
 R 2 [x0, x3, x4, x6, x7] h)
 (R 2 [x0, x3, x4, x6, x7] h))
 (R 3 [x3, x4] h)
theorem e113_1 (O : Oracle) (R : Jump) (q : Nat) (x0 x3 x4 x6 x7 : TVal) (h : Heap) : b113_1 O R q x0 x3 x4 x6 x7 h = stepF c113 O R q 1 [x0, x3, x4, x6, x7] h := by kernel_rfl
noncomputable def b113_2 (O : Oracle) (R : Jump) (q : Nat) (x0 x3 x4 x6 x7 : TVal) (h : Heap) : Res1 :=
 vbin .add 0 x7 (kI 1) h fun x16 h =>
 R 1 [x0, x3, x4, x6, x16] h
theorem e113_2 (O : Oracle) (R : Jump) (q : Nat) (x0 x3 x4 x6 x7 : TVal) (h : Heap) : b113_2 O R q x0 x3 x4 x6 x7 h = stepF c113 O R q 2 [x0, x3, x4, x6, x7] h := by kernel_rfl
noncomputable def b113_3 (O : Oracle) (R : Jump) (q : Nat) (x3 x4 : TVal) (h : Heap) : Res1 :=
 vload true 4 x3 h fun x17 h =>
 vstore 4 x4 x17 h fun _ h =>
 vcell true 4 x4 h fun c0 => vfin true q [c0] h
theorem e113_3 (O : Oracle) (R : Jump) (q : Nat) (x3 x4 : TVal) (h : Heap) : b113_3 O R q x3 x4 h = stepF c113 O R q 3 [x3, x4] h := by kernel_rfl
noncomputable def d113 : BlkF := fun O R q => [.s fun y0 => .s fun y1 => .z fun h => b113_0 O R q y0 y1 h, .s fun y0 => .s fun y1 => .s fun y2 => .s fun y3 => .s fun y4 => .z fun h => b113_1 O R q y0 y1 y2 y3 y4 h, .s fun y0 => .s fun y1 => .s fun y2 => .s fun y3 => .s fun y4 => .z fun h => b113_2 O R q y0 y1 y2 y3 y4 h, .s fun y0 => .s fun y1 => .z fun h => b113_3 O R q y0 y1 h]
theorem o113 (O : Oracle) (R : Jump) (q : Nat) : HoldsAll c113 O R q 0 (d113 O R q) := ⟨fun y0 y1 h => e113_0 O R q y0 y1 h, fun y0 y1 y2 y3 y4 h => e113_1 O R q y0 y1 y2 y3 y4 h, fun y0 y1 y2 y3 y4 h => e113_2 O R q y0 y1 y2 y3 y4 h, fun y0 y1 h => e113_3 O R q y0 y1 h, trivial⟩
/- (sprue/fits.fitter).each -/
def c114 : MFunc := { np := 5, res := [.t 10, .t 11], frz := true, body := (.seq (.reg [(oA 6 (.box (.t 1) false)), (oA 7 (.box (.t 2) false)), (oA 10 (.mv (.k (.v (.c (.p (.str []))))))), (oA 11 (.mv (.k (.v (.c (.p (.bool false)))))))] []) (.seq (.seq (.reg [(oA 16 (.faddr 0 (.t 7))), (oA 17 (.load false 1 (.t 16))), (oA 18 (.mv (.t 3))), (oA 19 (.bin .neq 0 (.t 17) (.t 18))), (oA 20 (.mv (.t 19))), ⟨(some 21), (.faddr 3 (.t 6)), (some (20, false))⟩, ⟨(some 22), (.load false 1 (.t 21)), (some (20, false))⟩, ⟨(some 23), (.len 2 (.t 22)), (some (20, false))⟩, ⟨(some 24), (.bin .neq 0 (.t 23) (.k (.v (.c (.p (.int .i64 1)))))), (some (20, false))⟩, (oA 25 (.pick (.t 20) (.k (.v (.c (.p (.bool true))))) (.t 24)))] []) (.cond (.t 25) (.seq (.reg [(oA 10 (.mv (.k (.v (.c (.p (.str []))))))), (oA 11 (.mv (.k (.v (.c (.p (.bool false)))))))] []) .ret) .skip)) (.seq (.seq (.reg [(oA 26 (.faddr 5 (.t 7))), (oA 27 (.load false 1 (.t 26))), (oA 28 (.len 2 (.t 27))), (oA 29 (.mv (.k (.v (.c (.p (.int .i64 0)))))))] []) (.block 0 (.loop 1 [0, 4, 6, 27, 28, 29] (.seq (.reg [(oA 30 (.bin .lss 0 (.t 29) (.t 28)))] []) (.seq (.cond (.t 30) .skip (.exit 0)) (.seq (.block 1 (.seq (.reg [(oA 31 (.mv (.t 29))), (oA 32 (.iaddr 6 (.t 27) (.t 29))), (oA 33 (.load true 6 (.t 32))), (oA 13 (.alloc [(.p (.int .i64 0)), (.p (.bool false)), (.p (.int .i64 0)), (.p (.str [])), (.p .nilslice), (.p .nilslice)] false)), (oA 12 (.mv (.t 31))), (oN (.store 6 (.t 13) (.t 33)))] []) (.seq (.reg [(oA 35 (.mv (.t 0))), (oA 36 (.faddr 3 (.t 6))), (oA 37 (.load false 1 (.t 36))), (oA 38 (.iaddr 4 (.t 37) (.k (.v (.c (.p (.int .i64 0))))))), (oA 39 (.load true 4 (.t 38))), (oA 40 (.load true 6 (.t 13))), (oA 41 (.call (.k (.v (.c (.func 58 [])))) [(.t 35), (.t 39), (.t 40)])), (oA 34 (.mv (.t 41))), (oA 42 (.extract (.t 34) 0)), (oA 43 (.extract (.t 34) 1)), (oA 14 (.mv (.t 42))), (oA 15 (.mv (.t 43)))] []) (.seq (.reg [(oA 44 (.mv (.t 15))), (oA 45 (.un .not (.t 44)))] []) (.cond (.t 45) (.seq (.reg [(oA 46 (.mv (.t 4))), (oA 47 (.mv (.t 12))), (oA 48 (.call (.t 46) [(.t 47)])), (oA 49 (.mv (.t 14))), (oA 50 (.bin .add 0 (.t 48) (.t 49))), (oA 10 (.mv (.t 50))), (oA 11 (.mv (.k (.v (.c (.p (.bool false)))))))] []) .ret) .skip))))) (.reg [(oA 51 (.bin .add 0 (.t 29) (.k (.v (.c (.p (.int .i64 1))))))), (oA 29 (.mv (.t 51)))] []))))))) (.seq (.reg [(oA 10 (.mv (.k (.v (.c (.p (.str []))))))), (oA 11 (.mv (.k (.v (.c (.p (.bool true)))))))] []) .ret)))) }
theorem t114 : compF Tryd.prog (globs2 tabs opq) (fun _ => false) true Tryd.f114 = some c114.erase := by kernel_rfl
noncomputable def b114_0 (O : Oracle) (R : Jump) (q : Nat) (x0 x1 x2 x3 x4 : TVal) (h : Heap) : Res1 :=
 vop O (.box (.k x1) false) h 6 fun x6 h =>
 vop O (.box (.k x2) false) h 7 fun x7 h =>
 vfaddr 0 x7 h fun x16 h =>
 vload false 1 x16 h fun x17 h =>
 vbin .neq 0 x17 x3 h fun x19 h =>
 vguard x19 false (fun kk => vfaddr 3 x6 h kk) h fun x21 h =>
 vguard x19 false (fun kk => vload false 1 x21 h kk) h fun x22 h =>
 vguard x19 false (fun kk => vlen O 2 x22 h 23 kk) h fun x23 h =>
 vguard x19 false (fun kk => vbin .neq 0 x23 (kI 1) h kk) h fun x24 h =>
 vop O (.pick (.k x19) (.k (kB true)) (.k x24)) h 25 fun x25 h =>
 vif x25 (
 tcomp (kS []) fun c0 => tcomp (kB false) fun c1 => vfin true q [c0, c1] h)
 (vfaddr 5 x7 h fun x26 h =>
 vload false 1 x26 h fun x27 h =>
 vlen O 2 x27 h 28 fun x28 h =>
 R 1 [x0, x4, x6, x27, x28, (kI 0)] h)
theorem e114_0 (O : Oracle) (R : Jump) (q : Nat) (x0 x1 x2 x3 x4 : TVal) (h : Heap) : b114_0 O R q x0 x1 x2 x3 x4 h = stepF c114 O R q 0 [x0, x1, x2, x3, x4] h := by kernel_rfl
noncomputable def b114_1 (O : Oracle) (R : Jump) (q : Nat) (x0 x4 x6 x27 x28 x29 : TVal) (h : Heap) : Res1 :=
 vbin .lss 0 x29 x28 h fun x30 h =>
 vif x30 (
 viaddr 6 x27 x29 h fun x32 h =>
 vload true 6 x32 h fun x33 h =>
 vop O (.alloc [(.p (.int .i64 0)), (.p (.bool false)), (.p (.int .i64 0)), (.p (.str [])), (.p .nilslice), (.p .nilslice)] false) h 13 fun x13 h =>
 vstore 6 x13 x33 h fun _ h =>
 vfaddr 3 x6 h fun x36 h =>
 vload false 1 x36 h fun x37 h =>
 viaddr 4 x37 (kI 0) h fun x38 h =>
 vload true 4 x38 h fun x39 h =>
 vload true 6 x13 h fun x40 h =>
 vcall O (.v (.c (.func 58 []))) [x0, x39, x40] h 41 fun x41 h =>
 vext x41 0 h fun x42 h =>
 vext x41 1 h fun x43 h =>
 vop O (.un .not (.k x43)) h 45 fun x45 h =>
 vif x45 (
 vcall O x4 [x29] h 48 fun x48 h =>
 vbin .add 0 x48 x42 h fun x50 h =>
 tcomp x50 fun c0 => tcomp (kB false) fun c1 => vfin true q [c0, c1] h)
 (vbin .add 0 x29 (kI 1) h fun x51 h =>
 R 1 [x0, x4, x6, x27, x28, x51] h))
 (tcomp (kS []) fun c0 => tcomp (kB true) fun c1 => vfin true q [c0, c1] h)
theorem e114_1 (O : Oracle) (R : Jump) (q : Nat) (x0 x4 x6 x27 x28 x29 : TVal) (h : Heap) : b114_1 O R q x0 x4 x6 x27 x28 x29 h = stepF c114 O R q 1 [x0, x4, x6, x27, x28, x29] h := by kernel_rfl
noncomputable def d114 : BlkF := fun O R q => [.s fun y0 => .s fun y1 => .s fun y2 => .s fun y3 => .s fun y4 => .z fun h => b114_0 O R q y0 y1 y2 y3 y4 h, .s fun y0 => .s fun y1 => .s fun y2 => .s fun y3 => .s fun y4 => .s fun y5 => .z fun h => b114_1 O R q y0 y1 y2 y3 y4 y5 h]
theorem o114 (O : Oracle) (R : Jump) (q : Nat) : HoldsAll c114 O R q 0 (d114 O R q) := ⟨fun y0 y1 y2 y3 y4 h => e114_0 O R q y0 y1 y2 y3 y4 h, fun y0 y1 y2 y3 y4 y5 h => e114_1 O R q y0 y1 y2 y3 y4 y5 h, trivial⟩
/- (sprue/fits.fitter).fit$1 -/
def c115 : MFunc := { np := 1, res := [.t 2], frz := true, body := (.seq (.reg [(oA 2 (.mv (.k (.v (.c (.p (.str [])))))))] []) (.seq (.reg [(oA 3 (.mv (.t 0))), (oA 4 (.call (.k (.v (.c (.func 116 [])))) [(.t 3)])), (oA 5 (.bin .add 0 (.k (.v (.c (.p (.str [91]))))) (.t 4))), (oA 6 (.bin .add 0 (.t 5) (.k (.v (.c (.p (.str [93]))))))), (oA 2 (.mv (.t 6)))] []) .ret)) }
theorem t115 : compF Tryd.prog (globs2 tabs opq) (fun _ => false) true Tryd.f115 = some c115.erase := by kernel_rfl
noncomputable def b115_0 (O : Oracle) (R : Jump) (q : Nat) (x0 : TVal) (h : Heap) : Res1 :=
 vcall O (.v (.c (.func 116 []))) [x0] h 4 fun x4 h =>
 vbin .add 0 (kS [91]) x4 h fun x5 h =>
 vbin .add 0 x5 (kS [93]) h fun x6 h =>
 tcomp x6 fun c0 => vfin true q [c0] h
theorem e115_0 (O : Oracle) (R : Jump) (q : Nat) (x0 : TVal) (h : Heap) : b115_0 O R q x0 h = stepF c115 O R q 0 [x0] h := by kernel_rfl
noncomputable def d115 : BlkF := fun O R q => [.s fun y0 => .z fun h => b115_0 O R q y0 h]
theorem o115 (O : Oracle) (R : Jump) (q : Nat) : HoldsAll c115 O R q 0 (d115 O R q) := ⟨fun y0 h => e115_0 O R q y0 h, trivial⟩
/- strconv.Itoa -/
def c116 : MFunc := { np := 1, res := [.t 2], frz := true, body := (.seq (.reg [(oA 2 (.mv (.k (.v (.c (.p (.str [])))))))] []) (.seq (.reg [(oA 3 (.mv (.t 0))), (oA 4 (.call (.k (.v (.c (.func 164 [])))) [(.t 3)])), (oA 2 (.mv (.t 4)))] []) .ret)) }
theorem t116 : compF Tryd.prog (globs2 tabs opq) (fun _ => false) true Tryd.f116 = some c116.erase := by kernel_rfl
noncomputable def b116_0 (O : Oracle) (R : Jump) (q : Nat) (x0 : TVal) (h : Heap) : Res1 :=
 vcall O (.v (.c (.func 164 []))) [x0] h 4 fun x4 h =>
 tcomp x4 fun c0 => vfin true q [c0] h
theorem e116_0 (O : Oracle) (R : Jump) (q : Nat) (x0 : TVal) (h : Heap) : b116_0 O R q x0 h = stepF c116 O R q 0 [x0] h := by kernel_rfl
noncomputable def d116 : BlkF := fun O R q => [.s fun y0 => .z fun h => b116_0 O R q y0 h]
theorem o116 (O : Oracle) (R : Jump) (q : Nat) : HoldsAll c116 O R q 0 (d116 O R q) := ⟨fun y0 h => e116_0 O R q y0 h, trivial⟩
/- (sprue/fits.fitter).fit$2 -/
def c117 : MFunc := { np := 2, res := [.t 3], frz := true, body := (.seq (.reg [(oA 3 (.mv (.k (.v (.c (.p (.str [])))))))] []) (.seq (.seq (.reg [(oA 4 (.mv (.t 0))), (oA 5 (.faddr 4 (.t 1))), (oA 6 (.load false 1 (.t 5))), (oA 7 (.len 2 (.t 6))), (oA 8 (.bin .geq 0 (.t 4) (.t 7)))] []) (.cond (.t 8) (.seq (.reg [(oA 3 (.mv (.k (.v (.c (.p (.str [])))))))] []) .ret) .skip)) (.seq (.reg [(oA 9 (.faddr 4 (.t 1))), (oA 10 (.load false 1 (.t 9))), (oA 11 (.mv (.t 0))), (oA 12 (.iaddr 1 (.t 10) (.t 11))), (oA 13 (.load false 1 (.t 12))), (oA 14 (.bin .add 0 (.k (.v (.c (.p (.str [91, 34]))))) (.t 13))), (oA 15 (.bin .add 0 (.t 14) (.k (.v (.c (.p (.str [34, 93]))))))), (oA 3 (.mv (.t 15)))] []) .ret))) }
theorem t117 : compF Tryd.prog (globs2 tabs opq) (fun _ => false) true Tryd.f117 = some c117.erase := by kernel_rfl
noncomputable def b117_0 (O : Oracle) (R : Jump) (q : Nat) (x0 x1 : TVal) (h : Heap) : Res1 :=
 vfaddr 4 x1 h fun x5 h =>
 vload false 1 x5 h fun x6 h =>
 vlen O 2 x6 h 7 fun x7 h =>
 vbin .geq 0 x0 x7 h fun x8 h =>
 vif x8 (
 tcomp (kS []) fun c0 => vfin true q [c0] h)
 (vfaddr 4 x1 h fun x9 h =>
 vload false 1 x9 h fun x10 h =>
 viaddr 1 x10 x0 h fun x12 h =>
 vload false 1 x12 h fun x13 h =>
 vbin .add 0 (kS [91, 34]) x13 h fun x14 h =>
 vbin .add 0 x14 (kS [34, 93]) h fun x15 h =>
 tcomp x15 fun c0 => vfin true q [c0] h)
theorem e117_0 (O : Oracle) (R : Jump) (q : Nat) (x0 x1 : TVal) (h : Heap) : b117_0 O R q x0 x1 h = stepF c117 O R q 0 [x0, x1] h := by kernel_rfl
noncomputable def d117 : BlkF := fun O R q => [.s fun y0 => .s fun y1 => .z fun h => b117_0 O R q y0 y1 h]
theorem o117 (O : Oracle) (R : Jump) (q : Nat) : HoldsAll c117 O R q 0 (d117 O R q) := ⟨fun y0 y1 h => e117_0 O R q y0 y1 h, trivial⟩
/- (sprue/fits.fitter).rec -/
def c118 : MFunc := { np := 3, res := [.t 6, .t 7], frz := true, body := (.seq (.reg [(oA 4 (.box (.t 1) false)), (oA 5 (.box (.t 2) false)), (oA 6 (.mv (.k (.v (.c (.p (.str []))))))), (oA 7 (.mv (.k (.v (.c (.p (.bool false)))))))] []) (.seq (.seq (.reg [(oA 15 (.faddr 0 (.t 5))), (oA 16 (.load false 1 (.t 15))), (oA 17 (.bin .neq 0 (.t 16) (.k (.v (.c (.p (.int .i64 5)))))))] []) (.cond (.t 17) (.seq (.reg [(oA 6 (.mv (.k (.v (.c (.p (.str []))))))), (oA 7 (.mv (.k (.v (.c (.p (.bool false)))))))] []) .ret) .skip)) (.seq (.seq (.reg [(oA 18 (.faddr 2 (.t 4))), (oA 19 (.load false 1 (.t 18))), (oA 20 (.len 2 (.t 19))), (oA 21 (.mv (.k (.v (.c (.p (.int .i64 0)))))))] []) (.block 0 (.loop 1 [0, 4, 5, 19, 20, 21] (.seq (.reg [(oA 22 (.bin .lss 0 (.t 21) (.t 20)))] []) (.seq (.cond (.t 22) .skip (.exit 0)) (.seq (.block 1 (.seq (.reg [(oA 23 (.mv (.t 21))), (oA 24 (.iaddr 1 (.t 19) (.t 21))), (oA 25 (.load false 1 (.t 24))), (oA 8 (.mv (.t 23))), (oA 9 (.mv (.t 25)))] []) (.seq (.seq (.reg [(oA 26 (.mv (.t 8))), (oA 27 (.faddr 3 (.t 4))), (oA 28 (.load false 1 (.t 27))), (oA 29 (.len 2 (.t 28))), (oA 30 (.bin .geq 0 (.t 26) (.t 29)))] []) (.cond (.t 30) (.seq (.reg [(oA 31 (.mv (.t 9))), (oA 32 (.bin .add 0 (.k (.v (.c (.p (.str [46]))))) (.t 31))), (oA 6 (.mv (.t 32))), (oA 7 (.mv (.k (.v (.c (.p (.bool false)))))))] []) .ret) .skip)) (.seq (.reg [(oA 33 (.faddr 4 (.t 5))), (oA 34 (.load false 1 (.t 33))), (oA 35 (.mv (.t 9))), (oA 36 (.call (.k (.v (.c (.func 131 [])))) [(.t 34), (.t 35)])), (oA 10 (.mv (.t 36)))] []) (.seq (.seq (.reg [(oA 37 (.mv (.t 10))), (oA 38 (.bin .lss 0 (.t 37) (.k (.v (.c (.p (.int .i64 0))))))), (oA 39 (.mv (.t 38))), ⟨(some 40), (.mv (.t 10)), (some (39, false))⟩, ⟨(some 41), (.faddr 5 (.t 5)), (some (39, false))⟩, ⟨(some 42), (.load false 1 (.t 41)), (some (39, false))⟩, ⟨(some 43), (.len 2 (.t 42)), (some (39, false))⟩, ⟨(some 44), (.bin .geq 0 (.t 40) (.t 43)), (some (39, false))⟩, (oA 45 (.pick (.t 39) (.k (.v (.c (.p (.bool true))))) (.t 44)))] []) (.cond (.t 45) (.seq (.seq (.reg [(oA 46 (.mv (.t 0))), (oA 47 (.faddr 3 (.t 4))), (oA 48 (.load false 1 (.t 47))), (oA 49 (.mv (.t 8))), (oA 50 (.iaddr 4 (.t 48) (.t 49))), (oA 51 (.load true 4 (.t 50))), (oA 52 (.call (.k (.v (.c (.func 113 [])))) [(.t 46), (.t 51)])), (oA 53 (.field 0 1 false (.t 52))), (oA 54 (.bin .neq 0 (.t 53) (.k (.v (.c (.p (.int .i64 6)))))))] []) (.cond (.t 54) (.seq (.reg [(oA 55 (.mv (.t 9))), (oA 56 (.bin .add 0 (.k (.v (.c (.p (.str [46]))))) (.t 55))), (oA 6 (.mv (.t 56))), (oA 7 (.mv (.k (.v (.c (.p (.bool false)))))))] []) .ret) .skip)) (.exit 1)) .skip)) (.seq (.reg [(oA 58 (.mv (.t 0))), (oA 59 (.faddr 3 (.t 4))), (oA 60 (.load false 1 (.t 59))), (oA 61 (.mv (.t 8))), (oA 62 (.iaddr 4 (.t 60) (.t 61))), (oA 63 (.load true 4 (.t 62))), (oA 64 (.faddr 5 (.t 5))), (oA 65 (.load false 1 (.t 64))), (oA 66 (.mv (.t 10))), (oA 67 (.iaddr 6 (.t 65) (.t 66))), (oA 68 (.load true 6 (.t 67))), (oA 69 (.call (.k (.v (.c (.func 58 [])))) [(.t 58), (.t 63), (.t 68)])), (oA 57 (.mv (.t 69))), (oA 70 (.extract (.t 57) 0)), (oA 71 (.extract (.t 57) 1)), (oA 11 (.mv (.t 70))), (oA 12 (.mv (.t 71)))] []) (.seq (.reg [(oA 72 (.mv (.t 12))), (oA 73 (.un .not (.t 72)))] []) (.cond (.t 73) (.seq (.reg [(oA 74 (.mv (.t 9))), (oA 75 (.bin .add 0 (.k (.v (.c (.p (.str [46]))))) (.t 74))), (oA 76 (.mv (.t 11))), (oA 77 (.bin .add 0 (.t 75) (.t 76))), (oA 6 (.mv (.t 77))), (oA 7 (.mv (.k (.v (.c (.p (.bool false)))))))] []) .ret) .skip)))))))) (.mark 2 [0, 4, 5, 19, 20, 21] (.reg [(oA 78 (.bin .add 0 (.t 21) (.k (.v (.c (.p (.int .i64 1))))))), (oA 21 (.mv (.t 78)))] [])))))))) (.mark 3 [4, 5] (.seq (.seq (.reg [(oA 79 (.faddr 4 (.t 5))), (oA 80 (.load false 1 (.t 79))), (oA 81 (.len 2 (.t 80))), (oA 82 (.mv (.k (.v (.c (.p (.int .i64 0)))))))] []) (.block 2 (.loop 4 [4, 80, 81, 82] (.seq (.reg [(oA 83 (.bin .lss 0 (.t 82) (.t 81)))] []) (.seq (.cond (.t 83) .skip (.exit 2)) (.seq (.block 3 (.seq (.reg [(oA 84 (.iaddr 1 (.t 80) (.t 82))), (oA 85 (.load false 1 (.t 84))), (oA 14 (.mv (.t 85)))] []) (.seq (.reg [(oA 86 (.faddr 2 (.t 4))), (oA 87 (.load false 1 (.t 86))), (oA 88 (.mv (.t 14))), (oA 89 (.call (.k (.v (.c (.func 139 [])))) [(.t 87), (.t 88)])), (oA 90 (.un .not (.t 89)))] []) (.cond (.t 90) (.seq (.reg [(oA 91 (.mv (.t 14))), (oA 92 (.bin .add 0 (.k (.v (.c (.p (.str [46]))))) (.t 91))), (oA 6 (.mv (.t 92))), (oA 7 (.mv (.k (.v (.c (.p (.bool false)))))))] []) .ret) .skip)))) (.reg [(oA 93 (.bin .add 0 (.t 82) (.k (.v (.c (.p (.int .i64 1))))))), (oA 82 (.mv (.t 93)))] []))))))) (.seq (.reg [(oA 6 (.mv (.k (.v (.c (.p (.str []))))))), (oA 7 (.mv (.k (.v (.c (.p (.bool true)))))))] []) .ret)))))) }
theorem t118 : compF Tryd.prog (globs2 tabs opq) (fun _ => false) true Tryd.f118 = some c118.erase := by kernel_rfl
noncomputable def b118_0 (O : Oracle) (R : Jump) (q : Nat) (x0 x1 x2 : TVal) (h : Heap) : Res1 :=
 vop O (.box (.k x1) false) h 4 fun x4 h =>
 vop O (.box (.k x2) false) h 5 fun x5 h =>
 vfaddr 0 x5 h fun x15 h =>
 vload false 1 x15 h fun x16 h =>
 vbin .neq 0 x16 (kI 5) h fun x17 h =>
 vif x17 (
 tcomp (kS []) fun c0 => tcomp (kB false) fun c1 => vfin true q [c0, c1] h)
 (vfaddr 2 x4 h fun x18 h =>
 vload false 1 x18 h fun x19 h =>
 vlen O 2 x19 h 20 fun x20 h =>
 R 1 [x0, x4, x5, x19, x20, (kI 0)] h)
theorem e118_0 (O : Oracle) (R : Jump) (q : Nat) (x0 x1 x2 : TVal) (h : Heap) : b118_0 O R q x0 x1 x2 h = stepF c118 O R q 0 [x0, x1, x2] h := by kernel_rfl
noncomputable def b118_1 (O : Oracle) (R : Jump) (q : Nat) (x0 x4 x5 x19 x20 x21 : TVal) (h : Heap) : Res1 :=
 vbin .lss 0 x21 x20 h fun x22 h =>
 vif x22 (
 viaddr 1 x19 x21 h fun x24 h =>
 vload false 1 x24 h fun x25 h =>
 vfaddr 3 x4 h fun x27 h =>
 vload false 1 x27 h fun x28 h =>
 vlen O 2 x28 h 29 fun x29 h =>
 vbin .geq 0 x21 x29 h fun x30 h =>
 vif x30 (
 vbin .add 0 (kS [46]) x25 h fun x32 h =>
 tcomp x32 fun c0 => tcomp (kB false) fun c1 => vfin true q [c0, c1] h)
 (vfaddr 4 x5 h fun x33 h =>
 vload false 1 x33 h fun x34 h =>
 vcall O (.v (.c (.func 131 []))) [x34, x25] h 36 fun x36 h =>
 vbin .lss 0 x36 (kI 0) h fun x38 h =>
 vguard x38 false (fun kk => kk x36 h) h fun x40 h =>
 vguard x38 false (fun kk => vfaddr 5 x5 h kk) h fun x41 h =>
 vguard x38 false (fun kk => vload false 1 x41 h kk) h fun x42 h =>
 vguard x38 false (fun kk => vlen O 2 x42 h 43 kk) h fun x43 h =>
 vguard x38 false (fun kk => vbin .geq 0 x40 x43 h kk) h fun x44 h =>
 vop O (.pick (.k x38) (.k (kB true)) (.k x44)) h 45 fun x45 h =>
 vif x45 (
 vfaddr 3 x4 h fun x47 h =>
 vload false 1 x47 h fun x48 h =>
 viaddr 4 x48 x21 h fun x50 h =>
 vload true 4 x50 h fun x51 h =>
 vcall O (.v (.c (.func 113 []))) [x0, x51] h 52 fun x52 h =>
 vfield 0 1 false x52 h fun x53 h =>
 vbin .neq 0 x53 (kI 6) h fun x54 h =>
 vif x54 (
 vbin .add 0 (kS [46]) x25 h fun x56 h =>
 tcomp x56 fun c0 => tcomp (kB false) fun c1 => vfin true q [c0, c1] h)
 (R 2 [x0, x4, x5, x19, x20, x21] h))
 (vfaddr 3 x4 h fun x59 h =>
 vload false 1 x59 h fun x60 h =>
 viaddr 4 x60 x21 h fun x62 h =>
 vload true 4 x62 h fun x63 h =>
 vfaddr 5 x5 h fun x64 h =>
 vload false 1 x64 h fun x65 h =>
 viaddr 6 x65 x36 h fun x67 h =>
 vload true 6 x67 h fun x68 h =>
 vcall O (.v (.c (.func 58 []))) [x0, x63, x68] h 69 fun x69 h =>
 vext x69 0 h fun x70 h =>
 vext x69 1 h fun x71 h =>
 vop O (.un .not (.k x71)) h 73 fun x73 h =>
 vif x73 (
 vbin .add 0 (kS [46]) x25 h fun x75 h =>
 vbin .add 0 x75 x70 h fun x77 h =>
 tcomp x77 fun c0 => tcomp (kB false) fun c1 => vfin true q [c0, c1] h)
 (R 2 [x0, x4, x5, x19, x20, x21] h))))
 (R 3 [x4, x5] h)
theorem e118_1 (O : Oracle) (R : Jump) (q : Nat) (x0 x4 x5 x19 x20 x21 : TVal) (h : Heap) : b118_1 O R q x0 x4 x5 x19 x20 x21 h = stepF c118 O R q 1 [x0, x4, x5, x19, x20, x21] h := by kernel_rfl
noncomputable def b118_2 (O : Oracle) (R : Jump) (q : Nat) (x0 x4 x5 x19 x20 x21 : TVal) (h : Heap) : Res1 :=
 vbin .add 0 x21 (kI 1) h fun x78 h =>
 R 1 [x0, x4, x5, x19, x20, x78] h
theorem e118_2 (O : Oracle) (R : Jump) (q : Nat) (x0 x4 x5 x19 x20 x21 : TVal) (h : Heap) : b118_2 O R q x0 x4 x5 x19 x20 x21 h = stepF c118 O R q 2 [x0, x4, x5, x19, x20, x21] h := by kernel_rfl
noncomputable def b118_3 (O : Oracle) (R : Jump) (q : Nat) (x4 x5 : TVal) (h : Heap) : Res1 :=
 vfaddr 4 x5 h fun x79 h =>
 vload false 1 x79 h fun x80 h =>
 vlen O 2 x80 h 81 fun x81 h =>
 R 4 [x4, x80, x81, (kI 0)] h
theorem e118_3 (O : Oracle) (R : Jump) (q : Nat) (x4 x5 : TVal) (h : Heap) : b118_3 O R q x4 x5 h = stepF c118 O R q 3 [x4, x5] h := by kernel_rfl
noncomputable def b118_4 (O : Oracle) (R : Jump) (q : Nat) (x4 x80 x81 x82 : TVal) (h : Heap) : Res1 :=
 vbin .lss 0 x82 x81 h fun x83 h =>
 vif x83 (
 viaddr 1 x80 x82 h fun x84 h =>
 vload false 1 x84 h fun x85 h =>
 vfaddr 2 x4 h fun x86 h =>
 vload false 1 x86 h fun x87 h =>
 vcall O (.v (.c (.func 139 []))) [x87, x85] h 89 fun x89 h =>
 vop O (.un .not (.k x89)) h 90 fun x90 h =>
 vif x90 (
 vbin .add 0 (kS [46]) x85 h fun x92 h =>
 tcomp x92 fun c0 => tcomp (kB false) fun c1 => vfin true q [c0, c1] h)
 (vbin .add 0 x82 (kI 1) h fun x93 h =>
 R 4 [x4, x80, x81, x93] h))
 (tcomp (kS []) fun c0 => tcomp (kB true) fun c1 => vfin true q [c0, c1] h)
theorem e118_4 (O : Oracle) (R : Jump) (q : Nat) (x4 x80 x81 x82 : TVal) (h : Heap) : b118_4 O R q x4 x80 x81 x82 h = stepF c118 O R q 4 [x4, x80, x81, x82] h := by kernel_rfl
noncomputable def d118 : BlkF := fun O R q => [.s fun y0 => .s fun y1 => .s fun y2 => .z fun h => b118_0 O R q y0 y1 y2 h, .s fun y0 => .s fun y1 => .s fun y2 => .s fun y3 => .s fun y4 => .s fun y5 => .z fun h => b118_1 O R q y0 y1 y2 y3 y4 y5 h, .s fun y0 => .s fun y1 => .s fun y2 => .s fun y3 => .s fun y4 => .s fun y5 => .z fun h => b118_2 O R q y0 y1 y2 y3 y4 y5 h, .s fun y0 => .s fun y1 => .z fun h => b118_3 O R q y0 y1 h, .s fun y0 => .s fun y1 => .s fun y2 => .s fun y3 => .z fun h => b118_4 O R q y0 y1 y2 y3 h]
theorem o118 (O : Oracle) (R : Jump) (q : Nat) : HoldsAll c118 O R q 0 (d118 O R q) := ⟨fun y0 y1 y2 h => e118_0 O R q y0 y1 y2 h, fun y0 y1 y2 y3 y4 y5 h => e118_1 O R q y0 y1 y2 y3 y4 y5 h, fun y0 y1 y2 y3 y4 y5 h => e118_2 O R q y0 y1 y2 y3 y4 y5 h, fun y0 y1 h => e118_3 O R q y0 y1 h, fun y0 y1 y2 y3 h => e118_4 O R q y0 y1 y2 y3 h, trivial⟩
/- (sprue/fits.fitter).union -/
def c119 : MFunc := { np := 3, res := [.t 6, .t 7], frz := true, body := (.seq (.reg [(oA 4 (.box (.t 1) false)), (oA 5 (.box (.t 2) false)), (oA 6 (.mv (.k (.v (.c (.p (.str []))))))), (oA 7 (.mv (.k (.v (.c (.p (.bool false)))))))] []) (.seq (.seq (.reg [(oA 11 (.faddr 0 (.t 5))), (oA 12 (.load false 1 (.t 11))), (oA 13 (.bin .neq 0 (.t 12) (.k (.v (.c (.p (.int .i64 5))))))), (oA 14 (.mv (.t 13))), ⟨(some 15), (.faddr 4 (.t 5)), (some (14, false))⟩, ⟨(some 16), (.load false 1 (.t 15)), (some (14, false))⟩, ⟨(some 17), (.len 2 (.t 16)), (some (14, false))⟩, ⟨(some 18), (.bin .neq 0 (.t 17) (.k (.v (.c (.p (.int .i64 1)))))), (some (14, false))⟩, (oA 19 (.pick (.t 14) (.k (.v (.c (.p (.bool true))))) (.t 18))), (oA 20 (.mv (.t 19))), ⟨(some 21), (.faddr 5 (.t 5)), (some (20, false))⟩, ⟨(some 22), (.load false 1 (.t 21)), (some (20, false))⟩, ⟨(some 23), (.len 2 (.t 22)), (some (20, false))⟩, ⟨(some 24), (.bin .neq 0 (.t 23) (.k (.v (.c (.p (.int .i64 1)))))), (some (20, false))⟩, (oA 25 (.pick (.t 20) (.k (.v (.c (.p (.bool true))))) (.t 24)))] []) (.cond (.t 25) (.seq (.reg [(oA 6 (.mv (.k (.v (.c (.p (.str []))))))), (oA 7 (.mv (.k (.v (.c (.p (.bool false)))))))] []) .ret) .skip)) (.seq (.reg [(oA 26 (.faddr 2 (.t 4))), (oA 27 (.load false 1 (.t 26))), (oA 28 (.faddr 4 (.t 5))), (oA 29 (.load false 1 (.t 28))), (oA 30 (.iaddr 1 (.t 29) (.k (.v (.c (.p (.int .i64 0))))))), (oA 31 (.load false 1 (.t 30))), (oA 32 (.call (.k (.v (.c (.func 131 [])))) [(.t 27), (.t 31)])), (oA 8 (.mv (.t 32)))] []) (.seq (.seq (.reg [(oA 33 (.mv (.t 8))), (oA 34 (.bin .lss 0 (.t 33) (.k (.v (.c (.p (.int .i64 0))))))), (oA 35 (.mv (.t 34))), ⟨(some 36), (.mv (.t 8)), (some (35, false))⟩, ⟨(some 37), (.faddr 3 (.t 4)), (some (35, false))⟩, ⟨(some 38), (.load false 1 (.t 37)), (some (35, false))⟩, ⟨(some 39), (.len 2 (.t 38)), (some (35, false))⟩, ⟨(some 40), (.bin .geq 0 (.t 36) (.t 39)), (some (35, false))⟩, (oA 41 (.pick (.t 35) (.k (.v (.c (.p (.bool true))))) (.t 40)))] []) (.cond (.t 41) (.seq (.reg [(oA 6 (.mv (.k (.v (.c (.p (.str []))))))), (oA 7 (.mv (.k (.v (.c (.p (.bool false)))))))] []) .ret) .skip)) (.seq (.reg [(oA 43 (.mv (.t 0))), (oA 44 (.faddr 3 (.t 4))), (oA 45 (.load false 1 (.t 44))), (oA 46 (.mv (.t 8))), (oA 47 (.iaddr 4 (.t 45) (.t 46))), (oA 48 (.load true 4 (.t 47))), (oA 49 (.faddr 5 (.t 5))), (oA 50 (.load false 1 (.t 49))), (oA 51 (.iaddr 6 (.t 50) (.k (.v (.c (.p (.int .i64 0))))))), (oA 52 (.load true 6 (.t 51))), (oA 53 (.call (.k (.v (.c (.func 58 [])))) [(.t 43), (.t 48), (.t 52)])), (oA 42 (.mv (.t 53))), (oA 54 (.extract (.t 42) 0)), (oA 55 (.extract (.t 42) 1)), (oA 9 (.mv (.t 54))), (oA 10 (.mv (.t 55)))] []) (.seq (.seq (.reg [(oA 56 (.mv (.t 10))), (oA 57 (.un .not (.t 56)))] []) (.cond (.t 57) (.reg [(oA 58 (.faddr 4 (.t 5))), (oA 59 (.load false 1 (.t 58))), (oA 60 (.iaddr 1 (.t 59) (.k (.v (.c (.p (.int .i64 0))))))), (oA 61 (.load false 1 (.t 60))), (oA 62 (.bin .add 0 (.k (.v (.c (.p (.str [46]))))) (.t 61))), (oA 63 (.mv (.t 9))), (oA 64 (.bin .add 0 (.t 62) (.t 63))), (oA 9 (.mv (.t 64)))] []) .skip)) (.seq (.reg [(oA 65 (.mv (.t 9))), (oA 66 (.mv (.t 10))), (oA 6 (.mv (.t 65))), (oA 7 (.mv (.t 66)))] []) .ret))))))) }
theorem t119 : compF Tryd.prog (globs2 tabs opq) (fun _ => false) true Tryd.f119 = some c119.erase := by kernel_rfl
noncomputable def b119_0 (O : Oracle) (R : Jump) (q : Nat) (x0 x1 x2 : TVal) (h : Heap) : Res1 :=
 vop O (.box (.k x1) false) h 4 fun x4 h =>
 vop O (.box (.k x2) false) h 5 fun x5 h =>
 vfaddr 0 x5 h fun x11 h =>
 vload false 1 x11 h fun x12 h =>
 vbin .neq 0 x12 (kI 5) h fun x13 h =>
 vguard x13 false (fun kk => vfaddr 4 x5 h kk) h fun x15 h =>
 vguard x13 false (fun kk => vload false 1 x15 h kk) h fun x16 h =>
 vguard x13 false (fun kk => vlen O 2 x16 h 17 kk) h fun x17 h =>
 vguard x13 false (fun kk => vbin .neq 0 x17 (kI 1) h kk) h fun x18 h =>
 vop O (.pick (.k x13) (.k (kB true)) (.k x18)) h 19 fun x19 h =>
 vguard x19 false (fun kk => vfaddr 5 x5 h kk) h fun x21 h =>
 vguard x19 false (fun kk => vload false 1 x21 h kk) h fun x22 h =>
 vguard x19 false (fun kk => vlen O 2 x22 h 23 kk) h fun x23 h =>
 vguard x19 false (fun kk => vbin .neq 0 x23 (kI 1) h kk) h fun x24 h =>
 vop O (.pick (.k x19) (.k (kB true)) (.k x24)) h 25 fun x25 h =>
 vif x25 (
 tcomp (kS []) fun c0 => tcomp (kB false) fun c1 => vfin true q [c0, c1] h)
 (vfaddr 2 x4 h fun x26 h =>
 vload false 1 x26 h fun x27 h =>
 vfaddr 4 x5 h fun x28 h =>
 vload false 1 x28 h fun x29 h =>
 viaddr 1 x29 (kI 0) h fun x30 h =>
 vload false 1 x30 h fun x31 h =>
 vcall O (.v (.c (.func 131 []))) [x27, x31] h 32 fun x32 h =>
 vbin .lss 0 x32 (kI 0) h fun x34 h =>
 vguard x34 false (fun kk => kk x32 h) h fun x36 h =>
 vguard x34 false (fun kk => vfaddr 3 x4 h kk) h fun x37 h =>
 vguard x34 false (fun kk => vload false 1 x37 h kk) h fun x38 h =>
 vguard x34 false (fun kk => vlen O 2 x38 h 39 kk) h fun x39 h =>
 vguard x34 false (fun kk => vbin .geq 0 x36 x39 h kk) h fun x40 h =>
 vop O (.pick (.k x34) (.k (kB true)) (.k x40)) h 41 fun x41 h =>
 vif x41 (
 tcomp (kS []) fun c0 => tcomp (kB false) fun c1 => vfin true q [c0, c1] h)
 (vfaddr 3 x4 h fun x44 h =>
 vload false 1 x44 h fun x45 h =>
 viaddr 4 x45 x32 h fun x47 h =>
 vload true 4 x47 h fun x48 h =>
 vfaddr 5 x5 h fun x49 h =>
 vload false 1 x49 h fun x50 h =>
 viaddr 6 x50 (kI 0) h fun x51 h =>
 vload true 6 x51 h fun x52 h =>
 vcall O (.v (.c (.func 58 []))) [x0, x48, x52] h 53 fun x53 h =>
 vext x53 0 h fun x54 h =>
 vext x53 1 h fun x55 h =>
 vop O (.un .not (.k x55)) h 57 fun x57 h =>
 vif x57 (
 vfaddr 4 x5 h fun x58 h =>
 vload false 1 x58 h fun x59 h =>
 viaddr 1 x59 (kI 0) h fun x60 h =>
 vload false 1 x60 h fun x61 h =>
 vbin .add 0 (kS [46]) x61 h fun x62 h =>
 vbin .add 0 x62 x54 h fun x64 h =>
 tcomp x64 fun c0 => tcomp x55 fun c1 => vfin true q [c0, c1] h)
 (tcomp x54 fun c0 => tcomp x55 fun c1 => vfin true q [c0, c1] h)))
theorem e119_0 (O : Oracle) (R : Jump) (q : Nat) (x0 x1 x2 : TVal) (h : Heap) : b119_0 O R q x0 x1 x2 h = stepF c119 O R q 0 [x0, x1, x2] h := by kernel_rfl
noncomputable def d119 : BlkF := fun O R q => [.s fun y0 => .s fun y1 => .s fun y2 => .z fun h => b119_0 O R q y0 y1 y2 h]
theorem o119 (O : Oracle) (R : Jump) (q : Nat) : HoldsAll c119 O R q 0 (d119 O R q) := ⟨fun y0 y1 y2 h => e119_0 O R q y0 y1 y2 h, trivial⟩
/- slices.Index[[]string,string] -/
def c131 : MFunc := { np := 2, res := [.t 4], frz := true, body := (.seq (.reg [(oA 4 (.mv (.k (.v (.c (.p (.int .i64 0)))))))] []) (.seq (.seq (.reg [(oA 6 (.mv (.t 0))), (oA 7 (.len 2 (.t 6))), (oA 8 (.mv (.k (.v (.c (.p (.int .i64 0)))))))] []) (.block 0 (.loop 1 [0, 1, 7, 8] (.seq (.reg [(oA 9 (.bin .lss 0 (.t 8) (.t 7)))] []) (.seq (.cond (.t 9) .skip (.exit 0)) (.seq (.block 1 (.seq (.reg [(oA 10 (.mv (.t 8))), (oA 5 (.mv (.t 10)))] []) (.seq (.reg [(oA 11 (.mv (.t 1))), (oA 12 (.mv (.t 0))), (oA 13 (.mv (.t 5))), (oA 14 (.iaddr 1 (.t 12) (.t 13))), (oA 15 (.load false 1 (.t 14))), (oA 16 (.bin .eql 0 (.t 11) (.t 15)))] []) (.cond (.t 16) (.seq (.reg [(oA 17 (.mv (.t 5))), (oA 4 (.mv (.t 17)))] []) .ret) .skip)))) (.reg [(oA 18 (.bin .add 0 (.t 8) (.k (.v (.c (.p (.int .i64 1))))))), (oA 8 (.mv (.t 18)))] []))))))) (.seq (.reg [(oA 4 (.mv (.k (.v (.c (.p (.int .i64 (-1))))))))] []) .ret))) }
theorem t131 : compF Tryd.prog (globs2 tabs opq) (fun _ => false) true Tryd.f131 = some c131.erase := by kernel_rfl
noncomputable def b131_0 (O : Oracle) (R : Jump) (q : Nat) (x0 x1 : TVal) (h : Heap) : Res1 :=
 vlen O 2 x0 h 7 fun x7 h =>
 R 1 [x0, x1, x7, (kI 0)] h
theorem e131_0 (O : Oracle) (R : Jump) (q : Nat) (x0 x1 : TVal) (h : Heap) : b131_0 O R q x0 x1 h = stepF c131 O R q 0 [x0, x1] h := by kernel_rfl
noncomputable def b131_1 (O : Oracle) (R : Jump) (q : Nat) (x0 x1 x7 x8 : TVal) (h : Heap) : Res1 :=
 vbin .lss 0 x8 x7 h fun x9 h =>
 vif x9 (
 viaddr 1 x0 x8 h fun x14 h =>
 vload false 1 x14 h fun x15 h =>
 vbin .eql 0 x1 x15 h fun x16 h =>
 vif x16 (
 tcomp x8 fun c0 => vfin true q [c0] h)
 (vbin .add 0 x8 (kI 1) h fun x18 h =>
 R 1 [x0, x1, x7, x18] h))
 (tcomp (kI (-1)) fun c0 => vfin true q [c0] h)
theorem e131_1 (O : Oracle) (R : Jump) (q : Nat) (x0 x1 x7 x8 : TVal) (h : Heap) : b131_1 O R q x0 x1 x7 x8 h = stepF c131 O R q 1 [x0, x1, x7, x8] h := by kernel_rfl
noncomputable def d131 : BlkF := fun O R q => [.s fun y0 => .s fun y1 => .z fun h => b131_0 O R q y0 y1 h, .s fun y0 => .s fun y1 => .s fun y2 => .s fun y3 => .z fun h => b131_1 O R q y0 y1 y2 y3 h]
theorem o131 (O : Oracle) (R : Jump) (q : Nat) : HoldsAll c131 O R q 0 (d131 O R q) := ⟨fun y0 y1 h => e131_0 O R q y0 y1 h, fun y0 y1 y2 y3 h => e131_1 O R q y0 y1 y2 y3 h, trivial⟩
/- slices.Contains[[]string,string] -/
def c139 : MFunc := { np := 2, res := [.t 4], frz := true, body := (.seq (.reg [(oA 4 (.mv (.k (.v (.c (.p (.bool false)))))))] []) (.seq (.reg [(oA 5 (.mv (.t 0))), (oA 6 (.mv (.t 1))), (oA 7 (.call (.k (.v (.c (.func 131 [])))) [(.t 5), (.t 6)])), (oA 8 (.bin .geq 0 (.t 7) (.k (.v (.c (.p (.int .i64 0))))))), (oA 4 (.mv (.t 8)))] []) .ret)) }
theorem t139 : compF Tryd.prog (globs2 tabs opq) (fun _ => false) true Tryd.f139 = some c139.erase := by kernel_rfl
noncomputable def b139_0 (O : Oracle) (R : Jump) (q : Nat) (x0 x1 : TVal) (h : Heap) : Res1 :=
 vcall O (.v (.c (.func 131 []))) [x0, x1] h 7 fun x7 h =>
 vbin .geq 0 x7 (kI 0) h fun x8 h =>
 tcomp x8 fun c0 => vfin true q [c0] h
theorem e139_0 (O : Oracle) (R : Jump) (q : Nat) (x0 x1 : TVal) (h : Heap) : b139_0 O R q x0 x1 h = stepF c139 O R q 0 [x0, x1] h := by kernel_rfl
noncomputable def d139 : BlkF := fun O R q => [.s fun y0 => .s fun y1 => .z fun h => b139_0 O R q y0 y1 h]
theorem o139 (O : Oracle) (R : Jump) (q : Nat) : HoldsAll c139 O R q 0 (d139 O R q) := ⟨fun y0 y1 h => e139_0 O R q y0 y1 h, trivial⟩
/- sprue/sprueref4.Def -/
def c162 : MFunc := { np := 2, res := [.cell 4 true 4, .t 5], frz := true, body := (.seq (.reg [(oA 2 (.box (.t 0) false)), (oA 4 (.alloc [(.p (.int .i64 0)), (.p (.str [])), (.p .nilslice), (.p .nilslice)] false)), (oA 5 (.mv (.k (.v (.c (.p (.bool false)))))))] []) (.seq (.seq (.reg [(oA 6 (.mv (.k (.v (.c (.p (.int .i64 0)))))))] []) (.block 0 (.loop 1 [1, 2, 4, 6] (.seq (.seq (.reg [(oA 7 (.mv (.t 6))), (oA 8 (.faddr 4 (.t 2))), (oA 9 (.load false 1 (.t 8))), (oA 10 (.len 2 (.t 9))), (oA 11 (.bin .lss 0 (.t 7) (.t 10)))] []) (.cond (.t 11) .skip (.exit 0))) (.seq (.block 1 (.seq (.reg [(oA 14 (.faddr 4 (.t 2))), (oA 15 (.load false 1 (.t 14))), (oA 16 (.mv (.t 6))), (oA 17 (.iaddr 5 (.t 15) (.t 16))), (oA 18 (.faddr 0 (.t 17))), (oA 19 (.load false 1 (.t 18))), (oA 20 (.mv (.t 1))), (oA 21 (.bin .eql 0 (.t 19) (.t 20)))] []) (.cond (.t 21) (.seq (.reg [(oA 22 (.faddr 4 (.t 2))), (oA 23 (.load false 1 (.t 22))), (oA 24 (.mv (.t 6))), (oA 25 (.iaddr 5 (.t 23) (.t 24))), (oA 26 (.faddr 1 (.t 25))), (oA 27 (.load true 4 (.t 26))), (oN (.store 4 (.t 4) (.t 27))), (oA 5 (.mv (.k (.v (.c (.p (.bool true)))))))] []) .ret) .skip))) (.reg [(oA 12 (.mv (.t 6))), (oA 13 (.bin .add 0 (.t 12) (.k (.v (.c (.p (.int .i64 1))))))), (oA 6 (.mv (.t 13)))] [])))))) (.mark 2 [4] (.seq (.reg [(oA 28 (.build [(.p (.int .i64 0)), (.p (.str [])), (.p .nilslice), (.p .nilslice)] [])), (oN (.store 4 (.t 4) (.t 28))), (oA 5 (.mv (.k (.v (.c (.p (.bool false)))))))] []) .ret)))) }
theorem t162 : compF Tryd.prog (globs2 tabs opq) (fun _ => false) true Tryd.f162 = some c162.erase := by kernel_rfl
noncomputable def b162_0 (O : Oracle) (R : Jump) (q : Nat) (x0 x1 : TVal) (h : Heap) : Res1 :=
 vop O (.box (.k x0) false) h 2 fun x2 h =>
 vop O (.alloc [(.p (.int .i64 0)), (.p (.str [])), (.p .nilslice), (.p .nilslice)] false) h 4 fun x4 h =>
 R 1 [x1, x2, x4, (kI 0)] h
theorem e162_0 (O : Oracle) (R : Jump) (q : Nat) (x0 x1 : TVal) (h : Heap) : b162_0 O R q x0 x1 h = stepF c162 O R q 0 [x0, x1] h := by kernel_rfl
noncomputable def b162_1 (O : Oracle) (R : Jump) (q : Nat) (x1 x2 x4 x6 : TVal) (h : Heap) : Res1 :=
 vfaddr 4 x2 h fun x8 h =>
 vload false 1 x8 h fun x9 h =>
 vlen O 2 x9 h 10 fun x10 h =>
 vbin .lss 0 x6 x10 h fun x11 h =>
 vif x11 (
 vfaddr 4 x2 h fun x14 h =>
 vload false 1 x14 h fun x15 h =>
 viaddr 5 x15 x6 h fun x17 h =>
 vfaddr 0 x17 h fun x18 h =>
 vload false 1 x18 h fun x19 h =>
 vbin .eql 0 x19 x1 h fun x21 h =>
 vif x21 (
 vfaddr 4 x2 h fun x22 h =>
 vload false 1 x22 h fun x23 h =>
 viaddr 5 x23 x6 h fun x25 h =>
 vfaddr 1 x25 h fun x26 h =>
 vload true 4 x26 h fun x27 h =>
 vstore 4 x4 x27 h fun _ h =>
 vcell true 4 x4 h fun c0 => tcomp (kB true) fun c1 => vfin true q [c0, c1] h)
 (vbin .add 0 x6 (kI 1) h fun x13 h =>
 R 1 [x1, x2, x4, x13] h))
 (R 2 [x4] h)
theorem e162_1 (O : Oracle) (R : Jump) (q : Nat) (x1 x2 x4 x6 : TVal) (h : Heap) : b162_1 O R q x1 x2 x4 x6 h = stepF c162 O R q 1 [x1, x2, x4, x6] h := by kernel_rfl
noncomputable def b162_2 (O : Oracle) (R : Jump) (q : Nat) (x4 : TVal) (h : Heap) : Res1 :=
 vop O (.build [(.p (.int .i64 0)), (.p (.str [])), (.p .nilslice), (.p .nilslice)] []) h 28 fun x28 h =>
 vstore 4 x4 x28 h fun _ h =>
 vcell true 4 x4 h fun c0 => tcomp (kB false) fun c1 => vfin true q [c0, c1] h
theorem e162_2 (O : Oracle) (R : Jump) (q : Nat) (x4 : TVal) (h : Heap) : b162_2 O R q x4 h = stepF c162 O R q 2 [x4] h := by kernel_rfl
noncomputable def d162 : BlkF := fun O R q => [.s fun y0 => .s fun y1 => .z fun h => b162_0 O R q y0 y1 h, .s fun y0 => .s fun y1 => .s fun y2 => .s fun y3 => .z fun h => b162_1 O R q y0 y1 y2 y3 h, .s fun y0 => .z fun h => b162_2 O R q y0 h]
theorem o162 (O : Oracle) (R : Jump) (q : Nat) : HoldsAll c162 O R q 0 (d162 O R q) := ⟨fun y0 y1 h => e162_0 O R q y0 y1 h, fun y0 y1 y2 y3 h => e162_1 O R q y0 y1 y2 y3 h, fun y0 h => e162_2 O R q y0 h, trivial⟩
/- sprue/sprueref4.in -/
def c163 : MFunc := { np := 2, res := [.t 4], frz := true, body := (.seq (.reg [(oA 4 (.mv (.k (.v (.c (.p (.bool false)))))))] []) (.seq (.seq (.reg [(oA 5 (.mv (.k (.v (.c (.p (.int .i64 0)))))))] []) (.block 0 (.loop 1 [0, 1, 5] (.seq (.seq (.reg [(oA 6 (.mv (.t 5))), (oA 7 (.mv (.t 0))), (oA 8 (.len 2 (.t 7))), (oA 9 (.bin .lss 0 (.t 6) (.t 8)))] []) (.cond (.t 9) .skip (.exit 0))) (.seq (.block 1 (.seq (.reg [(oA 12 (.mv (.t 0))), (oA 13 (.mv (.t 5))), (oA 14 (.iaddr 1 (.t 12) (.t 13))), (oA 15 (.load false 1 (.t 14))), (oA 16 (.mv (.t 1))), (oA 17 (.bin .eql 0 (.t 15) (.t 16)))] []) (.cond (.t 17) (.seq (.reg [(oA 4 (.mv (.k (.v (.c (.p (.bool true)))))))] []) .ret) .skip))) (.reg [(oA 10 (.mv (.t 5))), (oA 11 (.bin .add 0 (.t 10) (.k (.v (.c (.p (.int .i64 1))))))), (oA 5 (.mv (.t 11)))] [])))))) (.seq (.reg [(oA 4 (.mv (.k (.v (.c (.p (.bool false)))))))] []) .ret))) }
theorem t163 : compF Tryd.prog (globs2 tabs opq) (fun _ => false) true Tryd.f163 = some c163.erase := by kernel_rfl
noncomputable def b163_0 (O : Oracle) (R : Jump) (q : Nat) (x0 x1 : TVal) (h : Heap) : Res1 :=
 R 1 [x0, x1, (kI 0)] h
theorem e163_0 (O : Oracle) (R : Jump) (q : Nat) (x0 x1 : TVal) (h : Heap) : b163_0 O R q x0 x1 h = stepF c163 O R q 0 [x0, x1] h := by kernel_rfl
noncomputable def b163_1 (O : Oracle) (R : Jump) (q : Nat) (x0 x1 x5 : TVal) (h : Heap) : Res1 :=
 vlen O 2 x0 h 8 fun x8 h =>
 vbin .lss 0 x5 x8 h fun x9 h =>
 vif x9 (
 viaddr 1 x0 x5 h fun x14 h =>
 vload false 1 x14 h fun x15 h =>
 vbin .eql 0 x15 x1 h fun x17 h =>
 vif x17 (
 tcomp (kB true) fun c0 => vfin true q [c0] h)
 (vbin .add 0 x5 (kI 1) h fun x11 h =>
 R 1 [x0, x1, x11] h))
 (tcomp (kB false) fun c0 => vfin true q [c0] h)
theorem e163_1 (O : Oracle) (R : Jump) (q : Nat) (x0 x1 x5 : TVal) (h : Heap) : b163_1 O R q x0 x1 x5 h = stepF c163 O R q 1 [x0, x1, x5] h := by kernel_rfl
noncomputable def d163 : BlkF := fun O R q => [.s fun y0 => .s fun y1 => .z fun h => b163_0 O R q y0 y1 h, .s fun y0 => .s fun y1 => .s fun y2 => .z fun h => b163_1 O R q y0 y1 y2 h]
theorem o163 (O : Oracle) (R : Jump) (q : Nat) : HoldsAll c163 O R q 0 (d163 O R q) := ⟨fun y0 y1 h => e163_0 O R q y0 y1 h, fun y0 y1 y2 h => e163_1 O R q y0 y1 y2 h, trivial⟩
/- internal/strconv.Itoa -/
def c164 : MFunc := { np := 1, res := [.t 2], frz := true, body := (.seq (.reg [(oA 2 (.mv (.k (.v (.c (.p (.str [])))))))] []) (.seq (.reg [(oA 3 (.mv (.t 0))), (oA 4 (.call (.k (.v (.c (.func 178 [])))) [(.t 3), (.k (.v (.c (.p (.int .i64 10)))))])), (oA 2 (.mv (.t 4)))] []) .ret)) }
theorem t164 : compF Tryd.prog (globs2 tabs opq) (fun _ => false) true Tryd.f164 = some c164.erase := by kernel_rfl
noncomputable def b164_0 (O : Oracle) (R : Jump) (q : Nat) (x0 : TVal) (h : Heap) : Res1 :=
 vcall O (.v (.c (.func 178 []))) [x0, (kI 10)] h 4 fun x4 h =>
 tcomp x4 fun c0 => vfin true q [c0] h
theorem e164_0 (O : Oracle) (R : Jump) (q : Nat) (x0 : TVal) (h : Heap) : b164_0 O R q x0 h = stepF c164 O R q 0 [x0] h := by kernel_rfl
noncomputable def d164 : BlkF := fun O R q => [.s fun y0 => .z fun h => b164_0 O R q y0 h]
theorem o164 (O : Oracle) (R : Jump) (q : Nat) : HoldsAll c164 O R q 0 (d164 O R q) := ⟨fun y0 h => e164_0 O R q y0 h, trivial⟩
end Go.Proofs.YtlkejchbcchecaaDoor.Ab
