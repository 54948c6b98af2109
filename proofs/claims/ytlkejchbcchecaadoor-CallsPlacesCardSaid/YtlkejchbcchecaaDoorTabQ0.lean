/- Functions of the given program as the abstract interpreter has them (part 0), printed by a program of our own; each is shown to be what 'compF' makes of the given program's. No condition. -/
import Derived.Test.YtlkejchbcchecaaDoorChecked
import Derived.Test.YtlkejchbcchecaaDoorAd
namespace Go.Proofs.YtlkejchbcchecaaDoor.Ab
open Go Go.AI
set_option linter.all false
set_option linter.unusedVariables false
set_option maxRecDepth 100000
def tabs : List Tabl := []
def opq : Option Nat := some 0
/- sprue/spruelaw15.CallsPlaces -/
def c9 : MFunc := { np := 3, res := [.t 6], frz := true, body := (.seq (.reg [(oA 3 (.box (.t 0) false)), (oA 6 (.mv (.k (.v (.c (.p (.bool false)))))))] []) (.seq (.seq (.reg [(oA 20 (.call (.k (.v (.c (.func 36 [])))) [])), (oA 21 (.un .not (.t 20)))] []) (.cond (.t 21) (.seq (.reg [(oA 6 (.mv (.k (.v (.c (.p (.bool false)))))))] []) .ret) .skip)) (.seq (.seq (.reg [(oA 22 (.load true 5 (.t 3))), (oA 23 (.call (.k (.v (.c (.func 29 [])))) [(.t 22), (.k (.v (.c (.p (.int .i64 40)))))])), (oA 24 (.bin .eql 0 (.t 23) (.k (.v (.c (.p (.int .i64 0)))))))] []) (.cond (.t 24) (.seq (.reg [(oA 6 (.mv (.k (.v (.c (.p (.bool true)))))))] []) .ret) .skip)) (.seq (.reg [(oA 25 (.load true 5 (.t 3))), (oA 26 (.call (.k (.v (.c (.func 31 [])))) [(.t 25), (.k (.v (.c (.p (.int .i64 4)))))])), (oA 7 (.alloc [(.p (.int .i64 0)), (.p (.bool false)), (.p (.int .i64 0)), (.p (.str [])), (.p .nilslice), (.p .nilslice)] false)), (oN (.store 6 (.t 7) (.t 26)))] []) (.seq (.reg [(oA 27 (.mv (.t 1))), (oA 28 (.build [(.p (.int .i64 0)), (.p (.bool false)), (.p (.int .i64 0)), (.p (.str [])), (.p .nilslice), (.p .nilslice)] [(0, 1, (.k (.v (.c (.p (.int .i64 2)))))), (2, 1, (.t 27))])), (oA 8 (.alloc [(.p (.int .i64 0)), (.p (.bool false)), (.p (.int .i64 0)), (.p (.str [])), (.p .nilslice), (.p .nilslice)] false)), (oN (.store 6 (.t 8) (.t 28)))] []) (.seq (.reg [(oA 29 (.bslice 1 4 [(.p (.str []))] [(0, (.k (.v (.c (.p (.str [97])))))), (1, (.k (.v (.c (.p (.str [98])))))), (2, (.k (.v (.c (.p (.str [99])))))), (3, (.k (.v (.c (.p (.str [122, 122]))))))] false)), (oA 30 (.mv (.t 2))), (oA 31 (.call (.k (.v (.c (.func 37 [])))) [(.t 30), (.k (.v (.c (.p (.int .i64 4)))))])), (oA 32 (.iaddr 1 (.t 29) (.t 31))), (oA 33 (.load false 1 (.t 32))), (oA 34 (.build [(.p (.int .i64 0)), (.p (.bool false)), (.p (.int .i64 0)), (.p (.str [])), (.p .nilslice), (.p .nilslice)] [(0, 1, (.k (.v (.c (.p (.int .i64 3)))))), (3, 1, (.t 33))])), (oA 9 (.alloc [(.p (.int .i64 0)), (.p (.bool false)), (.p (.int .i64 0)), (.p (.str [])), (.p .nilslice), (.p .nilslice)] false)), (oN (.store 6 (.t 9) (.t 34)))] []) (.seq (.reg [(oA 36 (.load true 6 (.t 7))), (oA 37 (.load true 6 (.t 8))), (oA 38 (.bslice 6 2 [(.p (.int .i64 0)), (.p (.bool false)), (.p (.int .i64 0)), (.p (.str [])), (.p .nilslice), (.p .nilslice)] [(0, (.t 36)), (1, (.t 37))] false)), (oA 39 (.call (.k (.v (.c (.func 38 [])))) [(.k (.v (.c (.p (.str [97, 116]))))), (.t 38)])), (oA 35 (.mv (.t 39))), (oA 40 (.extract (.t 35) 0)), (oA 41 (.extract (.t 35) 1)), (oA 10 (.alloc [(.p (.int .i64 0)), (.p (.bool false)), (.p (.int .i64 0)), (.p (.str [])), (.p .nilslice), (.p .nilslice)] false)), (oN (.store 6 (.t 10) (.t 40))), (oA 11 (.mv (.t 41)))] []) (.seq (.reg [(oA 43 (.load true 6 (.t 7))), (oA 44 (.load true 6 (.t 9))), (oA 45 (.bslice 6 2 [(.p (.int .i64 0)), (.p (.bool false)), (.p (.int .i64 0)), (.p (.str [])), (.p .nilslice), (.p .nilslice)] [(0, (.t 43)), (1, (.t 44))] false)), (oA 46 (.call (.k (.v (.c (.func 38 [])))) [(.k (.v (.c (.p (.str [103, 101, 116]))))), (.t 45)])), (oA 42 (.mv (.t 46))), (oA 47 (.extract (.t 42) 0)), (oA 48 (.extract (.t 42) 1)), (oA 12 (.alloc [(.p (.int .i64 0)), (.p (.bool false)), (.p (.int .i64 0)), (.p (.str [])), (.p .nilslice), (.p .nilslice)] false)), (oN (.store 6 (.t 12) (.t 47))), (oA 13 (.mv (.t 48)))] []) (.seq (.reg [(oA 50 (.load true 6 (.t 12))), (oA 51 (.bslice 6 1 [(.p (.int .i64 0)), (.p (.bool false)), (.p (.int .i64 0)), (.p (.str [])), (.p .nilslice), (.p .nilslice)] [(0, (.t 50))] false)), (oA 52 (.call (.k (.v (.c (.func 38 [])))) [(.k (.v (.c (.p (.str [104, 97, 115]))))), (.t 51)])), (oA 49 (.mv (.t 52))), (oA 53 (.extract (.t 49) 0)), (oA 54 (.extract (.t 49) 1)), (oA 14 (.alloc [(.p (.int .i64 0)), (.p (.bool false)), (.p (.int .i64 0)), (.p (.str [])), (.p .nilslice), (.p .nilslice)] false)), (oN (.store 6 (.t 14) (.t 53))), (oA 15 (.mv (.t 54)))] []) (.seq (.reg [(oA 56 (.load true 6 (.t 12))), (oA 57 (.load true 6 (.t 8))), (oA 58 (.bslice 6 2 [(.p (.int .i64 0)), (.p (.bool false)), (.p (.int .i64 0)), (.p (.str [])), (.p .nilslice), (.p .nilslice)] [(0, (.t 56)), (1, (.t 57))] false)), (oA 59 (.call (.k (.v (.c (.func 38 [])))) [(.k (.v (.c (.p (.str [111, 114, 101, 108, 115, 101]))))), (.t 58)])), (oA 55 (.mv (.t 59))), (oA 60 (.extract (.t 55) 0)), (oA 61 (.extract (.t 55) 1)), (oA 16 (.alloc [(.p (.int .i64 0)), (.p (.bool false)), (.p (.int .i64 0)), (.p (.str [])), (.p .nilslice), (.p .nilslice)] false)), (oN (.store 6 (.t 16) (.t 60))), (oA 17 (.mv (.t 61)))] []) (.seq (.seq (.reg [(oA 62 (.faddr 0 (.t 7))), (oA 63 (.load false 1 (.t 62))), (oA 64 (.bin .neq 0 (.t 63) (.k (.v (.c (.p (.int .i64 5))))))), (oA 65 (.mv (.t 13))), (oA 66 (.bin .eql 0 (.t 65) (.k (.v (.c (.p (.int .i64 17))))))), (oA 67 (.bin .neq 5 (.t 64) (.t 66))), (oA 68 (.mv (.t 67))), ⟨(some 69), (.faddr 0 (.t 7)), (some (68, false))⟩, ⟨(some 70), (.load false 1 (.t 69)), (some (68, false))⟩, ⟨(some 71), (.bin .neq 0 (.t 70) (.k (.v (.c (.p (.int .i64 4)))))), (some (68, false))⟩, ⟨(some 72), (.mv (.t 11)), (some (68, false))⟩, ⟨(some 73), (.bin .eql 0 (.t 72) (.k (.v (.c (.p (.int .i64 17)))))), (some (68, false))⟩, ⟨(some 74), (.bin .neq 5 (.t 71) (.t 73)), (some (68, false))⟩, (oA 75 (.pick (.t 68) (.k (.v (.c (.p (.bool true))))) (.t 74))), (oA 76 (.mv (.t 75))), ⟨(some 77), (.mv (.t 15)), (some (76, false))⟩, ⟨(some 78), (.bin .neq 0 (.t 77) (.k (.v (.c (.p (.int .i64 0)))))), (some (76, false))⟩, (oA 79 (.pick (.t 76) (.k (.v (.c (.p (.bool true))))) (.t 78))), (oA 80 (.mv (.t 79))), ⟨(some 81), (.mv (.t 17)), (some (80, false))⟩, ⟨(some 82), (.bin .neq 0 (.t 81) (.k (.v (.c (.p (.int .i64 0)))))), (some (80, false))⟩, (oA 83 (.pick (.t 80) (.k (.v (.c (.p (.bool true))))) (.t 82)))] []) (.cond (.t 83) (.seq (.reg [(oA 6 (.mv (.k (.v (.c (.p (.bool false)))))))] []) .ret) .skip)) (.seq (.seq (.reg [(oA 84 (.faddr 0 (.t 7))), (oA 85 (.load false 1 (.t 84))), (oA 86 (.bin .eql 0 (.t 85) (.k (.v (.c (.p (.int .i64 4)))))))] []) (.cond (.t 86) (.seq (.seq (.reg [(oA 87 (.mv (.t 1))), (oA 88 (.bin .lss 0 (.t 87) (.k (.v (.c (.p (.int .i64 0))))))), (oA 89 (.mv (.t 88))), ⟨(some 90), (.mv (.t 1)), (some (89, false))⟩, ⟨(some 91), (.faddr 5 (.t 7)), (some (89, false))⟩, ⟨(some 92), (.load false 1 (.t 91)), (some (89, false))⟩, ⟨(some 93), (.len 2 (.t 92)), (some (89, false))⟩, ⟨(some 94), (.bin .geq 0 (.t 90) (.t 93)), (some (89, false))⟩, (oA 95 (.pick (.t 89) (.k (.v (.c (.p (.bool true))))) (.t 94)))] []) (.cond (.t 95) (.seq (.reg [(oA 96 (.mv (.t 11))), (oA 97 (.bin .eql 0 (.t 96) (.k (.v (.c (.p (.int .i64 32))))))), (oA 6 (.mv (.t 97)))] []) .ret) .skip)) (.seq (.reg [(oA 98 (.mv (.t 11))), (oA 99 (.bin .eql 0 (.t 98) (.k (.v (.c (.p (.int .i64 0))))))), (oA 100 (.mv (.t 99))), ⟨(some 101), (.load true 6 (.t 10)), (some (100, true))⟩, ⟨(some 102), (.faddr 5 (.t 7)), (some (100, true))⟩, ⟨(some 103), (.load false 1 (.t 102)), (some (100, true))⟩, ⟨(some 104), (.mv (.t 1)), (some (100, true))⟩, ⟨(some 105), (.iaddr 6 (.t 103) (.t 104)), (some (100, true))⟩, ⟨(some 106), (.load true 6 (.t 105)), (some (100, true))⟩, ⟨(some 107), (.call (.k (.v (.c (.func 24 [])))) [(.t 101), (.t 106)]), (some (100, true))⟩, (oA 108 (.pick (.t 100) (.t 107) (.k (.v (.c (.p (.bool false))))))), (oA 6 (.mv (.t 108)))] []) .ret)) .skip)) (.seq (.reg [(oA 110 (.load true 6 (.t 7))), (oA 111 (.faddr 3 (.t 9))), (oA 112 (.load false 1 (.t 111))), (oA 113 (.call (.k (.v (.c (.func 39 [])))) [(.t 110), (.t 112)])), (oA 109 (.mv (.t 113))), (oA 114 (.extract (.t 109) 0)), (oA 115 (.extract (.t 109) 1)), (oA 18 (.alloc [(.p (.int .i64 0)), (.p (.bool false)), (.p (.int .i64 0)), (.p (.str [])), (.p .nilslice), (.p .nilslice)] false)), (oN (.store 6 (.t 18) (.t 114))), (oA 19 (.mv (.t 115)))] []) (.seq (.seq (.reg [(oA 116 (.faddr 0 (.t 7))), (oA 117 (.load false 1 (.t 116))), (oA 118 (.bin .eql 0 (.t 117) (.k (.v (.c (.p (.int .i64 5))))))), (oA 119 (.mv (.t 118))), ⟨(some 120), (.mv (.t 13)), (some (119, true))⟩, ⟨(some 121), (.bin .neq 0 (.t 120) (.k (.v (.c (.p (.int .i64 0)))))), (some (119, true))⟩, ⟨(some 122), (.mv (.t 121)), (some (119, true))⟩, ⟨(some 123), (.load true 6 (.t 12)), (some (122, false))⟩, ⟨(some 124), (.load true 6 (.t 18)), (some (122, false))⟩, ⟨(some 125), (.call (.k (.v (.c (.func 24 [])))) [(.t 123), (.t 124)]), (some (122, false))⟩, ⟨(some 126), (.un .not (.t 125)), (some (122, false))⟩, ⟨(some 127), (.pick (.t 122) (.k (.v (.c (.p (.bool true))))) (.t 126)), (some (119, true))⟩, ⟨(some 128), (.mv (.t 127)), (some (119, true))⟩, ⟨(some 129), (.mv (.t 19)), (some (128, false))⟩, ⟨(some 130), (.un .not (.t 129)), (some (128, false))⟩, ⟨(some 131), (.mv (.t 130)), (some (128, false))⟩, ⟨(some 132), (.faddr 0 (.t 12)), (some (131, true))⟩, ⟨(some 133), (.load false 1 (.t 132)), (some (131, true))⟩, ⟨(some 134), (.bin .neq 0 (.t 133) (.k (.v (.c (.p (.int .i64 0)))))), (some (131, true))⟩, ⟨(some 135), (.pick (.t 131) (.t 134) (.k (.v (.c (.p (.bool false)))))), (some (128, false))⟩, ⟨(some 136), (.pick (.t 128) (.k (.v (.c (.p (.bool true))))) (.t 135)), (some (119, true))⟩, (oA 137 (.pick (.t 119) (.t 136) (.k (.v (.c (.p (.bool false)))))))] []) (.cond (.t 137) (.seq (.reg [(oA 6 (.mv (.k (.v (.c (.p (.bool false)))))))] []) .ret) .skip)) (.seq (.reg [(oA 138 (.faddr 1 (.t 14))), (oA 139 (.load false 1 (.t 138))), (oA 140 (.faddr 0 (.t 12))), (oA 141 (.load false 1 (.t 140))), (oA 142 (.bin .neq 0 (.t 141) (.k (.v (.c (.p (.int .i64 0))))))), (oA 143 (.bin .eql 5 (.t 139) (.t 142))), (oA 144 (.mv (.t 143))), ⟨(some 145), (.faddr 0 (.t 12)), (some (144, true))⟩, ⟨(some 146), (.load false 1 (.t 145)), (some (144, true))⟩, ⟨(some 147), (.bin .eql 0 (.t 146) (.k (.v (.c (.p (.int .i64 0)))))), (some (144, true))⟩, ⟨(some 148), (.mv (.t 147)), (some (144, true))⟩, ⟨(some 149), (.load true 6 (.t 16)), (some (148, true))⟩, ⟨(some 150), (.load true 6 (.t 8)), (some (148, true))⟩, ⟨(some 151), (.call (.k (.v (.c (.func 24 [])))) [(.t 149), (.t 150)]), (some (148, true))⟩, ⟨(some 152), (.pick (.t 148) (.t 151) (.k (.v (.c (.p (.bool false)))))), (some (144, true))⟩, ⟨(some 153), (.mv (.t 152)), (some (144, true))⟩, ⟨(some 154), (.faddr 0 (.t 12)), (some (153, false))⟩, ⟨(some 155), (.load false 1 (.t 154)), (some (153, false))⟩, ⟨(some 156), (.bin .neq 0 (.t 155) (.k (.v (.c (.p (.int .i64 0)))))), (some (153, false))⟩, ⟨(some 157), (.mv (.t 156)), (some (153, false))⟩, ⟨(some 158), (.load true 6 (.t 16)), (some (157, true))⟩, ⟨(some 159), (.load true 6 (.t 12)), (some (157, true))⟩, ⟨(some 160), (.call (.k (.v (.c (.func 24 [])))) [(.t 158), (.t 159)]), (some (157, true))⟩, ⟨(some 161), (.pick (.t 157) (.t 160) (.k (.v (.c (.p (.bool false)))))), (some (153, false))⟩, ⟨(some 162), (.pick (.t 153) (.k (.v (.c (.p (.bool true))))) (.t 161)), (some (144, true))⟩, (oA 163 (.pick (.t 144) (.t 162) (.k (.v (.c (.p (.bool false))))))), (oA 6 (.mv (.t 163)))] []) .ret))))))))))))))) }
theorem t9 : compF Tryd.prog (globs2 tabs opq) (fun _ => false) true Tryd.f9 = some c9.erase := by kernel_rfl
noncomputable def b9_0k5 (O : Oracle) (R : Jump) (q : Nat) (x8 x12 x14 x16 : TVal) (h : Heap) : Res1 :=
 vfaddr 1 x14 h fun x138 h =>
 vload false 1 x138 h fun x139 h =>
 vfaddr 0 x12 h fun x140 h =>
 vload false 1 x140 h fun x141 h =>
 vbin .neq 0 x141 (kI 0) h fun x142 h =>
 vbin .eql 5 x139 x142 h fun x143 h =>
 vguard x143 true (fun kk => vfaddr 0 x12 h kk) h fun x145 h =>
 vguard x143 true (fun kk => vload false 1 x145 h kk) h fun x146 h =>
 vguard x143 true (fun kk => vbin .eql 0 x146 (kI 0) h kk) h fun x147 h =>
 vguard x143 true (fun kk => kk x147 h) h fun x148 h =>
 vguard x148 true (fun kk => vload true 6 x16 h kk) h fun x149 h =>
 vguard x148 true (fun kk => vload true 6 x8 h kk) h fun x150 h =>
 vguard x148 true (fun kk => vcall O (.v (.c (.func 24 []))) [x149, x150] h 151 kk) h fun x151 h =>
 vguard x143 true (fun kk => vop O (.pick (.k x148) (.k x151) (.k (kB false))) h 152 kk) h fun x152 h =>
 vguard x143 true (fun kk => kk x152 h) h fun x153 h =>
 vguard x153 false (fun kk => vfaddr 0 x12 h kk) h fun x154 h =>
 vguard x153 false (fun kk => vload false 1 x154 h kk) h fun x155 h =>
 vguard x153 false (fun kk => vbin .neq 0 x155 (kI 0) h kk) h fun x156 h =>
 vguard x153 false (fun kk => kk x156 h) h fun x157 h =>
 vguard x157 true (fun kk => vload true 6 x16 h kk) h fun x158 h =>
 vguard x157 true (fun kk => vload true 6 x12 h kk) h fun x159 h =>
 vguard x157 true (fun kk => vcall O (.v (.c (.func 24 []))) [x158, x159] h 160 kk) h fun x160 h =>
 vguard x153 false (fun kk => vop O (.pick (.k x157) (.k x160) (.k (kB false))) h 161 kk) h fun x161 h =>
 vguard x143 true (fun kk => vop O (.pick (.k x153) (.k (kB true)) (.k x161)) h 162 kk) h fun x162 h =>
 vop O (.pick (.k x143) (.k x162) (.k (kB false))) h 163 fun x163 h =>
 tcomp x163 fun c0 => vfin true q [c0] h
noncomputable def b9_0k4 (O : Oracle) (R : Jump) (q : Nat) (x7 x8 x9 x12 x14 x16 x48 : TVal) (h : Heap) : Res1 :=
 vload true 6 x7 h fun x110 h =>
 vfaddr 3 x9 h fun x111 h =>
 vload false 1 x111 h fun x112 h =>
 vcall O (.v (.c (.func 39 []))) [x110, x112] h 113 fun x113 h =>
 vext x113 0 h fun x114 h =>
 vext x113 1 h fun x115 h =>
 vop O (.alloc [(.p (.int .i64 0)), (.p (.bool false)), (.p (.int .i64 0)), (.p (.str [])), (.p .nilslice), (.p .nilslice)] false) h 18 fun x18 h =>
 vstore 6 x18 x114 h fun _ h =>
 vfaddr 0 x7 h fun x116 h =>
 vload false 1 x116 h fun x117 h =>
 vbin .eql 0 x117 (kI 5) h fun x118 h =>
 vguard x118 true (fun kk => kk x48 h) h fun x120 h =>
 vguard x118 true (fun kk => vbin .neq 0 x120 (kI 0) h kk) h fun x121 h =>
 vguard x118 true (fun kk => kk x121 h) h fun x122 h =>
 vguard x122 false (fun kk => vload true 6 x12 h kk) h fun x123 h =>
 vguard x122 false (fun kk => vload true 6 x18 h kk) h fun x124 h =>
 vguard x122 false (fun kk => vcall O (.v (.c (.func 24 []))) [x123, x124] h 125 kk) h fun x125 h =>
 vguard x122 false (fun kk => vop O (.un .not (.k x125)) h 126 kk) h fun x126 h =>
 vguard x118 true (fun kk => vop O (.pick (.k x122) (.k (kB true)) (.k x126)) h 127 kk) h fun x127 h =>
 vguard x118 true (fun kk => kk x127 h) h fun x128 h =>
 vguard x128 false (fun kk => kk x115 h) h fun x129 h =>
 vguard x128 false (fun kk => vop O (.un .not (.k x129)) h 130 kk) h fun x130 h =>
 vguard x128 false (fun kk => kk x130 h) h fun x131 h =>
 vguard x131 true (fun kk => vfaddr 0 x12 h kk) h fun x132 h =>
 vguard x131 true (fun kk => vload false 1 x132 h kk) h fun x133 h =>
 vguard x131 true (fun kk => vbin .neq 0 x133 (kI 0) h kk) h fun x134 h =>
 vguard x128 false (fun kk => vop O (.pick (.k x131) (.k x134) (.k (kB false))) h 135 kk) h fun x135 h =>
 vguard x118 true (fun kk => vop O (.pick (.k x128) (.k (kB true)) (.k x135)) h 136 kk) h fun x136 h =>
 vop O (.pick (.k x118) (.k x136) (.k (kB false))) h 137 fun x137 h =>
 vif x137 (
 tcomp (kB false) fun c0 => vfin true q [c0] h)
 ((b9_0k5 O R q x8 x12 x14 x16 h))
noncomputable def b9_0k3 (O : Oracle) (R : Jump) (q : Nat) (x1 x7 x8 x9 x10 x12 x14 x16 x41 x48 : TVal) (h : Heap) : Res1 :=
 vfaddr 0 x7 h fun x84 h =>
 vload false 1 x84 h fun x85 h =>
 vbin .eql 0 x85 (kI 4) h fun x86 h =>
 vif x86 (
 vbin .lss 0 x1 (kI 0) h fun x88 h =>
 vguard x88 false (fun kk => kk x1 h) h fun x90 h =>
 vguard x88 false (fun kk => vfaddr 5 x7 h kk) h fun x91 h =>
 vguard x88 false (fun kk => vload false 1 x91 h kk) h fun x92 h =>
 vguard x88 false (fun kk => vlen O 2 x92 h 93 kk) h fun x93 h =>
 vguard x88 false (fun kk => vbin .geq 0 x90 x93 h kk) h fun x94 h =>
 vop O (.pick (.k x88) (.k (kB true)) (.k x94)) h 95 fun x95 h =>
 vif x95 (
 vbin .eql 0 x41 (kI 32) h fun x97 h =>
 tcomp x97 fun c0 => vfin true q [c0] h)
 (vbin .eql 0 x41 (kI 0) h fun x99 h =>
 vguard x99 true (fun kk => vload true 6 x10 h kk) h fun x101 h =>
 vguard x99 true (fun kk => vfaddr 5 x7 h kk) h fun x102 h =>
 vguard x99 true (fun kk => vload false 1 x102 h kk) h fun x103 h =>
 vguard x99 true (fun kk => kk x1 h) h fun x104 h =>
 vguard x99 true (fun kk => viaddr 6 x103 x104 h kk) h fun x105 h =>
 vguard x99 true (fun kk => vload true 6 x105 h kk) h fun x106 h =>
 vguard x99 true (fun kk => vcall O (.v (.c (.func 24 []))) [x101, x106] h 107 kk) h fun x107 h =>
 vop O (.pick (.k x99) (.k x107) (.k (kB false))) h 108 fun x108 h =>
 tcomp x108 fun c0 => vfin true q [c0] h))
 ((b9_0k4 O R q x7 x8 x9 x12 x14 x16 x48 h))
noncomputable def b9_0k6 (O : Oracle) (R : Jump) (q : Nat) (x1 x7 x8 x9 x10 x12 x14 x16 x41 x48 x54 x61 x67 : TVal) (h : Heap) : Res1 :=
 vguard x67 false (fun kk => vfaddr 0 x7 h kk) h fun x69 h =>
 vguard x67 false (fun kk => vload false 1 x69 h kk) h fun x70 h =>
 vguard x67 false (fun kk => vbin .neq 0 x70 (kI 4) h kk) h fun x71 h =>
 vguard x67 false (fun kk => kk x41 h) h fun x72 h =>
 vguard x67 false (fun kk => vbin .eql 0 x72 (kI 17) h kk) h fun x73 h =>
 vguard x67 false (fun kk => vbin .neq 5 x71 x73 h kk) h fun x74 h =>
 vop O (.pick (.k x67) (.k (kB true)) (.k x74)) h 75 fun x75 h =>
 vguard x75 false (fun kk => kk x54 h) h fun x77 h =>
 vguard x75 false (fun kk => vbin .neq 0 x77 (kI 0) h kk) h fun x78 h =>
 vop O (.pick (.k x75) (.k (kB true)) (.k x78)) h 79 fun x79 h =>
 vguard x79 false (fun kk => kk x61 h) h fun x81 h =>
 vguard x79 false (fun kk => vbin .neq 0 x81 (kI 0) h kk) h fun x82 h =>
 vop O (.pick (.k x79) (.k (kB true)) (.k x82)) h 83 fun x83 h =>
 vif x83 (
 tcomp (kB false) fun c0 => vfin true q [c0] h)
 ((b9_0k3 O R q x1 x7 x8 x9 x10 x12 x14 x16 x41 x48 h))
noncomputable def b9_0k2 (O : Oracle) (R : Jump) (q : Nat) (x1 x7 x8 x9 x10 x12 x41 x48 : TVal) (h : Heap) : Res1 :=
 vload true 6 x12 h fun x50 h =>
 vop O (.bslice 6 1 [(.p (.int .i64 0)), (.p (.bool false)), (.p (.int .i64 0)), (.p (.str [])), (.p .nilslice), (.p .nilslice)] [(0, (.k x50))] false) h 51 fun x51 h =>
 vcall O (.v (.c (.func 38 []))) [(kS [104, 97, 115]), x51] h 52 fun x52 h =>
 vext x52 0 h fun x53 h =>
 vext x52 1 h fun x54 h =>
 vop O (.alloc [(.p (.int .i64 0)), (.p (.bool false)), (.p (.int .i64 0)), (.p (.str [])), (.p .nilslice), (.p .nilslice)] false) h 14 fun x14 h =>
 vstore 6 x14 x53 h fun _ h =>
 vload true 6 x12 h fun x56 h =>
 vload true 6 x8 h fun x57 h =>
 vop O (.bslice 6 2 [(.p (.int .i64 0)), (.p (.bool false)), (.p (.int .i64 0)), (.p (.str [])), (.p .nilslice), (.p .nilslice)] [(0, (.k x56)), (1, (.k x57))] false) h 58 fun x58 h =>
 vcall O (.v (.c (.func 38 []))) [(kS [111, 114, 101, 108, 115, 101]), x58] h 59 fun x59 h =>
 vext x59 0 h fun x60 h =>
 vext x59 1 h fun x61 h =>
 vop O (.alloc [(.p (.int .i64 0)), (.p (.bool false)), (.p (.int .i64 0)), (.p (.str [])), (.p .nilslice), (.p .nilslice)] false) h 16 fun x16 h =>
 vstore 6 x16 x60 h fun _ h =>
 vfaddr 0 x7 h fun x62 h =>
 vload false 1 x62 h fun x63 h =>
 vbin .neq 0 x63 (kI 5) h fun x64 h =>
 vbin .eql 0 x48 (kI 17) h fun x66 h =>
 vbin .neq 5 x64 x66 h fun x67 h =>
 (b9_0k6 O R q x1 x7 x8 x9 x10 x12 x14 x16 x41 x48 x54 x61 x67 h)
noncomputable def b9_0k1 (O : Oracle) (R : Jump) (q : Nat) (x1 x7 x8 x32 : TVal) (h : Heap) : Res1 :=
 vload false 1 x32 h fun x33 h =>
 vop O (.build [(.p (.int .i64 0)), (.p (.bool false)), (.p (.int .i64 0)), (.p (.str [])), (.p .nilslice), (.p .nilslice)] [(0, 1, (.k (kI 3))), (3, 1, (.k x33))]) h 34 fun x34 h =>
 vop O (.alloc [(.p (.int .i64 0)), (.p (.bool false)), (.p (.int .i64 0)), (.p (.str [])), (.p .nilslice), (.p .nilslice)] false) h 9 fun x9 h =>
 vstore 6 x9 x34 h fun _ h =>
 vload true 6 x7 h fun x36 h =>
 vload true 6 x8 h fun x37 h =>
 vop O (.bslice 6 2 [(.p (.int .i64 0)), (.p (.bool false)), (.p (.int .i64 0)), (.p (.str [])), (.p .nilslice), (.p .nilslice)] [(0, (.k x36)), (1, (.k x37))] false) h 38 fun x38 h =>
 vcall O (.v (.c (.func 38 []))) [(kS [97, 116]), x38] h 39 fun x39 h =>
 vext x39 0 h fun x40 h =>
 vext x39 1 h fun x41 h =>
 vop O (.alloc [(.p (.int .i64 0)), (.p (.bool false)), (.p (.int .i64 0)), (.p (.str [])), (.p .nilslice), (.p .nilslice)] false) h 10 fun x10 h =>
 vstore 6 x10 x40 h fun _ h =>
 vload true 6 x7 h fun x43 h =>
 vload true 6 x9 h fun x44 h =>
 vop O (.bslice 6 2 [(.p (.int .i64 0)), (.p (.bool false)), (.p (.int .i64 0)), (.p (.str [])), (.p .nilslice), (.p .nilslice)] [(0, (.k x43)), (1, (.k x44))] false) h 45 fun x45 h =>
 vcall O (.v (.c (.func 38 []))) [(kS [103, 101, 116]), x45] h 46 fun x46 h =>
 vext x46 0 h fun x47 h =>
 vext x46 1 h fun x48 h =>
 vop O (.alloc [(.p (.int .i64 0)), (.p (.bool false)), (.p (.int .i64 0)), (.p (.str [])), (.p .nilslice), (.p .nilslice)] false) h 12 fun x12 h =>
 vstore 6 x12 x47 h fun _ h =>
 (b9_0k2 O R q x1 x7 x8 x9 x10 x12 x41 x48 h)
noncomputable def b9_0 (O : Oracle) (R : Jump) (q : Nat) (x0 x1 x2 : TVal) (h : Heap) : Res1 :=
 vop O (.box (.k x0) false) h 3 fun x3 h =>
 vcall O (.v (.c (.func 36 []))) [] h 20 fun x20 h =>
 vop O (.un .not (.k x20)) h 21 fun x21 h =>
 vif x21 (
 tcomp (kB false) fun c0 => vfin true q [c0] h)
 (vload true 5 x3 h fun x22 h =>
 vcall O (.v (.c (.func 29 []))) [x22, (kI 40)] h 23 fun x23 h =>
 vbin .eql 0 x23 (kI 0) h fun x24 h =>
 vif x24 (
 tcomp (kB true) fun c0 => vfin true q [c0] h)
 (vload true 5 x3 h fun x25 h =>
 vcall O (.v (.c (.func 31 []))) [x25, (kI 4)] h 26 fun x26 h =>
 vop O (.alloc [(.p (.int .i64 0)), (.p (.bool false)), (.p (.int .i64 0)), (.p (.str [])), (.p .nilslice), (.p .nilslice)] false) h 7 fun x7 h =>
 vstore 6 x7 x26 h fun _ h =>
 vop O (.build [(.p (.int .i64 0)), (.p (.bool false)), (.p (.int .i64 0)), (.p (.str [])), (.p .nilslice), (.p .nilslice)] [(0, 1, (.k (kI 2))), (2, 1, (.k x1))]) h 28 fun x28 h =>
 vop O (.alloc [(.p (.int .i64 0)), (.p (.bool false)), (.p (.int .i64 0)), (.p (.str [])), (.p .nilslice), (.p .nilslice)] false) h 8 fun x8 h =>
 vstore 6 x8 x28 h fun _ h =>
 vop O (.bslice 1 4 [(.p (.str []))] [(0, (.k (kS [97]))), (1, (.k (kS [98]))), (2, (.k (kS [99]))), (3, (.k (kS [122, 122])))] false) h 29 fun x29 h =>
 vcall O (.v (.c (.func 37 []))) [x2, (kI 4)] h 31 fun x31 h =>
 viaddr 1 x29 x31 h fun x32 h =>
 (b9_0k1 O R q x1 x7 x8 x32 h)))
theorem e9_0 (O : Oracle) (R : Jump) (q : Nat) (x0 x1 x2 : TVal) (h : Heap) : b9_0 O R q x0 x1 x2 h = stepF c9 O R q 0 [x0, x1, x2] h := by kernel_rfl
noncomputable def d9 : BlkF := fun O R q => [.s fun y0 => .s fun y1 => .s fun y2 => .z fun h => b9_0 O R q y0 y1 y2 h]
theorem o9 (O : Oracle) (R : Jump) (q : Nat) : HoldsAll c9 O R q 0 (d9 O R q) := ⟨fun y0 y1 y2 h => e9_0 O R q y0 y1 y2 h, trivial⟩
/- sprue/sprueref13.Same -/
def c24 : MFunc := { np := 2, res := [.t 4], frz := true, body := (.seq (.reg [(oA 2 (.box (.t 0) false)), (oA 3 (.box (.t 1) false)), (oA 4 (.mv (.k (.v (.c (.p (.bool false)))))))] []) (.seq (.seq (.reg [(oA 7 (.faddr 0 (.t 2))), (oA 8 (.load false 1 (.t 7))), (oA 9 (.faddr 0 (.t 3))), (oA 10 (.load false 1 (.t 9))), (oA 11 (.bin .neq 0 (.t 8) (.t 10))), (oA 12 (.mv (.t 11))), ⟨(some 13), (.faddr 1 (.t 2)), (some (12, false))⟩, ⟨(some 14), (.load false 1 (.t 13)), (some (12, false))⟩, ⟨(some 15), (.faddr 1 (.t 3)), (some (12, false))⟩, ⟨(some 16), (.load false 1 (.t 15)), (some (12, false))⟩, ⟨(some 17), (.bin .neq 5 (.t 14) (.t 16)), (some (12, false))⟩, (oA 18 (.pick (.t 12) (.k (.v (.c (.p (.bool true))))) (.t 17))), (oA 19 (.mv (.t 18))), ⟨(some 20), (.faddr 2 (.t 2)), (some (19, false))⟩, ⟨(some 21), (.load false 1 (.t 20)), (some (19, false))⟩, ⟨(some 22), (.faddr 2 (.t 3)), (some (19, false))⟩, ⟨(some 23), (.load false 1 (.t 22)), (some (19, false))⟩, ⟨(some 24), (.bin .neq 0 (.t 21) (.t 23)), (some (19, false))⟩, (oA 25 (.pick (.t 19) (.k (.v (.c (.p (.bool true))))) (.t 24))), (oA 26 (.mv (.t 25))), ⟨(some 27), (.faddr 3 (.t 2)), (some (26, false))⟩, ⟨(some 28), (.load false 1 (.t 27)), (some (26, false))⟩, ⟨(some 29), (.faddr 3 (.t 3)), (some (26, false))⟩, ⟨(some 30), (.load false 1 (.t 29)), (some (26, false))⟩, ⟨(some 31), (.bin .neq 0 (.t 28) (.t 30)), (some (26, false))⟩, (oA 32 (.pick (.t 26) (.k (.v (.c (.p (.bool true))))) (.t 31))), (oA 33 (.mv (.t 32))), ⟨(some 34), (.faddr 4 (.t 2)), (some (33, false))⟩, ⟨(some 35), (.load false 1 (.t 34)), (some (33, false))⟩, ⟨(some 36), (.len 2 (.t 35)), (some (33, false))⟩, ⟨(some 37), (.faddr 4 (.t 3)), (some (33, false))⟩, ⟨(some 38), (.load false 1 (.t 37)), (some (33, false))⟩, ⟨(some 39), (.len 2 (.t 38)), (some (33, false))⟩, ⟨(some 40), (.bin .neq 0 (.t 36) (.t 39)), (some (33, false))⟩, (oA 41 (.pick (.t 33) (.k (.v (.c (.p (.bool true))))) (.t 40))), (oA 42 (.mv (.t 41))), ⟨(some 43), (.faddr 5 (.t 2)), (some (42, false))⟩, ⟨(some 44), (.load false 1 (.t 43)), (some (42, false))⟩, ⟨(some 45), (.len 2 (.t 44)), (some (42, false))⟩, ⟨(some 46), (.faddr 5 (.t 3)), (some (42, false))⟩, ⟨(some 47), (.load false 1 (.t 46)), (some (42, false))⟩, ⟨(some 48), (.len 2 (.t 47)), (some (42, false))⟩, ⟨(some 49), (.bin .neq 0 (.t 45) (.t 48)), (some (42, false))⟩, (oA 50 (.pick (.t 42) (.k (.v (.c (.p (.bool true))))) (.t 49)))] []) (.cond (.t 50) (.seq (.reg [(oA 4 (.mv (.k (.v (.c (.p (.bool false)))))))] []) .ret) .skip)) (.seq (.seq (.reg [(oA 5 (.mv (.k (.v (.c (.p (.int .i64 0)))))))] []) (.block 0 (.loop 1 [2, 3, 5] (.seq (.seq (.reg [(oA 51 (.mv (.t 5))), (oA 52 (.faddr 4 (.t 2))), (oA 53 (.load false 1 (.t 52))), (oA 54 (.len 2 (.t 53))), (oA 55 (.bin .lss 0 (.t 51) (.t 54)))] []) (.cond (.t 55) .skip (.exit 0))) (.seq (.block 1 (.seq (.reg [(oA 58 (.faddr 4 (.t 2))), (oA 59 (.load false 1 (.t 58))), (oA 60 (.mv (.t 5))), (oA 61 (.iaddr 1 (.t 59) (.t 60))), (oA 62 (.load false 1 (.t 61))), (oA 63 (.faddr 4 (.t 3))), (oA 64 (.load false 1 (.t 63))), (oA 65 (.mv (.t 5))), (oA 66 (.iaddr 1 (.t 64) (.t 65))), (oA 67 (.load false 1 (.t 66))), (oA 68 (.bin .neq 0 (.t 62) (.t 67)))] []) (.cond (.t 68) (.seq (.reg [(oA 4 (.mv (.k (.v (.c (.p (.bool false)))))))] []) .ret) .skip))) (.reg [(oA 56 (.mv (.t 5))), (oA 57 (.bin .add 0 (.t 56) (.k (.v (.c (.p (.int .i64 1))))))), (oA 5 (.mv (.t 57)))] [])))))) (.mark 2 [2, 3] (.seq (.seq (.reg [(oA 6 (.mv (.k (.v (.c (.p (.int .i64 0)))))))] []) (.block 2 (.loop 3 [2, 3, 6] (.seq (.seq (.reg [(oA 69 (.mv (.t 6))), (oA 70 (.faddr 5 (.t 2))), (oA 71 (.load false 1 (.t 70))), (oA 72 (.len 2 (.t 71))), (oA 73 (.bin .lss 0 (.t 69) (.t 72)))] []) (.cond (.t 73) .skip (.exit 2))) (.seq (.block 3 (.seq (.reg [(oA 76 (.faddr 5 (.t 2))), (oA 77 (.load false 1 (.t 76))), (oA 78 (.mv (.t 6))), (oA 79 (.iaddr 6 (.t 77) (.t 78))), (oA 80 (.load true 6 (.t 79))), (oA 81 (.faddr 5 (.t 3))), (oA 82 (.load false 1 (.t 81))), (oA 83 (.mv (.t 6))), (oA 84 (.iaddr 6 (.t 82) (.t 83))), (oA 85 (.load true 6 (.t 84))), (oA 86 (.call (.k (.v (.c (.func 24 [])))) [(.t 80), (.t 85)])), (oA 87 (.un .not (.t 86)))] []) (.cond (.t 87) (.seq (.reg [(oA 4 (.mv (.k (.v (.c (.p (.bool false)))))))] []) .ret) .skip))) (.reg [(oA 74 (.mv (.t 6))), (oA 75 (.bin .add 0 (.t 74) (.k (.v (.c (.p (.int .i64 1))))))), (oA 6 (.mv (.t 75)))] [])))))) (.seq (.reg [(oA 4 (.mv (.k (.v (.c (.p (.bool true)))))))] []) .ret)))))) }
theorem t24 : compF Tryd.prog (globs2 tabs opq) (fun _ => false) true Tryd.f24 = some c24.erase := by kernel_rfl
noncomputable def b24_0 (O : Oracle) (R : Jump) (q : Nat) (x0 x1 : TVal) (h : Heap) : Res1 :=
 vop O (.box (.k x0) false) h 2 fun x2 h =>
 vop O (.box (.k x1) false) h 3 fun x3 h =>
 vfaddr 0 x2 h fun x7 h =>
 vload false 1 x7 h fun x8 h =>
 vfaddr 0 x3 h fun x9 h =>
 vload false 1 x9 h fun x10 h =>
 vbin .neq 0 x8 x10 h fun x11 h =>
 vguard x11 false (fun kk => vfaddr 1 x2 h kk) h fun x13 h =>
 vguard x11 false (fun kk => vload false 1 x13 h kk) h fun x14 h =>
 vguard x11 false (fun kk => vfaddr 1 x3 h kk) h fun x15 h =>
 vguard x11 false (fun kk => vload false 1 x15 h kk) h fun x16 h =>
 vguard x11 false (fun kk => vbin .neq 5 x14 x16 h kk) h fun x17 h =>
 vop O (.pick (.k x11) (.k (kB true)) (.k x17)) h 18 fun x18 h =>
 vguard x18 false (fun kk => vfaddr 2 x2 h kk) h fun x20 h =>
 vguard x18 false (fun kk => vload false 1 x20 h kk) h fun x21 h =>
 vguard x18 false (fun kk => vfaddr 2 x3 h kk) h fun x22 h =>
 vguard x18 false (fun kk => vload false 1 x22 h kk) h fun x23 h =>
 vguard x18 false (fun kk => vbin .neq 0 x21 x23 h kk) h fun x24 h =>
 vop O (.pick (.k x18) (.k (kB true)) (.k x24)) h 25 fun x25 h =>
 vguard x25 false (fun kk => vfaddr 3 x2 h kk) h fun x27 h =>
 vguard x25 false (fun kk => vload false 1 x27 h kk) h fun x28 h =>
 vguard x25 false (fun kk => vfaddr 3 x3 h kk) h fun x29 h =>
 vguard x25 false (fun kk => vload false 1 x29 h kk) h fun x30 h =>
 vguard x25 false (fun kk => vbin .neq 0 x28 x30 h kk) h fun x31 h =>
 vop O (.pick (.k x25) (.k (kB true)) (.k x31)) h 32 fun x32 h =>
 vguard x32 false (fun kk => vfaddr 4 x2 h kk) h fun x34 h =>
 vguard x32 false (fun kk => vload false 1 x34 h kk) h fun x35 h =>
 vguard x32 false (fun kk => vlen O 2 x35 h 36 kk) h fun x36 h =>
 vguard x32 false (fun kk => vfaddr 4 x3 h kk) h fun x37 h =>
 vguard x32 false (fun kk => vload false 1 x37 h kk) h fun x38 h =>
 vguard x32 false (fun kk => vlen O 2 x38 h 39 kk) h fun x39 h =>
 vguard x32 false (fun kk => vbin .neq 0 x36 x39 h kk) h fun x40 h =>
 vop O (.pick (.k x32) (.k (kB true)) (.k x40)) h 41 fun x41 h =>
 vguard x41 false (fun kk => vfaddr 5 x2 h kk) h fun x43 h =>
 vguard x41 false (fun kk => vload false 1 x43 h kk) h fun x44 h =>
 vguard x41 false (fun kk => vlen O 2 x44 h 45 kk) h fun x45 h =>
 vguard x41 false (fun kk => vfaddr 5 x3 h kk) h fun x46 h =>
 vguard x41 false (fun kk => vload false 1 x46 h kk) h fun x47 h =>
 vguard x41 false (fun kk => vlen O 2 x47 h 48 kk) h fun x48 h =>
 vguard x41 false (fun kk => vbin .neq 0 x45 x48 h kk) h fun x49 h =>
 vop O (.pick (.k x41) (.k (kB true)) (.k x49)) h 50 fun x50 h =>
 vif x50 (
 tcomp (kB false) fun c0 => vfin true q [c0] h)
 (R 1 [x2, x3, (kI 0)] h)
theorem e24_0 (O : Oracle) (R : Jump) (q : Nat) (x0 x1 : TVal) (h : Heap) : b24_0 O R q x0 x1 h = stepF c24 O R q 0 [x0, x1] h := by kernel_rfl
noncomputable def b24_1 (O : Oracle) (R : Jump) (q : Nat) (x2 x3 x5 : TVal) (h : Heap) : Res1 :=
 vfaddr 4 x2 h fun x52 h =>
 vload false 1 x52 h fun x53 h =>
 vlen O 2 x53 h 54 fun x54 h =>
 vbin .lss 0 x5 x54 h fun x55 h =>
 vif x55 (
 vfaddr 4 x2 h fun x58 h =>
 vload false 1 x58 h fun x59 h =>
 viaddr 1 x59 x5 h fun x61 h =>
 vload false 1 x61 h fun x62 h =>
 vfaddr 4 x3 h fun x63 h =>
 vload false 1 x63 h fun x64 h =>
 viaddr 1 x64 x5 h fun x66 h =>
 vload false 1 x66 h fun x67 h =>
 vbin .neq 0 x62 x67 h fun x68 h =>
 vif x68 (
 tcomp (kB false) fun c0 => vfin true q [c0] h)
 (vbin .add 0 x5 (kI 1) h fun x57 h =>
 R 1 [x2, x3, x57] h))
 (R 2 [x2, x3] h)
theorem e24_1 (O : Oracle) (R : Jump) (q : Nat) (x2 x3 x5 : TVal) (h : Heap) : b24_1 O R q x2 x3 x5 h = stepF c24 O R q 1 [x2, x3, x5] h := by kernel_rfl
noncomputable def b24_2 (O : Oracle) (R : Jump) (q : Nat) (x2 x3 : TVal) (h : Heap) : Res1 :=
 R 3 [x2, x3, (kI 0)] h
theorem e24_2 (O : Oracle) (R : Jump) (q : Nat) (x2 x3 : TVal) (h : Heap) : b24_2 O R q x2 x3 h = stepF c24 O R q 2 [x2, x3] h := by kernel_rfl
noncomputable def b24_3 (O : Oracle) (R : Jump) (q : Nat) (x2 x3 x6 : TVal) (h : Heap) : Res1 :=
 vfaddr 5 x2 h fun x70 h =>
 vload false 1 x70 h fun x71 h =>
 vlen O 2 x71 h 72 fun x72 h =>
 vbin .lss 0 x6 x72 h fun x73 h =>
 vif x73 (
 vfaddr 5 x2 h fun x76 h =>
 vload false 1 x76 h fun x77 h =>
 viaddr 6 x77 x6 h fun x79 h =>
 vload true 6 x79 h fun x80 h =>
 vfaddr 5 x3 h fun x81 h =>
 vload false 1 x81 h fun x82 h =>
 viaddr 6 x82 x6 h fun x84 h =>
 vload true 6 x84 h fun x85 h =>
 vcall O (.v (.c (.func 24 []))) [x80, x85] h 86 fun x86 h =>
 vop O (.un .not (.k x86)) h 87 fun x87 h =>
 vif x87 (
 tcomp (kB false) fun c0 => vfin true q [c0] h)
 (vbin .add 0 x6 (kI 1) h fun x75 h =>
 R 3 [x2, x3, x75] h))
 (tcomp (kB true) fun c0 => vfin true q [c0] h)
theorem e24_3 (O : Oracle) (R : Jump) (q : Nat) (x2 x3 x6 : TVal) (h : Heap) : b24_3 O R q x2 x3 x6 h = stepF c24 O R q 3 [x2, x3, x6] h := by kernel_rfl
noncomputable def d24 : BlkF := fun O R q => [.s fun y0 => .s fun y1 => .z fun h => b24_0 O R q y0 y1 h, .s fun y0 => .s fun y1 => .s fun y2 => .z fun h => b24_1 O R q y0 y1 y2 h, .s fun y0 => .s fun y1 => .z fun h => b24_2 O R q y0 y1 h, .s fun y0 => .s fun y1 => .s fun y2 => .z fun h => b24_3 O R q y0 y1 y2 h]
theorem o24 (O : Oracle) (R : Jump) (q : Nat) : HoldsAll c24 O R q 0 (d24 O R q) := ⟨fun y0 y1 h => e24_0 O R q y0 y1 h, fun y0 y1 y2 h => e24_1 O R q y0 y1 y2 h, fun y0 y1 h => e24_2 O R q y0 y1 h, fun y0 y1 y2 h => e24_3 O R q y0 y1 y2 h, trivial⟩
/- sprue/spruelaw13.Few -/
def c29 : MFunc := { np := 2, res := [.t 4], frz := true, body := (.seq (.reg [(oA 2 (.box (.t 0) false)), (oA 4 (.mv (.k (.v (.c (.p (.int .i64 0)))))))] []) (.seq (.seq (.reg [(oA 6 (.mv (.t 1))), (oA 7 (.bin .leq 0 (.t 6) (.k (.v (.c (.p (.int .i64 0))))))), (oA 8 (.mv (.t 7))), ⟨(some 9), (.faddr 4 (.t 2)), (some (8, false))⟩, ⟨(some 10), (.load false 1 (.t 9)), (some (8, false))⟩, ⟨(some 11), (.len 2 (.t 10)), (some (8, false))⟩, ⟨(some 12), (.bin .gtr 0 (.t 11) (.k (.v (.c (.p (.int .i64 12)))))), (some (8, false))⟩, (oA 13 (.pick (.t 8) (.k (.v (.c (.p (.bool true))))) (.t 12))), (oA 14 (.mv (.t 13))), ⟨(some 15), (.faddr 2 (.t 2)), (some (14, false))⟩, ⟨(some 16), (.load false 1 (.t 15)), (some (14, false))⟩, ⟨(some 17), (.len 2 (.t 16)), (some (14, false))⟩, ⟨(some 18), (.bin .gtr 0 (.t 17) (.k (.v (.c (.p (.int .i64 50)))))), (some (14, false))⟩, (oA 19 (.pick (.t 14) (.k (.v (.c (.p (.bool true))))) (.t 18))), (oA 20 (.mv (.t 19))), ⟨(some 21), (.faddr 3 (.t 2)), (some (20, false))⟩, ⟨(some 22), (.load false 1 (.t 21)), (some (20, false))⟩, ⟨(some 23), (.len 2 (.t 22)), (some (20, false))⟩, ⟨(some 24), (.bin .gtr 0 (.t 23) (.k (.v (.c (.p (.int .i64 12)))))), (some (20, false))⟩, (oA 25 (.pick (.t 20) (.k (.v (.c (.p (.bool true))))) (.t 24)))] []) (.cond (.t 25) (.seq (.reg [(oA 4 (.mv (.k (.v (.c (.p (.int .i64 0)))))))] []) .ret) .skip)) (.seq (.reg [(oA 26 (.mv (.t 1))), (oA 27 (.bin .sub 0 (.t 26) (.k (.v (.c (.p (.int .i64 1))))))), (oA 1 (.mv (.t 27)))] []) (.seq (.seq (.reg [(oA 5 (.mv (.k (.v (.c (.p (.int .i64 0)))))))] []) (.block 0 (.loop 1 [1, 2, 5] (.seq (.seq (.reg [(oA 28 (.mv (.t 5))), (oA 29 (.faddr 4 (.t 2))), (oA 30 (.load false 1 (.t 29))), (oA 31 (.len 2 (.t 30))), (oA 32 (.bin .lss 0 (.t 28) (.t 31))), (oA 33 (.mv (.t 32))), ⟨(some 34), (.mv (.t 1)), (some (33, true))⟩, ⟨(some 35), (.bin .gtr 0 (.t 34) (.k (.v (.c (.p (.int .i64 0)))))), (some (33, true))⟩, (oA 36 (.pick (.t 33) (.t 35) (.k (.v (.c (.p (.bool false)))))))] []) (.cond (.t 36) .skip (.exit 0))) (.seq (.block 1 (.reg [(oA 39 (.faddr 4 (.t 2))), (oA 40 (.load false 1 (.t 39))), (oA 41 (.mv (.t 5))), (oA 42 (.iaddr 5 (.t 40) (.t 41))), (oA 43 (.load true 5 (.t 42))), (oA 44 (.mv (.t 1))), (oA 45 (.call (.k (.v (.c (.func 29 [])))) [(.t 43), (.t 44)])), (oA 1 (.mv (.t 45)))] [])) (.reg [(oA 37 (.mv (.t 5))), (oA 38 (.bin .add 0 (.t 37) (.k (.v (.c (.p (.int .i64 1))))))), (oA 5 (.mv (.t 38)))] [])))))) (.seq (.reg [(oA 46 (.mv (.t 1))), (oA 4 (.mv (.t 46)))] []) .ret))))) }
theorem t29 : compF Tryd.prog (globs2 tabs opq) (fun _ => false) true Tryd.f29 = some c29.erase := by kernel_rfl
noncomputable def b29_0 (O : Oracle) (R : Jump) (q : Nat) (x0 x1 : TVal) (h : Heap) : Res1 :=
 vop O (.box (.k x0) false) h 2 fun x2 h =>
 vbin .leq 0 x1 (kI 0) h fun x7 h =>
 vguard x7 false (fun kk => vfaddr 4 x2 h kk) h fun x9 h =>
 vguard x7 false (fun kk => vload false 1 x9 h kk) h fun x10 h =>
 vguard x7 false (fun kk => vlen O 2 x10 h 11 kk) h fun x11 h =>
 vguard x7 false (fun kk => vbin .gtr 0 x11 (kI 12) h kk) h fun x12 h =>
 vop O (.pick (.k x7) (.k (kB true)) (.k x12)) h 13 fun x13 h =>
 vguard x13 false (fun kk => vfaddr 2 x2 h kk) h fun x15 h =>
 vguard x13 false (fun kk => vload false 1 x15 h kk) h fun x16 h =>
 vguard x13 false (fun kk => vlen O 2 x16 h 17 kk) h fun x17 h =>
 vguard x13 false (fun kk => vbin .gtr 0 x17 (kI 50) h kk) h fun x18 h =>
 vop O (.pick (.k x13) (.k (kB true)) (.k x18)) h 19 fun x19 h =>
 vguard x19 false (fun kk => vfaddr 3 x2 h kk) h fun x21 h =>
 vguard x19 false (fun kk => vload false 1 x21 h kk) h fun x22 h =>
 vguard x19 false (fun kk => vlen O 2 x22 h 23 kk) h fun x23 h =>
 vguard x19 false (fun kk => vbin .gtr 0 x23 (kI 12) h kk) h fun x24 h =>
 vop O (.pick (.k x19) (.k (kB true)) (.k x24)) h 25 fun x25 h =>
 vif x25 (
 tcomp (kI 0) fun c0 => vfin true q [c0] h)
 (vbin .sub 0 x1 (kI 1) h fun x27 h =>
 R 1 [x27, x2, (kI 0)] h)
theorem e29_0 (O : Oracle) (R : Jump) (q : Nat) (x0 x1 : TVal) (h : Heap) : b29_0 O R q x0 x1 h = stepF c29 O R q 0 [x0, x1] h := by kernel_rfl
noncomputable def b29_1 (O : Oracle) (R : Jump) (q : Nat) (x1 x2 x5 : TVal) (h : Heap) : Res1 :=
 vfaddr 4 x2 h fun x29 h =>
 vload false 1 x29 h fun x30 h =>
 vlen O 2 x30 h 31 fun x31 h =>
 vbin .lss 0 x5 x31 h fun x32 h =>
 vguard x32 true (fun kk => kk x1 h) h fun x34 h =>
 vguard x32 true (fun kk => vbin .gtr 0 x34 (kI 0) h kk) h fun x35 h =>
 vop O (.pick (.k x32) (.k x35) (.k (kB false))) h 36 fun x36 h =>
 vif x36 (
 vfaddr 4 x2 h fun x39 h =>
 vload false 1 x39 h fun x40 h =>
 viaddr 5 x40 x5 h fun x42 h =>
 vload true 5 x42 h fun x43 h =>
 vcall O (.v (.c (.func 29 []))) [x43, x1] h 45 fun x45 h =>
 vbin .add 0 x5 (kI 1) h fun x38 h =>
 R 1 [x45, x2, x38] h)
 (tcomp x1 fun c0 => vfin true q [c0] h)
theorem e29_1 (O : Oracle) (R : Jump) (q : Nat) (x1 x2 x5 : TVal) (h : Heap) : b29_1 O R q x1 x2 x5 h = stepF c29 O R q 1 [x1, x2, x5] h := by kernel_rfl
noncomputable def d29 : BlkF := fun O R q => [.s fun y0 => .s fun y1 => .z fun h => b29_0 O R q y0 y1 h, .s fun y0 => .s fun y1 => .s fun y2 => .z fun h => b29_1 O R q y0 y1 y2 h]
theorem o29 (O : Oracle) (R : Jump) (q : Nat) : HoldsAll c29 O R q 0 (d29 O R q) := ⟨fun y0 y1 h => e29_0 O R q y0 y1 h, fun y0 y1 y2 h => e29_1 O R q y0 y1 y2 h, trivial⟩
/- sprue/spruelaw13.Good -/
def c31 : MFunc := { np := 2, res := [.cell 4 true 6], frz := true, body := (.seq (.reg [(oA 2 (.box (.t 0) false)), (oA 4 (.alloc [(.p (.int .i64 0)), (.p (.bool false)), (.p (.int .i64 0)), (.p (.str [])), (.p .nilslice), (.p .nilslice)] false))] []) (.seq (.reg [(oA 10 (.faddr 0 (.t 2))), (oA 11 (.load false 1 (.t 10))), (oA 12 (.call (.k (.v (.c (.func 79 [])))) [(.t 11), (.k (.v (.c (.p (.int .i64 6)))))])), (oA 5 (.mv (.t 12)))] []) (.seq (.seq (.reg [(oA 13 (.mv (.t 1))), (oA 14 (.bin .leq 0 (.t 13) (.k (.v (.c (.p (.int .i64 1))))))), (oA 15 (.mv (.t 14))), ⟨(some 16), (.mv (.t 5)), (some (15, true))⟩, ⟨(some 17), (.bin .geq 0 (.t 16) (.k (.v (.c (.p (.int .i64 4)))))), (some (15, true))⟩, (oA 18 (.pick (.t 15) (.t 17) (.k (.v (.c (.p (.bool false)))))))] []) (.cond (.t 18) (.reg [(oA 5 (.mv (.k (.v (.c (.p (.int .i64 2)))))))] []) .skip)) (.mark 1 [1, 2, 4, 5] (.seq (.reg [(oA 19 (.mv (.t 5))), (oA 20 (.build [(.p (.int .i64 0)), (.p (.bool false)), (.p (.int .i64 0)), (.p (.str [])), (.p .nilslice), (.p .nilslice)] [(0, 1, (.t 19))])), (oA 6 (.alloc [(.p (.int .i64 0)), (.p (.bool false)), (.p (.int .i64 0)), (.p (.str [])), (.p .nilslice), (.p .nilslice)] false)), (oN (.store 6 (.t 6) (.t 20)))] []) (.seq (.seq (.reg [(oA 21 (.mv (.t 5)))] []) (.block 0 (.seq (.reg [(oA 23 (.bin .eql 0 (.t 21) (.k (.v (.c (.p (.int .i64 1))))))), (oA 22 (.mv (.t 23)))] []) (.cond (.t 22) (.reg [(oA 24 (.faddr 1 (.t 2))), (oA 25 (.load false 1 (.t 24))), (oA 26 (.bin .rem 0 (.t 25) (.k (.v (.c (.p (.int .i64 2))))))), (oA 27 (.bin .eql 0 (.t 26) (.k (.v (.c (.p (.int .i64 0))))))), (oA 28 (.faddr 1 (.t 6))), (oN (.store 1 (.t 28) (.t 27)))] []) (.seq (.reg [(oA 30 (.bin .eql 0 (.t 21) (.k (.v (.c (.p (.int .i64 2))))))), (oA 29 (.mv (.t 30)))] []) (.cond (.t 29) (.reg [(oA 31 (.faddr 1 (.t 2))), (oA 32 (.load false 1 (.t 31))), (oA 33 (.faddr 2 (.t 6))), (oN (.store 1 (.t 33) (.t 32)))] []) (.seq (.reg [(oA 35 (.bin .eql 0 (.t 21) (.k (.v (.c (.p (.int .i64 3))))))), (oA 34 (.mv (.t 35)))] []) (.cond (.t 34) (.reg [(oA 36 (.faddr 2 (.t 2))), (oA 37 (.load false 1 (.t 36))), (oA 38 (.call (.k (.v (.c (.func 80 [])))) [(.t 37)])), (oA 39 (.faddr 3 (.t 6))), (oN (.store 1 (.t 39) (.t 38)))] []) (.seq (.reg [(oA 41 (.bin .eql 0 (.t 21) (.k (.v (.c (.p (.int .i64 4))))))), (oA 40 (.mv (.t 41)))] []) (.cond (.t 40) (.seq (.reg [(oA 7 (.mv (.k (.v (.c (.p (.int .i64 0)))))))] []) (.block 1 (.loop 2 [1, 2, 4, 6, 7] (.seq (.seq (.reg [(oA 42 (.mv (.t 7))), (oA 43 (.faddr 4 (.t 2))), (oA 44 (.load false 1 (.t 43))), (oA 45 (.len 2 (.t 44))), (oA 46 (.bin .lss 0 (.t 42) (.t 45)))] []) (.cond (.t 46) .skip (.exit 1))) (.seq (.block 2 (.reg [(oA 49 (.faddr 5 (.t 6))), (oA 50 (.load false 1 (.t 49))), (oA 51 (.faddr 4 (.t 2))), (oA 52 (.load false 1 (.t 51))), (oA 53 (.mv (.t 7))), (oA 54 (.iaddr 5 (.t 52) (.t 53))), (oA 55 (.load true 5 (.t 54))), (oA 56 (.mv (.t 1))), (oA 57 (.bin .sub 0 (.t 56) (.k (.v (.c (.p (.int .i64 1))))))), (oA 58 (.call (.k (.v (.c (.func 31 [])))) [(.t 55), (.t 57)])), (oA 59 (.bslice 6 1 [(.p (.int .i64 0)), (.p (.bool false)), (.p (.int .i64 0)), (.p (.str [])), (.p .nilslice), (.p .nilslice)] [(0, (.t 58))] false)), (oA 60 (.append 6 88 false (.t 50) (.t 59))), (oA 61 (.faddr 5 (.t 6))), (oN (.store 1 (.t 61) (.t 60)))] [(1, 9), (1, 10)])) (.reg [(oA 47 (.mv (.t 7))), (oA 48 (.bin .add 0 (.t 47) (.k (.v (.c (.p (.int .i64 1))))))), (oA 7 (.mv (.t 48)))] [])))))) (.seq (.reg [(oA 63 (.bin .eql 0 (.t 21) (.k (.v (.c (.p (.int .i64 5))))))), (oA 62 (.mv (.t 63)))] []) (.cond (.t 62) (.seq (.reg [(oA 8 (.mv (.k (.v (.c (.p (.int .i64 0)))))))] []) (.block 3 (.loop 3 [1, 2, 4, 6, 8] (.seq (.seq (.reg [(oA 64 (.mv (.t 8))), (oA 65 (.faddr 4 (.t 2))), (oA 66 (.load false 1 (.t 65))), (oA 67 (.len 2 (.t 66))), (oA 68 (.bin .lss 0 (.t 64) (.t 67)))] []) (.cond (.t 68) .skip (.exit 3))) (.seq (.block 4 (.seq (.reg [(oA 9 (.mv (.k (.v (.c (.p (.int .i64 0)))))))] []) (.seq (.seq (.reg [(oA 71 (.mv (.t 8))), (oA 72 (.faddr 3 (.t 2))), (oA 73 (.load false 1 (.t 72))), (oA 74 (.len 2 (.t 73))), (oA 75 (.bin .lss 0 (.t 71) (.t 74)))] []) (.cond (.t 75) (.reg [(oA 76 (.faddr 3 (.t 2))), (oA 77 (.load false 1 (.t 76))), (oA 78 (.mv (.t 8))), (oA 79 (.iaddr 1 (.t 77) (.t 78))), (oA 80 (.load false 1 (.t 79))), (oA 9 (.mv (.t 80)))] []) .skip)) (.mark 4 [1, 2, 4, 6, 8, 9] (.reg [(oA 81 (.load true 6 (.t 6))), (oA 82 (.bslice 1 8 [(.p (.str []))] [(0, (.k (.v (.c (.p (.str [97])))))), (1, (.k (.v (.c (.p (.str [98])))))), (2, (.k (.v (.c (.p (.str [99])))))), (3, (.k (.v (.c (.p (.str [110, 97, 109, 101])))))), (4, (.k (.v (.c (.p (.str [110])))))), (5, (.k (.v (.c (.p (.str [])))))), (6, (.k (.v (.c (.p (.str [120, 34, 121])))))), (7, (.k (.v (.c (.p (.str [10]))))))] false)), (oA 83 (.mv (.t 9))), (oA 84 (.call (.k (.v (.c (.func 79 [])))) [(.t 83), (.k (.v (.c (.p (.int .i64 8)))))])), (oA 85 (.iaddr 1 (.t 82) (.t 84))), (oA 86 (.load false 1 (.t 85))), (oA 87 (.faddr 4 (.t 2))), (oA 88 (.load false 1 (.t 87))), (oA 89 (.mv (.t 8))), (oA 90 (.iaddr 5 (.t 88) (.t 89))), (oA 91 (.load true 5 (.t 90))), (oA 92 (.mv (.t 1))), (oA 93 (.bin .sub 0 (.t 92) (.k (.v (.c (.p (.int .i64 1))))))), (oA 94 (.call (.k (.v (.c (.func 31 [])))) [(.t 91), (.t 93)])), (oA 95 (.call (.k (.v (.c (.func 81 [])))) [(.t 81), (.t 86), (.t 94)])), (oN (.store 6 (.t 6) (.t 95)))] [(0, 1), (0, 3), (1, 3), (1, 7), (3, 7), (1, 10), (3, 10), (0, 13), (1, 13), (5, 13)]))))) (.reg [(oA 69 (.mv (.t 8))), (oA 70 (.bin .add 0 (.t 69) (.k (.v (.c (.p (.int .i64 1))))))), (oA 8 (.mv (.t 70)))] [])))))) .skip)))))))))))) (.mark 5 [4, 6] (.seq (.reg [(oA 96 (.load true 6 (.t 6))), (oN (.store 6 (.t 4) (.t 96)))] []) .ret)))))))) }
theorem t31 : compF Tryd.prog (globs2 tabs opq) (fun _ => false) true Tryd.f31 = some c31.erase := by kernel_rfl
noncomputable def b31_0 (O : Oracle) (R : Jump) (q : Nat) (x0 x1 : TVal) (h : Heap) : Res1 :=
 vop O (.box (.k x0) false) h 2 fun x2 h =>
 vop O (.alloc [(.p (.int .i64 0)), (.p (.bool false)), (.p (.int .i64 0)), (.p (.str [])), (.p .nilslice), (.p .nilslice)] false) h 4 fun x4 h =>
 vfaddr 0 x2 h fun x10 h =>
 vload false 1 x10 h fun x11 h =>
 vcall O (.v (.c (.func 79 []))) [x11, (kI 6)] h 12 fun x12 h =>
 vbin .leq 0 x1 (kI 1) h fun x14 h =>
 vguard x14 true (fun kk => kk x12 h) h fun x16 h =>
 vguard x14 true (fun kk => vbin .geq 0 x16 (kI 4) h kk) h fun x17 h =>
 vop O (.pick (.k x14) (.k x17) (.k (kB false))) h 18 fun x18 h =>
 vif x18 (
 R 1 [x1, x2, x4, (kI 2)] h)
 (R 1 [x1, x2, x4, x12] h)
theorem e31_0 (O : Oracle) (R : Jump) (q : Nat) (x0 x1 : TVal) (h : Heap) : b31_0 O R q x0 x1 h = stepF c31 O R q 0 [x0, x1] h := by kernel_rfl
noncomputable def b31_1 (O : Oracle) (R : Jump) (q : Nat) (x1 x2 x4 x5 : TVal) (h : Heap) : Res1 :=
 vop O (.build [(.p (.int .i64 0)), (.p (.bool false)), (.p (.int .i64 0)), (.p (.str [])), (.p .nilslice), (.p .nilslice)] [(0, 1, (.k x5))]) h 20 fun x20 h =>
 vop O (.alloc [(.p (.int .i64 0)), (.p (.bool false)), (.p (.int .i64 0)), (.p (.str [])), (.p .nilslice), (.p .nilslice)] false) h 6 fun x6 h =>
 vstore 6 x6 x20 h fun _ h =>
 vbin .eql 0 x5 (kI 1) h fun x23 h =>
 vif x23 (
 vfaddr 1 x2 h fun x24 h =>
 vload false 1 x24 h fun x25 h =>
 vbin .rem 0 x25 (kI 2) h fun x26 h =>
 vbin .eql 0 x26 (kI 0) h fun x27 h =>
 vfaddr 1 x6 h fun x28 h =>
 vstore 1 x28 x27 h fun _ h =>
 R 5 [x4, x6] h)
 (vbin .eql 0 x5 (kI 2) h fun x30 h =>
 vif x30 (
 vfaddr 1 x2 h fun x31 h =>
 vload false 1 x31 h fun x32 h =>
 vfaddr 2 x6 h fun x33 h =>
 vstore 1 x33 x32 h fun _ h =>
 R 5 [x4, x6] h)
 (vbin .eql 0 x5 (kI 3) h fun x35 h =>
 vif x35 (
 vfaddr 2 x2 h fun x36 h =>
 vload false 1 x36 h fun x37 h =>
 vcall O (.v (.c (.func 80 []))) [x37] h 38 fun x38 h =>
 vfaddr 3 x6 h fun x39 h =>
 vstore 1 x39 x38 h fun _ h =>
 R 5 [x4, x6] h)
 (vbin .eql 0 x5 (kI 4) h fun x41 h =>
 vif x41 (
 R 2 [x1, x2, x4, x6, (kI 0)] h)
 (vbin .eql 0 x5 (kI 5) h fun x63 h =>
 vif x63 (
 R 3 [x1, x2, x4, x6, (kI 0)] h)
 (R 5 [x4, x6] h)))))
theorem e31_1 (O : Oracle) (R : Jump) (q : Nat) (x1 x2 x4 x5 : TVal) (h : Heap) : b31_1 O R q x1 x2 x4 x5 h = stepF c31 O R q 1 [x1, x2, x4, x5] h := by kernel_rfl
noncomputable def b31_2 (O : Oracle) (R : Jump) (q : Nat) (x1 x2 x4 x6 x7 : TVal) (h : Heap) : Res1 :=
 vfaddr 4 x2 h fun x43 h =>
 vload false 1 x43 h fun x44 h =>
 vlen O 2 x44 h 45 fun x45 h =>
 vbin .lss 0 x7 x45 h fun x46 h =>
 vif x46 (
 vtouch O (.faddr 5 (.k x6)) h 49 fun x49 h t0 =>
 vtouch O (.load false 1 (.k x49)) h 50 fun x50 h t1 =>
 vtouch O (.faddr 4 (.k x2)) h 51 fun x51 h t2 =>
 vtouch O (.load false 1 (.k x51)) h 52 fun x52 h t3 =>
 vtouch O (.mv (.k x7)) h 53 fun x53 h t4 =>
 vtouch O (.iaddr 5 (.k x52) (.k x53)) h 54 fun x54 h t5 =>
 vtouch O (.load true 5 (.k x54)) h 55 fun x55 h t6 =>
 vtouch O (.mv (.k x1)) h 56 fun x56 h t7 =>
 vtouch O (.bin .sub 0 (.k x56) (.k (kI 1))) h 57 fun x57 h t8 =>
 vtouch O (.call (.k (.v (.c (.func 31 [])))) [(.k x55), (.k x57)]) h 58 fun x58 h t9 =>
 vtouch O (.bslice 6 1 [(.p (.int .i64 0)), (.p (.bool false)), (.p (.int .i64 0)), (.p (.str [])), (.p .nilslice), (.p .nilslice)] [(0, (.k x58))] false) h 59 fun x59 h t10 =>
 vtouch O (.append 6 88 false (.k x50) (.k x59)) h 60 fun x60 h t11 =>
 vtouch O (.faddr 5 (.k x6)) h 61 fun x61 h t12 =>
 vtouch O (.store 1 (.k x61) (.k x60)) h 1000000 fun _ h t13 =>
 bif apartAll [t0, t1, t2, t3, t4, t5, t6, t7, t8, t9, t10, t11, t12, t13] [(1, 9), (1, 10)] then
 vbin .add 0 x7 (kI 1) h fun x48 h =>
 R 2 [x1, x2, x4, x6, x48] h
 else none)
 (R 5 [x4, x6] h)
theorem e31_2 (O : Oracle) (R : Jump) (q : Nat) (x1 x2 x4 x6 x7 : TVal) (h : Heap) : b31_2 O R q x1 x2 x4 x6 x7 h = stepF c31 O R q 2 [x1, x2, x4, x6, x7] h := by kernel_rfl
noncomputable def b31_3 (O : Oracle) (R : Jump) (q : Nat) (x1 x2 x4 x6 x8 : TVal) (h : Heap) : Res1 :=
 vfaddr 4 x2 h fun x65 h =>
 vload false 1 x65 h fun x66 h =>
 vlen O 2 x66 h 67 fun x67 h =>
 vbin .lss 0 x8 x67 h fun x68 h =>
 vif x68 (
 vfaddr 3 x2 h fun x72 h =>
 vload false 1 x72 h fun x73 h =>
 vlen O 2 x73 h 74 fun x74 h =>
 vbin .lss 0 x8 x74 h fun x75 h =>
 vif x75 (
 vfaddr 3 x2 h fun x76 h =>
 vload false 1 x76 h fun x77 h =>
 viaddr 1 x77 x8 h fun x79 h =>
 vload false 1 x79 h fun x80 h =>
 R 4 [x1, x2, x4, x6, x8, x80] h)
 (R 4 [x1, x2, x4, x6, x8, (kI 0)] h))
 (R 5 [x4, x6] h)
theorem e31_3 (O : Oracle) (R : Jump) (q : Nat) (x1 x2 x4 x6 x8 : TVal) (h : Heap) : b31_3 O R q x1 x2 x4 x6 x8 h = stepF c31 O R q 3 [x1, x2, x4, x6, x8] h := by kernel_rfl
noncomputable def b31_4 (O : Oracle) (R : Jump) (q : Nat) (x1 x2 x4 x6 x8 x9 : TVal) (h : Heap) : Res1 :=
 vtouch O (.load true 6 (.k x6)) h 81 fun x81 h t0 =>
 vtouch O (.bslice 1 8 [(.p (.str []))] [(0, (.k (kS [97]))), (1, (.k (kS [98]))), (2, (.k (kS [99]))), (3, (.k (kS [110, 97, 109, 101]))), (4, (.k (kS [110]))), (5, (.k (kS []))), (6, (.k (kS [120, 34, 121]))), (7, (.k (kS [10])))] false) h 82 fun x82 h t1 =>
 vtouch O (.mv (.k x9)) h 83 fun x83 h t2 =>
 vtouch O (.call (.k (.v (.c (.func 79 [])))) [(.k x83), (.k (kI 8))]) h 84 fun x84 h t3 =>
 vtouch O (.iaddr 1 (.k x82) (.k x84)) h 85 fun x85 h t4 =>
 vtouch O (.load false 1 (.k x85)) h 86 fun x86 h t5 =>
 vtouch O (.faddr 4 (.k x2)) h 87 fun x87 h t6 =>
 vtouch O (.load false 1 (.k x87)) h 88 fun x88 h t7 =>
 vtouch O (.mv (.k x8)) h 89 fun x89 h t8 =>
 vtouch O (.iaddr 5 (.k x88) (.k x89)) h 90 fun x90 h t9 =>
 vtouch O (.load true 5 (.k x90)) h 91 fun x91 h t10 =>
 vtouch O (.mv (.k x1)) h 92 fun x92 h t11 =>
 vtouch O (.bin .sub 0 (.k x92) (.k (kI 1))) h 93 fun x93 h t12 =>
 vtouch O (.call (.k (.v (.c (.func 31 [])))) [(.k x91), (.k x93)]) h 94 fun x94 h t13 =>
 vtouch O (.call (.k (.v (.c (.func 81 [])))) [(.k x81), (.k x86), (.k x94)]) h 95 fun x95 h t14 =>
 vtouch O (.store 6 (.k x6) (.k x95)) h 1000000 fun _ h t15 =>
 bif apartAll [t0, t1, t2, t3, t4, t5, t6, t7, t8, t9, t10, t11, t12, t13, t14, t15] [(0, 1), (0, 3), (1, 3), (1, 7), (3, 7), (1, 10), (3, 10), (0, 13), (1, 13), (5, 13)] then
 vbin .add 0 x8 (kI 1) h fun x70 h =>
 R 3 [x1, x2, x4, x6, x70] h
 else none
theorem e31_4 (O : Oracle) (R : Jump) (q : Nat) (x1 x2 x4 x6 x8 x9 : TVal) (h : Heap) : b31_4 O R q x1 x2 x4 x6 x8 x9 h = stepF c31 O R q 4 [x1, x2, x4, x6, x8, x9] h := by kernel_rfl
noncomputable def b31_5 (O : Oracle) (R : Jump) (q : Nat) (x4 x6 : TVal) (h : Heap) : Res1 :=
 vload true 6 x6 h fun x96 h =>
 vstore 6 x4 x96 h fun _ h =>
 vcell true 6 x4 h fun c0 => vfin true q [c0] h
theorem e31_5 (O : Oracle) (R : Jump) (q : Nat) (x4 x6 : TVal) (h : Heap) : b31_5 O R q x4 x6 h = stepF c31 O R q 5 [x4, x6] h := by kernel_rfl
noncomputable def d31 : BlkF := fun O R q => [.s fun y0 => .s fun y1 => .z fun h => b31_0 O R q y0 y1 h, .s fun y0 => .s fun y1 => .s fun y2 => .s fun y3 => .z fun h => b31_1 O R q y0 y1 y2 y3 h, .s fun y0 => .s fun y1 => .s fun y2 => .s fun y3 => .s fun y4 => .z fun h => b31_2 O R q y0 y1 y2 y3 y4 h, .s fun y0 => .s fun y1 => .s fun y2 => .s fun y3 => .s fun y4 => .z fun h => b31_3 O R q y0 y1 y2 y3 y4 h, .s fun y0 => .s fun y1 => .s fun y2 => .s fun y3 => .s fun y4 => .s fun y5 => .z fun h => b31_4 O R q y0 y1 y2 y3 y4 y5 h, .s fun y0 => .s fun y1 => .z fun h => b31_5 O R q y0 y1 h]
theorem o31 (O : Oracle) (R : Jump) (q : Nat) : HoldsAll c31 O R q 0 (d31 O R q) := ⟨fun y0 y1 h => e31_0 O R q y0 y1 h, fun y0 y1 y2 y3 h => e31_1 O R q y0 y1 y2 y3 h, fun y0 y1 y2 y3 y4 h => e31_2 O R q y0 y1 y2 y3 y4 h, fun y0 y1 y2 y3 y4 h => e31_3 O R q y0 y1 y2 y3 y4 h, fun y0 y1 y2 y3 y4 y5 h => e31_4 O R q y0 y1 y2 y3 y4 y5 h, fun y0 y1 h => e31_5 O R q y0 y1 h, trivial⟩
/- sprue/spruelaw15.known -/
def c36 : MFunc := { np := 0, res := [.t 0], frz := true, body := (.seq (.reg [(oA 0 (.mv (.k (.v (.c (.p (.bool false)))))))] []) (.seq (.reg [(oA 4 (.build [(.p (.int .i64 0)), (.p (.bool false)), (.p (.int .i64 0)), (.p (.str [])), (.p .nilslice), (.p .nilslice)] [(0, 1, (.k (.v (.c (.p (.int .i64 2)))))), (2, 1, (.k (.v (.c (.p (.int .i64 200))))))])), (oA 5 (.bslice 6 1 [(.p (.int .i64 0)), (.p (.bool false)), (.p (.int .i64 0)), (.p (.str [])), (.p .nilslice), (.p .nilslice)] [(0, (.t 4))] false)), (oA 6 (.call (.k (.v (.c (.func 38 [])))) [(.k (.v (.c (.p (.str [105, 56]))))), (.t 5)])), (oA 3 (.mv (.t 6))), (oA 7 (.extract (.t 3) 0)), (oA 8 (.extract (.t 3) 1)), (oA 1 (.alloc [(.p (.int .i64 0)), (.p (.bool false)), (.p (.int .i64 0)), (.p (.str [])), (.p .nilslice), (.p .nilslice)] false)), (oN (.store 6 (.t 1) (.t 7))), (oA 2 (.mv (.t 8)))] []) (.seq (.reg [(oA 9 (.mv (.t 2))), (oA 10 (.bin .eql 0 (.t 9) (.k (.v (.c (.p (.int .i64 0))))))), (oA 11 (.mv (.t 10))), ⟨(some 12), (.faddr 0 (.t 1)), (some (11, true))⟩, ⟨(some 13), (.load false 1 (.t 12)), (some (11, true))⟩, ⟨(some 14), (.bin .eql 0 (.t 13) (.k (.v (.c (.p (.int .i64 2)))))), (some (11, true))⟩, (oA 15 (.pick (.t 11) (.t 14) (.k (.v (.c (.p (.bool false))))))), (oA 16 (.mv (.t 15))), ⟨(some 17), (.faddr 2 (.t 1)), (some (16, true))⟩, ⟨(some 18), (.load false 1 (.t 17)), (some (16, true))⟩, ⟨(some 19), (.bin .eql 0 (.t 18) (.k (.v (.c (.p (.int .i64 (-56))))))), (some (16, true))⟩, (oA 20 (.pick (.t 16) (.t 19) (.k (.v (.c (.p (.bool false))))))), (oA 0 (.mv (.t 20)))] []) .ret))) }
theorem t36 : compF Tryd.prog (globs2 tabs opq) (fun _ => false) true Tryd.f36 = some c36.erase := by kernel_rfl
noncomputable def b36_0 (O : Oracle) (R : Jump) (q : Nat) (h : Heap) : Res1 :=
 vop O (.build [(.p (.int .i64 0)), (.p (.bool false)), (.p (.int .i64 0)), (.p (.str [])), (.p .nilslice), (.p .nilslice)] [(0, 1, (.k (kI 2))), (2, 1, (.k (kI 200)))]) h 4 fun x4 h =>
 vop O (.bslice 6 1 [(.p (.int .i64 0)), (.p (.bool false)), (.p (.int .i64 0)), (.p (.str [])), (.p .nilslice), (.p .nilslice)] [(0, (.k x4))] false) h 5 fun x5 h =>
 vcall O (.v (.c (.func 38 []))) [(kS [105, 56]), x5] h 6 fun x6 h =>
 vext x6 0 h fun x7 h =>
 vext x6 1 h fun x8 h =>
 vop O (.alloc [(.p (.int .i64 0)), (.p (.bool false)), (.p (.int .i64 0)), (.p (.str [])), (.p .nilslice), (.p .nilslice)] false) h 1 fun x1 h =>
 vstore 6 x1 x7 h fun _ h =>
 vbin .eql 0 x8 (kI 0) h fun x10 h =>
 vguard x10 true (fun kk => vfaddr 0 x1 h kk) h fun x12 h =>
 vguard x10 true (fun kk => vload false 1 x12 h kk) h fun x13 h =>
 vguard x10 true (fun kk => vbin .eql 0 x13 (kI 2) h kk) h fun x14 h =>
 vop O (.pick (.k x10) (.k x14) (.k (kB false))) h 15 fun x15 h =>
 vguard x15 true (fun kk => vfaddr 2 x1 h kk) h fun x17 h =>
 vguard x15 true (fun kk => vload false 1 x17 h kk) h fun x18 h =>
 vguard x15 true (fun kk => vbin .eql 0 x18 (kI (-56)) h kk) h fun x19 h =>
 vop O (.pick (.k x15) (.k x19) (.k (kB false))) h 20 fun x20 h =>
 tcomp x20 fun c0 => vfin true q [c0] h
theorem e36_0 (O : Oracle) (R : Jump) (q : Nat) (h : Heap) : b36_0 O R q  h = stepF c36 O R q 0 [] h := by kernel_rfl
noncomputable def d36 : BlkF := fun O R q => [.z fun h => b36_0 O R q  h]
theorem o36 (O : Oracle) (R : Jump) (q : Nat) : HoldsAll c36 O R q 0 (d36 O R q) := ⟨fun  h => e36_0 O R q  h, trivial⟩
/- sprue/spruelaw15.within -/
def c37 : MFunc := { np := 2, res := [.t 4], frz := true, body := (.seq (.reg [(oA 4 (.mv (.k (.v (.c (.p (.int .i64 0)))))))] []) (.seq (.reg [(oA 6 (.mv (.t 0))), (oA 7 (.mv (.t 1))), (oA 8 (.bin .rem 0 (.t 6) (.t 7))), (oA 5 (.mv (.t 8)))] []) (.seq (.seq (.reg [(oA 9 (.mv (.t 5))), (oA 10 (.bin .lss 0 (.t 9) (.k (.v (.c (.p (.int .i64 0)))))))] []) (.cond (.t 10) (.reg [(oA 11 (.mv (.t 5))), (oA 12 (.mv (.t 1))), (oA 13 (.bin .add 0 (.t 11) (.t 12))), (oA 5 (.mv (.t 13)))] []) .skip)) (.seq (.reg [(oA 14 (.mv (.t 5))), (oA 4 (.mv (.t 14)))] []) .ret)))) }
theorem t37 : compF Tryd.prog (globs2 tabs opq) (fun _ => false) true Tryd.f37 = some c37.erase := by kernel_rfl
noncomputable def b37_0 (O : Oracle) (R : Jump) (q : Nat) (x0 x1 : TVal) (h : Heap) : Res1 :=
 vbin .rem 0 x0 x1 h fun x8 h =>
 vbin .lss 0 x8 (kI 0) h fun x10 h =>
 vif x10 (
 vbin .add 0 x8 x1 h fun x13 h =>
 tcomp x13 fun c0 => vfin true q [c0] h)
 (tcomp x8 fun c0 => vfin true q [c0] h)
theorem e37_0 (O : Oracle) (R : Jump) (q : Nat) (x0 x1 : TVal) (h : Heap) : b37_0 O R q x0 x1 h = stepF c37 O R q 0 [x0, x1] h := by kernel_rfl
noncomputable def d37 : BlkF := fun O R q => [.s fun y0 => .s fun y1 => .z fun h => b37_0 O R q y0 y1 h]
theorem o37 (O : Oracle) (R : Jump) (q : Nat) : HoldsAll c37 O R q 0 (d37 O R q) := ⟨fun y0 y1 h => e37_0 O R q y0 y1 h, trivial⟩
/- sprue/calls.Eval -/
def c38 : MFunc := { np := 2, res := [.cell 4 true 6, .t 5], frz := true, body := (.seq (.reg [(oA 4 (.alloc [(.p (.int .i64 0)), (.p (.bool false)), (.p (.int .i64 0)), (.p (.str [])), (.p .nilslice), (.p .nilslice)] false)), (oA 5 (.mv (.k (.v (.c (.p (.int .i64 0)))))))] []) (.seq (.block 0 (.seq (.reg [(oA 9 (.mv (.t 0))), (oA 10 (.call (.k (.v (.c (.func 84 [])))) [(.t 9)])), (oA 11 (.un .not (.t 10))), (oA 8 (.mv (.t 11)))] []) (.cond (.t 8) (.seq (.reg [(oA 12 (.build [(.p (.int .i64 0)), (.p (.bool false)), (.p (.int .i64 0)), (.p (.str [])), (.p .nilslice), (.p .nilslice)] [])), (oN (.store 6 (.t 4) (.t 12))), (oA 5 (.mv (.k (.v (.c (.p (.int .i64 15)))))))] []) .ret) (.seq (.reg [(oA 14 (.mv (.t 1))), (oA 15 (.len 2 (.t 14))), (oA 16 (.mv (.t 0))), (oA 17 (.call (.k (.v (.c (.func 85 [])))) [(.t 16)])), (oA 18 (.bin .neq 0 (.t 15) (.t 17))), (oA 13 (.mv (.t 18)))] []) (.cond (.t 13) (.seq (.reg [(oA 19 (.build [(.p (.int .i64 0)), (.p (.bool false)), (.p (.int .i64 0)), (.p (.str [])), (.p .nilslice), (.p .nilslice)] [])), (oN (.store 6 (.t 4) (.t 19))), (oA 5 (.mv (.k (.v (.c (.p (.int .i64 18)))))))] []) .ret) .skip))))) (.seq (.seq (.reg [(oA 20 (.mv (.t 0)))] []) (.block 1 (.seq (.reg [(oA 22 (.bin .eql 0 (.t 20) (.k (.v (.c (.p (.str [108, 101, 110]))))))), (oA 21 (.mv (.t 22)))] []) (.cond (.t 21) (.seq (.reg [(oA 23 (.mv (.t 1))), (oA 24 (.iaddr 6 (.t 23) (.k (.v (.c (.p (.int .i64 0))))))), (oA 25 (.load true 6 (.t 24))), (oA 26 (.call (.k (.v (.c (.func 86 [])))) [(.t 25)])), (oA 27 (.extract (.t 26) 0)), (oA 28 (.extract (.t 26) 1)), (oN (.store 6 (.t 4) (.t 27))), (oA 5 (.mv (.t 28)))] []) .ret) (.seq (.seq (.reg [(oA 30 (.bin .eql 0 (.t 20) (.k (.v (.c (.p (.str [110, 111, 116]))))))), (oA 29 (.mv (.t 30)))] []) (.cond (.t 29) .skip (.seq (.reg [(oA 31 (.bin .eql 0 (.t 20) (.k (.v (.c (.p (.str [97, 110, 100]))))))), (oA 29 (.mv (.t 31)))] []) (.cond (.t 29) .skip (.reg [(oA 32 (.bin .eql 0 (.t 20) (.k (.v (.c (.p (.str [111, 114]))))))), (oA 29 (.mv (.t 32)))] []))))) (.mark 1 [0, 1, 4, 20, 29] (.cond (.t 29) (.seq (.reg [(oA 33 (.mv (.t 0))), (oA 34 (.mv (.t 1))), (oA 35 (.call (.k (.v (.c (.func 87 [])))) [(.t 33), (.t 34)])), (oA 36 (.extract (.t 35) 0)), (oA 37 (.extract (.t 35) 1)), (oN (.store 6 (.t 4) (.t 36))), (oA 5 (.mv (.t 37)))] []) .ret) (.seq (.reg [(oA 39 (.bin .eql 0 (.t 20) (.k (.v (.c (.p (.str [101, 113]))))))), (oA 38 (.mv (.t 39)))] []) (.cond (.t 38) (.seq (.reg [(oA 40 (.mv (.t 1))), (oA 41 (.call (.k (.v (.c (.func 88 [])))) [(.t 40)])), (oA 42 (.extract (.t 41) 0)), (oA 43 (.extract (.t 41) 1)), (oN (.store 6 (.t 4) (.t 42))), (oA 5 (.mv (.t 43)))] []) .ret) (.seq (.reg [(oA 45 (.bin .eql 0 (.t 20) (.k (.v (.c (.p (.str [99, 97, 116]))))))), (oA 44 (.mv (.t 45)))] []) (.cond (.t 44) (.seq (.reg [(oA 46 (.mv (.t 1))), (oA 47 (.call (.k (.v (.c (.func 89 [])))) [(.t 46)])), (oA 48 (.extract (.t 47) 0)), (oA 49 (.extract (.t 47) 1)), (oN (.store 6 (.t 4) (.t 48))), (oA 5 (.mv (.t 49)))] []) .ret) (.seq (.reg [(oA 51 (.bin .eql 0 (.t 20) (.k (.v (.c (.p (.str [116, 101, 120, 116]))))))), (oA 50 (.mv (.t 51)))] []) (.cond (.t 50) (.seq (.reg [(oA 52 (.mv (.t 1))), (oA 53 (.iaddr 6 (.t 52) (.k (.v (.c (.p (.int .i64 0))))))), (oA 54 (.load true 6 (.t 53))), (oA 55 (.call (.k (.v (.c (.func 90 [])))) [(.t 54)])), (oA 56 (.extract (.t 55) 0)), (oA 57 (.extract (.t 55) 1)), (oN (.store 6 (.t 4) (.t 56))), (oA 5 (.mv (.t 57)))] []) .ret) (.seq (.reg [(oA 59 (.bin .eql 0 (.t 20) (.k (.v (.c (.p (.str [97, 116]))))))), (oA 58 (.mv (.t 59)))] []) (.cond (.t 58) (.seq (.reg [(oA 60 (.mv (.t 1))), (oA 61 (.call (.k (.v (.c (.func 91 [])))) [(.t 60)])), (oA 62 (.extract (.t 61) 0)), (oA 63 (.extract (.t 61) 1)), (oN (.store 6 (.t 4) (.t 62))), (oA 5 (.mv (.t 63)))] []) .ret) (.seq (.reg [(oA 65 (.bin .eql 0 (.t 20) (.k (.v (.c (.p (.str [103, 101, 116]))))))), (oA 64 (.mv (.t 65)))] []) (.cond (.t 64) (.seq (.seq (.reg [(oA 66 (.mv (.t 1))), (oA 67 (.bslice 1 2 [(.p (.int .i64 0))] [(0, (.k (.v (.c (.p (.int .i64 5)))))), (1, (.k (.v (.c (.p (.int .i64 3))))))] false)), (oA 68 (.call (.k (.v (.c (.func 92 [])))) [(.t 66), (.t 67)])), (oA 69 (.un .not (.t 68)))] []) (.cond (.t 69) (.seq (.reg [(oA 70 (.build [(.p (.int .i64 0)), (.p (.bool false)), (.p (.int .i64 0)), (.p (.str [])), (.p .nilslice), (.p .nilslice)] [])), (oN (.store 6 (.t 4) (.t 70))), (oA 5 (.mv (.k (.v (.c (.p (.int .i64 17)))))))] []) .ret) .skip)) (.seq (.reg [(oA 72 (.mv (.t 1))), (oA 73 (.iaddr 6 (.t 72) (.k (.v (.c (.p (.int .i64 0))))))), (oA 74 (.load true 6 (.t 73))), (oA 75 (.mv (.t 1))), (oA 76 (.iaddr 6 (.t 75) (.k (.v (.c (.p (.int .i64 1))))))), (oA 77 (.faddr 3 (.t 76))), (oA 78 (.load false 1 (.t 77))), (oA 79 (.call (.k (.v (.c (.func 93 [])))) [(.t 74), (.t 78)])), (oA 71 (.mv (.t 79))), (oA 80 (.extract (.t 71) 0)), (oA 81 (.extract (.t 71) 1)), (oA 6 (.alloc [(.p (.int .i64 0)), (.p (.bool false)), (.p (.int .i64 0)), (.p (.str [])), (.p .nilslice), (.p .nilslice)] false)), (oN (.store 6 (.t 6) (.t 80))), (oA 7 (.mv (.t 81)))] [(2, 11), (6, 11), (7, 11)]) (.seq (.reg [(oA 82 (.load true 6 (.t 6))), (oN (.store 6 (.t 4) (.t 82))), (oA 5 (.mv (.k (.v (.c (.p (.int .i64 0)))))))] []) .ret))) (.seq (.reg [(oA 84 (.bin .eql 0 (.t 20) (.k (.v (.c (.p (.str [104, 97, 115]))))))), (oA 83 (.mv (.t 84)))] []) (.cond (.t 83) (.seq (.reg [(oA 85 (.mv (.t 1))), (oA 86 (.iaddr 6 (.t 85) (.k (.v (.c (.p (.int .i64 0))))))), (oA 87 (.faddr 0 (.t 86))), (oA 88 (.load false 1 (.t 87))), (oA 89 (.bin .neq 0 (.t 88) (.k (.v (.c (.p (.int .i64 0))))))), (oA 90 (.call (.k (.v (.c (.func 94 [])))) [(.t 89)])), (oN (.store 6 (.t 4) (.t 90))), (oA 5 (.mv (.k (.v (.c (.p (.int .i64 0)))))))] []) .ret) (.seq (.reg [(oA 92 (.bin .eql 0 (.t 20) (.k (.v (.c (.p (.str [111, 114, 101, 108, 115, 101]))))))), (oA 91 (.mv (.t 92)))] []) (.cond (.t 91) (.seq (.seq (.reg [(oA 93 (.mv (.t 1))), (oA 94 (.iaddr 6 (.t 93) (.k (.v (.c (.p (.int .i64 0))))))), (oA 95 (.faddr 0 (.t 94))), (oA 96 (.load false 1 (.t 95))), (oA 97 (.bin .neq 0 (.t 96) (.k (.v (.c (.p (.int .i64 0)))))))] []) (.cond (.t 97) (.seq (.reg [(oA 98 (.mv (.t 1))), (oA 99 (.iaddr 6 (.t 98) (.k (.v (.c (.p (.int .i64 0))))))), (oA 100 (.load true 6 (.t 99))), (oA 101 (.call (.k (.v (.c (.func 95 [])))) [(.t 100)])), (oN (.store 6 (.t 4) (.t 101))), (oA 5 (.mv (.k (.v (.c (.p (.int .i64 0)))))))] []) .ret) .skip)) (.seq (.reg [(oA 102 (.mv (.t 1))), (oA 103 (.iaddr 6 (.t 102) (.k (.v (.c (.p (.int .i64 1))))))), (oA 104 (.load true 6 (.t 103))), (oA 105 (.call (.k (.v (.c (.func 95 [])))) [(.t 104)])), (oN (.store 6 (.t 4) (.t 105))), (oA 5 (.mv (.k (.v (.c (.p (.int .i64 0)))))))] []) .ret)) .skip))))))))))))))))))))) (.seq (.reg [(oA 106 (.mv (.t 0))), (oA 107 (.mv (.t 1))), (oA 108 (.call (.k (.v (.c (.func 96 [])))) [(.t 106), (.t 107)])), (oA 109 (.extract (.t 108) 0)), (oA 110 (.extract (.t 108) 1)), (oN (.store 6 (.t 4) (.t 109))), (oA 5 (.mv (.t 110)))] []) .ret)))) }
theorem t38 : compF Tryd.prog (globs2 tabs opq) (fun _ => false) true Tryd.f38 = some c38.erase := by kernel_rfl
noncomputable def b38_0 (O : Oracle) (R : Jump) (q : Nat) (x0 x1 : TVal) (h : Heap) : Res1 :=
 vop O (.alloc [(.p (.int .i64 0)), (.p (.bool false)), (.p (.int .i64 0)), (.p (.str [])), (.p .nilslice), (.p .nilslice)] false) h 4 fun x4 h =>
 vcall O (.v (.c (.func 84 []))) [x0] h 10 fun x10 h =>
 vop O (.un .not (.k x10)) h 11 fun x11 h =>
 vif x11 (
 vop O (.build [(.p (.int .i64 0)), (.p (.bool false)), (.p (.int .i64 0)), (.p (.str [])), (.p .nilslice), (.p .nilslice)] []) h 12 fun x12 h =>
 vstore 6 x4 x12 h fun _ h =>
 vcell true 6 x4 h fun c0 => tcomp (kI 15) fun c1 => vfin true q [c0, c1] h)
 (vlen O 2 x1 h 15 fun x15 h =>
 vcall O (.v (.c (.func 85 []))) [x0] h 17 fun x17 h =>
 vbin .neq 0 x15 x17 h fun x18 h =>
 vif x18 (
 vop O (.build [(.p (.int .i64 0)), (.p (.bool false)), (.p (.int .i64 0)), (.p (.str [])), (.p .nilslice), (.p .nilslice)] []) h 19 fun x19 h =>
 vstore 6 x4 x19 h fun _ h =>
 vcell true 6 x4 h fun c0 => tcomp (kI 18) fun c1 => vfin true q [c0, c1] h)
 (vbin .eql 0 x0 (kS [108, 101, 110]) h fun x22 h =>
 vif x22 (
 viaddr 6 x1 (kI 0) h fun x24 h =>
 vload true 6 x24 h fun x25 h =>
 vcall O (.v (.c (.func 86 []))) [x25] h 26 fun x26 h =>
 vext x26 0 h fun x27 h =>
 vext x26 1 h fun x28 h =>
 vstore 6 x4 x27 h fun _ h =>
 vcell true 6 x4 h fun c0 => tcomp x28 fun c1 => vfin true q [c0, c1] h)
 (vbin .eql 0 x0 (kS [110, 111, 116]) h fun x30 h =>
 vif x30 (
 R 1 [x0, x1, x4, x0, x30] h)
 (vbin .eql 0 x0 (kS [97, 110, 100]) h fun x31 h =>
 vif x31 (
 R 1 [x0, x1, x4, x0, x31] h)
 (vbin .eql 0 x0 (kS [111, 114]) h fun x32 h =>
 R 1 [x0, x1, x4, x0, x32] h)))))
theorem e38_0 (O : Oracle) (R : Jump) (q : Nat) (x0 x1 : TVal) (h : Heap) : b38_0 O R q x0 x1 h = stepF c38 O R q 0 [x0, x1] h := by kernel_rfl
noncomputable def b38_1 (O : Oracle) (R : Jump) (q : Nat) (x0 x1 x4 x20 x29 : TVal) (h : Heap) : Res1 :=
 vif x29 (
 vcall O (.v (.c (.func 87 []))) [x0, x1] h 35 fun x35 h =>
 vext x35 0 h fun x36 h =>
 vext x35 1 h fun x37 h =>
 vstore 6 x4 x36 h fun _ h =>
 vcell true 6 x4 h fun c0 => tcomp x37 fun c1 => vfin true q [c0, c1] h)
 (vbin .eql 0 x20 (kS [101, 113]) h fun x39 h =>
 vif x39 (
 vcall O (.v (.c (.func 88 []))) [x1] h 41 fun x41 h =>
 vext x41 0 h fun x42 h =>
 vext x41 1 h fun x43 h =>
 vstore 6 x4 x42 h fun _ h =>
 vcell true 6 x4 h fun c0 => tcomp x43 fun c1 => vfin true q [c0, c1] h)
 (vbin .eql 0 x20 (kS [99, 97, 116]) h fun x45 h =>
 vif x45 (
 vcall O (.v (.c (.func 89 []))) [x1] h 47 fun x47 h =>
 vext x47 0 h fun x48 h =>
 vext x47 1 h fun x49 h =>
 vstore 6 x4 x48 h fun _ h =>
 vcell true 6 x4 h fun c0 => tcomp x49 fun c1 => vfin true q [c0, c1] h)
 (vbin .eql 0 x20 (kS [116, 101, 120, 116]) h fun x51 h =>
 vif x51 (
 viaddr 6 x1 (kI 0) h fun x53 h =>
 vload true 6 x53 h fun x54 h =>
 vcall O (.v (.c (.func 90 []))) [x54] h 55 fun x55 h =>
 vext x55 0 h fun x56 h =>
 vext x55 1 h fun x57 h =>
 vstore 6 x4 x56 h fun _ h =>
 vcell true 6 x4 h fun c0 => tcomp x57 fun c1 => vfin true q [c0, c1] h)
 (vbin .eql 0 x20 (kS [97, 116]) h fun x59 h =>
 vif x59 (
 vcall O (.v (.c (.func 91 []))) [x1] h 61 fun x61 h =>
 vext x61 0 h fun x62 h =>
 vext x61 1 h fun x63 h =>
 vstore 6 x4 x62 h fun _ h =>
 vcell true 6 x4 h fun c0 => tcomp x63 fun c1 => vfin true q [c0, c1] h)
 (vbin .eql 0 x20 (kS [103, 101, 116]) h fun x65 h =>
 vif x65 (
 vop O (.bslice 1 2 [(.p (.int .i64 0))] [(0, (.k (kI 5))), (1, (.k (kI 3)))] false) h 67 fun x67 h =>
 vcall O (.v (.c (.func 92 []))) [x1, x67] h 68 fun x68 h =>
 vop O (.un .not (.k x68)) h 69 fun x69 h =>
 vif x69 (
 vop O (.build [(.p (.int .i64 0)), (.p (.bool false)), (.p (.int .i64 0)), (.p (.str [])), (.p .nilslice), (.p .nilslice)] []) h 70 fun x70 h =>
 vstore 6 x4 x70 h fun _ h =>
 vcell true 6 x4 h fun c0 => tcomp (kI 17) fun c1 => vfin true q [c0, c1] h)
 (vtouch O (.mv (.k x1)) h 72 fun x72 h t0 =>
 vtouch O (.iaddr 6 (.k x72) (.k (kI 0))) h 73 fun x73 h t1 =>
 vtouch O (.load true 6 (.k x73)) h 74 fun x74 h t2 =>
 vtouch O (.mv (.k x1)) h 75 fun x75 h t3 =>
 vtouch O (.iaddr 6 (.k x75) (.k (kI 1))) h 76 fun x76 h t4 =>
 vtouch O (.faddr 3 (.k x76)) h 77 fun x77 h t5 =>
 vtouch O (.load false 1 (.k x77)) h 78 fun x78 h t6 =>
 vtouch O (.call (.k (.v (.c (.func 93 [])))) [(.k x74), (.k x78)]) h 79 fun x79 h t7 =>
 vtouch O (.mv (.k x79)) h 71 fun x71 h t8 =>
 vtouch O (.extract (.k x71) 0) h 80 fun x80 h t9 =>
 vtouch O (.extract (.k x71) 1) h 81 fun x81 h t10 =>
 vtouch O (.alloc [(.p (.int .i64 0)), (.p (.bool false)), (.p (.int .i64 0)), (.p (.str [])), (.p .nilslice), (.p .nilslice)] false) h 6 fun x6 h t11 =>
 vtouch O (.store 6 (.k x6) (.k x80)) h 1000000 fun _ h t12 =>
 vtouch O (.mv (.k x81)) h 7 fun x7 h t13 =>
 bif apartAll [t0, t1, t2, t3, t4, t5, t6, t7, t8, t9, t10, t11, t12, t13] [(2, 11), (6, 11), (7, 11)] then
 vload true 6 x6 h fun x82 h =>
 vstore 6 x4 x82 h fun _ h =>
 vcell true 6 x4 h fun c0 => tcomp (kI 0) fun c1 => vfin true q [c0, c1] h
 else none))
 (vbin .eql 0 x20 (kS [104, 97, 115]) h fun x84 h =>
 vif x84 (
 viaddr 6 x1 (kI 0) h fun x86 h =>
 vfaddr 0 x86 h fun x87 h =>
 vload false 1 x87 h fun x88 h =>
 vbin .neq 0 x88 (kI 0) h fun x89 h =>
 vcall O (.v (.c (.func 94 []))) [x89] h 90 fun x90 h =>
 vstore 6 x4 x90 h fun _ h =>
 vcell true 6 x4 h fun c0 => tcomp (kI 0) fun c1 => vfin true q [c0, c1] h)
 (vbin .eql 0 x20 (kS [111, 114, 101, 108, 115, 101]) h fun x92 h =>
 vif x92 (
 viaddr 6 x1 (kI 0) h fun x94 h =>
 vfaddr 0 x94 h fun x95 h =>
 vload false 1 x95 h fun x96 h =>
 vbin .neq 0 x96 (kI 0) h fun x97 h =>
 vif x97 (
 viaddr 6 x1 (kI 0) h fun x99 h =>
 vload true 6 x99 h fun x100 h =>
 vcall O (.v (.c (.func 95 []))) [x100] h 101 fun x101 h =>
 vstore 6 x4 x101 h fun _ h =>
 vcell true 6 x4 h fun c0 => tcomp (kI 0) fun c1 => vfin true q [c0, c1] h)
 (viaddr 6 x1 (kI 1) h fun x103 h =>
 vload true 6 x103 h fun x104 h =>
 vcall O (.v (.c (.func 95 []))) [x104] h 105 fun x105 h =>
 vstore 6 x4 x105 h fun _ h =>
 vcell true 6 x4 h fun c0 => tcomp (kI 0) fun c1 => vfin true q [c0, c1] h))
 (vcall O (.v (.c (.func 96 []))) [x0, x1] h 108 fun x108 h =>
 vext x108 0 h fun x109 h =>
 vext x108 1 h fun x110 h =>
 vstore 6 x4 x109 h fun _ h =>
 vcell true 6 x4 h fun c0 => tcomp x110 fun c1 => vfin true q [c0, c1] h))))))))
theorem e38_1 (O : Oracle) (R : Jump) (q : Nat) (x0 x1 x4 x20 x29 : TVal) (h : Heap) : b38_1 O R q x0 x1 x4 x20 x29 h = stepF c38 O R q 1 [x0, x1, x4, x20, x29] h := by kernel_rfl
noncomputable def d38 : BlkF := fun O R q => [.s fun y0 => .s fun y1 => .z fun h => b38_0 O R q y0 y1 h, .s fun y0 => .s fun y1 => .s fun y2 => .s fun y3 => .s fun y4 => .z fun h => b38_1 O R q y0 y1 y2 y3 y4 h]
theorem o38 (O : Oracle) (R : Jump) (q : Nat) : HoldsAll c38 O R q 0 (d38 O R q) := ⟨fun y0 y1 h => e38_0 O R q y0 y1 h, fun y0 y1 y2 y3 y4 h => e38_1 O R q y0 y1 y2 y3 y4 h, trivial⟩
/- sprue/sprueref13.Get -/
def c39 : MFunc := { np := 2, res := [.cell 4 true 6, .t 5], frz := true, body := (.seq (.reg [(oA 2 (.box (.t 0) false)), (oA 4 (.alloc [(.p (.int .i64 0)), (.p (.bool false)), (.p (.int .i64 0)), (.p (.str [])), (.p .nilslice), (.p .nilslice)] false)), (oA 5 (.mv (.k (.v (.c (.p (.bool false)))))))] []) (.seq (.seq (.reg [(oA 6 (.mv (.k (.v (.c (.p (.int .i64 0)))))))] []) (.block 0 (.loop 1 [1, 2, 4, 6] (.seq (.seq (.reg [(oA 7 (.mv (.t 6))), (oA 8 (.faddr 4 (.t 2))), (oA 9 (.load false 1 (.t 8))), (oA 10 (.len 2 (.t 9))), (oA 11 (.bin .lss 0 (.t 7) (.t 10))), (oA 12 (.mv (.t 11))), ⟨(some 13), (.mv (.t 6)), (some (12, true))⟩, ⟨(some 14), (.faddr 5 (.t 2)), (some (12, true))⟩, ⟨(some 15), (.load false 1 (.t 14)), (some (12, true))⟩, ⟨(some 16), (.len 2 (.t 15)), (some (12, true))⟩, ⟨(some 17), (.bin .lss 0 (.t 13) (.t 16)), (some (12, true))⟩, (oA 18 (.pick (.t 12) (.t 17) (.k (.v (.c (.p (.bool false))))))), (oA 19 (.mv (.t 18))), ⟨(some 20), (.faddr 0 (.t 2)), (some (19, true))⟩, ⟨(some 21), (.load false 1 (.t 20)), (some (19, true))⟩, ⟨(some 22), (.bin .eql 0 (.t 21) (.k (.v (.c (.p (.int .i64 5)))))), (some (19, true))⟩, (oA 23 (.pick (.t 19) (.t 22) (.k (.v (.c (.p (.bool false)))))))] []) (.cond (.t 23) .skip (.exit 0))) (.seq (.block 1 (.seq (.reg [(oA 26 (.faddr 4 (.t 2))), (oA 27 (.load false 1 (.t 26))), (oA 28 (.mv (.t 6))), (oA 29 (.iaddr 1 (.t 27) (.t 28))), (oA 30 (.load false 1 (.t 29))), (oA 31 (.mv (.t 1))), (oA 32 (.bin .eql 0 (.t 30) (.t 31)))] []) (.cond (.t 32) (.seq (.reg [(oA 33 (.faddr 5 (.t 2))), (oA 34 (.load false 1 (.t 33))), (oA 35 (.mv (.t 6))), (oA 36 (.iaddr 6 (.t 34) (.t 35))), (oA 37 (.load true 6 (.t 36))), (oN (.store 6 (.t 4) (.t 37))), (oA 5 (.mv (.k (.v (.c (.p (.bool true)))))))] []) .ret) .skip))) (.reg [(oA 24 (.mv (.t 6))), (oA 25 (.bin .add 0 (.t 24) (.k (.v (.c (.p (.int .i64 1))))))), (oA 6 (.mv (.t 25)))] [])))))) (.mark 2 [4] (.seq (.reg [(oA 38 (.build [(.p (.int .i64 0)), (.p (.bool false)), (.p (.int .i64 0)), (.p (.str [])), (.p .nilslice), (.p .nilslice)] [])), (oN (.store 6 (.t 4) (.t 38))), (oA 5 (.mv (.k (.v (.c (.p (.bool false)))))))] []) .ret)))) }
theorem t39 : compF Tryd.prog (globs2 tabs opq) (fun _ => false) true Tryd.f39 = some c39.erase := by kernel_rfl
noncomputable def b39_0 (O : Oracle) (R : Jump) (q : Nat) (x0 x1 : TVal) (h : Heap) : Res1 :=
 vop O (.box (.k x0) false) h 2 fun x2 h =>
 vop O (.alloc [(.p (.int .i64 0)), (.p (.bool false)), (.p (.int .i64 0)), (.p (.str [])), (.p .nilslice), (.p .nilslice)] false) h 4 fun x4 h =>
 R 1 [x1, x2, x4, (kI 0)] h
theorem e39_0 (O : Oracle) (R : Jump) (q : Nat) (x0 x1 : TVal) (h : Heap) : b39_0 O R q x0 x1 h = stepF c39 O R q 0 [x0, x1] h := by kernel_rfl
noncomputable def b39_1 (O : Oracle) (R : Jump) (q : Nat) (x1 x2 x4 x6 : TVal) (h : Heap) : Res1 :=
 vfaddr 4 x2 h fun x8 h =>
 vload false 1 x8 h fun x9 h =>
 vlen O 2 x9 h 10 fun x10 h =>
 vbin .lss 0 x6 x10 h fun x11 h =>
 vguard x11 true (fun kk => kk x6 h) h fun x13 h =>
 vguard x11 true (fun kk => vfaddr 5 x2 h kk) h fun x14 h =>
 vguard x11 true (fun kk => vload false 1 x14 h kk) h fun x15 h =>
 vguard x11 true (fun kk => vlen O 2 x15 h 16 kk) h fun x16 h =>
 vguard x11 true (fun kk => vbin .lss 0 x13 x16 h kk) h fun x17 h =>
 vop O (.pick (.k x11) (.k x17) (.k (kB false))) h 18 fun x18 h =>
 vguard x18 true (fun kk => vfaddr 0 x2 h kk) h fun x20 h =>
 vguard x18 true (fun kk => vload false 1 x20 h kk) h fun x21 h =>
 vguard x18 true (fun kk => vbin .eql 0 x21 (kI 5) h kk) h fun x22 h =>
 vop O (.pick (.k x18) (.k x22) (.k (kB false))) h 23 fun x23 h =>
 vif x23 (
 vfaddr 4 x2 h fun x26 h =>
 vload false 1 x26 h fun x27 h =>
 viaddr 1 x27 x6 h fun x29 h =>
 vload false 1 x29 h fun x30 h =>
 vbin .eql 0 x30 x1 h fun x32 h =>
 vif x32 (
 vfaddr 5 x2 h fun x33 h =>
 vload false 1 x33 h fun x34 h =>
 viaddr 6 x34 x6 h fun x36 h =>
 vload true 6 x36 h fun x37 h =>
 vstore 6 x4 x37 h fun _ h =>
 vcell true 6 x4 h fun c0 => tcomp (kB true) fun c1 => vfin true q [c0, c1] h)
 (vbin .add 0 x6 (kI 1) h fun x25 h =>
 R 1 [x1, x2, x4, x25] h))
 (R 2 [x4] h)
theorem e39_1 (O : Oracle) (R : Jump) (q : Nat) (x1 x2 x4 x6 : TVal) (h : Heap) : b39_1 O R q x1 x2 x4 x6 h = stepF c39 O R q 1 [x1, x2, x4, x6] h := by kernel_rfl
noncomputable def b39_2 (O : Oracle) (R : Jump) (q : Nat) (x4 : TVal) (h : Heap) : Res1 :=
 vop O (.build [(.p (.int .i64 0)), (.p (.bool false)), (.p (.int .i64 0)), (.p (.str [])), (.p .nilslice), (.p .nilslice)] []) h 38 fun x38 h =>
 vstore 6 x4 x38 h fun _ h =>
 vcell true 6 x4 h fun c0 => tcomp (kB false) fun c1 => vfin true q [c0, c1] h
theorem e39_2 (O : Oracle) (R : Jump) (q : Nat) (x4 : TVal) (h : Heap) : b39_2 O R q x4 h = stepF c39 O R q 2 [x4] h := by kernel_rfl
noncomputable def d39 : BlkF := fun O R q => [.s fun y0 => .s fun y1 => .z fun h => b39_0 O R q y0 y1 h, .s fun y0 => .s fun y1 => .s fun y2 => .s fun y3 => .z fun h => b39_1 O R q y0 y1 y2 y3 h, .s fun y0 => .z fun h => b39_2 O R q y0 h]
theorem o39 (O : Oracle) (R : Jump) (q : Nat) : HoldsAll c39 O R q 0 (d39 O R q) := ⟨fun y0 y1 h => e39_0 O R q y0 y1 h, fun y0 y1 y2 y3 h => e39_1 O R q y0 y1 y2 y3 h, fun y0 h => e39_2 O R q y0 h, trivial⟩
/- sprue/spruelaw13.within -/
def c79 : MFunc := { np := 2, res := [.t 4], frz := true, body := (.seq (.reg [(oA 4 (.mv (.k (.v (.c (.p (.int .i64 0)))))))] []) (.seq (.reg [(oA 6 (.mv (.t 0))), (oA 7 (.mv (.t 1))), (oA 8 (.bin .rem 0 (.t 6) (.t 7))), (oA 5 (.mv (.t 8)))] []) (.seq (.seq (.reg [(oA 9 (.mv (.t 5))), (oA 10 (.bin .lss 0 (.t 9) (.k (.v (.c (.p (.int .i64 0)))))))] []) (.cond (.t 10) (.reg [(oA 11 (.mv (.t 5))), (oA 12 (.mv (.t 1))), (oA 13 (.bin .add 0 (.t 11) (.t 12))), (oA 5 (.mv (.t 13)))] []) .skip)) (.seq (.reg [(oA 14 (.mv (.t 5))), (oA 4 (.mv (.t 14)))] []) .ret)))) }
theorem t79 : compF Tryd.prog (globs2 tabs opq) (fun _ => false) true Tryd.f79 = some c79.erase := by kernel_rfl
noncomputable def b79_0 (O : Oracle) (R : Jump) (q : Nat) (x0 x1 : TVal) (h : Heap) : Res1 :=
 vbin .rem 0 x0 x1 h fun x8 h =>
 vbin .lss 0 x8 (kI 0) h fun x10 h =>
 vif x10 (
 vbin .add 0 x8 x1 h fun x13 h =>
 tcomp x13 fun c0 => vfin true q [c0] h)
 (tcomp x8 fun c0 => vfin true q [c0] h)
theorem e79_0 (O : Oracle) (R : Jump) (q : Nat) (x0 x1 : TVal) (h : Heap) : b79_0 O R q x0 x1 h = stepF c79 O R q 0 [x0, x1] h := by kernel_rfl
noncomputable def d79 : BlkF := fun O R q => [.s fun y0 => .s fun y1 => .z fun h => b79_0 O R q y0 y1 h]
theorem o79 (O : Oracle) (R : Jump) (q : Nat) : HoldsAll c79 O R q 0 (d79 O R q) := ⟨fun y0 y1 h => e79_0 O R q y0 y1 h, trivial⟩
/- sprue/spruelaw13.Text -/
def c80 : MFunc := { np := 1, res := [.t 2], frz := true, body := (.seq (.reg [(oA 2 (.mv (.k (.v (.c (.p (.str [])))))))] []) (.seq (.reg [(oA 3 (.mv (.k (.v (.c (.p (.str [])))))))] []) (.seq (.seq (.reg [(oA 4 (.mv (.k (.v (.c (.p (.int .i64 0)))))))] []) (.block 0 (.loop 1 [0, 3, 4] (.seq (.seq (.reg [(oA 5 (.mv (.t 4))), (oA 6 (.mv (.t 0))), (oA 7 (.len 2 (.t 6))), (oA 8 (.bin .lss 0 (.t 5) (.t 7)))] []) (.cond (.t 8) .skip (.exit 0))) (.seq (.block 1 (.seq (.reg [(oA 11 (.mv (.t 0))), (oA 12 (.mv (.t 4))), (oA 13 (.iaddr 1 (.t 11) (.t 12))), (oA 14 (.load false 1 (.t 13))), (oA 15 (.bin .geq 0 (.t 14) (.k (.v (.c (.p (.int .u8 32))))))), (oA 16 (.mv (.t 15))), ⟨(some 17), (.mv (.t 0)), (some (16, false))⟩, ⟨(some 18), (.mv (.t 4)), (some (16, false))⟩, ⟨(some 19), (.iaddr 1 (.t 17) (.t 18)), (some (16, false))⟩, ⟨(some 20), (.load false 1 (.t 19)), (some (16, false))⟩, ⟨(some 21), (.bin .eql 0 (.t 20) (.k (.v (.c (.p (.int .u8 10)))))), (some (16, false))⟩, (oA 22 (.pick (.t 16) (.k (.v (.c (.p (.bool true))))) (.t 21))), (oA 23 (.mv (.t 22))), ⟨(some 24), (.mv (.t 0)), (some (23, false))⟩, ⟨(some 25), (.mv (.t 4)), (some (23, false))⟩, ⟨(some 26), (.iaddr 1 (.t 24) (.t 25)), (some (23, false))⟩, ⟨(some 27), (.load false 1 (.t 26)), (some (23, false))⟩, ⟨(some 28), (.bin .eql 0 (.t 27) (.k (.v (.c (.p (.int .u8 9)))))), (some (23, false))⟩, (oA 29 (.pick (.t 23) (.k (.v (.c (.p (.bool true))))) (.t 28)))] []) (.cond (.t 29) (.reg [(oA 30 (.mv (.t 3))), (oA 31 (.mv (.t 0))), (oA 32 (.mv (.t 4))), (oA 33 (.mv (.t 4))), (oA 34 (.bin .add 0 (.t 33) (.k (.v (.c (.p (.int .i64 1))))))), (oA 35 (.slice 1 false (.t 31) (some (.t 32)) (some (.t 34)) none)), (oA 36 (.toStr (.t 35))), (oA 37 (.bin .add 0 (.t 30) (.t 36))), (oA 3 (.mv (.t 37)))] []) .skip))) (.mark 2 [0, 3, 4] (.reg [(oA 9 (.mv (.t 4))), (oA 10 (.bin .add 0 (.t 9) (.k (.v (.c (.p (.int .i64 1))))))), (oA 4 (.mv (.t 10)))] []))))))) (.seq (.reg [(oA 38 (.mv (.t 3))), (oA 2 (.mv (.t 38)))] []) .ret)))) }
theorem t80 : compF Tryd.prog (globs2 tabs opq) (fun _ => false) true Tryd.f80 = some c80.erase := by kernel_rfl
noncomputable def b80_0 (O : Oracle) (R : Jump) (q : Nat) (x0 : TVal) (h : Heap) : Res1 :=
 R 1 [x0, (kS []), (kI 0)] h
theorem e80_0 (O : Oracle) (R : Jump) (q : Nat) (x0 : TVal) (h : Heap) : b80_0 O R q x0 h = stepF c80 O R q 0 [x0] h := by kernel_rfl
noncomputable def b80_1 (O : Oracle) (R : Jump) (q : Nat) (x0 x3 x4 : TVal) (h : Heap) : Res1 :=
 vlen O 2 x0 h 7 fun x7 h =>
 vbin .lss 0 x4 x7 h fun x8 h =>
 vif x8 (
 viaddr 1 x0 x4 h fun x13 h =>
 vload false 1 x13 h fun x14 h =>
 vbin .geq 0 x14 (.v (.c (.p (.int .u8 32)))) h fun x15 h =>
 vguard x15 false (fun kk => kk x0 h) h fun x17 h =>
 vguard x15 false (fun kk => kk x4 h) h fun x18 h =>
 vguard x15 false (fun kk => viaddr 1 x17 x18 h kk) h fun x19 h =>
 vguard x15 false (fun kk => vload false 1 x19 h kk) h fun x20 h =>
 vguard x15 false (fun kk => vbin .eql 0 x20 (.v (.c (.p (.int .u8 10)))) h kk) h fun x21 h =>
 vop O (.pick (.k x15) (.k (kB true)) (.k x21)) h 22 fun x22 h =>
 vguard x22 false (fun kk => kk x0 h) h fun x24 h =>
 vguard x22 false (fun kk => kk x4 h) h fun x25 h =>
 vguard x22 false (fun kk => viaddr 1 x24 x25 h kk) h fun x26 h =>
 vguard x22 false (fun kk => vload false 1 x26 h kk) h fun x27 h =>
 vguard x22 false (fun kk => vbin .eql 0 x27 (.v (.c (.p (.int .u8 9)))) h kk) h fun x28 h =>
 vop O (.pick (.k x22) (.k (kB true)) (.k x28)) h 29 fun x29 h =>
 vif x29 (
 vbin .add 0 x4 (kI 1) h fun x34 h =>
 vop O (.slice 1 false (.k x0) (some (.k x4)) (some (.k x34)) none) h 35 fun x35 h =>
 vop O (.toStr (.k x35)) h 36 fun x36 h =>
 vbin .add 0 x3 x36 h fun x37 h =>
 R 2 [x0, x37, x4] h)
 (R 2 [x0, x3, x4] h))
 (tcomp x3 fun c0 => vfin true q [c0] h)
theorem e80_1 (O : Oracle) (R : Jump) (q : Nat) (x0 x3 x4 : TVal) (h : Heap) : b80_1 O R q x0 x3 x4 h = stepF c80 O R q 1 [x0, x3, x4] h := by kernel_rfl
noncomputable def b80_2 (O : Oracle) (R : Jump) (q : Nat) (x0 x3 x4 : TVal) (h : Heap) : Res1 :=
 vbin .add 0 x4 (kI 1) h fun x10 h =>
 R 1 [x0, x3, x10] h
theorem e80_2 (O : Oracle) (R : Jump) (q : Nat) (x0 x3 x4 : TVal) (h : Heap) : b80_2 O R q x0 x3 x4 h = stepF c80 O R q 2 [x0, x3, x4] h := by kernel_rfl
noncomputable def d80 : BlkF := fun O R q => [.s fun y0 => .z fun h => b80_0 O R q y0 h, .s fun y0 => .s fun y1 => .s fun y2 => .z fun h => b80_1 O R q y0 y1 y2 h, .s fun y0 => .s fun y1 => .s fun y2 => .z fun h => b80_2 O R q y0 y1 y2 h]
theorem o80 (O : Oracle) (R : Jump) (q : Nat) : HoldsAll c80 O R q 0 (d80 O R q) := ⟨fun y0 h => e80_0 O R q y0 h, fun y0 y1 y2 h => e80_1 O R q y0 y1 y2 h, fun y0 y1 y2 h => e80_2 O R q y0 y1 y2 h, trivial⟩
/- sprue/spruelaw13.Put -/
def c81 : MFunc := { np := 3, res := [.cell 6 true 6], frz := true, body := (.seq (.reg [(oA 3 (.box (.t 0) false)), (oA 5 (.box (.t 2) false)), (oA 6 (.alloc [(.p (.int .i64 0)), (.p (.bool false)), (.p (.int .i64 0)), (.p (.str [])), (.p .nilslice), (.p .nilslice)] false))] []) (.seq (.reg [(oA 7 (.mv (.k (.v (.c (.p (.int .i64 0)))))))] []) (.seq (.block 0 (.loop 1 [1, 3, 5, 6, 7] (.seq (.seq (.reg [(oA 10 (.mv (.t 7))), (oA 11 (.faddr 4 (.t 3))), (oA 12 (.load false 1 (.t 11))), (oA 13 (.len 2 (.t 12))), (oA 14 (.bin .lss 0 (.t 10) (.t 13))), (oA 15 (.mv (.t 14))), ⟨(some 16), (.faddr 4 (.t 3)), (some (15, true))⟩, ⟨(some 17), (.load false 1 (.t 16)), (some (15, true))⟩, ⟨(some 18), (.mv (.t 7)), (some (15, true))⟩, ⟨(some 19), (.iaddr 1 (.t 17) (.t 18)), (some (15, true))⟩, ⟨(some 20), (.load false 1 (.t 19)), (some (15, true))⟩, ⟨(some 21), (.mv (.t 1)), (some (15, true))⟩, ⟨(some 22), (.bin .lss 0 (.t 20) (.t 21)), (some (15, true))⟩, (oA 23 (.pick (.t 15) (.t 22) (.k (.v (.c (.p (.bool false)))))))] []) (.cond (.t 23) .skip (.exit 0))) (.block 1 (.reg [(oA 24 (.mv (.t 7))), (oA 25 (.bin .add 0 (.t 24) (.k (.v (.c (.p (.int .i64 1))))))), (oA 7 (.mv (.t 25)))] []))))) (.mark 2 [1, 3, 5, 6, 7] (.seq (.seq (.reg [(oA 26 (.mv (.t 7))), (oA 27 (.faddr 4 (.t 3))), (oA 28 (.load false 1 (.t 27))), (oA 29 (.len 2 (.t 28))), (oA 30 (.bin .lss 0 (.t 26) (.t 29))), (oA 31 (.mv (.t 30))), ⟨(some 32), (.faddr 4 (.t 3)), (some (31, true))⟩, ⟨(some 33), (.load false 1 (.t 32)), (some (31, true))⟩, ⟨(some 34), (.mv (.t 7)), (some (31, true))⟩, ⟨(some 35), (.iaddr 1 (.t 33) (.t 34)), (some (31, true))⟩, ⟨(some 36), (.load false 1 (.t 35)), (some (31, true))⟩, ⟨(some 37), (.mv (.t 1)), (some (31, true))⟩, ⟨(some 38), (.bin .eql 0 (.t 36) (.t 37)), (some (31, true))⟩, (oA 39 (.pick (.t 31) (.t 38) (.k (.v (.c (.p (.bool false)))))))] []) (.cond (.t 39) (.seq (.reg [(oA 40 (.load true 6 (.t 3))), (oN (.store 6 (.t 6) (.t 40)))] []) .ret) .skip)) (.seq (.reg [(oA 41 (.bslice 1 0 [(.p (.str []))] [] false)), (oA 42 (.faddr 4 (.t 3))), (oA 43 (.load false 1 (.t 42))), (oA 44 (.mv (.t 7))), (oA 45 (.slice 1 false (.t 43) none (some (.t 44)) none)), (oA 46 (.append 1 16 false (.t 41) (.t 45))), (oA 8 (.mv (.t 46)))] []) (.seq (.reg [(oA 47 (.bslice 6 0 [(.p (.int .i64 0)), (.p (.bool false)), (.p (.int .i64 0)), (.p (.str [])), (.p .nilslice), (.p .nilslice)] [] false)), (oA 48 (.faddr 5 (.t 3))), (oA 49 (.load false 1 (.t 48))), (oA 50 (.mv (.t 7))), (oA 51 (.slice 6 false (.t 49) none (some (.t 50)) none)), (oA 52 (.append 6 88 false (.t 47) (.t 51))), (oA 9 (.mv (.t 52)))] []) (.seq (.reg [(oA 53 (.mv (.t 8))), (oA 54 (.mv (.t 1))), (oA 55 (.bslice 1 1 [(.p (.str []))] [(0, (.t 54))] false)), (oA 56 (.append 1 16 false (.t 53) (.t 55))), (oA 57 (.faddr 4 (.t 3))), (oA 58 (.load false 1 (.t 57))), (oA 59 (.mv (.t 7))), (oA 60 (.slice 1 false (.t 58) (some (.t 59)) none none)), (oA 61 (.append 1 16 false (.t 56) (.t 60))), (oA 62 (.mv (.t 9))), (oA 63 (.load true 6 (.t 5))), (oA 64 (.bslice 6 1 [(.p (.int .i64 0)), (.p (.bool false)), (.p (.int .i64 0)), (.p (.str [])), (.p .nilslice), (.p .nilslice)] [(0, (.t 63))] false)), (oA 65 (.append 6 88 false (.t 62) (.t 64))), (oA 66 (.faddr 5 (.t 3))), (oA 67 (.load false 1 (.t 66))), (oA 68 (.mv (.t 7))), (oA 69 (.slice 6 false (.t 67) (some (.t 68)) none none)), (oA 70 (.append 6 88 false (.t 65) (.t 69))), (oA 71 (.faddr 4 (.t 3))), (oN (.store 1 (.t 71) (.t 61))), (oA 72 (.faddr 5 (.t 3))), (oN (.store 1 (.t 72) (.t 70)))] [(2, 5), (3, 5), (2, 10), (3, 10), (8, 10), (2, 11), (3, 11), (5, 11), (8, 11), (2, 14), (3, 14), (8, 14), (11, 14), (12, 14)]) (.seq (.reg [(oA 73 (.load true 6 (.t 3))), (oN (.store 6 (.t 6) (.t 73)))] []) .ret))))))))) }
theorem t81 : compF Tryd.prog (globs2 tabs opq) (fun _ => false) true Tryd.f81 = some c81.erase := by kernel_rfl
noncomputable def b81_0 (O : Oracle) (R : Jump) (q : Nat) (x0 x1 x2 : TVal) (h : Heap) : Res1 :=
 vop O (.box (.k x0) false) h 3 fun x3 h =>
 vop O (.box (.k x2) false) h 5 fun x5 h =>
 vop O (.alloc [(.p (.int .i64 0)), (.p (.bool false)), (.p (.int .i64 0)), (.p (.str [])), (.p .nilslice), (.p .nilslice)] false) h 6 fun x6 h =>
 R 1 [x1, x3, x5, x6, (kI 0)] h
theorem e81_0 (O : Oracle) (R : Jump) (q : Nat) (x0 x1 x2 : TVal) (h : Heap) : b81_0 O R q x0 x1 x2 h = stepF c81 O R q 0 [x0, x1, x2] h := by kernel_rfl
noncomputable def b81_1 (O : Oracle) (R : Jump) (q : Nat) (x1 x3 x5 x6 x7 : TVal) (h : Heap) : Res1 :=
 vfaddr 4 x3 h fun x11 h =>
 vload false 1 x11 h fun x12 h =>
 vlen O 2 x12 h 13 fun x13 h =>
 vbin .lss 0 x7 x13 h fun x14 h =>
 vguard x14 true (fun kk => vfaddr 4 x3 h kk) h fun x16 h =>
 vguard x14 true (fun kk => vload false 1 x16 h kk) h fun x17 h =>
 vguard x14 true (fun kk => kk x7 h) h fun x18 h =>
 vguard x14 true (fun kk => viaddr 1 x17 x18 h kk) h fun x19 h =>
 vguard x14 true (fun kk => vload false 1 x19 h kk) h fun x20 h =>
 vguard x14 true (fun kk => kk x1 h) h fun x21 h =>
 vguard x14 true (fun kk => vbin .lss 0 x20 x21 h kk) h fun x22 h =>
 vop O (.pick (.k x14) (.k x22) (.k (kB false))) h 23 fun x23 h =>
 vif x23 (
 vbin .add 0 x7 (kI 1) h fun x25 h =>
 R 1 [x1, x3, x5, x6, x25] h)
 (R 2 [x1, x3, x5, x6, x7] h)
theorem e81_1 (O : Oracle) (R : Jump) (q : Nat) (x1 x3 x5 x6 x7 : TVal) (h : Heap) : b81_1 O R q x1 x3 x5 x6 x7 h = stepF c81 O R q 1 [x1, x3, x5, x6, x7] h := by kernel_rfl
noncomputable def b81_2 (O : Oracle) (R : Jump) (q : Nat) (x1 x3 x5 x6 x7 : TVal) (h : Heap) : Res1 :=
 vfaddr 4 x3 h fun x27 h =>
 vload false 1 x27 h fun x28 h =>
 vlen O 2 x28 h 29 fun x29 h =>
 vbin .lss 0 x7 x29 h fun x30 h =>
 vguard x30 true (fun kk => vfaddr 4 x3 h kk) h fun x32 h =>
 vguard x30 true (fun kk => vload false 1 x32 h kk) h fun x33 h =>
 vguard x30 true (fun kk => kk x7 h) h fun x34 h =>
 vguard x30 true (fun kk => viaddr 1 x33 x34 h kk) h fun x35 h =>
 vguard x30 true (fun kk => vload false 1 x35 h kk) h fun x36 h =>
 vguard x30 true (fun kk => kk x1 h) h fun x37 h =>
 vguard x30 true (fun kk => vbin .eql 0 x36 x37 h kk) h fun x38 h =>
 vop O (.pick (.k x30) (.k x38) (.k (kB false))) h 39 fun x39 h =>
 vif x39 (
 vload true 6 x3 h fun x40 h =>
 vstore 6 x6 x40 h fun _ h =>
 vcell true 6 x6 h fun c0 => vfin true q [c0] h)
 (vop O (.bslice 1 0 [(.p (.str []))] [] false) h 41 fun x41 h =>
 vfaddr 4 x3 h fun x42 h =>
 vload false 1 x42 h fun x43 h =>
 vop O (.slice 1 false (.k x43) none (some (.k x7)) none) h 45 fun x45 h =>
 vop O (.append 1 16 false (.k x41) (.k x45)) h 46 fun x46 h =>
 vop O (.bslice 6 0 [(.p (.int .i64 0)), (.p (.bool false)), (.p (.int .i64 0)), (.p (.str [])), (.p .nilslice), (.p .nilslice)] [] false) h 47 fun x47 h =>
 vfaddr 5 x3 h fun x48 h =>
 vload false 1 x48 h fun x49 h =>
 vop O (.slice 6 false (.k x49) none (some (.k x7)) none) h 51 fun x51 h =>
 vop O (.append 6 88 false (.k x47) (.k x51)) h 52 fun x52 h =>
 vtouch O (.mv (.k x46)) h 53 fun x53 h t0 =>
 vtouch O (.mv (.k x1)) h 54 fun x54 h t1 =>
 vtouch O (.bslice 1 1 [(.p (.str []))] [(0, (.k x54))] false) h 55 fun x55 h t2 =>
 vtouch O (.append 1 16 false (.k x53) (.k x55)) h 56 fun x56 h t3 =>
 vtouch O (.faddr 4 (.k x3)) h 57 fun x57 h t4 =>
 vtouch O (.load false 1 (.k x57)) h 58 fun x58 h t5 =>
 vtouch O (.mv (.k x7)) h 59 fun x59 h t6 =>
 vtouch O (.slice 1 false (.k x58) (some (.k x59)) none none) h 60 fun x60 h t7 =>
 vtouch O (.append 1 16 false (.k x56) (.k x60)) h 61 fun x61 h t8 =>
 vtouch O (.mv (.k x52)) h 62 fun x62 h t9 =>
 vtouch O (.load true 6 (.k x5)) h 63 fun x63 h t10 =>
 vtouch O (.bslice 6 1 [(.p (.int .i64 0)), (.p (.bool false)), (.p (.int .i64 0)), (.p (.str [])), (.p .nilslice), (.p .nilslice)] [(0, (.k x63))] false) h 64 fun x64 h t11 =>
 vtouch O (.append 6 88 false (.k x62) (.k x64)) h 65 fun x65 h t12 =>
 vtouch O (.faddr 5 (.k x3)) h 66 fun x66 h t13 =>
 vtouch O (.load false 1 (.k x66)) h 67 fun x67 h t14 =>
 vtouch O (.mv (.k x7)) h 68 fun x68 h t15 =>
 vtouch O (.slice 6 false (.k x67) (some (.k x68)) none none) h 69 fun x69 h t16 =>
 vtouch O (.append 6 88 false (.k x65) (.k x69)) h 70 fun x70 h t17 =>
 vtouch O (.faddr 4 (.k x3)) h 71 fun x71 h t18 =>
 vtouch O (.store 1 (.k x71) (.k x61)) h 1000000 fun _ h t19 =>
 vtouch O (.faddr 5 (.k x3)) h 72 fun x72 h t20 =>
 vtouch O (.store 1 (.k x72) (.k x70)) h 1000000 fun _ h t21 =>
 bif apartAll [t0, t1, t2, t3, t4, t5, t6, t7, t8, t9, t10, t11, t12, t13, t14, t15, t16, t17, t18, t19, t20, t21] [(2, 5), (3, 5), (2, 10), (3, 10), (8, 10), (2, 11), (3, 11), (5, 11), (8, 11), (2, 14), (3, 14), (8, 14), (11, 14), (12, 14)] then
 vload true 6 x3 h fun x73 h =>
 vstore 6 x6 x73 h fun _ h =>
 vcell true 6 x6 h fun c0 => vfin true q [c0] h
 else none)
theorem e81_2 (O : Oracle) (R : Jump) (q : Nat) (x1 x3 x5 x6 x7 : TVal) (h : Heap) : b81_2 O R q x1 x3 x5 x6 x7 h = stepF c81 O R q 2 [x1, x3, x5, x6, x7] h := by kernel_rfl
noncomputable def d81 : BlkF := fun O R q => [.s fun y0 => .s fun y1 => .s fun y2 => .z fun h => b81_0 O R q y0 y1 y2 h, .s fun y0 => .s fun y1 => .s fun y2 => .s fun y3 => .s fun y4 => .z fun h => b81_1 O R q y0 y1 y2 y3 y4 h, .s fun y0 => .s fun y1 => .s fun y2 => .s fun y3 => .s fun y4 => .z fun h => b81_2 O R q y0 y1 y2 y3 y4 h]
theorem o81 (O : Oracle) (R : Jump) (q : Nat) : HoldsAll c81 O R q 0 (d81 O R q) := ⟨fun y0 y1 y2 h => e81_0 O R q y0 y1 y2 h, fun y0 y1 y2 y3 y4 h => e81_1 O R q y0 y1 y2 y3 y4 h, fun y0 y1 y2 y3 y4 h => e81_2 O R q y0 y1 y2 y3 y4 h, trivial⟩
/- sprue/shape.Builtin -/
def c84 : MFunc := { np := 1, res := [.t 2], frz := true, body := (.seq (.reg [(oA 2 (.mv (.k (.v (.c (.p (.bool false)))))))] []) (.seq (.reg [(oA 3 (.mv (.t 0))), (oA 4 (.call (.k (.v (.c (.func 148 [])))) [(.t 3)])), (oA 5 (.mv (.t 4))), ⟨(some 6), (.mv (.t 0)), (some (5, true))⟩, ⟨(some 7), (.bin .add 0 (.k (.v (.c (.p (.str [32]))))) (.t 6)), (some (5, true))⟩, ⟨(some 8), (.bin .add 0 (.t 7) (.k (.v (.c (.p (.str [32])))))), (some (5, true))⟩, ⟨(some 9), (.call (.k (.v (.c (.func 149 [])))) [(.k (.v (.c (.p (.str [32, 108, 101, 110, 32, 110, 111, 116, 32, 97, 110, 100, 32, 111, 114, 32, 101, 113, 32, 108, 116, 32, 97, 100, 100, 32, 115, 117, 98, 32, 109, 117, 108, 32, 115, 104, 108, 32, 115, 104, 114, 32, 105, 56, 32, 105, 49, 54, 32, 105, 51, 50, 32, 117, 56, 32, 117, 49, 54, 32, 117, 51, 50, 32, 99, 97, 116, 32, 116, 101, 120, 116, 32, 97, 116, 32, 103, 101, 116, 32, 104, 97, 115, 32, 111, 114, 101, 108, 115, 101, 32]))))), (.t 8)]), (some (5, true))⟩, (oA 10 (.pick (.t 5) (.t 9) (.k (.v (.c (.p (.bool false))))))), (oA 2 (.mv (.t 10)))] []) .ret)) }
theorem t84 : compF Tryd.prog (globs2 tabs opq) (fun _ => false) true Tryd.f84 = some c84.erase := by kernel_rfl
noncomputable def b84_0 (O : Oracle) (R : Jump) (q : Nat) (x0 : TVal) (h : Heap) : Res1 :=
 vcall O (.v (.c (.func 148 []))) [x0] h 4 fun x4 h =>
 vguard x4 true (fun kk => kk x0 h) h fun x6 h =>
 vguard x4 true (fun kk => vbin .add 0 (kS [32]) x6 h kk) h fun x7 h =>
 vguard x4 true (fun kk => vbin .add 0 x7 (kS [32]) h kk) h fun x8 h =>
 vguard x4 true (fun kk => vcall O (.v (.c (.func 149 []))) [(kS [32, 108, 101, 110, 32, 110, 111, 116, 32, 97, 110, 100, 32, 111, 114, 32, 101, 113, 32, 108, 116, 32, 97, 100, 100, 32, 115, 117, 98, 32, 109, 117, 108, 32, 115, 104, 108, 32, 115, 104, 114, 32, 105, 56, 32, 105, 49, 54, 32, 105, 51, 50, 32, 117, 56, 32, 117, 49, 54, 32, 117, 51, 50, 32, 99, 97, 116, 32, 116, 101, 120, 116, 32, 97, 116, 32, 103, 101, 116, 32, 104, 97, 115, 32, 111, 114, 101, 108, 115, 101, 32]), x8] h 9 kk) h fun x9 h =>
 vop O (.pick (.k x4) (.k x9) (.k (kB false))) h 10 fun x10 h =>
 tcomp x10 fun c0 => vfin true q [c0] h
theorem e84_0 (O : Oracle) (R : Jump) (q : Nat) (x0 : TVal) (h : Heap) : b84_0 O R q x0 h = stepF c84 O R q 0 [x0] h := by kernel_rfl
noncomputable def d84 : BlkF := fun O R q => [.s fun y0 => .z fun h => b84_0 O R q y0 h]
theorem o84 (O : Oracle) (R : Jump) (q : Nat) : HoldsAll c84 O R q 0 (d84 O R q) := ⟨fun y0 h => e84_0 O R q y0 h, trivial⟩
/- sprue/calls.many -/
def c85 : MFunc := { np := 1, res := [.t 2], frz := true, body := (.seq (.reg [(oA 2 (.mv (.k (.v (.c (.p (.int .i64 0)))))))] []) (.seq (.seq (.reg [(oA 3 (.mv (.t 0)))] []) (.block 0 (.seq (.block 2 (.block 1 (.seq (.seq (.seq (.seq (.reg [(oA 5 (.bin .eql 0 (.t 3) (.k (.v (.c (.p (.str [108, 101, 110]))))))), (oA 4 (.mv (.t 5)))] []) (.cond (.t 4) .skip (.seq (.reg [(oA 6 (.bin .eql 0 (.t 3) (.k (.v (.c (.p (.str [110, 111, 116]))))))), (oA 4 (.mv (.t 6)))] []) (.cond (.t 4) .skip (.seq (.reg [(oA 7 (.bin .eql 0 (.t 3) (.k (.v (.c (.p (.str [116, 101, 120, 116]))))))), (oA 4 (.mv (.t 7)))] []) (.cond (.t 4) .skip (.reg [(oA 8 (.bin .eql 0 (.t 3) (.k (.v (.c (.p (.str [104, 97, 115]))))))), (oA 4 (.mv (.t 8)))] []))))))) (.mark 1 [3, 4] (.cond (.t 4) (.exit 1) .skip))) (.seq (.seq (.reg [(oA 10 (.bin .eql 0 (.t 3) (.k (.v (.c (.p (.str [105, 56]))))))), (oA 9 (.mv (.t 10)))] []) (.cond (.t 9) .skip (.seq (.reg [(oA 11 (.bin .eql 0 (.t 3) (.k (.v (.c (.p (.str [105, 49, 54]))))))), (oA 9 (.mv (.t 11)))] []) (.cond (.t 9) .skip (.seq (.reg [(oA 12 (.bin .eql 0 (.t 3) (.k (.v (.c (.p (.str [105, 51, 50]))))))), (oA 9 (.mv (.t 12)))] []) (.cond (.t 9) .skip (.seq (.reg [(oA 13 (.bin .eql 0 (.t 3) (.k (.v (.c (.p (.str [117, 56]))))))), (oA 9 (.mv (.t 13)))] []) (.cond (.t 9) .skip (.seq (.reg [(oA 14 (.bin .eql 0 (.t 3) (.k (.v (.c (.p (.str [117, 49, 54]))))))), (oA 9 (.mv (.t 14)))] []) (.cond (.t 9) .skip (.reg [(oA 15 (.bin .eql 0 (.t 3) (.k (.v (.c (.p (.str [117, 51, 50]))))))), (oA 9 (.mv (.t 15)))] []))))))))))) (.mark 2 [9] (.cond (.t 9) (.exit 2) .skip)))) (.exit 0)))) (.seq (.seq (.reg [(oA 2 (.mv (.k (.v (.c (.p (.int .i64 1)))))))] []) .ret) (.exit 0))))) (.seq (.reg [(oA 2 (.mv (.k (.v (.c (.p (.int .i64 2)))))))] []) .ret))) }
theorem t85 : compF Tryd.prog (globs2 tabs opq) (fun _ => false) true Tryd.f85 = some c85.erase := by kernel_rfl
noncomputable def b85_0 (O : Oracle) (R : Jump) (q : Nat) (x0 : TVal) (h : Heap) : Res1 :=
 vbin .eql 0 x0 (kS [108, 101, 110]) h fun x5 h =>
 vif x5 (
 R 1 [x0, x5] h)
 (vbin .eql 0 x0 (kS [110, 111, 116]) h fun x6 h =>
 vif x6 (
 R 1 [x0, x6] h)
 (vbin .eql 0 x0 (kS [116, 101, 120, 116]) h fun x7 h =>
 vif x7 (
 R 1 [x0, x7] h)
 (vbin .eql 0 x0 (kS [104, 97, 115]) h fun x8 h =>
 R 1 [x0, x8] h)))
theorem e85_0 (O : Oracle) (R : Jump) (q : Nat) (x0 : TVal) (h : Heap) : b85_0 O R q x0 h = stepF c85 O R q 0 [x0] h := by kernel_rfl
noncomputable def b85_1 (O : Oracle) (R : Jump) (q : Nat) (x3 x4 : TVal) (h : Heap) : Res1 :=
 vif x4 (
 tcomp (kI 1) fun c0 => vfin true q [c0] h)
 (vbin .eql 0 x3 (kS [105, 56]) h fun x10 h =>
 vif x10 (
 R 2 [x10] h)
 (vbin .eql 0 x3 (kS [105, 49, 54]) h fun x11 h =>
 vif x11 (
 R 2 [x11] h)
 (vbin .eql 0 x3 (kS [105, 51, 50]) h fun x12 h =>
 vif x12 (
 R 2 [x12] h)
 (vbin .eql 0 x3 (kS [117, 56]) h fun x13 h =>
 vif x13 (
 R 2 [x13] h)
 (vbin .eql 0 x3 (kS [117, 49, 54]) h fun x14 h =>
 vif x14 (
 R 2 [x14] h)
 (vbin .eql 0 x3 (kS [117, 51, 50]) h fun x15 h =>
 R 2 [x15] h))))))
theorem e85_1 (O : Oracle) (R : Jump) (q : Nat) (x3 x4 : TVal) (h : Heap) : b85_1 O R q x3 x4 h = stepF c85 O R q 1 [x3, x4] h := by kernel_rfl
noncomputable def b85_2 (O : Oracle) (R : Jump) (q : Nat) (x9 : TVal) (h : Heap) : Res1 :=
 vif x9 (
 tcomp (kI 1) fun c0 => vfin true q [c0] h)
 (tcomp (kI 2) fun c0 => vfin true q [c0] h)
theorem e85_2 (O : Oracle) (R : Jump) (q : Nat) (x9 : TVal) (h : Heap) : b85_2 O R q x9 h = stepF c85 O R q 2 [x9] h := by kernel_rfl
noncomputable def d85 : BlkF := fun O R q => [.s fun y0 => .z fun h => b85_0 O R q y0 h, .s fun y0 => .s fun y1 => .z fun h => b85_1 O R q y0 y1 h, .s fun y0 => .z fun h => b85_2 O R q y0 h]
theorem o85 (O : Oracle) (R : Jump) (q : Nat) : HoldsAll c85 O R q 0 (d85 O R q) := ⟨fun y0 h => e85_0 O R q y0 h, fun y0 y1 h => e85_1 O R q y0 y1 h, fun y0 h => e85_2 O R q y0 h, trivial⟩
/- sprue/calls.long -/
def c86 : MFunc := { np := 1, res := [.cell 2 true 6, .t 3], frz := true, body := (.seq (.reg [(oA 1 (.box (.t 0) false)), (oA 2 (.alloc [(.p (.int .i64 0)), (.p (.bool false)), (.p (.int .i64 0)), (.p (.str [])), (.p .nilslice), (.p .nilslice)] false)), (oA 3 (.mv (.k (.v (.c (.p (.int .i64 0)))))))] []) (.seq (.seq (.reg [(oA 4 (.faddr 0 (.t 1))), (oA 5 (.load false 1 (.t 4)))] []) (.block 0 (.seq (.reg [(oA 7 (.bin .eql 0 (.t 5) (.k (.v (.c (.p (.int .i64 3))))))), (oA 6 (.mv (.t 7)))] []) (.cond (.t 6) (.seq (.reg [(oA 8 (.faddr 3 (.t 1))), (oA 9 (.load false 1 (.t 8))), (oA 10 (.len 0 (.t 9))), (oA 11 (.call (.k (.v (.c (.func 150 [])))) [(.t 10)])), (oN (.store 6 (.t 2) (.t 11))), (oA 3 (.mv (.k (.v (.c (.p (.int .i64 0)))))))] []) .ret) (.seq (.seq (.reg [(oA 13 (.bin .eql 0 (.t 5) (.k (.v (.c (.p (.int .i64 4))))))), (oA 12 (.mv (.t 13)))] []) (.cond (.t 12) .skip (.reg [(oA 14 (.bin .eql 0 (.t 5) (.k (.v (.c (.p (.int .i64 5))))))), (oA 12 (.mv (.t 14)))] []))) (.mark 1 [1, 2, 12] (.cond (.t 12) (.seq (.reg [(oA 15 (.faddr 5 (.t 1))), (oA 16 (.load false 1 (.t 15))), (oA 17 (.len 2 (.t 16))), (oA 18 (.call (.k (.v (.c (.func 150 [])))) [(.t 17)])), (oN (.store 6 (.t 2) (.t 18))), (oA 3 (.mv (.k (.v (.c (.p (.int .i64 0)))))))] []) .ret) .skip))))))) (.seq (.reg [(oA 19 (.build [(.p (.int .i64 0)), (.p (.bool false)), (.p (.int .i64 0)), (.p (.str [])), (.p .nilslice), (.p .nilslice)] [])), (oN (.store 6 (.t 2) (.t 19))), (oA 3 (.mv (.k (.v (.c (.p (.int .i64 17)))))))] []) .ret))) }
theorem t86 : compF Tryd.prog (globs2 tabs opq) (fun _ => false) true Tryd.f86 = some c86.erase := by kernel_rfl
noncomputable def b86_0 (O : Oracle) (R : Jump) (q : Nat) (x0 : TVal) (h : Heap) : Res1 :=
 vop O (.box (.k x0) false) h 1 fun x1 h =>
 vop O (.alloc [(.p (.int .i64 0)), (.p (.bool false)), (.p (.int .i64 0)), (.p (.str [])), (.p .nilslice), (.p .nilslice)] false) h 2 fun x2 h =>
 vfaddr 0 x1 h fun x4 h =>
 vload false 1 x4 h fun x5 h =>
 vbin .eql 0 x5 (kI 3) h fun x7 h =>
 vif x7 (
 vfaddr 3 x1 h fun x8 h =>
 vload false 1 x8 h fun x9 h =>
 vlen O 0 x9 h 10 fun x10 h =>
 vcall O (.v (.c (.func 150 []))) [x10] h 11 fun x11 h =>
 vstore 6 x2 x11 h fun _ h =>
 vcell true 6 x2 h fun c0 => tcomp (kI 0) fun c1 => vfin true q [c0, c1] h)
 (vbin .eql 0 x5 (kI 4) h fun x13 h =>
 vif x13 (
 R 1 [x1, x2, x13] h)
 (vbin .eql 0 x5 (kI 5) h fun x14 h =>
 R 1 [x1, x2, x14] h))
theorem e86_0 (O : Oracle) (R : Jump) (q : Nat) (x0 : TVal) (h : Heap) : b86_0 O R q x0 h = stepF c86 O R q 0 [x0] h := by kernel_rfl
noncomputable def b86_1 (O : Oracle) (R : Jump) (q : Nat) (x1 x2 x12 : TVal) (h : Heap) : Res1 :=
 vif x12 (
 vfaddr 5 x1 h fun x15 h =>
 vload false 1 x15 h fun x16 h =>
 vlen O 2 x16 h 17 fun x17 h =>
 vcall O (.v (.c (.func 150 []))) [x17] h 18 fun x18 h =>
 vstore 6 x2 x18 h fun _ h =>
 vcell true 6 x2 h fun c0 => tcomp (kI 0) fun c1 => vfin true q [c0, c1] h)
 (vop O (.build [(.p (.int .i64 0)), (.p (.bool false)), (.p (.int .i64 0)), (.p (.str [])), (.p .nilslice), (.p .nilslice)] []) h 19 fun x19 h =>
 vstore 6 x2 x19 h fun _ h =>
 vcell true 6 x2 h fun c0 => tcomp (kI 17) fun c1 => vfin true q [c0, c1] h)
theorem e86_1 (O : Oracle) (R : Jump) (q : Nat) (x1 x2 x12 : TVal) (h : Heap) : b86_1 O R q x1 x2 x12 h = stepF c86 O R q 1 [x1, x2, x12] h := by kernel_rfl
noncomputable def d86 : BlkF := fun O R q => [.s fun y0 => .z fun h => b86_0 O R q y0 h, .s fun y0 => .s fun y1 => .s fun y2 => .z fun h => b86_1 O R q y0 y1 y2 h]
theorem o86 (O : Oracle) (R : Jump) (q : Nat) : HoldsAll c86 O R q 0 (d86 O R q) := ⟨fun y0 h => e86_0 O R q y0 h, fun y0 y1 y2 h => e86_1 O R q y0 y1 y2 h, trivial⟩
/- sprue/calls.logic -/
def c87 : MFunc := { np := 2, res := [.cell 4 true 6, .t 5], frz := true, body := (.seq (.reg [(oA 4 (.alloc [(.p (.int .i64 0)), (.p (.bool false)), (.p (.int .i64 0)), (.p (.str [])), (.p .nilslice), (.p .nilslice)] false)), (oA 5 (.mv (.k (.v (.c (.p (.int .i64 0)))))))] []) (.seq (.seq (.reg [(oA 6 (.mv (.t 1))), (oA 7 (.call (.k (.v (.c (.func 151 [])))) [(.t 6), (.k (.v (.c (.func 152 []))))]))] []) (.cond (.t 7) (.seq (.reg [(oA 8 (.build [(.p (.int .i64 0)), (.p (.bool false)), (.p (.int .i64 0)), (.p (.str [])), (.p .nilslice), (.p .nilslice)] [])), (oN (.store 6 (.t 4) (.t 8))), (oA 5 (.mv (.k (.v (.c (.p (.int .i64 17)))))))] []) .ret) .skip)) (.seq (.seq (.reg [(oA 9 (.mv (.t 0)))] []) (.block 0 (.seq (.reg [(oA 11 (.bin .eql 0 (.t 9) (.k (.v (.c (.p (.str [110, 111, 116]))))))), (oA 10 (.mv (.t 11)))] []) (.cond (.t 10) (.seq (.reg [(oA 12 (.mv (.t 1))), (oA 13 (.iaddr 6 (.t 12) (.k (.v (.c (.p (.int .i64 0))))))), (oA 14 (.faddr 1 (.t 13))), (oA 15 (.load false 1 (.t 14))), (oA 16 (.un .not (.t 15))), (oA 17 (.call (.k (.v (.c (.func 94 [])))) [(.t 16)])), (oN (.store 6 (.t 4) (.t 17))), (oA 5 (.mv (.k (.v (.c (.p (.int .i64 0)))))))] []) .ret) (.seq (.reg [(oA 19 (.bin .eql 0 (.t 9) (.k (.v (.c (.p (.str [97, 110, 100]))))))), (oA 18 (.mv (.t 19)))] []) (.cond (.t 18) (.seq (.reg [(oA 20 (.mv (.t 1))), (oA 21 (.iaddr 6 (.t 20) (.k (.v (.c (.p (.int .i64 0))))))), (oA 22 (.faddr 1 (.t 21))), (oA 23 (.load false 1 (.t 22))), (oA 24 (.mv (.t 23))), ⟨(some 25), (.mv (.t 1)), (some (24, true))⟩, ⟨(some 26), (.iaddr 6 (.t 25) (.k (.v (.c (.p (.int .i64 1)))))), (some (24, true))⟩, ⟨(some 27), (.faddr 1 (.t 26)), (some (24, true))⟩, ⟨(some 28), (.load false 1 (.t 27)), (some (24, true))⟩, (oA 29 (.pick (.t 24) (.t 28) (.k (.v (.c (.p (.bool false))))))), (oA 30 (.call (.k (.v (.c (.func 94 [])))) [(.t 29)])), (oN (.store 6 (.t 4) (.t 30))), (oA 5 (.mv (.k (.v (.c (.p (.int .i64 0)))))))] []) .ret) .skip)))))) (.seq (.reg [(oA 31 (.mv (.t 1))), (oA 32 (.iaddr 6 (.t 31) (.k (.v (.c (.p (.int .i64 0))))))), (oA 33 (.faddr 1 (.t 32))), (oA 34 (.load false 1 (.t 33))), (oA 35 (.mv (.t 34))), ⟨(some 36), (.mv (.t 1)), (some (35, false))⟩, ⟨(some 37), (.iaddr 6 (.t 36) (.k (.v (.c (.p (.int .i64 1)))))), (some (35, false))⟩, ⟨(some 38), (.faddr 1 (.t 37)), (some (35, false))⟩, ⟨(some 39), (.load false 1 (.t 38)), (some (35, false))⟩, (oA 40 (.pick (.t 35) (.k (.v (.c (.p (.bool true))))) (.t 39))), (oA 41 (.call (.k (.v (.c (.func 94 [])))) [(.t 40)])), (oN (.store 6 (.t 4) (.t 41))), (oA 5 (.mv (.k (.v (.c (.p (.int .i64 0)))))))] []) .ret)))) }
theorem t87 : compF Tryd.prog (globs2 tabs opq) (fun _ => false) true Tryd.f87 = some c87.erase := by kernel_rfl
noncomputable def b87_0 (O : Oracle) (R : Jump) (q : Nat) (x0 x1 : TVal) (h : Heap) : Res1 :=
 vop O (.alloc [(.p (.int .i64 0)), (.p (.bool false)), (.p (.int .i64 0)), (.p (.str [])), (.p .nilslice), (.p .nilslice)] false) h 4 fun x4 h =>
 vcall O (.v (.c (.func 151 []))) [x1, (.v (.c (.func 152 [])))] h 7 fun x7 h =>
 vif x7 (
 vop O (.build [(.p (.int .i64 0)), (.p (.bool false)), (.p (.int .i64 0)), (.p (.str [])), (.p .nilslice), (.p .nilslice)] []) h 8 fun x8 h =>
 vstore 6 x4 x8 h fun _ h =>
 vcell true 6 x4 h fun c0 => tcomp (kI 17) fun c1 => vfin true q [c0, c1] h)
 (vbin .eql 0 x0 (kS [110, 111, 116]) h fun x11 h =>
 vif x11 (
 viaddr 6 x1 (kI 0) h fun x13 h =>
 vfaddr 1 x13 h fun x14 h =>
 vload false 1 x14 h fun x15 h =>
 vop O (.un .not (.k x15)) h 16 fun x16 h =>
 vcall O (.v (.c (.func 94 []))) [x16] h 17 fun x17 h =>
 vstore 6 x4 x17 h fun _ h =>
 vcell true 6 x4 h fun c0 => tcomp (kI 0) fun c1 => vfin true q [c0, c1] h)
 (vbin .eql 0 x0 (kS [97, 110, 100]) h fun x19 h =>
 vif x19 (
 viaddr 6 x1 (kI 0) h fun x21 h =>
 vfaddr 1 x21 h fun x22 h =>
 vload false 1 x22 h fun x23 h =>
 vguard x23 true (fun kk => kk x1 h) h fun x25 h =>
 vguard x23 true (fun kk => viaddr 6 x25 (kI 1) h kk) h fun x26 h =>
 vguard x23 true (fun kk => vfaddr 1 x26 h kk) h fun x27 h =>
 vguard x23 true (fun kk => vload false 1 x27 h kk) h fun x28 h =>
 vop O (.pick (.k x23) (.k x28) (.k (kB false))) h 29 fun x29 h =>
 vcall O (.v (.c (.func 94 []))) [x29] h 30 fun x30 h =>
 vstore 6 x4 x30 h fun _ h =>
 vcell true 6 x4 h fun c0 => tcomp (kI 0) fun c1 => vfin true q [c0, c1] h)
 (viaddr 6 x1 (kI 0) h fun x32 h =>
 vfaddr 1 x32 h fun x33 h =>
 vload false 1 x33 h fun x34 h =>
 vguard x34 false (fun kk => kk x1 h) h fun x36 h =>
 vguard x34 false (fun kk => viaddr 6 x36 (kI 1) h kk) h fun x37 h =>
 vguard x34 false (fun kk => vfaddr 1 x37 h kk) h fun x38 h =>
 vguard x34 false (fun kk => vload false 1 x38 h kk) h fun x39 h =>
 vop O (.pick (.k x34) (.k (kB true)) (.k x39)) h 40 fun x40 h =>
 vcall O (.v (.c (.func 94 []))) [x40] h 41 fun x41 h =>
 vstore 6 x4 x41 h fun _ h =>
 vcell true 6 x4 h fun c0 => tcomp (kI 0) fun c1 => vfin true q [c0, c1] h)))
theorem e87_0 (O : Oracle) (R : Jump) (q : Nat) (x0 x1 : TVal) (h : Heap) : b87_0 O R q x0 x1 h = stepF c87 O R q 0 [x0, x1] h := by kernel_rfl
noncomputable def d87 : BlkF := fun O R q => [.s fun y0 => .s fun y1 => .z fun h => b87_0 O R q y0 y1 h]
theorem o87 (O : Oracle) (R : Jump) (q : Nat) : HoldsAll c87 O R q 0 (d87 O R q) := ⟨fun y0 y1 h => e87_0 O R q y0 y1 h, trivial⟩
/- sprue/calls.same -/
def c88 : MFunc := { np := 1, res := [.cell 2 true 6, .t 3], frz := true, body := (.seq (.reg [(oA 2 (.alloc [(.p (.int .i64 0)), (.p (.bool false)), (.p (.int .i64 0)), (.p (.str [])), (.p .nilslice), (.p .nilslice)] false)), (oA 3 (.mv (.k (.v (.c (.p (.int .i64 0)))))))] []) (.seq (.reg [(oA 5 (.mv (.t 0))), (oA 6 (.iaddr 6 (.t 5) (.k (.v (.c (.p (.int .i64 0))))))), (oA 7 (.faddr 0 (.t 6))), (oA 8 (.load false 1 (.t 7))), (oA 4 (.mv (.t 8)))] []) (.seq (.seq (.reg [(oA 9 (.mv (.t 4))), (oA 10 (.bin .lss 0 (.t 9) (.k (.v (.c (.p (.int .i64 1))))))), (oA 11 (.mv (.t 10))), ⟨(some 12), (.mv (.t 4)), (some (11, false))⟩, ⟨(some 13), (.bin .gtr 0 (.t 12) (.k (.v (.c (.p (.int .i64 3)))))), (some (11, false))⟩, (oA 14 (.pick (.t 11) (.k (.v (.c (.p (.bool true))))) (.t 13))), (oA 15 (.mv (.t 14))), ⟨(some 16), (.mv (.t 0)), (some (15, false))⟩, ⟨(some 17), (.iaddr 6 (.t 16) (.k (.v (.c (.p (.int .i64 1)))))), (some (15, false))⟩, ⟨(some 18), (.faddr 0 (.t 17)), (some (15, false))⟩, ⟨(some 19), (.load false 1 (.t 18)), (some (15, false))⟩, ⟨(some 20), (.mv (.t 4)), (some (15, false))⟩, ⟨(some 21), (.bin .neq 0 (.t 19) (.t 20)), (some (15, false))⟩, (oA 22 (.pick (.t 15) (.k (.v (.c (.p (.bool true))))) (.t 21)))] []) (.cond (.t 22) (.seq (.reg [(oA 23 (.build [(.p (.int .i64 0)), (.p (.bool false)), (.p (.int .i64 0)), (.p (.str [])), (.p .nilslice), (.p .nilslice)] [])), (oN (.store 6 (.t 2) (.t 23))), (oA 3 (.mv (.k (.v (.c (.p (.int .i64 17)))))))] []) .ret) .skip)) (.seq (.reg [(oA 24 (.mv (.t 0))), (oA 25 (.iaddr 6 (.t 24) (.k (.v (.c (.p (.int .i64 0))))))), (oA 26 (.faddr 1 (.t 25))), (oA 27 (.load false 1 (.t 26))), (oA 28 (.mv (.t 0))), (oA 29 (.iaddr 6 (.t 28) (.k (.v (.c (.p (.int .i64 1))))))), (oA 30 (.faddr 1 (.t 29))), (oA 31 (.load false 1 (.t 30))), (oA 32 (.bin .eql 5 (.t 27) (.t 31))), (oA 33 (.mv (.t 32))), ⟨(some 34), (.mv (.t 0)), (some (33, true))⟩, ⟨(some 35), (.iaddr 6 (.t 34) (.k (.v (.c (.p (.int .i64 0)))))), (some (33, true))⟩, ⟨(some 36), (.faddr 2 (.t 35)), (some (33, true))⟩, ⟨(some 37), (.load false 1 (.t 36)), (some (33, true))⟩, ⟨(some 38), (.mv (.t 0)), (some (33, true))⟩, ⟨(some 39), (.iaddr 6 (.t 38) (.k (.v (.c (.p (.int .i64 1)))))), (some (33, true))⟩, ⟨(some 40), (.faddr 2 (.t 39)), (some (33, true))⟩, ⟨(some 41), (.load false 1 (.t 40)), (some (33, true))⟩, ⟨(some 42), (.bin .eql 0 (.t 37) (.t 41)), (some (33, true))⟩, (oA 43 (.pick (.t 33) (.t 42) (.k (.v (.c (.p (.bool false))))))), (oA 44 (.mv (.t 43))), ⟨(some 45), (.mv (.t 0)), (some (44, true))⟩, ⟨(some 46), (.iaddr 6 (.t 45) (.k (.v (.c (.p (.int .i64 0)))))), (some (44, true))⟩, ⟨(some 47), (.faddr 3 (.t 46)), (some (44, true))⟩, ⟨(some 48), (.load false 1 (.t 47)), (some (44, true))⟩, ⟨(some 49), (.mv (.t 0)), (some (44, true))⟩, ⟨(some 50), (.iaddr 6 (.t 49) (.k (.v (.c (.p (.int .i64 1)))))), (some (44, true))⟩, ⟨(some 51), (.faddr 3 (.t 50)), (some (44, true))⟩, ⟨(some 52), (.load false 1 (.t 51)), (some (44, true))⟩, ⟨(some 53), (.bin .eql 0 (.t 48) (.t 52)), (some (44, true))⟩, (oA 54 (.pick (.t 44) (.t 53) (.k (.v (.c (.p (.bool false))))))), (oA 55 (.call (.k (.v (.c (.func 94 [])))) [(.t 54)])), (oN (.store 6 (.t 2) (.t 55))), (oA 3 (.mv (.k (.v (.c (.p (.int .i64 0)))))))] []) .ret)))) }
theorem t88 : compF Tryd.prog (globs2 tabs opq) (fun _ => false) true Tryd.f88 = some c88.erase := by kernel_rfl
noncomputable def b88_0 (O : Oracle) (R : Jump) (q : Nat) (x0 : TVal) (h : Heap) : Res1 :=
 vop O (.alloc [(.p (.int .i64 0)), (.p (.bool false)), (.p (.int .i64 0)), (.p (.str [])), (.p .nilslice), (.p .nilslice)] false) h 2 fun x2 h =>
 viaddr 6 x0 (kI 0) h fun x6 h =>
 vfaddr 0 x6 h fun x7 h =>
 vload false 1 x7 h fun x8 h =>
 vbin .lss 0 x8 (kI 1) h fun x10 h =>
 vguard x10 false (fun kk => kk x8 h) h fun x12 h =>
 vguard x10 false (fun kk => vbin .gtr 0 x12 (kI 3) h kk) h fun x13 h =>
 vop O (.pick (.k x10) (.k (kB true)) (.k x13)) h 14 fun x14 h =>
 vguard x14 false (fun kk => kk x0 h) h fun x16 h =>
 vguard x14 false (fun kk => viaddr 6 x16 (kI 1) h kk) h fun x17 h =>
 vguard x14 false (fun kk => vfaddr 0 x17 h kk) h fun x18 h =>
 vguard x14 false (fun kk => vload false 1 x18 h kk) h fun x19 h =>
 vguard x14 false (fun kk => kk x8 h) h fun x20 h =>
 vguard x14 false (fun kk => vbin .neq 0 x19 x20 h kk) h fun x21 h =>
 vop O (.pick (.k x14) (.k (kB true)) (.k x21)) h 22 fun x22 h =>
 vif x22 (
 vop O (.build [(.p (.int .i64 0)), (.p (.bool false)), (.p (.int .i64 0)), (.p (.str [])), (.p .nilslice), (.p .nilslice)] []) h 23 fun x23 h =>
 vstore 6 x2 x23 h fun _ h =>
 vcell true 6 x2 h fun c0 => tcomp (kI 17) fun c1 => vfin true q [c0, c1] h)
 (viaddr 6 x0 (kI 0) h fun x25 h =>
 vfaddr 1 x25 h fun x26 h =>
 vload false 1 x26 h fun x27 h =>
 viaddr 6 x0 (kI 1) h fun x29 h =>
 vfaddr 1 x29 h fun x30 h =>
 vload false 1 x30 h fun x31 h =>
 vbin .eql 5 x27 x31 h fun x32 h =>
 vguard x32 true (fun kk => kk x0 h) h fun x34 h =>
 vguard x32 true (fun kk => viaddr 6 x34 (kI 0) h kk) h fun x35 h =>
 vguard x32 true (fun kk => vfaddr 2 x35 h kk) h fun x36 h =>
 vguard x32 true (fun kk => vload false 1 x36 h kk) h fun x37 h =>
 vguard x32 true (fun kk => kk x0 h) h fun x38 h =>
 vguard x32 true (fun kk => viaddr 6 x38 (kI 1) h kk) h fun x39 h =>
 vguard x32 true (fun kk => vfaddr 2 x39 h kk) h fun x40 h =>
 vguard x32 true (fun kk => vload false 1 x40 h kk) h fun x41 h =>
 vguard x32 true (fun kk => vbin .eql 0 x37 x41 h kk) h fun x42 h =>
 vop O (.pick (.k x32) (.k x42) (.k (kB false))) h 43 fun x43 h =>
 vguard x43 true (fun kk => kk x0 h) h fun x45 h =>
 vguard x43 true (fun kk => viaddr 6 x45 (kI 0) h kk) h fun x46 h =>
 vguard x43 true (fun kk => vfaddr 3 x46 h kk) h fun x47 h =>
 vguard x43 true (fun kk => vload false 1 x47 h kk) h fun x48 h =>
 vguard x43 true (fun kk => kk x0 h) h fun x49 h =>
 vguard x43 true (fun kk => viaddr 6 x49 (kI 1) h kk) h fun x50 h =>
 vguard x43 true (fun kk => vfaddr 3 x50 h kk) h fun x51 h =>
 vguard x43 true (fun kk => vload false 1 x51 h kk) h fun x52 h =>
 vguard x43 true (fun kk => vbin .eql 0 x48 x52 h kk) h fun x53 h =>
 vop O (.pick (.k x43) (.k x53) (.k (kB false))) h 54 fun x54 h =>
 vcall O (.v (.c (.func 94 []))) [x54] h 55 fun x55 h =>
 vstore 6 x2 x55 h fun _ h =>
 vcell true 6 x2 h fun c0 => tcomp (kI 0) fun c1 => vfin true q [c0, c1] h)
theorem e88_0 (O : Oracle) (R : Jump) (q : Nat) (x0 : TVal) (h : Heap) : b88_0 O R q x0 h = stepF c88 O R q 0 [x0] h := by kernel_rfl
noncomputable def d88 : BlkF := fun O R q => [.s fun y0 => .z fun h => b88_0 O R q y0 h]
theorem o88 (O : Oracle) (R : Jump) (q : Nat) : HoldsAll c88 O R q 0 (d88 O R q) := ⟨fun y0 h => e88_0 O R q y0 h, trivial⟩
/- sprue/calls.cat -/
def c89 : MFunc := { np := 1, res := [.cell 2 true 6, .t 3], frz := true, body := (.seq (.reg [(oA 2 (.alloc [(.p (.int .i64 0)), (.p (.bool false)), (.p (.int .i64 0)), (.p (.str [])), (.p .nilslice), (.p .nilslice)] false)), (oA 3 (.mv (.k (.v (.c (.p (.int .i64 0)))))))] []) (.seq (.block 0 (.seq (.reg [(oA 5 (.mv (.t 0))), (oA 6 (.bslice 1 2 [(.p (.int .i64 0))] [(0, (.k (.v (.c (.p (.int .i64 3)))))), (1, (.k (.v (.c (.p (.int .i64 3))))))] false)), (oA 7 (.call (.k (.v (.c (.func 92 [])))) [(.t 5), (.t 6)])), (oA 8 (.un .not (.t 7))), (oA 4 (.mv (.t 8)))] []) (.cond (.t 4) (.seq (.reg [(oA 9 (.build [(.p (.int .i64 0)), (.p (.bool false)), (.p (.int .i64 0)), (.p (.str [])), (.p .nilslice), (.p .nilslice)] [])), (oN (.store 6 (.t 2) (.t 9))), (oA 3 (.mv (.k (.v (.c (.p (.int .i64 17)))))))] []) .ret) (.seq (.reg [(oA 11 (.mv (.t 0))), (oA 12 (.iaddr 6 (.t 11) (.k (.v (.c (.p (.int .i64 0))))))), (oA 13 (.faddr 3 (.t 12))), (oA 14 (.load false 1 (.t 13))), (oA 15 (.len 0 (.t 14))), (oA 16 (.mv (.t 0))), (oA 17 (.iaddr 6 (.t 16) (.k (.v (.c (.p (.int .i64 1))))))), (oA 18 (.faddr 3 (.t 17))), (oA 19 (.load false 1 (.t 18))), (oA 20 (.len 0 (.t 19))), (oA 21 (.bin .sub 0 (.k (.v (.c (.p (.int .i64 65536))))) (.t 20))), (oA 22 (.bin .gtr 0 (.t 15) (.t 21))), (oA 10 (.mv (.t 22)))] []) (.cond (.t 10) (.seq (.reg [(oA 23 (.build [(.p (.int .i64 0)), (.p (.bool false)), (.p (.int .i64 0)), (.p (.str [])), (.p .nilslice), (.p .nilslice)] [])), (oN (.store 6 (.t 2) (.t 23))), (oA 3 (.mv (.k (.v (.c (.p (.int .i64 34)))))))] []) .ret) .skip))))) (.seq (.reg [(oA 24 (.mv (.t 0))), (oA 25 (.iaddr 6 (.t 24) (.k (.v (.c (.p (.int .i64 0))))))), (oA 26 (.faddr 3 (.t 25))), (oA 27 (.load false 1 (.t 26))), (oA 28 (.mv (.t 0))), (oA 29 (.iaddr 6 (.t 28) (.k (.v (.c (.p (.int .i64 1))))))), (oA 30 (.faddr 3 (.t 29))), (oA 31 (.load false 1 (.t 30))), (oA 32 (.bin .add 0 (.t 27) (.t 31))), (oA 33 (.call (.k (.v (.c (.func 153 [])))) [(.t 32)])), (oN (.store 6 (.t 2) (.t 33))), (oA 3 (.mv (.k (.v (.c (.p (.int .i64 0)))))))] []) .ret))) }
theorem t89 : compF Tryd.prog (globs2 tabs opq) (fun _ => false) true Tryd.f89 = some c89.erase := by kernel_rfl
noncomputable def b89_0 (O : Oracle) (R : Jump) (q : Nat) (x0 : TVal) (h : Heap) : Res1 :=
 vop O (.alloc [(.p (.int .i64 0)), (.p (.bool false)), (.p (.int .i64 0)), (.p (.str [])), (.p .nilslice), (.p .nilslice)] false) h 2 fun x2 h =>
 vop O (.bslice 1 2 [(.p (.int .i64 0))] [(0, (.k (kI 3))), (1, (.k (kI 3)))] false) h 6 fun x6 h =>
 vcall O (.v (.c (.func 92 []))) [x0, x6] h 7 fun x7 h =>
 vop O (.un .not (.k x7)) h 8 fun x8 h =>
 vif x8 (
 vop O (.build [(.p (.int .i64 0)), (.p (.bool false)), (.p (.int .i64 0)), (.p (.str [])), (.p .nilslice), (.p .nilslice)] []) h 9 fun x9 h =>
 vstore 6 x2 x9 h fun _ h =>
 vcell true 6 x2 h fun c0 => tcomp (kI 17) fun c1 => vfin true q [c0, c1] h)
 (viaddr 6 x0 (kI 0) h fun x12 h =>
 vfaddr 3 x12 h fun x13 h =>
 vload false 1 x13 h fun x14 h =>
 vlen O 0 x14 h 15 fun x15 h =>
 viaddr 6 x0 (kI 1) h fun x17 h =>
 vfaddr 3 x17 h fun x18 h =>
 vload false 1 x18 h fun x19 h =>
 vlen O 0 x19 h 20 fun x20 h =>
 vbin .sub 0 (kI 65536) x20 h fun x21 h =>
 vbin .gtr 0 x15 x21 h fun x22 h =>
 vif x22 (
 vop O (.build [(.p (.int .i64 0)), (.p (.bool false)), (.p (.int .i64 0)), (.p (.str [])), (.p .nilslice), (.p .nilslice)] []) h 23 fun x23 h =>
 vstore 6 x2 x23 h fun _ h =>
 vcell true 6 x2 h fun c0 => tcomp (kI 34) fun c1 => vfin true q [c0, c1] h)
 (viaddr 6 x0 (kI 0) h fun x25 h =>
 vfaddr 3 x25 h fun x26 h =>
 vload false 1 x26 h fun x27 h =>
 viaddr 6 x0 (kI 1) h fun x29 h =>
 vfaddr 3 x29 h fun x30 h =>
 vload false 1 x30 h fun x31 h =>
 vbin .add 0 x27 x31 h fun x32 h =>
 vcall O (.v (.c (.func 153 []))) [x32] h 33 fun x33 h =>
 vstore 6 x2 x33 h fun _ h =>
 vcell true 6 x2 h fun c0 => tcomp (kI 0) fun c1 => vfin true q [c0, c1] h))
theorem e89_0 (O : Oracle) (R : Jump) (q : Nat) (x0 : TVal) (h : Heap) : b89_0 O R q x0 h = stepF c89 O R q 0 [x0] h := by kernel_rfl
noncomputable def d89 : BlkF := fun O R q => [.s fun y0 => .z fun h => b89_0 O R q y0 h]
theorem o89 (O : Oracle) (R : Jump) (q : Nat) : HoldsAll c89 O R q 0 (d89 O R q) := ⟨fun y0 h => e89_0 O R q y0 h, trivial⟩
/- sprue/calls.written -/
def c90 : MFunc := { np := 1, res := [.cell 2 true 6, .t 3], frz := true, body := (.seq (.reg [(oA 1 (.box (.t 0) false)), (oA 2 (.alloc [(.p (.int .i64 0)), (.p (.bool false)), (.p (.int .i64 0)), (.p (.str [])), (.p .nilslice), (.p .nilslice)] false)), (oA 3 (.mv (.k (.v (.c (.p (.int .i64 0)))))))] []) (.seq (.seq (.reg [(oA 4 (.faddr 0 (.t 1))), (oA 5 (.load false 1 (.t 4)))] []) (.block 0 (.seq (.reg [(oA 7 (.bin .eql 0 (.t 5) (.k (.v (.c (.p (.int .i64 2))))))), (oA 6 (.mv (.t 7)))] []) (.cond (.t 6) (.seq (.reg [(oA 8 (.faddr 2 (.t 1))), (oA 9 (.load false 1 (.t 8))), (oA 10 (.call (.k (.v (.c (.func 154 [])))) [(.t 9), (.k (.v (.c (.p (.int .i64 10)))))])), (oA 11 (.call (.k (.v (.c (.func 153 [])))) [(.t 10)])), (oN (.store 6 (.t 2) (.t 11))), (oA 3 (.mv (.k (.v (.c (.p (.int .i64 0)))))))] []) .ret) (.seq (.reg [(oA 13 (.bin .eql 0 (.t 5) (.k (.v (.c (.p (.int .i64 1))))))), (oA 12 (.mv (.t 13)))] []) (.cond (.t 12) (.seq (.reg [(oA 14 (.faddr 1 (.t 1))), (oA 15 (.load false 1 (.t 14))), (oA 16 (.call (.k (.v (.c (.func 155 [])))) [(.t 15)])), (oA 17 (.call (.k (.v (.c (.func 153 [])))) [(.t 16)])), (oN (.store 6 (.t 2) (.t 17))), (oA 3 (.mv (.k (.v (.c (.p (.int .i64 0)))))))] []) .ret) .skip)))))) (.seq (.reg [(oA 18 (.build [(.p (.int .i64 0)), (.p (.bool false)), (.p (.int .i64 0)), (.p (.str [])), (.p .nilslice), (.p .nilslice)] [])), (oN (.store 6 (.t 2) (.t 18))), (oA 3 (.mv (.k (.v (.c (.p (.int .i64 17)))))))] []) .ret))) }
theorem t90 : compF Tryd.prog (globs2 tabs opq) (fun _ => false) true Tryd.f90 = some c90.erase := by kernel_rfl
noncomputable def b90_0 (O : Oracle) (R : Jump) (q : Nat) (x0 : TVal) (h : Heap) : Res1 :=
 vop O (.box (.k x0) false) h 1 fun x1 h =>
 vop O (.alloc [(.p (.int .i64 0)), (.p (.bool false)), (.p (.int .i64 0)), (.p (.str [])), (.p .nilslice), (.p .nilslice)] false) h 2 fun x2 h =>
 vfaddr 0 x1 h fun x4 h =>
 vload false 1 x4 h fun x5 h =>
 vbin .eql 0 x5 (kI 2) h fun x7 h =>
 vif x7 (
 vfaddr 2 x1 h fun x8 h =>
 vload false 1 x8 h fun x9 h =>
 vcall O (.v (.c (.func 154 []))) [x9, (kI 10)] h 10 fun x10 h =>
 vcall O (.v (.c (.func 153 []))) [x10] h 11 fun x11 h =>
 vstore 6 x2 x11 h fun _ h =>
 vcell true 6 x2 h fun c0 => tcomp (kI 0) fun c1 => vfin true q [c0, c1] h)
 (vbin .eql 0 x5 (kI 1) h fun x13 h =>
 vif x13 (
 vfaddr 1 x1 h fun x14 h =>
 vload false 1 x14 h fun x15 h =>
 vcall O (.v (.c (.func 155 []))) [x15] h 16 fun x16 h =>
 vcall O (.v (.c (.func 153 []))) [x16] h 17 fun x17 h =>
 vstore 6 x2 x17 h fun _ h =>
 vcell true 6 x2 h fun c0 => tcomp (kI 0) fun c1 => vfin true q [c0, c1] h)
 (vop O (.build [(.p (.int .i64 0)), (.p (.bool false)), (.p (.int .i64 0)), (.p (.str [])), (.p .nilslice), (.p .nilslice)] []) h 18 fun x18 h =>
 vstore 6 x2 x18 h fun _ h =>
 vcell true 6 x2 h fun c0 => tcomp (kI 17) fun c1 => vfin true q [c0, c1] h))
theorem e90_0 (O : Oracle) (R : Jump) (q : Nat) (x0 : TVal) (h : Heap) : b90_0 O R q x0 h = stepF c90 O R q 0 [x0] h := by kernel_rfl
noncomputable def d90 : BlkF := fun O R q => [.s fun y0 => .z fun h => b90_0 O R q y0 h]
theorem o90 (O : Oracle) (R : Jump) (q : Nat) : HoldsAll c90 O R q 0 (d90 O R q) := ⟨fun y0 h => e90_0 O R q y0 h, trivial⟩
/- sprue/calls.at -/
def c91 : MFunc := { np := 1, res := [.cell 2 true 6, .t 3], frz := true, body := (.seq (.reg [(oA 2 (.alloc [(.p (.int .i64 0)), (.p (.bool false)), (.p (.int .i64 0)), (.p (.str [])), (.p .nilslice), (.p .nilslice)] false)), (oA 3 (.mv (.k (.v (.c (.p (.int .i64 0)))))))] []) (.seq (.block 0 (.seq (.reg [(oA 5 (.mv (.t 0))), (oA 6 (.bslice 1 2 [(.p (.int .i64 0))] [(0, (.k (.v (.c (.p (.int .i64 4)))))), (1, (.k (.v (.c (.p (.int .i64 2))))))] false)), (oA 7 (.call (.k (.v (.c (.func 92 [])))) [(.t 5), (.t 6)])), (oA 8 (.un .not (.t 7))), (oA 4 (.mv (.t 8)))] []) (.cond (.t 4) (.seq (.reg [(oA 9 (.build [(.p (.int .i64 0)), (.p (.bool false)), (.p (.int .i64 0)), (.p (.str [])), (.p .nilslice), (.p .nilslice)] [])), (oN (.store 6 (.t 2) (.t 9))), (oA 3 (.mv (.k (.v (.c (.p (.int .i64 17)))))))] []) .ret) (.seq (.reg [(oA 11 (.mv (.t 0))), (oA 12 (.iaddr 6 (.t 11) (.k (.v (.c (.p (.int .i64 1))))))), (oA 13 (.faddr 2 (.t 12))), (oA 14 (.load false 1 (.t 13))), (oA 15 (.bin .lss 0 (.t 14) (.k (.v (.c (.p (.int .i64 0))))))), (oA 16 (.mv (.t 15))), ⟨(some 17), (.mv (.t 0)), (some (16, false))⟩, ⟨(some 18), (.iaddr 6 (.t 17) (.k (.v (.c (.p (.int .i64 1)))))), (some (16, false))⟩, ⟨(some 19), (.faddr 2 (.t 18)), (some (16, false))⟩, ⟨(some 20), (.load false 1 (.t 19)), (some (16, false))⟩, ⟨(some 21), (.mv (.t 0)), (some (16, false))⟩, ⟨(some 22), (.iaddr 6 (.t 21) (.k (.v (.c (.p (.int .i64 0)))))), (some (16, false))⟩, ⟨(some 23), (.faddr 5 (.t 22)), (some (16, false))⟩, ⟨(some 24), (.load false 1 (.t 23)), (some (16, false))⟩, ⟨(some 25), (.len 2 (.t 24)), (some (16, false))⟩, ⟨(some 26), (.bin .geq 0 (.t 20) (.t 25)), (some (16, false))⟩, (oA 27 (.pick (.t 16) (.k (.v (.c (.p (.bool true))))) (.t 26))), (oA 10 (.mv (.t 27)))] []) (.cond (.t 10) (.seq (.reg [(oA 28 (.build [(.p (.int .i64 0)), (.p (.bool false)), (.p (.int .i64 0)), (.p (.str [])), (.p .nilslice), (.p .nilslice)] [])), (oN (.store 6 (.t 2) (.t 28))), (oA 3 (.mv (.k (.v (.c (.p (.int .i64 32)))))))] []) .ret) .skip))))) (.seq (.reg [(oA 29 (.mv (.t 0))), (oA 30 (.iaddr 6 (.t 29) (.k (.v (.c (.p (.int .i64 0))))))), (oA 31 (.faddr 5 (.t 30))), (oA 32 (.load false 1 (.t 31))), (oA 33 (.mv (.t 0))), (oA 34 (.iaddr 6 (.t 33) (.k (.v (.c (.p (.int .i64 1))))))), (oA 35 (.faddr 2 (.t 34))), (oA 36 (.load false 1 (.t 35))), (oA 37 (.iaddr 6 (.t 32) (.t 36))), (oA 38 (.load true 6 (.t 37))), (oA 39 (.call (.k (.v (.c (.func 95 [])))) [(.t 38)])), (oN (.store 6 (.t 2) (.t 39))), (oA 3 (.mv (.k (.v (.c (.p (.int .i64 0)))))))] []) .ret))) }
theorem t91 : compF Tryd.prog (globs2 tabs opq) (fun _ => false) true Tryd.f91 = some c91.erase := by kernel_rfl
noncomputable def b91_0 (O : Oracle) (R : Jump) (q : Nat) (x0 : TVal) (h : Heap) : Res1 :=
 vop O (.alloc [(.p (.int .i64 0)), (.p (.bool false)), (.p (.int .i64 0)), (.p (.str [])), (.p .nilslice), (.p .nilslice)] false) h 2 fun x2 h =>
 vop O (.bslice 1 2 [(.p (.int .i64 0))] [(0, (.k (kI 4))), (1, (.k (kI 2)))] false) h 6 fun x6 h =>
 vcall O (.v (.c (.func 92 []))) [x0, x6] h 7 fun x7 h =>
 vop O (.un .not (.k x7)) h 8 fun x8 h =>
 vif x8 (
 vop O (.build [(.p (.int .i64 0)), (.p (.bool false)), (.p (.int .i64 0)), (.p (.str [])), (.p .nilslice), (.p .nilslice)] []) h 9 fun x9 h =>
 vstore 6 x2 x9 h fun _ h =>
 vcell true 6 x2 h fun c0 => tcomp (kI 17) fun c1 => vfin true q [c0, c1] h)
 (viaddr 6 x0 (kI 1) h fun x12 h =>
 vfaddr 2 x12 h fun x13 h =>
 vload false 1 x13 h fun x14 h =>
 vbin .lss 0 x14 (kI 0) h fun x15 h =>
 vguard x15 false (fun kk => kk x0 h) h fun x17 h =>
 vguard x15 false (fun kk => viaddr 6 x17 (kI 1) h kk) h fun x18 h =>
 vguard x15 false (fun kk => vfaddr 2 x18 h kk) h fun x19 h =>
 vguard x15 false (fun kk => vload false 1 x19 h kk) h fun x20 h =>
 vguard x15 false (fun kk => kk x0 h) h fun x21 h =>
 vguard x15 false (fun kk => viaddr 6 x21 (kI 0) h kk) h fun x22 h =>
 vguard x15 false (fun kk => vfaddr 5 x22 h kk) h fun x23 h =>
 vguard x15 false (fun kk => vload false 1 x23 h kk) h fun x24 h =>
 vguard x15 false (fun kk => vlen O 2 x24 h 25 kk) h fun x25 h =>
 vguard x15 false (fun kk => vbin .geq 0 x20 x25 h kk) h fun x26 h =>
 vop O (.pick (.k x15) (.k (kB true)) (.k x26)) h 27 fun x27 h =>
 vif x27 (
 vop O (.build [(.p (.int .i64 0)), (.p (.bool false)), (.p (.int .i64 0)), (.p (.str [])), (.p .nilslice), (.p .nilslice)] []) h 28 fun x28 h =>
 vstore 6 x2 x28 h fun _ h =>
 vcell true 6 x2 h fun c0 => tcomp (kI 32) fun c1 => vfin true q [c0, c1] h)
 (viaddr 6 x0 (kI 0) h fun x30 h =>
 vfaddr 5 x30 h fun x31 h =>
 vload false 1 x31 h fun x32 h =>
 viaddr 6 x0 (kI 1) h fun x34 h =>
 vfaddr 2 x34 h fun x35 h =>
 vload false 1 x35 h fun x36 h =>
 viaddr 6 x32 x36 h fun x37 h =>
 vload true 6 x37 h fun x38 h =>
 vcall O (.v (.c (.func 95 []))) [x38] h 39 fun x39 h =>
 vstore 6 x2 x39 h fun _ h =>
 vcell true 6 x2 h fun c0 => tcomp (kI 0) fun c1 => vfin true q [c0, c1] h))
theorem e91_0 (O : Oracle) (R : Jump) (q : Nat) (x0 : TVal) (h : Heap) : b91_0 O R q x0 h = stepF c91 O R q 0 [x0] h := by kernel_rfl
noncomputable def d91 : BlkF := fun O R q => [.s fun y0 => .z fun h => b91_0 O R q y0 h]
theorem o91 (O : Oracle) (R : Jump) (q : Nat) : HoldsAll c91 O R q 0 (d91 O R q) := ⟨fun y0 h => e91_0 O R q y0 h, trivial⟩
/- sprue/calls.are -/
def c92 : MFunc := { np := 2, res := [.t 4], frz := true, body := (.seq (.reg [(oA 4 (.mv (.k (.v (.c (.p (.bool false)))))))] []) (.seq (.seq (.reg [(oA 7 (.mv (.t 1))), (oA 8 (.len 2 (.t 7))), (oA 9 (.mv (.k (.v (.c (.p (.int .i64 0)))))))] []) (.block 0 (.loop 1 [0, 7, 8, 9] (.seq (.reg [(oA 10 (.bin .lss 0 (.t 9) (.t 8)))] []) (.seq (.cond (.t 10) .skip (.exit 0)) (.seq (.block 1 (.seq (.reg [(oA 11 (.mv (.t 9))), (oA 12 (.iaddr 1 (.t 7) (.t 9))), (oA 13 (.load false 1 (.t 12))), (oA 5 (.mv (.t 11))), (oA 6 (.mv (.t 13)))] []) (.seq (.reg [(oA 14 (.mv (.t 0))), (oA 15 (.mv (.t 5))), (oA 16 (.iaddr 6 (.t 14) (.t 15))), (oA 17 (.faddr 0 (.t 16))), (oA 18 (.load false 1 (.t 17))), (oA 19 (.mv (.t 6))), (oA 20 (.bin .neq 0 (.t 18) (.t 19)))] []) (.cond (.t 20) (.seq (.reg [(oA 4 (.mv (.k (.v (.c (.p (.bool false)))))))] []) .ret) .skip)))) (.reg [(oA 21 (.bin .add 0 (.t 9) (.k (.v (.c (.p (.int .i64 1))))))), (oA 9 (.mv (.t 21)))] []))))))) (.seq (.reg [(oA 4 (.mv (.k (.v (.c (.p (.bool true)))))))] []) .ret))) }
theorem t92 : compF Tryd.prog (globs2 tabs opq) (fun _ => false) true Tryd.f92 = some c92.erase := by kernel_rfl
noncomputable def b92_0 (O : Oracle) (R : Jump) (q : Nat) (x0 x1 : TVal) (h : Heap) : Res1 :=
 vlen O 2 x1 h 8 fun x8 h =>
 R 1 [x0, x1, x8, (kI 0)] h
theorem e92_0 (O : Oracle) (R : Jump) (q : Nat) (x0 x1 : TVal) (h : Heap) : b92_0 O R q x0 x1 h = stepF c92 O R q 0 [x0, x1] h := by kernel_rfl
noncomputable def b92_1 (O : Oracle) (R : Jump) (q : Nat) (x0 x7 x8 x9 : TVal) (h : Heap) : Res1 :=
 vbin .lss 0 x9 x8 h fun x10 h =>
 vif x10 (
 viaddr 1 x7 x9 h fun x12 h =>
 vload false 1 x12 h fun x13 h =>
 viaddr 6 x0 x9 h fun x16 h =>
 vfaddr 0 x16 h fun x17 h =>
 vload false 1 x17 h fun x18 h =>
 vbin .neq 0 x18 x13 h fun x20 h =>
 vif x20 (
 tcomp (kB false) fun c0 => vfin true q [c0] h)
 (vbin .add 0 x9 (kI 1) h fun x21 h =>
 R 1 [x0, x7, x8, x21] h))
 (tcomp (kB true) fun c0 => vfin true q [c0] h)
theorem e92_1 (O : Oracle) (R : Jump) (q : Nat) (x0 x7 x8 x9 : TVal) (h : Heap) : b92_1 O R q x0 x7 x8 x9 h = stepF c92 O R q 1 [x0, x7, x8, x9] h := by kernel_rfl
noncomputable def d92 : BlkF := fun O R q => [.s fun y0 => .s fun y1 => .z fun h => b92_0 O R q y0 y1 h, .s fun y0 => .s fun y1 => .s fun y2 => .s fun y3 => .z fun h => b92_1 O R q y0 y1 y2 y3 h]
theorem o92 (O : Oracle) (R : Jump) (q : Nat) : HoldsAll c92 O R q 0 (d92 O R q) := ⟨fun y0 y1 h => e92_0 O R q y0 y1 h, fun y0 y1 y2 y3 h => e92_1 O R q y0 y1 y2 y3 h, trivial⟩
/- sprue/data.Get -/
def c93 : MFunc := { np := 2, res := [.cell 4 true 6, .t 5], frz := true, body := (.seq (.reg [(oA 2 (.box (.t 0) false)), (oA 4 (.alloc [(.p (.int .i64 0)), (.p (.bool false)), (.p (.int .i64 0)), (.p (.str [])), (.p .nilslice), (.p .nilslice)] false)), (oA 5 (.mv (.k (.v (.c (.p (.bool false)))))))] []) (.seq (.reg [(oA 7 (.faddr 4 (.t 2))), (oA 8 (.load false 1 (.t 7))), (oA 9 (.mv (.t 1))), (oA 10 (.call (.k (.v (.c (.func 131 [])))) [(.t 8), (.t 9)])), (oA 6 (.mv (.t 10)))] []) (.seq (.seq (.reg [(oA 11 (.faddr 0 (.t 2))), (oA 12 (.load false 1 (.t 11))), (oA 13 (.bin .neq 0 (.t 12) (.k (.v (.c (.p (.int .i64 5))))))), (oA 14 (.mv (.t 13))), ⟨(some 15), (.mv (.t 6)), (some (14, false))⟩, ⟨(some 16), (.bin .lss 0 (.t 15) (.k (.v (.c (.p (.int .i64 0)))))), (some (14, false))⟩, (oA 17 (.pick (.t 14) (.k (.v (.c (.p (.bool true))))) (.t 16))), (oA 18 (.mv (.t 17))), ⟨(some 19), (.mv (.t 6)), (some (18, false))⟩, ⟨(some 20), (.faddr 5 (.t 2)), (some (18, false))⟩, ⟨(some 21), (.load false 1 (.t 20)), (some (18, false))⟩, ⟨(some 22), (.len 2 (.t 21)), (some (18, false))⟩, ⟨(some 23), (.bin .geq 0 (.t 19) (.t 22)), (some (18, false))⟩, (oA 24 (.pick (.t 18) (.k (.v (.c (.p (.bool true))))) (.t 23)))] []) (.cond (.t 24) (.seq (.reg [(oA 25 (.build [(.p (.int .i64 0)), (.p (.bool false)), (.p (.int .i64 0)), (.p (.str [])), (.p .nilslice), (.p .nilslice)] [])), (oN (.store 6 (.t 4) (.t 25))), (oA 5 (.mv (.k (.v (.c (.p (.bool false)))))))] []) .ret) .skip)) (.seq (.reg [(oA 26 (.faddr 5 (.t 2))), (oA 27 (.load false 1 (.t 26))), (oA 28 (.mv (.t 6))), (oA 29 (.iaddr 6 (.t 27) (.t 28))), (oA 30 (.load true 6 (.t 29))), (oA 31 (.call (.k (.v (.c (.func 156 [])))) [(.t 30)])), (oN (.store 6 (.t 4) (.t 31))), (oA 5 (.mv (.k (.v (.c (.p (.bool true)))))))] []) .ret)))) }
theorem t93 : compF Tryd.prog (globs2 tabs opq) (fun _ => false) true Tryd.f93 = some c93.erase := by kernel_rfl
noncomputable def b93_0 (O : Oracle) (R : Jump) (q : Nat) (x0 x1 : TVal) (h : Heap) : Res1 :=
 vop O (.box (.k x0) false) h 2 fun x2 h =>
 vop O (.alloc [(.p (.int .i64 0)), (.p (.bool false)), (.p (.int .i64 0)), (.p (.str [])), (.p .nilslice), (.p .nilslice)] false) h 4 fun x4 h =>
 vfaddr 4 x2 h fun x7 h =>
 vload false 1 x7 h fun x8 h =>
 vcall O (.v (.c (.func 131 []))) [x8, x1] h 10 fun x10 h =>
 vfaddr 0 x2 h fun x11 h =>
 vload false 1 x11 h fun x12 h =>
 vbin .neq 0 x12 (kI 5) h fun x13 h =>
 vguard x13 false (fun kk => kk x10 h) h fun x15 h =>
 vguard x13 false (fun kk => vbin .lss 0 x15 (kI 0) h kk) h fun x16 h =>
 vop O (.pick (.k x13) (.k (kB true)) (.k x16)) h 17 fun x17 h =>
 vguard x17 false (fun kk => kk x10 h) h fun x19 h =>
 vguard x17 false (fun kk => vfaddr 5 x2 h kk) h fun x20 h =>
 vguard x17 false (fun kk => vload false 1 x20 h kk) h fun x21 h =>
 vguard x17 false (fun kk => vlen O 2 x21 h 22 kk) h fun x22 h =>
 vguard x17 false (fun kk => vbin .geq 0 x19 x22 h kk) h fun x23 h =>
 vop O (.pick (.k x17) (.k (kB true)) (.k x23)) h 24 fun x24 h =>
 vif x24 (
 vop O (.build [(.p (.int .i64 0)), (.p (.bool false)), (.p (.int .i64 0)), (.p (.str [])), (.p .nilslice), (.p .nilslice)] []) h 25 fun x25 h =>
 vstore 6 x4 x25 h fun _ h =>
 vcell true 6 x4 h fun c0 => tcomp (kB false) fun c1 => vfin true q [c0, c1] h)
 (vfaddr 5 x2 h fun x26 h =>
 vload false 1 x26 h fun x27 h =>
 viaddr 6 x27 x10 h fun x29 h =>
 vload true 6 x29 h fun x30 h =>
 vcall O (.v (.c (.func 156 []))) [x30] h 31 fun x31 h =>
 vstore 6 x4 x31 h fun _ h =>
 vcell true 6 x4 h fun c0 => tcomp (kB true) fun c1 => vfin true q [c0, c1] h)
theorem e93_0 (O : Oracle) (R : Jump) (q : Nat) (x0 x1 : TVal) (h : Heap) : b93_0 O R q x0 x1 h = stepF c93 O R q 0 [x0, x1] h := by kernel_rfl
noncomputable def d93 : BlkF := fun O R q => [.s fun y0 => .s fun y1 => .z fun h => b93_0 O R q y0 y1 h]
theorem o93 (O : Oracle) (R : Jump) (q : Nat) : HoldsAll c93 O R q 0 (d93 O R q) := ⟨fun y0 y1 h => e93_0 O R q y0 y1 h, trivial⟩
/- sprue/calls.truth -/
def c94 : MFunc := { np := 1, res := [.cell 2 true 6], frz := true, body := (.seq (.reg [(oA 2 (.alloc [(.p (.int .i64 0)), (.p (.bool false)), (.p (.int .i64 0)), (.p (.str [])), (.p .nilslice), (.p .nilslice)] false))] []) (.seq (.reg [(oA 3 (.mv (.t 0))), (oA 4 (.build [(.p (.int .i64 0)), (.p (.bool false)), (.p (.int .i64 0)), (.p (.str [])), (.p .nilslice), (.p .nilslice)] [(0, 1, (.k (.v (.c (.p (.int .i64 1)))))), (1, 1, (.t 3))])), (oN (.store 6 (.t 2) (.t 4)))] []) .ret)) }
theorem t94 : compF Tryd.prog (globs2 tabs opq) (fun _ => false) true Tryd.f94 = some c94.erase := by kernel_rfl
noncomputable def b94_0 (O : Oracle) (R : Jump) (q : Nat) (x0 : TVal) (h : Heap) : Res1 :=
 vop O (.alloc [(.p (.int .i64 0)), (.p (.bool false)), (.p (.int .i64 0)), (.p (.str [])), (.p .nilslice), (.p .nilslice)] false) h 2 fun x2 h =>
 vop O (.build [(.p (.int .i64 0)), (.p (.bool false)), (.p (.int .i64 0)), (.p (.str [])), (.p .nilslice), (.p .nilslice)] [(0, 1, (.k (kI 1))), (1, 1, (.k x0))]) h 4 fun x4 h =>
 vstore 6 x2 x4 h fun _ h =>
 vcell true 6 x2 h fun c0 => vfin true q [c0] h
theorem e94_0 (O : Oracle) (R : Jump) (q : Nat) (x0 : TVal) (h : Heap) : b94_0 O R q x0 h = stepF c94 O R q 0 [x0] h := by kernel_rfl
noncomputable def d94 : BlkF := fun O R q => [.s fun y0 => .z fun h => b94_0 O R q y0 h]
theorem o94 (O : Oracle) (R : Jump) (q : Nat) : HoldsAll c94 O R q 0 (d94 O R q) := ⟨fun y0 h => e94_0 O R q y0 h, trivial⟩
/- sprue/calls.own -/
def c95 : MFunc := { np := 1, res := [.cell 2 true 6], frz := true, body := (.seq (.reg [(oA 1 (.box (.t 0) false)), (oA 2 (.alloc [(.p (.int .i64 0)), (.p (.bool false)), (.p (.int .i64 0)), (.p (.str [])), (.p .nilslice), (.p .nilslice)] false))] []) (.seq (.reg [(oA 6 (.bslice 1 1 [(.p (.str []))] [(0, (.k (.v (.c (.p (.str []))))))] false)), (oA 7 (.load true 6 (.t 1))), (oA 8 (.bslice 6 1 [(.p (.int .i64 0)), (.p (.bool false)), (.p (.int .i64 0)), (.p (.str [])), (.p .nilslice), (.p .nilslice)] [(0, (.t 7))] false)), (oA 9 (.build [(.p (.int .i64 0)), (.p (.bool false)), (.p (.int .i64 0)), (.p (.str [])), (.p .nilslice), (.p .nilslice)] [(0, 1, (.k (.v (.c (.p (.int .i64 5)))))), (4, 1, (.t 6)), (5, 1, (.t 8))])), (oA 10 (.call (.k (.v (.c (.func 93 [])))) [(.t 9), (.k (.v (.c (.p (.str [])))))])), (oA 5 (.mv (.t 10))), (oA 11 (.extract (.t 5) 0)), (oA 12 (.extract (.t 5) 1)), (oA 3 (.alloc [(.p (.int .i64 0)), (.p (.bool false)), (.p (.int .i64 0)), (.p (.str [])), (.p .nilslice), (.p .nilslice)] false)), (oN (.store 6 (.t 3) (.t 11))), (oA 4 (.mv (.t 12)))] []) (.seq (.reg [(oA 13 (.load true 6 (.t 3))), (oN (.store 6 (.t 2) (.t 13)))] []) .ret))) }
theorem t95 : compF Tryd.prog (globs2 tabs opq) (fun _ => false) true Tryd.f95 = some c95.erase := by kernel_rfl
noncomputable def b95_0 (O : Oracle) (R : Jump) (q : Nat) (x0 : TVal) (h : Heap) : Res1 :=
 vop O (.box (.k x0) false) h 1 fun x1 h =>
 vop O (.alloc [(.p (.int .i64 0)), (.p (.bool false)), (.p (.int .i64 0)), (.p (.str [])), (.p .nilslice), (.p .nilslice)] false) h 2 fun x2 h =>
 vop O (.bslice 1 1 [(.p (.str []))] [(0, (.k (kS [])))] false) h 6 fun x6 h =>
 vload true 6 x1 h fun x7 h =>
 vop O (.bslice 6 1 [(.p (.int .i64 0)), (.p (.bool false)), (.p (.int .i64 0)), (.p (.str [])), (.p .nilslice), (.p .nilslice)] [(0, (.k x7))] false) h 8 fun x8 h =>
 vop O (.build [(.p (.int .i64 0)), (.p (.bool false)), (.p (.int .i64 0)), (.p (.str [])), (.p .nilslice), (.p .nilslice)] [(0, 1, (.k (kI 5))), (4, 1, (.k x6)), (5, 1, (.k x8))]) h 9 fun x9 h =>
 vcall O (.v (.c (.func 93 []))) [x9, (kS [])] h 10 fun x10 h =>
 vext x10 0 h fun x11 h =>
 vext x10 1 h fun x12 h =>
 vop O (.alloc [(.p (.int .i64 0)), (.p (.bool false)), (.p (.int .i64 0)), (.p (.str [])), (.p .nilslice), (.p .nilslice)] false) h 3 fun x3 h =>
 vstore 6 x3 x11 h fun _ h =>
 vload true 6 x3 h fun x13 h =>
 vstore 6 x2 x13 h fun _ h =>
 vcell true 6 x2 h fun c0 => vfin true q [c0] h
theorem e95_0 (O : Oracle) (R : Jump) (q : Nat) (x0 : TVal) (h : Heap) : b95_0 O R q x0 h = stepF c95 O R q 0 [x0] h := by kernel_rfl
noncomputable def d95 : BlkF := fun O R q => [.s fun y0 => .z fun h => b95_0 O R q y0 h]
theorem o95 (O : Oracle) (R : Jump) (q : Nat) : HoldsAll c95 O R q 0 (d95 O R q) := ⟨fun y0 h => e95_0 O R q y0 h, trivial⟩
/- sprue/calls.numbers -/
def c96 : MFunc := { np := 2, res := [.cell 4 true 6, .t 5], frz := true, body := (.seq (.reg [(oA 4 (.alloc [(.p (.int .i64 0)), (.p (.bool false)), (.p (.int .i64 0)), (.p (.str [])), (.p .nilslice), (.p .nilslice)] false)), (oA 5 (.mv (.k (.v (.c (.p (.int .i64 0)))))))] []) (.seq (.seq (.reg [(oA 6 (.mv (.t 1))), (oA 7 (.call (.k (.v (.c (.func 151 [])))) [(.t 6), (.k (.v (.c (.func 157 []))))]))] []) (.cond (.t 7) (.seq (.reg [(oA 8 (.build [(.p (.int .i64 0)), (.p (.bool false)), (.p (.int .i64 0)), (.p (.str [])), (.p .nilslice), (.p .nilslice)] [])), (oN (.store 6 (.t 4) (.t 8))), (oA 5 (.mv (.k (.v (.c (.p (.int .i64 17)))))))] []) .ret) .skip)) (.seq (.block 0 (.seq (.reg [(oA 10 (.mv (.t 1))), (oA 11 (.len 2 (.t 10))), (oA 12 (.bin .eql 0 (.t 11) (.k (.v (.c (.p (.int .i64 1))))))), (oA 9 (.mv (.t 12)))] []) (.cond (.t 9) (.seq (.reg [(oA 13 (.mv (.t 0))), (oA 14 (.mv (.t 1))), (oA 15 (.iaddr 6 (.t 14) (.k (.v (.c (.p (.int .i64 0))))))), (oA 16 (.faddr 2 (.t 15))), (oA 17 (.load false 1 (.t 16))), (oA 18 (.call (.k (.v (.c (.func 158 [])))) [(.t 13), (.t 17)])), (oA 19 (.call (.k (.v (.c (.func 150 [])))) [(.t 18)])), (oN (.store 6 (.t 4) (.t 19))), (oA 5 (.mv (.k (.v (.c (.p (.int .i64 0)))))))] []) .ret) (.seq (.reg [(oA 21 (.mv (.t 0))), (oA 22 (.bin .eql 0 (.t 21) (.k (.v (.c (.p (.str [108, 116]))))))), (oA 20 (.mv (.t 22)))] []) (.cond (.t 20) (.seq (.reg [(oA 23 (.mv (.t 1))), (oA 24 (.iaddr 6 (.t 23) (.k (.v (.c (.p (.int .i64 0))))))), (oA 25 (.faddr 2 (.t 24))), (oA 26 (.load false 1 (.t 25))), (oA 27 (.mv (.t 1))), (oA 28 (.iaddr 6 (.t 27) (.k (.v (.c (.p (.int .i64 1))))))), (oA 29 (.faddr 2 (.t 28))), (oA 30 (.load false 1 (.t 29))), (oA 31 (.bin .lss 0 (.t 26) (.t 30))), (oA 32 (.call (.k (.v (.c (.func 94 [])))) [(.t 31)])), (oN (.store 6 (.t 4) (.t 32))), (oA 5 (.mv (.k (.v (.c (.p (.int .i64 0)))))))] []) .ret) .skip))))) (.seq (.reg [(oA 33 (.mv (.t 0))), (oA 34 (.mv (.t 1))), (oA 35 (.iaddr 6 (.t 34) (.k (.v (.c (.p (.int .i64 0))))))), (oA 36 (.faddr 2 (.t 35))), (oA 37 (.load false 1 (.t 36))), (oA 38 (.mv (.t 1))), (oA 39 (.iaddr 6 (.t 38) (.k (.v (.c (.p (.int .i64 1))))))), (oA 40 (.faddr 2 (.t 39))), (oA 41 (.load false 1 (.t 40))), (oA 42 (.call (.k (.v (.c (.func 159 [])))) [(.t 33), (.t 37), (.t 41)])), (oA 43 (.call (.k (.v (.c (.func 150 [])))) [(.t 42)])), (oN (.store 6 (.t 4) (.t 43))), (oA 5 (.mv (.k (.v (.c (.p (.int .i64 0)))))))] []) .ret)))) }
theorem t96 : compF Tryd.prog (globs2 tabs opq) (fun _ => false) true Tryd.f96 = some c96.erase := by kernel_rfl
noncomputable def b96_0 (O : Oracle) (R : Jump) (q : Nat) (x0 x1 : TVal) (h : Heap) : Res1 :=
 vop O (.alloc [(.p (.int .i64 0)), (.p (.bool false)), (.p (.int .i64 0)), (.p (.str [])), (.p .nilslice), (.p .nilslice)] false) h 4 fun x4 h =>
 vcall O (.v (.c (.func 151 []))) [x1, (.v (.c (.func 157 [])))] h 7 fun x7 h =>
 vif x7 (
 vop O (.build [(.p (.int .i64 0)), (.p (.bool false)), (.p (.int .i64 0)), (.p (.str [])), (.p .nilslice), (.p .nilslice)] []) h 8 fun x8 h =>
 vstore 6 x4 x8 h fun _ h =>
 vcell true 6 x4 h fun c0 => tcomp (kI 17) fun c1 => vfin true q [c0, c1] h)
 (vlen O 2 x1 h 11 fun x11 h =>
 vbin .eql 0 x11 (kI 1) h fun x12 h =>
 vif x12 (
 viaddr 6 x1 (kI 0) h fun x15 h =>
 vfaddr 2 x15 h fun x16 h =>
 vload false 1 x16 h fun x17 h =>
 vcall O (.v (.c (.func 158 []))) [x0, x17] h 18 fun x18 h =>
 vcall O (.v (.c (.func 150 []))) [x18] h 19 fun x19 h =>
 vstore 6 x4 x19 h fun _ h =>
 vcell true 6 x4 h fun c0 => tcomp (kI 0) fun c1 => vfin true q [c0, c1] h)
 (vbin .eql 0 x0 (kS [108, 116]) h fun x22 h =>
 vif x22 (
 viaddr 6 x1 (kI 0) h fun x24 h =>
 vfaddr 2 x24 h fun x25 h =>
 vload false 1 x25 h fun x26 h =>
 viaddr 6 x1 (kI 1) h fun x28 h =>
 vfaddr 2 x28 h fun x29 h =>
 vload false 1 x29 h fun x30 h =>
 vbin .lss 0 x26 x30 h fun x31 h =>
 vcall O (.v (.c (.func 94 []))) [x31] h 32 fun x32 h =>
 vstore 6 x4 x32 h fun _ h =>
 vcell true 6 x4 h fun c0 => tcomp (kI 0) fun c1 => vfin true q [c0, c1] h)
 (viaddr 6 x1 (kI 0) h fun x35 h =>
 vfaddr 2 x35 h fun x36 h =>
 vload false 1 x36 h fun x37 h =>
 viaddr 6 x1 (kI 1) h fun x39 h =>
 vfaddr 2 x39 h fun x40 h =>
 vload false 1 x40 h fun x41 h =>
 vcall O (.v (.c (.func 159 []))) [x0, x37, x41] h 42 fun x42 h =>
 vcall O (.v (.c (.func 150 []))) [x42] h 43 fun x43 h =>
 vstore 6 x4 x43 h fun _ h =>
 vcell true 6 x4 h fun c0 => tcomp (kI 0) fun c1 => vfin true q [c0, c1] h)))
theorem e96_0 (O : Oracle) (R : Jump) (q : Nat) (x0 x1 : TVal) (h : Heap) : b96_0 O R q x0 x1 h = stepF c96 O R q 0 [x0, x1] h := by kernel_rfl
noncomputable def d96 : BlkF := fun O R q => [.s fun y0 => .s fun y1 => .z fun h => b96_0 O R q y0 y1 h]
theorem o96 (O : Oracle) (R : Jump) (q : Nat) : HoldsAll c96 O R q 0 (d96 O R q) := ⟨fun y0 y1 h => e96_0 O R q y0 y1 h, trivial⟩
/- slices.Clone[[]sprue/api.Value,sprue/api.Value] -/
def c105 : MFunc := { np := 1, res := [.t 2], frz := false, body := (.seq (.reg [(oA 2 (.mv (.k (.v (.c (.p .nilslice))))))] []) (.seq (.seq (.reg [(oA 3 (.mv (.t 0))), (oA 4 (.bin .eql 2 (.t 3) (.k (.v (.c (.p .nilslice))))))] []) (.cond (.t 4) (.seq (.reg [(oA 2 (.mv (.k (.v (.c (.p .nilslice))))))] []) .ret) .skip)) (.seq (.reg [(oA 5 (.bslice 6 0 [(.p (.int .i64 0)), (.p (.bool false)), (.p (.int .i64 0)), (.p (.str [])), (.p .nilslice), (.p .nilslice)] [] true)), (oA 6 (.mv (.t 0))), (oA 7 (.append 6 88 true (.t 5) (.t 6))), (oA 2 (.mv (.t 7)))] []) .ret))) }
theorem t105 : compF Tryd.prog (globs2 tabs opq) (fun _ => true) false Tryd.f105 = some c105.erase := by kernel_rfl
noncomputable def b105_0 (O : Oracle) (R : Jump) (q : Nat) (x0 : TVal) (h : Heap) : Res1 :=
 vbin .eql 2 x0 (.v (.c (.p .nilslice))) h fun x4 h =>
 vif x4 (
 tcomp (.v (.c (.p .nilslice))) fun c0 => vfin false q [c0] h)
 (vop O (.bslice 6 0 [(.p (.int .i64 0)), (.p (.bool false)), (.p (.int .i64 0)), (.p (.str [])), (.p .nilslice), (.p .nilslice)] [] true) h 5 fun x5 h =>
 vop O (.append 6 88 true (.k x5) (.k x0)) h 7 fun x7 h =>
 tcomp x7 fun c0 => vfin false q [c0] h)
theorem e105_0 (O : Oracle) (R : Jump) (q : Nat) (x0 : TVal) (h : Heap) : b105_0 O R q x0 h = stepF c105 O R q 0 [x0] h := by kernel_rfl
noncomputable def d105 : BlkF := fun O R q => [.s fun y0 => .z fun h => b105_0 O R q y0 h]
theorem o105 (O : Oracle) (R : Jump) (q : Nat) : HoldsAll c105 O R q 0 (d105 O R q) := ⟨fun y0 h => e105_0 O R q y0 h, trivial⟩
/- slices.Index[[]string,string] -/
def c131 : MFunc := { np := 2, res := [.t 4], frz := true, body := (.seq (.reg [(oA 4 (.mv (.k (.v (.c (.p (.int .i64 0)))))))] []) (.seq (.seq (.reg [(oA 6 (.mv (.t 0))), (oA 7 (.len 2 (.t 6))), (oA 8 (.mv (.k (.v (.c (.p (.int .i64 0)))))))] []) (.block 0 (.loop 1 [0, 1, 7, 8] (.seq (.reg [(oA 9 (.bin .lss 0 (.t 8) (.t 7)))] []) (.seq (.cond (.t 9) .skip (.exit 0)) (.seq (.block 1 (.seq (.reg [(oA 10 (.mv (.t 8))), (oA 5 (.mv (.t 10)))] []) (.seq (.reg [(oA 11 (.mv (.t 1))), (oA 12 (.mv (.t 0))), (oA 13 (.mv (.t 5))), (oA 14 (.iaddr 1 (.t 12) (.t 13))), (oA 15 (.load false 1 (.t 14))), (oA 16 (.bin .eql 0 (.t 11) (.t 15)))] []) (.cond (.t 16) (.seq (.reg [(oA 17 (.mv (.t 5))), (oA 4 (.mv (.t 17)))] []) .ret) .skip)))) (.reg [(oA 18 (.bin .add 0 (.t 8) (.k (.v (.c (.p (.int .i64 1))))))), (oA 8 (.mv (.t 18)))] []))))))) (.seq (.reg [(oA 4 (.mv (.k (.v (.c (.p (.int .i64 (-1))))))))] []) .ret))) }
theorem t131 : compF Tryd.prog (globs2 tabs opq) (fun _ => false) true Tryd.f131 = some c131.erase := by kernel_rfl
noncomputable def b131_0 (O : Oracle) (R : Jump) (q : Nat) (x0 x1 : TVal) (h : Heap) : Res1 :=
 vlen O 2 x0 h 7 fun x7 h =>
 R 1 [x0, x1, x7, (kI 0)] h
theorem e131_0 (O : Oracle) (R : Jump) (q : Nat) (x0 x1 : TVal) (h : Heap) : b131_0 O R q x0 x1 h = stepF c131 O R q 0 [x0, x1] h := by kernel_rfl
noncomputable def b131_1 (O : Oracle) (R : Jump) (q : Nat) (x0 x1 x7 x8 : TVal) (h : Heap) : Res1 :=
 vbin .lss 0 x8 x7 h fun x9 h =>
 vif x9 (
 viaddr 1 x0 x8 h fun x14 h =>
 vload false 1 x14 h fun x15 h =>
 vbin .eql 0 x1 x15 h fun x16 h =>
 vif x16 (
 tcomp x8 fun c0 => vfin true q [c0] h)
 (vbin .add 0 x8 (kI 1) h fun x18 h =>
 R 1 [x0, x1, x7, x18] h))
 (tcomp (kI (-1)) fun c0 => vfin true q [c0] h)
theorem e131_1 (O : Oracle) (R : Jump) (q : Nat) (x0 x1 x7 x8 : TVal) (h : Heap) : b131_1 O R q x0 x1 x7 x8 h = stepF c131 O R q 1 [x0, x1, x7, x8] h := by kernel_rfl
noncomputable def d131 : BlkF := fun O R q => [.s fun y0 => .s fun y1 => .z fun h => b131_0 O R q y0 y1 h, .s fun y0 => .s fun y1 => .s fun y2 => .s fun y3 => .z fun h => b131_1 O R q y0 y1 y2 y3 h]
theorem o131 (O : Oracle) (R : Jump) (q : Nat) : HoldsAll c131 O R q 0 (d131 O R q) := ⟨fun y0 y1 h => e131_0 O R q y0 y1 h, fun y0 y1 y2 y3 h => e131_1 O R q y0 y1 y2 y3 h, trivial⟩
/- slices.Clone[[]string,string] -/
def c132 : MFunc := { np := 1, res := [.t 2], frz := true, body := (.seq (.reg [(oA 2 (.mv (.k (.v (.c (.p .nilslice))))))] []) (.seq (.seq (.reg [(oA 3 (.mv (.t 0))), (oA 4 (.bin .eql 2 (.t 3) (.k (.v (.c (.p .nilslice))))))] []) (.cond (.t 4) (.seq (.reg [(oA 2 (.mv (.k (.v (.c (.p .nilslice))))))] []) .ret) .skip)) (.seq (.reg [(oA 5 (.bslice 1 0 [(.p (.str []))] [] false)), (oA 6 (.mv (.t 0))), (oA 7 (.append 1 16 false (.t 5) (.t 6))), (oA 2 (.mv (.t 7)))] []) .ret))) }
theorem t132 : compF Tryd.prog (globs2 tabs opq) (fun _ => false) true Tryd.f132 = some c132.erase := by kernel_rfl
noncomputable def b132_0 (O : Oracle) (R : Jump) (q : Nat) (x0 : TVal) (h : Heap) : Res1 :=
 vbin .eql 2 x0 (.v (.c (.p .nilslice))) h fun x4 h =>
 vif x4 (
 tcomp (.v (.c (.p .nilslice))) fun c0 => vfin true q [c0] h)
 (vop O (.bslice 1 0 [(.p (.str []))] [] false) h 5 fun x5 h =>
 vop O (.append 1 16 false (.k x5) (.k x0)) h 7 fun x7 h =>
 tcomp x7 fun c0 => vfin true q [c0] h)
theorem e132_0 (O : Oracle) (R : Jump) (q : Nat) (x0 : TVal) (h : Heap) : b132_0 O R q x0 h = stepF c132 O R q 0 [x0] h := by kernel_rfl
noncomputable def d132 : BlkF := fun O R q => [.s fun y0 => .z fun h => b132_0 O R q y0 h]
theorem o132 (O : Oracle) (R : Jump) (q : Nat) : HoldsAll c132 O R q 0 (d132 O R q) := ⟨fun y0 h => e132_0 O R q y0 h, trivial⟩
/- sprue/scan.Ident -/
def c148 : MFunc := { np := 1, res := [.t 2], frz := true, body := (.seq (.reg [(oA 2 (.mv (.k (.v (.c (.p (.bool false)))))))] []) (.seq (.reg [(oA 3 (.mv (.t 0))), (oA 4 (.bin .neq 0 (.t 3) (.k (.v (.c (.p (.str []))))))), (oA 5 (.mv (.t 4))), ⟨(some 6), (.mv (.t 0)), (some (5, true))⟩, ⟨(some 7), (.len 0 (.t 6)), (some (5, true))⟩, ⟨(some 8), (.bin .leq 0 (.t 7) (.k (.v (.c (.p (.int .i64 16)))))), (some (5, true))⟩, (oA 9 (.pick (.t 5) (.t 8) (.k (.v (.c (.p (.bool false))))))), (oA 10 (.mv (.t 9))), ⟨(some 11), (.mv (.t 0)), (some (10, true))⟩, ⟨(some 12), (.index (.t 11) (.k (.v (.c (.p (.int .i64 0)))))), (some (10, true))⟩, ⟨(some 13), (.call (.k (.v (.c (.func 174 [])))) [(.t 12)]), (some (10, true))⟩, ⟨(some 14), (.un .not (.t 13)), (some (10, true))⟩, (oA 15 (.pick (.t 10) (.t 14) (.k (.v (.c (.p (.bool false))))))), (oA 16 (.mv (.t 15))), ⟨(some 17), (.mv (.t 0)), (some (16, true))⟩, ⟨(some 18), (.call (.k (.v (.c (.func 175 [])))) [(.t 17)]), (some (16, true))⟩, ⟨(some 19), (.mv (.t 0)), (some (16, true))⟩, ⟨(some 20), (.len 0 (.t 19)), (some (16, true))⟩, ⟨(some 21), (.bin .eql 0 (.t 18) (.t 20)), (some (16, true))⟩, (oA 22 (.pick (.t 16) (.t 21) (.k (.v (.c (.p (.bool false))))))), (oA 2 (.mv (.t 22)))] []) .ret)) }
theorem t148 : compF Tryd.prog (globs2 tabs opq) (fun _ => false) true Tryd.f148 = some c148.erase := by kernel_rfl
noncomputable def b148_0 (O : Oracle) (R : Jump) (q : Nat) (x0 : TVal) (h : Heap) : Res1 :=
 vbin .neq 0 x0 (kS []) h fun x4 h =>
 vguard x4 true (fun kk => kk x0 h) h fun x6 h =>
 vguard x4 true (fun kk => vlen O 0 x6 h 7 kk) h fun x7 h =>
 vguard x4 true (fun kk => vbin .leq 0 x7 (kI 16) h kk) h fun x8 h =>
 vop O (.pick (.k x4) (.k x8) (.k (kB false))) h 9 fun x9 h =>
 vguard x9 true (fun kk => kk x0 h) h fun x11 h =>
 vguard x9 true (fun kk => vindex x11 (kI 0) h kk) h fun x12 h =>
 vguard x9 true (fun kk => vcall O (.v (.c (.func 174 []))) [x12] h 13 kk) h fun x13 h =>
 vguard x9 true (fun kk => vop O (.un .not (.k x13)) h 14 kk) h fun x14 h =>
 vop O (.pick (.k x9) (.k x14) (.k (kB false))) h 15 fun x15 h =>
 vguard x15 true (fun kk => kk x0 h) h fun x17 h =>
 vguard x15 true (fun kk => vcall O (.v (.c (.func 175 []))) [x17] h 18 kk) h fun x18 h =>
 vguard x15 true (fun kk => kk x0 h) h fun x19 h =>
 vguard x15 true (fun kk => vlen O 0 x19 h 20 kk) h fun x20 h =>
 vguard x15 true (fun kk => vbin .eql 0 x18 x20 h kk) h fun x21 h =>
 vop O (.pick (.k x15) (.k x21) (.k (kB false))) h 22 fun x22 h =>
 tcomp x22 fun c0 => vfin true q [c0] h
theorem e148_0 (O : Oracle) (R : Jump) (q : Nat) (x0 : TVal) (h : Heap) : b148_0 O R q x0 h = stepF c148 O R q 0 [x0] h := by kernel_rfl
noncomputable def d148 : BlkF := fun O R q => [.s fun y0 => .z fun h => b148_0 O R q y0 h]
theorem o148 (O : Oracle) (R : Jump) (q : Nat) : HoldsAll c148 O R q 0 (d148 O R q) := ⟨fun y0 h => e148_0 O R q y0 h, trivial⟩
/- strings.Contains -/
def c149 : MFunc := { np := 2, res := [.t 4], frz := true, body := (.seq (.reg [(oA 4 (.mv (.k (.v (.c (.p (.bool false)))))))] []) (.seq (.reg [(oA 5 (.mv (.t 0))), (oA 6 (.mv (.t 1))), (oA 7 (.call (.k (.v (.c (.func 176 [])))) [(.t 5), (.t 6)])), (oA 8 (.bin .geq 0 (.t 7) (.k (.v (.c (.p (.int .i64 0))))))), (oA 4 (.mv (.t 8)))] []) .ret)) }
theorem t149 : compF Tryd.prog (globs2 tabs opq) (fun _ => false) true Tryd.f149 = some c149.erase := by kernel_rfl
noncomputable def b149_0 (O : Oracle) (R : Jump) (q : Nat) (x0 x1 : TVal) (h : Heap) : Res1 :=
 vcall O (.v (.c (.func 176 []))) [x0, x1] h 7 fun x7 h =>
 vbin .geq 0 x7 (kI 0) h fun x8 h =>
 tcomp x8 fun c0 => vfin true q [c0] h
theorem e149_0 (O : Oracle) (R : Jump) (q : Nat) (x0 x1 : TVal) (h : Heap) : b149_0 O R q x0 x1 h = stepF c149 O R q 0 [x0, x1] h := by kernel_rfl
noncomputable def d149 : BlkF := fun O R q => [.s fun y0 => .s fun y1 => .z fun h => b149_0 O R q y0 y1 h]
theorem o149 (O : Oracle) (R : Jump) (q : Nat) : HoldsAll c149 O R q 0 (d149 O R q) := ⟨fun y0 y1 h => e149_0 O R q y0 y1 h, trivial⟩
/- sprue/calls.number -/
def c150 : MFunc := { np := 1, res := [.cell 2 true 6], frz := true, body := (.seq (.reg [(oA 2 (.alloc [(.p (.int .i64 0)), (.p (.bool false)), (.p (.int .i64 0)), (.p (.str [])), (.p .nilslice), (.p .nilslice)] false))] []) (.seq (.reg [(oA 3 (.mv (.t 0))), (oA 4 (.build [(.p (.int .i64 0)), (.p (.bool false)), (.p (.int .i64 0)), (.p (.str [])), (.p .nilslice), (.p .nilslice)] [(0, 1, (.k (.v (.c (.p (.int .i64 2)))))), (2, 1, (.t 3))])), (oN (.store 6 (.t 2) (.t 4)))] []) .ret)) }
theorem t150 : compF Tryd.prog (globs2 tabs opq) (fun _ => false) true Tryd.f150 = some c150.erase := by kernel_rfl
noncomputable def b150_0 (O : Oracle) (R : Jump) (q : Nat) (x0 : TVal) (h : Heap) : Res1 :=
 vop O (.alloc [(.p (.int .i64 0)), (.p (.bool false)), (.p (.int .i64 0)), (.p (.str [])), (.p .nilslice), (.p .nilslice)] false) h 2 fun x2 h =>
 vop O (.build [(.p (.int .i64 0)), (.p (.bool false)), (.p (.int .i64 0)), (.p (.str [])), (.p .nilslice), (.p .nilslice)] [(0, 1, (.k (kI 2))), (2, 1, (.k x0))]) h 4 fun x4 h =>
 vstore 6 x2 x4 h fun _ h =>
 vcell true 6 x2 h fun c0 => vfin true q [c0] h
theorem e150_0 (O : Oracle) (R : Jump) (q : Nat) (x0 : TVal) (h : Heap) : b150_0 O R q x0 h = stepF c150 O R q 0 [x0] h := by kernel_rfl
noncomputable def d150 : BlkF := fun O R q => [.s fun y0 => .z fun h => b150_0 O R q y0 h]
theorem o150 (O : Oracle) (R : Jump) (q : Nat) : HoldsAll c150 O R q 0 (d150 O R q) := ⟨fun y0 h => e150_0 O R q y0 h, trivial⟩
/- slices.ContainsFunc[[]sprue/api.Value,sprue/api.Value] -/
def c151 : MFunc := { np := 2, res := [.t 4], frz := true, body := (.seq (.reg [(oA 4 (.mv (.k (.v (.c (.p (.bool false)))))))] []) (.seq (.reg [(oA 5 (.mv (.t 0))), (oA 6 (.mv (.t 1))), (oA 7 (.call (.k (.v (.c (.func 177 [])))) [(.t 5), (.t 6)])), (oA 8 (.bin .geq 0 (.t 7) (.k (.v (.c (.p (.int .i64 0))))))), (oA 4 (.mv (.t 8)))] []) .ret)) }
theorem t151 : compF Tryd.prog (globs2 tabs opq) (fun _ => false) true Tryd.f151 = some c151.erase := by kernel_rfl
noncomputable def b151_0 (O : Oracle) (R : Jump) (q : Nat) (x0 x1 : TVal) (h : Heap) : Res1 :=
 vcall O (.v (.c (.func 177 []))) [x0, x1] h 7 fun x7 h =>
 vbin .geq 0 x7 (kI 0) h fun x8 h =>
 tcomp x8 fun c0 => vfin true q [c0] h
theorem e151_0 (O : Oracle) (R : Jump) (q : Nat) (x0 x1 : TVal) (h : Heap) : b151_0 O R q x0 x1 h = stepF c151 O R q 0 [x0, x1] h := by kernel_rfl
noncomputable def d151 : BlkF := fun O R q => [.s fun y0 => .s fun y1 => .z fun h => b151_0 O R q y0 y1 h]
theorem o151 (O : Oracle) (R : Jump) (q : Nat) : HoldsAll c151 O R q 0 (d151 O R q) := ⟨fun y0 y1 h => e151_0 O R q y0 y1 h, trivial⟩
/- sprue/calls.logic$1 -/
def c152 : MFunc := { np := 1, res := [.t 2], frz := true, body := (.seq (.reg [(oA 1 (.box (.t 0) false)), (oA 2 (.mv (.k (.v (.c (.p (.bool false)))))))] []) (.seq (.reg [(oA 3 (.faddr 0 (.t 1))), (oA 4 (.load false 1 (.t 3))), (oA 5 (.bin .neq 0 (.t 4) (.k (.v (.c (.p (.int .i64 1))))))), (oA 2 (.mv (.t 5)))] []) .ret)) }
theorem t152 : compF Tryd.prog (globs2 tabs opq) (fun _ => false) true Tryd.f152 = some c152.erase := by kernel_rfl
noncomputable def b152_0 (O : Oracle) (R : Jump) (q : Nat) (x0 : TVal) (h : Heap) : Res1 :=
 vop O (.box (.k x0) false) h 1 fun x1 h =>
 vfaddr 0 x1 h fun x3 h =>
 vload false 1 x3 h fun x4 h =>
 vbin .neq 0 x4 (kI 1) h fun x5 h =>
 tcomp x5 fun c0 => vfin true q [c0] h
theorem e152_0 (O : Oracle) (R : Jump) (q : Nat) (x0 : TVal) (h : Heap) : b152_0 O R q x0 h = stepF c152 O R q 0 [x0] h := by kernel_rfl
noncomputable def d152 : BlkF := fun O R q => [.s fun y0 => .z fun h => b152_0 O R q y0 h]
theorem o152 (O : Oracle) (R : Jump) (q : Nat) : HoldsAll c152 O R q 0 (d152 O R q) := ⟨fun y0 h => e152_0 O R q y0 h, trivial⟩
/- sprue/calls.text -/
def c153 : MFunc := { np := 1, res := [.cell 2 true 6], frz := true, body := (.seq (.reg [(oA 2 (.alloc [(.p (.int .i64 0)), (.p (.bool false)), (.p (.int .i64 0)), (.p (.str [])), (.p .nilslice), (.p .nilslice)] false))] []) (.seq (.reg [(oA 3 (.mv (.t 0))), (oA 4 (.build [(.p (.int .i64 0)), (.p (.bool false)), (.p (.int .i64 0)), (.p (.str [])), (.p .nilslice), (.p .nilslice)] [(0, 1, (.k (.v (.c (.p (.int .i64 3)))))), (3, 1, (.t 3))])), (oN (.store 6 (.t 2) (.t 4)))] []) .ret)) }
theorem t153 : compF Tryd.prog (globs2 tabs opq) (fun _ => false) true Tryd.f153 = some c153.erase := by kernel_rfl
noncomputable def b153_0 (O : Oracle) (R : Jump) (q : Nat) (x0 : TVal) (h : Heap) : Res1 :=
 vop O (.alloc [(.p (.int .i64 0)), (.p (.bool false)), (.p (.int .i64 0)), (.p (.str [])), (.p .nilslice), (.p .nilslice)] false) h 2 fun x2 h =>
 vop O (.build [(.p (.int .i64 0)), (.p (.bool false)), (.p (.int .i64 0)), (.p (.str [])), (.p .nilslice), (.p .nilslice)] [(0, 1, (.k (kI 3))), (3, 1, (.k x0))]) h 4 fun x4 h =>
 vstore 6 x2 x4 h fun _ h =>
 vcell true 6 x2 h fun c0 => vfin true q [c0] h
theorem e153_0 (O : Oracle) (R : Jump) (q : Nat) (x0 : TVal) (h : Heap) : b153_0 O R q x0 h = stepF c153 O R q 0 [x0] h := by kernel_rfl
noncomputable def d153 : BlkF := fun O R q => [.s fun y0 => .z fun h => b153_0 O R q y0 h]
theorem o153 (O : Oracle) (R : Jump) (q : Nat) : HoldsAll c153 O R q 0 (d153 O R q) := ⟨fun y0 h => e153_0 O R q y0 h, trivial⟩
/- strconv.FormatInt -/
def c154 : MFunc := { np := 2, res := [.t 4], frz := true, body := (.seq (.reg [(oA 4 (.mv (.k (.v (.c (.p (.str [])))))))] []) (.seq (.reg [(oA 5 (.mv (.t 0))), (oA 6 (.mv (.t 1))), (oA 7 (.call (.k (.v (.c (.func 178 [])))) [(.t 5), (.t 6)])), (oA 4 (.mv (.t 7)))] []) .ret)) }
theorem t154 : compF Tryd.prog (globs2 tabs opq) (fun _ => false) true Tryd.f154 = some c154.erase := by kernel_rfl
noncomputable def b154_0 (O : Oracle) (R : Jump) (q : Nat) (x0 x1 : TVal) (h : Heap) : Res1 :=
 vcall O (.v (.c (.func 178 []))) [x0, x1] h 7 fun x7 h =>
 tcomp x7 fun c0 => vfin true q [c0] h
theorem e154_0 (O : Oracle) (R : Jump) (q : Nat) (x0 x1 : TVal) (h : Heap) : b154_0 O R q x0 x1 h = stepF c154 O R q 0 [x0, x1] h := by kernel_rfl
noncomputable def d154 : BlkF := fun O R q => [.s fun y0 => .s fun y1 => .z fun h => b154_0 O R q y0 y1 h]
theorem o154 (O : Oracle) (R : Jump) (q : Nat) : HoldsAll c154 O R q 0 (d154 O R q) := ⟨fun y0 y1 h => e154_0 O R q y0 y1 h, trivial⟩
/- strconv.FormatBool -/
def c155 : MFunc := { np := 1, res := [.t 2], frz := true, body := (.seq (.reg [(oA 2 (.mv (.k (.v (.c (.p (.str [])))))))] []) (.seq (.reg [(oA 3 (.mv (.t 0))), (oA 4 (.call (.k (.v (.c (.func 179 [])))) [(.t 3)])), (oA 2 (.mv (.t 4)))] []) .ret)) }
theorem t155 : compF Tryd.prog (globs2 tabs opq) (fun _ => false) true Tryd.f155 = some c155.erase := by kernel_rfl
noncomputable def b155_0 (O : Oracle) (R : Jump) (q : Nat) (x0 : TVal) (h : Heap) : Res1 :=
 vcall O (.v (.c (.func 179 []))) [x0] h 4 fun x4 h =>
 tcomp x4 fun c0 => vfin true q [c0] h
theorem e155_0 (O : Oracle) (R : Jump) (q : Nat) (x0 : TVal) (h : Heap) : b155_0 O R q x0 h = stepF c155 O R q 0 [x0] h := by kernel_rfl
noncomputable def d155 : BlkF := fun O R q => [.s fun y0 => .z fun h => b155_0 O R q y0 h]
theorem o155 (O : Oracle) (R : Jump) (q : Nat) : HoldsAll c155 O R q 0 (d155 O R q) := ⟨fun y0 h => e155_0 O R q y0 h, trivial⟩
/- sprue/data.own -/
def c156 : MFunc := { np := 1, res := [.cell 2 true 6], frz := true, body := (.seq (.reg [(oA 1 (.box (.t 0) false)), (oA 2 (.alloc [(.p (.int .i64 0)), (.p (.bool false)), (.p (.int .i64 0)), (.p (.str [])), (.p .nilslice), (.p .nilslice)] false))] []) (.seq (.reg [(oA 5 (.faddr 4 (.t 1))), (oA 6 (.load false 1 (.t 5))), (oA 7 (.call (.k (.v (.c (.func 132 [])))) [(.t 6)])), (oA 8 (.faddr 5 (.t 1))), (oA 9 (.load false 1 (.t 8))), (oA 10 (.call (.k (.v (.c (.func 105 [])))) [(.t 9)])), (oA 11 (.faddr 4 (.t 1))), (oN (.store 1 (.t 11) (.t 7))), (oA 12 (.faddr 5 (.t 1))), (oN (.store 1 (.t 12) (.t 10)))] [(2, 4)]) (.seq (.seq (.reg [(oA 13 (.faddr 5 (.t 1))), (oA 14 (.load false 1 (.t 13))), (oA 15 (.len 2 (.t 14))), (oA 16 (.mv (.k (.v (.c (.p (.int .i64 0)))))))] []) (.block 0 (.loop 1 [1, 2, 14, 15, 16] (.seq (.reg [(oA 17 (.bin .lss 0 (.t 16) (.t 15)))] []) (.seq (.cond (.t 17) .skip (.exit 0)) (.seq (.block 1 (.seq (.reg [(oA 18 (.mv (.t 16))), (oA 19 (.iaddr 6 (.t 14) (.t 16))), (oA 20 (.load true 6 (.t 19))), (oA 4 (.alloc [(.p (.int .i64 0)), (.p (.bool false)), (.p (.int .i64 0)), (.p (.str [])), (.p .nilslice), (.p .nilslice)] false)), (oA 3 (.mv (.t 18))), (oN (.store 6 (.t 4) (.t 20)))] []) (.reg [(oA 21 (.faddr 5 (.t 1))), (oA 22 (.load false 1 (.t 21))), (oA 23 (.mv (.t 3))), (oA 24 (.load true 6 (.t 4))), (oA 25 (.call (.k (.v (.c (.func 156 [])))) [(.t 24)])), (oA 26 (.iaddr 6 (.t 22) (.t 23))), (oN (.store 6 (.t 26) (.t 25)))] [(1, 4)]))) (.reg [(oA 27 (.bin .add 0 (.t 16) (.k (.v (.c (.p (.int .i64 1))))))), (oA 16 (.mv (.t 27)))] []))))))) (.mark 2 [1, 2] (.seq (.reg [(oA 28 (.load true 6 (.t 1))), (oN (.store 6 (.t 2) (.t 28)))] []) .ret))))) }
theorem t156 : compF Tryd.prog (globs2 tabs opq) (fun _ => false) true Tryd.f156 = some c156.erase := by kernel_rfl
noncomputable def b156_0 (O : Oracle) (R : Jump) (q : Nat) (x0 : TVal) (h : Heap) : Res1 :=
 vop O (.box (.k x0) false) h 1 fun x1 h =>
 vop O (.alloc [(.p (.int .i64 0)), (.p (.bool false)), (.p (.int .i64 0)), (.p (.str [])), (.p .nilslice), (.p .nilslice)] false) h 2 fun x2 h =>
 vtouch O (.faddr 4 (.k x1)) h 5 fun x5 h t0 =>
 vtouch O (.load false 1 (.k x5)) h 6 fun x6 h t1 =>
 vtouch O (.call (.k (.v (.c (.func 132 [])))) [(.k x6)]) h 7 fun x7 h t2 =>
 vtouch O (.faddr 5 (.k x1)) h 8 fun x8 h t3 =>
 vtouch O (.load false 1 (.k x8)) h 9 fun x9 h t4 =>
 vtouch O (.call (.k (.v (.c (.func 105 [])))) [(.k x9)]) h 10 fun x10 h t5 =>
 vtouch O (.faddr 4 (.k x1)) h 11 fun x11 h t6 =>
 vtouch O (.store 1 (.k x11) (.k x7)) h 1000000 fun _ h t7 =>
 vtouch O (.faddr 5 (.k x1)) h 12 fun x12 h t8 =>
 vtouch O (.store 1 (.k x12) (.k x10)) h 1000000 fun _ h t9 =>
 bif apartAll [t0, t1, t2, t3, t4, t5, t6, t7, t8, t9] [(2, 4)] then
 vfaddr 5 x1 h fun x13 h =>
 vload false 1 x13 h fun x14 h =>
 vlen O 2 x14 h 15 fun x15 h =>
 R 1 [x1, x2, x14, x15, (kI 0)] h
 else none
theorem e156_0 (O : Oracle) (R : Jump) (q : Nat) (x0 : TVal) (h : Heap) : b156_0 O R q x0 h = stepF c156 O R q 0 [x0] h := by kernel_rfl
noncomputable def b156_1 (O : Oracle) (R : Jump) (q : Nat) (x1 x2 x14 x15 x16 : TVal) (h : Heap) : Res1 :=
 vbin .lss 0 x16 x15 h fun x17 h =>
 vif x17 (
 viaddr 6 x14 x16 h fun x19 h =>
 vload true 6 x19 h fun x20 h =>
 vop O (.alloc [(.p (.int .i64 0)), (.p (.bool false)), (.p (.int .i64 0)), (.p (.str [])), (.p .nilslice), (.p .nilslice)] false) h 4 fun x4 h =>
 vstore 6 x4 x20 h fun _ h =>
 vtouch O (.faddr 5 (.k x1)) h 21 fun x21 h t0 =>
 vtouch O (.load false 1 (.k x21)) h 22 fun x22 h t1 =>
 vtouch O (.mv (.k x16)) h 23 fun x23 h t2 =>
 vtouch O (.load true 6 (.k x4)) h 24 fun x24 h t3 =>
 vtouch O (.call (.k (.v (.c (.func 156 [])))) [(.k x24)]) h 25 fun x25 h t4 =>
 vtouch O (.iaddr 6 (.k x22) (.k x23)) h 26 fun x26 h t5 =>
 vtouch O (.store 6 (.k x26) (.k x25)) h 1000000 fun _ h t6 =>
 bif apartAll [t0, t1, t2, t3, t4, t5, t6] [(1, 4)] then
 vbin .add 0 x16 (kI 1) h fun x27 h =>
 R 1 [x1, x2, x14, x15, x27] h
 else none)
 (R 2 [x1, x2] h)
theorem e156_1 (O : Oracle) (R : Jump) (q : Nat) (x1 x2 x14 x15 x16 : TVal) (h : Heap) : b156_1 O R q x1 x2 x14 x15 x16 h = stepF c156 O R q 1 [x1, x2, x14, x15, x16] h := by kernel_rfl
noncomputable def b156_2 (O : Oracle) (R : Jump) (q : Nat) (x1 x2 : TVal) (h : Heap) : Res1 :=
 vload true 6 x1 h fun x28 h =>
 vstore 6 x2 x28 h fun _ h =>
 vcell true 6 x2 h fun c0 => vfin true q [c0] h
theorem e156_2 (O : Oracle) (R : Jump) (q : Nat) (x1 x2 : TVal) (h : Heap) : b156_2 O R q x1 x2 h = stepF c156 O R q 2 [x1, x2] h := by kernel_rfl
noncomputable def d156 : BlkF := fun O R q => [.s fun y0 => .z fun h => b156_0 O R q y0 h, .s fun y0 => .s fun y1 => .s fun y2 => .s fun y3 => .s fun y4 => .z fun h => b156_1 O R q y0 y1 y2 y3 y4 h, .s fun y0 => .s fun y1 => .z fun h => b156_2 O R q y0 y1 h]
theorem o156 (O : Oracle) (R : Jump) (q : Nat) : HoldsAll c156 O R q 0 (d156 O R q) := ⟨fun y0 h => e156_0 O R q y0 h, fun y0 y1 y2 y3 y4 h => e156_1 O R q y0 y1 y2 y3 y4 h, fun y0 y1 h => e156_2 O R q y0 y1 h, trivial⟩
/- sprue/calls.numbers$1 -/
def c157 : MFunc := { np := 1, res := [.t 2], frz := true, body := (.seq (.reg [(oA 1 (.box (.t 0) false)), (oA 2 (.mv (.k (.v (.c (.p (.bool false)))))))] []) (.seq (.reg [(oA 3 (.faddr 0 (.t 1))), (oA 4 (.load false 1 (.t 3))), (oA 5 (.bin .neq 0 (.t 4) (.k (.v (.c (.p (.int .i64 2))))))), (oA 2 (.mv (.t 5)))] []) .ret)) }
theorem t157 : compF Tryd.prog (globs2 tabs opq) (fun _ => false) true Tryd.f157 = some c157.erase := by kernel_rfl
noncomputable def b157_0 (O : Oracle) (R : Jump) (q : Nat) (x0 : TVal) (h : Heap) : Res1 :=
 vop O (.box (.k x0) false) h 1 fun x1 h =>
 vfaddr 0 x1 h fun x3 h =>
 vload false 1 x3 h fun x4 h =>
 vbin .neq 0 x4 (kI 2) h fun x5 h =>
 tcomp x5 fun c0 => vfin true q [c0] h
theorem e157_0 (O : Oracle) (R : Jump) (q : Nat) (x0 : TVal) (h : Heap) : b157_0 O R q x0 h = stepF c157 O R q 0 [x0] h := by kernel_rfl
noncomputable def d157 : BlkF := fun O R q => [.s fun y0 => .z fun h => b157_0 O R q y0 h]
theorem o157 (O : Oracle) (R : Jump) (q : Nat) : HoldsAll c157 O R q 0 (d157 O R q) := ⟨fun y0 h => e157_0 O R q y0 h, trivial⟩
/- sprue/calls.narrow -/
def c158 : MFunc := { np := 2, res := [.t 4], frz := true, body := (.seq (.reg [(oA 4 (.mv (.k (.v (.c (.p (.int .i64 0)))))))] []) (.seq (.seq (.reg [(oA 5 (.mv (.t 0)))] []) (.block 0 (.seq (.reg [(oA 7 (.bin .eql 0 (.t 5) (.k (.v (.c (.p (.str [105, 56]))))))), (oA 6 (.mv (.t 7)))] []) (.cond (.t 6) (.seq (.reg [(oA 8 (.mv (.t 1))), (oA 9 (.toInt .i8 (.t 8))), (oA 10 (.toInt .i64 (.t 9))), (oA 4 (.mv (.t 10)))] []) .ret) (.seq (.reg [(oA 12 (.bin .eql 0 (.t 5) (.k (.v (.c (.p (.str [105, 49, 54]))))))), (oA 11 (.mv (.t 12)))] []) (.cond (.t 11) (.seq (.reg [(oA 13 (.mv (.t 1))), (oA 14 (.toInt .i16 (.t 13))), (oA 15 (.toInt .i64 (.t 14))), (oA 4 (.mv (.t 15)))] []) .ret) (.seq (.reg [(oA 17 (.bin .eql 0 (.t 5) (.k (.v (.c (.p (.str [105, 51, 50]))))))), (oA 16 (.mv (.t 17)))] []) (.cond (.t 16) (.seq (.reg [(oA 18 (.mv (.t 1))), (oA 19 (.toInt .i32 (.t 18))), (oA 20 (.toInt .i64 (.t 19))), (oA 4 (.mv (.t 20)))] []) .ret) (.seq (.reg [(oA 22 (.bin .eql 0 (.t 5) (.k (.v (.c (.p (.str [117, 56]))))))), (oA 21 (.mv (.t 22)))] []) (.cond (.t 21) (.seq (.reg [(oA 23 (.mv (.t 1))), (oA 24 (.toInt .u8 (.t 23))), (oA 25 (.toInt .i64 (.t 24))), (oA 4 (.mv (.t 25)))] []) .ret) (.seq (.reg [(oA 27 (.bin .eql 0 (.t 5) (.k (.v (.c (.p (.str [117, 49, 54]))))))), (oA 26 (.mv (.t 27)))] []) (.cond (.t 26) (.seq (.reg [(oA 28 (.mv (.t 1))), (oA 29 (.toInt .u16 (.t 28))), (oA 30 (.toInt .i64 (.t 29))), (oA 4 (.mv (.t 30)))] []) .ret) .skip)))))))))))) (.seq (.reg [(oA 31 (.mv (.t 1))), (oA 32 (.toInt .u32 (.t 31))), (oA 33 (.toInt .i64 (.t 32))), (oA 4 (.mv (.t 33)))] []) .ret))) }
theorem t158 : compF Tryd.prog (globs2 tabs opq) (fun _ => false) true Tryd.f158 = some c158.erase := by kernel_rfl
noncomputable def b158_0 (O : Oracle) (R : Jump) (q : Nat) (x0 x1 : TVal) (h : Heap) : Res1 :=
 vbin .eql 0 x0 (kS [105, 56]) h fun x7 h =>
 vif x7 (
 vtoInt .i8 x1 h fun x9 h =>
 vtoInt .i64 x9 h fun x10 h =>
 tcomp x10 fun c0 => vfin true q [c0] h)
 (vbin .eql 0 x0 (kS [105, 49, 54]) h fun x12 h =>
 vif x12 (
 vtoInt .i16 x1 h fun x14 h =>
 vtoInt .i64 x14 h fun x15 h =>
 tcomp x15 fun c0 => vfin true q [c0] h)
 (vbin .eql 0 x0 (kS [105, 51, 50]) h fun x17 h =>
 vif x17 (
 vtoInt .i32 x1 h fun x19 h =>
 vtoInt .i64 x19 h fun x20 h =>
 tcomp x20 fun c0 => vfin true q [c0] h)
 (vbin .eql 0 x0 (kS [117, 56]) h fun x22 h =>
 vif x22 (
 vtoInt .u8 x1 h fun x24 h =>
 vtoInt .i64 x24 h fun x25 h =>
 tcomp x25 fun c0 => vfin true q [c0] h)
 (vbin .eql 0 x0 (kS [117, 49, 54]) h fun x27 h =>
 vif x27 (
 vtoInt .u16 x1 h fun x29 h =>
 vtoInt .i64 x29 h fun x30 h =>
 tcomp x30 fun c0 => vfin true q [c0] h)
 (vtoInt .u32 x1 h fun x32 h =>
 vtoInt .i64 x32 h fun x33 h =>
 tcomp x33 fun c0 => vfin true q [c0] h)))))
theorem e158_0 (O : Oracle) (R : Jump) (q : Nat) (x0 x1 : TVal) (h : Heap) : b158_0 O R q x0 x1 h = stepF c158 O R q 0 [x0, x1] h := by kernel_rfl
noncomputable def d158 : BlkF := fun O R q => [.s fun y0 => .s fun y1 => .z fun h => b158_0 O R q y0 y1 h]
theorem o158 (O : Oracle) (R : Jump) (q : Nat) : HoldsAll c158 O R q 0 (d158 O R q) := ⟨fun y0 y1 h => e158_0 O R q y0 y1 h, trivial⟩
/- sprue/calls.reckon -/
def c159 : MFunc := { np := 3, res := [.t 6], frz := true, body := (.seq (.reg [(oA 6 (.mv (.k (.v (.c (.p (.int .i64 0)))))))] []) (.seq (.seq (.reg [(oA 7 (.mv (.t 0)))] []) (.block 0 (.seq (.reg [(oA 9 (.bin .eql 0 (.t 7) (.k (.v (.c (.p (.str [97, 100, 100]))))))), (oA 8 (.mv (.t 9)))] []) (.cond (.t 8) (.seq (.reg [(oA 10 (.mv (.t 1))), (oA 11 (.mv (.t 2))), (oA 12 (.bin .add 0 (.t 10) (.t 11))), (oA 6 (.mv (.t 12)))] []) .ret) (.seq (.reg [(oA 14 (.bin .eql 0 (.t 7) (.k (.v (.c (.p (.str [115, 117, 98]))))))), (oA 13 (.mv (.t 14)))] []) (.cond (.t 13) (.seq (.reg [(oA 15 (.mv (.t 1))), (oA 16 (.mv (.t 2))), (oA 17 (.bin .sub 0 (.t 15) (.t 16))), (oA 6 (.mv (.t 17)))] []) .ret) (.seq (.reg [(oA 19 (.bin .eql 0 (.t 7) (.k (.v (.c (.p (.str [109, 117, 108]))))))), (oA 18 (.mv (.t 19)))] []) (.cond (.t 18) (.seq (.reg [(oA 20 (.mv (.t 1))), (oA 21 (.mv (.t 2))), (oA 22 (.bin .mul 0 (.t 20) (.t 21))), (oA 6 (.mv (.t 22)))] []) .ret) (.seq (.reg [(oA 24 (.bin .eql 0 (.t 7) (.k (.v (.c (.p (.str [115, 104, 108]))))))), (oA 23 (.mv (.t 24)))] []) (.cond (.t 23) (.seq (.reg [(oA 25 (.mv (.t 1))), (oA 26 (.mv (.t 2))), (oA 27 (.toInt .u64 (.t 26))), (oA 28 (.bin .rem 0 (.t 27) (.k (.v (.c (.p (.int .u64 64))))))), (oA 29 (.bin .shl 0 (.t 25) (.t 28))), (oA 6 (.mv (.t 29)))] []) .ret) .skip)))))))))) (.seq (.reg [(oA 30 (.mv (.t 1))), (oA 31 (.mv (.t 2))), (oA 32 (.toInt .u64 (.t 31))), (oA 33 (.bin .rem 0 (.t 32) (.k (.v (.c (.p (.int .u64 64))))))), (oA 34 (.bin .shr 0 (.t 30) (.t 33))), (oA 6 (.mv (.t 34)))] []) .ret))) }
theorem t159 : compF Tryd.prog (globs2 tabs opq) (fun _ => false) true Tryd.f159 = some c159.erase := by kernel_rfl
noncomputable def b159_0 (O : Oracle) (R : Jump) (q : Nat) (x0 x1 x2 : TVal) (h : Heap) : Res1 :=
 vbin .eql 0 x0 (kS [97, 100, 100]) h fun x9 h =>
 vif x9 (
 vbin .add 0 x1 x2 h fun x12 h =>
 tcomp x12 fun c0 => vfin true q [c0] h)
 (vbin .eql 0 x0 (kS [115, 117, 98]) h fun x14 h =>
 vif x14 (
 vbin .sub 0 x1 x2 h fun x17 h =>
 tcomp x17 fun c0 => vfin true q [c0] h)
 (vbin .eql 0 x0 (kS [109, 117, 108]) h fun x19 h =>
 vif x19 (
 vbin .mul 0 x1 x2 h fun x22 h =>
 tcomp x22 fun c0 => vfin true q [c0] h)
 (vbin .eql 0 x0 (kS [115, 104, 108]) h fun x24 h =>
 vif x24 (
 vtoInt .u64 x2 h fun x27 h =>
 vbin .rem 0 x27 (.v (.c (.p (.int .u64 64)))) h fun x28 h =>
 vbin .shl 0 x1 x28 h fun x29 h =>
 tcomp x29 fun c0 => vfin true q [c0] h)
 (vtoInt .u64 x2 h fun x32 h =>
 vbin .rem 0 x32 (.v (.c (.p (.int .u64 64)))) h fun x33 h =>
 vbin .shr 0 x1 x33 h fun x34 h =>
 tcomp x34 fun c0 => vfin true q [c0] h))))
theorem e159_0 (O : Oracle) (R : Jump) (q : Nat) (x0 x1 x2 : TVal) (h : Heap) : b159_0 O R q x0 x1 x2 h = stepF c159 O R q 0 [x0, x1, x2] h := by kernel_rfl
noncomputable def d159 : BlkF := fun O R q => [.s fun y0 => .s fun y1 => .s fun y2 => .z fun h => b159_0 O R q y0 y1 y2 h]
theorem o159 (O : Oracle) (R : Jump) (q : Nat) : HoldsAll c159 O R q 0 (d159 O R q) := ⟨fun y0 y1 y2 h => e159_0 O R q y0 y1 y2 h, trivial⟩
/- sprue/scan.digit -/
def c174 : MFunc := { np := 1, res := [.t 2], frz := true, body := (.seq (.reg [(oA 2 (.mv (.k (.v (.c (.p (.bool false)))))))] []) (.seq (.reg [(oA 3 (.mv (.t 0))), (oA 4 (.bin .geq 0 (.t 3) (.k (.v (.c (.p (.int .u8 48))))))), (oA 5 (.mv (.t 4))), ⟨(some 6), (.mv (.t 0)), (some (5, true))⟩, ⟨(some 7), (.bin .leq 0 (.t 6) (.k (.v (.c (.p (.int .u8 57)))))), (some (5, true))⟩, (oA 8 (.pick (.t 5) (.t 7) (.k (.v (.c (.p (.bool false))))))), (oA 2 (.mv (.t 8)))] []) .ret)) }
theorem t174 : compF Tryd.prog (globs2 tabs opq) (fun _ => false) true Tryd.f174 = some c174.erase := by kernel_rfl
noncomputable def b174_0 (O : Oracle) (R : Jump) (q : Nat) (x0 : TVal) (h : Heap) : Res1 :=
 vbin .geq 0 x0 (.v (.c (.p (.int .u8 48)))) h fun x4 h =>
 vguard x4 true (fun kk => kk x0 h) h fun x6 h =>
 vguard x4 true (fun kk => vbin .leq 0 x6 (.v (.c (.p (.int .u8 57)))) h kk) h fun x7 h =>
 vop O (.pick (.k x4) (.k x7) (.k (kB false))) h 8 fun x8 h =>
 tcomp x8 fun c0 => vfin true q [c0] h
theorem e174_0 (O : Oracle) (R : Jump) (q : Nat) (x0 : TVal) (h : Heap) : b174_0 O R q x0 h = stepF c174 O R q 0 [x0] h := by kernel_rfl
noncomputable def d174 : BlkF := fun O R q => [.s fun y0 => .z fun h => b174_0 O R q y0 h]
theorem o174 (O : Oracle) (R : Jump) (q : Nat) : HoldsAll c174 O R q 0 (d174 O R q) := ⟨fun y0 h => e174_0 O R q y0 h, trivial⟩
/- sprue/scan.row -/
def c175 : MFunc := { np := 1, res := [.t 2], frz := true, body := (.seq (.reg [(oA 2 (.mv (.k (.v (.c (.p (.int .i64 0)))))))] []) (.seq (.reg [(oA 3 (.mv (.t 0))), (oA 4 (.call (.k (.v (.c (.func 180 [])))) [(.t 3), (.k (.v (.c (.func 181 []))))])), (oA 2 (.mv (.t 4)))] []) .ret)) }
theorem t175 : compF Tryd.prog (globs2 tabs opq) (fun _ => false) true Tryd.f175 = some c175.erase := by kernel_rfl
noncomputable def b175_0 (O : Oracle) (R : Jump) (q : Nat) (x0 : TVal) (h : Heap) : Res1 :=
 vcall O (.v (.c (.func 180 []))) [x0, (.v (.c (.func 181 [])))] h 4 fun x4 h =>
 tcomp x4 fun c0 => vfin true q [c0] h
theorem e175_0 (O : Oracle) (R : Jump) (q : Nat) (x0 : TVal) (h : Heap) : b175_0 O R q x0 h = stepF c175 O R q 0 [x0] h := by kernel_rfl
noncomputable def d175 : BlkF := fun O R q => [.s fun y0 => .z fun h => b175_0 O R q y0 h]
theorem o175 (O : Oracle) (R : Jump) (q : Nat) : HoldsAll c175 O R q 0 (d175 O R q) := ⟨fun y0 h => e175_0 O R q y0 h, trivial⟩
/- strings.Index -/
def c176 : MFunc := { np := 2, res := [.t 4], frz := true, body := (.seq (.reg [(oA 4 (.mv (.k (.v (.c (.p (.int .i64 0)))))))] []) (.seq (.reg [(oA 5 (.mv (.t 0))), (oA 6 (.mv (.t 1))), (oA 7 (.call (.k (.v (.c (.func 183 [])))) [(.t 5), (.t 6)])), (oA 4 (.mv (.t 7)))] []) .ret)) }
theorem t176 : compF Tryd.prog (globs2 tabs opq) (fun _ => false) true Tryd.f176 = some c176.erase := by kernel_rfl
noncomputable def b176_0 (O : Oracle) (R : Jump) (q : Nat) (x0 x1 : TVal) (h : Heap) : Res1 :=
 vcall O (.v (.c (.func 183 []))) [x0, x1] h 7 fun x7 h =>
 tcomp x7 fun c0 => vfin true q [c0] h
theorem e176_0 (O : Oracle) (R : Jump) (q : Nat) (x0 x1 : TVal) (h : Heap) : b176_0 O R q x0 x1 h = stepF c176 O R q 0 [x0, x1] h := by kernel_rfl
noncomputable def d176 : BlkF := fun O R q => [.s fun y0 => .s fun y1 => .z fun h => b176_0 O R q y0 y1 h]
theorem o176 (O : Oracle) (R : Jump) (q : Nat) : HoldsAll c176 O R q 0 (d176 O R q) := ⟨fun y0 y1 h => e176_0 O R q y0 y1 h, trivial⟩
/- slices.IndexFunc[[]sprue/api.Value,sprue/api.Value] -/
def c177 : MFunc := { np := 2, res := [.t 4], frz := true, body := (.seq (.reg [(oA 4 (.mv (.k (.v (.c (.p (.int .i64 0)))))))] []) (.seq (.seq (.reg [(oA 6 (.mv (.t 0))), (oA 7 (.len 2 (.t 6))), (oA 8 (.mv (.k (.v (.c (.p (.int .i64 0)))))))] []) (.block 0 (.loop 1 [0, 1, 7, 8] (.seq (.reg [(oA 9 (.bin .lss 0 (.t 8) (.t 7)))] []) (.seq (.cond (.t 9) .skip (.exit 0)) (.seq (.block 1 (.seq (.reg [(oA 10 (.mv (.t 8))), (oA 5 (.mv (.t 10)))] []) (.seq (.reg [(oA 11 (.mv (.t 1))), (oA 12 (.mv (.t 0))), (oA 13 (.mv (.t 5))), (oA 14 (.iaddr 6 (.t 12) (.t 13))), (oA 15 (.load true 6 (.t 14))), (oA 16 (.call (.t 11) [(.t 15)]))] []) (.cond (.t 16) (.seq (.reg [(oA 17 (.mv (.t 5))), (oA 4 (.mv (.t 17)))] []) .ret) .skip)))) (.reg [(oA 18 (.bin .add 0 (.t 8) (.k (.v (.c (.p (.int .i64 1))))))), (oA 8 (.mv (.t 18)))] []))))))) (.seq (.reg [(oA 4 (.mv (.k (.v (.c (.p (.int .i64 (-1))))))))] []) .ret))) }
theorem t177 : compF Tryd.prog (globs2 tabs opq) (fun _ => false) true Tryd.f177 = some c177.erase := by kernel_rfl
noncomputable def b177_0 (O : Oracle) (R : Jump) (q : Nat) (x0 x1 : TVal) (h : Heap) : Res1 :=
 vlen O 2 x0 h 7 fun x7 h =>
 R 1 [x0, x1, x7, (kI 0)] h
theorem e177_0 (O : Oracle) (R : Jump) (q : Nat) (x0 x1 : TVal) (h : Heap) : b177_0 O R q x0 x1 h = stepF c177 O R q 0 [x0, x1] h := by kernel_rfl
noncomputable def b177_1 (O : Oracle) (R : Jump) (q : Nat) (x0 x1 x7 x8 : TVal) (h : Heap) : Res1 :=
 vbin .lss 0 x8 x7 h fun x9 h =>
 vif x9 (
 viaddr 6 x0 x8 h fun x14 h =>
 vload true 6 x14 h fun x15 h =>
 vcall O x1 [x15] h 16 fun x16 h =>
 vif x16 (
 tcomp x8 fun c0 => vfin true q [c0] h)
 (vbin .add 0 x8 (kI 1) h fun x18 h =>
 R 1 [x0, x1, x7, x18] h))
 (tcomp (kI (-1)) fun c0 => vfin true q [c0] h)
theorem e177_1 (O : Oracle) (R : Jump) (q : Nat) (x0 x1 x7 x8 : TVal) (h : Heap) : b177_1 O R q x0 x1 x7 x8 h = stepF c177 O R q 1 [x0, x1, x7, x8] h := by kernel_rfl
noncomputable def d177 : BlkF := fun O R q => [.s fun y0 => .s fun y1 => .z fun h => b177_0 O R q y0 y1 h, .s fun y0 => .s fun y1 => .s fun y2 => .s fun y3 => .z fun h => b177_1 O R q y0 y1 y2 y3 h]
theorem o177 (O : Oracle) (R : Jump) (q : Nat) : HoldsAll c177 O R q 0 (d177 O R q) := ⟨fun y0 y1 h => e177_0 O R q y0 y1 h, fun y0 y1 y2 y3 h => e177_1 O R q y0 y1 y2 y3 h, trivial⟩
/- internal/strconv.FormatInt -/
def c178 : MFunc := { np := 2, res := [.t 4], frz := true, body := (.seq (.reg [(oA 4 (.mv (.k (.v (.c (.p (.str [])))))))] []) (.seq (.seq (.reg [(oA 10 (.mv (.t 1))), (oA 11 (.bin .eql 0 (.t 10) (.k (.v (.c (.p (.int .i64 10)))))))] []) (.cond (.t 11) (.seq (.seq (.reg [(oA 12 (.mv (.t 0))), (oA 13 (.bin .leq 0 (.k (.v (.c (.p (.int .i64 0))))) (.t 12))), (oA 14 (.mv (.t 13))), ⟨(some 15), (.mv (.t 0)), (some (14, true))⟩, ⟨(some 16), (.bin .lss 0 (.t 15) (.k (.v (.c (.p (.int .i64 100)))))), (some (14, true))⟩, (oA 17 (.pick (.t 14) (.t 16) (.k (.v (.c (.p (.bool false)))))))] []) (.cond (.t 17) (.seq (.reg [(oA 18 (.mv (.t 0))), (oA 19 (.call (.k (.v (.c (.func 184 [])))) [(.t 18)])), (oA 4 (.mv (.t 19)))] []) .ret) .skip)) (.seq (.reg [(oA 5 (.alloc [(.p (.int .u8 0)), (.p (.int .u8 0)), (.p (.int .u8 0)), (.p (.int .u8 0)), (.p (.int .u8 0)), (.p (.int .u8 0)), (.p (.int .u8 0)), (.p (.int .u8 0)), (.p (.int .u8 0)), (.p (.int .u8 0)), (.p (.int .u8 0)), (.p (.int .u8 0)), (.p (.int .u8 0)), (.p (.int .u8 0)), (.p (.int .u8 0)), (.p (.int .u8 0)), (.p (.int .u8 0)), (.p (.int .u8 0)), (.p (.int .u8 0)), (.p (.int .u8 0)), (.p (.int .u8 0)), (.p (.int .u8 0)), (.p (.int .u8 0)), (.p (.int .u8 0))] false))] []) (.seq (.reg [(oA 20 (.mv (.t 0))), (oA 21 (.toInt .u64 (.t 20))), (oA 6 (.mv (.t 21)))] []) (.seq (.seq (.reg [(oA 22 (.mv (.t 0))), (oA 23 (.bin .lss 0 (.t 22) (.k (.v (.c (.p (.int .i64 0)))))))] []) (.cond (.t 23) (.reg [(oA 24 (.mv (.t 6))), (oA 25 (.un .neg (.t 24))), (oA 6 (.mv (.t 25)))] []) .skip)) (.mark 1 [0, 5, 6] (.seq (.reg [(oA 26 (.mv (.t 6))), (oA 27 (.call (.k (.v (.c (.func 185 [])))) [(.t 26)])), (oA 7 (.mv (.t 27)))] []) (.seq (.reg [(oA 28 (.mv (.t 7))), (oA 29 (.bin .add 0 (.k (.v (.c (.p (.int .i64 1))))) (.t 28))), (oA 30 (.sliceA 24 1 (.t 5) (some (.k (.v (.c (.p (.int .i64 1)))))) (some (.t 29)))), (oA 31 (.mv (.t 6))), (oA 32 (.call (.k (.v (.c (.func 186 [])))) [(.t 30), (.t 31)]))] []) (.seq (.seq (.reg [(oA 33 (.mv (.t 0))), (oA 34 (.bin .lss 0 (.t 33) (.k (.v (.c (.p (.int .i64 0)))))))] []) (.cond (.t 34) (.seq (.reg [(oA 35 (.iaddrA 24 1 (.t 5) (.k (.v (.c (.p (.int .i64 0))))))), (oN (.store 1 (.t 35) (.k (.v (.c (.p (.int .u8 45)))))))] []) (.seq (.reg [(oA 36 (.mv (.t 7))), (oA 37 (.bin .add 0 (.k (.v (.c (.p (.int .i64 1))))) (.t 36))), (oA 38 (.sliceA 24 1 (.t 5) none (some (.t 37)))), (oA 39 (.toStr (.t 38))), (oA 4 (.mv (.t 39)))] []) .ret)) .skip)) (.seq (.reg [(oA 40 (.mv (.t 7))), (oA 41 (.bin .add 0 (.k (.v (.c (.p (.int .i64 1))))) (.t 40))), (oA 42 (.sliceA 24 1 (.t 5) (some (.k (.v (.c (.p (.int .i64 1)))))) (some (.t 41)))), (oA 43 (.toStr (.t 42))), (oA 4 (.mv (.t 43)))] []) .ret))))))))) .skip)) (.seq (.reg [(oA 45 (.mv (.t 0))), (oA 46 (.toInt .u64 (.t 45))), (oA 47 (.mv (.t 1))), (oA 48 (.mv (.t 0))), (oA 49 (.bin .lss 0 (.t 48) (.k (.v (.c (.p (.int .i64 0))))))), (oA 50 (.call (.k (.v (.c (.func 187 [])))) [(.k (.v (.c (.p .nilslice)))), (.t 46), (.t 47), (.t 49), (.k (.v (.c (.p (.bool false)))))])), (oA 44 (.mv (.t 50))), (oA 51 (.extract (.t 44) 0)), (oA 52 (.extract (.t 44) 1)), (oA 8 (.mv (.t 51))), (oA 9 (.mv (.t 52)))] []) (.seq (.reg [(oA 53 (.mv (.t 9))), (oA 4 (.mv (.t 53)))] []) .ret)))) }
theorem t178 : compF Tryd.prog (globs2 tabs opq) (fun _ => false) true Tryd.f178 = some c178.erase := by kernel_rfl
noncomputable def b178_0 (O : Oracle) (R : Jump) (q : Nat) (x0 x1 : TVal) (h : Heap) : Res1 :=
 vbin .eql 0 x1 (kI 10) h fun x11 h =>
 vif x11 (
 vbin .leq 0 (kI 0) x0 h fun x13 h =>
 vguard x13 true (fun kk => kk x0 h) h fun x15 h =>
 vguard x13 true (fun kk => vbin .lss 0 x15 (kI 100) h kk) h fun x16 h =>
 vop O (.pick (.k x13) (.k x16) (.k (kB false))) h 17 fun x17 h =>
 vif x17 (
 vcall O (.v (.c (.func 184 []))) [x0] h 19 fun x19 h =>
 tcomp x19 fun c0 => vfin true q [c0] h)
 (vop O (.alloc [(.p (.int .u8 0)), (.p (.int .u8 0)), (.p (.int .u8 0)), (.p (.int .u8 0)), (.p (.int .u8 0)), (.p (.int .u8 0)), (.p (.int .u8 0)), (.p (.int .u8 0)), (.p (.int .u8 0)), (.p (.int .u8 0)), (.p (.int .u8 0)), (.p (.int .u8 0)), (.p (.int .u8 0)), (.p (.int .u8 0)), (.p (.int .u8 0)), (.p (.int .u8 0)), (.p (.int .u8 0)), (.p (.int .u8 0)), (.p (.int .u8 0)), (.p (.int .u8 0)), (.p (.int .u8 0)), (.p (.int .u8 0)), (.p (.int .u8 0)), (.p (.int .u8 0))] false) h 5 fun x5 h =>
 vtoInt .u64 x0 h fun x21 h =>
 vbin .lss 0 x0 (kI 0) h fun x23 h =>
 vif x23 (
 vop O (.un .neg (.k x21)) h 25 fun x25 h =>
 R 1 [x0, x5, x25] h)
 (R 1 [x0, x5, x21] h)))
 (vtoInt .u64 x0 h fun x46 h =>
 vbin .lss 0 x0 (kI 0) h fun x49 h =>
 vcall O (.v (.c (.func 187 []))) [(.v (.c (.p .nilslice))), x46, x1, x49, (kB false)] h 50 fun x50 h =>
 vext x50 0 h fun x51 h =>
 vext x50 1 h fun x52 h =>
 tcomp x52 fun c0 => vfin true q [c0] h)
theorem e178_0 (O : Oracle) (R : Jump) (q : Nat) (x0 x1 : TVal) (h : Heap) : b178_0 O R q x0 x1 h = stepF c178 O R q 0 [x0, x1] h := by kernel_rfl
noncomputable def b178_1 (O : Oracle) (R : Jump) (q : Nat) (x0 x5 x6 : TVal) (h : Heap) : Res1 :=
 vcall O (.v (.c (.func 185 []))) [x6] h 27 fun x27 h =>
 vbin .add 0 (kI 1) x27 h fun x29 h =>
 vop O (.sliceA 24 1 (.k x5) (some (.k (kI 1))) (some (.k x29))) h 30 fun x30 h =>
 vcall O (.v (.c (.func 186 []))) [x30, x6] h 32 fun x32 h =>
 vbin .lss 0 x0 (kI 0) h fun x34 h =>
 vif x34 (
 vop O (.iaddrA 24 1 (.k x5) (.k (kI 0))) h 35 fun x35 h =>
 vstore 1 x35 (.v (.c (.p (.int .u8 45)))) h fun _ h =>
 vbin .add 0 (kI 1) x27 h fun x37 h =>
 vop O (.sliceA 24 1 (.k x5) none (some (.k x37))) h 38 fun x38 h =>
 vop O (.toStr (.k x38)) h 39 fun x39 h =>
 tcomp x39 fun c0 => vfin true q [c0] h)
 (vbin .add 0 (kI 1) x27 h fun x41 h =>
 vop O (.sliceA 24 1 (.k x5) (some (.k (kI 1))) (some (.k x41))) h 42 fun x42 h =>
 vop O (.toStr (.k x42)) h 43 fun x43 h =>
 tcomp x43 fun c0 => vfin true q [c0] h)
theorem e178_1 (O : Oracle) (R : Jump) (q : Nat) (x0 x5 x6 : TVal) (h : Heap) : b178_1 O R q x0 x5 x6 h = stepF c178 O R q 1 [x0, x5, x6] h := by kernel_rfl
noncomputable def d178 : BlkF := fun O R q => [.s fun y0 => .s fun y1 => .z fun h => b178_0 O R q y0 y1 h, .s fun y0 => .s fun y1 => .s fun y2 => .z fun h => b178_1 O R q y0 y1 y2 h]
theorem o178 (O : Oracle) (R : Jump) (q : Nat) : HoldsAll c178 O R q 0 (d178 O R q) := ⟨fun y0 y1 h => e178_0 O R q y0 y1 h, fun y0 y1 y2 h => e178_1 O R q y0 y1 y2 h, trivial⟩
/- internal/strconv.FormatBool -/
def c179 : MFunc := { np := 1, res := [.t 2], frz := true, body := (.seq (.reg [(oA 2 (.mv (.k (.v (.c (.p (.str [])))))))] []) (.seq (.seq (.reg [(oA 3 (.mv (.t 0)))] []) (.cond (.t 3) (.seq (.reg [(oA 2 (.mv (.k (.v (.c (.p (.str [116, 114, 117, 101])))))))] []) .ret) .skip)) (.seq (.reg [(oA 2 (.mv (.k (.v (.c (.p (.str [102, 97, 108, 115, 101])))))))] []) .ret))) }
theorem t179 : compF Tryd.prog (globs2 tabs opq) (fun _ => false) true Tryd.f179 = some c179.erase := by kernel_rfl
noncomputable def b179_0 (O : Oracle) (R : Jump) (q : Nat) (x0 : TVal) (h : Heap) : Res1 :=
 vif x0 (
 tcomp (kS [116, 114, 117, 101]) fun c0 => vfin true q [c0] h)
 (tcomp (kS [102, 97, 108, 115, 101]) fun c0 => vfin true q [c0] h)
theorem e179_0 (O : Oracle) (R : Jump) (q : Nat) (x0 : TVal) (h : Heap) : b179_0 O R q x0 h = stepF c179 O R q 0 [x0] h := by kernel_rfl
noncomputable def d179 : BlkF := fun O R q => [.s fun y0 => .z fun h => b179_0 O R q y0 h]
theorem o179 (O : Oracle) (R : Jump) (q : Nat) : HoldsAll c179 O R q 0 (d179 O R q) := ⟨fun y0 h => e179_0 O R q y0 h, trivial⟩
/- sprue/scan.front -/
def c180 : MFunc := { np := 2, res := [.t 4], frz := true, body := (.seq (.reg [(oA 4 (.mv (.k (.v (.c (.p (.int .i64 0)))))))] []) (.seq (.seq (.reg [(oA 6 (.mv (.t 0))), (oA 7 (.rangeS (.t 6)))] []) (.block 0 (.loop 1 [0, 1, 7] (.seq (.reg [(oA 8 (.nextS (.t 7))), (oA 9 (.extract (.t 8) 0))] []) (.seq (.cond (.t 9) .skip (.exit 0)) (.block 1 (.seq (.reg [(oA 10 (.extract (.t 8) 1)), (oA 5 (.mv (.t 10)))] []) (.seq (.reg [(oA 11 (.mv (.t 1))), (oA 12 (.mv (.t 0))), (oA 13 (.mv (.t 5))), (oA 14 (.index (.t 12) (.t 13))), (oA 15 (.call (.t 11) [(.t 14)])), (oA 16 (.un .not (.t 15)))] []) (.cond (.t 16) (.seq (.reg [(oA 17 (.mv (.t 5))), (oA 4 (.mv (.t 17)))] []) .ret) .skip))))))))) (.mark 2 [0] (.seq (.reg [(oA 18 (.mv (.t 0))), (oA 19 (.len 0 (.t 18))), (oA 4 (.mv (.t 19)))] []) .ret)))) }
theorem t180 : compF Tryd.prog (globs2 tabs opq) (fun _ => false) true Tryd.f180 = some c180.erase := by kernel_rfl
noncomputable def b180_0 (O : Oracle) (R : Jump) (q : Nat) (x0 x1 : TVal) (h : Heap) : Res1 :=
 vop O (.rangeS (.k x0)) h 7 fun x7 h =>
 R 1 [x0, x1, x7] h
theorem e180_0 (O : Oracle) (R : Jump) (q : Nat) (x0 x1 : TVal) (h : Heap) : b180_0 O R q x0 x1 h = stepF c180 O R q 0 [x0, x1] h := by kernel_rfl
noncomputable def b180_1 (O : Oracle) (R : Jump) (q : Nat) (x0 x1 x7 : TVal) (h : Heap) : Res1 :=
 vop O (.nextS (.k x7)) h 8 fun x8 h =>
 vext x8 0 h fun x9 h =>
 vif x9 (
 vext x8 1 h fun x10 h =>
 vindex x0 x10 h fun x14 h =>
 vcall O x1 [x14] h 15 fun x15 h =>
 vop O (.un .not (.k x15)) h 16 fun x16 h =>
 vif x16 (
 tcomp x10 fun c0 => vfin true q [c0] h)
 (R 1 [x0, x1, x7] h))
 (R 2 [x0] h)
theorem e180_1 (O : Oracle) (R : Jump) (q : Nat) (x0 x1 x7 : TVal) (h : Heap) : b180_1 O R q x0 x1 x7 h = stepF c180 O R q 1 [x0, x1, x7] h := by kernel_rfl
noncomputable def b180_2 (O : Oracle) (R : Jump) (q : Nat) (x0 : TVal) (h : Heap) : Res1 :=
 vlen O 0 x0 h 19 fun x19 h =>
 tcomp x19 fun c0 => vfin true q [c0] h
theorem e180_2 (O : Oracle) (R : Jump) (q : Nat) (x0 : TVal) (h : Heap) : b180_2 O R q x0 h = stepF c180 O R q 2 [x0] h := by kernel_rfl
noncomputable def d180 : BlkF := fun O R q => [.s fun y0 => .s fun y1 => .z fun h => b180_0 O R q y0 y1 h, .s fun y0 => .s fun y1 => .s fun y2 => .z fun h => b180_1 O R q y0 y1 y2 h, .s fun y0 => .z fun h => b180_2 O R q y0 h]
theorem o180 (O : Oracle) (R : Jump) (q : Nat) : HoldsAll c180 O R q 0 (d180 O R q) := ⟨fun y0 y1 h => e180_0 O R q y0 y1 h, fun y0 y1 y2 h => e180_1 O R q y0 y1 y2 h, fun y0 h => e180_2 O R q y0 h, trivial⟩
/- sprue/scan.row$1 -/
def c181 : MFunc := { np := 1, res := [.t 2], frz := true, body := (.seq (.reg [(oA 2 (.mv (.k (.v (.c (.p (.bool false)))))))] []) (.seq (.reg [(oA 3 (.mv (.t 0))), (oA 4 (.call (.k (.v (.c (.func 182 [])))) [(.t 3)])), (oA 5 (.mv (.t 4))), ⟨(some 6), (.mv (.t 0)), (some (5, false))⟩, ⟨(some 7), (.call (.k (.v (.c (.func 174 [])))) [(.t 6)]), (some (5, false))⟩, (oA 8 (.pick (.t 5) (.k (.v (.c (.p (.bool true))))) (.t 7))), (oA 2 (.mv (.t 8)))] []) .ret)) }
theorem t181 : compF Tryd.prog (globs2 tabs opq) (fun _ => false) true Tryd.f181 = some c181.erase := by kernel_rfl
noncomputable def b181_0 (O : Oracle) (R : Jump) (q : Nat) (x0 : TVal) (h : Heap) : Res1 :=
 vcall O (.v (.c (.func 182 []))) [x0] h 4 fun x4 h =>
 vguard x4 false (fun kk => kk x0 h) h fun x6 h =>
 vguard x4 false (fun kk => vcall O (.v (.c (.func 174 []))) [x6] h 7 kk) h fun x7 h =>
 vop O (.pick (.k x4) (.k (kB true)) (.k x7)) h 8 fun x8 h =>
 tcomp x8 fun c0 => vfin true q [c0] h
theorem e181_0 (O : Oracle) (R : Jump) (q : Nat) (x0 : TVal) (h : Heap) : b181_0 O R q x0 h = stepF c181 O R q 0 [x0] h := by kernel_rfl
noncomputable def d181 : BlkF := fun O R q => [.s fun y0 => .z fun h => b181_0 O R q y0 h]
theorem o181 (O : Oracle) (R : Jump) (q : Nat) : HoldsAll c181 O R q 0 (d181 O R q) := ⟨fun y0 h => e181_0 O R q y0 h, trivial⟩
/- sprue/scan.letter -/
def c182 : MFunc := { np := 1, res := [.t 2], frz := true, body := (.seq (.reg [(oA 2 (.mv (.k (.v (.c (.p (.bool false)))))))] []) (.seq (.reg [(oA 3 (.mv (.t 0))), (oA 4 (.bin .eql 0 (.t 3) (.k (.v (.c (.p (.int .u8 95))))))), (oA 5 (.mv (.t 4))), ⟨(some 6), (.mv (.t 0)), (some (5, false))⟩, ⟨(some 7), (.bin .or 0 (.t 6) (.k (.v (.c (.p (.int .u8 32)))))), (some (5, false))⟩, ⟨(some 8), (.bin .geq 0 (.t 7) (.k (.v (.c (.p (.int .u8 97)))))), (some (5, false))⟩, ⟨(some 9), (.mv (.t 8)), (some (5, false))⟩, ⟨(some 10), (.mv (.t 0)), (some (9, true))⟩, ⟨(some 11), (.bin .or 0 (.t 10) (.k (.v (.c (.p (.int .u8 32)))))), (some (9, true))⟩, ⟨(some 12), (.bin .leq 0 (.t 11) (.k (.v (.c (.p (.int .u8 122)))))), (some (9, true))⟩, ⟨(some 13), (.pick (.t 9) (.t 12) (.k (.v (.c (.p (.bool false)))))), (some (5, false))⟩, (oA 14 (.pick (.t 5) (.k (.v (.c (.p (.bool true))))) (.t 13))), (oA 2 (.mv (.t 14)))] []) .ret)) }
theorem t182 : compF Tryd.prog (globs2 tabs opq) (fun _ => false) true Tryd.f182 = some c182.erase := by kernel_rfl
noncomputable def b182_0 (O : Oracle) (R : Jump) (q : Nat) (x0 : TVal) (h : Heap) : Res1 :=
 vbin .eql 0 x0 (.v (.c (.p (.int .u8 95)))) h fun x4 h =>
 vguard x4 false (fun kk => kk x0 h) h fun x6 h =>
 vguard x4 false (fun kk => vbin .or 0 x6 (.v (.c (.p (.int .u8 32)))) h kk) h fun x7 h =>
 vguard x4 false (fun kk => vbin .geq 0 x7 (.v (.c (.p (.int .u8 97)))) h kk) h fun x8 h =>
 vguard x4 false (fun kk => kk x8 h) h fun x9 h =>
 vguard x9 true (fun kk => kk x0 h) h fun x10 h =>
 vguard x9 true (fun kk => vbin .or 0 x10 (.v (.c (.p (.int .u8 32)))) h kk) h fun x11 h =>
 vguard x9 true (fun kk => vbin .leq 0 x11 (.v (.c (.p (.int .u8 122)))) h kk) h fun x12 h =>
 vguard x4 false (fun kk => vop O (.pick (.k x9) (.k x12) (.k (kB false))) h 13 kk) h fun x13 h =>
 vop O (.pick (.k x4) (.k (kB true)) (.k x13)) h 14 fun x14 h =>
 tcomp x14 fun c0 => vfin true q [c0] h
theorem e182_0 (O : Oracle) (R : Jump) (q : Nat) (x0 : TVal) (h : Heap) : b182_0 O R q x0 h = stepF c182 O R q 0 [x0] h := by kernel_rfl
noncomputable def d182 : BlkF := fun O R q => [.s fun y0 => .z fun h => b182_0 O R q y0 h]
theorem o182 (O : Oracle) (R : Jump) (q : Nat) : HoldsAll c182 O R q 0 (d182 O R q) := ⟨fun y0 h => e182_0 O R q y0 h, trivial⟩
end Go.Proofs.YtlkejchbcchecaaDoor.Ab
