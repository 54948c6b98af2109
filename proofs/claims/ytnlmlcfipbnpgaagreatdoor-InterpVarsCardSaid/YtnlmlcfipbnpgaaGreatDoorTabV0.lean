/- Functions of the given program as the abstract interpreter has them (part 0),printed by a program of our own; each is shown to be what 'compF' makes of the given program's. No condition. -/
import Derived.Test.YtnlmlcfipbnpgaaGreatDoorChecked
import Derived.Test.YtnlmlcfipbnpgaaGreatDoorAd
namespace Go.Proofs.YtnlmlcfipbnpgaaGreatDoor.Ab
open Go Go.AI
noncomputable section
set_option linter.all false
set_option linter.unusedVariables false
set_option maxRecDepth 100000
def z0a4518d3:List UInt8:=[0,1,2,2,3,3,3,3,4,4,4,4,4,4,4,4,5,5,5,5,5,5,5,5,5,5,5,5,5,5,5,5,6,6,6,6,6,6,6,6,6,6,6,6,6,6,6,6,6,6,6,6,6,6,6,6,6,6,6,6,6,6,6,6,7,7,7,7,7,7,7,7,7,7,7,7,7,7,7,7,7,7,7,7,7,7,7,7,7,7,7,7,7,7,7,7,7,7,7,7,7,7,7,7,7,7,7,7,7,7,7,7,7,7,7,7,7,7,7,7,7,7,7,7,7,7,7,7,8,8,8,8,8,8,8,8,8,8,8,8,8,8,8,8,8,8,8,8,8,8,8,8,8,8,8,8,8,8,8,8,8,8,8,8,8,8,8,8,8,8,8,8,8,8,8,8,8,8,8,8,8,8,8,8,8,8,8,8,8,8,8,8,8,8,8,8,8,8,8,8,8,8,8,8,8,8,8,8,8,8,8,8,8,8,8,8,8,8,8,8,8,8,8,8,8,8,8,8,8,8,8,8,8,8,8,8,8,8,8,8,8,8,8,8,8,8,8,8,8,8,8,8,8,8,8,8]
def z53fdd7c2:List UInt8:=[48,48,48,49,48,50,48,51,48,52,48,53,48,54,48,55,48,56,48,57,49,48,49,49,49,50,49,51,49,52,49,53,49,54,49,55,49,56,49,57,50,48,50,49,50,50,50,51,50,52,50,53,50,54,50,55,50,56,50,57,51,48,51,49,51,50,51,51,51,52,51,53,51,54,51,55,51,56,51,57,52,48,52,49,52,50,52,51,52,52,52,53,52,54,52,55,52,56,52,57,53,48,53,49,53,50,53,51,53,52,53,53,53,54,53,55,53,56,53,57,54,48,54,49,54,50,54,51,54,52,54,53,54,54,54,55,54,56,54,57,55,48,55,49,55,50,55,51,55,52,55,53,55,54,55,55,55,56,55,57,56,48,56,49,56,50,56,51,56,52,56,53,56,54,56,55,56,56,56,57,57,48,57,49,57,50,57,51,57,52,57,53,57,54,57,55,57,56,57,57]
def z6c995b20:List UInt8:=[32,108,101,110,32,110,111,116,32,97,110,100,32,111,114,32,101,113,32,108,116,32,97,100,100,32,115,117,98,32,109,117,108,32,115,104,108,32,115,104,114,32,105,56,32,105,49,54,32,105,51,50,32,117,56,32,117,49,54,32,117,51,50,32,99,97,116,32,116,101,120,116,32,97,116,32,103,101,116,32,104,97,115,32,111,114,101,108,115,101,32]
def zd825df27:List UInt8:=[125,125,123,123,114,97,110,103,101,32,46,125,125,123,123,36,115,32,61,32,97,100,100,32,36,115,32,46,125,125,123,123,36,115,32,58,61,32,48,125,125,123,123,36,115,32,61,32,49,125,125,123,123,101,110,100,125,125,123,123,36,115,125,125]
def vals0:List Int:=[0,1,28,2,29,14,24,3,30,22,20,15,25,17,4,8,31,27,13,23,21,19,16,7,26,12,18,6,11,5,10,9]
def tabs:List Tabl:=[Tabl.mk "math/bits.deBruijn32tab" 4 .u8 [0,1,28,2,29,14,24,3,30,22,20,15,25,17,4,8,31,27,13,23,21,19,16,7,26,12,18,6,11,5,10,9],Tabl.mk "math/bits.deBruijn64tab" 5 .u8 [0,1,56,2,57,49,28,3,61,58,42,50,38,29,17,4,62,47,59,36,45,43,51,22,53,39,33,30,24,18,12,5,63,55,48,27,60,41,37,16,46,35,44,21,52,32,23,11,54,26,40,15,34,20,31,10,25,14,19,9,13,8,7,6],Tabl.mk "internal/strconv.uint64pow10" 1 .u64 [1,10,100,1000,10000,100000,1000000,10000000,100000000,1000000000,10000000000,100000000000,1000000000000,10000000000000,100000000000000,1000000000000000,10000000000000000,100000000000000000,1000000000000000000,10000000000000000000]]
def opq:Option Nat:=some 0
def c4:MFunc:=mkM (compF Tryz.prog (globs2 tabs opq) (λ_=>false) true Tryz.f4) (.s .n (.s .n (.s .n (.s .n (.s .n (.s (.s .n (.k (.l 1 [0,1,5,6,7] .n))) (.m 2 [1,5,6] .n)))))))
def b4_0(O:Oracle)(R:Jump)(q:Nat)(x0 x1:TVal)(h:Heap):Res1 :=
 vcall O (.v (.c (.func 18 []))) [] h 18 λx18 h =>
 vop O (.un .not (.k x18)) h 19 λx19 h =>
 vif x19 (
 tcomp (kB false) λc0=>vfin true q [c0] h)
 (vlen O 2 x0 h 21 λx21 h =>
 vbin .gtr 0 x21 (kI 10) h λx22 h =>
 vif x22 (
 tcomp (kB true) λc0=>vfin true q [c0] h)
 (vop O (.build [(.p (.int .i64 0)),(.p (.bool false)),(.p (.int .i64 0)),(.p (.str [])),(.p .nilslice),(.p .nilslice)] [(0,1,(.k (kI 4)))]) h 23 λx23 h =>
 vop O (.alloc [(.p (.int .i64 0)),(.p (.bool false)),(.p (.int .i64 0)),(.p (.str [])),(.p .nilslice),(.p .nilslice)] false) h 5 λx5 h =>
 vstore 6 x5 x23 h λ_ h =>
 R 1 [x0,x1,x5,x1,(kI 0)] h))
theorem e4_0(O R q x0 x1 h):b4_0 O R q x0 x1 h=stepF c4 O R q 0 [x0,x1] h:=by kernel_rfl
def b4_1(O:Oracle)(R:Jump)(q:Nat)(x0 x1 x5 x6 x7:TVal)(h:Heap):Res1 :=
 vlen O 2 x0 h 27 λx27 h =>
 vbin .lss 0 x7 x27 h λx28 h =>
 vif x28 (
 vtouch O (.faddr 5 (.k x5)) h 31 λx31 h t0 =>
 vtouch O (.load false 1 (.k x31)) h 32 λx32 h t1 =>
 vtouch O (.mv (.k x0)) h 33 λx33 h t2 =>
 vtouch O (.mv (.k x7)) h 34 λx34 h t3 =>
 vtouch O (.iaddr 1 (.k x33) (.k x34)) h 35 λx35 h t4 =>
 vtouch O (.load false 1 (.k x35)) h 36 λx36 h t5 =>
 vtouch O (.build [(.p (.int .i64 0)),(.p (.bool false)),(.p (.int .i64 0)),(.p (.str [])),(.p .nilslice),(.p .nilslice)] [(0,1,(.k (kI 2))),(2,1,(.k x36))]) h 37 λx37 h t6 =>
 vtouch O (.bslice 6 1 [(.p (.int .i64 0)),(.p (.bool false)),(.p (.int .i64 0)),(.p (.str [])),(.p .nilslice),(.p .nilslice)] [(0,(.k x37))] false) h 38 λx38 h t7 =>
 vtouch O (.append 6 88 false (.k x32) (.k x38)) h 39 λx39 h t8 =>
 vtouch O (.faddr 5 (.k x5)) h 40 λx40 h t9 =>
 vtouch O (.store 1 (.k x40) (.k x39)) h 1000000 λ_ h t10 =>
 bif apartAll [t0,t1,t2,t3,t4,t5,t6,t7,t8,t9,t10] [(1,7)] then
 viaddr 1 x0 x7 h λx44 h =>
 vload false 1 x44 h λx45 h =>
 vbin .add 0 x6 x45 h λx46 h =>
 vbin .add 0 x7 (kI 1) h λx30 h =>
 R 1 [x0,x1,x5,x46,x30] h
 else none)
 (R 2 [x1,x5,x6] h)
theorem e4_1(O R q x0 x1 x5 x6 x7 h):b4_1 O R q x0 x1 x5 x6 x7 h=stepF c4 O R q 1 [x0,x1,x5,x6,x7] h:=by kernel_rfl
def b4_2(O:Oracle)(R:Jump)(q:Nat)(x1 x5 x6:TVal)(h:Heap):Res1 :=
 vop O (.build [(.p (.int .i64 0)),(.p (.bool false)),(.p (.int .i64 0)),(.p (.str [])),(.p .nilslice),(.p .nilslice)] [(0,1,(.k (kI 2))),(2,1,(.k x1))]) h 49 λx49 h =>
 vcall O (.v (.c (.func 19 []))) [x49] h 50 λx50 h =>
 vext x50 0 h λx51 h =>
 vext x50 1 h λx52 h =>
 vbin .add 0 (kS [123,123,36,115,32,58,61,32]) x51 h λx55 h =>
 vbin .add 0 x55 (kS zd825df27) h λx56 h =>
 vcall O (.v (.c (.func 20 []))) [x56] h 57 λx57 h =>
 vext x57 0 h λx58 h =>
 vext x57 1 h λx59 h =>
 vext x57 2 h λx60 h =>
 vtouch O (.mv (.k x58)) h 62 λx62 h t0 =>
 vtouch O (.load true 6 (.k x5)) h 63 λx63 h t1 =>
 vtouch O (.call (.k (.v (.c (.func 22 [])))) [(.k (.v (.c (.p .nilslice))))]) h 64 λx64 h t2 =>
 vtouch O (.build [(.p (.int .i64 0)),(.p (.int .i64 0)),(.p (.int .i64 0))] [(0,1,(.k (kI 5000))),(2,1,(.k (kI (-1))))]) h 65 λx65 h t3 =>
 vtouch O (.call (.k (.v (.c (.func 21 [])))) [(.k x62),(.k x63),(.k x64),(.k x65)]) h 66 λx66 h t4 =>
 vtouch O (.mv (.k x66)) h 61 λx61 h t5 =>
 vtouch O (.extract (.k x61) 0) h 67 λx67 h t6 =>
 vtouch O (.extract (.k x61) 1) h 68 λx68 h t7 =>
 vtouch O (.extract (.k x61) 2) h 69 λx69 h t8 =>
 vtouch O (.mv (.k x67)) h 13 λx13 h t9 =>
 vtouch O (.mv (.k x68)) h 14 λx14 h t10 =>
 vtouch O (.mv (.k x69)) h 15 λx15 h t11 =>
 bif apartAll [t0,t1,t2,t3,t4,t5,t6,t7,t8,t9,t10,t11] [(1,2)] then
 vop O (.build [(.p (.int .i64 0)),(.p (.bool false)),(.p (.int .i64 0)),(.p (.str [])),(.p .nilslice),(.p .nilslice)] [(0,1,(.k (kI 2))),(2,1,(.k x6))]) h 72 λx72 h =>
 vcall O (.v (.c (.func 19 []))) [x72] h 73 λx73 h =>
 vext x73 0 h λx74 h =>
 vext x73 1 h λx75 h =>
 vbin .eql 0 x60 (kI 0) h λx77 h =>
 vguard x77 true (λkk=>kk x15 h) h λx79 h =>
 vguard x77 true (λkk=>vbin .eql 0 x79 (kI 0) h kk) h λx80 h =>
 vop O (.pick (.k x77) (.k x80) (.k (kB false))) h 81 λx81 h =>
 vguard x81 true (λkk=>kk x13 h) h λx83 h =>
 vguard x81 true (λkk=>vop O (.toStr (.k x83)) h 84 kk) h λx84 h =>
 vguard x81 true (λkk=>kk x74 h) h λx85 h =>
 vguard x81 true (λkk=>vbin .eql 0 x84 x85 h kk) h λx86 h =>
 vop O (.pick (.k x81) (.k x86) (.k (kB false))) h 87 λx87 h =>
 tcomp x87 λc0=>vfin true q [c0] h
 else none
theorem e4_2(O R q x1 x5 x6 h):b4_2 O R q x1 x5 x6 h=stepF c4 O R q 2 [x1,x5,x6] h:=by kernel_rfl
def d4:BlkF:=λO R Q=>[.s λa => .s λb => .z (b4_0 O R Q a b),.s λa => .s λb => .s λc => .s λd => .s λe => .z (b4_1 O R Q a b c d e),.s λa => .s λb => .s λc => .z (b4_2 O R Q a b c)]
theorem o4(O:Oracle)(R:Jump)(q:Nat):HoldsAll c4 O R q 0 (d4 O R q):=⟨e4_0 O R q,e4_1 O R q,e4_2 O R q,trivial⟩
def c18:MFunc:=mkM (compF Tryz.prog (globs2 tabs opq) (λ_=>false) true Tryz.f18) .n
def b18_0(O:Oracle)(R:Jump)(q:Nat)(h:Heap):Res1 :=
 vcall O (.v (.c (.func 20 []))) [(kS [97,123,123,46,125,125])] h 8 λx8 h =>
 vext x8 0 h λx9 h =>
 vext x8 1 h λx10 h =>
 vext x8 2 h λx11 h =>
 vop O (.build [(.p (.int .i64 0)),(.p (.bool false)),(.p (.int .i64 0)),(.p (.str [])),(.p .nilslice),(.p .nilslice)] [(0,1,(.k (kI 2))),(2,1,(.k (kI 5)))]) h 14 λx14 h =>
 vcall O (.v (.c (.func 22 []))) [(.v (.c (.p .nilslice)))] h 15 λx15 h =>
 vop O (.build [(.p (.int .i64 0)),(.p (.int .i64 0)),(.p (.int .i64 0))] [(0,1,(.k (kI 9))),(1,1,(.k (kI 1))),(2,1,(.k (kI (-1))))]) h 16 λx16 h =>
 vcall O (.v (.c (.func 21 []))) [x9,x14,x15,x16] h 17 λx17 h =>
 vext x17 0 h λx18 h =>
 vext x17 1 h λx19 h =>
 vext x17 2 h λx20 h =>
 vbin .eql 0 x11 (kI 0) h λx22 h =>
 vguard x22 true (λkk=>kk x20 h) h λx24 h =>
 vguard x22 true (λkk=>vbin .eql 0 x24 (kI 0) h kk) h λx25 h =>
 vop O (.pick (.k x22) (.k x25) (.k (kB false))) h 26 λx26 h =>
 vguard x26 true (λkk=>kk x18 h) h λx28 h =>
 vguard x26 true (λkk=>vop O (.toStr (.k x28)) h 29 kk) h λx29 h =>
 vguard x26 true (λkk=>vbin .eql 0 x29 (kS [97,53]) h kk) h λx30 h =>
 vop O (.pick (.k x26) (.k x30) (.k (kB false))) h 31 λx31 h =>
 vguard x31 true (λkk=>kk x19 h) h λx33 h =>
 vguard x31 true (λkk=>vbin .eql 0 x33 (kI 3) h kk) h λx34 h =>
 vop O (.pick (.k x31) (.k x34) (.k (kB false))) h 35 λx35 h =>
 tcomp x35 λc0=>vfin true q [c0] h
theorem e18_0(O R q h):b18_0 O R q  h=stepF c18 O R q 0 [] h:=by kernel_rfl
def d18:BlkF:=λO R Q=>[.z (b18_0 O R Q )]
theorem o18(O:Oracle)(R:Jump)(q:Nat):HoldsAll c18 O R q 0 (d18 O R q):=⟨e18_0 O R q,trivial⟩
def c19:MFunc:=mkM (compF Tryz.prog (globs2 tabs opq) (λ_=>false) true Tryz.f19) (.s .n (.s (.s .n (.k (.s .n (.m 1 [1,5,6] .n)))) .n))
def b19_0(O:Oracle)(R:Jump)(q:Nat)(x0:TVal)(h:Heap):Res1 :=
 vop O (.box (.k x0) false) h 1 λx1 h =>
 vfaddr 0 x1 h λx4 h =>
 vload false 1 x4 h λx5 h =>
 vbin .eql 0 x5 (kI 1) h λx7 h =>
 vif x7 (
 R 1 [x1,x5,x7] h)
 (vbin .eql 0 x5 (kI 2) h λx8 h =>
 R 1 [x1,x5,x8] h)
theorem e19_0(O R q x0 h):b19_0 O R q x0 h=stepF c19 O R q 0 [x0] h:=by kernel_rfl
def b19_1(O:Oracle)(R:Jump)(q:Nat)(x1 x5 x6:TVal)(h:Heap):Res1 :=
 vif x6 (
 vload true 6 x1 h λx9 h =>
 vcall O (.v (.c (.func 63 []))) [x9] h 10 λx10 h =>
 tcomp x10 λc0=>tcomp (kB true) λc1=>vfin true q [c0,c1] h)
 (vbin .eql 0 x5 (kI 3) h λx12 h =>
 vif x12 (
 vfaddr 3 x1 h λx13 h =>
 vload false 1 x13 h λx14 h =>
 tcomp x14 λc0=>tcomp (kB true) λc1=>vfin true q [c0,c1] h)
 (tcomp (kS []) λc0=>tcomp (kB false) λc1=>vfin true q [c0,c1] h))
theorem e19_1(O R q x1 x5 x6 h):b19_1 O R q x1 x5 x6 h=stepF c19 O R q 1 [x1,x5,x6] h:=by kernel_rfl
def d19:BlkF:=λO R Q=>[.s λa => .z (b19_0 O R Q a),.s λa => .s λb => .s λc => .z (b19_1 O R Q a b c)]
theorem o19(O:Oracle)(R:Jump)(q:Nat):HoldsAll c19 O R q 0 (d19 O R q):=⟨e19_0 O R q,e19_1 O R q,trivial⟩
def c20:MFunc:=mkM (compF Tryz.prog (globs2 tabs opq) (λ_=>false) true Tryz.f20) (.s .n (.s .n (.s .n (.s .n (.s (.s .n (.k (.l 1 [0,5,7,8] (.s .n (.s (.k (.s .n (.s .n (.m 2 [0,5,7,8,9] .n)))) .n))))) (.m 3 [0,7] .n))))))
def b20_0(O:Oracle)(R:Jump)(q:Nat)(x0:TVal)(h:Heap):Res1 :=
 vcall O (.v (.c (.func 64 []))) [x0] h 12 λx12 h =>
 vext x12 0 h λx13 h =>
 vext x12 1 h λx14 h =>
 vbin .neq 0 x14 (kI 0) h λx16 h =>
 vif x16 (
 tcomp (.v (.c (.p .nilslice))) λc0=>tcomp (kI 0) λc1=>tcomp x14 λc2=>vfin true q [c0,c1,c2] h)
 (vop O (.build [(.p .nilslice),(.p .nilslice),(.p .nilslice),(.p (.int .i64 0))] []) h 18 λx18 h =>
 vop O (.box (.k x18) false) h 19 λx19 h =>
 R 1 [x0,x13,x19,(kI 0)] h)
theorem e20_0(O R q x0 h):b20_0 O R q x0 h=stepF c20 O R q 0 [x0] h:=by kernel_rfl
def b20_1(O:Oracle)(R:Jump)(q:Nat)(x0 x5 x7 x8:TVal)(h:Heap):Res1 :=
 vlen O 2 x5 h 22 λx22 h =>
 vbin .lss 0 x8 x22 h λx23 h =>
 vif x23 (
 viaddr 3 x5 x8 h λx28 h =>
 vfaddr 0 x28 h λx29 h =>
 vload false 1 x29 h λx30 h =>
 vif x30 (
 viaddr 3 x5 x8 h λx34 h =>
 vload true 3 x34 h λx35 h =>
 vcall O (.v (.c (.func 65 []))) [x7,x35] h 36 λx36 h =>
 R 2 [x0,x5,x7,x8,x36] h)
 (viaddr 3 x5 x8 h λx40 h =>
 vload true 3 x40 h λx41 h =>
 vcall O (.v (.c (.func 66 []))) [x7,x41] h 42 λx42 h =>
 R 2 [x0,x5,x7,x8,x42] h))
 (R 3 [x0,x7] h)
theorem e20_1(O R q x0 x5 x7 x8 h):b20_1 O R q x0 x5 x7 x8 h=stepF c20 O R q 1 [x0,x5,x7,x8] h:=by kernel_rfl
def b20_2(O:Oracle)(R:Jump)(q:Nat)(x0 x5 x7 x8 x9:TVal)(h:Heap):Res1 :=
 vbin .neq 0 x9 (kI 0) h λx44 h =>
 vif x44 (
 viaddr 3 x5 x8 h λx47 h =>
 vfaddr 2 x47 h λx48 h =>
 vload false 1 x48 h λx49 h =>
 tcomp (.v (.c (.p .nilslice))) λc0=>tcomp x49 λc1=>tcomp x9 λc2=>vfin true q [c0,c1,c2] h)
 (vbin .add 0 x8 (kI 1) h λx25 h =>
 R 1 [x0,x5,x7,x25] h)
theorem e20_2(O R q x0 x5 x7 x8 x9 h):b20_2 O R q x0 x5 x7 x8 x9 h=stepF c20 O R q 2 [x0,x5,x7,x8,x9] h:=by kernel_rfl
def b20_3(O:Oracle)(R:Jump)(q:Nat)(x0 x7:TVal)(h:Heap):Res1 :=
 vop O (.nilck (.k x7)) h 52 λx52 h =>
 vfaddr 0 x52 h λx53 h =>
 vload false 1 x53 h λx54 h =>
 vlen O 2 x54 h 55 λx55 h =>
 vbin .gtr 0 x55 (kI 0) h λx56 h =>
 vif x56 (
 vlen O 0 x0 h 58 λx58 h =>
 tcomp (.v (.c (.p .nilslice))) λc0=>tcomp x58 λc1=>tcomp (kI 12) λc2=>vfin true q [c0,c1,c2] h)
 (vtouch O (.mv (.k x7)) h 59 λx59 h t0 =>
 vtouch O (.nilck (.k x59)) h 60 λx60 h t1 =>
 vtouch O (.faddr 1 (.k x60)) h 61 λx61 h t2 =>
 vtouch O (.load false 1 (.k x61)) h 62 λx62 h t3 =>
 vtouch O (.build [(.p (.str [])),(.p .nilslice)] [(1,1,(.k x62))]) h 63 λx63 h t4 =>
 vtouch O (.bslice 2 1 [(.p (.str [])),(.p .nilslice)] [(0,(.k x63))] false) h 64 λx64 h t5 =>
 vtouch O (.mv (.k x7)) h 65 λx65 h t6 =>
 vtouch O (.nilck (.k x65)) h 66 λx66 h t7 =>
 vtouch O (.faddr 2 (.k x66)) h 67 λx67 h t8 =>
 vtouch O (.load false 1 (.k x67)) h 68 λx68 h t9 =>
 vtouch O (.append 2 40 false (.k x64) (.k x68)) h 69 λx69 h t10 =>
 vtouch O (.mv (.k x69)) h 2 λx2 h t11 =>
 vtouch O (.mv (.k (kI 0))) h 3 λx3 h t12 =>
 vtouch O (.mv (.k (kI 0))) h 4 λx4 h t13 =>
 bif apartAll [t0,t1,t2,t3,t4,t5,t6,t7,t8,t9,t10,t11,t12,t13] [(5,9)] then
 tcomp x2 λc0=>tcomp x3 λc1=>tcomp x4 λc2=>vfin true q [c0,c1,c2] h
 else none)
theorem e20_3(O R q x0 x7 h):b20_3 O R q x0 x7 h=stepF c20 O R q 3 [x0,x7] h:=by kernel_rfl
def d20:BlkF:=λO R Q=>[.s λa => .z (b20_0 O R Q a),.s λa => .s λb => .s λc => .s λd => .z (b20_1 O R Q a b c d),.s λa => .s λb => .s λc => .s λd => .s λe => .z (b20_2 O R Q a b c d e),.s λa => .s λb => .z (b20_3 O R Q a b)]
theorem o20(O:Oracle)(R:Jump)(q:Nat):HoldsAll c20 O R q 0 (d20 O R q):=⟨e20_0 O R q,e20_1 O R q,e20_2 O R q,e20_3 O R q,trivial⟩
def c21:MFunc:=mkM (compF Tryz.prog (globs2 tabs opq) (λ_=>false) true Tryz.f21) (.s .n (.s .n (.s .n (.m 1 [0,5,10,11] (.s .n (.m 2 [10,11] .n))))))
def b21_0(O:Oracle)(R:Jump)(q:Nat)(x0 x1 x2 x3:TVal)(h:Heap):Res1 :=
 vop O (.box (.k x1) false) h 5 λx5 h =>
 vop O (.box (.k x3) false) h 7 λx7 h =>
 vtouch O (.faddr 0 (.k x7)) h 12 λx12 h t0 =>
 vtouch O (.load false 1 (.k x12)) h 13 λx13 h t1 =>
 vtouch O (.call (.k (.v (.c (.func 67 [])))) [(.k x13),(.k (kI 5000))]) h 14 λx14 h t2 =>
 vtouch O (.faddr 1 (.k x7)) h 15 λx15 h t3 =>
 vtouch O (.load false 1 (.k x15)) h 16 λx16 h t4 =>
 vtouch O (.call (.k (.v (.c (.func 67 [])))) [(.k x16),(.k (kI 12))]) h 17 λx17 h t5 =>
 vtouch O (.faddr 2 (.k x7)) h 18 λx18 h t6 =>
 vtouch O (.load false 1 (.k x18)) h 19 λx19 h t7 =>
 vtouch O (.build [(.p (.int .i64 0)),(.p (.int .i64 0)),(.p (.int .i64 0))] [(0,1,(.k x14)),(1,1,(.k x17)),(2,1,(.k x19))]) h 20 λx20 h t8 =>
 vtouch O (.mv (.k x0)) h 21 λx21 h t9 =>
 vtouch O (.mv (.k x2)) h 22 λx22 h t10 =>
 vtouch O (.build [(.p (.int .i64 0)),(.p (.int .i64 0)),(.p (.int .i64 0)),(.p .nilslice),(.p .nilptr),(.p .nilslice),(.p (.int .i64 0))] [(0,3,(.k x20)),(3,1,(.k x21)),(4,1,(.k x22))]) h 23 λx23 h t11 =>
 vtouch O (.box (.k x23) false) h 24 λx24 h t12 =>
 vtouch O (.mv (.k x24)) h 11 λx11 h t13 =>
 bif apartAll [t0,t1,t2,t3,t4,t5,t6,t7,t8,t9,t10,t11,t12,t13] [(2,4),(2,7),(5,7)] then
 vfaddr 2 x7 h λx25 h =>
 vload false 1 x25 h λx26 h =>
 vbin .lss 0 x26 (kI 0) h λx27 h =>
 vguard x27 false (λkk=>vfaddr 2 x7 h kk) h λx29 h =>
 vguard x27 false (λkk=>vload false 1 x29 h kk) h λx30 h =>
 vguard x27 false (λkk=>vbin .gtr 0 x30 (kI 65536) h kk) h λx31 h =>
 vop O (.pick (.k x27) (.k (kB true)) (.k x31)) h 32 λx32 h =>
 vif x32 (
 vop O (.nilck (.k x11)) h 34 λx34 h =>
 vfaddr 0 x34 h λx35 h =>
 vfaddr 2 x35 h λx36 h =>
 vstore 1 x36 (kI 65536) h λ_ h =>
 R 1 [x0,x5,(kI 0),x11] h)
 (R 1 [x0,x5,(kI 0),x11] h)
 else none
theorem e21_0(O R q x0 x1 x2 x3 h):b21_0 O R q x0 x1 x2 x3 h=stepF c21 O R q 0 [x0,x1,x2,x3] h:=by kernel_rfl
def b21_1(O:Oracle)(R:Jump)(q:Nat)(x0 x5 x10 x11:TVal)(h:Heap):Res1 :=
 vlen O 2 x0 h 38 λx38 h =>
 vbin .gtr 0 x38 (kI 0) h λx39 h =>
 vif x39 (
 vtouch O (.mv (.k x11)) h 40 λx40 h t0 =>
 vtouch O (.load true 6 (.k x5)) h 41 λx41 h t1 =>
 vtouch O (.call (.k (.v (.c (.func 69 [])))) [(.k x41)]) h 42 λx42 h t2 =>
 vtouch O (.build [(.p (.int .i64 0)),(.p (.bool false)),(.p (.int .i64 0)),(.p (.str [])),(.p .nilslice),(.p .nilslice),(.p .nilslice),(.p (.int .i64 0))] [(0,6,(.k x42))]) h 43 λx43 h t3 =>
 vtouch O (.mv (.k x0)) h 44 λx44 h t4 =>
 vtouch O (.iaddr 2 (.k x44) (.k (kI 0))) h 45 λx45 h t5 =>
 vtouch O (.faddr 1 (.k x45)) h 46 λx46 h t6 =>
 vtouch O (.load false 1 (.k x46)) h 47 λx47 h t7 =>
 vtouch O (.call (.k (.v (.c (.func 68 [])))) [(.k x40),(.k x43),(.k x47)]) h 48 λx48 h t8 =>
 vtouch O (.mv (.k x48)) h 10 λx10_1 h t9 =>
 bif apartAll [t0,t1,t2,t3,t4,t5,t6,t7,t8,t9] [(2,7)] then
 R 2 [x10_1,x11] h
 else none)
 (R 2 [x10,x11] h)
theorem e21_1(O R q x0 x5 x10 x11 h):b21_1 O R q x0 x5 x10 x11 h=stepF c21 O R q 1 [x0,x5,x10,x11] h:=by kernel_rfl
def b21_2(O:Oracle)(R:Jump)(q:Nat)(x10 x11:TVal)(h:Heap):Res1 :=
 vop O (.nilck (.k x11)) h 50 λx50 h =>
 vfaddr 5 x50 h λx51 h =>
 vload false 1 x51 h λx52 h =>
 vop O (.nilck (.k x11)) h 54 λx54 h =>
 vfaddr 6 x54 h λx55 h =>
 vload false 1 x55 h λx56 h =>
 tcomp x52 λc0=>tcomp x56 λc1=>tcomp x10 λc2=>vfin true q [c0,c1,c2] h
theorem e21_2(O R q x10 x11 h):b21_2 O R q x10 x11 h=stepF c21 O R q 2 [x10,x11] h:=by kernel_rfl
def d21:BlkF:=λO R Q=>[.s λa => .s λb => .s λc => .s λd => .z (b21_0 O R Q a b c d),.s λa => .s λb => .s λc => .s λd => .z (b21_1 O R Q a b c d),.s λa => .s λb => .z (b21_2 O R Q a b)]
theorem o21(O:Oracle)(R:Jump)(q:Nat):HoldsAll c21 O R q 0 (d21 O R q):=⟨e21_0 O R q,e21_1 O R q,e21_2 O R q,trivial⟩
def c22:MFunc:=mkM (compF Tryz.prog (globs2 tabs opq) (λ_=>false) false Tryz.f22) (.s .n (.s .n (.s (.s .n (.k (.l 1 [3,14,15,16] (.s .n (.s .n (.s (.k (.s .n (.s .n (.s .n (.s (.s .n (.k (.l 2 [3,5,14,15,16,36,37,38] .n))) (.m 3 [3,5,14,15,16] .n)))))) (.m 4 [3,14,15,16] .n))))))) .n)))
def b22_0(O:Oracle)(R:Jump)(q:Nat)(x0:TVal)(h:Heap):Res1 :=
 vop O .mkmap h 10 λx10 h =>
 vop O .mkmap h 11 λx11 h =>
 vop O (.build [(.p .nilmap),(.p .nilmap)] [(0,1,(.k x10)),(1,1,(.k x11))]) h 12 λx12 h =>
 vop O (.box (.k x12) false) h 13 λx13 h =>
 vlen O 2 x0 h 15 λx15 h =>
 R 1 [x13,x0,x15,(kI 0)] h
theorem e22_0(O R q x0 h):b22_0 O R q x0 h=stepF c22 O R q 0 [x0] h:=by kernel_rfl
def b22_1(O:Oracle)(R:Jump)(q:Nat)(x3 x14 x15 x16:TVal)(h:Heap):Res1 :=
 vbin .lss 0 x16 x15 h λx17 h =>
 vif x17 (
 viaddr 3 x14 x16 h λx18 h =>
 vload true 3 x18 h λx19 h =>
 vop O (.alloc [(.p (.str [])),(.p .nilslice),(.p (.int .i64 0))] false) h 5 λx5 h =>
 vstore 3 x5 x19 h λ_ h =>
 vtouch O (.mv (.k x3)) h 21 λx21 h t0 =>
 vtouch O (.nilck (.k x21)) h 22 λx22 h t1 =>
 vtouch O (.faddr 0 (.k x22)) h 23 λx23 h t2 =>
 vtouch O (.load false 1 (.k x23)) h 24 λx24 h t3 =>
 vtouch O (.faddr 0 (.k x5)) h 25 λx25 h t4 =>
 vtouch O (.load false 1 (.k x25)) h 26 λx26 h t5 =>
 vtouch O (.lookup 2 (.agg [(.p (.str [])),(.p .nilslice),(.p (.int .i64 0))]) (.k x24) (.k x26) true) h 27 λx27 h t6 =>
 vtouch O (.mv (.k x27)) h 20 λx20 h t7 =>
 vtouch O (.extract (.k x20) 0) h 28 λx28 h t8 =>
 vtouch O (.extract (.k x20) 1) h 29 λx29 h t9 =>
 vtouch O (.alloc [(.p (.str [])),(.p .nilslice),(.p (.int .i64 0))] false) h 6 λx6 h t10 =>
 vtouch O (.store 3 (.k x6) (.k x28)) h 1000000 λ_ h t11 =>
 vtouch O (.mv (.k x29)) h 7 λx7 h t12 =>
 bif apartAll [t0,t1,t2,t3,t4,t5,t6,t7,t8,t9,t10,t11,t12] [(3,10),(5,10),(6,10)] then
 vif x7 (
 R 4 [x3,x14,x15,x16] h)
 (vfaddr 1 x5 h λx31 h =>
 vload false 1 x31 h λx32 h =>
 vcall O (.v (.c (.func 70 []))) [x32] h 33 λx33 h =>
 vfaddr 1 x5 h λx34 h =>
 vstore 1 x34 x33 h λ_ h =>
 vfaddr 1 x5 h λx35 h =>
 vload false 1 x35 h λx36 h =>
 vlen O 2 x36 h 37 λx37 h =>
 R 2 [x3,x5,x14,x15,x16,x36,x37,(kI 0)] h)
 else none)
 (tcomp x3 λc0=>vfin false q [c0] h)
theorem e22_1(O R q x3 x14 x15 x16 h):b22_1 O R q x3 x14 x15 x16 h=stepF c22 O R q 1 [x3,x14,x15,x16] h:=by kernel_rfl
def b22_2(O:Oracle)(R:Jump)(q:Nat)(x3 x5 x14 x15 x16 x36 x37 x38:TVal)(h:Heap):Res1 :=
 vbin .lss 0 x38 x37 h λx39 h =>
 vif x39 (
 viaddr 6 x36 x38 h λx41 h =>
 vload true 6 x41 h λx42 h =>
 vop O (.alloc [(.p (.int .i64 0)),(.p (.bool false)),(.p (.int .i64 0)),(.p (.str [])),(.p .nilslice),(.p .nilslice)] false) h 9 λx9 h =>
 vstore 6 x9 x42 h λ_ h =>
 vtouch O (.faddr 1 (.k x5)) h 43 λx43 h t0 =>
 vtouch O (.load false 1 (.k x43)) h 44 λx44 h t1 =>
 vtouch O (.mv (.k x38)) h 45 λx45 h t2 =>
 vtouch O (.load true 6 (.k x9)) h 46 λx46 h t3 =>
 vtouch O (.call (.k (.v (.c (.func 71 [])))) [(.k x46)]) h 47 λx47 h t4 =>
 vtouch O (.iaddr 6 (.k x44) (.k x45)) h 48 λx48 h t5 =>
 vtouch O (.store 6 (.k x48) (.k x47)) h 1000000 λ_ h t6 =>
 bif apartAll [t0,t1,t2,t3,t4,t5,t6] [(1,4)] then
 vbin .add 0 x38 (kI 1) h λx49 h =>
 R 2 [x3,x5,x14,x15,x16,x36,x37,x49] h
 else none)
 (R 3 [x3,x5,x14,x15,x16] h)
theorem e22_2(O R q x3 x5 x14 x15 x16 x36 x37 x38 h):b22_2 O R q x3 x5 x14 x15 x16 x36 x37 x38 h=stepF c22 O R q 2 [x3,x5,x14,x15,x16,x36,x37,x38] h:=by kernel_rfl
def b22_3(O:Oracle)(R:Jump)(q:Nat)(x3 x5 x14 x15 x16:TVal)(h:Heap):Res1 :=
 vop O (.nilck (.k x3)) h 51 λx51 h =>
 vfaddr 0 x51 h λx52 h =>
 vload false 1 x52 h λx53 h =>
 vfaddr 0 x5 h λx54 h =>
 vload false 1 x54 h λx55 h =>
 vload true 3 x5 h λx56 h =>
 vop O (.mapup 2 (.k x53) (.k x55) (.k x56)) h 1000000 λ_ h =>
 R 4 [x3,x14,x15,x16] h
theorem e22_3(O R q x3 x5 x14 x15 x16 h):b22_3 O R q x3 x5 x14 x15 x16 h=stepF c22 O R q 3 [x3,x5,x14,x15,x16] h:=by kernel_rfl
def b22_4(O:Oracle)(R:Jump)(q:Nat)(x3 x14 x15 x16:TVal)(h:Heap):Res1 :=
 vbin .add 0 x16 (kI 1) h λx57 h =>
 R 1 [x3,x14,x15,x57] h
theorem e22_4(O R q x3 x14 x15 x16 h):b22_4 O R q x3 x14 x15 x16 h=stepF c22 O R q 4 [x3,x14,x15,x16] h:=by kernel_rfl
def d22:BlkF:=λO R Q=>[.s λa => .z (b22_0 O R Q a),.s λa => .s λb => .s λc => .s λd => .z (b22_1 O R Q a b c d),.s λa => .s λb => .s λc => .s λd => .s λe => .s λf => .s λg => .s λh => .z (b22_2 O R Q a b c d e f g h),.s λa => .s λb => .s λc => .s λd => .s λe => .z (b22_3 O R Q a b c d e),.s λa => .s λb => .s λc => .s λd => .z (b22_4 O R Q a b c d)]
theorem o22(O:Oracle)(R:Jump)(q:Nat):HoldsAll c22 O R q 0 (d22 O R q):=⟨e22_0 O R q,e22_1 O R q,e22_2 O R q,e22_3 O R q,e22_4 O R q,trivial⟩
def c34:MFunc:=mkM (compF Tryz.prog (globs2 tabs opq) (λ_=>false) true Tryz.f34) (.s .n (.s .n (.s (.s .n (.k (.s .n (.s .n (.s .n (.m 1 [0,1,4,20,29] .n)))))) .n)))
def b34_0(O:Oracle)(R:Jump)(q:Nat)(x0 x1:TVal)(h:Heap):Res1 :=
 vop O (.alloc [(.p (.int .i64 0)),(.p (.bool false)),(.p (.int .i64 0)),(.p (.str [])),(.p .nilslice),(.p .nilslice)] false) h 4 λx4 h =>
 vcall O (.v (.c (.func 86 []))) [x0] h 10 λx10 h =>
 vop O (.un .not (.k x10)) h 11 λx11 h =>
 vif x11 (
 vop O (.build [(.p (.int .i64 0)),(.p (.bool false)),(.p (.int .i64 0)),(.p (.str [])),(.p .nilslice),(.p .nilslice)] []) h 12 λx12 h =>
 vstore 6 x4 x12 h λ_ h =>
 vcell true 6 x4 h λc0=>tcomp (kI 15) λc1=>vfin true q [c0,c1] h)
 (vlen O 2 x1 h 15 λx15 h =>
 vcall O (.v (.c (.func 87 []))) [x0] h 17 λx17 h =>
 vbin .neq 0 x15 x17 h λx18 h =>
 vif x18 (
 vop O (.build [(.p (.int .i64 0)),(.p (.bool false)),(.p (.int .i64 0)),(.p (.str [])),(.p .nilslice),(.p .nilslice)] []) h 19 λx19 h =>
 vstore 6 x4 x19 h λ_ h =>
 vcell true 6 x4 h λc0=>tcomp (kI 18) λc1=>vfin true q [c0,c1] h)
 (vbin .eql 0 x0 (kS [108,101,110]) h λx22 h =>
 vif x22 (
 viaddr 6 x1 (kI 0) h λx24 h =>
 vload true 6 x24 h λx25 h =>
 vcall O (.v (.c (.func 88 []))) [x25] h 26 λx26 h =>
 vext x26 0 h λx27 h =>
 vext x26 1 h λx28 h =>
 vstore 6 x4 x27 h λ_ h =>
 vcell true 6 x4 h λc0=>tcomp x28 λc1=>vfin true q [c0,c1] h)
 (vbin .eql 0 x0 (kS [110,111,116]) h λx30 h =>
 vif x30 (
 R 1 [x0,x1,x4,x0,x30] h)
 (vbin .eql 0 x0 (kS [97,110,100]) h λx31 h =>
 vif x31 (
 R 1 [x0,x1,x4,x0,x31] h)
 (vbin .eql 0 x0 (kS [111,114]) h λx32 h =>
 R 1 [x0,x1,x4,x0,x32] h)))))
theorem e34_0(O R q x0 x1 h):b34_0 O R q x0 x1 h=stepF c34 O R q 0 [x0,x1] h:=by kernel_rfl
def b34_1(O:Oracle)(R:Jump)(q:Nat)(x0 x1 x4 x20 x29:TVal)(h:Heap):Res1 :=
 vif x29 (
 vcall O (.v (.c (.func 89 []))) [x0,x1] h 35 λx35 h =>
 vext x35 0 h λx36 h =>
 vext x35 1 h λx37 h =>
 vstore 6 x4 x36 h λ_ h =>
 vcell true 6 x4 h λc0=>tcomp x37 λc1=>vfin true q [c0,c1] h)
 (vbin .eql 0 x20 (kS [101,113]) h λx39 h =>
 vif x39 (
 vcall O (.v (.c (.func 90 []))) [x1] h 41 λx41 h =>
 vext x41 0 h λx42 h =>
 vext x41 1 h λx43 h =>
 vstore 6 x4 x42 h λ_ h =>
 vcell true 6 x4 h λc0=>tcomp x43 λc1=>vfin true q [c0,c1] h)
 (vbin .eql 0 x20 (kS [99,97,116]) h λx45 h =>
 vif x45 (
 vcall O (.v (.c (.func 91 []))) [x1] h 47 λx47 h =>
 vext x47 0 h λx48 h =>
 vext x47 1 h λx49 h =>
 vstore 6 x4 x48 h λ_ h =>
 vcell true 6 x4 h λc0=>tcomp x49 λc1=>vfin true q [c0,c1] h)
 (vbin .eql 0 x20 (kS [116,101,120,116]) h λx51 h =>
 vif x51 (
 viaddr 6 x1 (kI 0) h λx53 h =>
 vload true 6 x53 h λx54 h =>
 vcall O (.v (.c (.func 92 []))) [x54] h 55 λx55 h =>
 vext x55 0 h λx56 h =>
 vext x55 1 h λx57 h =>
 vstore 6 x4 x56 h λ_ h =>
 vcell true 6 x4 h λc0=>tcomp x57 λc1=>vfin true q [c0,c1] h)
 (vbin .eql 0 x20 (kS [97,116]) h λx59 h =>
 vif x59 (
 vcall O (.v (.c (.func 93 []))) [x1] h 61 λx61 h =>
 vext x61 0 h λx62 h =>
 vext x61 1 h λx63 h =>
 vstore 6 x4 x62 h λ_ h =>
 vcell true 6 x4 h λc0=>tcomp x63 λc1=>vfin true q [c0,c1] h)
 (vbin .eql 0 x20 (kS [103,101,116]) h λx65 h =>
 vif x65 (
 vop O (.bslice 1 2 [(.p (.int .i64 0))] [(0,(.k (kI 5))),(1,(.k (kI 3)))] false) h 67 λx67 h =>
 vcall O (.v (.c (.func 94 []))) [x1,x67] h 68 λx68 h =>
 vop O (.un .not (.k x68)) h 69 λx69 h =>
 vif x69 (
 vop O (.build [(.p (.int .i64 0)),(.p (.bool false)),(.p (.int .i64 0)),(.p (.str [])),(.p .nilslice),(.p .nilslice)] []) h 70 λx70 h =>
 vstore 6 x4 x70 h λ_ h =>
 vcell true 6 x4 h λc0=>tcomp (kI 17) λc1=>vfin true q [c0,c1] h)
 (vtouch O (.mv (.k x1)) h 72 λx72 h t0 =>
 vtouch O (.iaddr 6 (.k x72) (.k (kI 0))) h 73 λx73 h t1 =>
 vtouch O (.load true 6 (.k x73)) h 74 λx74 h t2 =>
 vtouch O (.mv (.k x1)) h 75 λx75 h t3 =>
 vtouch O (.iaddr 6 (.k x75) (.k (kI 1))) h 76 λx76 h t4 =>
 vtouch O (.faddr 3 (.k x76)) h 77 λx77 h t5 =>
 vtouch O (.load false 1 (.k x77)) h 78 λx78 h t6 =>
 vtouch O (.call (.k (.v (.c (.func 95 [])))) [(.k x74),(.k x78)]) h 79 λx79 h t7 =>
 vtouch O (.mv (.k x79)) h 71 λx71 h t8 =>
 vtouch O (.extract (.k x71) 0) h 80 λx80 h t9 =>
 vtouch O (.extract (.k x71) 1) h 81 λx81 h t10 =>
 vtouch O (.alloc [(.p (.int .i64 0)),(.p (.bool false)),(.p (.int .i64 0)),(.p (.str [])),(.p .nilslice),(.p .nilslice)] false) h 6 λx6 h t11 =>
 vtouch O (.store 6 (.k x6) (.k x80)) h 1000000 λ_ h t12 =>
 vtouch O (.mv (.k x81)) h 7 λx7 h t13 =>
 bif apartAll [t0,t1,t2,t3,t4,t5,t6,t7,t8,t9,t10,t11,t12,t13] [(2,11),(6,11),(7,11)] then
 vload true 6 x6 h λx82 h =>
 vstore 6 x4 x82 h λ_ h =>
 vcell true 6 x4 h λc0=>tcomp (kI 0) λc1=>vfin true q [c0,c1] h
 else none))
 (vbin .eql 0 x20 (kS [104,97,115]) h λx84 h =>
 vif x84 (
 viaddr 6 x1 (kI 0) h λx86 h =>
 vfaddr 0 x86 h λx87 h =>
 vload false 1 x87 h λx88 h =>
 vbin .neq 0 x88 (kI 0) h λx89 h =>
 vcall O (.v (.c (.func 96 []))) [x89] h 90 λx90 h =>
 vstore 6 x4 x90 h λ_ h =>
 vcell true 6 x4 h λc0=>tcomp (kI 0) λc1=>vfin true q [c0,c1] h)
 (vbin .eql 0 x20 (kS [111,114,101,108,115,101]) h λx92 h =>
 vif x92 (
 viaddr 6 x1 (kI 0) h λx94 h =>
 vfaddr 0 x94 h λx95 h =>
 vload false 1 x95 h λx96 h =>
 vbin .neq 0 x96 (kI 0) h λx97 h =>
 vif x97 (
 viaddr 6 x1 (kI 0) h λx99 h =>
 vload true 6 x99 h λx100 h =>
 vcall O (.v (.c (.func 71 []))) [x100] h 101 λx101 h =>
 vstore 6 x4 x101 h λ_ h =>
 vcell true 6 x4 h λc0=>tcomp (kI 0) λc1=>vfin true q [c0,c1] h)
 (viaddr 6 x1 (kI 1) h λx103 h =>
 vload true 6 x103 h λx104 h =>
 vcall O (.v (.c (.func 71 []))) [x104] h 105 λx105 h =>
 vstore 6 x4 x105 h λ_ h =>
 vcell true 6 x4 h λc0=>tcomp (kI 0) λc1=>vfin true q [c0,c1] h))
 (vcall O (.v (.c (.func 97 []))) [x0,x1] h 108 λx108 h =>
 vext x108 0 h λx109 h =>
 vext x108 1 h λx110 h =>
 vstore 6 x4 x109 h λ_ h =>
 vcell true 6 x4 h λc0=>tcomp x110 λc1=>vfin true q [c0,c1] h))))))))
theorem e34_1(O R q x0 x1 x4 x20 x29 h):b34_1 O R q x0 x1 x4 x20 x29 h=stepF c34 O R q 1 [x0,x1,x4,x20,x29] h:=by kernel_rfl
def d34:BlkF:=λO R Q=>[.s λa => .s λb => .z (b34_0 O R Q a b),.s λa => .s λb => .s λc => .s λd => .s λe => .z (b34_1 O R Q a b c d e)]
theorem o34(O:Oracle)(R:Jump)(q:Nat):HoldsAll c34 O R q 0 (d34 O R q):=⟨e34_0 O R q,e34_1 O R q,trivial⟩
def c56:MFunc:=mkM (compF Tryz.prog (globs2 tabs opq) (λ_=>false) true Tryz.f56) (.s .n (.s .n (.s .n (.s .n (.s (.k (.l 1 [0,4,5] .n)) (.m 2 [4] .n))))))
def b56_0(O:Oracle)(R:Jump)(q:Nat)(x0:TVal)(h:Heap):Res1 :=
 vlen O 0 x0 h 10 λx10 h =>
 vbin .gtr 0 x10 (kI 1500) h λx11 h =>
 vif x11 (
 tcomp (.v (.c (.p .nilslice))) λc0=>tcomp (kI 4) λc1=>vfin true q [c0,c1] h)
 (R 1 [x0,(.v (.c (.p .nilslice))),(kI 0)] h)
theorem e56_0(O R q x0 h):b56_0 O R q x0 h=stepF c56 O R q 0 [x0] h:=by kernel_rfl
def b56_1(O:Oracle)(R:Jump)(q:Nat)(x0 x4 x5:TVal)(h:Heap):Res1 :=
 vlen O 0 x0 h 14 λx14 h =>
 vbin .lss 0 x5 x14 h λx15 h =>
 vif x15 (
 vindex x0 x5 h λx18 h =>
 vcall O (.v (.c (.func 116 []))) [x18] h 19 λx19 h =>
 vif x19 (
 vbin .add 0 x5 (kI 1) h λx21 h =>
 R 1 [x0,x4,x21] h)
 (vcall O (.v (.c (.func 117 []))) [x0,x5] h 25 λx25 h =>
 vext x25 0 h λx26 h =>
 vext x25 1 h λx27 h =>
 vext x25 2 h λx28 h =>
 vop O (.alloc [(.p (.int .i64 0)),(.p (.str [])),(.p (.int .i64 0)),(.p (.int .i64 0))] false) h 6 λx6 h =>
 vstore 4 x6 x26 h λ_ h =>
 vbin .neq 0 x28 (kI 0) h λx30 h =>
 vif x30 (
 tcomp (.v (.c (.p .nilslice))) λc0=>tcomp x28 λc1=>vfin true q [c0,c1] h)
 (vload true 4 x6 h λx33 h =>
 vop O (.bslice 4 1 [(.p (.int .i64 0)),(.p (.str [])),(.p (.int .i64 0)),(.p (.int .i64 0))] [(0,(.k x33))] false) h 34 λx34 h =>
 vop O (.append 4 40 false (.k x4) (.k x34)) h 35 λx35 h =>
 R 1 [x0,x35,x27] h)))
 (R 2 [x4] h)
theorem e56_1(O R q x0 x4 x5 h):b56_1 O R q x0 x4 x5 h=stepF c56 O R q 1 [x0,x4,x5] h:=by kernel_rfl
def b56_2(O:Oracle)(R:Jump)(q:Nat)(x4:TVal)(h:Heap):Res1 :=
 vlen O 2 x4 h 38 λx38 h =>
 vbin .gtr 0 x38 (kI 400) h λx39 h =>
 vif x39 (
 tcomp (.v (.c (.p .nilslice))) λc0=>tcomp (kI 3) λc1=>vfin true q [c0,c1] h)
 (tcomp x4 λc0=>tcomp (kI 0) λc1=>vfin true q [c0,c1] h)
theorem e56_2(O R q x4 h):b56_2 O R q x4 h=stepF c56 O R q 2 [x4] h:=by kernel_rfl
def d56:BlkF:=λO R Q=>[.s λa => .z (b56_0 O R Q a),.s λa => .s λb => .s λc => .z (b56_1 O R Q a b c),.s λa => .z (b56_2 O R Q a)]
theorem o56(O:Oracle)(R:Jump)(q:Nat):HoldsAll c56 O R q 0 (d56 O R q):=⟨e56_0 O R q,e56_1 O R q,e56_2 O R q,trivial⟩
def c63:MFunc:=mkM (compF Tryz.prog (globs2 tabs opq) (λ_=>false) true Tryz.f63) (.s .n (.s (.s .n (.k (.s .n (.s .n (.s .n (.s .n (.s .n (.s .n (.s .n (.s .n (.s .n (.s (.s .n (.s (.s .n (.k (.l 1 [1,3,4] (.s .n (.s (.k (.s .n (.m 2 [1,3,4] .n))) .n))))) (.m 3 [3] .n))) .n)))))))))))) (.m 4 [1] (.s .n (.s (.s .n (.k (.l 5 [1,5,6] (.s .n (.s (.k (.s .n (.m 6 [1,5,6] .n))) .n))))) (.m 7 [5] .n))))))
def b63_0(O:Oracle)(R:Jump)(q:Nat)(x0:TVal)(h:Heap):Res1 :=
 vop O (.box (.k x0) false) h 1 λx1 h =>
 vfaddr 0 x1 h λx7 h =>
 vload false 1 x7 h λx8 h =>
 vbin .eql 0 x8 (kI 0) h λx10 h =>
 vif x10 (
 tcomp (kS [110,117,108,108]) λc0=>vfin true q [c0] h)
 (vbin .eql 0 x8 (kI 1) h λx12 h =>
 vif x12 (
 vfaddr 1 x1 h λx13 h =>
 vload false 1 x13 h λx14 h =>
 vif x14 (
 tcomp (kS [116,114,117,101]) λc0=>vfin true q [c0] h)
 (tcomp (kS [102,97,108,115,101]) λc0=>vfin true q [c0] h))
 (vbin .eql 0 x8 (kI 2) h λx16 h =>
 vif x16 (
 vfaddr 2 x1 h λx17 h =>
 vload false 1 x17 h λx18 h =>
 vop O (.build [(.p (.int .i64 0)),(.p (.str [])),(.p .nilslice),(.p (.str [])),(.p (.int .i64 0)),(.p (.bool false)),(.p .nilslice)] [(0,1,(.k (kI 3))),(4,1,(.k x18))]) h 19 λx19 h =>
 vop O (.bslice 7 1 [(.p (.int .i64 0)),(.p (.str [])),(.p .nilslice),(.p (.str [])),(.p (.int .i64 0)),(.p (.bool false)),(.p .nilslice)] [(0,(.k x19))] false) h 20 λx20 h =>
 vop O (.build [(.p .nilslice)] [(0,1,(.k x20))]) h 21 λx21 h =>
 vop O (.bslice 1 1 [(.p .nilslice)] [(0,(.k x21))] false) h 22 λx22 h =>
 vcall O (.v (.c (.func 121 []))) [x22] h 23 λx23 h =>
 tcomp x23 λc0=>vfin true q [c0] h)
 (vbin .eql 0 x8 (kI 3) h λx25 h =>
 vif x25 (
 vfaddr 3 x1 h λx26 h =>
 vload false 1 x26 h λx27 h =>
 vcall O (.v (.c (.func 122 []))) [x27] h 28 λx28 h =>
 tcomp x28 λc0=>vfin true q [c0] h)
 (vbin .eql 0 x8 (kI 4) h λx30 h =>
 vif x30 (
 R 1 [x1,(kS [91]),(kI 0)] h)
 (R 4 [x1] h)))))
theorem e63_0(O R q x0 h):b63_0 O R q x0 h=stepF c63 O R q 0 [x0] h:=by kernel_rfl
def b63_1(O:Oracle)(R:Jump)(q:Nat)(x1 x3 x4:TVal)(h:Heap):Res1 :=
 vfaddr 5 x1 h λx32 h =>
 vload false 1 x32 h λx33 h =>
 vlen O 2 x33 h 34 λx34 h =>
 vbin .lss 0 x4 x34 h λx35 h =>
 vif x35 (
 vbin .gtr 0 x4 (kI 0) h λx39 h =>
 vif x39 (
 vbin .add 0 x3 (kS [44]) h λx41 h =>
 R 2 [x1,x41,x4] h)
 (R 2 [x1,x3,x4] h))
 (R 3 [x3] h)
theorem e63_1(O R q x1 x3 x4 h):b63_1 O R q x1 x3 x4 h=stepF c63 O R q 1 [x1,x3,x4] h:=by kernel_rfl
def b63_2(O:Oracle)(R:Jump)(q:Nat)(x1 x3 x4:TVal)(h:Heap):Res1 :=
 vfaddr 5 x1 h λx43 h =>
 vload false 1 x43 h λx44 h =>
 viaddr 6 x44 x4 h λx46 h =>
 vload true 6 x46 h λx47 h =>
 vcall O (.v (.c (.func 63 []))) [x47] h 48 λx48 h =>
 vbin .add 0 x3 x48 h λx49 h =>
 vbin .add 0 x4 (kI 1) h λx37 h =>
 R 1 [x1,x49,x37] h
theorem e63_2(O R q x1 x3 x4 h):b63_2 O R q x1 x3 x4 h=stepF c63 O R q 2 [x1,x3,x4] h:=by kernel_rfl
def b63_3(O:Oracle)(R:Jump)(q:Nat)(x3:TVal)(h:Heap):Res1 :=
 vbin .add 0 x3 (kS [93]) h λx51 h =>
 tcomp x51 λc0=>vfin true q [c0] h
theorem e63_3(O R q x3 h):b63_3 O R q x3 h=stepF c63 O R q 3 [x3] h:=by kernel_rfl
def b63_4(O:Oracle)(R:Jump)(q:Nat)(x1:TVal)(h:Heap):Res1 :=
 R 5 [x1,(kS [123]),(kI 0)] h
theorem e63_4(O R q x1 h):b63_4 O R q x1 h=stepF c63 O R q 4 [x1] h:=by kernel_rfl
def b63_5(O:Oracle)(R:Jump)(q:Nat)(x1 x5 x6:TVal)(h:Heap):Res1 :=
 vfaddr 5 x1 h λx53 h =>
 vload false 1 x53 h λx54 h =>
 vlen O 2 x54 h 55 λx55 h =>
 vbin .lss 0 x6 x55 h λx56 h =>
 vif x56 (
 vbin .gtr 0 x6 (kI 0) h λx60 h =>
 vif x60 (
 vbin .add 0 x5 (kS [44]) h λx62 h =>
 R 6 [x1,x62,x6] h)
 (R 6 [x1,x5,x6] h))
 (R 7 [x5] h)
theorem e63_5(O R q x1 x5 x6 h):b63_5 O R q x1 x5 x6 h=stepF c63 O R q 5 [x1,x5,x6] h:=by kernel_rfl
def b63_6(O:Oracle)(R:Jump)(q:Nat)(x1 x5 x6:TVal)(h:Heap):Res1 :=
 vtouch O (.mv (.k x5)) h 63 λx63 h t0 =>
 vtouch O (.faddr 4 (.k x1)) h 64 λx64 h t1 =>
 vtouch O (.load false 1 (.k x64)) h 65 λx65 h t2 =>
 vtouch O (.mv (.k x6)) h 66 λx66 h t3 =>
 vtouch O (.iaddr 1 (.k x65) (.k x66)) h 67 λx67 h t4 =>
 vtouch O (.load false 1 (.k x67)) h 68 λx68 h t5 =>
 vtouch O (.call (.k (.v (.c (.func 122 [])))) [(.k x68)]) h 69 λx69 h t6 =>
 vtouch O (.bin .add 0 (.k x63) (.k x69)) h 70 λx70 h t7 =>
 vtouch O (.bin .add 0 (.k x70) (.k (kS [58]))) h 71 λx71 h t8 =>
 vtouch O (.faddr 5 (.k x1)) h 72 λx72 h t9 =>
 vtouch O (.load false 1 (.k x72)) h 73 λx73 h t10 =>
 vtouch O (.mv (.k x6)) h 74 λx74 h t11 =>
 vtouch O (.iaddr 6 (.k x73) (.k x74)) h 75 λx75 h t12 =>
 vtouch O (.load true 6 (.k x75)) h 76 λx76 h t13 =>
 vtouch O (.call (.k (.v (.c (.func 63 [])))) [(.k x76)]) h 77 λx77 h t14 =>
 vtouch O (.bin .add 0 (.k x71) (.k x77)) h 78 λx78 h t15 =>
 vtouch O (.mv (.k x78)) h 5 λx5_1 h t16 =>
 bif apartAll [t0,t1,t2,t3,t4,t5,t6,t7,t8,t9,t10,t11,t12,t13,t14,t15,t16] [(6,10),(6,13)] then
 vbin .add 0 x6 (kI 1) h λx58 h =>
 R 5 [x1,x5_1,x58] h
 else none
theorem e63_6(O R q x1 x5 x6 h):b63_6 O R q x1 x5 x6 h=stepF c63 O R q 6 [x1,x5,x6] h:=by kernel_rfl
def b63_7(O:Oracle)(R:Jump)(q:Nat)(x5:TVal)(h:Heap):Res1 :=
 vbin .add 0 x5 (kS [125]) h λx80 h =>
 tcomp x80 λc0=>vfin true q [c0] h
theorem e63_7(O R q x5 h):b63_7 O R q x5 h=stepF c63 O R q 7 [x5] h:=by kernel_rfl
def d63:BlkF:=λO R Q=>[.s λa => .z (b63_0 O R Q a),.s λa => .s λb => .s λc => .z (b63_1 O R Q a b c),.s λa => .s λb => .s λc => .z (b63_2 O R Q a b c),.s λa => .z (b63_3 O R Q a),.s λa => .z (b63_4 O R Q a),.s λa => .s λb => .s λc => .z (b63_5 O R Q a b c),.s λa => .s λb => .s λc => .z (b63_6 O R Q a b c),.s λa => .z (b63_7 O R Q a)]
theorem o63(O:Oracle)(R:Jump)(q:Nat):HoldsAll c63 O R q 0 (d63 O R q):=⟨e63_0 O R q,e63_1 O R q,e63_2 O R q,e63_3 O R q,e63_4 O R q,e63_5 O R q,e63_6 O R q,e63_7 O R q,trivial⟩
def c64:MFunc:=mkM (compF Tryz.prog (globs2 tabs opq) (λ_=>false) true Tryz.f64) (.s .n (.s .n (.s .n (.s .n (.s (.k (.l 1 [0,4,5,6] (.s .n (.k (.s .n (.s .n (.m 2 [0,4,5] .n))))))) (.m 3 [0,4,6] (.s .n (.m 4 [4] .n))))))))
def b64_0(O:Oracle)(R:Jump)(q:Nat)(x0:TVal)(h:Heap):Res1 :=
 vlen O 0 x0 h 9 λx9 h =>
 vbin .gtr 0 x9 (kI 1500) h λx10 h =>
 vif x10 (
 tcomp (.v (.c (.p .nilslice))) λc0=>tcomp (kI 4) λc1=>vfin true q [c0,c1] h)
 (R 1 [x0,(.v (.c (.p .nilslice))),(kI 0),(kI 0)] h)
theorem e64_0(O R q x0 h):b64_0 O R q x0 h=stepF c64 O R q 0 [x0] h:=by kernel_rfl
def b64_1(O:Oracle)(R:Jump)(q:Nat)(x0 x4 x5 x6:TVal)(h:Heap):Res1 :=
 vlen O 0 x0 h 13 λx13 h =>
 vbin .lss 0 x5 x13 h λx14 h =>
 vif x14 (
 vbin .add 0 x5 (kI 1) h λx16 h =>
 vlen O 0 x0 h 18 λx18 h =>
 vbin .geq 0 x16 x18 h λx19 h =>
 vguard x19 false (λkk=>kk x0 h) h λx21 h =>
 vguard x19 false (λkk=>kk x5 h) h λx22 h =>
 vguard x19 false (λkk=>vindex x21 x22 h kk) h λx23 h =>
 vguard x19 false (λkk=>vbin .neq 0 x23 (.v (.c (.p (.int .u8 123)))) h kk) h λx24 h =>
 vop O (.pick (.k x19) (.k (kB true)) (.k x24)) h 25 λx25 h =>
 vguard x25 false (λkk=>kk x0 h) h λx27 h =>
 vguard x25 false (λkk=>kk x5 h) h λx28 h =>
 vguard x25 false (λkk=>vbin .add 0 x28 (kI 1) h kk) h λx29 h =>
 vguard x25 false (λkk=>vindex x27 x29 h kk) h λx30 h =>
 vguard x25 false (λkk=>vbin .neq 0 x30 (.v (.c (.p (.int .u8 123)))) h kk) h λx31 h =>
 vop O (.pick (.k x25) (.k (kB true)) (.k x31)) h 32 λx32 h =>
 vif x32 (
 vbin .add 0 x5 (kI 1) h λx34 h =>
 R 1 [x0,x4,x34,x6] h)
 (vbin .gtr 0 x5 x6 h λx37 h =>
 vif x37 (
 vop O (.slice 0 true (.k x0) (some (.k x6)) (some (.k x5)) none) h 42 λx42 h =>
 vop O (.build [(.p (.bool false)),(.p (.str [])),(.p (.int .i64 0))] [(1,1,(.k x42)),(2,1,(.k x6))]) h 44 λx44 h =>
 vop O (.bslice 3 1 [(.p (.bool false)),(.p (.str [])),(.p (.int .i64 0))] [(0,(.k x44))] false) h 45 λx45 h =>
 vop O (.append 3 32 false (.k x4) (.k x45)) h 46 λx46 h =>
 R 2 [x0,x46,x5] h)
 (R 2 [x0,x4,x5] h)))
 (R 3 [x0,x4,x6] h)
theorem e64_1(O R q x0 x4 x5 x6 h):b64_1 O R q x0 x4 x5 x6 h=stepF c64 O R q 1 [x0,x4,x5,x6] h:=by kernel_rfl
def b64_2(O:Oracle)(R:Jump)(q:Nat)(x0 x4 x5:TVal)(h:Heap):Res1 :=
 vbin .add 0 x5 (kI 2) h λx49 h =>
 vcall O (.v (.c (.func 123 []))) [x0,x49] h 50 λx50 h =>
 vbin .lss 0 x50 (kI 0) h λx52 h =>
 vif x52 (
 tcomp (.v (.c (.p .nilslice))) λc0=>tcomp (kI 11) λc1=>vfin true q [c0,c1] h)
 (vbin .add 0 x5 (kI 2) h λx56 h =>
 vop O (.slice 0 true (.k x0) (some (.k x56)) (some (.k x50)) none) h 58 λx58 h =>
 vop O (.build [(.p (.bool false)),(.p (.str [])),(.p (.int .i64 0))] [(0,1,(.k (kB true))),(1,1,(.k x58)),(2,1,(.k x5))]) h 60 λx60 h =>
 vop O (.bslice 3 1 [(.p (.bool false)),(.p (.str [])),(.p (.int .i64 0))] [(0,(.k x60))] false) h 61 λx61 h =>
 vop O (.append 3 32 false (.k x4) (.k x61)) h 62 λx62 h =>
 vbin .add 0 x50 (kI 2) h λx64 h =>
 R 1 [x0,x62,x64,x64] h)
theorem e64_2(O R q x0 x4 x5 h):b64_2 O R q x0 x4 x5 h=stepF c64 O R q 2 [x0,x4,x5] h:=by kernel_rfl
def b64_3(O:Oracle)(R:Jump)(q:Nat)(x0 x4 x6:TVal)(h:Heap):Res1 :=
 vlen O 0 x0 h 67 λx67 h =>
 vbin .gtr 0 x67 x6 h λx69 h =>
 vif x69 (
 vop O (.slice 0 true (.k x0) (some (.k x6)) none none) h 73 λx73 h =>
 vop O (.build [(.p (.bool false)),(.p (.str [])),(.p (.int .i64 0))] [(1,1,(.k x73)),(2,1,(.k x6))]) h 75 λx75 h =>
 vop O (.bslice 3 1 [(.p (.bool false)),(.p (.str [])),(.p (.int .i64 0))] [(0,(.k x75))] false) h 76 λx76 h =>
 vop O (.append 3 32 false (.k x4) (.k x76)) h 77 λx77 h =>
 R 4 [x77] h)
 (R 4 [x4] h)
theorem e64_3(O R q x0 x4 x6 h):b64_3 O R q x0 x4 x6 h=stepF c64 O R q 3 [x0,x4,x6] h:=by kernel_rfl
def b64_4(O:Oracle)(R:Jump)(q:Nat)(x4:TVal)(h:Heap):Res1 :=
 vlen O 2 x4 h 79 λx79 h =>
 vbin .gtr 0 x79 (kI 200) h λx80 h =>
 vif x80 (
 tcomp (.v (.c (.p .nilslice))) λc0=>tcomp (kI 3) λc1=>vfin true q [c0,c1] h)
 (tcomp x4 λc0=>tcomp (kI 0) λc1=>vfin true q [c0,c1] h)
theorem e64_4(O R q x4 h):b64_4 O R q x4 h=stepF c64 O R q 4 [x4] h:=by kernel_rfl
def d64:BlkF:=λO R Q=>[.s λa => .z (b64_0 O R Q a),.s λa => .s λb => .s λc => .s λd => .z (b64_1 O R Q a b c d),.s λa => .s λb => .s λc => .z (b64_2 O R Q a b c),.s λa => .s λb => .s λc => .z (b64_3 O R Q a b c),.s λa => .z (b64_4 O R Q a)]
theorem o64(O:Oracle)(R:Jump)(q:Nat):HoldsAll c64 O R q 0 (d64 O R q):=⟨e64_0 O R q,e64_1 O R q,e64_2 O R q,e64_3 O R q,e64_4 O R q,trivial⟩
def c65:MFunc:=mkM (compF Tryz.prog (globs2 tabs opq) (λn=>Nat.blt n 1000000||Nat.ble 3000000 n) true Tryz.f65) (.s .n (.s .n (.s .n (.s .n (.s .n (.s .n (.s .n (.m 1 [0,5,7,8,9] (.s (.s .n (.k (.s .n (.m 2 [0,5,7,8,9,59,113] (.s .n (.s .n (.m 3 [0,5,7,8,9,59,124] (.s .n (.s .n (.s .n (.s .n (.m 4 [0,5,7,8,9,133] (.s .n (.s (.s .n (.s (.s .n (.s .n (.m 5 [0,7,8,9] .n))) .n)) (.m 6 [0,7,8,9] .n))))))))))))))) (.m 7 [0,7,8,9] .n))))))))))
def b65_0(O:Oracle)(R:Jump)(q:Nat)(x0 x1:TVal)(h:Heap):Res1 :=
 vop O (.box (.k x1) true) h 3 λx3 h =>
 vfaddr 1 x3 h λx11 h =>
 vload false 1 x11 h λx12 h =>
 vcall O (.v (.c (.func 56 []))) [x12] h 13 λx13 h =>
 vext x13 0 h λx14 h =>
 vext x13 1 h λx15 h =>
 vbin .neq 0 x15 (kI 0) h λx17 h =>
 vif x17 (
 tcomp x15 λc0=>vfin true q [c0] h)
 (vop O (.build [(.p .nilslice),(.p (.int .i64 0)),(.p (.int .i64 0))] [(0,1,(.k x14))]) h 20 λx20 h =>
 vop O (.box (.k x20) true) h 21 λx21 h =>
 vfaddr 2 x3 h λx22 h =>
 vload false 1 x22 h λx23 h =>
 vop O (.build [(.p (.int .i64 0)),(.p (.int .i64 0)),(.p (.str [])),(.p (.str [])),(.p .nilslice),(.p .nilslice),(.p .nilslice),(.p (.bool false)),(.p .nilslice)] [(0,1,(.k (kI 2))),(1,1,(.k x23))]) h 24 λx24 h =>
 vop O (.alloc [(.p (.int .i64 0)),(.p (.int .i64 0)),(.p (.str [])),(.p (.str [])),(.p .nilslice),(.p .nilslice),(.p .nilslice),(.p (.bool false)),(.p .nilslice)] true) h 8 λx8 h =>
 vstore 9 x8 x24 h λ_ h =>
 vcall O (.v (.c (.func 124 []))) [x21,(kI 1)] h 26 λx26 h =>
 vguard x26 true (λkk=>kk x14 h) h λx28 h =>
 vguard x26 true (λkk=>viaddr 4 x28 (kI 0) h kk) h λx29 h =>
 vguard x26 true (λkk=>vfaddr 1 x29 h kk) h λx30 h =>
 vguard x26 true (λkk=>vload false 1 x30 h kk) h λx31 h =>
 vguard x26 true (λkk=>vcall O (.v (.c (.func 125 []))) [x31] h 32 kk) h λx32 h =>
 vop O (.pick (.k x26) (.k x32) (.k (kB false))) h 33 λx33 h =>
 vguard x33 true (λkk=>kk x14 h) h λx35 h =>
 vguard x33 true (λkk=>viaddr 4 x35 (kI 0) h kk) h λx36 h =>
 vguard x33 true (λkk=>vfaddr 1 x36 h kk) h λx37 h =>
 vguard x33 true (λkk=>vload false 1 x37 h kk) h λx38 h =>
 vguard x33 true (λkk=>vbin .neq 0 x38 (kS [116,114,117,101]) h kk) h λx39 h =>
 vop O (.pick (.k x33) (.k x39) (.k (kB false))) h 40 λx40 h =>
 vguard x40 true (λkk=>kk x14 h) h λx42 h =>
 vguard x40 true (λkk=>viaddr 4 x42 (kI 0) h kk) h λx43 h =>
 vguard x40 true (λkk=>vfaddr 1 x43 h kk) h λx44 h =>
 vguard x40 true (λkk=>vload false 1 x44 h kk) h λx45 h =>
 vguard x40 true (λkk=>vbin .neq 0 x45 (kS [102,97,108,115,101]) h kk) h λx46 h =>
 vop O (.pick (.k x40) (.k x46) (.k (kB false))) h 47 λx47 h =>
 vif x47 (
 viaddr 4 x14 (kI 0) h λx49 h =>
 vfaddr 1 x49 h λx50 h =>
 vload false 1 x50 h λx51 h =>
 vop O (.nilck (.k x21)) h 53 λx53 h =>
 vfaddr 1 x53 h λx54 h =>
 vload false 1 x54 h λx55 h =>
 vbin .add 0 x55 (kI 1) h λx56 h =>
 vop O (.nilck (.k x21)) h 57 λx57 h =>
 vfaddr 1 x57 h λx58 h =>
 vstore 1 x58 x56 h λ_ h =>
 R 1 [x0,x14,x21,x8,x51] h)
 (R 1 [x0,x14,x21,x8,(kS [])] h))
theorem e65_0(O R q x0 x1 h):b65_0 O R q x0 x1 h=stepF c65 O R q 0 [x0,x1] h:=by kernel_rfl
def b65_1(O:Oracle)(R:Jump)(q:Nat)(x0 x5 x7 x8 x9:TVal)(h:Heap):Res1 :=
 vbin .eql 0 x9 (kS [105,102]) h λx114 h =>
 vif x114 (
 R 2 [x0,x5,x7,x8,x9,x9,x114] h)
 (vbin .eql 0 x9 (kS [119,105,116,104]) h λx115 h =>
 vif x115 (
 R 2 [x0,x5,x7,x8,x9,x9,x115] h)
 (vbin .eql 0 x9 (kS [114,97,110,103,101]) h λx116 h =>
 vif x116 (
 R 2 [x0,x5,x7,x8,x9,x9,x116] h)
 (vbin .eql 0 x9 (kS [109,97,116,99,104]) h λx117 h =>
 R 2 [x0,x5,x7,x8,x9,x9,x117] h)))
theorem e65_1(O R q x0 x5 x7 x8 x9 h):b65_1 O R q x0 x5 x7 x8 x9 h=stepF c65 O R q 1 [x0,x5,x7,x8,x9] h:=by kernel_rfl
def b65_2(O:Oracle)(R:Jump)(q:Nat)(x0 x5 x7 x8 x9 x59 x113:TVal)(h:Heap):Res1 :=
 vif x113 (
 vcall O (.v (.c (.func 126 []))) [x9] h 119 λx119 h =>
 vcall O (.v (.c (.func 127 []))) [x7,(kI 0)] h 121 λx121 h =>
 vfaddr 0 x8 h λx122 h =>
 vstore 1 x122 x119 h λ_ h =>
 vfaddr 4 x8 h λx123 h =>
 vstore 1 x123 x121 h λ_ h =>
 R 7 [x0,x7,x8,x9] h)
 (vbin .eql 0 x59 (kS [101,108,115,101]) h λx125 h =>
 vif x125 (
 R 3 [x0,x5,x7,x8,x9,x59,x125] h)
 (vbin .eql 0 x59 (kS [101,110,100]) h λx126 h =>
 R 3 [x0,x5,x7,x8,x9,x59,x126] h))
theorem e65_2(O R q x0 x5 x7 x8 x9 x59 x113 h):b65_2 O R q x0 x5 x7 x8 x9 x59 x113 h=stepF c65 O R q 2 [x0,x5,x7,x8,x9,x59,x113] h:=by kernel_rfl
def b65_3(O:Oracle)(R:Jump)(q:Nat)(x0 x5 x7 x8 x9 x59 x124:TVal)(h:Heap):Res1 :=
 vif x124 (
 R 7 [x0,x7,x8,x9] h)
 (vbin .eql 0 x59 (kS [99,97,115,101]) h λx128 h =>
 vif x128 (
 vcall O (.v (.c (.func 128 []))) [x7,(kI 1)] h 130 λx130 h =>
 vfield 1 1 false x130 h λx131 h =>
 vfaddr 3 x8 h λx132 h =>
 vstore 1 x132 x131 h λ_ h =>
 R 7 [x0,x7,x8,x9] h)
 (vbin .eql 0 x59 (kS [100,101,102,105,110,101]) h λx134 h =>
 vif x134 (
 R 4 [x0,x5,x7,x8,x9,x134] h)
 (vbin .eql 0 x59 (kS [116,101,109,112,108,97,116,101]) h λx135 h =>
 R 4 [x0,x5,x7,x8,x9,x135] h)))
theorem e65_3(O R q x0 x5 x7 x8 x9 x59 x124 h):b65_3 O R q x0 x5 x7 x8 x9 x59 x124 h=stepF c65 O R q 3 [x0,x5,x7,x8,x9,x59,x124] h:=by kernel_rfl
def b65_4(O:Oracle)(R:Jump)(q:Nat)(x0 x5 x7 x8 x9 x133:TVal)(h:Heap):Res1 :=
 vif x133 (
 vcall O (.v (.c (.func 128 []))) [x7,(kI 2)] h 137 λx137 h =>
 vfield 1 1 false x137 h λx138 h =>
 vfaddr 0 x8 h λx139 h =>
 vstore 1 x139 (kI 9) h λ_ h =>
 vfaddr 3 x8 h λx140 h =>
 vstore 1 x140 x138 h λ_ h =>
 vbin .eql 0 x9 (kS [116,101,109,112,108,97,116,101]) h λx142 h =>
 vguard x142 true (λkk=>kk x7 h) h λx144 h =>
 vguard x142 true (λkk=>vop O (.nilck (.k x144)) h 145 kk) h λx145 h =>
 vguard x142 true (λkk=>vfaddr 1 x145 h kk) h λx146 h =>
 vguard x142 true (λkk=>vload false 1 x146 h kk) h λx147 h =>
 vguard x142 true (λkk=>kk x5 h) h λx148 h =>
 vguard x142 true (λkk=>vlen O 2 x148 h 149 kk) h λx149 h =>
 vguard x142 true (λkk=>vbin .lss 0 x147 x149 h kk) h λx150 h =>
 vop O (.pick (.k x142) (.k x150) (.k (kB false))) h 151 λx151 h =>
 vif x151 (
 vcall O (.v (.c (.func 127 []))) [x7,(kI 0)] h 153 λx153 h =>
 vfaddr 4 x8 h λx154 h =>
 vstore 1 x154 x153 h λ_ h =>
 R 7 [x0,x7,x8,x9] h)
 (R 7 [x0,x7,x8,x9] h))
 (vlen O 2 x5 h 61 λx61 h =>
 vbin .gtr 0 x61 (kI 2) h λx62 h =>
 vguard x62 true (λkk=>kk x7 h) h λx64 h =>
 vguard x62 true (λkk=>vcall O (.v (.c (.func 129 []))) [x64,(kS [36])] h 65 kk) h λx65 h =>
 vop O (.pick (.k x62) (.k x65) (.k (kB false))) h 66 λx66 h =>
 vguard x66 true (λkk=>kk x5 h) h λx68 h =>
 vguard x66 true (λkk=>viaddr 4 x68 (kI 1) h kk) h λx69 h =>
 vguard x66 true (λkk=>vfaddr 0 x69 h kk) h λx70 h =>
 vguard x66 true (λkk=>vload false 1 x70 h kk) h λx71 h =>
 vguard x66 true (λkk=>vbin .eql 0 x71 (kI 1) h kk) h λx72 h =>
 vop O (.pick (.k x66) (.k x72) (.k (kB false))) h 73 λx73 h =>
 vguard x73 true (λkk=>kk x5 h) h λx75 h =>
 vguard x73 true (λkk=>viaddr 4 x75 (kI 2) h kk) h λx76 h =>
 vguard x73 true (λkk=>vfaddr 0 x76 h kk) h λx77 h =>
 vguard x73 true (λkk=>vload false 1 x77 h kk) h λx78 h =>
 vguard x73 true (λkk=>vbin .eql 0 x78 (kI 4) h kk) h λx79 h =>
 vop O (.pick (.k x73) (.k x79) (.k (kB false))) h 80 λx80 h =>
 vguard x80 true (λkk=>kk x5 h) h λx82 h =>
 vguard x80 true (λkk=>viaddr 4 x82 (kI 2) h kk) h λx83 h =>
 vguard x80 true (λkk=>vfaddr 1 x83 h kk) h λx84 h =>
 vguard x80 true (λkk=>vload false 1 x84 h kk) h λx85 h =>
 vguard x80 true (λkk=>vbin .eql 0 x85 (kS [58,61]) h kk) h λx86 h =>
 vguard x80 true (λkk=>kk x86 h) h λx87 h =>
 vguard x87 false (λkk=>kk x5 h) h λx88 h =>
 vguard x87 false (λkk=>viaddr 4 x88 (kI 2) h kk) h λx89 h =>
 vguard x87 false (λkk=>vfaddr 1 x89 h kk) h λx90 h =>
 vguard x87 false (λkk=>vload false 1 x90 h kk) h λx91 h =>
 vguard x87 false (λkk=>vbin .eql 0 x91 (kS [61]) h kk) h λx92 h =>
 vguard x80 true (λkk=>vop O (.pick (.k x87) (.k (kB true)) (.k x92)) h 93 kk) h λx93 h =>
 vop O (.pick (.k x80) (.k x93) (.k (kB false))) h 94 λx94 h =>
 vif x94 (
 vtouch O (.mv (.k x5)) h 95 λx95 h t0 =>
 vtouch O (.iaddr 4 (.k x95) (.k (kI 1))) h 96 λx96 h t1 =>
 vtouch O (.faddr 1 (.k x96)) h 97 λx97 h t2 =>
 vtouch O (.load false 1 (.k x97)) h 98 λx98 h t3 =>
 vtouch O (.faddr 0 (.k x8)) h 99 λx99 h t4 =>
 vtouch O (.store 1 (.k x99) (.k (kI 3))) h 1000000 λ_ h t5 =>
 vtouch O (.faddr 3 (.k x8)) h 100 λx100 h t6 =>
 vtouch O (.store 1 (.k x100) (.k x98)) h 1000000 λ_ h t7 =>
 bif apartAll [t0,t1,t2,t3,t4,t5,t6,t7] [(3,5)] then
 viaddr 4 x5 (kI 2) h λx102 h =>
 vfaddr 1 x102 h λx103 h =>
 vload false 1 x103 h λx104 h =>
 vbin .eql 0 x104 (kS [61]) h λx105 h =>
 vif x105 (
 vfaddr 0 x8 h λx106 h =>
 vstore 1 x106 (kI 4) h λ_ h =>
 R 5 [x0,x7,x8,x9] h)
 (R 5 [x0,x7,x8,x9] h)
 else none)
 (R 6 [x0,x7,x8,x9] h))
theorem e65_4(O R q x0 x5 x7 x8 x9 x133 h):b65_4 O R q x0 x5 x7 x8 x9 x133 h=stepF c65 O R q 4 [x0,x5,x7,x8,x9,x133] h:=by kernel_rfl
def b65_5(O:Oracle)(R:Jump)(q:Nat)(x0 x7 x8 x9:TVal)(h:Heap):Res1 :=
 vop O (.nilck (.k x7)) h 108 λx108 h =>
 vfaddr 1 x108 h λx109 h =>
 vstore 1 x109 (kI 3) h λ_ h =>
 R 6 [x0,x7,x8,x9] h
theorem e65_5(O R q x0 x7 x8 x9 h):b65_5 O R q x0 x7 x8 x9 h=stepF c65 O R q 5 [x0,x7,x8,x9] h:=by kernel_rfl
def b65_6(O:Oracle)(R:Jump)(q:Nat)(x0 x7 x8 x9:TVal)(h:Heap):Res1 :=
 vcall O (.v (.c (.func 127 []))) [x7,(kI 0)] h 111 λx111 h =>
 vfaddr 4 x8 h λx112 h =>
 vstore 1 x112 x111 h λ_ h =>
 R 7 [x0,x7,x8,x9] h
theorem e65_6(O R q x0 x7 x8 x9 h):b65_6 O R q x0 x7 x8 x9 h=stepF c65 O R q 6 [x0,x7,x8,x9] h:=by kernel_rfl
def b65_7(O:Oracle)(R:Jump)(q:Nat)(x0 x7 x8 x9:TVal)(h:Heap):Res1 :=
 vcall O (.v (.c (.func 130 []))) [x7] h 156 λx156 h =>
 vbin .neq 0 x156 (kI 0) h λx157 h =>
 vif x157 (
 vop O (.nilck (.k x7)) h 159 λx159 h =>
 vfaddr 2 x159 h λx160 h =>
 vload false 1 x160 h λx161 h =>
 tcomp x161 λc0=>vfin true q [c0] h)
 (vload true 9 x8 h λx164 h =>
 vcall O (.v (.c (.func 131 []))) [x0,x9,x164] h 165 λx165 h =>
 tcomp x165 λc0=>vfin true q [c0] h)
theorem e65_7(O R q x0 x7 x8 x9 h):b65_7 O R q x0 x7 x8 x9 h=stepF c65 O R q 7 [x0,x7,x8,x9] h:=by kernel_rfl
def d65:BlkF:=λO R Q=>[.s λa => .s λb => .z (b65_0 O R Q a b),.s λa => .s λb => .s λc => .s λd => .s λe => .z (b65_1 O R Q a b c d e),.s λa => .s λb => .s λc => .s λd => .s λe => .s λf => .s λg => .z (b65_2 O R Q a b c d e f g),.s λa => .s λb => .s λc => .s λd => .s λe => .s λf => .s λg => .z (b65_3 O R Q a b c d e f g),.s λa => .s λb => .s λc => .s λd => .s λe => .s λf => .z (b65_4 O R Q a b c d e f),.s λa => .s λb => .s λc => .s λd => .z (b65_5 O R Q a b c d),.s λa => .s λb => .s λc => .s λd => .z (b65_6 O R Q a b c d),.s λa => .s λb => .s λc => .s λd => .z (b65_7 O R Q a b c d)]
theorem o65(O:Oracle)(R:Jump)(q:Nat):HoldsAll c65 O R q 0 (d65 O R q):=⟨e65_0 O R q,e65_1 O R q,e65_2 O R q,e65_3 O R q,e65_4 O R q,e65_5 O R q,e65_6 O R q,e65_7 O R q,trivial⟩
def c66:MFunc:=mkM (compF Tryz.prog (globs2 tabs opq) (λn=>Nat.blt n 1000000||Nat.ble 3000000 n) true Tryz.f66) .n
def b66_0(O:Oracle)(R:Jump)(q:Nat)(x0 x1:TVal)(h:Heap):Res1 :=
 vop O (.box (.k x1) true) h 3 λx3 h =>
 vfaddr 2 x3 h λx6 h =>
 vload false 1 x6 h λx7 h =>
 vfaddr 1 x3 h λx8 h =>
 vload false 1 x8 h λx9 h =>
 vop O (.build [(.p (.int .i64 0)),(.p (.int .i64 0)),(.p (.str [])),(.p (.str [])),(.p .nilslice),(.p .nilslice),(.p .nilslice),(.p (.bool false)),(.p .nilslice)] [(0,1,(.k (kI 1))),(1,1,(.k x7)),(2,1,(.k x9))]) h 10 λx10 h =>
 vop O (.alloc [(.p (.int .i64 0)),(.p (.int .i64 0)),(.p (.str [])),(.p (.str [])),(.p .nilslice),(.p .nilslice),(.p .nilslice),(.p (.bool false)),(.p .nilslice)] true) h 5 λx5 h =>
 vstore 9 x5 x10 h λ_ h =>
 vload true 9 x5 h λx12 h =>
 vcall O (.v (.c (.func 132 []))) [x0,x12] h 13 λx13 h =>
 vguard x13 false (λkk=>vfaddr 1 x3 h kk) h λx15 h =>
 vguard x13 false (λkk=>vload false 1 x15 h kk) h λx16 h =>
 vguard x13 false (λkk=>vcall O (.v (.c (.func 133 []))) [x16] h 17 kk) h λx17 h =>
 vop O (.pick (.k x13) (.k (kB true)) (.k x17)) h 18 λx18 h =>
 vif x18 (
 tcomp (kI 0) λc0=>vfin true q [c0] h)
 (tcomp (kI 12) λc0=>vfin true q [c0] h)
theorem e66_0(O R q x0 x1 h):b66_0 O R q x0 x1 h=stepF c66 O R q 0 [x0,x1] h:=by kernel_rfl
def d66:BlkF:=λO R Q=>[.s λa => .s λb => .z (b66_0 O R Q a b)]
theorem o66(O:Oracle)(R:Jump)(q:Nat):HoldsAll c66 O R q 0 (d66 O R q):=⟨e66_0 O R q,trivial⟩
def c67:MFunc:=mkM (compF Tryz.prog (globs2 tabs opq) (λ_=>false) true Tryz.f67) .n
def b67_0(O:Oracle)(R:Jump)(q:Nat)(x0 x1:TVal)(h:Heap):Res1 :=
 vop O (.minmax true [(.k x0),(.k (kI 0))]) h 6 λx6 h =>
 vop O (.minmax false [(.k x6),(.k x1)]) h 8 λx8 h =>
 tcomp x8 λc0=>vfin true q [c0] h
theorem e67_0(O R q x0 x1 h):b67_0 O R q x0 x1 h=stepF c67 O R q 0 [x0,x1] h:=by kernel_rfl
def d67:BlkF:=λO R Q=>[.s λa => .s λb => .z (b67_0 O R Q a b)]
theorem o67(O:Oracle)(R:Jump)(q:Nat):HoldsAll c67 O R q 0 (d67 O R q):=⟨e67_0 O R q,trivial⟩
def c68:MFunc:=mkM (compF Tryz.prog (globs2 tabs opq) (λn=>Nat.beq n 1) true Tryz.f68) (.s .n (.s (.s .n (.k (.l 1 [0,4,12,13,14] (.s .n (.s .n (.s (.k (.s .n (.s .n (.s .n (.s (.k (.s .n (.m 2 [0,4,8,10,11,12,13,14] (.s (.s .n (.m 3 [0,4,8,10,11,12,13,14] .n)) (.m 4 [0,4,8,10,11,12,13,14] .n))))) (.m 5 [0,4,8,10,11,12,13,14] .n)))))) (.m 6 [0,4,12,13,14] .n))))))) .n))
def b68_0(O:Oracle)(R:Jump)(q:Nat)(x0 x1 x2:TVal)(h:Heap):Res1 :=
 vop O (.box (.k x1) false) h 4 λx4 h =>
 vlen O 2 x2 h 13 λx13 h =>
 R 1 [x0,x4,x2,x13,(kI 0)] h
theorem e68_0(O R q x0 x1 x2 h):b68_0 O R q x0 x1 x2 h=stepF c68 O R q 0 [x0,x1,x2] h:=by kernel_rfl
def b68_1(O:Oracle)(R:Jump)(q:Nat)(x0 x4 x12 x13 x14:TVal)(h:Heap):Res1 :=
 vbin .lss 0 x14 x13 h λx15 h =>
 vif x15 (
 viaddr 9 x12 x14 h λx16 h =>
 vload true 9 x16 h λx17 h =>
 vop O (.alloc [(.p (.int .i64 0)),(.p (.int .i64 0)),(.p (.str [])),(.p (.str [])),(.p .nilslice),(.p .nilslice),(.p .nilslice),(.p (.bool false)),(.p .nilslice)] false) h 8 λx8 h =>
 vstore 9 x8 x17 h λ_ h =>
 vcall O (.v (.c (.func 134 []))) [x0] h 19 λx19 h =>
 vbin .neq 0 x19 (kI 0) h λx21 h =>
 vif x21 (
 tcomp x19 λc0=>vfin true q [c0] h)
 (vfaddr 0 x4 h λx23 h =>
 vload true 6 x23 h λx24 h =>
 vop O (.alloc [(.p (.int .i64 0)),(.p (.bool false)),(.p (.int .i64 0)),(.p (.str [])),(.p .nilslice),(.p .nilslice)] false) h 10 λx10 h =>
 vstore 6 x10 x24 h λ_ h =>
 vfaddr 0 x8 h λx26 h =>
 vload false 1 x26 h λx27 h =>
 vbin .eql 0 x27 (kI 1) h λx28 h =>
 vif x28 (
 vfaddr 2 x8 h λx40 h =>
 vload false 1 x40 h λx41 h =>
 vcall O (.v (.c (.func 135 []))) [x0,x41] h 42 λx42 h =>
 R 5 [x0,x4,x8,x10,x42,x12,x13,x14] h)
 (vfaddr 0 x8 h λx30 h =>
 vload false 1 x30 h λx31 h =>
 vbin .eql 0 x31 (kI 9) h λx32 h =>
 vguard x32 true (λkk=>vfaddr 4 x8 h kk) h λx34 h =>
 vguard x32 true (λkk=>vload false 1 x34 h kk) h λx35 h =>
 vguard x32 true (λkk=>vlen O 2 x35 h 36 kk) h λx36 h =>
 vguard x32 true (λkk=>vbin .eql 0 x36 (kI 0) h kk) h λx37 h =>
 vop O (.pick (.k x32) (.k x37) (.k (kB false))) h 38 λx38 h =>
 vif x38 (
 R 2 [x0,x4,x8,x10,(kI 0),x12,x13,x14] h)
 (R 2 [x0,x4,x8,x10,(kI 0),x12,x13,x14] h))))
 (tcomp (kI 0) λc0=>vfin true q [c0] h)
theorem e68_1(O R q x0 x4 x12 x13 x14 h):b68_1 O R q x0 x4 x12 x13 x14 h=stepF c68 O R q 1 [x0,x4,x12,x13,x14] h:=by kernel_rfl
def b68_2(O:Oracle)(R:Jump)(q:Nat)(x0 x4 x8 x10 x11 x12 x13 x14:TVal)(h:Heap):Res1 :=
 vfaddr 0 x8 h λx43 h =>
 vload false 1 x43 h λx44 h =>
 vbin .neq 0 x44 (kI 9) h λx45 h =>
 vguard x45 false (λkk=>vfaddr 4 x8 h kk) h λx47 h =>
 vguard x45 false (λkk=>vload false 1 x47 h kk) h λx48 h =>
 vguard x45 false (λkk=>vlen O 2 x48 h 49 kk) h λx49 h =>
 vguard x45 false (λkk=>vbin .gtr 0 x49 (kI 0) h kk) h λx50 h =>
 vop O (.pick (.k x45) (.k (kB true)) (.k x50)) h 51 λx51 h =>
 vif x51 (
 vload true 8 x4 h λx54 h =>
 vfaddr 4 x8 h λx55 h =>
 vload false 1 x55 h λx56 h =>
 vcall O (.v (.c (.func 136 []))) [x0,x54,x56] h 57 λx57 h =>
 vext x57 0 h λx58 h =>
 vext x57 1 h λx59 h =>
 vstore 6 x10 x58 h λ_ h =>
 R 3 [x0,x4,x8,x10,x59,x12,x13,x14] h)
 (R 3 [x0,x4,x8,x10,x11,x12,x13,x14] h)
theorem e68_2(O R q x0 x4 x8 x10 x11 x12 x13 x14 h):b68_2 O R q x0 x4 x8 x10 x11 x12 x13 x14 h=stepF c68 O R q 2 [x0,x4,x8,x10,x11,x12,x13,x14] h:=by kernel_rfl
def b68_3(O:Oracle)(R:Jump)(q:Nat)(x0 x4 x8 x10 x11 x12 x13 x14:TVal)(h:Heap):Res1 :=
 vbin .eql 0 x11 (kI 0) h λx61 h =>
 vif x61 (
 vload true 8 x4 h λx63 h =>
 vload true 9 x8 h λx64 h =>
 vload true 6 x10 h λx65 h =>
 vcall O (.v (.c (.func 137 []))) [x0,x63,x64,x65] h 66 λx66 h =>
 R 4 [x0,x4,x8,x10,x66,x12,x13,x14] h)
 (R 4 [x0,x4,x8,x10,x11,x12,x13,x14] h)
theorem e68_3(O R q x0 x4 x8 x10 x11 x12 x13 x14 h):b68_3 O R q x0 x4 x8 x10 x11 x12 x13 x14 h=stepF c68 O R q 3 [x0,x4,x8,x10,x11,x12,x13,x14] h:=by kernel_rfl
def b68_4(O:Oracle)(R:Jump)(q:Nat)(x0 x4 x8 x10 x11 x12 x13 x14:TVal)(h:Heap):Res1 :=
 R 5 [x0,x4,x8,x10,x11,x12,x13,x14] h
theorem e68_4(O R q x0 x4 x8 x10 x11 x12 x13 x14 h):b68_4 O R q x0 x4 x8 x10 x11 x12 x13 x14 h=stepF c68 O R q 4 [x0,x4,x8,x10,x11,x12,x13,x14] h:=by kernel_rfl
def b68_5(O:Oracle)(R:Jump)(q:Nat)(x0 x4 x8 x10 x11 x12 x13 x14:TVal)(h:Heap):Res1 :=
 vbin .neq 0 x11 (kI 0) h λx68 h =>
 vif x68 (
 tcomp x11 λc0=>vfin true q [c0] h)
 (vfaddr 0 x8 h λx70 h =>
 vload false 1 x70 h λx71 h =>
 vbin .eql 0 x71 (kI 3) h λx72 h =>
 vif x72 (
 vtouch O (.faddr 6 (.k x4)) h 73 λx73 h t0 =>
 vtouch O (.load false 1 (.k x73)) h 74 λx74 h t1 =>
 vtouch O (.call (.k (.v (.c (.func 138 [])))) [(.k x74)]) h 75 λx75 h t2 =>
 vtouch O (.faddr 3 (.k x8)) h 76 λx76 h t3 =>
 vtouch O (.load false 1 (.k x76)) h 77 λx77 h t4 =>
 vtouch O (.load true 6 (.k x10)) h 78 λx78 h t5 =>
 vtouch O (.build [(.p (.str [])),(.p (.int .i64 0)),(.p (.bool false)),(.p (.int .i64 0)),(.p (.str [])),(.p .nilslice),(.p .nilslice)] [(0,1,(.k x77)),(1,6,(.k x78))]) h 79 λx79 h t6 =>
 vtouch O (.box (.k x79) false) h 80 λx80 h t7 =>
 vtouch O (.bslice 1 1 [(.p .nilptr)] [(0,(.k x80))] false) h 81 λx81 h t8 =>
 vtouch O (.append 1 8 true (.k x75) (.k x81)) h 82 λx82 h t9 =>
 vtouch O (.faddr 6 (.k x4)) h 83 λx83 h t10 =>
 vtouch O (.store 1 (.k x83) (.k x82)) h 1000000 λ_ h t11 =>
 bif apartAll [t0,t1,t2,t3,t4,t5,t6,t7,t8,t9,t10,t11] [(2,4),(2,5),(1,7),(2,7),(1,8),(2,8)] then
 R 6 [x0,x4,x12,x13,x14] h
 else none)
 (R 6 [x0,x4,x12,x13,x14] h))
theorem e68_5(O R q x0 x4 x8 x10 x11 x12 x13 x14 h):b68_5 O R q x0 x4 x8 x10 x11 x12 x13 x14 h=stepF c68 O R q 5 [x0,x4,x8,x10,x11,x12,x13,x14] h:=by kernel_rfl
def b68_6(O:Oracle)(R:Jump)(q:Nat)(x0 x4 x12 x13 x14:TVal)(h:Heap):Res1 :=
 vbin .add 0 x14 (kI 1) h λx84 h =>
 R 1 [x0,x4,x12,x13,x84] h
theorem e68_6(O R q x0 x4 x12 x13 x14 h):b68_6 O R q x0 x4 x12 x13 x14 h=stepF c68 O R q 6 [x0,x4,x12,x13,x14] h:=by kernel_rfl
def d68:BlkF:=λO R Q=>[.s λa => .s λb => .s λc => .z (b68_0 O R Q a b c),.s λa => .s λb => .s λc => .s λd => .s λe => .z (b68_1 O R Q a b c d e),.s λa => .s λb => .s λc => .s λd => .s λe => .s λf => .s λg => .s λh => .z (b68_2 O R Q a b c d e f g h),.s λa => .s λb => .s λc => .s λd => .s λe => .s λf => .s λg => .s λh => .z (b68_3 O R Q a b c d e f g h),.s λa => .s λb => .s λc => .s λd => .s λe => .s λf => .s λg => .s λh => .z (b68_4 O R Q a b c d e f g h),.s λa => .s λb => .s λc => .s λd => .s λe => .s λf => .s λg => .s λh => .z (b68_5 O R Q a b c d e f g h),.s λa => .s λb => .s λc => .s λd => .s λe => .z (b68_6 O R Q a b c d e)]
theorem o68(O:Oracle)(R:Jump)(q:Nat):HoldsAll c68 O R q 0 (d68 O R q):=⟨e68_0 O R q,e68_1 O R q,e68_2 O R q,e68_3 O R q,e68_4 O R q,e68_5 O R q,e68_6 O R q,trivial⟩
def c69:MFunc:=mkM (compF Tryz.prog (globs2 tabs opq) (λ_=>false) true Tryz.f69) .n
def b69_0(O:Oracle)(R:Jump)(q:Nat)(x0:TVal)(h:Heap):Res1 :=
 vop O (.box (.k x0) false) h 1 λx1 h =>
 vop O (.alloc [(.p (.int .i64 0)),(.p (.bool false)),(.p (.int .i64 0)),(.p (.str [])),(.p .nilslice),(.p .nilslice)] false) h 2 λx2 h =>
 vop O (.bslice 1 1 [(.p (.str []))] [(0,(.k (kS [])))] false) h 6 λx6 h =>
 vload true 6 x1 h λx7 h =>
 vop O (.bslice 6 1 [(.p (.int .i64 0)),(.p (.bool false)),(.p (.int .i64 0)),(.p (.str [])),(.p .nilslice),(.p .nilslice)] [(0,(.k x7))] false) h 8 λx8 h =>
 vop O (.build [(.p (.int .i64 0)),(.p (.bool false)),(.p (.int .i64 0)),(.p (.str [])),(.p .nilslice),(.p .nilslice)] [(0,1,(.k (kI 5))),(4,1,(.k x6)),(5,1,(.k x8))]) h 9 λx9 h =>
 vcall O (.v (.c (.func 95 []))) [x9,(kS [])] h 10 λx10 h =>
 vext x10 0 h λx11 h =>
 vext x10 1 h λx12 h =>
 vop O (.alloc [(.p (.int .i64 0)),(.p (.bool false)),(.p (.int .i64 0)),(.p (.str [])),(.p .nilslice),(.p .nilslice)] false) h 3 λx3 h =>
 vstore 6 x3 x11 h λ_ h =>
 vload true 6 x3 h λx13 h =>
 vstore 6 x2 x13 h λ_ h =>
 vcell true 6 x2 h λc0=>vfin true q [c0] h
theorem e69_0(O R q x0 h):b69_0 O R q x0 h=stepF c69 O R q 0 [x0] h:=by kernel_rfl
def d69:BlkF:=λO R Q=>[.s λa => .z (b69_0 O R Q a)]
theorem o69(O:Oracle)(R:Jump)(q:Nat):HoldsAll c69 O R q 0 (d69 O R q):=⟨e69_0 O R q,trivial⟩
def c70:MFunc:=mkM (compF Tryz.prog (globs2 tabs opq) (λn=>Nat.blt n 1000000||Nat.ble 3000000 n) false Tryz.f70) .n
def b70_0(O:Oracle)(R:Jump)(q:Nat)(x0:TVal)(h:Heap):Res1 :=
 vbin .eql 2 x0 (.v (.c (.p .nilslice))) h λx4 h =>
 vif x4 (
 tcomp (.v (.c (.p .nilslice))) λc0=>vfin false q [c0] h)
 (vop O (.bslice 6 0 [(.p (.int .i64 0)),(.p (.bool false)),(.p (.int .i64 0)),(.p (.str [])),(.p .nilslice),(.p .nilslice)] [] true) h 5 λx5 h =>
 vop O (.append 6 88 true (.k x5) (.k x0)) h 7 λx7 h =>
 tcomp x7 λc0=>vfin false q [c0] h)
theorem e70_0(O R q x0 h):b70_0 O R q x0 h=stepF c70 O R q 0 [x0] h:=by kernel_rfl
def d70:BlkF:=λO R Q=>[.s λa => .z (b70_0 O R Q a)]
theorem o70(O:Oracle)(R:Jump)(q:Nat):HoldsAll c70 O R q 0 (d70 O R q):=⟨e70_0 O R q,trivial⟩
def c71:MFunc:=mkM (compF Tryz.prog (globs2 tabs opq) (λ_=>false) true Tryz.f71) .n
def b71_0(O:Oracle)(R:Jump)(q:Nat)(x0:TVal)(h:Heap):Res1 :=
 vop O (.box (.k x0) false) h 1 λx1 h =>
 vop O (.alloc [(.p (.int .i64 0)),(.p (.bool false)),(.p (.int .i64 0)),(.p (.str [])),(.p .nilslice),(.p .nilslice)] false) h 2 λx2 h =>
 vop O (.bslice 1 1 [(.p (.str []))] [(0,(.k (kS [])))] false) h 6 λx6 h =>
 vload true 6 x1 h λx7 h =>
 vop O (.bslice 6 1 [(.p (.int .i64 0)),(.p (.bool false)),(.p (.int .i64 0)),(.p (.str [])),(.p .nilslice),(.p .nilslice)] [(0,(.k x7))] false) h 8 λx8 h =>
 vop O (.build [(.p (.int .i64 0)),(.p (.bool false)),(.p (.int .i64 0)),(.p (.str [])),(.p .nilslice),(.p .nilslice)] [(0,1,(.k (kI 5))),(4,1,(.k x6)),(5,1,(.k x8))]) h 9 λx9 h =>
 vcall O (.v (.c (.func 95 []))) [x9,(kS [])] h 10 λx10 h =>
 vext x10 0 h λx11 h =>
 vext x10 1 h λx12 h =>
 vop O (.alloc [(.p (.int .i64 0)),(.p (.bool false)),(.p (.int .i64 0)),(.p (.str [])),(.p .nilslice),(.p .nilslice)] false) h 3 λx3 h =>
 vstore 6 x3 x11 h λ_ h =>
 vload true 6 x3 h λx13 h =>
 vstore 6 x2 x13 h λ_ h =>
 vcell true 6 x2 h λc0=>vfin true q [c0] h
theorem e71_0(O R q x0 h):b71_0 O R q x0 h=stepF c71 O R q 0 [x0] h:=by kernel_rfl
def d71:BlkF:=λO R Q=>[.s λa => .z (b71_0 O R Q a)]
theorem o71(O:Oracle)(R:Jump)(q:Nat):HoldsAll c71 O R q 0 (d71 O R q):=⟨e71_0 O R q,trivial⟩
def c86:MFunc:=mkM (compF Tryz.prog (globs2 tabs opq) (λ_=>false) true Tryz.f86) .n
def b86_0(O:Oracle)(R:Jump)(q:Nat)(x0:TVal)(h:Heap):Res1 :=
 vcall O (.v (.c (.func 161 []))) [x0] h 4 λx4 h =>
 vguard x4 true (λkk=>kk x0 h) h λx6 h =>
 vguard x4 true (λkk=>vbin .add 0 (kS [32]) x6 h kk) h λx7 h =>
 vguard x4 true (λkk=>vbin .add 0 x7 (kS [32]) h kk) h λx8 h =>
 vguard x4 true (λkk=>vcall O (.v (.c (.func 162 []))) [(kS z6c995b20),x8] h 9 kk) h λx9 h =>
 vop O (.pick (.k x4) (.k x9) (.k (kB false))) h 10 λx10 h =>
 tcomp x10 λc0=>vfin true q [c0] h
theorem e86_0(O R q x0 h):b86_0 O R q x0 h=stepF c86 O R q 0 [x0] h:=by kernel_rfl
def d86:BlkF:=λO R Q=>[.s λa => .z (b86_0 O R Q a)]
theorem o86(O:Oracle)(R:Jump)(q:Nat):HoldsAll c86 O R q 0 (d86 O R q):=⟨e86_0 O R q,trivial⟩
def c87:MFunc:=mkM (compF Tryz.prog (globs2 tabs opq) (λ_=>false) true Tryz.f87) (.s .n (.s (.s .n (.k (.s (.k (.k (.s (.s (.s .n (.m 1 [3,4] .n)) (.s .n (.m 2 [9] .n))) .n))) .n))) .n))
def b87_0(O:Oracle)(R:Jump)(q:Nat)(x0:TVal)(h:Heap):Res1 :=
 vbin .eql 0 x0 (kS [108,101,110]) h λx5 h =>
 vif x5 (
 R 1 [x0,x5] h)
 (vbin .eql 0 x0 (kS [110,111,116]) h λx6 h =>
 vif x6 (
 R 1 [x0,x6] h)
 (vbin .eql 0 x0 (kS [116,101,120,116]) h λx7 h =>
 vif x7 (
 R 1 [x0,x7] h)
 (vbin .eql 0 x0 (kS [104,97,115]) h λx8 h =>
 R 1 [x0,x8] h)))
theorem e87_0(O R q x0 h):b87_0 O R q x0 h=stepF c87 O R q 0 [x0] h:=by kernel_rfl
def b87_1(O:Oracle)(R:Jump)(q:Nat)(x3 x4:TVal)(h:Heap):Res1 :=
 vif x4 (
 tcomp (kI 1) λc0=>vfin true q [c0] h)
 (vbin .eql 0 x3 (kS [105,56]) h λx10 h =>
 vif x10 (
 R 2 [x10] h)
 (vbin .eql 0 x3 (kS [105,49,54]) h λx11 h =>
 vif x11 (
 R 2 [x11] h)
 (vbin .eql 0 x3 (kS [105,51,50]) h λx12 h =>
 vif x12 (
 R 2 [x12] h)
 (vbin .eql 0 x3 (kS [117,56]) h λx13 h =>
 vif x13 (
 R 2 [x13] h)
 (vbin .eql 0 x3 (kS [117,49,54]) h λx14 h =>
 vif x14 (
 R 2 [x14] h)
 (vbin .eql 0 x3 (kS [117,51,50]) h λx15 h =>
 R 2 [x15] h))))))
theorem e87_1(O R q x3 x4 h):b87_1 O R q x3 x4 h=stepF c87 O R q 1 [x3,x4] h:=by kernel_rfl
def b87_2(O:Oracle)(R:Jump)(q:Nat)(x9:TVal)(h:Heap):Res1 :=
 vif x9 (
 tcomp (kI 1) λc0=>vfin true q [c0] h)
 (tcomp (kI 2) λc0=>vfin true q [c0] h)
theorem e87_2(O R q x9 h):b87_2 O R q x9 h=stepF c87 O R q 2 [x9] h:=by kernel_rfl
def d87:BlkF:=λO R Q=>[.s λa => .z (b87_0 O R Q a),.s λa => .s λb => .z (b87_1 O R Q a b),.s λa => .z (b87_2 O R Q a)]
theorem o87(O:Oracle)(R:Jump)(q:Nat):HoldsAll c87 O R q 0 (d87 O R q):=⟨e87_0 O R q,e87_1 O R q,e87_2 O R q,trivial⟩
def c88:MFunc:=mkM (compF Tryz.prog (globs2 tabs opq) (λ_=>false) true Tryz.f88) (.s .n (.s (.s .n (.k (.s .n (.s .n (.s .n (.m 1 [1,2,12] .n)))))) .n))
def b88_0(O:Oracle)(R:Jump)(q:Nat)(x0:TVal)(h:Heap):Res1 :=
 vop O (.box (.k x0) false) h 1 λx1 h =>
 vop O (.alloc [(.p (.int .i64 0)),(.p (.bool false)),(.p (.int .i64 0)),(.p (.str [])),(.p .nilslice),(.p .nilslice)] false) h 2 λx2 h =>
 vfaddr 0 x1 h λx4 h =>
 vload false 1 x4 h λx5 h =>
 vbin .eql 0 x5 (kI 3) h λx7 h =>
 vif x7 (
 vfaddr 3 x1 h λx8 h =>
 vload false 1 x8 h λx9 h =>
 vlen O 0 x9 h 10 λx10 h =>
 vcall O (.v (.c (.func 163 []))) [x10] h 11 λx11 h =>
 vstore 6 x2 x11 h λ_ h =>
 vcell true 6 x2 h λc0=>tcomp (kI 0) λc1=>vfin true q [c0,c1] h)
 (vbin .eql 0 x5 (kI 4) h λx13 h =>
 vif x13 (
 R 1 [x1,x2,x13] h)
 (vbin .eql 0 x5 (kI 5) h λx14 h =>
 R 1 [x1,x2,x14] h))
theorem e88_0(O R q x0 h):b88_0 O R q x0 h=stepF c88 O R q 0 [x0] h:=by kernel_rfl
def b88_1(O:Oracle)(R:Jump)(q:Nat)(x1 x2 x12:TVal)(h:Heap):Res1 :=
 vif x12 (
 vfaddr 5 x1 h λx15 h =>
 vload false 1 x15 h λx16 h =>
 vlen O 2 x16 h 17 λx17 h =>
 vcall O (.v (.c (.func 163 []))) [x17] h 18 λx18 h =>
 vstore 6 x2 x18 h λ_ h =>
 vcell true 6 x2 h λc0=>tcomp (kI 0) λc1=>vfin true q [c0,c1] h)
 (vop O (.build [(.p (.int .i64 0)),(.p (.bool false)),(.p (.int .i64 0)),(.p (.str [])),(.p .nilslice),(.p .nilslice)] []) h 19 λx19 h =>
 vstore 6 x2 x19 h λ_ h =>
 vcell true 6 x2 h λc0=>tcomp (kI 17) λc1=>vfin true q [c0,c1] h)
theorem e88_1(O R q x1 x2 x12 h):b88_1 O R q x1 x2 x12 h=stepF c88 O R q 1 [x1,x2,x12] h:=by kernel_rfl
def d88:BlkF:=λO R Q=>[.s λa => .z (b88_0 O R Q a),.s λa => .s λb => .s λc => .z (b88_1 O R Q a b c)]
theorem o88(O:Oracle)(R:Jump)(q:Nat):HoldsAll c88 O R q 0 (d88 O R q):=⟨e88_0 O R q,e88_1 O R q,trivial⟩
def c89:MFunc:=mkM (compF Tryz.prog (globs2 tabs opq) (λ_=>false) true Tryz.f89) .n
def b89_0(O:Oracle)(R:Jump)(q:Nat)(x0 x1:TVal)(h:Heap):Res1 :=
 vop O (.alloc [(.p (.int .i64 0)),(.p (.bool false)),(.p (.int .i64 0)),(.p (.str [])),(.p .nilslice),(.p .nilslice)] false) h 4 λx4 h =>
 vcall O (.v (.c (.func 164 []))) [x1,(.v (.c (.func 165 [])))] h 7 λx7 h =>
 vif x7 (
 vop O (.build [(.p (.int .i64 0)),(.p (.bool false)),(.p (.int .i64 0)),(.p (.str [])),(.p .nilslice),(.p .nilslice)] []) h 8 λx8 h =>
 vstore 6 x4 x8 h λ_ h =>
 vcell true 6 x4 h λc0=>tcomp (kI 17) λc1=>vfin true q [c0,c1] h)
 (vbin .eql 0 x0 (kS [110,111,116]) h λx11 h =>
 vif x11 (
 viaddr 6 x1 (kI 0) h λx13 h =>
 vfaddr 1 x13 h λx14 h =>
 vload false 1 x14 h λx15 h =>
 vop O (.un .not (.k x15)) h 16 λx16 h =>
 vcall O (.v (.c (.func 96 []))) [x16] h 17 λx17 h =>
 vstore 6 x4 x17 h λ_ h =>
 vcell true 6 x4 h λc0=>tcomp (kI 0) λc1=>vfin true q [c0,c1] h)
 (vbin .eql 0 x0 (kS [97,110,100]) h λx19 h =>
 vif x19 (
 viaddr 6 x1 (kI 0) h λx21 h =>
 vfaddr 1 x21 h λx22 h =>
 vload false 1 x22 h λx23 h =>
 vguard x23 true (λkk=>kk x1 h) h λx25 h =>
 vguard x23 true (λkk=>viaddr 6 x25 (kI 1) h kk) h λx26 h =>
 vguard x23 true (λkk=>vfaddr 1 x26 h kk) h λx27 h =>
 vguard x23 true (λkk=>vload false 1 x27 h kk) h λx28 h =>
 vop O (.pick (.k x23) (.k x28) (.k (kB false))) h 29 λx29 h =>
 vcall O (.v (.c (.func 96 []))) [x29] h 30 λx30 h =>
 vstore 6 x4 x30 h λ_ h =>
 vcell true 6 x4 h λc0=>tcomp (kI 0) λc1=>vfin true q [c0,c1] h)
 (viaddr 6 x1 (kI 0) h λx32 h =>
 vfaddr 1 x32 h λx33 h =>
 vload false 1 x33 h λx34 h =>
 vguard x34 false (λkk=>kk x1 h) h λx36 h =>
 vguard x34 false (λkk=>viaddr 6 x36 (kI 1) h kk) h λx37 h =>
 vguard x34 false (λkk=>vfaddr 1 x37 h kk) h λx38 h =>
 vguard x34 false (λkk=>vload false 1 x38 h kk) h λx39 h =>
 vop O (.pick (.k x34) (.k (kB true)) (.k x39)) h 40 λx40 h =>
 vcall O (.v (.c (.func 96 []))) [x40] h 41 λx41 h =>
 vstore 6 x4 x41 h λ_ h =>
 vcell true 6 x4 h λc0=>tcomp (kI 0) λc1=>vfin true q [c0,c1] h)))
theorem e89_0(O R q x0 x1 h):b89_0 O R q x0 x1 h=stepF c89 O R q 0 [x0,x1] h:=by kernel_rfl
def d89:BlkF:=λO R Q=>[.s λa => .s λb => .z (b89_0 O R Q a b)]
theorem o89(O:Oracle)(R:Jump)(q:Nat):HoldsAll c89 O R q 0 (d89 O R q):=⟨e89_0 O R q,trivial⟩
def c90:MFunc:=mkM (compF Tryz.prog (globs2 tabs opq) (λ_=>false) true Tryz.f90) .n
def b90_0(O:Oracle)(R:Jump)(q:Nat)(x0:TVal)(h:Heap):Res1 :=
 vop O (.alloc [(.p (.int .i64 0)),(.p (.bool false)),(.p (.int .i64 0)),(.p (.str [])),(.p .nilslice),(.p .nilslice)] false) h 2 λx2 h =>
 viaddr 6 x0 (kI 0) h λx6 h =>
 vfaddr 0 x6 h λx7 h =>
 vload false 1 x7 h λx8 h =>
 vbin .lss 0 x8 (kI 1) h λx10 h =>
 vguard x10 false (λkk=>kk x8 h) h λx12 h =>
 vguard x10 false (λkk=>vbin .gtr 0 x12 (kI 3) h kk) h λx13 h =>
 vop O (.pick (.k x10) (.k (kB true)) (.k x13)) h 14 λx14 h =>
 vguard x14 false (λkk=>kk x0 h) h λx16 h =>
 vguard x14 false (λkk=>viaddr 6 x16 (kI 1) h kk) h λx17 h =>
 vguard x14 false (λkk=>vfaddr 0 x17 h kk) h λx18 h =>
 vguard x14 false (λkk=>vload false 1 x18 h kk) h λx19 h =>
 vguard x14 false (λkk=>kk x8 h) h λx20 h =>
 vguard x14 false (λkk=>vbin .neq 0 x19 x20 h kk) h λx21 h =>
 vop O (.pick (.k x14) (.k (kB true)) (.k x21)) h 22 λx22 h =>
 vif x22 (
 vop O (.build [(.p (.int .i64 0)),(.p (.bool false)),(.p (.int .i64 0)),(.p (.str [])),(.p .nilslice),(.p .nilslice)] []) h 23 λx23 h =>
 vstore 6 x2 x23 h λ_ h =>
 vcell true 6 x2 h λc0=>tcomp (kI 17) λc1=>vfin true q [c0,c1] h)
 (viaddr 6 x0 (kI 0) h λx25 h =>
 vfaddr 1 x25 h λx26 h =>
 vload false 1 x26 h λx27 h =>
 viaddr 6 x0 (kI 1) h λx29 h =>
 vfaddr 1 x29 h λx30 h =>
 vload false 1 x30 h λx31 h =>
 vbin .eql 5 x27 x31 h λx32 h =>
 vguard x32 true (λkk=>kk x0 h) h λx34 h =>
 vguard x32 true (λkk=>viaddr 6 x34 (kI 0) h kk) h λx35 h =>
 vguard x32 true (λkk=>vfaddr 2 x35 h kk) h λx36 h =>
 vguard x32 true (λkk=>vload false 1 x36 h kk) h λx37 h =>
 vguard x32 true (λkk=>kk x0 h) h λx38 h =>
 vguard x32 true (λkk=>viaddr 6 x38 (kI 1) h kk) h λx39 h =>
 vguard x32 true (λkk=>vfaddr 2 x39 h kk) h λx40 h =>
 vguard x32 true (λkk=>vload false 1 x40 h kk) h λx41 h =>
 vguard x32 true (λkk=>vbin .eql 0 x37 x41 h kk) h λx42 h =>
 vop O (.pick (.k x32) (.k x42) (.k (kB false))) h 43 λx43 h =>
 vguard x43 true (λkk=>kk x0 h) h λx45 h =>
 vguard x43 true (λkk=>viaddr 6 x45 (kI 0) h kk) h λx46 h =>
 vguard x43 true (λkk=>vfaddr 3 x46 h kk) h λx47 h =>
 vguard x43 true (λkk=>vload false 1 x47 h kk) h λx48 h =>
 vguard x43 true (λkk=>kk x0 h) h λx49 h =>
 vguard x43 true (λkk=>viaddr 6 x49 (kI 1) h kk) h λx50 h =>
 vguard x43 true (λkk=>vfaddr 3 x50 h kk) h λx51 h =>
 vguard x43 true (λkk=>vload false 1 x51 h kk) h λx52 h =>
 vguard x43 true (λkk=>vbin .eql 0 x48 x52 h kk) h λx53 h =>
 vop O (.pick (.k x43) (.k x53) (.k (kB false))) h 54 λx54 h =>
 vcall O (.v (.c (.func 96 []))) [x54] h 55 λx55 h =>
 vstore 6 x2 x55 h λ_ h =>
 vcell true 6 x2 h λc0=>tcomp (kI 0) λc1=>vfin true q [c0,c1] h)
theorem e90_0(O R q x0 h):b90_0 O R q x0 h=stepF c90 O R q 0 [x0] h:=by kernel_rfl
def d90:BlkF:=λO R Q=>[.s λa => .z (b90_0 O R Q a)]
theorem o90(O:Oracle)(R:Jump)(q:Nat):HoldsAll c90 O R q 0 (d90 O R q):=⟨e90_0 O R q,trivial⟩
def c91:MFunc:=mkM (compF Tryz.prog (globs2 tabs opq) (λ_=>false) true Tryz.f91) .n
def b91_0(O:Oracle)(R:Jump)(q:Nat)(x0:TVal)(h:Heap):Res1 :=
 vop O (.alloc [(.p (.int .i64 0)),(.p (.bool false)),(.p (.int .i64 0)),(.p (.str [])),(.p .nilslice),(.p .nilslice)] false) h 2 λx2 h =>
 vop O (.bslice 1 2 [(.p (.int .i64 0))] [(0,(.k (kI 3))),(1,(.k (kI 3)))] false) h 6 λx6 h =>
 vcall O (.v (.c (.func 94 []))) [x0,x6] h 7 λx7 h =>
 vop O (.un .not (.k x7)) h 8 λx8 h =>
 vif x8 (
 vop O (.build [(.p (.int .i64 0)),(.p (.bool false)),(.p (.int .i64 0)),(.p (.str [])),(.p .nilslice),(.p .nilslice)] []) h 9 λx9 h =>
 vstore 6 x2 x9 h λ_ h =>
 vcell true 6 x2 h λc0=>tcomp (kI 17) λc1=>vfin true q [c0,c1] h)
 (viaddr 6 x0 (kI 0) h λx12 h =>
 vfaddr 3 x12 h λx13 h =>
 vload false 1 x13 h λx14 h =>
 vlen O 0 x14 h 15 λx15 h =>
 viaddr 6 x0 (kI 1) h λx17 h =>
 vfaddr 3 x17 h λx18 h =>
 vload false 1 x18 h λx19 h =>
 vlen O 0 x19 h 20 λx20 h =>
 vbin .sub 0 (kI 65536) x20 h λx21 h =>
 vbin .gtr 0 x15 x21 h λx22 h =>
 vif x22 (
 vop O (.build [(.p (.int .i64 0)),(.p (.bool false)),(.p (.int .i64 0)),(.p (.str [])),(.p .nilslice),(.p .nilslice)] []) h 23 λx23 h =>
 vstore 6 x2 x23 h λ_ h =>
 vcell true 6 x2 h λc0=>tcomp (kI 34) λc1=>vfin true q [c0,c1] h)
 (viaddr 6 x0 (kI 0) h λx25 h =>
 vfaddr 3 x25 h λx26 h =>
 vload false 1 x26 h λx27 h =>
 viaddr 6 x0 (kI 1) h λx29 h =>
 vfaddr 3 x29 h λx30 h =>
 vload false 1 x30 h λx31 h =>
 vbin .add 0 x27 x31 h λx32 h =>
 vcall O (.v (.c (.func 166 []))) [x32] h 33 λx33 h =>
 vstore 6 x2 x33 h λ_ h =>
 vcell true 6 x2 h λc0=>tcomp (kI 0) λc1=>vfin true q [c0,c1] h))
theorem e91_0(O R q x0 h):b91_0 O R q x0 h=stepF c91 O R q 0 [x0] h:=by kernel_rfl
def d91:BlkF:=λO R Q=>[.s λa => .z (b91_0 O R Q a)]
theorem o91(O:Oracle)(R:Jump)(q:Nat):HoldsAll c91 O R q 0 (d91 O R q):=⟨e91_0 O R q,trivial⟩
def c92:MFunc:=mkM (compF Tryz.prog (globs2 tabs opq) (λ_=>false) true Tryz.f92) .n
def b92_0(O:Oracle)(R:Jump)(q:Nat)(x0:TVal)(h:Heap):Res1 :=
 vop O (.box (.k x0) false) h 1 λx1 h =>
 vop O (.alloc [(.p (.int .i64 0)),(.p (.bool false)),(.p (.int .i64 0)),(.p (.str [])),(.p .nilslice),(.p .nilslice)] false) h 2 λx2 h =>
 vfaddr 0 x1 h λx4 h =>
 vload false 1 x4 h λx5 h =>
 vbin .eql 0 x5 (kI 2) h λx7 h =>
 vif x7 (
 vfaddr 2 x1 h λx8 h =>
 vload false 1 x8 h λx9 h =>
 vcall O (.v (.c (.func 167 []))) [x9,(kI 10)] h 10 λx10 h =>
 vcall O (.v (.c (.func 166 []))) [x10] h 11 λx11 h =>
 vstore 6 x2 x11 h λ_ h =>
 vcell true 6 x2 h λc0=>tcomp (kI 0) λc1=>vfin true q [c0,c1] h)
 (vbin .eql 0 x5 (kI 1) h λx13 h =>
 vif x13 (
 vfaddr 1 x1 h λx14 h =>
 vload false 1 x14 h λx15 h =>
 vcall O (.v (.c (.func 168 []))) [x15] h 16 λx16 h =>
 vcall O (.v (.c (.func 166 []))) [x16] h 17 λx17 h =>
 vstore 6 x2 x17 h λ_ h =>
 vcell true 6 x2 h λc0=>tcomp (kI 0) λc1=>vfin true q [c0,c1] h)
 (vop O (.build [(.p (.int .i64 0)),(.p (.bool false)),(.p (.int .i64 0)),(.p (.str [])),(.p .nilslice),(.p .nilslice)] []) h 18 λx18 h =>
 vstore 6 x2 x18 h λ_ h =>
 vcell true 6 x2 h λc0=>tcomp (kI 17) λc1=>vfin true q [c0,c1] h))
theorem e92_0(O R q x0 h):b92_0 O R q x0 h=stepF c92 O R q 0 [x0] h:=by kernel_rfl
def d92:BlkF:=λO R Q=>[.s λa => .z (b92_0 O R Q a)]
theorem o92(O:Oracle)(R:Jump)(q:Nat):HoldsAll c92 O R q 0 (d92 O R q):=⟨e92_0 O R q,trivial⟩
def c93:MFunc:=mkM (compF Tryz.prog (globs2 tabs opq) (λ_=>false) true Tryz.f93) .n
def b93_0(O:Oracle)(R:Jump)(q:Nat)(x0:TVal)(h:Heap):Res1 :=
 vop O (.alloc [(.p (.int .i64 0)),(.p (.bool false)),(.p (.int .i64 0)),(.p (.str [])),(.p .nilslice),(.p .nilslice)] false) h 2 λx2 h =>
 vop O (.bslice 1 2 [(.p (.int .i64 0))] [(0,(.k (kI 4))),(1,(.k (kI 2)))] false) h 6 λx6 h =>
 vcall O (.v (.c (.func 94 []))) [x0,x6] h 7 λx7 h =>
 vop O (.un .not (.k x7)) h 8 λx8 h =>
 vif x8 (
 vop O (.build [(.p (.int .i64 0)),(.p (.bool false)),(.p (.int .i64 0)),(.p (.str [])),(.p .nilslice),(.p .nilslice)] []) h 9 λx9 h =>
 vstore 6 x2 x9 h λ_ h =>
 vcell true 6 x2 h λc0=>tcomp (kI 17) λc1=>vfin true q [c0,c1] h)
 (viaddr 6 x0 (kI 1) h λx12 h =>
 vfaddr 2 x12 h λx13 h =>
 vload false 1 x13 h λx14 h =>
 vbin .lss 0 x14 (kI 0) h λx15 h =>
 vguard x15 false (λkk=>kk x0 h) h λx17 h =>
 vguard x15 false (λkk=>viaddr 6 x17 (kI 1) h kk) h λx18 h =>
 vguard x15 false (λkk=>vfaddr 2 x18 h kk) h λx19 h =>
 vguard x15 false (λkk=>vload false 1 x19 h kk) h λx20 h =>
 vguard x15 false (λkk=>kk x0 h) h λx21 h =>
 vguard x15 false (λkk=>viaddr 6 x21 (kI 0) h kk) h λx22 h =>
 vguard x15 false (λkk=>vfaddr 5 x22 h kk) h λx23 h =>
 vguard x15 false (λkk=>vload false 1 x23 h kk) h λx24 h =>
 vguard x15 false (λkk=>vlen O 2 x24 h 25 kk) h λx25 h =>
 vguard x15 false (λkk=>vbin .geq 0 x20 x25 h kk) h λx26 h =>
 vop O (.pick (.k x15) (.k (kB true)) (.k x26)) h 27 λx27 h =>
 vif x27 (
 vop O (.build [(.p (.int .i64 0)),(.p (.bool false)),(.p (.int .i64 0)),(.p (.str [])),(.p .nilslice),(.p .nilslice)] []) h 28 λx28 h =>
 vstore 6 x2 x28 h λ_ h =>
 vcell true 6 x2 h λc0=>tcomp (kI 32) λc1=>vfin true q [c0,c1] h)
 (viaddr 6 x0 (kI 0) h λx30 h =>
 vfaddr 5 x30 h λx31 h =>
 vload false 1 x31 h λx32 h =>
 viaddr 6 x0 (kI 1) h λx34 h =>
 vfaddr 2 x34 h λx35 h =>
 vload false 1 x35 h λx36 h =>
 viaddr 6 x32 x36 h λx37 h =>
 vload true 6 x37 h λx38 h =>
 vcall O (.v (.c (.func 71 []))) [x38] h 39 λx39 h =>
 vstore 6 x2 x39 h λ_ h =>
 vcell true 6 x2 h λc0=>tcomp (kI 0) λc1=>vfin true q [c0,c1] h))
theorem e93_0(O R q x0 h):b93_0 O R q x0 h=stepF c93 O R q 0 [x0] h:=by kernel_rfl
def d93:BlkF:=λO R Q=>[.s λa => .z (b93_0 O R Q a)]
theorem o93(O:Oracle)(R:Jump)(q:Nat):HoldsAll c93 O R q 0 (d93 O R q):=⟨e93_0 O R q,trivial⟩
def c94:MFunc:=mkM (compF Tryz.prog (globs2 tabs opq) (λ_=>false) true Tryz.f94) (.s .n (.s (.s .n (.k (.l 1 [0,7,8,9] .n))) .n))
def b94_0(O:Oracle)(R:Jump)(q:Nat)(x0 x1:TVal)(h:Heap):Res1 :=
 vlen O 2 x1 h 8 λx8 h =>
 R 1 [x0,x1,x8,(kI 0)] h
theorem e94_0(O R q x0 x1 h):b94_0 O R q x0 x1 h=stepF c94 O R q 0 [x0,x1] h:=by kernel_rfl
def b94_1(O:Oracle)(R:Jump)(q:Nat)(x0 x7 x8 x9:TVal)(h:Heap):Res1 :=
 vbin .lss 0 x9 x8 h λx10 h =>
 vif x10 (
 viaddr 1 x7 x9 h λx12 h =>
 vload false 1 x12 h λx13 h =>
 viaddr 6 x0 x9 h λx16 h =>
 vfaddr 0 x16 h λx17 h =>
 vload false 1 x17 h λx18 h =>
 vbin .neq 0 x18 x13 h λx20 h =>
 vif x20 (
 tcomp (kB false) λc0=>vfin true q [c0] h)
 (vbin .add 0 x9 (kI 1) h λx21 h =>
 R 1 [x0,x7,x8,x21] h))
 (tcomp (kB true) λc0=>vfin true q [c0] h)
theorem e94_1(O R q x0 x7 x8 x9 h):b94_1 O R q x0 x7 x8 x9 h=stepF c94 O R q 1 [x0,x7,x8,x9] h:=by kernel_rfl
def d94:BlkF:=λO R Q=>[.s λa => .s λb => .z (b94_0 O R Q a b),.s λa => .s λb => .s λc => .s λd => .z (b94_1 O R Q a b c d)]
theorem o94(O:Oracle)(R:Jump)(q:Nat):HoldsAll c94 O R q 0 (d94 O R q):=⟨e94_0 O R q,e94_1 O R q,trivial⟩
def c95:MFunc:=mkM (compF Tryz.prog (globs2 tabs opq) (λ_=>false) true Tryz.f95) .n
def b95_0(O:Oracle)(R:Jump)(q:Nat)(x0 x1:TVal)(h:Heap):Res1 :=
 vop O (.box (.k x0) false) h 2 λx2 h =>
 vop O (.alloc [(.p (.int .i64 0)),(.p (.bool false)),(.p (.int .i64 0)),(.p (.str [])),(.p .nilslice),(.p .nilslice)] false) h 4 λx4 h =>
 vfaddr 4 x2 h λx7 h =>
 vload false 1 x7 h λx8 h =>
 vcall O (.v (.c (.func 169 []))) [x8,x1] h 10 λx10 h =>
 vfaddr 0 x2 h λx11 h =>
 vload false 1 x11 h λx12 h =>
 vbin .neq 0 x12 (kI 5) h λx13 h =>
 vguard x13 false (λkk=>kk x10 h) h λx15 h =>
 vguard x13 false (λkk=>vbin .lss 0 x15 (kI 0) h kk) h λx16 h =>
 vop O (.pick (.k x13) (.k (kB true)) (.k x16)) h 17 λx17 h =>
 vguard x17 false (λkk=>kk x10 h) h λx19 h =>
 vguard x17 false (λkk=>vfaddr 5 x2 h kk) h λx20 h =>
 vguard x17 false (λkk=>vload false 1 x20 h kk) h λx21 h =>
 vguard x17 false (λkk=>vlen O 2 x21 h 22 kk) h λx22 h =>
 vguard x17 false (λkk=>vbin .geq 0 x19 x22 h kk) h λx23 h =>
 vop O (.pick (.k x17) (.k (kB true)) (.k x23)) h 24 λx24 h =>
 vif x24 (
 vop O (.build [(.p (.int .i64 0)),(.p (.bool false)),(.p (.int .i64 0)),(.p (.str [])),(.p .nilslice),(.p .nilslice)] []) h 25 λx25 h =>
 vstore 6 x4 x25 h λ_ h =>
 vcell true 6 x4 h λc0=>tcomp (kB false) λc1=>vfin true q [c0,c1] h)
 (vfaddr 5 x2 h λx26 h =>
 vload false 1 x26 h λx27 h =>
 viaddr 6 x27 x10 h λx29 h =>
 vload true 6 x29 h λx30 h =>
 vcall O (.v (.c (.func 170 []))) [x30] h 31 λx31 h =>
 vstore 6 x4 x31 h λ_ h =>
 vcell true 6 x4 h λc0=>tcomp (kB true) λc1=>vfin true q [c0,c1] h)
theorem e95_0(O R q x0 x1 h):b95_0 O R q x0 x1 h=stepF c95 O R q 0 [x0,x1] h:=by kernel_rfl
def d95:BlkF:=λO R Q=>[.s λa => .s λb => .z (b95_0 O R Q a b)]
theorem o95(O:Oracle)(R:Jump)(q:Nat):HoldsAll c95 O R q 0 (d95 O R q):=⟨e95_0 O R q,trivial⟩
def c96:MFunc:=mkM (compF Tryz.prog (globs2 tabs opq) (λ_=>false) true Tryz.f96) .n
def b96_0(O:Oracle)(R:Jump)(q:Nat)(x0:TVal)(h:Heap):Res1 :=
 vop O (.alloc [(.p (.int .i64 0)),(.p (.bool false)),(.p (.int .i64 0)),(.p (.str [])),(.p .nilslice),(.p .nilslice)] false) h 2 λx2 h =>
 vop O (.build [(.p (.int .i64 0)),(.p (.bool false)),(.p (.int .i64 0)),(.p (.str [])),(.p .nilslice),(.p .nilslice)] [(0,1,(.k (kI 1))),(1,1,(.k x0))]) h 4 λx4 h =>
 vstore 6 x2 x4 h λ_ h =>
 vcell true 6 x2 h λc0=>vfin true q [c0] h
theorem e96_0(O R q x0 h):b96_0 O R q x0 h=stepF c96 O R q 0 [x0] h:=by kernel_rfl
def d96:BlkF:=λO R Q=>[.s λa => .z (b96_0 O R Q a)]
theorem o96(O:Oracle)(R:Jump)(q:Nat):HoldsAll c96 O R q 0 (d96 O R q):=⟨e96_0 O R q,trivial⟩
def c97:MFunc:=mkM (compF Tryz.prog (globs2 tabs opq) (λ_=>false) true Tryz.f97) .n
def b97_0(O:Oracle)(R:Jump)(q:Nat)(x0 x1:TVal)(h:Heap):Res1 :=
 vop O (.alloc [(.p (.int .i64 0)),(.p (.bool false)),(.p (.int .i64 0)),(.p (.str [])),(.p .nilslice),(.p .nilslice)] false) h 4 λx4 h =>
 vcall O (.v (.c (.func 164 []))) [x1,(.v (.c (.func 171 [])))] h 7 λx7 h =>
 vif x7 (
 vop O (.build [(.p (.int .i64 0)),(.p (.bool false)),(.p (.int .i64 0)),(.p (.str [])),(.p .nilslice),(.p .nilslice)] []) h 8 λx8 h =>
 vstore 6 x4 x8 h λ_ h =>
 vcell true 6 x4 h λc0=>tcomp (kI 17) λc1=>vfin true q [c0,c1] h)
 (vlen O 2 x1 h 11 λx11 h =>
 vbin .eql 0 x11 (kI 1) h λx12 h =>
 vif x12 (
 viaddr 6 x1 (kI 0) h λx15 h =>
 vfaddr 2 x15 h λx16 h =>
 vload false 1 x16 h λx17 h =>
 vcall O (.v (.c (.func 172 []))) [x0,x17] h 18 λx18 h =>
 vcall O (.v (.c (.func 163 []))) [x18] h 19 λx19 h =>
 vstore 6 x4 x19 h λ_ h =>
 vcell true 6 x4 h λc0=>tcomp (kI 0) λc1=>vfin true q [c0,c1] h)
 (vbin .eql 0 x0 (kS [108,116]) h λx22 h =>
 vif x22 (
 viaddr 6 x1 (kI 0) h λx24 h =>
 vfaddr 2 x24 h λx25 h =>
 vload false 1 x25 h λx26 h =>
 viaddr 6 x1 (kI 1) h λx28 h =>
 vfaddr 2 x28 h λx29 h =>
 vload false 1 x29 h λx30 h =>
 vbin .lss 0 x26 x30 h λx31 h =>
 vcall O (.v (.c (.func 96 []))) [x31] h 32 λx32 h =>
 vstore 6 x4 x32 h λ_ h =>
 vcell true 6 x4 h λc0=>tcomp (kI 0) λc1=>vfin true q [c0,c1] h)
 (viaddr 6 x1 (kI 0) h λx35 h =>
 vfaddr 2 x35 h λx36 h =>
 vload false 1 x36 h λx37 h =>
 viaddr 6 x1 (kI 1) h λx39 h =>
 vfaddr 2 x39 h λx40 h =>
 vload false 1 x40 h λx41 h =>
 vcall O (.v (.c (.func 173 []))) [x0,x37,x41] h 42 λx42 h =>
 vcall O (.v (.c (.func 163 []))) [x42] h 43 λx43 h =>
 vstore 6 x4 x43 h λ_ h =>
 vcell true 6 x4 h λc0=>tcomp (kI 0) λc1=>vfin true q [c0,c1] h)))
theorem e97_0(O R q x0 x1 h):b97_0 O R q x0 x1 h=stepF c97 O R q 0 [x0,x1] h:=by kernel_rfl
def d97:BlkF:=λO R Q=>[.s λa => .s λb => .z (b97_0 O R Q a b)]
theorem o97(O:Oracle)(R:Jump)(q:Nat):HoldsAll c97 O R q 0 (d97 O R q):=⟨e97_0 O R q,trivial⟩
def c116:MFunc:=mkM (compF Tryz.prog (globs2 tabs opq) (λ_=>false) true Tryz.f116) .n
def b116_0(O:Oracle)(R:Jump)(q:Nat)(x0:TVal)(h:Heap):Res1 :=
 vbin .eql 0 x0 (.v (.c (.p (.int .u8 32)))) h λx4 h =>
 vguard x4 false (λkk=>kk x0 h) h λx6 h =>
 vguard x4 false (λkk=>vbin .eql 0 x6 (.v (.c (.p (.int .u8 9)))) h kk) h λx7 h =>
 vop O (.pick (.k x4) (.k (kB true)) (.k x7)) h 8 λx8 h =>
 vguard x8 false (λkk=>kk x0 h) h λx10 h =>
 vguard x8 false (λkk=>vbin .eql 0 x10 (.v (.c (.p (.int .u8 10)))) h kk) h λx11 h =>
 vop O (.pick (.k x8) (.k (kB true)) (.k x11)) h 12 λx12 h =>
 vguard x12 false (λkk=>kk x0 h) h λx14 h =>
 vguard x12 false (λkk=>vbin .eql 0 x14 (.v (.c (.p (.int .u8 13)))) h kk) h λx15 h =>
 vop O (.pick (.k x12) (.k (kB true)) (.k x15)) h 16 λx16 h =>
 tcomp x16 λc0=>vfin true q [c0] h
theorem e116_0(O R q x0 h):b116_0 O R q x0 h=stepF c116 O R q 0 [x0] h:=by kernel_rfl
def d116:BlkF:=λO R Q=>[.s λa => .z (b116_0 O R Q a)]
theorem o116(O:Oracle)(R:Jump)(q:Nat):HoldsAll c116 O R q 0 (d116 O R q):=⟨e116_0 O R q,trivial⟩
def c117:MFunc:=mkM (compF Tryz.prog (globs2 tabs opq) (λ_=>false) true Tryz.f117) (.s .n (.s .n (.s (.k (.s .n (.s (.s (.k (.l 1 [0,1,4,7] .n)) (.m 2 [0,1,4,7] .n)) (.s .n (.s (.s .n (.s (.k (.l 3 [0,1,4,7] .n)) (.m 4 [0,1,4,7] .n))) .n))))) (.m 5 [0,1,4] (.s .n (.s .n (.s (.s .n (.k (.l 6 [0,1,4,12,13] .n))) (.m 7 [4] .n))))))))
def b117_0(O:Oracle)(R:Jump)(q:Nat)(x0 x1:TVal)(h:Heap):Res1 :=
 vop O (.alloc [(.p (.int .i64 0)),(.p (.str [])),(.p (.int .i64 0)),(.p (.int .i64 0))] false) h 4 λx4 h =>
 vindex x0 x1 h λx18 h =>
 vcall O (.v (.c (.func 184 []))) [x18] h 19 λx19 h =>
 vif x19 (
 R 1 [x0,x1,x4,x1] h)
 (vindex x0 x1 h λx53 h =>
 vcall O (.v (.c (.func 185 []))) [x53] h 54 λx54 h =>
 vguard x54 false (λkk=>kk x0 h) h λx56 h =>
 vguard x54 false (λkk=>kk x1 h) h λx57 h =>
 vguard x54 false (λkk=>vindex x56 x57 h kk) h λx58 h =>
 vguard x54 false (λkk=>vbin .eql 0 x58 (.v (.c (.p (.int .u8 45)))) h kk) h λx59 h =>
 vguard x54 false (λkk=>kk x59 h) h λx60 h =>
 vguard x60 true (λkk=>kk x1 h) h λx61 h =>
 vguard x60 true (λkk=>vbin .add 0 x61 (kI 1) h kk) h λx62 h =>
 vguard x60 true (λkk=>kk x0 h) h λx63 h =>
 vguard x60 true (λkk=>vlen O 0 x63 h 64 kk) h λx64 h =>
 vguard x60 true (λkk=>vbin .lss 0 x62 x64 h kk) h λx65 h =>
 vguard x54 false (λkk=>vop O (.pick (.k x60) (.k x65) (.k (kB false))) h 66 kk) h λx66 h =>
 vguard x54 false (λkk=>kk x66 h) h λx67 h =>
 vguard x67 true (λkk=>kk x0 h) h λx68 h =>
 vguard x67 true (λkk=>kk x1 h) h λx69 h =>
 vguard x67 true (λkk=>vbin .add 0 x69 (kI 1) h kk) h λx70 h =>
 vguard x67 true (λkk=>vindex x68 x70 h kk) h λx71 h =>
 vguard x67 true (λkk=>vcall O (.v (.c (.func 185 []))) [x71] h 72 kk) h λx72 h =>
 vguard x54 false (λkk=>vop O (.pick (.k x67) (.k x72) (.k (kB false))) h 73 kk) h λx73 h =>
 vop O (.pick (.k x54) (.k (kB true)) (.k x73)) h 74 λx74 h =>
 vif x74 (
 vbin .add 0 x1 (kI 1) h λx76 h =>
 R 3 [x0,x1,x4,x76] h)
 (vindex x0 x1 h λx105 h =>
 vbin .eql 0 x105 (.v (.c (.p (.int .u8 34)))) h λx106 h =>
 vif x106 (
 vcall O (.v (.c (.func 187 []))) [x0,x1] h 110 λx110 h =>
 vext x110 0 h λx111 h =>
 vext x110 1 h λx112 h =>
 vbin .lss 0 x112 (kI 0) h λx114 h =>
 vif x114 (
 vop O (.build [(.p (.int .i64 0)),(.p (.str [])),(.p (.int .i64 0)),(.p (.int .i64 0))] []) h 115 λx115 h =>
 vstore 4 x4 x115 h λ_ h =>
 vcell true 4 x4 h λc0=>tcomp (kI 0) λc1=>tcomp (kI 11) λc2=>vfin true q [c0,c1,c2] h)
 (vlen O 0 x111 h 117 λx117 h =>
 vbin .gtr 0 x117 (kI 200) h λx118 h =>
 vif x118 (
 vop O (.build [(.p (.int .i64 0)),(.p (.str [])),(.p (.int .i64 0)),(.p (.int .i64 0))] []) h 119 λx119 h =>
 vstore 4 x4 x119 h λ_ h =>
 vcell true 4 x4 h λc0=>tcomp (kI 0) λc1=>tcomp (kI 4) λc2=>vfin true q [c0,c1,c2] h)
 (vop O (.build [(.p (.int .i64 0)),(.p (.str [])),(.p (.int .i64 0)),(.p (.int .i64 0))] [(0,1,(.k (kI 2))),(1,1,(.k x111)),(3,1,(.k x1))]) h 122 λx122 h =>
 vstore 4 x4 x122 h λ_ h =>
 vcell true 4 x4 h λc0=>tcomp x112 λc1=>tcomp (kI 0) λc2=>vfin true q [c0,c1,c2] h)))
 (R 5 [x0,x1,x4] h)))
theorem e117_0(O R q x0 x1 h):b117_0 O R q x0 x1 h=stepF c117 O R q 0 [x0,x1] h:=by kernel_rfl
def b117_1(O:Oracle)(R:Jump)(q:Nat)(x0 x1 x4 x7:TVal)(h:Heap):Res1 :=
 vlen O 0 x0 h 22 λx22 h =>
 vbin .lss 0 x7 x22 h λx23 h =>
 vguard x23 true (λkk=>kk x0 h) h λx25 h =>
 vguard x23 true (λkk=>kk x7 h) h λx26 h =>
 vguard x23 true (λkk=>vindex x25 x26 h kk) h λx27 h =>
 vguard x23 true (λkk=>vcall O (.v (.c (.func 184 []))) [x27] h 28 kk) h λx28 h =>
 vguard x23 true (λkk=>kk x28 h) h λx29 h =>
 vguard x29 false (λkk=>kk x0 h) h λx30 h =>
 vguard x29 false (λkk=>kk x7 h) h λx31 h =>
 vguard x29 false (λkk=>vindex x30 x31 h kk) h λx32 h =>
 vguard x29 false (λkk=>vcall O (.v (.c (.func 185 []))) [x32] h 33 kk) h λx33 h =>
 vguard x23 true (λkk=>vop O (.pick (.k x29) (.k (kB true)) (.k x33)) h 34 kk) h λx34 h =>
 vop O (.pick (.k x23) (.k x34) (.k (kB false))) h 35 λx35 h =>
 vif x35 (
 vbin .add 0 x7 (kI 1) h λx37 h =>
 R 1 [x0,x1,x4,x37] h)
 (R 2 [x0,x1,x4,x7] h)
theorem e117_1(O R q x0 x1 x4 x7 h):b117_1 O R q x0 x1 x4 x7 h=stepF c117 O R q 1 [x0,x1,x4,x7] h:=by kernel_rfl
def b117_2(O:Oracle)(R:Jump)(q:Nat)(x0 x1 x4 x7:TVal)(h:Heap):Res1 :=
 vbin .sub 0 x7 x1 h λx40 h =>
 vbin .gtr 0 x40 (kI 16) h λx41 h =>
 vif x41 (
 vop O (.build [(.p (.int .i64 0)),(.p (.str [])),(.p (.int .i64 0)),(.p (.int .i64 0))] []) h 42 λx42 h =>
 vstore 4 x4 x42 h λ_ h =>
 vcell true 4 x4 h λc0=>tcomp (kI 0) λc1=>tcomp (kI 4) λc2=>vfin true q [c0,c1,c2] h)
 (vop O (.slice 0 true (.k x0) (some (.k x1)) (some (.k x7)) none) h 46 λx46 h =>
 vop O (.build [(.p (.int .i64 0)),(.p (.str [])),(.p (.int .i64 0)),(.p (.int .i64 0))] [(0,1,(.k (kI 1))),(1,1,(.k x46)),(3,1,(.k x1))]) h 48 λx48 h =>
 vstore 4 x4 x48 h λ_ h =>
 vcell true 4 x4 h λc0=>tcomp x7 λc1=>tcomp (kI 0) λc2=>vfin true q [c0,c1,c2] h)
theorem e117_2(O R q x0 x1 x4 x7 h):b117_2 O R q x0 x1 x4 x7 h=stepF c117 O R q 2 [x0,x1,x4,x7] h:=by kernel_rfl
def b117_3(O:Oracle)(R:Jump)(q:Nat)(x0 x1 x4 x7:TVal)(h:Heap):Res1 :=
 vlen O 0 x0 h 79 λx79 h =>
 vbin .lss 0 x7 x79 h λx80 h =>
 vguard x80 true (λkk=>kk x0 h) h λx82 h =>
 vguard x80 true (λkk=>kk x7 h) h λx83 h =>
 vguard x80 true (λkk=>vindex x82 x83 h kk) h λx84 h =>
 vguard x80 true (λkk=>vcall O (.v (.c (.func 185 []))) [x84] h 85 kk) h λx85 h =>
 vop O (.pick (.k x80) (.k x85) (.k (kB false))) h 86 λx86 h =>
 vif x86 (
 vbin .add 0 x7 (kI 1) h λx88 h =>
 R 3 [x0,x1,x4,x88] h)
 (R 4 [x0,x1,x4,x7] h)
theorem e117_3(O R q x0 x1 x4 x7 h):b117_3 O R q x0 x1 x4 x7 h=stepF c117 O R q 3 [x0,x1,x4,x7] h:=by kernel_rfl
def b117_4(O:Oracle)(R:Jump)(q:Nat)(x0 x1 x4 x7:TVal)(h:Heap):Res1 :=
 vop O (.slice 0 true (.k x0) (some (.k x1)) (some (.k x7)) none) h 93 λx93 h =>
 vcall O (.v (.c (.func 186 []))) [x93] h 94 λx94 h =>
 vext x94 0 h λx95 h =>
 vext x94 1 h λx96 h =>
 vop O (.build [(.p (.int .i64 0)),(.p (.str [])),(.p (.int .i64 0)),(.p (.int .i64 0))] [(0,1,(.k (kI 3))),(2,1,(.k x95)),(3,1,(.k x1))]) h 99 λx99 h =>
 vstore 4 x4 x99 h λ_ h =>
 vcell true 4 x4 h λc0=>tcomp x7 λc1=>tcomp x96 λc2=>vfin true q [c0,c1,c2] h
theorem e117_4(O R q x0 x1 x4 x7 h):b117_4 O R q x0 x1 x4 x7 h=stepF c117 O R q 4 [x0,x1,x4,x7] h:=by kernel_rfl
def b117_5(O:Oracle)(R:Jump)(q:Nat)(x0 x1 x4:TVal)(h:Heap):Res1 :=
 vbin .add 0 x1 (kI 2) h λx125 h =>
 vlen O 0 x0 h 127 λx127 h =>
 vbin .leq 0 x125 x127 h λx128 h =>
 vguard x128 true (λkk=>kk x0 h) h λx130 h =>
 vguard x128 true (λkk=>kk x1 h) h λx131 h =>
 vguard x128 true (λkk=>kk x1 h) h λx132 h =>
 vguard x128 true (λkk=>vbin .add 0 x132 (kI 2) h kk) h λx133 h =>
 vguard x128 true (λkk=>vop O (.slice 0 true (.k x130) (some (.k x131)) (some (.k x133)) none) h 134 kk) h λx134 h =>
 vguard x128 true (λkk=>vbin .eql 0 x134 (kS [45,62]) h kk) h λx135 h =>
 vguard x128 true (λkk=>kk x135 h) h λx136 h =>
 vguard x136 false (λkk=>kk x0 h) h λx137 h =>
 vguard x136 false (λkk=>kk x1 h) h λx138 h =>
 vguard x136 false (λkk=>kk x1 h) h λx139 h =>
 vguard x136 false (λkk=>vbin .add 0 x139 (kI 2) h kk) h λx140 h =>
 vguard x136 false (λkk=>vop O (.slice 0 true (.k x137) (some (.k x138)) (some (.k x140)) none) h 141 kk) h λx141 h =>
 vguard x136 false (λkk=>vbin .eql 0 x141 (kS [58,61]) h kk) h λx142 h =>
 vguard x128 true (λkk=>vop O (.pick (.k x136) (.k (kB true)) (.k x142)) h 143 kk) h λx143 h =>
 vop O (.pick (.k x128) (.k x143) (.k (kB false))) h 144 λx144 h =>
 vif x144 (
 vbin .add 0 x1 (kI 2) h λx148 h =>
 vop O (.slice 0 true (.k x0) (some (.k x1)) (some (.k x148)) none) h 149 λx149 h =>
 vop O (.build [(.p (.int .i64 0)),(.p (.str [])),(.p (.int .i64 0)),(.p (.int .i64 0))] [(0,1,(.k (kI 4))),(1,1,(.k x149)),(3,1,(.k x1))]) h 151 λx151 h =>
 vbin .add 0 x1 (kI 2) h λx153 h =>
 vstore 4 x4 x151 h λ_ h =>
 vcell true 4 x4 h λc0=>tcomp x153 λc1=>tcomp (kI 0) λc2=>vfin true q [c0,c1,c2] h)
 (R 6 [x0,x1,x4,(kS [123,125,60,62,44,58,40,41,46,36,124,61,59]),(kI 0)] h)
theorem e117_5(O R q x0 x1 x4 h):b117_5 O R q x0 x1 x4 h=stepF c117 O R q 5 [x0,x1,x4] h:=by kernel_rfl
def b117_6(O:Oracle)(R:Jump)(q:Nat)(x0 x1 x4 x12 x13:TVal)(h:Heap):Res1 :=
 vlen O 0 x12 h 156 λx156 h =>
 vbin .lss 0 x13 x156 h λx157 h =>
 vif x157 (
 vindex x12 x13 h λx162 h =>
 vindex x0 x1 h λx165 h =>
 vbin .eql 0 x162 x165 h λx166 h =>
 vif x166 (
 vbin .add 0 x1 (kI 1) h λx170 h =>
 vop O (.slice 0 true (.k x0) (some (.k x1)) (some (.k x170)) none) h 171 λx171 h =>
 vop O (.build [(.p (.int .i64 0)),(.p (.str [])),(.p (.int .i64 0)),(.p (.int .i64 0))] [(0,1,(.k (kI 4))),(1,1,(.k x171)),(3,1,(.k x1))]) h 173 λx173 h =>
 vbin .add 0 x1 (kI 1) h λx175 h =>
 vstore 4 x4 x173 h λ_ h =>
 vcell true 4 x4 h λc0=>tcomp x175 λc1=>tcomp (kI 0) λc2=>vfin true q [c0,c1,c2] h)
 (vbin .add 0 x13 (kI 1) h λx159 h =>
 R 6 [x0,x1,x4,x12,x159] h))
 (R 7 [x4] h)
theorem e117_6(O R q x0 x1 x4 x12 x13 h):b117_6 O R q x0 x1 x4 x12 x13 h=stepF c117 O R q 6 [x0,x1,x4,x12,x13] h:=by kernel_rfl
def b117_7(O:Oracle)(R:Jump)(q:Nat)(x4:TVal)(h:Heap):Res1 :=
 vop O (.build [(.p (.int .i64 0)),(.p (.str [])),(.p (.int .i64 0)),(.p (.int .i64 0))] []) h 176 λx176 h =>
 vstore 4 x4 x176 h λ_ h =>
 vcell true 4 x4 h λc0=>tcomp (kI 0) λc1=>tcomp (kI 11) λc2=>vfin true q [c0,c1,c2] h
theorem e117_7(O R q x4 h):b117_7 O R q x4 h=stepF c117 O R q 7 [x4] h:=by kernel_rfl
def d117:BlkF:=λO R Q=>[.s λa => .s λb => .z (b117_0 O R Q a b),.s λa => .s λb => .s λc => .s λd => .z (b117_1 O R Q a b c d),.s λa => .s λb => .s λc => .s λd => .z (b117_2 O R Q a b c d),.s λa => .s λb => .s λc => .s λd => .z (b117_3 O R Q a b c d),.s λa => .s λb => .s λc => .s λd => .z (b117_4 O R Q a b c d),.s λa => .s λb => .s λc => .z (b117_5 O R Q a b c),.s λa => .s λb => .s λc => .s λd => .s λe => .z (b117_6 O R Q a b c d e),.s λa => .z (b117_7 O R Q a)]
theorem o117(O:Oracle)(R:Jump)(q:Nat):HoldsAll c117 O R q 0 (d117 O R q):=⟨e117_0 O R q,e117_1 O R q,e117_2 O R q,e117_3 O R q,e117_4 O R q,e117_5 O R q,e117_6 O R q,e117_7 O R q,trivial⟩
def c121:MFunc:=mkM (compF Tryz.prog (globs2 tabs opq) (λ_=>false) true Tryz.f121) (.s .n (.s .n (.s (.s .n (.k (.l 1 [0,3,4] (.s .n (.s (.k (.s .n (.m 2 [0,3,4] (.s .n (.k (.l 3 [0,3,4,5] (.s .n (.s (.k (.s .n (.m 4 [0,3,4,5] .n))) .n)))))))) (.m 5 [0,3,4] .n)))))) .n)))
def b121_0(O:Oracle)(R:Jump)(q:Nat)(x0:TVal)(h:Heap):Res1 :=
 R 1 [x0,(kS []),(kI 0)] h
theorem e121_0(O R q x0 h):b121_0 O R q x0 h=stepF c121 O R q 0 [x0] h:=by kernel_rfl
def b121_1(O:Oracle)(R:Jump)(q:Nat)(x0 x3 x4:TVal)(h:Heap):Res1 :=
 vlen O 2 x0 h 8 λx8 h =>
 vbin .lss 0 x4 x8 h λx9 h =>
 vif x9 (
 vbin .gtr 0 x4 (kI 0) h λx13 h =>
 vif x13 (
 vbin .add 0 x3 (kS [32,124,32]) h λx15 h =>
 R 2 [x0,x15,x4] h)
 (R 2 [x0,x3,x4] h))
 (tcomp x3 λc0=>vfin true q [c0] h)
theorem e121_1(O R q x0 x3 x4 h):b121_1 O R q x0 x3 x4 h=stepF c121 O R q 1 [x0,x3,x4] h:=by kernel_rfl
def b121_2(O:Oracle)(R:Jump)(q:Nat)(x0 x3 x4:TVal)(h:Heap):Res1 :=
 R 3 [x0,x3,x4,(kI 0)] h
theorem e121_2(O R q x0 x3 x4 h):b121_2 O R q x0 x3 x4 h=stepF c121 O R q 2 [x0,x3,x4] h:=by kernel_rfl
def b121_3(O:Oracle)(R:Jump)(q:Nat)(x0 x3 x4 x5:TVal)(h:Heap):Res1 :=
 viaddr 1 x0 x4 h λx19 h =>
 vfaddr 0 x19 h λx20 h =>
 vload false 1 x20 h λx21 h =>
 vlen O 2 x21 h 22 λx22 h =>
 vbin .lss 0 x5 x22 h λx23 h =>
 vif x23 (
 vbin .gtr 0 x5 (kI 0) h λx27 h =>
 vif x27 (
 vbin .add 0 x3 (kS [32]) h λx29 h =>
 R 4 [x0,x29,x4,x5] h)
 (R 4 [x0,x3,x4,x5] h))
 (R 5 [x0,x3,x4] h)
theorem e121_3(O R q x0 x3 x4 x5 h):b121_3 O R q x0 x3 x4 x5 h=stepF c121 O R q 3 [x0,x3,x4,x5] h:=by kernel_rfl
def b121_4(O:Oracle)(R:Jump)(q:Nat)(x0 x3 x4 x5:TVal)(h:Heap):Res1 :=
 viaddr 1 x0 x4 h λx33 h =>
 vfaddr 0 x33 h λx34 h =>
 vload false 1 x34 h λx35 h =>
 viaddr 7 x35 x5 h λx37 h =>
 vload true 7 x37 h λx38 h =>
 vcall O (.v (.c (.func 188 []))) [x38] h 39 λx39 h =>
 vbin .add 0 x3 x39 h λx40 h =>
 vbin .add 0 x5 (kI 1) h λx25 h =>
 R 3 [x0,x40,x4,x25] h
theorem e121_4(O R q x0 x3 x4 x5 h):b121_4 O R q x0 x3 x4 x5 h=stepF c121 O R q 4 [x0,x3,x4,x5] h:=by kernel_rfl
def b121_5(O:Oracle)(R:Jump)(q:Nat)(x0 x3 x4:TVal)(h:Heap):Res1 :=
 vbin .add 0 x4 (kI 1) h λx11 h =>
 R 1 [x0,x3,x11] h
theorem e121_5(O R q x0 x3 x4 h):b121_5 O R q x0 x3 x4 h=stepF c121 O R q 5 [x0,x3,x4] h:=by kernel_rfl
def d121:BlkF:=λO R Q=>[.s λa => .z (b121_0 O R Q a),.s λa => .s λb => .s λc => .z (b121_1 O R Q a b c),.s λa => .s λb => .s λc => .z (b121_2 O R Q a b c),.s λa => .s λb => .s λc => .s λd => .z (b121_3 O R Q a b c d),.s λa => .s λb => .s λc => .s λd => .z (b121_4 O R Q a b c d),.s λa => .s λb => .s λc => .z (b121_5 O R Q a b c)]
theorem o121(O:Oracle)(R:Jump)(q:Nat):HoldsAll c121 O R q 0 (d121 O R q):=⟨e121_0 O R q,e121_1 O R q,e121_2 O R q,e121_3 O R q,e121_4 O R q,e121_5 O R q,trivial⟩
def c122:MFunc:=mkM (compF Tryz.prog (globs2 tabs opq) (λ_=>false) true Tryz.f122) (.s .n (.s .n (.s (.s .n (.k (.l 1 [0,3,4] (.s .n (.s (.k (.s .n (.k (.s .n (.m 2 [0,3,4,13,21] .n))))) (.m 3 [0,3,4] .n)))))) (.m 4 [3] .n))))
def b122_0(O:Oracle)(R:Jump)(q:Nat)(x0:TVal)(h:Heap):Res1 :=
 R 1 [x0,(kS [34]),(kI 0)] h
theorem e122_0(O R q x0 h):b122_0 O R q x0 h=stepF c122 O R q 0 [x0] h:=by kernel_rfl
def b122_1(O:Oracle)(R:Jump)(q:Nat)(x0 x3 x4:TVal)(h:Heap):Res1 :=
 vlen O 0 x0 h 7 λx7 h =>
 vbin .lss 0 x4 x7 h λx8 h =>
 vif x8 (
 vindex x0 x4 h λx13 h =>
 vbin .eql 0 x13 (.v (.c (.p (.int .u8 92)))) h λx22 h =>
 vif x22 (
 R 2 [x0,x3,x4,x13,x22] h)
 (vbin .eql 0 x13 (.v (.c (.p (.int .u8 34)))) h λx23 h =>
 R 2 [x0,x3,x4,x13,x23] h))
 (R 4 [x3] h)
theorem e122_1(O R q x0 x3 x4 h):b122_1 O R q x0 x3 x4 h=stepF c122 O R q 1 [x0,x3,x4] h:=by kernel_rfl
def b122_2(O:Oracle)(R:Jump)(q:Nat)(x0 x3 x4 x13 x21:TVal)(h:Heap):Res1 :=
 vif x21 (
 vbin .add 0 x3 (kS [92]) h λx25 h =>
 vbin .add 0 x4 (kI 1) h λx29 h =>
 vop O (.slice 0 true (.k x0) (some (.k x4)) (some (.k x29)) none) h 30 λx30 h =>
 vbin .add 0 x25 x30 h λx31 h =>
 R 3 [x0,x31,x4] h)
 (vbin .eql 0 x13 (.v (.c (.p (.int .u8 10)))) h λx33 h =>
 vif x33 (
 vbin .add 0 x3 (kS [92,110]) h λx35 h =>
 R 3 [x0,x35,x4] h)
 (vbin .eql 0 x13 (.v (.c (.p (.int .u8 9)))) h λx37 h =>
 vif x37 (
 vbin .add 0 x3 (kS [92,116]) h λx39 h =>
 R 3 [x0,x39,x4] h)
 (vbin .add 0 x4 (kI 1) h λx18 h =>
 vop O (.slice 0 true (.k x0) (some (.k x4)) (some (.k x18)) none) h 19 λx19 h =>
 vbin .add 0 x3 x19 h λx20 h =>
 R 3 [x0,x20,x4] h)))
theorem e122_2(O R q x0 x3 x4 x13 x21 h):b122_2 O R q x0 x3 x4 x13 x21 h=stepF c122 O R q 2 [x0,x3,x4,x13,x21] h:=by kernel_rfl
def b122_3(O:Oracle)(R:Jump)(q:Nat)(x0 x3 x4:TVal)(h:Heap):Res1 :=
 vbin .add 0 x4 (kI 1) h λx10 h =>
 R 1 [x0,x3,x10] h
theorem e122_3(O R q x0 x3 x4 h):b122_3 O R q x0 x3 x4 h=stepF c122 O R q 3 [x0,x3,x4] h:=by kernel_rfl
def b122_4(O:Oracle)(R:Jump)(q:Nat)(x3:TVal)(h:Heap):Res1 :=
 vbin .add 0 x3 (kS [34]) h λx41 h =>
 tcomp x41 λc0=>vfin true q [c0] h
theorem e122_4(O R q x3 h):b122_4 O R q x3 h=stepF c122 O R q 4 [x3] h:=by kernel_rfl
def d122:BlkF:=λO R Q=>[.s λa => .z (b122_0 O R Q a),.s λa => .s λb => .s λc => .z (b122_1 O R Q a b c),.s λa => .s λb => .s λc => .s λd => .s λe => .z (b122_2 O R Q a b c d e),.s λa => .s λb => .s λc => .z (b122_3 O R Q a b c),.s λa => .z (b122_4 O R Q a)]
theorem o122(O:Oracle)(R:Jump)(q:Nat):HoldsAll c122 O R q 0 (d122 O R q):=⟨e122_0 O R q,e122_1 O R q,e122_2 O R q,e122_3 O R q,e122_4 O R q,trivial⟩
def c123:MFunc:=mkM (compF Tryz.prog (globs2 tabs opq) (λ_=>false) true Tryz.f123) (.s .n (.s .n (.s (.k (.l 1 [0,1,5,6] (.s .n (.k (.s .n (.s .n (.m 2 [0,1,5,6] .n))))))) .n)))
def b123_0(O:Oracle)(R:Jump)(q:Nat)(x0 x1:TVal)(h:Heap):Res1 :=
 R 1 [x0,x1,(kB false),(kI 0)] h
theorem e123_0(O R q x0 x1 h):b123_0 O R q x0 x1 h=stepF c123 O R q 0 [x0,x1] h:=by kernel_rfl
def b123_1(O:Oracle)(R:Jump)(q:Nat)(x0 x1 x5 x6:TVal)(h:Heap):Res1 :=
 vlen O 0 x0 h 10 λx10 h =>
 vbin .lss 0 x1 x10 h λx11 h =>
 vif x11 (
 vindex x0 x1 h λx14 h =>
 vop O (.un .not (.k x5)) h 24 λx24 h =>
 vguard x24 true (λkk=>kk x14 h) h λx26 h =>
 vguard x24 true (λkk=>vbin .eql 0 x26 (.v (.c (.p (.int .u8 125)))) h kk) h λx27 h =>
 vop O (.pick (.k x24) (.k x27) (.k (kB false))) h 28 λx28 h =>
 vguard x28 true (λkk=>kk x1 h) h λx30 h =>
 vguard x28 true (λkk=>vbin .add 0 x30 (kI 1) h kk) h λx31 h =>
 vguard x28 true (λkk=>kk x0 h) h λx32 h =>
 vguard x28 true (λkk=>vlen O 0 x32 h 33 kk) h λx33 h =>
 vguard x28 true (λkk=>vbin .lss 0 x31 x33 h kk) h λx34 h =>
 vop O (.pick (.k x28) (.k x34) (.k (kB false))) h 35 λx35 h =>
 vguard x35 true (λkk=>kk x0 h) h λx37 h =>
 vguard x35 true (λkk=>kk x1 h) h λx38 h =>
 vguard x35 true (λkk=>vbin .add 0 x38 (kI 1) h kk) h λx39 h =>
 vguard x35 true (λkk=>vindex x37 x39 h kk) h λx40 h =>
 vguard x35 true (λkk=>vbin .eql 0 x40 (.v (.c (.p (.int .u8 125)))) h kk) h λx41 h =>
 vop O (.pick (.k x35) (.k x41) (.k (kB false))) h 42 λx42 h =>
 vif x42 (
 tcomp x1 λc0=>vfin true q [c0] h)
 (vop O (.un .not (.k x5)) h 46 λx46 h =>
 vif x46 (
 vbin .eql 0 x14 (.v (.c (.p (.int .u8 34)))) h λx48 h =>
 R 2 [x0,x1,x48,(kI 0)] h)
 (vbin .eql 0 x14 (.v (.c (.p (.int .u8 92)))) h λx51 h =>
 vif x51 (
 vbin .add 0 x6 (kI 1) h λx53 h =>
 R 2 [x0,x1,x5,x53] h)
 (vbin .neq 0 x14 (.v (.c (.p (.int .u8 34)))) h λx16 h =>
 vguard x16 false (λkk=>kk x6 h) h λx18 h =>
 vguard x16 false (λkk=>vbin .rem 0 x18 (kI 2) h kk) h λx19 h =>
 vguard x16 false (λkk=>vbin .eql 0 x19 (kI 1) h kk) h λx20 h =>
 vop O (.pick (.k x16) (.k (kB true)) (.k x20)) h 21 λx21 h =>
 R 2 [x0,x1,x21,(kI 0)] h))))
 (tcomp (kI (-1)) λc0=>vfin true q [c0] h)
theorem e123_1(O R q x0 x1 x5 x6 h):b123_1 O R q x0 x1 x5 x6 h=stepF c123 O R q 1 [x0,x1,x5,x6] h:=by kernel_rfl
def b123_2(O:Oracle)(R:Jump)(q:Nat)(x0 x1 x5 x6:TVal)(h:Heap):Res1 :=
 vbin .add 0 x1 (kI 1) h λx55 h =>
 R 1 [x0,x55,x5,x6] h
theorem e123_2(O R q x0 x1 x5 x6 h):b123_2 O R q x0 x1 x5 x6 h=stepF c123 O R q 2 [x0,x1,x5,x6] h:=by kernel_rfl
def d123:BlkF:=λO R Q=>[.s λa => .s λb => .z (b123_0 O R Q a b),.s λa => .s λb => .s λc => .s λd => .z (b123_1 O R Q a b c d),.s λa => .s λb => .s λc => .s λd => .z (b123_2 O R Q a b c d)]
theorem o123(O:Oracle)(R:Jump)(q:Nat):HoldsAll c123 O R q 0 (d123 O R q):=⟨e123_0 O R q,e123_1 O R q,e123_2 O R q,trivial⟩
def c124:MFunc:=mkM (compF Tryz.prog (globs2 tabs opq) (λ_=>false) true Tryz.f124) .n
def b124_0(O:Oracle)(R:Jump)(q:Nat)(x0 x1:TVal)(h:Heap):Res1 :=
 vop O (.nilck (.k x0)) h 6 λx6 h =>
 vfaddr 2 x6 h λx7 h =>
 vload false 1 x7 h λx8 h =>
 vbin .eql 0 x8 (kI 0) h λx9 h =>
 vguard x9 true (λkk=>kk x0 h) h λx11 h =>
 vguard x9 true (λkk=>vop O (.nilck (.k x11)) h 12 kk) h λx12 h =>
 vguard x9 true (λkk=>vfaddr 1 x12 h kk) h λx13 h =>
 vguard x9 true (λkk=>vload false 1 x13 h kk) h λx14 h =>
 vguard x9 true (λkk=>kk x0 h) h λx15 h =>
 vguard x9 true (λkk=>vop O (.nilck (.k x15)) h 16 kk) h λx16 h =>
 vguard x9 true (λkk=>vfaddr 0 x16 h kk) h λx17 h =>
 vguard x9 true (λkk=>vload false 1 x17 h kk) h λx18 h =>
 vguard x9 true (λkk=>vlen O 2 x18 h 19 kk) h λx19 h =>
 vguard x9 true (λkk=>vbin .lss 0 x14 x19 h kk) h λx20 h =>
 vop O (.pick (.k x9) (.k x20) (.k (kB false))) h 21 λx21 h =>
 vguard x21 true (λkk=>kk x0 h) h λx23 h =>
 vguard x21 true (λkk=>vop O (.nilck (.k x23)) h 24 kk) h λx24 h =>
 vguard x21 true (λkk=>vfaddr 0 x24 h kk) h λx25 h =>
 vguard x21 true (λkk=>vload false 1 x25 h kk) h λx26 h =>
 vguard x21 true (λkk=>kk x0 h) h λx27 h =>
 vguard x21 true (λkk=>vop O (.nilck (.k x27)) h 28 kk) h λx28 h =>
 vguard x21 true (λkk=>vfaddr 1 x28 h kk) h λx29 h =>
 vguard x21 true (λkk=>vload false 1 x29 h kk) h λx30 h =>
 vguard x21 true (λkk=>viaddr 4 x26 x30 h kk) h λx31 h =>
 vguard x21 true (λkk=>vfaddr 0 x31 h kk) h λx32 h =>
 vguard x21 true (λkk=>vload false 1 x32 h kk) h λx33 h =>
 vguard x21 true (λkk=>kk x1 h) h λx34 h =>
 vguard x21 true (λkk=>vbin .eql 0 x33 x34 h kk) h λx35 h =>
 vop O (.pick (.k x21) (.k x35) (.k (kB false))) h 36 λx36 h =>
 tcomp x36 λc0=>vfin true q [c0] h
theorem e124_0(O R q x0 x1 h):b124_0 O R q x0 x1 h=stepF c124 O R q 0 [x0,x1] h:=by kernel_rfl
def d124:BlkF:=λO R Q=>[.s λa => .s λb => .z (b124_0 O R Q a b)]
theorem o124(O:Oracle)(R:Jump)(q:Nat):HoldsAll c124 O R q 0 (d124 O R q):=⟨e124_0 O R q,trivial⟩
def c125:MFunc:=mkM (compF Tryz.prog (globs2 tabs opq) (λ_=>false) true Tryz.f125) (.s .n (.s (.s .n (.k (.s .n (.m 1 [4] .n)))) .n))
def b125_0(O:Oracle)(R:Jump)(q:Nat)(x0:TVal)(h:Heap):Res1 :=
 vbin .eql 0 x0 (kS [105,102]) h λx5 h =>
 vif x5 (
 R 1 [x5] h)
 (vbin .eql 0 x0 (kS [119,105,116,104]) h λx6 h =>
 vif x6 (
 R 1 [x6] h)
 (vbin .eql 0 x0 (kS [114,97,110,103,101]) h λx7 h =>
 vif x7 (
 R 1 [x7] h)
 (vbin .eql 0 x0 (kS [109,97,116,99,104]) h λx8 h =>
 vif x8 (
 R 1 [x8] h)
 (vbin .eql 0 x0 (kS [101,108,115,101]) h λx9 h =>
 vif x9 (
 R 1 [x9] h)
 (vbin .eql 0 x0 (kS [101,110,100]) h λx10 h =>
 vif x10 (
 R 1 [x10] h)
 (vbin .eql 0 x0 (kS [99,97,115,101]) h λx11 h =>
 vif x11 (
 R 1 [x11] h)
 (vbin .eql 0 x0 (kS [116,101,109,112,108,97,116,101]) h λx12 h =>
 vif x12 (
 R 1 [x12] h)
 (vbin .eql 0 x0 (kS [100,101,102,105,110,101]) h λx13 h =>
 vif x13 (
 R 1 [x13] h)
 (vbin .eql 0 x0 (kS [116,114,117,101]) h λx14 h =>
 vif x14 (
 R 1 [x14] h)
 (vbin .eql 0 x0 (kS [102,97,108,115,101]) h λx15 h =>
 R 1 [x15] h))))))))))
theorem e125_0(O R q x0 h):b125_0 O R q x0 h=stepF c125 O R q 0 [x0] h:=by kernel_rfl
def b125_1(O:Oracle)(R:Jump)(q:Nat)(x4:TVal)(h:Heap):Res1 :=
 vif x4 (
 tcomp (kB true) λc0=>vfin true q [c0] h)
 (tcomp (kB false) λc0=>vfin true q [c0] h)
theorem e125_1(O R q x4 h):b125_1 O R q x4 h=stepF c125 O R q 1 [x4] h:=by kernel_rfl
def d125:BlkF:=λO R Q=>[.s λa => .z (b125_0 O R Q a),.s λa => .z (b125_1 O R Q a)]
theorem o125(O:Oracle)(R:Jump)(q:Nat):HoldsAll c125 O R q 0 (d125 O R q):=⟨e125_0 O R q,e125_1 O R q,trivial⟩
def c126:MFunc:=mkM (compF Tryz.prog (globs2 tabs opq) (λ_=>false) true Tryz.f126) .n
def b126_0(O:Oracle)(R:Jump)(q:Nat)(x0:TVal)(h:Heap):Res1 :=
 vbin .eql 0 x0 (kS [105,102]) h λx5 h =>
 vif x5 (
 tcomp (kI 5) λc0=>vfin true q [c0] h)
 (vbin .eql 0 x0 (kS [119,105,116,104]) h λx7 h =>
 vif x7 (
 tcomp (kI 6) λc0=>vfin true q [c0] h)
 (vbin .eql 0 x0 (kS [114,97,110,103,101]) h λx9 h =>
 vif x9 (
 tcomp (kI 7) λc0=>vfin true q [c0] h)
 (tcomp (kI 8) λc0=>vfin true q [c0] h)))
theorem e126_0(O R q x0 h):b126_0 O R q x0 h=stepF c126 O R q 0 [x0] h:=by kernel_rfl
def d126:BlkF:=λO R Q=>[.s λa => .z (b126_0 O R Q a)]
theorem o126(O:Oracle)(R:Jump)(q:Nat):HoldsAll c126 O R q 0 (d126 O R q):=⟨e126_0 O R q,trivial⟩
def c127:MFunc:=mkM (compF Tryz.prog (globs2 tabs opq) (λ_=>false) true Tryz.f127) (.s .n (.s .n (.s (.k (.l 1 [0,1,5] .n)) .n)))
def b127_0(O:Oracle)(R:Jump)(q:Nat)(x0 x1:TVal)(h:Heap):Res1 :=
 vcall O (.v (.c (.func 189 []))) [x0,x1] h 8 λx8 h =>
 vop O (.bslice 1 1 [(.p .nilslice)] [(0,(.k x8))] false) h 9 λx9 h =>
 R 1 [x0,x1,x9] h
theorem e127_0(O R q x0 x1 h):b127_0 O R q x0 x1 h=stepF c127 O R q 0 [x0,x1] h:=by kernel_rfl
def b127_1(O:Oracle)(R:Jump)(q:Nat)(x0 x1 x5:TVal)(h:Heap):Res1 :=
 vcall O (.v (.c (.func 129 []))) [x0,(kS [124])] h 11 λx11 h =>
 vif x11 (
 vop O (.nilck (.k x0)) h 13 λx13 h =>
 vfaddr 1 x13 h λx14 h =>
 vload false 1 x14 h λx15 h =>
 vbin .add 0 x15 (kI 1) h λx16 h =>
 vop O (.nilck (.k x0)) h 17 λx17 h =>
 vfaddr 1 x17 h λx18 h =>
 vstore 1 x18 x16 h λ_ h =>
 vcall O (.v (.c (.func 189 []))) [x0,x1] h 22 λx22 h =>
 vop O (.bslice 1 1 [(.p .nilslice)] [(0,(.k x22))] false) h 23 λx23 h =>
 vop O (.append 1 24 false (.k x5) (.k x23)) h 24 λx24 h =>
 R 1 [x0,x1,x24] h)
 (tcomp x5 λc0=>vfin true q [c0] h)
theorem e127_1(O R q x0 x1 x5 h):b127_1 O R q x0 x1 x5 h=stepF c127 O R q 1 [x0,x1,x5] h:=by kernel_rfl
def d127:BlkF:=λO R Q=>[.s λa => .s λb => .z (b127_0 O R Q a b),.s λa => .s λb => .s λc => .z (b127_1 O R Q a b c)]
theorem o127(O:Oracle)(R:Jump)(q:Nat):HoldsAll c127 O R q 0 (d127 O R q):=⟨e127_0 O R q,e127_1 O R q,trivial⟩
def c128:MFunc:=mkM (compF Tryz.prog (globs2 tabs opq) (λ_=>false) true Tryz.f128) .n
def b128_0(O:Oracle)(R:Jump)(q:Nat)(x0 x1:TVal)(h:Heap):Res1 :=
 vop O (.alloc [(.p (.int .i64 0)),(.p (.str [])),(.p (.int .i64 0)),(.p (.int .i64 0))] false) h 4 λx4 h =>
 vcall O (.v (.c (.func 124 []))) [x0,x1] h 7 λx7 h =>
 vop O (.un .not (.k x7)) h 8 λx8 h =>
 vif x8 (
 vcall O (.v (.c (.func 190 []))) [x0,(kI 12)] h 10 λx10 h =>
 vop O (.build [(.p (.int .i64 0)),(.p (.str [])),(.p (.int .i64 0)),(.p (.int .i64 0))] []) h 11 λx11 h =>
 vstore 4 x4 x11 h λ_ h =>
 vcell true 4 x4 h λc0=>vfin true q [c0] h)
 (vop O (.nilck (.k x0)) h 13 λx13 h =>
 vfaddr 1 x13 h λx14 h =>
 vload false 1 x14 h λx15 h =>
 vbin .add 0 x15 (kI 1) h λx16 h =>
 vop O (.nilck (.k x0)) h 17 λx17 h =>
 vfaddr 1 x17 h λx18 h =>
 vstore 1 x18 x16 h λ_ h =>
 vop O (.nilck (.k x0)) h 20 λx20 h =>
 vfaddr 0 x20 h λx21 h =>
 vload false 1 x21 h λx22 h =>
 vop O (.nilck (.k x0)) h 24 λx24 h =>
 vfaddr 1 x24 h λx25 h =>
 vload false 1 x25 h λx26 h =>
 vbin .sub 0 x26 (kI 1) h λx27 h =>
 viaddr 4 x22 x27 h λx28 h =>
 vload true 4 x28 h λx29 h =>
 vstore 4 x4 x29 h λ_ h =>
 vcell true 4 x4 h λc0=>vfin true q [c0] h)
theorem e128_0(O R q x0 x1 h):b128_0 O R q x0 x1 h=stepF c128 O R q 0 [x0,x1] h:=by kernel_rfl
def d128:BlkF:=λO R Q=>[.s λa => .s λb => .z (b128_0 O R Q a b)]
theorem o128(O:Oracle)(R:Jump)(q:Nat):HoldsAll c128 O R q 0 (d128 O R q):=⟨e128_0 O R q,trivial⟩
def c129:MFunc:=mkM (compF Tryz.prog (globs2 tabs opq) (λ_=>false) true Tryz.f129) .n
def b129_0(O:Oracle)(R:Jump)(q:Nat)(x0 x1:TVal)(h:Heap):Res1 :=
 vop O (.nilck (.k x0)) h 6 λx6 h =>
 vfaddr 2 x6 h λx7 h =>
 vload false 1 x7 h λx8 h =>
 vbin .eql 0 x8 (kI 0) h λx9 h =>
 vguard x9 true (λkk=>kk x0 h) h λx11 h =>
 vguard x9 true (λkk=>vop O (.nilck (.k x11)) h 12 kk) h λx12 h =>
 vguard x9 true (λkk=>vfaddr 1 x12 h kk) h λx13 h =>
 vguard x9 true (λkk=>vload false 1 x13 h kk) h λx14 h =>
 vguard x9 true (λkk=>kk x0 h) h λx15 h =>
 vguard x9 true (λkk=>vop O (.nilck (.k x15)) h 16 kk) h λx16 h =>
 vguard x9 true (λkk=>vfaddr 0 x16 h kk) h λx17 h =>
 vguard x9 true (λkk=>vload false 1 x17 h kk) h λx18 h =>
 vguard x9 true (λkk=>vlen O 2 x18 h 19 kk) h λx19 h =>
 vguard x9 true (λkk=>vbin .lss 0 x14 x19 h kk) h λx20 h =>
 vop O (.pick (.k x9) (.k x20) (.k (kB false))) h 21 λx21 h =>
 vguard x21 true (λkk=>kk x0 h) h λx23 h =>
 vguard x21 true (λkk=>vop O (.nilck (.k x23)) h 24 kk) h λx24 h =>
 vguard x21 true (λkk=>vfaddr 0 x24 h kk) h λx25 h =>
 vguard x21 true (λkk=>vload false 1 x25 h kk) h λx26 h =>
 vguard x21 true (λkk=>kk x0 h) h λx27 h =>
 vguard x21 true (λkk=>vop O (.nilck (.k x27)) h 28 kk) h λx28 h =>
 vguard x21 true (λkk=>vfaddr 1 x28 h kk) h λx29 h =>
 vguard x21 true (λkk=>vload false 1 x29 h kk) h λx30 h =>
 vguard x21 true (λkk=>viaddr 4 x26 x30 h kk) h λx31 h =>
 vguard x21 true (λkk=>vfaddr 0 x31 h kk) h λx32 h =>
 vguard x21 true (λkk=>vload false 1 x32 h kk) h λx33 h =>
 vguard x21 true (λkk=>vbin .eql 0 x33 (kI 4) h kk) h λx34 h =>
 vop O (.pick (.k x21) (.k x34) (.k (kB false))) h 35 λx35 h =>
 vguard x35 true (λkk=>kk x0 h) h λx37 h =>
 vguard x35 true (λkk=>vop O (.nilck (.k x37)) h 38 kk) h λx38 h =>
 vguard x35 true (λkk=>vfaddr 0 x38 h kk) h λx39 h =>
 vguard x35 true (λkk=>vload false 1 x39 h kk) h λx40 h =>
 vguard x35 true (λkk=>kk x0 h) h λx41 h =>
 vguard x35 true (λkk=>vop O (.nilck (.k x41)) h 42 kk) h λx42 h =>
 vguard x35 true (λkk=>vfaddr 1 x42 h kk) h λx43 h =>
 vguard x35 true (λkk=>vload false 1 x43 h kk) h λx44 h =>
 vguard x35 true (λkk=>viaddr 4 x40 x44 h kk) h λx45 h =>
 vguard x35 true (λkk=>vfaddr 1 x45 h kk) h λx46 h =>
 vguard x35 true (λkk=>vload false 1 x46 h kk) h λx47 h =>
 vguard x35 true (λkk=>kk x1 h) h λx48 h =>
 vguard x35 true (λkk=>vbin .eql 0 x47 x48 h kk) h λx49 h =>
 vop O (.pick (.k x35) (.k x49) (.k (kB false))) h 50 λx50 h =>
 tcomp x50 λc0=>vfin true q [c0] h
theorem e129_0(O R q x0 x1 h):b129_0 O R q x0 x1 h=stepF c129 O R q 0 [x0,x1] h:=by kernel_rfl
def d129:BlkF:=λO R Q=>[.s λa => .s λb => .z (b129_0 O R Q a b)]
theorem o129(O:Oracle)(R:Jump)(q:Nat):HoldsAll c129 O R q 0 (d129 O R q):=⟨e129_0 O R q,trivial⟩
def c130:MFunc:=mkM (compF Tryz.prog (globs2 tabs opq) (λ_=>false) true Tryz.f130) (.s .n (.s .n (.m 1 [0] .n)))
def b130_0(O:Oracle)(R:Jump)(q:Nat)(x0:TVal)(h:Heap):Res1 :=
 vop O (.nilck (.k x0)) h 4 λx4 h =>
 vfaddr 1 x4 h λx5 h =>
 vload false 1 x5 h λx6 h =>
 vop O (.nilck (.k x0)) h 8 λx8 h =>
 vfaddr 0 x8 h λx9 h =>
 vload false 1 x9 h λx10 h =>
 vlen O 2 x10 h 11 λx11 h =>
 vbin .lss 0 x6 x11 h λx12 h =>
 vif x12 (
 vcall O (.v (.c (.func 190 []))) [x0,(kI 12)] h 14 λx14 h =>
 R 1 [x0] h)
 (R 1 [x0] h)
theorem e130_0(O R q x0 h):b130_0 O R q x0 h=stepF c130 O R q 0 [x0] h:=by kernel_rfl
def b130_1(O:Oracle)(R:Jump)(q:Nat)(x0:TVal)(h:Heap):Res1 :=
 vop O (.nilck (.k x0)) h 16 λx16 h =>
 vfaddr 2 x16 h λx17 h =>
 vload false 1 x17 h λx18 h =>
 tcomp x18 λc0=>vfin true q [c0] h
theorem e130_1(O R q x0 h):b130_1 O R q x0 h=stepF c130 O R q 1 [x0] h:=by kernel_rfl
def d130:BlkF:=λO R Q=>[.s λa => .z (b130_0 O R Q a),.s λa => .z (b130_1 O R Q a)]
theorem o130(O:Oracle)(R:Jump)(q:Nat):HoldsAll c130 O R q 0 (d130 O R q):=⟨e130_0 O R q,e130_1 O R q,trivial⟩
def c131:MFunc:=mkM (compF Tryz.prog (globs2 tabs opq) (λn=>Nat.blt n 1000000||Nat.ble 3000000 n) true Tryz.f131) (.s .n (.s (.s .n (.k (.s .n (.s .n (.s .n (.m 1 [0,1,5,7,14] (.s .n (.s .n (.m 2 [0,1,5,7,22] .n))))))))) (.m 3 [0,5] .n)))
def b131_0(O:Oracle)(R:Jump)(q:Nat)(x0 x1 x2:TVal)(h:Heap):Res1 :=
 vop O (.box (.k x2) true) h 5 λx5 h =>
 vbin .eql 0 x1 (kS [109,97,116,99,104]) h λx9 h =>
 vif x9 (
 vload true 9 x5 h λx12 h =>
 vcall O (.v (.c (.func 191 []))) [x0,x1,x12,(kI 3),(kS [])] h 13 λx13 h =>
 tcomp x13 λc0=>vfin true q [c0] h)
 (vbin .eql 0 x1 (kS [105,102]) h λx15 h =>
 vif x15 (
 R 1 [x0,x1,x5,x1,x15] h)
 (vbin .eql 0 x1 (kS [119,105,116,104]) h λx16 h =>
 vif x16 (
 R 1 [x0,x1,x5,x1,x16] h)
 (vbin .eql 0 x1 (kS [114,97,110,103,101]) h λx17 h =>
 R 1 [x0,x1,x5,x1,x17] h)))
theorem e131_0(O R q x0 x1 x2 h):b131_0 O R q x0 x1 x2 h=stepF c131 O R q 0 [x0,x1,x2] h:=by kernel_rfl
def b131_1(O:Oracle)(R:Jump)(q:Nat)(x0 x1 x5 x7 x14:TVal)(h:Heap):Res1 :=
 vif x14 (
 vload true 9 x5 h λx20 h =>
 vcall O (.v (.c (.func 191 []))) [x0,x1,x20,(kI 0),(kS [])] h 21 λx21 h =>
 tcomp x21 λc0=>vfin true q [c0] h)
 (vbin .eql 0 x7 (kS [101,108,115,101]) h λx23 h =>
 vif x23 (
 R 2 [x0,x1,x5,x7,x23] h)
 (vbin .eql 0 x7 (kS [99,97,115,101]) h λx24 h =>
 R 2 [x0,x1,x5,x7,x24] h))
theorem e131_1(O R q x0 x1 x5 x7 x14 h):b131_1 O R q x0 x1 x5 x7 x14 h=stepF c131 O R q 1 [x0,x1,x5,x7,x14] h:=by kernel_rfl
def b131_2(O:Oracle)(R:Jump)(q:Nat)(x0 x1 x5 x7 x22:TVal)(h:Heap):Res1 :=
 vif x22 (
 vfaddr 3 x5 h λx27 h =>
 vload false 1 x27 h λx28 h =>
 vcall O (.v (.c (.func 192 []))) [x0,x1,x28] h 29 λx29 h =>
 tcomp x29 λc0=>vfin true q [c0] h)
 (vbin .eql 0 x7 (kS [101,110,100]) h λx31 h =>
 vif x31 (
 vcall O (.v (.c (.func 193 []))) [x0] h 33 λx33 h =>
 tcomp x33 λc0=>vfin true q [c0] h)
 (vbin .eql 0 x7 (kS [100,101,102,105,110,101]) h λx35 h =>
 vif x35 (
 vfaddr 3 x5 h λx37 h =>
 vload false 1 x37 h λx38 h =>
 vcall O (.v (.c (.func 194 []))) [x0,x38] h 39 λx39 h =>
 tcomp x39 λc0=>vfin true q [c0] h)
 (vbin .eql 0 x7 (kS [116,101,109,112,108,97,116,101]) h λx41 h =>
 vif x41 (
 vop O (.nilck (.k x0)) h 43 λx43 h =>
 vfaddr 0 x43 h λx44 h =>
 vload false 1 x44 h λx45 h =>
 vlen O 2 x45 h 46 λx46 h =>
 vbin .gtr 0 x46 (kI 0) h λx47 h =>
 vguard x47 true (λkk=>kk x0 h) h λx49 h =>
 vguard x47 true (λkk=>vop O (.nilck (.k x49)) h 50 kk) h λx50 h =>
 vguard x47 true (λkk=>vfaddr 0 x50 h kk) h λx51 h =>
 vguard x47 true (λkk=>vload false 1 x51 h kk) h λx52 h =>
 vguard x47 true (λkk=>kk x0 h) h λx53 h =>
 vguard x47 true (λkk=>vop O (.nilck (.k x53)) h 54 kk) h λx54 h =>
 vguard x47 true (λkk=>vfaddr 0 x54 h kk) h λx55 h =>
 vguard x47 true (λkk=>vload false 1 x55 h kk) h λx56 h =>
 vguard x47 true (λkk=>vlen O 2 x56 h 57 kk) h λx57 h =>
 vguard x47 true (λkk=>vbin .sub 0 x57 (kI 1) h kk) h λx58 h =>
 vguard x47 true (λkk=>viaddr 12 x52 x58 h kk) h λx59 h =>
 vguard x47 true (λkk=>vfaddr 10 x59 h kk) h λx60 h =>
 vguard x47 true (λkk=>vload false 1 x60 h kk) h λx61 h =>
 vguard x47 true (λkk=>vbin .eql 0 x61 (kI 3) h kk) h λx62 h =>
 vop O (.pick (.k x47) (.k x62) (.k (kB false))) h 63 λx63 h =>
 vif x63 (
 tcomp (kI 12) λc0=>vfin true q [c0] h)
 (vfaddr 3 x5 h λx64 h =>
 vload false 1 x64 h λx65 h =>
 vcall O (.v (.c (.func 195 []))) [x65] h 66 λx66 h =>
 vop O (.un .not (.k x66)) h 67 λx67 h =>
 vif x67 (
 tcomp (kI 15) λc0=>vfin true q [c0] h)
 (R 3 [x0,x5] h)))
 (R 3 [x0,x5] h))))
theorem e131_2(O R q x0 x1 x5 x7 x22 h):b131_2 O R q x0 x1 x5 x7 x22 h=stepF c131 O R q 2 [x0,x1,x5,x7,x22] h:=by kernel_rfl
def b131_3(O:Oracle)(R:Jump)(q:Nat)(x0 x5:TVal)(h:Heap):Res1 :=
 vload true 9 x5 h λx69 h =>
 vcall O (.v (.c (.func 132 []))) [x0,x69] h 70 λx70 h =>
 vop O (.un .not (.k x70)) h 71 λx71 h =>
 vif x71 (
 tcomp (kI 12) λc0=>vfin true q [c0] h)
 (tcomp (kI 0) λc0=>vfin true q [c0] h)
theorem e131_3(O R q x0 x5 h):b131_3 O R q x0 x5 h=stepF c131 O R q 3 [x0,x5] h:=by kernel_rfl
def d131:BlkF:=λO R Q=>[.s λa => .s λb => .s λc => .z (b131_0 O R Q a b c),.s λa => .s λb => .s λc => .s λd => .s λe => .z (b131_1 O R Q a b c d e),.s λa => .s λb => .s λc => .s λd => .s λe => .z (b131_2 O R Q a b c d e),.s λa => .s λb => .z (b131_3 O R Q a b)]
theorem o131(O:Oracle)(R:Jump)(q:Nat):HoldsAll c131 O R q 0 (d131 O R q):=⟨e131_0 O R q,e131_1 O R q,e131_2 O R q,e131_3 O R q,trivial⟩
def c132:MFunc:=mkM (compF Tryz.prog (globs2 tabs opq) (λn=>Nat.blt n 1000000||Nat.ble 3000000 n) true Tryz.f132) .n
def b132_0(O:Oracle)(R:Jump)(q:Nat)(x0 x1:TVal)(h:Heap):Res1 :=
 vop O (.box (.k x1) true) h 3 λx3 h =>
 vop O (.nilck (.k x0)) h 8 λx8 h =>
 vfaddr 0 x8 h λx9 h =>
 vload false 1 x9 h λx10 h =>
 vlen O 2 x10 h 11 λx11 h =>
 vbin .eql 0 x11 (kI 0) h λx12 h =>
 vif x12 (
 vtouch O (.mv (.k x0)) h 13 λx13 h t0 =>
 vtouch O (.nilck (.k x13)) h 14 λx14 h t1 =>
 vtouch O (.faddr 1 (.k x14)) h 15 λx15 h t2 =>
 vtouch O (.load false 1 (.k x15)) h 16 λx16 h t3 =>
 vtouch O (.load true 9 (.k x3)) h 17 λx17 h t4 =>
 vtouch O (.len 2 (.k x16)) h 18 λx18 h t5 =>
 vtouch O (.bslice 9 1 [(.p (.int .i64 0)),(.p (.int .i64 0)),(.p (.str [])),(.p (.str [])),(.p .nilslice),(.p .nilslice),(.p .nilslice),(.p (.bool false)),(.p .nilslice)] [(0,(.k (.v (.agg [(.p (.int .i64 0)),(.p (.int .i64 0)),(.p (.str [])),(.p (.str [])),(.p .nilslice),(.p .nilslice),(.p .nilslice),(.p (.bool false)),(.p .nilslice)]))))] true) h 19 λx19 h t6 =>
 vtouch O (.append 9 152 true (.k x16) (.k x19)) h 20 λx20 h t7 =>
 vtouch O (.iaddr 9 (.k x20) (.k x18)) h 21 λx21 h t8 =>
 vtouch O (.store 9 (.k x21) (.k x17)) h 1000000 λ_ h t9 =>
 vtouch O (.nilck (.k x13)) h 22 λx22 h t10 =>
 vtouch O (.faddr 1 (.k x22)) h 23 λx23 h t11 =>
 vtouch O (.store 1 (.k x23) (.k x20)) h 1000000 λ_ h t12 =>
 bif apartAll [t0,t1,t2,t3,t4,t5,t6,t7,t8,t9,t10,t11,t12] [(3,6),(4,6),(5,6),(9,12)] then
 tcomp (kB true) λc0=>vfin true q [c0] h
 else none)
 (vop O (.nilck (.k x0)) h 25 λx25 h =>
 vfaddr 0 x25 h λx26 h =>
 vload false 1 x26 h λx27 h =>
 vop O (.nilck (.k x0)) h 29 λx29 h =>
 vfaddr 0 x29 h λx30 h =>
 vload false 1 x30 h λx31 h =>
 vlen O 2 x31 h 32 λx32 h =>
 vbin .sub 0 x32 (kI 1) h λx33 h =>
 viaddr 12 x27 x33 h λx34 h =>
 vop O (.nilck (.k x34)) h 36 λx36 h =>
 vfaddr 10 x36 h λx37 h =>
 vload false 1 x37 h λx38 h =>
 vbin .eql 0 x38 (kI 0) h λx40 h =>
 vif x40 (
 vtouch O (.mv (.k x34)) h 41 λx41 h t0 =>
 vtouch O (.nilck (.k x41)) h 42 λx42 h t1 =>
 vtouch O (.faddr 1 (.k x42)) h 43 λx43 h t2 =>
 vtouch O (.faddr 5 (.k x43)) h 44 λx44 h t3 =>
 vtouch O (.load false 1 (.k x44)) h 45 λx45 h t4 =>
 vtouch O (.load true 9 (.k x3)) h 46 λx46 h t5 =>
 vtouch O (.len 2 (.k x45)) h 47 λx47 h t6 =>
 vtouch O (.bslice 9 1 [(.p (.int .i64 0)),(.p (.int .i64 0)),(.p (.str [])),(.p (.str [])),(.p .nilslice),(.p .nilslice),(.p .nilslice),(.p (.bool false)),(.p .nilslice)] [(0,(.k (.v (.agg [(.p (.int .i64 0)),(.p (.int .i64 0)),(.p (.str [])),(.p (.str [])),(.p .nilslice),(.p .nilslice),(.p .nilslice),(.p (.bool false)),(.p .nilslice)]))))] true) h 48 λx48 h t7 =>
 vtouch O (.append 9 152 true (.k x45) (.k x48)) h 49 λx49 h t8 =>
 vtouch O (.iaddr 9 (.k x49) (.k x47)) h 50 λx50 h t9 =>
 vtouch O (.store 9 (.k x50) (.k x46)) h 1000000 λ_ h t10 =>
 vtouch O (.nilck (.k x41)) h 51 λx51 h t11 =>
 vtouch O (.faddr 1 (.k x51)) h 52 λx52 h t12 =>
 vtouch O (.faddr 5 (.k x52)) h 53 λx53 h t13 =>
 vtouch O (.store 1 (.k x53) (.k x49)) h 1000000 λ_ h t14 =>
 bif apartAll [t0,t1,t2,t3,t4,t5,t6,t7,t8,t9,t10,t11,t12,t13,t14] [(4,7),(5,7),(6,7),(10,14)] then
 tcomp (kB true) λc0=>vfin true q [c0] h
 else none)
 (vbin .eql 0 x38 (kI 1) h λx55 h =>
 vif x55 (
 vtouch O (.mv (.k x34)) h 56 λx56 h t0 =>
 vtouch O (.nilck (.k x56)) h 57 λx57 h t1 =>
 vtouch O (.faddr 1 (.k x57)) h 58 λx58 h t2 =>
 vtouch O (.faddr 6 (.k x58)) h 59 λx59 h t3 =>
 vtouch O (.load false 1 (.k x59)) h 60 λx60 h t4 =>
 vtouch O (.load true 9 (.k x3)) h 61 λx61 h t5 =>
 vtouch O (.len 2 (.k x60)) h 62 λx62 h t6 =>
 vtouch O (.bslice 9 1 [(.p (.int .i64 0)),(.p (.int .i64 0)),(.p (.str [])),(.p (.str [])),(.p .nilslice),(.p .nilslice),(.p .nilslice),(.p (.bool false)),(.p .nilslice)] [(0,(.k (.v (.agg [(.p (.int .i64 0)),(.p (.int .i64 0)),(.p (.str [])),(.p (.str [])),(.p .nilslice),(.p .nilslice),(.p .nilslice),(.p (.bool false)),(.p .nilslice)]))))] true) h 63 λx63 h t7 =>
 vtouch O (.append 9 152 true (.k x60) (.k x63)) h 64 λx64 h t8 =>
 vtouch O (.iaddr 9 (.k x64) (.k x62)) h 65 λx65 h t9 =>
 vtouch O (.store 9 (.k x65) (.k x61)) h 1000000 λ_ h t10 =>
 vtouch O (.nilck (.k x56)) h 66 λx66 h t11 =>
 vtouch O (.faddr 1 (.k x66)) h 67 λx67 h t12 =>
 vtouch O (.faddr 6 (.k x67)) h 68 λx68 h t13 =>
 vtouch O (.store 1 (.k x68) (.k x64)) h 1000000 λ_ h t14 =>
 bif apartAll [t0,t1,t2,t3,t4,t5,t6,t7,t8,t9,t10,t11,t12,t13,t14] [(4,7),(5,7),(6,7),(10,14)] then
 tcomp (kB true) λc0=>vfin true q [c0] h
 else none)
 (vbin .eql 0 x38 (kI 2) h λx70 h =>
 vif x70 (
 vop O (.nilck (.k x34)) h 72 λx72 h =>
 vfaddr 1 x72 h λx73 h =>
 vfaddr 8 x73 h λx74 h =>
 vload false 1 x74 h λx75 h =>
 vop O (.nilck (.k x34)) h 77 λx77 h =>
 vfaddr 1 x77 h λx78 h =>
 vfaddr 8 x78 h λx79 h =>
 vload false 1 x79 h λx80 h =>
 vlen O 2 x80 h 81 λx81 h =>
 vbin .sub 0 x81 (kI 1) h λx82 h =>
 viaddr 2 x75 x82 h λx83 h =>
 vtouch O (.mv (.k x83)) h 84 λx84 h t0 =>
 vtouch O (.nilck (.k x84)) h 85 λx85 h t1 =>
 vtouch O (.faddr 1 (.k x85)) h 86 λx86 h t2 =>
 vtouch O (.load false 1 (.k x86)) h 87 λx87 h t3 =>
 vtouch O (.load true 9 (.k x3)) h 88 λx88 h t4 =>
 vtouch O (.len 2 (.k x87)) h 89 λx89 h t5 =>
 vtouch O (.bslice 9 1 [(.p (.int .i64 0)),(.p (.int .i64 0)),(.p (.str [])),(.p (.str [])),(.p .nilslice),(.p .nilslice),(.p .nilslice),(.p (.bool false)),(.p .nilslice)] [(0,(.k (.v (.agg [(.p (.int .i64 0)),(.p (.int .i64 0)),(.p (.str [])),(.p (.str [])),(.p .nilslice),(.p .nilslice),(.p .nilslice),(.p (.bool false)),(.p .nilslice)]))))] true) h 90 λx90 h t6 =>
 vtouch O (.append 9 152 true (.k x87) (.k x90)) h 91 λx91 h t7 =>
 vtouch O (.iaddr 9 (.k x91) (.k x89)) h 92 λx92 h t8 =>
 vtouch O (.store 9 (.k x92) (.k x88)) h 1000000 λ_ h t9 =>
 vtouch O (.nilck (.k x84)) h 93 λx93 h t10 =>
 vtouch O (.faddr 1 (.k x93)) h 94 λx94 h t11 =>
 vtouch O (.store 1 (.k x94) (.k x91)) h 1000000 λ_ h t12 =>
 bif apartAll [t0,t1,t2,t3,t4,t5,t6,t7,t8,t9,t10,t11,t12] [(3,6),(4,6),(5,6),(9,12)] then
 tcomp (kB true) λc0=>vfin true q [c0] h
 else none)
 (tcomp (kB false) λc0=>vfin true q [c0] h))))
theorem e132_0(O R q x0 x1 h):b132_0 O R q x0 x1 h=stepF c132 O R q 0 [x0,x1] h:=by kernel_rfl
def d132:BlkF:=λO R Q=>[.s λa => .s λb => .z (b132_0 O R Q a b)]
theorem o132(O:Oracle)(R:Jump)(q:Nat):HoldsAll c132 O R q 0 (d132 O R q):=⟨e132_0 O R q,trivial⟩
def c133:MFunc:=mkM (compF Tryz.prog (globs2 tabs opq) (λ_=>false) true Tryz.f133) (.s .n (.s (.s .n (.k (.l 1 [0,3] .n))) .n))
def b133_0(O:Oracle)(R:Jump)(q:Nat)(x0:TVal)(h:Heap):Res1 :=
 R 1 [x0,(kI 0)] h
theorem e133_0(O R q x0 h):b133_0 O R q x0 h=stepF c133 O R q 0 [x0] h:=by kernel_rfl
def b133_1(O:Oracle)(R:Jump)(q:Nat)(x0 x3:TVal)(h:Heap):Res1 :=
 vlen O 0 x0 h 6 λx6 h =>
 vbin .lss 0 x3 x6 h λx7 h =>
 vif x7 (
 vindex x0 x3 h λx12 h =>
 vbin .neq 0 x12 (.v (.c (.p (.int .u8 32)))) h λx13 h =>
 vguard x13 true (λkk=>kk x0 h) h λx15 h =>
 vguard x13 true (λkk=>kk x3 h) h λx16 h =>
 vguard x13 true (λkk=>vindex x15 x16 h kk) h λx17 h =>
 vguard x13 true (λkk=>vbin .neq 0 x17 (.v (.c (.p (.int .u8 9)))) h kk) h λx18 h =>
 vop O (.pick (.k x13) (.k x18) (.k (kB false))) h 19 λx19 h =>
 vguard x19 true (λkk=>kk x0 h) h λx21 h =>
 vguard x19 true (λkk=>kk x3 h) h λx22 h =>
 vguard x19 true (λkk=>vindex x21 x22 h kk) h λx23 h =>
 vguard x19 true (λkk=>vbin .neq 0 x23 (.v (.c (.p (.int .u8 10)))) h kk) h λx24 h =>
 vop O (.pick (.k x19) (.k x24) (.k (kB false))) h 25 λx25 h =>
 vguard x25 true (λkk=>kk x0 h) h λx27 h =>
 vguard x25 true (λkk=>kk x3 h) h λx28 h =>
 vguard x25 true (λkk=>vindex x27 x28 h kk) h λx29 h =>
 vguard x25 true (λkk=>vbin .neq 0 x29 (.v (.c (.p (.int .u8 13)))) h kk) h λx30 h =>
 vop O (.pick (.k x25) (.k x30) (.k (kB false))) h 31 λx31 h =>
 vif x31 (
 tcomp (kB false) λc0=>vfin true q [c0] h)
 (vbin .add 0 x3 (kI 1) h λx9 h =>
 R 1 [x0,x9] h))
 (tcomp (kB true) λc0=>vfin true q [c0] h)
theorem e133_1(O R q x0 x3 h):b133_1 O R q x0 x3 h=stepF c133 O R q 1 [x0,x3] h:=by kernel_rfl
def d133:BlkF:=λO R Q=>[.s λa => .z (b133_0 O R Q a),.s λa => .s λb => .z (b133_1 O R Q a b)]
theorem o133(O:Oracle)(R:Jump)(q:Nat):HoldsAll c133 O R q 0 (d133 O R q):=⟨e133_0 O R q,e133_1 O R q,trivial⟩
def c134:MFunc:=mkM (compF Tryz.prog (globs2 tabs opq) (λ_=>false) true Tryz.f134) .n
def b134_0(O:Oracle)(R:Jump)(q:Nat)(x0:TVal)(h:Heap):Res1 :=
 vop O (.nilck (.k x0)) h 4 λx4 h =>
 vfaddr 6 x4 h λx5 h =>
 vload false 1 x5 h λx6 h =>
 vop O (.nilck (.k x0)) h 8 λx8 h =>
 vfaddr 0 x8 h λx9 h =>
 vfaddr 0 x9 h λx10 h =>
 vload false 1 x10 h λx11 h =>
 vbin .geq 0 x6 x11 h λx12 h =>
 vif x12 (
 tcomp (kI 36) λc0=>vfin true q [c0] h)
 (vop O (.nilck (.k x0)) h 14 λx14 h =>
 vfaddr 6 x14 h λx15 h =>
 vload false 1 x15 h λx16 h =>
 vbin .add 0 x16 (kI 1) h λx17 h =>
 vop O (.nilck (.k x0)) h 18 λx18 h =>
 vfaddr 6 x18 h λx19 h =>
 vstore 1 x19 x17 h λ_ h =>
 tcomp (kI 0) λc0=>vfin true q [c0] h)
theorem e134_0(O R q x0 h):b134_0 O R q x0 h=stepF c134 O R q 0 [x0] h:=by kernel_rfl
def d134:BlkF:=λO R Q=>[.s λa => .z (b134_0 O R Q a)]
theorem o134(O:Oracle)(R:Jump)(q:Nat):HoldsAll c134 O R q 0 (d134 O R q):=⟨e134_0 O R q,trivial⟩
def c135:MFunc:=mkM (compF Tryz.prog (globs2 tabs opq) (λ_=>false) true Tryz.f135) .n
def b135_0(O:Oracle)(R:Jump)(q:Nat)(x0 x1:TVal)(h:Heap):Res1 :=
 vlen O 0 x1 h 7 λx7 h =>
 vop O (.nilck (.k x0)) h 9 λx9 h =>
 vfaddr 0 x9 h λx10 h =>
 vfaddr 2 x10 h λx11 h =>
 vload false 1 x11 h λx12 h =>
 vop O (.nilck (.k x0)) h 14 λx14 h =>
 vfaddr 5 x14 h λx15 h =>
 vload false 1 x15 h λx16 h =>
 vlen O 2 x16 h 17 λx17 h =>
 vbin .sub 0 x12 x17 h λx18 h =>
 vop O (.minmax false [(.k x7),(.k x18)]) h 19 λx19 h =>
 vop O (.nilck (.k x0)) h 22 λx22 h =>
 vfaddr 5 x22 h λx23 h =>
 vload false 1 x23 h λx24 h =>
 vop O (.slice 0 true (.k x1) none (some (.k x19)) none) h 27 λx27 h =>
 vop O (.append 1 1 false (.k x24) (.k x27)) h 28 λx28 h =>
 vop O (.nilck (.k x0)) h 29 λx29 h =>
 vfaddr 5 x29 h λx30 h =>
 vstore 1 x30 x28 h λ_ h =>
 vlen O 0 x1 h 33 λx33 h =>
 vbin .lss 0 x19 x33 h λx34 h =>
 vif x34 (
 tcomp (kI 34) λc0=>vfin true q [c0] h)
 (tcomp (kI 0) λc0=>vfin true q [c0] h)
theorem e135_0(O R q x0 x1 h):b135_0 O R q x0 x1 h=stepF c135 O R q 0 [x0,x1] h:=by kernel_rfl
def d135:BlkF:=λO R Q=>[.s λa => .s λb => .z (b135_0 O R Q a b)]
theorem o135(O:Oracle)(R:Jump)(q:Nat):HoldsAll c135 O R q 0 (d135 O R q):=⟨e135_0 O R q,trivial⟩
def c136:MFunc:=mkM (compF Tryz.prog (globs2 tabs opq) (λ_=>false) true Tryz.f136) (.s .n (.s .n (.s (.s .n (.k (.l 1 [0,4,6,8,13,14,15] .n))) (.m 2 [6,8] .n))))
def b136_0(O:Oracle)(R:Jump)(q:Nat)(x0 x1 x2:TVal)(h:Heap):Res1 :=
 vop O (.box (.k x1) false) h 4 λx4 h =>
 vop O (.alloc [(.p (.int .i64 0)),(.p (.bool false)),(.p (.int .i64 0)),(.p (.str [])),(.p .nilslice),(.p .nilslice)] false) h 6 λx6 h =>
 vlen O 2 x2 h 14 λx14 h =>
 R 1 [x0,x4,x6,(.v (.c (.p .nilslice))),x2,x14,(kI 0)] h
theorem e136_0(O R q x0 x1 x2 h):b136_0 O R q x0 x1 x2 h=stepF c136 O R q 0 [x0,x1,x2] h:=by kernel_rfl
def b136_1(O:Oracle)(R:Jump)(q:Nat)(x0 x4 x6 x8 x13 x14 x15:TVal)(h:Heap):Res1 :=
 vbin .lss 0 x15 x14 h λx16 h =>
 vif x16 (
 viaddr 1 x13 x15 h λx17 h =>
 vload true 1 x17 h λx18 h =>
 vop O (.alloc [(.p .nilslice)] false) h 10 λx10 h =>
 vstore 1 x10 x18 h λ_ h =>
 vload true 8 x4 h λx21 h =>
 vload true 1 x10 h λx22 h =>
 vcall O (.v (.c (.func 196 []))) [x0,x21,x22,x8] h 24 λx24 h =>
 vext x24 0 h λx25 h =>
 vext x24 1 h λx26 h =>
 vop O (.alloc [(.p (.int .i64 0)),(.p (.bool false)),(.p (.int .i64 0)),(.p (.str [])),(.p .nilslice),(.p .nilslice)] false) h 11 λx11 h =>
 vstore 6 x11 x25 h λ_ h =>
 vbin .neq 0 x26 (kI 0) h λx28 h =>
 vif x28 (
 vop O (.build [(.p (.int .i64 0)),(.p (.bool false)),(.p (.int .i64 0)),(.p (.str [])),(.p .nilslice),(.p .nilslice)] []) h 29 λx29 h =>
 vstore 6 x6 x29 h λ_ h =>
 vcell true 6 x6 h λc0=>tcomp x26 λc1=>vfin true q [c0,c1] h)
 (vload true 6 x11 h λx31 h =>
 vop O (.bslice 6 1 [(.p (.int .i64 0)),(.p (.bool false)),(.p (.int .i64 0)),(.p (.str [])),(.p .nilslice),(.p .nilslice)] [(0,(.k x31))] false) h 32 λx32 h =>
 vbin .add 0 x15 (kI 1) h λx33 h =>
 R 1 [x0,x4,x6,x32,x13,x14,x33] h))
 (R 2 [x6,x8] h)
theorem e136_1(O R q x0 x4 x6 x8 x13 x14 x15 h):b136_1 O R q x0 x4 x6 x8 x13 x14 x15 h=stepF c136 O R q 1 [x0,x4,x6,x8,x13,x14,x15] h:=by kernel_rfl
def b136_2(O:Oracle)(R:Jump)(q:Nat)(x6 x8:TVal)(h:Heap):Res1 :=
 vlen O 2 x8 h 35 λx35 h =>
 vbin .eql 0 x35 (kI 0) h λx36 h =>
 vif x36 (
 vop O (.build [(.p (.int .i64 0)),(.p (.bool false)),(.p (.int .i64 0)),(.p (.str [])),(.p .nilslice),(.p .nilslice)] []) h 37 λx37 h =>
 vstore 6 x6 x37 h λ_ h =>
 vcell true 6 x6 h λc0=>tcomp (kI 12) λc1=>vfin true q [c0,c1] h)
 (viaddr 6 x8 (kI 0) h λx39 h =>
 vload true 6 x39 h λx40 h =>
 vstore 6 x6 x40 h λ_ h =>
 vcell true 6 x6 h λc0=>tcomp (kI 0) λc1=>vfin true q [c0,c1] h)
theorem e136_2(O R q x6 x8 h):b136_2 O R q x6 x8 h=stepF c136 O R q 2 [x6,x8] h:=by kernel_rfl
def d136:BlkF:=λO R Q=>[.s λa => .s λb => .s λc => .z (b136_0 O R Q a b c),.s λa => .s λb => .s λc => .s λd => .s λe => .s λf => .s λg => .z (b136_1 O R Q a b c d e f g),.s λa => .s λb => .z (b136_2 O R Q a b)]
theorem o136(O:Oracle)(R:Jump)(q:Nat):HoldsAll c136 O R q 0 (d136 O R q):=⟨e136_0 O R q,e136_1 O R q,e136_2 O R q,trivial⟩
def c137:MFunc:=mkM (compF Tryz.prog (globs2 tabs opq) (λ_=>false) true Tryz.f137) .n
def b137_0(O:Oracle)(R:Jump)(q:Nat)(x0 x1 x2 x3:TVal)(h:Heap):Res1 :=
 vop O (.box (.k x1) false) h 5 λx5 h =>
 vop O (.box (.k x2) false) h 6 λx6 h =>
 vop O (.box (.k x3) false) h 7 λx7 h =>
 vfaddr 0 x6 h λx10 h =>
 vload false 1 x10 h λx11 h =>
 vbin .eql 0 x11 (kI 2) h λx13 h =>
 vif x13 (
 vload true 6 x7 h λx15 h =>
 vcall O (.v (.c (.func 197 []))) [x0,x15] h 16 λx16 h =>
 tcomp x16 λc0=>vfin true q [c0] h)
 (vbin .eql 0 x11 (kI 4) h λx18 h =>
 vif x18 (
 vload true 8 x5 h λx19 h =>
 vfaddr 3 x6 h λx20 h =>
 vload false 1 x20 h λx21 h =>
 vcall O (.v (.c (.func 198 []))) [x19,x21] h 22 λx22 h =>
 vbin .eql 1 x22 (.v (.c (.p .nilptr))) h λx24 h =>
 vif x24 (
 tcomp (kI 15) λc0=>vfin true q [c0] h)
 (vload true 6 x7 h λx26 h =>
 vop O (.nilck (.k x22)) h 27 λx27 h =>
 vfaddr 1 x27 h λx28 h =>
 vstore 6 x28 x26 h λ_ h =>
 tcomp (kI 0) λc0=>vfin true q [c0] h))
 (vbin .eql 0 x11 (kI 5) h λx30 h =>
 vif x30 (
 vfaddr 0 x7 h λx31 h =>
 vload false 1 x31 h λx32 h =>
 vbin .eql 0 x32 (kI 0) h λx33 h =>
 vguard x33 false (λkk=>vfaddr 0 x7 h kk) h λx35 h =>
 vguard x33 false (λkk=>vload false 1 x35 h kk) h λx36 h =>
 vguard x33 false (λkk=>vbin .eql 0 x36 (kI 1) h kk) h λx37 h =>
 vguard x33 false (λkk=>kk x37 h) h λx38 h =>
 vguard x38 true (λkk=>vfaddr 1 x7 h kk) h λx39 h =>
 vguard x38 true (λkk=>vload false 1 x39 h kk) h λx40 h =>
 vguard x38 true (λkk=>vop O (.un .not (.k x40)) h 41 kk) h λx41 h =>
 vguard x33 false (λkk=>vop O (.pick (.k x38) (.k x41) (.k (kB false))) h 42 kk) h λx42 h =>
 vop O (.pick (.k x33) (.k (kB true)) (.k x42)) h 43 λx43 h =>
 vif x43 (
 vload true 8 x5 h λx45 h =>
 vfaddr 6 x6 h λx46 h =>
 vload false 1 x46 h λx47 h =>
 vcall O (.v (.c (.func 68 []))) [x0,x45,x47] h 48 λx48 h =>
 tcomp x48 λc0=>vfin true q [c0] h)
 (vload true 8 x5 h λx50 h =>
 vfaddr 5 x6 h λx51 h =>
 vload false 1 x51 h λx52 h =>
 vcall O (.v (.c (.func 68 []))) [x0,x50,x52] h 53 λx53 h =>
 tcomp x53 λc0=>vfin true q [c0] h))
 (vbin .eql 0 x11 (kI 6) h λx55 h =>
 vif x55 (
 vfaddr 0 x7 h λx56 h =>
 vload false 1 x56 h λx57 h =>
 vbin .eql 0 x57 (kI 0) h λx58 h =>
 vif x58 (
 vload true 8 x5 h λx60 h =>
 vfaddr 6 x6 h λx61 h =>
 vload false 1 x61 h λx62 h =>
 vcall O (.v (.c (.func 68 []))) [x0,x60,x62] h 63 λx63 h =>
 tcomp x63 λc0=>vfin true q [c0] h)
 (vtouch O (.mv (.k x0)) h 64 λx64 h t0 =>
 vtouch O (.load true 8 (.k x5)) h 65 λx65 h t1 =>
 vtouch O (.load true 6 (.k x7)) h 66 λx66 h t2 =>
 vtouch O (.call (.k (.v (.c (.func 199 [])))) [(.k x65),(.k x66)]) h 67 λx67 h t3 =>
 vtouch O (.faddr 5 (.k x6)) h 68 λx68 h t4 =>
 vtouch O (.load false 1 (.k x68)) h 69 λx69 h t5 =>
 vtouch O (.call (.k (.v (.c (.func 68 [])))) [(.k x64),(.k x67),(.k x69)]) h 70 λx70 h t6 =>
 vtouch O (.mv (.k x70)) h 8 λx8 h t7 =>
 bif apartAll [t0,t1,t2,t3,t4,t5,t6,t7] [(3,5)] then
 tcomp x8 λc0=>vfin true q [c0] h
 else none))
 (vbin .eql 0 x11 (kI 7) h λx72 h =>
 vif x72 (
 vload true 8 x5 h λx74 h =>
 vload true 9 x6 h λx75 h =>
 vload true 6 x7 h λx76 h =>
 vcall O (.v (.c (.func 200 []))) [x0,x74,x75,x76] h 77 λx77 h =>
 tcomp x77 λc0=>vfin true q [c0] h)
 (vbin .eql 0 x11 (kI 8) h λx79 h =>
 vif x79 (
 vload true 8 x5 h λx81 h =>
 vload true 9 x6 h λx82 h =>
 vload true 6 x7 h λx83 h =>
 vcall O (.v (.c (.func 201 []))) [x0,x81,x82,x83] h 84 λx84 h =>
 tcomp x84 λc0=>vfin true q [c0] h)
 (vbin .eql 0 x11 (kI 9) h λx86 h =>
 vif x86 (
 vload true 8 x5 h λx88 h =>
 vfaddr 3 x6 h λx89 h =>
 vload false 1 x89 h λx90 h =>
 vload true 6 x7 h λx91 h =>
 vcall O (.v (.c (.func 202 []))) [x0,x88,x90,x91] h 92 λx92 h =>
 tcomp x92 λc0=>vfin true q [c0] h)
 (tcomp (kI 0) λc0=>vfin true q [c0] h)))))))
theorem e137_0(O R q x0 x1 x2 x3 h):b137_0 O R q x0 x1 x2 x3 h=stepF c137 O R q 0 [x0,x1,x2,x3] h:=by kernel_rfl
def d137:BlkF:=λO R Q=>[.s λa => .s λb => .s λc => .s λd => .z (b137_0 O R Q a b c d)]
theorem o137(O:Oracle)(R:Jump)(q:Nat):HoldsAll c137 O R q 0 (d137 O R q):=⟨e137_0 O R q,trivial⟩
def c138:MFunc:=mkM (compF Tryz.prog (globs2 tabs opq) (λn=>Nat.blt n 1000000||Nat.ble 3000000 n) false Tryz.f138) .n
def b138_0(O:Oracle)(R:Jump)(q:Nat)(x0:TVal)(h:Heap):Res1 :=
 vbin .eql 2 x0 (.v (.c (.p .nilslice))) h λx4 h =>
 vif x4 (
 tcomp (.v (.c (.p .nilslice))) λc0=>vfin false q [c0] h)
 (vop O (.bslice 1 0 [(.p .nilptr)] [] true) h 5 λx5 h =>
 vop O (.append 1 8 true (.k x5) (.k x0)) h 7 λx7 h =>
 tcomp x7 λc0=>vfin false q [c0] h)
theorem e138_0(O R q x0 h):b138_0 O R q x0 h=stepF c138 O R q 0 [x0] h:=by kernel_rfl
def d138:BlkF:=λO R Q=>[.s λa => .z (b138_0 O R Q a)]
theorem o138(O:Oracle)(R:Jump)(q:Nat):HoldsAll c138 O R q 0 (d138 O R q):=⟨e138_0 O R q,trivial⟩
def c161:MFunc:=mkM (compF Tryz.prog (globs2 tabs opq) (λ_=>false) true Tryz.f161) .n
def b161_0(O:Oracle)(R:Jump)(q:Nat)(x0:TVal)(h:Heap):Res1 :=
 vbin .neq 0 x0 (kS []) h λx4 h =>
 vguard x4 true (λkk=>kk x0 h) h λx6 h =>
 vguard x4 true (λkk=>vlen O 0 x6 h 7 kk) h λx7 h =>
 vguard x4 true (λkk=>vbin .leq 0 x7 (kI 16) h kk) h λx8 h =>
 vop O (.pick (.k x4) (.k x8) (.k (kB false))) h 9 λx9 h =>
 vguard x9 true (λkk=>kk x0 h) h λx11 h =>
 vguard x9 true (λkk=>vindex x11 (kI 0) h kk) h λx12 h =>
 vguard x9 true (λkk=>vcall O (.v (.c (.func 228 []))) [x12] h 13 kk) h λx13 h =>
 vguard x9 true (λkk=>vop O (.un .not (.k x13)) h 14 kk) h λx14 h =>
 vop O (.pick (.k x9) (.k x14) (.k (kB false))) h 15 λx15 h =>
 vguard x15 true (λkk=>kk x0 h) h λx17 h =>
 vguard x15 true (λkk=>vcall O (.v (.c (.func 229 []))) [x17] h 18 kk) h λx18 h =>
 vguard x15 true (λkk=>kk x0 h) h λx19 h =>
 vguard x15 true (λkk=>vlen O 0 x19 h 20 kk) h λx20 h =>
 vguard x15 true (λkk=>vbin .eql 0 x18 x20 h kk) h λx21 h =>
 vop O (.pick (.k x15) (.k x21) (.k (kB false))) h 22 λx22 h =>
 tcomp x22 λc0=>vfin true q [c0] h
theorem e161_0(O R q x0 h):b161_0 O R q x0 h=stepF c161 O R q 0 [x0] h:=by kernel_rfl
def d161:BlkF:=λO R Q=>[.s λa => .z (b161_0 O R Q a)]
theorem o161(O:Oracle)(R:Jump)(q:Nat):HoldsAll c161 O R q 0 (d161 O R q):=⟨e161_0 O R q,trivial⟩
def c162:MFunc:=mkM (compF Tryz.prog (globs2 tabs opq) (λ_=>false) true Tryz.f162) .n
def b162_0(O:Oracle)(R:Jump)(q:Nat)(x0 x1:TVal)(h:Heap):Res1 :=
 vcall O (.v (.c (.func 230 []))) [x0,x1] h 7 λx7 h =>
 vbin .geq 0 x7 (kI 0) h λx8 h =>
 tcomp x8 λc0=>vfin true q [c0] h
theorem e162_0(O R q x0 x1 h):b162_0 O R q x0 x1 h=stepF c162 O R q 0 [x0,x1] h:=by kernel_rfl
def d162:BlkF:=λO R Q=>[.s λa => .s λb => .z (b162_0 O R Q a b)]
theorem o162(O:Oracle)(R:Jump)(q:Nat):HoldsAll c162 O R q 0 (d162 O R q):=⟨e162_0 O R q,trivial⟩
def c163:MFunc:=mkM (compF Tryz.prog (globs2 tabs opq) (λ_=>false) true Tryz.f163) .n
def b163_0(O:Oracle)(R:Jump)(q:Nat)(x0:TVal)(h:Heap):Res1 :=
 vop O (.alloc [(.p (.int .i64 0)),(.p (.bool false)),(.p (.int .i64 0)),(.p (.str [])),(.p .nilslice),(.p .nilslice)] false) h 2 λx2 h =>
 vop O (.build [(.p (.int .i64 0)),(.p (.bool false)),(.p (.int .i64 0)),(.p (.str [])),(.p .nilslice),(.p .nilslice)] [(0,1,(.k (kI 2))),(2,1,(.k x0))]) h 4 λx4 h =>
 vstore 6 x2 x4 h λ_ h =>
 vcell true 6 x2 h λc0=>vfin true q [c0] h
theorem e163_0(O R q x0 h):b163_0 O R q x0 h=stepF c163 O R q 0 [x0] h:=by kernel_rfl
def d163:BlkF:=λO R Q=>[.s λa => .z (b163_0 O R Q a)]
theorem o163(O:Oracle)(R:Jump)(q:Nat):HoldsAll c163 O R q 0 (d163 O R q):=⟨e163_0 O R q,trivial⟩
def c164:MFunc:=mkM (compF Tryz.prog (globs2 tabs opq) (λ_=>false) true Tryz.f164) .n
def b164_0(O:Oracle)(R:Jump)(q:Nat)(x0 x1:TVal)(h:Heap):Res1 :=
 vcall O (.v (.c (.func 231 []))) [x0,x1] h 7 λx7 h =>
 vbin .geq 0 x7 (kI 0) h λx8 h =>
 tcomp x8 λc0=>vfin true q [c0] h
theorem e164_0(O R q x0 x1 h):b164_0 O R q x0 x1 h=stepF c164 O R q 0 [x0,x1] h:=by kernel_rfl
def d164:BlkF:=λO R Q=>[.s λa => .s λb => .z (b164_0 O R Q a b)]
theorem o164(O:Oracle)(R:Jump)(q:Nat):HoldsAll c164 O R q 0 (d164 O R q):=⟨e164_0 O R q,trivial⟩
def c165:MFunc:=mkM (compF Tryz.prog (globs2 tabs opq) (λ_=>false) true Tryz.f165) .n
def b165_0(O:Oracle)(R:Jump)(q:Nat)(x0:TVal)(h:Heap):Res1 :=
 vop O (.box (.k x0) false) h 1 λx1 h =>
 vfaddr 0 x1 h λx3 h =>
 vload false 1 x3 h λx4 h =>
 vbin .neq 0 x4 (kI 1) h λx5 h =>
 tcomp x5 λc0=>vfin true q [c0] h
theorem e165_0(O R q x0 h):b165_0 O R q x0 h=stepF c165 O R q 0 [x0] h:=by kernel_rfl
def d165:BlkF:=λO R Q=>[.s λa => .z (b165_0 O R Q a)]
theorem o165(O:Oracle)(R:Jump)(q:Nat):HoldsAll c165 O R q 0 (d165 O R q):=⟨e165_0 O R q,trivial⟩
def c166:MFunc:=mkM (compF Tryz.prog (globs2 tabs opq) (λ_=>false) true Tryz.f166) .n
def b166_0(O:Oracle)(R:Jump)(q:Nat)(x0:TVal)(h:Heap):Res1 :=
 vop O (.alloc [(.p (.int .i64 0)),(.p (.bool false)),(.p (.int .i64 0)),(.p (.str [])),(.p .nilslice),(.p .nilslice)] false) h 2 λx2 h =>
 vop O (.build [(.p (.int .i64 0)),(.p (.bool false)),(.p (.int .i64 0)),(.p (.str [])),(.p .nilslice),(.p .nilslice)] [(0,1,(.k (kI 3))),(3,1,(.k x0))]) h 4 λx4 h =>
 vstore 6 x2 x4 h λ_ h =>
 vcell true 6 x2 h λc0=>vfin true q [c0] h
theorem e166_0(O R q x0 h):b166_0 O R q x0 h=stepF c166 O R q 0 [x0] h:=by kernel_rfl
def d166:BlkF:=λO R Q=>[.s λa => .z (b166_0 O R Q a)]
theorem o166(O:Oracle)(R:Jump)(q:Nat):HoldsAll c166 O R q 0 (d166 O R q):=⟨e166_0 O R q,trivial⟩
def c167:MFunc:=mkM (compF Tryz.prog (globs2 tabs opq) (λ_=>false) true Tryz.f167) .n
def b167_0(O:Oracle)(R:Jump)(q:Nat)(x0 x1:TVal)(h:Heap):Res1 :=
 vcall O (.v (.c (.func 232 []))) [x0,x1] h 7 λx7 h =>
 tcomp x7 λc0=>vfin true q [c0] h
theorem e167_0(O R q x0 x1 h):b167_0 O R q x0 x1 h=stepF c167 O R q 0 [x0,x1] h:=by kernel_rfl
def d167:BlkF:=λO R Q=>[.s λa => .s λb => .z (b167_0 O R Q a b)]
theorem o167(O:Oracle)(R:Jump)(q:Nat):HoldsAll c167 O R q 0 (d167 O R q):=⟨e167_0 O R q,trivial⟩
def c168:MFunc:=mkM (compF Tryz.prog (globs2 tabs opq) (λ_=>false) true Tryz.f168) .n
def b168_0(O:Oracle)(R:Jump)(q:Nat)(x0:TVal)(h:Heap):Res1 :=
 vcall O (.v (.c (.func 233 []))) [x0] h 4 λx4 h =>
 tcomp x4 λc0=>vfin true q [c0] h
theorem e168_0(O R q x0 h):b168_0 O R q x0 h=stepF c168 O R q 0 [x0] h:=by kernel_rfl
def d168:BlkF:=λO R Q=>[.s λa => .z (b168_0 O R Q a)]
theorem o168(O:Oracle)(R:Jump)(q:Nat):HoldsAll c168 O R q 0 (d168 O R q):=⟨e168_0 O R q,trivial⟩
def c169:MFunc:=mkM (compF Tryz.prog (globs2 tabs opq) (λ_=>false) true Tryz.f169) (.s .n (.s (.s .n (.k (.l 1 [0,1,7,8] .n))) .n))
def b169_0(O:Oracle)(R:Jump)(q:Nat)(x0 x1:TVal)(h:Heap):Res1 :=
 vlen O 2 x0 h 7 λx7 h =>
 R 1 [x0,x1,x7,(kI 0)] h
theorem e169_0(O R q x0 x1 h):b169_0 O R q x0 x1 h=stepF c169 O R q 0 [x0,x1] h:=by kernel_rfl
def b169_1(O:Oracle)(R:Jump)(q:Nat)(x0 x1 x7 x8:TVal)(h:Heap):Res1 :=
 vbin .lss 0 x8 x7 h λx9 h =>
 vif x9 (
 viaddr 1 x0 x8 h λx14 h =>
 vload false 1 x14 h λx15 h =>
 vbin .eql 0 x1 x15 h λx16 h =>
 vif x16 (
 tcomp x8 λc0=>vfin true q [c0] h)
 (vbin .add 0 x8 (kI 1) h λx18 h =>
 R 1 [x0,x1,x7,x18] h))
 (tcomp (kI (-1)) λc0=>vfin true q [c0] h)
theorem e169_1(O R q x0 x1 x7 x8 h):b169_1 O R q x0 x1 x7 x8 h=stepF c169 O R q 1 [x0,x1,x7,x8] h:=by kernel_rfl
def d169:BlkF:=λO R Q=>[.s λa => .s λb => .z (b169_0 O R Q a b),.s λa => .s λb => .s λc => .s λd => .z (b169_1 O R Q a b c d)]
theorem o169(O:Oracle)(R:Jump)(q:Nat):HoldsAll c169 O R q 0 (d169 O R q):=⟨e169_0 O R q,e169_1 O R q,trivial⟩
def c170:MFunc:=mkM (compF Tryz.prog (globs2 tabs opq) (λ_=>false) true Tryz.f170) (.s .n (.s .n (.s (.s .n (.k (.l 1 [1,2,14,15,16] .n))) (.m 2 [1,2] .n))))
def b170_0(O:Oracle)(R:Jump)(q:Nat)(x0:TVal)(h:Heap):Res1 :=
 vop O (.box (.k x0) false) h 1 λx1 h =>
 vop O (.alloc [(.p (.int .i64 0)),(.p (.bool false)),(.p (.int .i64 0)),(.p (.str [])),(.p .nilslice),(.p .nilslice)] false) h 2 λx2 h =>
 vtouch O (.faddr 4 (.k x1)) h 5 λx5 h t0 =>
 vtouch O (.load false 1 (.k x5)) h 6 λx6 h t1 =>
 vtouch O (.call (.k (.v (.c (.func 234 [])))) [(.k x6)]) h 7 λx7 h t2 =>
 vtouch O (.faddr 5 (.k x1)) h 8 λx8 h t3 =>
 vtouch O (.load false 1 (.k x8)) h 9 λx9 h t4 =>
 vtouch O (.call (.k (.v (.c (.func 70 [])))) [(.k x9)]) h 10 λx10 h t5 =>
 vtouch O (.faddr 4 (.k x1)) h 11 λx11 h t6 =>
 vtouch O (.store 1 (.k x11) (.k x7)) h 1000000 λ_ h t7 =>
 vtouch O (.faddr 5 (.k x1)) h 12 λx12 h t8 =>
 vtouch O (.store 1 (.k x12) (.k x10)) h 1000000 λ_ h t9 =>
 bif apartAll [t0,t1,t2,t3,t4,t5,t6,t7,t8,t9] [(2,4)] then
 vfaddr 5 x1 h λx13 h =>
 vload false 1 x13 h λx14 h =>
 vlen O 2 x14 h 15 λx15 h =>
 R 1 [x1,x2,x14,x15,(kI 0)] h
 else none
theorem e170_0(O R q x0 h):b170_0 O R q x0 h=stepF c170 O R q 0 [x0] h:=by kernel_rfl
def b170_1(O:Oracle)(R:Jump)(q:Nat)(x1 x2 x14 x15 x16:TVal)(h:Heap):Res1 :=
 vbin .lss 0 x16 x15 h λx17 h =>
 vif x17 (
 viaddr 6 x14 x16 h λx19 h =>
 vload true 6 x19 h λx20 h =>
 vop O (.alloc [(.p (.int .i64 0)),(.p (.bool false)),(.p (.int .i64 0)),(.p (.str [])),(.p .nilslice),(.p .nilslice)] false) h 4 λx4 h =>
 vstore 6 x4 x20 h λ_ h =>
 vtouch O (.faddr 5 (.k x1)) h 21 λx21 h t0 =>
 vtouch O (.load false 1 (.k x21)) h 22 λx22 h t1 =>
 vtouch O (.mv (.k x16)) h 23 λx23 h t2 =>
 vtouch O (.load true 6 (.k x4)) h 24 λx24 h t3 =>
 vtouch O (.call (.k (.v (.c (.func 170 [])))) [(.k x24)]) h 25 λx25 h t4 =>
 vtouch O (.iaddr 6 (.k x22) (.k x23)) h 26 λx26 h t5 =>
 vtouch O (.store 6 (.k x26) (.k x25)) h 1000000 λ_ h t6 =>
 bif apartAll [t0,t1,t2,t3,t4,t5,t6] [(1,4)] then
 vbin .add 0 x16 (kI 1) h λx27 h =>
 R 1 [x1,x2,x14,x15,x27] h
 else none)
 (R 2 [x1,x2] h)
theorem e170_1(O R q x1 x2 x14 x15 x16 h):b170_1 O R q x1 x2 x14 x15 x16 h=stepF c170 O R q 1 [x1,x2,x14,x15,x16] h:=by kernel_rfl
def b170_2(O:Oracle)(R:Jump)(q:Nat)(x1 x2:TVal)(h:Heap):Res1 :=
 vload true 6 x1 h λx28 h =>
 vstore 6 x2 x28 h λ_ h =>
 vcell true 6 x2 h λc0=>vfin true q [c0] h
theorem e170_2(O R q x1 x2 h):b170_2 O R q x1 x2 h=stepF c170 O R q 2 [x1,x2] h:=by kernel_rfl
def d170:BlkF:=λO R Q=>[.s λa => .z (b170_0 O R Q a),.s λa => .s λb => .s λc => .s λd => .s λe => .z (b170_1 O R Q a b c d e),.s λa => .s λb => .z (b170_2 O R Q a b)]
theorem o170(O:Oracle)(R:Jump)(q:Nat):HoldsAll c170 O R q 0 (d170 O R q):=⟨e170_0 O R q,e170_1 O R q,e170_2 O R q,trivial⟩
def c171:MFunc:=mkM (compF Tryz.prog (globs2 tabs opq) (λ_=>false) true Tryz.f171) .n
def b171_0(O:Oracle)(R:Jump)(q:Nat)(x0:TVal)(h:Heap):Res1 :=
 vop O (.box (.k x0) false) h 1 λx1 h =>
 vfaddr 0 x1 h λx3 h =>
 vload false 1 x3 h λx4 h =>
 vbin .neq 0 x4 (kI 2) h λx5 h =>
 tcomp x5 λc0=>vfin true q [c0] h
theorem e171_0(O R q x0 h):b171_0 O R q x0 h=stepF c171 O R q 0 [x0] h:=by kernel_rfl
def d171:BlkF:=λO R Q=>[.s λa => .z (b171_0 O R Q a)]
theorem o171(O:Oracle)(R:Jump)(q:Nat):HoldsAll c171 O R q 0 (d171 O R q):=⟨e171_0 O R q,trivial⟩
def c172:MFunc:=mkM (compF Tryz.prog (globs2 tabs opq) (λ_=>false) true Tryz.f172) .n
def b172_0(O:Oracle)(R:Jump)(q:Nat)(x0 x1:TVal)(h:Heap):Res1 :=
 vbin .eql 0 x0 (kS [105,56]) h λx7 h =>
 vif x7 (
 vtoInt .i8 x1 h λx9 h =>
 vtoInt .i64 x9 h λx10 h =>
 tcomp x10 λc0=>vfin true q [c0] h)
 (vbin .eql 0 x0 (kS [105,49,54]) h λx12 h =>
 vif x12 (
 vtoInt .i16 x1 h λx14 h =>
 vtoInt .i64 x14 h λx15 h =>
 tcomp x15 λc0=>vfin true q [c0] h)
 (vbin .eql 0 x0 (kS [105,51,50]) h λx17 h =>
 vif x17 (
 vtoInt .i32 x1 h λx19 h =>
 vtoInt .i64 x19 h λx20 h =>
 tcomp x20 λc0=>vfin true q [c0] h)
 (vbin .eql 0 x0 (kS [117,56]) h λx22 h =>
 vif x22 (
 vtoInt .u8 x1 h λx24 h =>
 vtoInt .i64 x24 h λx25 h =>
 tcomp x25 λc0=>vfin true q [c0] h)
 (vbin .eql 0 x0 (kS [117,49,54]) h λx27 h =>
 vif x27 (
 vtoInt .u16 x1 h λx29 h =>
 vtoInt .i64 x29 h λx30 h =>
 tcomp x30 λc0=>vfin true q [c0] h)
 (vtoInt .u32 x1 h λx32 h =>
 vtoInt .i64 x32 h λx33 h =>
 tcomp x33 λc0=>vfin true q [c0] h)))))
theorem e172_0(O R q x0 x1 h):b172_0 O R q x0 x1 h=stepF c172 O R q 0 [x0,x1] h:=by kernel_rfl
def d172:BlkF:=λO R Q=>[.s λa => .s λb => .z (b172_0 O R Q a b)]
theorem o172(O:Oracle)(R:Jump)(q:Nat):HoldsAll c172 O R q 0 (d172 O R q):=⟨e172_0 O R q,trivial⟩
def c173:MFunc:=mkM (compF Tryz.prog (globs2 tabs opq) (λ_=>false) true Tryz.f173) .n
def b173_0(O:Oracle)(R:Jump)(q:Nat)(x0 x1 x2:TVal)(h:Heap):Res1 :=
 vbin .eql 0 x0 (kS [97,100,100]) h λx9 h =>
 vif x9 (
 vbin .add 0 x1 x2 h λx12 h =>
 tcomp x12 λc0=>vfin true q [c0] h)
 (vbin .eql 0 x0 (kS [115,117,98]) h λx14 h =>
 vif x14 (
 vbin .sub 0 x1 x2 h λx17 h =>
 tcomp x17 λc0=>vfin true q [c0] h)
 (vbin .eql 0 x0 (kS [109,117,108]) h λx19 h =>
 vif x19 (
 vbin .mul 0 x1 x2 h λx22 h =>
 tcomp x22 λc0=>vfin true q [c0] h)
 (vbin .eql 0 x0 (kS [115,104,108]) h λx24 h =>
 vif x24 (
 vtoInt .u64 x2 h λx27 h =>
 vbin .rem 0 x27 (.v (.c (.p (.int .u64 64)))) h λx28 h =>
 vbin .shl 0 x1 x28 h λx29 h =>
 tcomp x29 λc0=>vfin true q [c0] h)
 (vtoInt .u64 x2 h λx32 h =>
 vbin .rem 0 x32 (.v (.c (.p (.int .u64 64)))) h λx33 h =>
 vbin .shr 0 x1 x33 h λx34 h =>
 tcomp x34 λc0=>vfin true q [c0] h))))
theorem e173_0(O R q x0 x1 x2 h):b173_0 O R q x0 x1 x2 h=stepF c173 O R q 0 [x0,x1,x2] h:=by kernel_rfl
def d173:BlkF:=λO R Q=>[.s λa => .s λb => .s λc => .z (b173_0 O R Q a b c)]
theorem o173(O:Oracle)(R:Jump)(q:Nat):HoldsAll c173 O R q 0 (d173 O R q):=⟨e173_0 O R q,trivial⟩
def c184:MFunc:=mkM (compF Tryz.prog (globs2 tabs opq) (λ_=>false) true Tryz.f184) .n
def b184_0(O:Oracle)(R:Jump)(q:Nat)(x0:TVal)(h:Heap):Res1 :=
 vbin .geq 0 x0 (.v (.c (.p (.int .u8 97)))) h λx4 h =>
 vguard x4 true (λkk=>kk x0 h) h λx6 h =>
 vguard x4 true (λkk=>vbin .leq 0 x6 (.v (.c (.p (.int .u8 122)))) h kk) h λx7 h =>
 vop O (.pick (.k x4) (.k x7) (.k (kB false))) h 8 λx8 h =>
 vguard x8 false (λkk=>kk x0 h) h λx10 h =>
 vguard x8 false (λkk=>vbin .geq 0 x10 (.v (.c (.p (.int .u8 65)))) h kk) h λx11 h =>
 vguard x8 false (λkk=>kk x11 h) h λx12 h =>
 vguard x12 true (λkk=>kk x0 h) h λx13 h =>
 vguard x12 true (λkk=>vbin .leq 0 x13 (.v (.c (.p (.int .u8 90)))) h kk) h λx14 h =>
 vguard x8 false (λkk=>vop O (.pick (.k x12) (.k x14) (.k (kB false))) h 15 kk) h λx15 h =>
 vop O (.pick (.k x8) (.k (kB true)) (.k x15)) h 16 λx16 h =>
 vguard x16 false (λkk=>kk x0 h) h λx18 h =>
 vguard x16 false (λkk=>vbin .eql 0 x18 (.v (.c (.p (.int .u8 95)))) h kk) h λx19 h =>
 vop O (.pick (.k x16) (.k (kB true)) (.k x19)) h 20 λx20 h =>
 tcomp x20 λc0=>vfin true q [c0] h
theorem e184_0(O R q x0 h):b184_0 O R q x0 h=stepF c184 O R q 0 [x0] h:=by kernel_rfl
def d184:BlkF:=λO R Q=>[.s λa => .z (b184_0 O R Q a)]
theorem o184(O:Oracle)(R:Jump)(q:Nat):HoldsAll c184 O R q 0 (d184 O R q):=⟨e184_0 O R q,trivial⟩
def c185:MFunc:=mkM (compF Tryz.prog (globs2 tabs opq) (λ_=>false) true Tryz.f185) .n
def b185_0(O:Oracle)(R:Jump)(q:Nat)(x0:TVal)(h:Heap):Res1 :=
 vbin .geq 0 x0 (.v (.c (.p (.int .u8 48)))) h λx4 h =>
 vguard x4 true (λkk=>kk x0 h) h λx6 h =>
 vguard x4 true (λkk=>vbin .leq 0 x6 (.v (.c (.p (.int .u8 57)))) h kk) h λx7 h =>
 vop O (.pick (.k x4) (.k x7) (.k (kB false))) h 8 λx8 h =>
 tcomp x8 λc0=>vfin true q [c0] h
theorem e185_0(O R q x0 h):b185_0 O R q x0 h=stepF c185 O R q 0 [x0] h:=by kernel_rfl
def d185:BlkF:=λO R Q=>[.s λa => .z (b185_0 O R Q a)]
theorem o185(O:Oracle)(R:Jump)(q:Nat):HoldsAll c185 O R q 0 (d185 O R q):=⟨e185_0 O R q,trivial⟩
def c186:MFunc:=mkM (compF Tryz.prog (globs2 tabs opq) (λ_=>false) true Tryz.f186) (.s .n (.s .n (.s .n (.m 1 [0,4] (.s .n (.s .n (.s (.s .n (.k (.l 2 [0,4,5,6] .n))) (.m 3 [0,5] .n))))))))
def b186_0(O:Oracle)(R:Jump)(q:Nat)(x0:TVal)(h:Heap):Res1 :=
 vindex x0 (kI 0) h λx9 h =>
 vbin .eql 0 x9 (.v (.c (.p (.int .u8 45)))) h λx10 h =>
 vif x10 (
 vop O (.slice 0 true (.k x0) (some (.k (kI 1))) none none) h 12 λx12 h =>
 R 1 [x0,x12] h)
 (R 1 [x0,x0] h)
theorem e186_0(O R q x0 h):b186_0 O R q x0 h=stepF c186 O R q 0 [x0] h:=by kernel_rfl
def b186_1(O:Oracle)(R:Jump)(q:Nat)(x0 x4:TVal)(h:Heap):Res1 :=
 vlen O 0 x4 h 14 λx14 h =>
 vbin .gtr 0 x14 (kI 19) h λx15 h =>
 vif x15 (
 tcomp (kI 0) λc0=>tcomp (kI 4) λc1=>vfin true q [c0,c1] h)
 (R 2 [x0,x4,(.v (.c (.p (.int .u64 0)))),(kI 0)] h)
theorem e186_1(O R q x0 x4 h):b186_1 O R q x0 x4 h=stepF c186 O R q 1 [x0,x4] h:=by kernel_rfl
def b186_2(O:Oracle)(R:Jump)(q:Nat)(x0 x4 x5 x6:TVal)(h:Heap):Res1 :=
 vlen O 0 x4 h 18 λx18 h =>
 vbin .lss 0 x6 x18 h λx19 h =>
 vif x19 (
 vbin .mul 0 x5 (.v (.c (.p (.int .u64 10)))) h λx23 h =>
 vindex x4 x6 h λx26 h =>
 vbin .sub 0 x26 (.v (.c (.p (.int .u8 48)))) h λx27 h =>
 vtoInt .u64 x27 h λx28 h =>
 vbin .add 0 x23 x28 h λx29 h =>
 vbin .add 0 x6 (kI 1) h λx21 h =>
 R 2 [x0,x4,x29,x21] h)
 (R 3 [x0,x5] h)
theorem e186_2(O R q x0 x4 x5 x6 h):b186_2 O R q x0 x4 x5 x6 h=stepF c186 O R q 2 [x0,x4,x5,x6] h:=by kernel_rfl
def b186_3(O:Oracle)(R:Jump)(q:Nat)(x0 x5:TVal)(h:Heap):Res1 :=
 vindex x0 (kI 0) h λx31 h =>
 vbin .eql 0 x31 (.v (.c (.p (.int .u8 45)))) h λx32 h =>
 vif x32 (
 vbin .gtr 0 x5 (.v (.c (.p (.int .u64 9223372036854775808)))) h λx34 h =>
 vif x34 (
 tcomp (kI 0) λc0=>tcomp (kI 11) λc1=>vfin true q [c0,c1] h)
 (vop O (.un .neg (.k x5)) h 36 λx36 h =>
 vtoInt .i64 x36 h λx37 h =>
 tcomp x37 λc0=>tcomp (kI 0) λc1=>vfin true q [c0,c1] h))
 (vbin .gtr 0 x5 (.v (.c (.p (.int .u64 9223372036854775807)))) h λx39 h =>
 vif x39 (
 tcomp (kI 0) λc0=>tcomp (kI 11) λc1=>vfin true q [c0,c1] h)
 (vtoInt .i64 x5 h λx41 h =>
 tcomp x41 λc0=>tcomp (kI 0) λc1=>vfin true q [c0,c1] h))
theorem e186_3(O R q x0 x5 h):b186_3 O R q x0 x5 h=stepF c186 O R q 3 [x0,x5] h:=by kernel_rfl
def d186:BlkF:=λO R Q=>[.s λa => .z (b186_0 O R Q a),.s λa => .s λb => .z (b186_1 O R Q a b),.s λa => .s λb => .s λc => .s λd => .z (b186_2 O R Q a b c d),.s λa => .s λb => .z (b186_3 O R Q a b)]
theorem o186(O:Oracle)(R:Jump)(q:Nat):HoldsAll c186 O R q 0 (d186 O R q):=⟨e186_0 O R q,e186_1 O R q,e186_2 O R q,e186_3 O R q,trivial⟩
def c187:MFunc:=mkM (compF Tryz.prog (globs2 tabs opq) (λ_=>false) true Tryz.f187) (.s .n (.s .n (.s .n (.s (.k (.l 1 [0,1,6] (.s .n (.k (.s .n (.s .n (.s .n (.s (.s .n (.k (.s .n (.m 2 [0,1,6,46,47] .n)))) (.m 3 [0,1,6] .n))))))))) .n))))
def b187_0(O:Oracle)(R:Jump)(q:Nat)(x0 x1:TVal)(h:Heap):Res1 :=
 vbin .add 0 x1 (kI 1) h λx9 h =>
 R 1 [x0,x9,(kS [])] h
theorem e187_0(O R q x0 x1 h):b187_0 O R q x0 x1 h=stepF c187 O R q 0 [x0,x1] h:=by kernel_rfl
def b187_1(O:Oracle)(R:Jump)(q:Nat)(x0 x1 x6:TVal)(h:Heap):Res1 :=
 vlen O 0 x0 h 12 λx12 h =>
 vbin .lss 0 x1 x12 h λx13 h =>
 vif x13 (
 vindex x0 x1 h λx16 h =>
 vbin .eql 0 x16 (.v (.c (.p (.int .u8 34)))) h λx19 h =>
 vif x19 (
 vbin .add 0 x1 (kI 1) h λx22 h =>
 tcomp x6 λc0=>tcomp x22 λc1=>vfin true q [c0,c1] h)
 (vbin .lss 0 x16 (.v (.c (.p (.int .u8 32)))) h λx25 h =>
 vif x25 (
 tcomp (kS []) λc0=>tcomp (kI (-1)) λc1=>vfin true q [c0,c1] h)
 (vbin .neq 0 x16 (.v (.c (.p (.int .u8 92)))) h λx28 h =>
 vif x28 (
 vbin .add 0 x1 (kI 1) h λx33 h =>
 vop O (.slice 0 true (.k x0) (some (.k x1)) (some (.k x33)) none) h 34 λx34 h =>
 vbin .add 0 x6 x34 h λx35 h =>
 vbin .add 0 x1 (kI 1) h λx37 h =>
 R 1 [x0,x37,x35] h)
 (vbin .add 0 x1 (kI 1) h λx39 h =>
 vlen O 0 x0 h 41 λx41 h =>
 vbin .geq 0 x39 x41 h λx42 h =>
 vif x42 (
 tcomp (kS []) λc0=>tcomp (kI (-1)) λc1=>vfin true q [c0,c1] h)
 (vbin .add 0 x1 (kI 1) h λx45 h =>
 vindex x0 x45 h λx46 h =>
 vbin .eql 0 x46 (.v (.c (.p (.int .u8 92)))) h λx48 h =>
 vif x48 (
 R 2 [x0,x1,x6,x46,x48] h)
 (vbin .eql 0 x46 (.v (.c (.p (.int .u8 34)))) h λx49 h =>
 R 2 [x0,x1,x6,x46,x49] h))))))
 (tcomp (kS []) λc0=>tcomp (kI (-1)) λc1=>vfin true q [c0,c1] h)
theorem e187_1(O R q x0 x1 x6 h):b187_1 O R q x0 x1 x6 h=stepF c187 O R q 1 [x0,x1,x6] h:=by kernel_rfl
def b187_2(O:Oracle)(R:Jump)(q:Nat)(x0 x1 x6 x46 x47:TVal)(h:Heap):Res1 :=
 vif x47 (
 vbin .add 0 x1 (kI 1) h λx53 h =>
 vbin .add 0 x1 (kI 2) h λx55 h =>
 vop O (.slice 0 true (.k x0) (some (.k x53)) (some (.k x55)) none) h 56 λx56 h =>
 vbin .add 0 x6 x56 h λx57 h =>
 R 3 [x0,x1,x57] h)
 (vbin .eql 0 x46 (.v (.c (.p (.int .u8 110)))) h λx59 h =>
 vif x59 (
 vbin .add 0 x6 (kS [10]) h λx61 h =>
 R 3 [x0,x1,x61] h)
 (vbin .eql 0 x46 (.v (.c (.p (.int .u8 116)))) h λx63 h =>
 vif x63 (
 vbin .add 0 x6 (kS [9]) h λx65 h =>
 R 3 [x0,x1,x65] h)
 (tcomp (kS []) λc0=>tcomp (kI (-1)) λc1=>vfin true q [c0,c1] h)))
theorem e187_2(O R q x0 x1 x6 x46 x47 h):b187_2 O R q x0 x1 x6 x46 x47 h=stepF c187 O R q 2 [x0,x1,x6,x46,x47] h:=by kernel_rfl
def b187_3(O:Oracle)(R:Jump)(q:Nat)(x0 x1 x6:TVal)(h:Heap):Res1 :=
 vbin .add 0 x1 (kI 2) h λx67 h =>
 R 1 [x0,x67,x6] h
theorem e187_3(O R q x0 x1 x6 h):b187_3 O R q x0 x1 x6 h=stepF c187 O R q 3 [x0,x1,x6] h:=by kernel_rfl
def d187:BlkF:=λO R Q=>[.s λa => .s λb => .z (b187_0 O R Q a b),.s λa => .s λb => .s λc => .z (b187_1 O R Q a b c),.s λa => .s λb => .s λc => .s λd => .s λe => .z (b187_2 O R Q a b c d e),.s λa => .s λb => .s λc => .z (b187_3 O R Q a b c)]
theorem o187(O:Oracle)(R:Jump)(q:Nat):HoldsAll c187 O R q 0 (d187 O R q):=⟨e187_0 O R q,e187_1 O R q,e187_2 O R q,e187_3 O R q,trivial⟩
def c188:MFunc:=mkM (compF Tryz.prog (globs2 tabs opq) (λ_=>false) true Tryz.f188) (.s .n (.s .n (.s .n (.s .n (.m 1 [1,3] (.s (.s .n (.k (.l 2 [1,3,4] .n))) (.m 3 [3] .n)))))))
def b188_0(O:Oracle)(R:Jump)(q:Nat)(x0:TVal)(h:Heap):Res1 :=
 vop O (.box (.k x0) false) h 1 λx1 h =>
 vfaddr 0 x1 h λx5 h =>
 vload false 1 x5 h λx6 h =>
 vbin .eql 0 x6 (kI 2) h λx8 h =>
 vif x8 (
 vfaddr 3 x1 h λx9 h =>
 vload false 1 x9 h λx10 h =>
 vcall O (.v (.c (.func 122 []))) [x10] h 11 λx11 h =>
 tcomp x11 λc0=>vfin true q [c0] h)
 (vbin .eql 0 x6 (kI 3) h λx13 h =>
 vif x13 (
 vfaddr 4 x1 h λx14 h =>
 vload false 1 x14 h λx15 h =>
 vcall O (.v (.c (.func 245 []))) [x15] h 16 λx16 h =>
 tcomp x16 λc0=>vfin true q [c0] h)
 (vbin .eql 0 x6 (kI 4) h λx18 h =>
 vif x18 (
 vfaddr 5 x1 h λx19 h =>
 vload false 1 x19 h λx20 h =>
 vif x20 (
 tcomp (kS [116,114,117,101]) λc0=>vfin true q [c0] h)
 (tcomp (kS [102,97,108,115,101]) λc0=>vfin true q [c0] h))
 (vbin .eql 0 x6 (kI 5) h λx22 h =>
 vif x22 (
 vfaddr 6 x1 h λx23 h =>
 vload false 1 x23 h λx24 h =>
 vcall O (.v (.c (.func 121 []))) [x24] h 25 λx25 h =>
 vbin .add 0 (kS [40]) x25 h λx26 h =>
 vbin .add 0 x26 (kS [41]) h λx27 h =>
 tcomp x27 λc0=>vfin true q [c0] h)
 (vbin .eql 0 x6 (kI 6) h λx29 h =>
 vif x29 (
 vfaddr 3 x1 h λx30 h =>
 vload false 1 x30 h λx31 h =>
 tcomp x31 λc0=>vfin true q [c0] h)
 (vfaddr 1 x1 h λx32 h =>
 vload false 1 x32 h λx33 h =>
 vbin .neq 0 x33 (kS []) h λx34 h =>
 vif x34 (
 vfaddr 1 x1 h λx35 h =>
 vload false 1 x35 h λx36 h =>
 vbin .add 0 (kS [36]) x36 h λx37 h =>
 R 1 [x1,x37] h)
 (R 1 [x1,(kS [])] h))))))
theorem e188_0(O R q x0 h):b188_0 O R q x0 h=stepF c188 O R q 0 [x0] h:=by kernel_rfl
def b188_1(O:Oracle)(R:Jump)(q:Nat)(x1 x3:TVal)(h:Heap):Res1 :=
 R 2 [x1,x3,(kI 0)] h
theorem e188_1(O R q x1 x3 h):b188_1 O R q x1 x3 h=stepF c188 O R q 1 [x1,x3] h:=by kernel_rfl
def b188_2(O:Oracle)(R:Jump)(q:Nat)(x1 x3 x4:TVal)(h:Heap):Res1 :=
 vfaddr 2 x1 h λx39 h =>
 vload false 1 x39 h λx40 h =>
 vlen O 2 x40 h 41 λx41 h =>
 vbin .lss 0 x4 x41 h λx42 h =>
 vif x42 (
 vbin .add 0 x3 (kS [46]) h λx46 h =>
 vfaddr 2 x1 h λx47 h =>
 vload false 1 x47 h λx48 h =>
 viaddr 1 x48 x4 h λx50 h =>
 vload false 1 x50 h λx51 h =>
 vbin .add 0 x46 x51 h λx52 h =>
 vbin .add 0 x4 (kI 1) h λx44 h =>
 R 2 [x1,x52,x44] h)
 (R 3 [x3] h)
theorem e188_2(O R q x1 x3 x4 h):b188_2 O R q x1 x3 x4 h=stepF c188 O R q 2 [x1,x3,x4] h:=by kernel_rfl
def b188_3(O:Oracle)(R:Jump)(q:Nat)(x3:TVal)(h:Heap):Res1 :=
 vbin .eql 0 x3 (kS []) h λx54 h =>
 vif x54 (
 tcomp (kS [46]) λc0=>vfin true q [c0] h)
 (tcomp x3 λc0=>vfin true q [c0] h)
theorem e188_3(O R q x3 h):b188_3 O R q x3 h=stepF c188 O R q 3 [x3] h:=by kernel_rfl
def d188:BlkF:=λO R Q=>[.s λa => .z (b188_0 O R Q a),.s λa => .s λb => .z (b188_1 O R Q a b),.s λa => .s λb => .s λc => .z (b188_2 O R Q a b c),.s λa => .z (b188_3 O R Q a)]
theorem o188(O:Oracle)(R:Jump)(q:Nat):HoldsAll c188 O R q 0 (d188 O R q):=⟨e188_0 O R q,e188_1 O R q,e188_2 O R q,e188_3 O R q,trivial⟩
def c189:MFunc:=mkM (compF Tryz.prog (globs2 tabs opq) (λ_=>false) true Tryz.f189) (.s .n (.s .n (.s .n (.s (.k (.l 1 [0,1,4,5] .n)) (.m 2 [4,5] .n)))))
def b189_0(O:Oracle)(R:Jump)(q:Nat)(x0 x1:TVal)(h:Heap):Res1 :=
 vop O (.alloc [(.p .nilslice)] false) h 4 λx4 h =>
 vcall O (.v (.c (.func 124 []))) [x0,(kI 1)] h 7 λx7 h =>
 vop O (.un .not (.k x7)) h 8 λx8 h =>
 vguard x8 false (λkk=>kk x0 h) h λx10 h =>
 vguard x8 false (λkk=>vop O (.nilck (.k x10)) h 11 kk) h λx11 h =>
 vguard x8 false (λkk=>vfaddr 0 x11 h kk) h λx12 h =>
 vguard x8 false (λkk=>vload false 1 x12 h kk) h λx13 h =>
 vguard x8 false (λkk=>kk x0 h) h λx14 h =>
 vguard x8 false (λkk=>vop O (.nilck (.k x14)) h 15 kk) h λx15 h =>
 vguard x8 false (λkk=>vfaddr 1 x15 h kk) h λx16 h =>
 vguard x8 false (λkk=>vload false 1 x16 h kk) h λx17 h =>
 vguard x8 false (λkk=>viaddr 4 x13 x17 h kk) h λx18 h =>
 vguard x8 false (λkk=>vfaddr 1 x18 h kk) h λx19 h =>
 vguard x8 false (λkk=>vload false 1 x19 h kk) h λx20 h =>
 vguard x8 false (λkk=>vcall O (.v (.c (.func 125 []))) [x20] h 21 kk) h λx21 h =>
 vop O (.pick (.k x8) (.k (kB true)) (.k x21)) h 22 λx22 h =>
 vif x22 (
 vcall O (.v (.c (.func 246 []))) [x0,x1] h 25 λx25 h =>
 vop O (.bslice 7 1 [(.p (.int .i64 0)),(.p (.str [])),(.p .nilslice),(.p (.str [])),(.p (.int .i64 0)),(.p (.bool false)),(.p .nilslice)] [(0,(.k x25))] false) h 26 λx26 h =>
 vop O (.build [(.p .nilslice)] [(0,1,(.k x26))]) h 27 λx27 h =>
 vstore 1 x4 x27 h λ_ h =>
 vcell true 1 x4 h λc0=>vfin true q [c0] h)
 (vcall O (.v (.c (.func 128 []))) [x0,(kI 1)] h 29 λx29 h =>
 vfield 1 1 false x29 h λx30 h =>
 vop O (.build [(.p (.int .i64 0)),(.p (.str [])),(.p .nilslice),(.p (.str [])),(.p (.int .i64 0)),(.p (.bool false)),(.p .nilslice)] [(0,1,(.k (kI 6))),(3,1,(.k x30))]) h 31 λx31 h =>
 vop O (.bslice 7 1 [(.p (.int .i64 0)),(.p (.str [])),(.p .nilslice),(.p (.str [])),(.p (.int .i64 0)),(.p (.bool false)),(.p .nilslice)] [(0,(.k x31))] false) h 32 λx32 h =>
 vop O (.build [(.p .nilslice)] [(0,1,(.k x32))]) h 33 λx33 h =>
 vop O (.alloc [(.p .nilslice)] false) h 5 λx5 h =>
 vstore 1 x5 x33 h λ_ h =>
 R 1 [x0,x1,x4,x5] h)
theorem e189_0(O R q x0 x1 h):b189_0 O R q x0 x1 h=stepF c189 O R q 0 [x0,x1] h:=by kernel_rfl
def b189_1(O:Oracle)(R:Jump)(q:Nat)(x0 x1 x4 x5:TVal)(h:Heap):Res1 :=
 vcall O (.v (.c (.func 247 []))) [x0] h 35 λx35 h =>
 vif x35 (
 vfaddr 0 x5 h λx36 h =>
 vload false 1 x36 h λx37 h =>
 vlen O 2 x37 h 38 λx38 h =>
 vbin .gtr 0 x38 (kI 4) h λx39 h =>
 vif x39 (
 vcall O (.v (.c (.func 190 []))) [x0,(kI 18)] h 41 λx41 h =>
 vload true 1 x5 h λx42 h =>
 vstore 1 x4 x42 h λ_ h =>
 vcell true 1 x4 h λc0=>vfin true q [c0] h)
 (vtouch O (.faddr 0 (.k x5)) h 43 λx43 h t0 =>
 vtouch O (.load false 1 (.k x43)) h 44 λx44 h t1 =>
 vtouch O (.mv (.k x0)) h 45 λx45 h t2 =>
 vtouch O (.mv (.k x1)) h 46 λx46 h t3 =>
 vtouch O (.call (.k (.v (.c (.func 246 [])))) [(.k x45),(.k x46)]) h 47 λx47 h t4 =>
 vtouch O (.bslice 7 1 [(.p (.int .i64 0)),(.p (.str [])),(.p .nilslice),(.p (.str [])),(.p (.int .i64 0)),(.p (.bool false)),(.p .nilslice)] [(0,(.k x47))] false) h 48 λx48 h t5 =>
 vtouch O (.append 7 104 false (.k x44) (.k x48)) h 49 λx49 h t6 =>
 vtouch O (.faddr 0 (.k x5)) h 50 λx50 h t7 =>
 vtouch O (.store 1 (.k x50) (.k x49)) h 1000000 λ_ h t8 =>
 bif apartAll [t0,t1,t2,t3,t4,t5,t6,t7,t8] [(1,4),(1,5)] then
 R 1 [x0,x1,x4,x5] h
 else none))
 (R 2 [x4,x5] h)
theorem e189_1(O R q x0 x1 x4 x5 h):b189_1 O R q x0 x1 x4 x5 h=stepF c189 O R q 1 [x0,x1,x4,x5] h:=by kernel_rfl
def b189_2(O:Oracle)(R:Jump)(q:Nat)(x4 x5:TVal)(h:Heap):Res1 :=
 vload true 1 x5 h λx51 h =>
 vstore 1 x4 x51 h λ_ h =>
 vcell true 1 x4 h λc0=>vfin true q [c0] h
theorem e189_2(O R q x4 x5 h):b189_2 O R q x4 x5 h=stepF c189 O R q 2 [x4,x5] h:=by kernel_rfl
def d189:BlkF:=λO R Q=>[.s λa => .s λb => .z (b189_0 O R Q a b),.s λa => .s λb => .s λc => .s λd => .z (b189_1 O R Q a b c d),.s λa => .s λb => .z (b189_2 O R Q a b)]
theorem o189(O:Oracle)(R:Jump)(q:Nat):HoldsAll c189 O R q 0 (d189 O R q):=⟨e189_0 O R q,e189_1 O R q,e189_2 O R q,trivial⟩
def c190:MFunc:=mkM (compF Tryz.prog (globs2 tabs opq) (λ_=>false) true Tryz.f190) .n
def b190_0(O:Oracle)(R:Jump)(q:Nat)(x0 x1:TVal)(h:Heap):Res1 :=
 vop O (.nilck (.k x0)) h 5 λx5 h =>
 vfaddr 2 x5 h λx6 h =>
 vload false 1 x6 h λx7 h =>
 vbin .eql 0 x7 (kI 0) h λx8 h =>
 vif x8 (
 vop O (.nilck (.k x0)) h 11 λx11 h =>
 vfaddr 2 x11 h λx12 h =>
 vstore 1 x12 x1 h λ_ h =>
 vfin true q [] h)
 (vfin true q [] h)
theorem e190_0(O R q x0 x1 h):b190_0 O R q x0 x1 h=stepF c190 O R q 0 [x0,x1] h:=by kernel_rfl
def d190:BlkF:=λO R Q=>[.s λa => .s λb => .z (b190_0 O R Q a b)]
theorem o190(O:Oracle)(R:Jump)(q:Nat):HoldsAll c190 O R q 0 (d190 O R q):=⟨e190_0 O R q,trivial⟩
end
end Go.Proofs.YtnlmlcfipbnpgaaGreatDoor.Ab
