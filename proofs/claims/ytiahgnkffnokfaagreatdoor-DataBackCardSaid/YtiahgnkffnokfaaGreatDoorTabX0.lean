/- Functions of the given program as the abstract interpreter has them (part 0),printed by a program of our own; each is shown to be what 'compF' makes of the given program's. No condition. -/
import Derived.Test.YtiahgnkffnokfaaGreatDoorChecked
import Derived.Test.YtiahgnkffnokfaaGreatDoorAd
namespace Go.Proofs.YtiahgnkffnokfaaGreatDoor.Ab
open Go Go.AI
noncomputable section
set_option linter.all false
set_option linter.unusedVariables false
set_option maxRecDepth 100000
def z0a4518d3:List UInt8:=[0,1,2,2,3,3,3,3,4,4,4,4,4,4,4,4,5,5,5,5,5,5,5,5,5,5,5,5,5,5,5,5,6,6,6,6,6,6,6,6,6,6,6,6,6,6,6,6,6,6,6,6,6,6,6,6,6,6,6,6,6,6,6,6,7,7,7,7,7,7,7,7,7,7,7,7,7,7,7,7,7,7,7,7,7,7,7,7,7,7,7,7,7,7,7,7,7,7,7,7,7,7,7,7,7,7,7,7,7,7,7,7,7,7,7,7,7,7,7,7,7,7,7,7,7,7,7,7,8,8,8,8,8,8,8,8,8,8,8,8,8,8,8,8,8,8,8,8,8,8,8,8,8,8,8,8,8,8,8,8,8,8,8,8,8,8,8,8,8,8,8,8,8,8,8,8,8,8,8,8,8,8,8,8,8,8,8,8,8,8,8,8,8,8,8,8,8,8,8,8,8,8,8,8,8,8,8,8,8,8,8,8,8,8,8,8,8,8,8,8,8,8,8,8,8,8,8,8,8,8,8,8,8,8,8,8,8,8,8,8,8,8,8,8,8,8,8,8,8,8,8,8,8,8,8,8]
def z53fdd7c2:List UInt8:=[48,48,48,49,48,50,48,51,48,52,48,53,48,54,48,55,48,56,48,57,49,48,49,49,49,50,49,51,49,52,49,53,49,54,49,55,49,56,49,57,50,48,50,49,50,50,50,51,50,52,50,53,50,54,50,55,50,56,50,57,51,48,51,49,51,50,51,51,51,52,51,53,51,54,51,55,51,56,51,57,52,48,52,49,52,50,52,51,52,52,52,53,52,54,52,55,52,56,52,57,53,48,53,49,53,50,53,51,53,52,53,53,53,54,53,55,53,56,53,57,54,48,54,49,54,50,54,51,54,52,54,53,54,54,54,55,54,56,54,57,55,48,55,49,55,50,55,51,55,52,55,53,55,54,55,55,55,56,55,57,56,48,56,49,56,50,56,51,56,52,56,53,56,54,56,55,56,56,56,57,57,48,57,49,57,50,57,51,57,52,57,53,57,54,57,55,57,56,57,57]
def vals0:List Int:=[0,1,28,2,29,14,24,3,30,22,20,15,25,17,4,8,31,27,13,23,21,19,16,7,26,12,18,6,11,5,10,9]
def tabs:List Tabl:=[Tabl.mk "math/bits.deBruijn32tab" 4 .u8 [0,1,28,2,29,14,24,3,30,22,20,15,25,17,4,8,31,27,13,23,21,19,16,7,26,12,18,6,11,5,10,9],Tabl.mk "math/bits.deBruijn64tab" 5 .u8 [0,1,56,2,57,49,28,3,61,58,42,50,38,29,17,4,62,47,59,36,45,43,51,22,53,39,33,30,24,18,12,5,63,55,48,27,60,41,37,16,46,35,44,21,52,32,23,11,54,26,40,15,34,20,31,10,25,14,19,9,13,8,7,6],Tabl.mk "internal/strconv.uint64pow10" 0 .u64 [1,10,100,1000,10000,100000,1000000,10000000,100000000,1000000000,10000000000,100000000000,1000000000000,10000000000000,100000000000000,1000000000000000,10000000000000000,100000000000000000,1000000000000000000,10000000000000000000]]
def opq:Option Nat:=some 1
def c8:MFunc:=mkM (compF Tryz.prog (globs2 tabs opq) (fun _=>false) true Tryz.f8) .n
def b8_0(O:Oracle)(R:Jump)(q:Nat)(x0 x1:TVal)(h:Heap):Res1 :=
 vop O (.box (.k x0) false) h 2 fun x2 h =>
 vop O (.box (.k x1) false) h 3 fun x3 h =>
 vcall O (.v (.c (.func 11 []))) [] h 10 fun x10 h =>
 vop O (.un .not (.k x10)) h 11 fun x11 h =>
 vif x11 (
 tcomp (kB false) fun c0=>vfin true q [c0] h)
 (vload true 5 x2 h fun x12 h =>
 vcall O (.v (.c (.func 15 []))) [x12,(kI 80)] h 13 fun x13 h =>
 vbin .eql 0 x13 (kI 0) h fun x14 h =>
 vguard x14 false (fun kk=>vload true 5 x3 h kk) h fun x16 h =>
 vguard x14 false (fun kk=>vcall O (.v (.c (.func 15 []))) [x16,(kI 80)] h 17 kk) h fun x17 h =>
 vguard x14 false (fun kk=>vbin .eql 0 x17 (kI 0) h kk) h fun x18 h =>
 vop O (.pick (.k x14) (.k (kB true)) (.k x18)) h 19 fun x19 h =>
 vif x19 (
 tcomp (kB true) fun c0=>vfin true q [c0] h)
 (vtouch O (.load true 5 (.k x2)) h 20 fun x20 h t0 =>
 vtouch O (.call (.k (.v (.c (.func 16 [])))) [(.k x20),(.k (kI 12))]) h 21 fun x21 h t1 =>
 vtouch O (.load true 5 (.k x3)) h 22 fun x22 h t2 =>
 vtouch O (.call (.k (.v (.c (.func 16 [])))) [(.k x22),(.k (kI 12))]) h 23 fun x23 h t3 =>
 vtouch O (.alloc [(.p (.int .i64 0)),(.p (.bool false)),(.p (.int .i64 0)),(.p (.str [])),(.p .nilslice),(.p .nilslice)] false) h 5 fun x5 h t4 =>
 vtouch O (.alloc [(.p (.int .i64 0)),(.p (.bool false)),(.p (.int .i64 0)),(.p (.str [])),(.p .nilslice),(.p .nilslice)] false) h 6 fun x6 h t5 =>
 vtouch O (.store 6 (.k x5) (.k x21)) h 1000000 fun _ h t6 =>
 vtouch O (.store 6 (.k x6) (.k x23)) h 1000000 fun _ h t7 =>
 bif apartAll [t0,t1,t2,t3,t4,t5,t6,t7] [(1,2),(0,4),(1,4),(2,4),(3,4),(0,5),(1,5),(2,5),(3,5),(4,5)] then
 vload true 6 x5 h fun x24 h =>
 vcall O (.v (.c (.func 14 []))) [x24] h 25 fun x25 h =>
 vcall O (.v (.c (.func 13 []))) [x25] h 28 fun x28 h =>
 vext x28 0 h fun x29 h =>
 vext x28 1 h fun x30 h =>
 vop O (.alloc [(.p (.int .i64 0)),(.p (.bool false)),(.p (.int .i64 0)),(.p (.str [])),(.p .nilslice),(.p .nilslice)] false) h 8 fun x8 h =>
 vstore 6 x8 x29 h fun _ h =>
 vtouch O (.mv (.k x25)) h 31 fun x31 h t0 =>
 vtouch O (.load true 6 (.k x5)) h 32 fun x32 h t1 =>
 vtouch O (.call (.k (.v (.c (.func 21 [])))) [(.k x32)]) h 33 fun x33 h t2 =>
 vtouch O (.bin .eql 0 (.k x31) (.k x33)) h 34 fun x34 h t3 =>
 vtouch O (.mv (.k x34)) h 35 fun x35 h t4 =>
 vguardT x35 true (fun kk=>vtouch O (.mv (.k x30)) h 36 kk) h fun x36 h t5 =>
 vguardT x35 true (fun kk=>vtouch O (.bin .eql 0 (.k x36) (.k (kI 0))) h 37 kk) h fun x37 h t6 =>
 vtouch O (.pick (.k x35) (.k x37) (.k (kB false))) h 38 fun x38 h t7 =>
 vtouch O (.mv (.k x38)) h 39 fun x39 h t8 =>
 vguardT x39 true (fun kk=>vtouch O (.load true 6 (.k x8)) h 40 kk) h fun x40 h t9 =>
 vguardT x39 true (fun kk=>vtouch O (.load true 6 (.k x5)) h 41 kk) h fun x41 h t10 =>
 vguardT x39 true (fun kk=>vtouch O (.call (.k (.v (.c (.func 20 [])))) [(.k x40),(.k x41)]) h 42 kk) h fun x42 h t11 =>
 vtouch O (.pick (.k x39) (.k x42) (.k (kB false))) h 43 fun x43 h t12 =>
 vtouch O (.mv (.k x43)) h 44 fun x44 h t13 =>
 vguardT x44 true (fun kk=>vtouch O (.load true 6 (.k x8)) h 45 kk) h fun x45 h t14 =>
 vguardT x44 true (fun kk=>vtouch O (.load true 6 (.k x5)) h 46 kk) h fun x46 h t15 =>
 vguardT x44 true (fun kk=>vtouch O (.call (.k (.v (.c (.func 17 [])))) [(.k x45),(.k x46)]) h 47 kk) h fun x47 h t16 =>
 vtouch O (.pick (.k x44) (.k x47) (.k (kB false))) h 48 fun x48 h t17 =>
 vtouch O (.mv (.k x48)) h 49 fun x49 h t18 =>
 vguardT x49 true (fun kk=>vtouch O (.load true 6 (.k x5)) h 50 kk) h fun x50 h t19 =>
 vguardT x49 true (fun kk=>vtouch O (.load true 6 (.k x6)) h 51 kk) h fun x51 h t20 =>
 vguardT x49 true (fun kk=>vtouch O (.call (.k (.v (.c (.func 17 [])))) [(.k x50),(.k x51)]) h 52 kk) h fun x52 h t21 =>
 vguardT x49 true (fun kk=>vtouch O (.mv (.k x25)) h 53 kk) h fun x53 h t22 =>
 vguardT x49 true (fun kk=>vtouch O (.load true 6 (.k x6)) h 54 kk) h fun x54 h t23 =>
 vguardT x49 true (fun kk=>vtouch O (.call (.k (.v (.c (.func 21 [])))) [(.k x54)]) h 55 kk) h fun x55 h t24 =>
 vguardT x49 true (fun kk=>vtouch O (.bin .eql 0 (.k x53) (.k x55)) h 56 kk) h fun x56 h t25 =>
 vguardT x49 true (fun kk=>vtouch O (.bin .eql 5 (.k x52) (.k x56)) h 57 kk) h fun x57 h t26 =>
 vtouch O (.pick (.k x49) (.k x57) (.k (kB false))) h 58 fun x58 h t27 =>
 vtouch O (.mv (.k x58)) h 59 fun x59 h t28 =>
 vguardT x59 true (fun kk=>vtouch O (.load true 6 (.k x5)) h 60 kk) h fun x60 h t29 =>
 vguardT x59 true (fun kk=>vtouch O (.load true 6 (.k x6)) h 61 kk) h fun x61 h t30 =>
 vguardT x59 true (fun kk=>vtouch O (.call (.k (.v (.c (.func 17 [])))) [(.k x60),(.k x61)]) h 62 kk) h fun x62 h t31 =>
 vguardT x59 true (fun kk=>vtouch O (.load true 6 (.k x5)) h 63 kk) h fun x63 h t32 =>
 vguardT x59 true (fun kk=>vtouch O (.load true 6 (.k x6)) h 64 kk) h fun x64 h t33 =>
 vguardT x59 true (fun kk=>vtouch O (.call (.k (.v (.c (.func 20 [])))) [(.k x63),(.k x64)]) h 65 kk) h fun x65 h t34 =>
 vguardT x59 true (fun kk=>vtouch O (.bin .eql 5 (.k x62) (.k x65)) h 66 kk) h fun x66 h t35 =>
 vtouch O (.pick (.k x59) (.k x66) (.k (kB false))) h 67 fun x67 h t36 =>
 vtouch O (.mv (.k x67)) h 4 fun x4 h t37 =>
 bif apartAll [t0,t1,t2,t3,t4,t5,t6,t7,t8,t9,t10,t11,t12,t13,t14,t15,t16,t17,t18,t19,t20,t21,t22,t23,t24,t25,t26,t27,t28,t29,t30,t31,t32,t33,t34,t35,t36,t37] [(21,23),(31,32),(31,33)] then
 tcomp x4 fun c0=>vfin true q [c0] h
 else none
 else none))
theorem e8_0(O:Oracle)(R:Jump)(q:Nat)(x0 x1:TVal)(h:Heap):b8_0 O R q x0 x1 h=stepF c8 O R q 0 [x0,x1] h:=by kernel_rfl
def d8:BlkF:=fun O R Q=>[.s fun a => .s fun b => .z (b8_0 O R Q a b)]
theorem o8(O:Oracle)(R:Jump)(q:Nat):HoldsAll c8 O R q 0 (d8 O R q):=⟨e8_0 O R q,trivial⟩
def c11:MFunc:=mkM (compF Tryz.prog (globs2 tabs opq) (fun _=>false) true Tryz.f11) .n
def b11_0(O:Oracle)(R:Jump)(q:Nat)(h:Heap):Res1 :=
 vcall O (.v (.c (.func 13 []))) [(kS [123,34,98,34,58,32,49,44,32,34,97,34,58,32,91,93,125])] h 4 fun x4 h =>
 vext x4 0 h fun x5 h =>
 vext x4 1 h fun x6 h =>
 vop O (.alloc [(.p (.int .i64 0)),(.p (.bool false)),(.p (.int .i64 0)),(.p (.str [])),(.p .nilslice),(.p .nilslice)] false) h 1 fun x1 h =>
 vstore 6 x1 x5 h fun _ h =>
 vbin .eql 0 x6 (kI 0) h fun x8 h =>
 vguard x8 true (fun kk=>vload true 6 x1 h kk) h fun x10 h =>
 vguard x8 true (fun kk=>vcall O (.v (.c (.func 14 []))) [x10] h 11 kk) h fun x11 h =>
 vguard x8 true (fun kk=>vbin .eql 0 x11 (kS [123,34,97,34,58,91,93,44,34,98,34,58,49,125]) h kk) h fun x12 h =>
 vop O (.pick (.k x8) (.k x12) (.k (kB false))) h 13 fun x13 h =>
 tcomp x13 fun c0=>vfin true q [c0] h
theorem e11_0(O:Oracle)(R:Jump)(q:Nat)(h:Heap):b11_0 O R q  h=stepF c11 O R q 0 [] h:=by kernel_rfl
def d11:BlkF:=fun O R Q=>[.z (b11_0 O R Q )]
theorem o11(O:Oracle)(R:Jump)(q:Nat):HoldsAll c11 O R q 0 (d11 O R q):=⟨e11_0 O R q,trivial⟩
def c12:MFunc:=mkM (compF Tryz.prog (globs2 tabs opq) (fun _=>false) true Tryz.f12) .n
def b12_0(O:Oracle)(R:Jump)(q:Nat)(x0 x1:TVal)(h:Heap):Res1 :=
 vbin .rem 0 x0 x1 h fun x8 h =>
 vbin .lss 0 x8 (kI 0) h fun x10 h =>
 vif x10 (
 vbin .add 0 x8 x1 h fun x13 h =>
 tcomp x13 fun c0=>vfin true q [c0] h)
 (tcomp x8 fun c0=>vfin true q [c0] h)
theorem e12_0(O:Oracle)(R:Jump)(q:Nat)(x0 x1:TVal)(h:Heap):b12_0 O R q x0 x1 h=stepF c12 O R q 0 [x0,x1] h:=by kernel_rfl
def d12:BlkF:=fun O R Q=>[.s fun a => .s fun b => .z (b12_0 O R Q a b)]
theorem o12(O:Oracle)(R:Jump)(q:Nat):HoldsAll c12 O R q 0 (d12 O R q):=⟨e12_0 O R q,trivial⟩
def c13:MFunc:=mkM (compF Tryz.prog (globs2 tabs opq) (fun _=>false) true Tryz.f13) (.s .n (.s .n (.s .n (.s .n (.s .n (.s .n (.m 1 [2,4,5] (.s .n (.m 2 [2,4,5] .n)))))))))
def b13_0(O:Oracle)(R:Jump)(q:Nat)(x0:TVal)(h:Heap):Res1 :=
 vop O (.alloc [(.p (.int .i64 0)),(.p (.bool false)),(.p (.int .i64 0)),(.p (.str [])),(.p .nilslice),(.p .nilslice)] false) h 2 fun x2 h =>
 vlen O 0 x0 h 7 fun x7 h =>
 vbin .gtr 0 x7 (kI 20000) h fun x8 h =>
 vif x8 (
 vop O (.build [(.p (.int .i64 0)),(.p (.bool false)),(.p (.int .i64 0)),(.p (.str [])),(.p .nilslice),(.p .nilslice)] []) h 9 fun x9 h =>
 vstore 6 x2 x9 h fun _ h =>
 vcell true 6 x2 h fun c0=>tcomp (kI 4) fun c1=>vfin true q [c0,c1] h)
 (vop O (.build [(.p (.str [])),(.p (.int .i64 0))] [(0,1,(.k x0))]) h 11 fun x11 h =>
 vop O (.box (.k x11) false) h 12 fun x12 h =>
 vcall O (.v (.c (.func 26 []))) [x12,(kI 1)] h 14 fun x14 h =>
 vop O (.alloc [(.p (.int .i64 0)),(.p (.bool false)),(.p (.int .i64 0)),(.p (.str [])),(.p .nilslice),(.p .nilslice)] false) h 5 fun x5 h =>
 vstore 6 x5 x14 h fun _ h =>
 vcall O (.v (.c (.func 27 []))) [x12] h 16 fun x16 h =>
 vop O (.nilck (.k x12)) h 18 fun x18 h =>
 vfaddr 0 x18 h fun x19 h =>
 vload false 1 x19 h fun x20 h =>
 vbin .neq 0 x20 (kS []) h fun x21 h =>
 vif x21 (
 vcall O (.v (.c (.func 28 []))) [x12,(kI 12)] h 23 fun x23 h =>
 R 1 [x2,x12,x5] h)
 (R 1 [x2,x12,x5] h))
theorem e13_0(O:Oracle)(R:Jump)(q:Nat)(x0:TVal)(h:Heap):b13_0 O R q x0 h=stepF c13 O R q 0 [x0] h:=by kernel_rfl
def b13_1(O:Oracle)(R:Jump)(q:Nat)(x2 x4 x5:TVal)(h:Heap):Res1 :=
 vop O (.nilck (.k x4)) h 25 fun x25 h =>
 vfaddr 1 x25 h fun x26 h =>
 vload false 1 x26 h fun x27 h =>
 vbin .eql 0 x27 (kI 0) h fun x28 h =>
 vif x28 (
 vload true 6 x5 h fun x30 h =>
 vcall O (.v (.c (.func 24 []))) [x30] h 31 fun x31 h =>
 vop O (.nilck (.k x4)) h 32 fun x32 h =>
 vfaddr 1 x32 h fun x33 h =>
 vstore 1 x33 x31 h fun _ h =>
 R 2 [x2,x4,x5] h)
 (R 2 [x2,x4,x5] h)
theorem e13_1(O:Oracle)(R:Jump)(q:Nat)(x2 x4 x5:TVal)(h:Heap):b13_1 O R q x2 x4 x5 h=stepF c13 O R q 1 [x2,x4,x5] h:=by kernel_rfl
def b13_2(O:Oracle)(R:Jump)(q:Nat)(x2 x4 x5:TVal)(h:Heap):Res1 :=
 vop O (.nilck (.k x4)) h 35 fun x35 h =>
 vfaddr 1 x35 h fun x36 h =>
 vload false 1 x36 h fun x37 h =>
 vbin .neq 0 x37 (kI 0) h fun x38 h =>
 vif x38 (
 vtouch O (.build [(.p (.int .i64 0)),(.p (.bool false)),(.p (.int .i64 0)),(.p (.str [])),(.p .nilslice),(.p .nilslice)] []) h 39 fun x39 h t0 =>
 vtouch O (.mv (.k x4)) h 40 fun x40 h t1 =>
 vtouch O (.nilck (.k x40)) h 41 fun x41 h t2 =>
 vtouch O (.faddr 1 (.k x41)) h 42 fun x42 h t3 =>
 vtouch O (.load false 1 (.k x42)) h 43 fun x43 h t4 =>
 vtouch O (.store 6 (.k x2) (.k x39)) h 1000000 fun _ h t5 =>
 vtouch O (.mv (.k x43)) h 3 fun x3 h t6 =>
 bif apartAll [t0,t1,t2,t3,t4,t5,t6] [(4,5)] then
 vcell true 6 x2 h fun c0=>tcomp x3 fun c1=>vfin true q [c0,c1] h
 else none)
 (vload true 6 x5 h fun x44 h =>
 vstore 6 x2 x44 h fun _ h =>
 vcell true 6 x2 h fun c0=>tcomp (kI 0) fun c1=>vfin true q [c0,c1] h)
theorem e13_2(O:Oracle)(R:Jump)(q:Nat)(x2 x4 x5:TVal)(h:Heap):b13_2 O R q x2 x4 x5 h=stepF c13 O R q 2 [x2,x4,x5] h:=by kernel_rfl
def d13:BlkF:=fun O R Q=>[.s fun a => .z (b13_0 O R Q a),.s fun a => .s fun b => .s fun c => .z (b13_1 O R Q a b c),.s fun a => .s fun b => .s fun c => .z (b13_2 O R Q a b c)]
theorem o13(O:Oracle)(R:Jump)(q:Nat):HoldsAll c13 O R q 0 (d13 O R q):=⟨e13_0 O R q,e13_1 O R q,e13_2 O R q,trivial⟩
def c14:MFunc:=mkM (compF Tryz.prog (globs2 tabs opq) (fun _=>false) true Tryz.f14) (.s .n (.s .n (.s (.s .n (.k (.s .n (.s .n (.s .n (.s .n (.s .n (.s .n (.s .n (.s .n (.s .n (.s (.s (.s .n (.k (.l 1 [3,30,31,32] .n))) (.m 2 [3] .n)) .n)))))))))))) (.m 3 [1,3] (.s (.s .n (.k (.l 4 [1,3,47,48,49] (.s .n (.s .n (.s .n (.m 5 [1,3,47,48,49] .n))))))) (.m 6 [3] .n))))))
def b14_0(O:Oracle)(R:Jump)(q:Nat)(x0:TVal)(h:Heap):Res1 :=
 vop O (.box (.k x0) false) h 1 fun x1 h =>
 vfaddr 0 x1 h fun x8 h =>
 vload false 1 x8 h fun x9 h =>
 vbin .eql 0 x9 (kI 0) h fun x11 h =>
 vif x11 (
 tcomp (kS [110,117,108,108]) fun c0=>vfin true q [c0] h)
 (vbin .eql 0 x9 (kI 1) h fun x13 h =>
 vif x13 (
 vfaddr 1 x1 h fun x14 h =>
 vload false 1 x14 h fun x15 h =>
 vcall O (.v (.c (.func 29 []))) [x15] h 16 fun x16 h =>
 tcomp x16 fun c0=>vfin true q [c0] h)
 (vbin .eql 0 x9 (kI 2) h fun x18 h =>
 vif x18 (
 vfaddr 2 x1 h fun x19 h =>
 vload false 1 x19 h fun x20 h =>
 vcall O (.v (.c (.func 30 []))) [x20,(kI 10)] h 21 fun x21 h =>
 tcomp x21 fun c0=>vfin true q [c0] h)
 (vbin .eql 0 x9 (kI 3) h fun x23 h =>
 vif x23 (
 vfaddr 3 x1 h fun x24 h =>
 vload false 1 x24 h fun x25 h =>
 vcall O (.v (.c (.func 31 []))) [x25] h 26 fun x26 h =>
 tcomp x26 fun c0=>vfin true q [c0] h)
 (vbin .eql 0 x9 (kI 4) h fun x28 h =>
 vif x28 (
 vfaddr 5 x1 h fun x29 h =>
 vload false 1 x29 h fun x30 h =>
 vlen O 2 x30 h 31 fun x31 h =>
 R 1 [(.v (.c (.p .nilslice))),x30,x31,(kI 0)] h)
 (R 3 [x1,(.v (.c (.p .nilslice)))] h)))))
theorem e14_0(O:Oracle)(R:Jump)(q:Nat)(x0:TVal)(h:Heap):b14_0 O R q x0 h=stepF c14 O R q 0 [x0] h:=by kernel_rfl
def b14_1(O:Oracle)(R:Jump)(q:Nat)(x3 x30 x31 x32:TVal)(h:Heap):Res1 :=
 vbin .lss 0 x32 x31 h fun x33 h =>
 vif x33 (
 viaddr 6 x30 x32 h fun x34 h =>
 vload true 6 x34 h fun x35 h =>
 vop O (.alloc [(.p (.int .i64 0)),(.p (.bool false)),(.p (.int .i64 0)),(.p (.str [])),(.p .nilslice),(.p .nilslice)] false) h 5 fun x5 h =>
 vstore 6 x5 x35 h fun _ h =>
 vload true 6 x5 h fun x37 h =>
 vcall O (.v (.c (.func 14 []))) [x37] h 38 fun x38 h =>
 vop O (.bslice 1 1 [(.p (.str []))] [(0,(.k x38))] false) h 39 fun x39 h =>
 vop O (.append 1 16 false (.k x3) (.k x39)) h 40 fun x40 h =>
 vbin .add 0 x32 (kI 1) h fun x41 h =>
 R 1 [x40,x30,x31,x41] h)
 (R 2 [x3] h)
theorem e14_1(O:Oracle)(R:Jump)(q:Nat)(x3 x30 x31 x32:TVal)(h:Heap):b14_1 O R q x3 x30 x31 x32 h=stepF c14 O R q 1 [x3,x30,x31,x32] h:=by kernel_rfl
def b14_2(O:Oracle)(R:Jump)(q:Nat)(x3:TVal)(h:Heap):Res1 :=
 vcall O (.v (.c (.func 32 []))) [x3,(kS [44])] h 43 fun x43 h =>
 vbin .add 0 (kS [91]) x43 h fun x44 h =>
 vbin .add 0 x44 (kS [93]) h fun x45 h =>
 tcomp x45 fun c0=>vfin true q [c0] h
theorem e14_2(O:Oracle)(R:Jump)(q:Nat)(x3:TVal)(h:Heap):b14_2 O R q x3 h=stepF c14 O R q 2 [x3] h:=by kernel_rfl
def b14_3(O:Oracle)(R:Jump)(q:Nat)(x1 x3:TVal)(h:Heap):Res1 :=
 vfaddr 5 x1 h fun x46 h =>
 vload false 1 x46 h fun x47 h =>
 vlen O 2 x47 h 48 fun x48 h =>
 R 4 [x1,x3,x47,x48,(kI 0)] h
theorem e14_3(O:Oracle)(R:Jump)(q:Nat)(x1 x3:TVal)(h:Heap):b14_3 O R q x1 x3 h=stepF c14 O R q 3 [x1,x3] h:=by kernel_rfl
def b14_4(O:Oracle)(R:Jump)(q:Nat)(x1 x3 x47 x48 x49:TVal)(h:Heap):Res1 :=
 vbin .lss 0 x49 x48 h fun x50 h =>
 vif x50 (
 viaddr 6 x47 x49 h fun x52 h =>
 vload true 6 x52 h fun x53 h =>
 vop O (.alloc [(.p (.int .i64 0)),(.p (.bool false)),(.p (.int .i64 0)),(.p (.str [])),(.p .nilslice),(.p .nilslice)] false) h 7 fun x7 h =>
 vstore 6 x7 x53 h fun _ h =>
 vfaddr 4 x1 h fun x55 h =>
 vload false 1 x55 h fun x56 h =>
 vlen O 2 x56 h 57 fun x57 h =>
 vbin .lss 0 x49 x57 h fun x58 h =>
 vif x58 (
 vtouch O (.mv (.k x3)) h 59 fun x59 h t0 =>
 vtouch O (.faddr 4 (.k x1)) h 60 fun x60 h t1 =>
 vtouch O (.load false 1 (.k x60)) h 61 fun x61 h t2 =>
 vtouch O (.mv (.k x49)) h 62 fun x62 h t3 =>
 vtouch O (.iaddr 1 (.k x61) (.k x62)) h 63 fun x63 h t4 =>
 vtouch O (.load false 1 (.k x63)) h 64 fun x64 h t5 =>
 vtouch O (.call (.k (.v (.c (.func 31 [])))) [(.k x64)]) h 65 fun x65 h t6 =>
 vtouch O (.bin .add 0 (.k x65) (.k (kS [58]))) h 66 fun x66 h t7 =>
 vtouch O (.load true 6 (.k x7)) h 67 fun x67 h t8 =>
 vtouch O (.call (.k (.v (.c (.func 14 [])))) [(.k x67)]) h 68 fun x68 h t9 =>
 vtouch O (.bin .add 0 (.k x66) (.k x68)) h 69 fun x69 h t10 =>
 vtouch O (.bslice 1 1 [(.p (.str []))] [(0,(.k x69))] false) h 70 fun x70 h t11 =>
 vtouch O (.append 1 16 false (.k x59) (.k x70)) h 71 fun x71 h t12 =>
 vtouch O (.mv (.k x71)) h 3 fun x3_1 h t13 =>
 bif apartAll [t0,t1,t2,t3,t4,t5,t6,t7,t8,t9,t10,t11,t12,t13] [(6,8)] then
 R 5 [x1,x3_1,x47,x48,x49] h
 else none)
 (R 5 [x1,x3,x47,x48,x49] h))
 (R 6 [x3] h)
theorem e14_4(O:Oracle)(R:Jump)(q:Nat)(x1 x3 x47 x48 x49:TVal)(h:Heap):b14_4 O R q x1 x3 x47 x48 x49 h=stepF c14 O R q 4 [x1,x3,x47,x48,x49] h:=by kernel_rfl
def b14_5(O:Oracle)(R:Jump)(q:Nat)(x1 x3 x47 x48 x49:TVal)(h:Heap):Res1 :=
 vbin .add 0 x49 (kI 1) h fun x72 h =>
 R 4 [x1,x3,x47,x48,x72] h
theorem e14_5(O:Oracle)(R:Jump)(q:Nat)(x1 x3 x47 x48 x49:TVal)(h:Heap):b14_5 O R q x1 x3 x47 x48 x49 h=stepF c14 O R q 5 [x1,x3,x47,x48,x49] h:=by kernel_rfl
def b14_6(O:Oracle)(R:Jump)(q:Nat)(x3:TVal)(h:Heap):Res1 :=
 vcall O (.v (.c (.func 32 []))) [x3,(kS [44])] h 74 fun x74 h =>
 vbin .add 0 (kS [123]) x74 h fun x75 h =>
 vbin .add 0 x75 (kS [125]) h fun x76 h =>
 tcomp x76 fun c0=>vfin true q [c0] h
theorem e14_6(O:Oracle)(R:Jump)(q:Nat)(x3:TVal)(h:Heap):b14_6 O R q x3 h=stepF c14 O R q 6 [x3] h:=by kernel_rfl
def d14:BlkF:=fun O R Q=>[.s fun a => .z (b14_0 O R Q a),.s fun a => .s fun b => .s fun c => .s fun d => .z (b14_1 O R Q a b c d),.s fun a => .z (b14_2 O R Q a),.s fun a => .s fun b => .z (b14_3 O R Q a b),.s fun a => .s fun b => .s fun c => .s fun d => .s fun e => .z (b14_4 O R Q a b c d e),.s fun a => .s fun b => .s fun c => .s fun d => .s fun e => .z (b14_5 O R Q a b c d e),.s fun a => .z (b14_6 O R Q a)]
theorem o14(O:Oracle)(R:Jump)(q:Nat):HoldsAll c14 O R q 0 (d14 O R q):=⟨e14_0 O R q,e14_1 O R q,e14_2 O R q,e14_3 O R q,e14_4 O R q,e14_5 O R q,e14_6 O R q,trivial⟩
def c15:MFunc:=mkM (compF Tryz.prog (globs2 tabs opq) (fun _=>false) true Tryz.f15) (.s .n (.s .n (.s .n (.s (.s .n (.k (.l 1 [1,2,5] .n))) .n))))
def b15_0(O:Oracle)(R:Jump)(q:Nat)(x0 x1:TVal)(h:Heap):Res1 :=
 vop O (.box (.k x0) false) h 2 fun x2 h =>
 vbin .leq 0 x1 (kI 0) h fun x7 h =>
 vguard x7 false (fun kk=>vfaddr 4 x2 h kk) h fun x9 h =>
 vguard x7 false (fun kk=>vload false 1 x9 h kk) h fun x10 h =>
 vguard x7 false (fun kk=>vlen O 2 x10 h 11 kk) h fun x11 h =>
 vguard x7 false (fun kk=>vbin .gtr 0 x11 (kI 12) h kk) h fun x12 h =>
 vop O (.pick (.k x7) (.k (kB true)) (.k x12)) h 13 fun x13 h =>
 vguard x13 false (fun kk=>vfaddr 2 x2 h kk) h fun x15 h =>
 vguard x13 false (fun kk=>vload false 1 x15 h kk) h fun x16 h =>
 vguard x13 false (fun kk=>vlen O 2 x16 h 17 kk) h fun x17 h =>
 vguard x13 false (fun kk=>vbin .gtr 0 x17 (kI 50) h kk) h fun x18 h =>
 vop O (.pick (.k x13) (.k (kB true)) (.k x18)) h 19 fun x19 h =>
 vguard x19 false (fun kk=>vfaddr 3 x2 h kk) h fun x21 h =>
 vguard x19 false (fun kk=>vload false 1 x21 h kk) h fun x22 h =>
 vguard x19 false (fun kk=>vlen O 2 x22 h 23 kk) h fun x23 h =>
 vguard x19 false (fun kk=>vbin .gtr 0 x23 (kI 12) h kk) h fun x24 h =>
 vop O (.pick (.k x19) (.k (kB true)) (.k x24)) h 25 fun x25 h =>
 vif x25 (
 tcomp (kI 0) fun c0=>vfin true q [c0] h)
 (vbin .sub 0 x1 (kI 1) h fun x27 h =>
 R 1 [x27,x2,(kI 0)] h)
theorem e15_0(O:Oracle)(R:Jump)(q:Nat)(x0 x1:TVal)(h:Heap):b15_0 O R q x0 x1 h=stepF c15 O R q 0 [x0,x1] h:=by kernel_rfl
def b15_1(O:Oracle)(R:Jump)(q:Nat)(x1 x2 x5:TVal)(h:Heap):Res1 :=
 vfaddr 4 x2 h fun x29 h =>
 vload false 1 x29 h fun x30 h =>
 vlen O 2 x30 h 31 fun x31 h =>
 vbin .lss 0 x5 x31 h fun x32 h =>
 vguard x32 true (fun kk=>kk x1 h) h fun x34 h =>
 vguard x32 true (fun kk=>vbin .gtr 0 x34 (kI 0) h kk) h fun x35 h =>
 vop O (.pick (.k x32) (.k x35) (.k (kB false))) h 36 fun x36 h =>
 vif x36 (
 vfaddr 4 x2 h fun x39 h =>
 vload false 1 x39 h fun x40 h =>
 viaddr 5 x40 x5 h fun x42 h =>
 vload true 5 x42 h fun x43 h =>
 vcall O (.v (.c (.func 15 []))) [x43,x1] h 45 fun x45 h =>
 vbin .add 0 x5 (kI 1) h fun x38 h =>
 R 1 [x45,x2,x38] h)
 (tcomp x1 fun c0=>vfin true q [c0] h)
theorem e15_1(O:Oracle)(R:Jump)(q:Nat)(x1 x2 x5:TVal)(h:Heap):b15_1 O R q x1 x2 x5 h=stepF c15 O R q 1 [x1,x2,x5] h:=by kernel_rfl
def d15:BlkF:=fun O R Q=>[.s fun a => .s fun b => .z (b15_0 O R Q a b),.s fun a => .s fun b => .s fun c => .z (b15_1 O R Q a b c)]
theorem o15(O:Oracle)(R:Jump)(q:Nat):HoldsAll c15 O R q 0 (d15 O R q):=⟨e15_0 O R q,e15_1 O R q,trivial⟩
def c16:MFunc:=mkM (compF Tryz.prog (globs2 tabs opq) (fun _=>false) true Tryz.f16) (.s .n (.s .n (.s .n (.m 1 [1,2,4,5] (.s .n (.s (.s .n (.k (.s .n (.s .n (.s .n (.s .n (.s .n (.s .n (.s .n (.s (.s .n (.k (.l 2 [1,2,4,6,7] .n))) (.s .n (.s (.s .n (.k (.l 3 [1,2,4,6,8] (.s .n (.s (.k (.s .n (.s .n (.m 4 [1,2,4,6,8,9] .n)))) .n))))) .n)))))))))))) (.m 5 [4,6] .n)))))))
def b16_0(O:Oracle)(R:Jump)(q:Nat)(x0 x1:TVal)(h:Heap):Res1 :=
 vop O (.box (.k x0) false) h 2 fun x2 h =>
 vop O (.alloc [(.p (.int .i64 0)),(.p (.bool false)),(.p (.int .i64 0)),(.p (.str [])),(.p .nilslice),(.p .nilslice)] false) h 4 fun x4 h =>
 vfaddr 0 x2 h fun x10 h =>
 vload false 1 x10 h fun x11 h =>
 vcall O (.v (.c (.func 12 []))) [x11,(kI 6)] h 12 fun x12 h =>
 vbin .leq 0 x1 (kI 1) h fun x14 h =>
 vguard x14 true (fun kk=>kk x12 h) h fun x16 h =>
 vguard x14 true (fun kk=>vbin .geq 0 x16 (kI 4) h kk) h fun x17 h =>
 vop O (.pick (.k x14) (.k x17) (.k (kB false))) h 18 fun x18 h =>
 vif x18 (
 R 1 [x1,x2,x4,(kI 2)] h)
 (R 1 [x1,x2,x4,x12] h)
theorem e16_0(O:Oracle)(R:Jump)(q:Nat)(x0 x1:TVal)(h:Heap):b16_0 O R q x0 x1 h=stepF c16 O R q 0 [x0,x1] h:=by kernel_rfl
def b16_1(O:Oracle)(R:Jump)(q:Nat)(x1 x2 x4 x5:TVal)(h:Heap):Res1 :=
 vop O (.build [(.p (.int .i64 0)),(.p (.bool false)),(.p (.int .i64 0)),(.p (.str [])),(.p .nilslice),(.p .nilslice)] [(0,1,(.k x5))]) h 20 fun x20 h =>
 vop O (.alloc [(.p (.int .i64 0)),(.p (.bool false)),(.p (.int .i64 0)),(.p (.str [])),(.p .nilslice),(.p .nilslice)] false) h 6 fun x6 h =>
 vstore 6 x6 x20 h fun _ h =>
 vbin .eql 0 x5 (kI 1) h fun x23 h =>
 vif x23 (
 vfaddr 1 x2 h fun x24 h =>
 vload false 1 x24 h fun x25 h =>
 vbin .rem 0 x25 (kI 2) h fun x26 h =>
 vbin .eql 0 x26 (kI 0) h fun x27 h =>
 vfaddr 1 x6 h fun x28 h =>
 vstore 1 x28 x27 h fun _ h =>
 R 5 [x4,x6] h)
 (vbin .eql 0 x5 (kI 2) h fun x30 h =>
 vif x30 (
 vfaddr 1 x2 h fun x31 h =>
 vload false 1 x31 h fun x32 h =>
 vfaddr 2 x6 h fun x33 h =>
 vstore 1 x33 x32 h fun _ h =>
 R 5 [x4,x6] h)
 (vbin .eql 0 x5 (kI 3) h fun x35 h =>
 vif x35 (
 vfaddr 2 x2 h fun x36 h =>
 vload false 1 x36 h fun x37 h =>
 vcall O (.v (.c (.func 33 []))) [x37] h 38 fun x38 h =>
 vfaddr 3 x6 h fun x39 h =>
 vstore 1 x39 x38 h fun _ h =>
 R 5 [x4,x6] h)
 (vbin .eql 0 x5 (kI 4) h fun x41 h =>
 vif x41 (
 R 2 [x1,x2,x4,x6,(kI 0)] h)
 (vbin .eql 0 x5 (kI 5) h fun x63 h =>
 vif x63 (
 R 3 [x1,x2,x4,x6,(kI 0)] h)
 (R 5 [x4,x6] h)))))
theorem e16_1(O:Oracle)(R:Jump)(q:Nat)(x1 x2 x4 x5:TVal)(h:Heap):b16_1 O R q x1 x2 x4 x5 h=stepF c16 O R q 1 [x1,x2,x4,x5] h:=by kernel_rfl
def b16_2(O:Oracle)(R:Jump)(q:Nat)(x1 x2 x4 x6 x7:TVal)(h:Heap):Res1 :=
 vfaddr 4 x2 h fun x43 h =>
 vload false 1 x43 h fun x44 h =>
 vlen O 2 x44 h 45 fun x45 h =>
 vbin .lss 0 x7 x45 h fun x46 h =>
 vif x46 (
 vtouch O (.faddr 5 (.k x6)) h 49 fun x49 h t0 =>
 vtouch O (.load false 1 (.k x49)) h 50 fun x50 h t1 =>
 vtouch O (.faddr 4 (.k x2)) h 51 fun x51 h t2 =>
 vtouch O (.load false 1 (.k x51)) h 52 fun x52 h t3 =>
 vtouch O (.mv (.k x7)) h 53 fun x53 h t4 =>
 vtouch O (.iaddr 5 (.k x52) (.k x53)) h 54 fun x54 h t5 =>
 vtouch O (.load true 5 (.k x54)) h 55 fun x55 h t6 =>
 vtouch O (.mv (.k x1)) h 56 fun x56 h t7 =>
 vtouch O (.bin .sub 0 (.k x56) (.k (kI 1))) h 57 fun x57 h t8 =>
 vtouch O (.call (.k (.v (.c (.func 16 [])))) [(.k x55),(.k x57)]) h 58 fun x58 h t9 =>
 vtouch O (.bslice 6 1 [(.p (.int .i64 0)),(.p (.bool false)),(.p (.int .i64 0)),(.p (.str [])),(.p .nilslice),(.p .nilslice)] [(0,(.k x58))] false) h 59 fun x59 h t10 =>
 vtouch O (.append 6 88 false (.k x50) (.k x59)) h 60 fun x60 h t11 =>
 vtouch O (.faddr 5 (.k x6)) h 61 fun x61 h t12 =>
 vtouch O (.store 1 (.k x61) (.k x60)) h 1000000 fun _ h t13 =>
 bif apartAll [t0,t1,t2,t3,t4,t5,t6,t7,t8,t9,t10,t11,t12,t13] [(1,9),(1,10)] then
 vbin .add 0 x7 (kI 1) h fun x48 h =>
 R 2 [x1,x2,x4,x6,x48] h
 else none)
 (R 5 [x4,x6] h)
theorem e16_2(O:Oracle)(R:Jump)(q:Nat)(x1 x2 x4 x6 x7:TVal)(h:Heap):b16_2 O R q x1 x2 x4 x6 x7 h=stepF c16 O R q 2 [x1,x2,x4,x6,x7] h:=by kernel_rfl
def b16_3(O:Oracle)(R:Jump)(q:Nat)(x1 x2 x4 x6 x8:TVal)(h:Heap):Res1 :=
 vfaddr 4 x2 h fun x65 h =>
 vload false 1 x65 h fun x66 h =>
 vlen O 2 x66 h 67 fun x67 h =>
 vbin .lss 0 x8 x67 h fun x68 h =>
 vif x68 (
 vfaddr 3 x2 h fun x72 h =>
 vload false 1 x72 h fun x73 h =>
 vlen O 2 x73 h 74 fun x74 h =>
 vbin .lss 0 x8 x74 h fun x75 h =>
 vif x75 (
 vfaddr 3 x2 h fun x76 h =>
 vload false 1 x76 h fun x77 h =>
 viaddr 1 x77 x8 h fun x79 h =>
 vload false 1 x79 h fun x80 h =>
 R 4 [x1,x2,x4,x6,x8,x80] h)
 (R 4 [x1,x2,x4,x6,x8,(kI 0)] h))
 (R 5 [x4,x6] h)
theorem e16_3(O:Oracle)(R:Jump)(q:Nat)(x1 x2 x4 x6 x8:TVal)(h:Heap):b16_3 O R q x1 x2 x4 x6 x8 h=stepF c16 O R q 3 [x1,x2,x4,x6,x8] h:=by kernel_rfl
def b16_4(O:Oracle)(R:Jump)(q:Nat)(x1 x2 x4 x6 x8 x9:TVal)(h:Heap):Res1 :=
 vtouch O (.load true 6 (.k x6)) h 81 fun x81 h t0 =>
 vtouch O (.bslice 1 8 [(.p (.str []))] [(0,(.k (kS [97]))),(1,(.k (kS [98]))),(2,(.k (kS [99]))),(3,(.k (kS [110,97,109,101]))),(4,(.k (kS [110]))),(5,(.k (kS []))),(6,(.k (kS [120,34,121]))),(7,(.k (kS [10])))] false) h 82 fun x82 h t1 =>
 vtouch O (.mv (.k x9)) h 83 fun x83 h t2 =>
 vtouch O (.call (.k (.v (.c (.func 12 [])))) [(.k x83),(.k (kI 8))]) h 84 fun x84 h t3 =>
 vtouch O (.iaddr 1 (.k x82) (.k x84)) h 85 fun x85 h t4 =>
 vtouch O (.load false 1 (.k x85)) h 86 fun x86 h t5 =>
 vtouch O (.faddr 4 (.k x2)) h 87 fun x87 h t6 =>
 vtouch O (.load false 1 (.k x87)) h 88 fun x88 h t7 =>
 vtouch O (.mv (.k x8)) h 89 fun x89 h t8 =>
 vtouch O (.iaddr 5 (.k x88) (.k x89)) h 90 fun x90 h t9 =>
 vtouch O (.load true 5 (.k x90)) h 91 fun x91 h t10 =>
 vtouch O (.mv (.k x1)) h 92 fun x92 h t11 =>
 vtouch O (.bin .sub 0 (.k x92) (.k (kI 1))) h 93 fun x93 h t12 =>
 vtouch O (.call (.k (.v (.c (.func 16 [])))) [(.k x91),(.k x93)]) h 94 fun x94 h t13 =>
 vtouch O (.call (.k (.v (.c (.func 34 [])))) [(.k x81),(.k x86),(.k x94)]) h 95 fun x95 h t14 =>
 vtouch O (.store 6 (.k x6) (.k x95)) h 1000000 fun _ h t15 =>
 bif apartAll [t0,t1,t2,t3,t4,t5,t6,t7,t8,t9,t10,t11,t12,t13,t14,t15] [(0,1),(0,3),(1,3),(1,7),(3,7),(1,10),(3,10),(0,13),(1,13),(5,13)] then
 vbin .add 0 x8 (kI 1) h fun x70 h =>
 R 3 [x1,x2,x4,x6,x70] h
 else none
theorem e16_4(O:Oracle)(R:Jump)(q:Nat)(x1 x2 x4 x6 x8 x9:TVal)(h:Heap):b16_4 O R q x1 x2 x4 x6 x8 x9 h=stepF c16 O R q 4 [x1,x2,x4,x6,x8,x9] h:=by kernel_rfl
def b16_5(O:Oracle)(R:Jump)(q:Nat)(x4 x6:TVal)(h:Heap):Res1 :=
 vload true 6 x6 h fun x96 h =>
 vstore 6 x4 x96 h fun _ h =>
 vcell true 6 x4 h fun c0=>vfin true q [c0] h
theorem e16_5(O:Oracle)(R:Jump)(q:Nat)(x4 x6:TVal)(h:Heap):b16_5 O R q x4 x6 h=stepF c16 O R q 5 [x4,x6] h:=by kernel_rfl
def d16:BlkF:=fun O R Q=>[.s fun a => .s fun b => .z (b16_0 O R Q a b),.s fun a => .s fun b => .s fun c => .s fun d => .z (b16_1 O R Q a b c d),.s fun a => .s fun b => .s fun c => .s fun d => .s fun e => .z (b16_2 O R Q a b c d e),.s fun a => .s fun b => .s fun c => .s fun d => .s fun e => .z (b16_3 O R Q a b c d e),.s fun a => .s fun b => .s fun c => .s fun d => .s fun e => .s fun f => .z (b16_4 O R Q a b c d e f),.s fun a => .s fun b => .z (b16_5 O R Q a b)]
theorem o16(O:Oracle)(R:Jump)(q:Nat):HoldsAll c16 O R q 0 (d16 O R q):=⟨e16_0 O R q,e16_1 O R q,e16_2 O R q,e16_3 O R q,e16_4 O R q,e16_5 O R q,trivial⟩
def c17:MFunc:=mkM (compF Tryz.prog (globs2 tabs opq) (fun _=>false) true Tryz.f17) .n
def b17_0(O:Oracle)(R:Jump)(q:Nat)(x0 x1:TVal)(h:Heap):Res1 :=
 vop O (.box (.k x0) false) h 2 fun x2 h =>
 vop O (.box (.k x1) false) h 3 fun x3 h =>
 vfaddr 0 x2 h fun x5 h =>
 vload false 1 x5 h fun x6 h =>
 vfaddr 0 x3 h fun x7 h =>
 vload false 1 x7 h fun x8 h =>
 vbin .eql 0 x6 x8 h fun x9 h =>
 vguard x9 true (fun kk=>vfaddr 1 x2 h kk) h fun x11 h =>
 vguard x9 true (fun kk=>vload false 1 x11 h kk) h fun x12 h =>
 vguard x9 true (fun kk=>vfaddr 1 x3 h kk) h fun x13 h =>
 vguard x9 true (fun kk=>vload false 1 x13 h kk) h fun x14 h =>
 vguard x9 true (fun kk=>vbin .eql 5 x12 x14 h kk) h fun x15 h =>
 vop O (.pick (.k x9) (.k x15) (.k (kB false))) h 16 fun x16 h =>
 vguard x16 true (fun kk=>vfaddr 2 x2 h kk) h fun x18 h =>
 vguard x16 true (fun kk=>vload false 1 x18 h kk) h fun x19 h =>
 vguard x16 true (fun kk=>vfaddr 2 x3 h kk) h fun x20 h =>
 vguard x16 true (fun kk=>vload false 1 x20 h kk) h fun x21 h =>
 vguard x16 true (fun kk=>vbin .eql 0 x19 x21 h kk) h fun x22 h =>
 vop O (.pick (.k x16) (.k x22) (.k (kB false))) h 23 fun x23 h =>
 vguard x23 true (fun kk=>vfaddr 3 x2 h kk) h fun x25 h =>
 vguard x23 true (fun kk=>vload false 1 x25 h kk) h fun x26 h =>
 vguard x23 true (fun kk=>vfaddr 3 x3 h kk) h fun x27 h =>
 vguard x23 true (fun kk=>vload false 1 x27 h kk) h fun x28 h =>
 vguard x23 true (fun kk=>vbin .eql 0 x26 x28 h kk) h fun x29 h =>
 vop O (.pick (.k x23) (.k x29) (.k (kB false))) h 30 fun x30 h =>
 vguard x30 true (fun kk=>vfaddr 4 x2 h kk) h fun x32 h =>
 vguard x30 true (fun kk=>vload false 1 x32 h kk) h fun x33 h =>
 vguard x30 true (fun kk=>vfaddr 4 x3 h kk) h fun x34 h =>
 vguard x30 true (fun kk=>vload false 1 x34 h kk) h fun x35 h =>
 vguard x30 true (fun kk=>vcall O (.v (.c (.func 35 []))) [x33,x35] h 36 kk) h fun x36 h =>
 vop O (.pick (.k x30) (.k x36) (.k (kB false))) h 37 fun x37 h =>
 vguard x37 true (fun kk=>vfaddr 5 x2 h kk) h fun x39 h =>
 vguard x37 true (fun kk=>vload false 1 x39 h kk) h fun x40 h =>
 vguard x37 true (fun kk=>vfaddr 5 x3 h kk) h fun x41 h =>
 vguard x37 true (fun kk=>vload false 1 x41 h kk) h fun x42 h =>
 vguard x37 true (fun kk=>vcall O (.v (.c (.func 36 []))) [x40,x42,(.v (.c (.func 17 [])))] h 43 kk) h fun x43 h =>
 vop O (.pick (.k x37) (.k x43) (.k (kB false))) h 44 fun x44 h =>
 tcomp x44 fun c0=>vfin true q [c0] h
theorem e17_0(O:Oracle)(R:Jump)(q:Nat)(x0 x1:TVal)(h:Heap):b17_0 O R q x0 x1 h=stepF c17 O R q 0 [x0,x1] h:=by kernel_rfl
def d17:BlkF:=fun O R Q=>[.s fun a => .s fun b => .z (b17_0 O R Q a b)]
theorem o17(O:Oracle)(R:Jump)(q:Nat):HoldsAll c17 O R q 0 (d17 O R q):=⟨e17_0 O R q,trivial⟩
def c20:MFunc:=mkM (compF Tryz.prog (globs2 tabs opq) (fun _=>false) true Tryz.f20) (.s .n (.s .n (.s (.s .n (.k (.l 1 [2,3,5] .n))) (.m 2 [2,3] (.s (.s .n (.k (.l 3 [2,3,6] .n))) .n)))))
def b20_0(O:Oracle)(R:Jump)(q:Nat)(x0 x1:TVal)(h:Heap):Res1 :=
 vop O (.box (.k x0) false) h 2 fun x2 h =>
 vop O (.box (.k x1) false) h 3 fun x3 h =>
 vfaddr 0 x2 h fun x7 h =>
 vload false 1 x7 h fun x8 h =>
 vfaddr 0 x3 h fun x9 h =>
 vload false 1 x9 h fun x10 h =>
 vbin .neq 0 x8 x10 h fun x11 h =>
 vguard x11 false (fun kk=>vfaddr 1 x2 h kk) h fun x13 h =>
 vguard x11 false (fun kk=>vload false 1 x13 h kk) h fun x14 h =>
 vguard x11 false (fun kk=>vfaddr 1 x3 h kk) h fun x15 h =>
 vguard x11 false (fun kk=>vload false 1 x15 h kk) h fun x16 h =>
 vguard x11 false (fun kk=>vbin .neq 5 x14 x16 h kk) h fun x17 h =>
 vop O (.pick (.k x11) (.k (kB true)) (.k x17)) h 18 fun x18 h =>
 vguard x18 false (fun kk=>vfaddr 2 x2 h kk) h fun x20 h =>
 vguard x18 false (fun kk=>vload false 1 x20 h kk) h fun x21 h =>
 vguard x18 false (fun kk=>vfaddr 2 x3 h kk) h fun x22 h =>
 vguard x18 false (fun kk=>vload false 1 x22 h kk) h fun x23 h =>
 vguard x18 false (fun kk=>vbin .neq 0 x21 x23 h kk) h fun x24 h =>
 vop O (.pick (.k x18) (.k (kB true)) (.k x24)) h 25 fun x25 h =>
 vguard x25 false (fun kk=>vfaddr 3 x2 h kk) h fun x27 h =>
 vguard x25 false (fun kk=>vload false 1 x27 h kk) h fun x28 h =>
 vguard x25 false (fun kk=>vfaddr 3 x3 h kk) h fun x29 h =>
 vguard x25 false (fun kk=>vload false 1 x29 h kk) h fun x30 h =>
 vguard x25 false (fun kk=>vbin .neq 0 x28 x30 h kk) h fun x31 h =>
 vop O (.pick (.k x25) (.k (kB true)) (.k x31)) h 32 fun x32 h =>
 vguard x32 false (fun kk=>vfaddr 4 x2 h kk) h fun x34 h =>
 vguard x32 false (fun kk=>vload false 1 x34 h kk) h fun x35 h =>
 vguard x32 false (fun kk=>vlen O 2 x35 h 36 kk) h fun x36 h =>
 vguard x32 false (fun kk=>vfaddr 4 x3 h kk) h fun x37 h =>
 vguard x32 false (fun kk=>vload false 1 x37 h kk) h fun x38 h =>
 vguard x32 false (fun kk=>vlen O 2 x38 h 39 kk) h fun x39 h =>
 vguard x32 false (fun kk=>vbin .neq 0 x36 x39 h kk) h fun x40 h =>
 vop O (.pick (.k x32) (.k (kB true)) (.k x40)) h 41 fun x41 h =>
 vguard x41 false (fun kk=>vfaddr 5 x2 h kk) h fun x43 h =>
 vguard x41 false (fun kk=>vload false 1 x43 h kk) h fun x44 h =>
 vguard x41 false (fun kk=>vlen O 2 x44 h 45 kk) h fun x45 h =>
 vguard x41 false (fun kk=>vfaddr 5 x3 h kk) h fun x46 h =>
 vguard x41 false (fun kk=>vload false 1 x46 h kk) h fun x47 h =>
 vguard x41 false (fun kk=>vlen O 2 x47 h 48 kk) h fun x48 h =>
 vguard x41 false (fun kk=>vbin .neq 0 x45 x48 h kk) h fun x49 h =>
 vop O (.pick (.k x41) (.k (kB true)) (.k x49)) h 50 fun x50 h =>
 vif x50 (
 tcomp (kB false) fun c0=>vfin true q [c0] h)
 (R 1 [x2,x3,(kI 0)] h)
theorem e20_0(O:Oracle)(R:Jump)(q:Nat)(x0 x1:TVal)(h:Heap):b20_0 O R q x0 x1 h=stepF c20 O R q 0 [x0,x1] h:=by kernel_rfl
def b20_1(O:Oracle)(R:Jump)(q:Nat)(x2 x3 x5:TVal)(h:Heap):Res1 :=
 vfaddr 4 x2 h fun x52 h =>
 vload false 1 x52 h fun x53 h =>
 vlen O 2 x53 h 54 fun x54 h =>
 vbin .lss 0 x5 x54 h fun x55 h =>
 vif x55 (
 vfaddr 4 x2 h fun x58 h =>
 vload false 1 x58 h fun x59 h =>
 viaddr 1 x59 x5 h fun x61 h =>
 vload false 1 x61 h fun x62 h =>
 vfaddr 4 x3 h fun x63 h =>
 vload false 1 x63 h fun x64 h =>
 viaddr 1 x64 x5 h fun x66 h =>
 vload false 1 x66 h fun x67 h =>
 vbin .neq 0 x62 x67 h fun x68 h =>
 vif x68 (
 tcomp (kB false) fun c0=>vfin true q [c0] h)
 (vbin .add 0 x5 (kI 1) h fun x57 h =>
 R 1 [x2,x3,x57] h))
 (R 2 [x2,x3] h)
theorem e20_1(O:Oracle)(R:Jump)(q:Nat)(x2 x3 x5:TVal)(h:Heap):b20_1 O R q x2 x3 x5 h=stepF c20 O R q 1 [x2,x3,x5] h:=by kernel_rfl
def b20_2(O:Oracle)(R:Jump)(q:Nat)(x2 x3:TVal)(h:Heap):Res1 :=
 R 3 [x2,x3,(kI 0)] h
theorem e20_2(O:Oracle)(R:Jump)(q:Nat)(x2 x3:TVal)(h:Heap):b20_2 O R q x2 x3 h=stepF c20 O R q 2 [x2,x3] h:=by kernel_rfl
def b20_3(O:Oracle)(R:Jump)(q:Nat)(x2 x3 x6:TVal)(h:Heap):Res1 :=
 vfaddr 5 x2 h fun x70 h =>
 vload false 1 x70 h fun x71 h =>
 vlen O 2 x71 h 72 fun x72 h =>
 vbin .lss 0 x6 x72 h fun x73 h =>
 vif x73 (
 vfaddr 5 x2 h fun x76 h =>
 vload false 1 x76 h fun x77 h =>
 viaddr 6 x77 x6 h fun x79 h =>
 vload true 6 x79 h fun x80 h =>
 vfaddr 5 x3 h fun x81 h =>
 vload false 1 x81 h fun x82 h =>
 viaddr 6 x82 x6 h fun x84 h =>
 vload true 6 x84 h fun x85 h =>
 vcall O (.v (.c (.func 20 []))) [x80,x85] h 86 fun x86 h =>
 vop O (.un .not (.k x86)) h 87 fun x87 h =>
 vif x87 (
 tcomp (kB false) fun c0=>vfin true q [c0] h)
 (vbin .add 0 x6 (kI 1) h fun x75 h =>
 R 3 [x2,x3,x75] h))
 (tcomp (kB true) fun c0=>vfin true q [c0] h)
theorem e20_3(O:Oracle)(R:Jump)(q:Nat)(x2 x3 x6:TVal)(h:Heap):b20_3 O R q x2 x3 x6 h=stepF c20 O R q 3 [x2,x3,x6] h:=by kernel_rfl
def d20:BlkF:=fun O R Q=>[.s fun a => .s fun b => .z (b20_0 O R Q a b),.s fun a => .s fun b => .s fun c => .z (b20_1 O R Q a b c),.s fun a => .s fun b => .z (b20_2 O R Q a b),.s fun a => .s fun b => .s fun c => .z (b20_3 O R Q a b c)]
theorem o20(O:Oracle)(R:Jump)(q:Nat):HoldsAll c20 O R q 0 (d20 O R q):=⟨e20_0 O R q,e20_1 O R q,e20_2 O R q,e20_3 O R q,trivial⟩
def c21:MFunc:=mkM (compF Tryz.prog (globs2 tabs opq) (fun _=>false) true Tryz.f21) (.s .n (.s (.s .n (.k (.s .n (.s .n (.s .n (.s .n (.s .n (.s .n (.s .n (.s .n (.s .n (.s (.s .n (.s (.s .n (.k (.l 1 [1,3,4] (.s .n (.s (.k (.s .n (.m 2 [1,3,4] .n))) .n))))) (.m 3 [3] .n))) .n)))))))))))) (.m 4 [1] (.s .n (.s (.s .n (.k (.l 5 [1,5,6] (.s .n (.s (.k (.s .n (.m 6 [1,5,6] .n))) .n))))) (.m 7 [5] .n))))))
def b21_0(O:Oracle)(R:Jump)(q:Nat)(x0:TVal)(h:Heap):Res1 :=
 vop O (.box (.k x0) false) h 1 fun x1 h =>
 vfaddr 0 x1 h fun x7 h =>
 vload false 1 x7 h fun x8 h =>
 vbin .eql 0 x8 (kI 0) h fun x10 h =>
 vif x10 (
 tcomp (kS [110,117,108,108]) fun c0=>vfin true q [c0] h)
 (vbin .eql 0 x8 (kI 1) h fun x12 h =>
 vif x12 (
 vfaddr 1 x1 h fun x13 h =>
 vload false 1 x13 h fun x14 h =>
 vif x14 (
 tcomp (kS [116,114,117,101]) fun c0=>vfin true q [c0] h)
 (tcomp (kS [102,97,108,115,101]) fun c0=>vfin true q [c0] h))
 (vbin .eql 0 x8 (kI 2) h fun x16 h =>
 vif x16 (
 vfaddr 2 x1 h fun x17 h =>
 vload false 1 x17 h fun x18 h =>
 vop O (.build [(.p (.int .i64 0)),(.p (.str [])),(.p .nilslice),(.p (.str [])),(.p (.int .i64 0)),(.p (.bool false)),(.p .nilslice)] [(0,1,(.k (kI 3))),(4,1,(.k x18))]) h 19 fun x19 h =>
 vop O (.bslice 7 1 [(.p (.int .i64 0)),(.p (.str [])),(.p .nilslice),(.p (.str [])),(.p (.int .i64 0)),(.p (.bool false)),(.p .nilslice)] [(0,(.k x19))] false) h 20 fun x20 h =>
 vop O (.build [(.p .nilslice)] [(0,1,(.k x20))]) h 21 fun x21 h =>
 vop O (.bslice 1 1 [(.p .nilslice)] [(0,(.k x21))] false) h 22 fun x22 h =>
 vcall O (.v (.c (.func 39 []))) [x22] h 23 fun x23 h =>
 tcomp x23 fun c0=>vfin true q [c0] h)
 (vbin .eql 0 x8 (kI 3) h fun x25 h =>
 vif x25 (
 vfaddr 3 x1 h fun x26 h =>
 vload false 1 x26 h fun x27 h =>
 vcall O (.v (.c (.func 40 []))) [x27] h 28 fun x28 h =>
 tcomp x28 fun c0=>vfin true q [c0] h)
 (vbin .eql 0 x8 (kI 4) h fun x30 h =>
 vif x30 (
 R 1 [x1,(kS [91]),(kI 0)] h)
 (R 4 [x1] h)))))
theorem e21_0(O:Oracle)(R:Jump)(q:Nat)(x0:TVal)(h:Heap):b21_0 O R q x0 h=stepF c21 O R q 0 [x0] h:=by kernel_rfl
def b21_1(O:Oracle)(R:Jump)(q:Nat)(x1 x3 x4:TVal)(h:Heap):Res1 :=
 vfaddr 5 x1 h fun x32 h =>
 vload false 1 x32 h fun x33 h =>
 vlen O 2 x33 h 34 fun x34 h =>
 vbin .lss 0 x4 x34 h fun x35 h =>
 vif x35 (
 vbin .gtr 0 x4 (kI 0) h fun x39 h =>
 vif x39 (
 vbin .add 0 x3 (kS [44]) h fun x41 h =>
 R 2 [x1,x41,x4] h)
 (R 2 [x1,x3,x4] h))
 (R 3 [x3] h)
theorem e21_1(O:Oracle)(R:Jump)(q:Nat)(x1 x3 x4:TVal)(h:Heap):b21_1 O R q x1 x3 x4 h=stepF c21 O R q 1 [x1,x3,x4] h:=by kernel_rfl
def b21_2(O:Oracle)(R:Jump)(q:Nat)(x1 x3 x4:TVal)(h:Heap):Res1 :=
 vfaddr 5 x1 h fun x43 h =>
 vload false 1 x43 h fun x44 h =>
 viaddr 6 x44 x4 h fun x46 h =>
 vload true 6 x46 h fun x47 h =>
 vcall O (.v (.c (.func 21 []))) [x47] h 48 fun x48 h =>
 vbin .add 0 x3 x48 h fun x49 h =>
 vbin .add 0 x4 (kI 1) h fun x37 h =>
 R 1 [x1,x49,x37] h
theorem e21_2(O:Oracle)(R:Jump)(q:Nat)(x1 x3 x4:TVal)(h:Heap):b21_2 O R q x1 x3 x4 h=stepF c21 O R q 2 [x1,x3,x4] h:=by kernel_rfl
def b21_3(O:Oracle)(R:Jump)(q:Nat)(x3:TVal)(h:Heap):Res1 :=
 vbin .add 0 x3 (kS [93]) h fun x51 h =>
 tcomp x51 fun c0=>vfin true q [c0] h
theorem e21_3(O:Oracle)(R:Jump)(q:Nat)(x3:TVal)(h:Heap):b21_3 O R q x3 h=stepF c21 O R q 3 [x3] h:=by kernel_rfl
def b21_4(O:Oracle)(R:Jump)(q:Nat)(x1:TVal)(h:Heap):Res1 :=
 R 5 [x1,(kS [123]),(kI 0)] h
theorem e21_4(O:Oracle)(R:Jump)(q:Nat)(x1:TVal)(h:Heap):b21_4 O R q x1 h=stepF c21 O R q 4 [x1] h:=by kernel_rfl
def b21_5(O:Oracle)(R:Jump)(q:Nat)(x1 x5 x6:TVal)(h:Heap):Res1 :=
 vfaddr 5 x1 h fun x53 h =>
 vload false 1 x53 h fun x54 h =>
 vlen O 2 x54 h 55 fun x55 h =>
 vbin .lss 0 x6 x55 h fun x56 h =>
 vif x56 (
 vbin .gtr 0 x6 (kI 0) h fun x60 h =>
 vif x60 (
 vbin .add 0 x5 (kS [44]) h fun x62 h =>
 R 6 [x1,x62,x6] h)
 (R 6 [x1,x5,x6] h))
 (R 7 [x5] h)
theorem e21_5(O:Oracle)(R:Jump)(q:Nat)(x1 x5 x6:TVal)(h:Heap):b21_5 O R q x1 x5 x6 h=stepF c21 O R q 5 [x1,x5,x6] h:=by kernel_rfl
def b21_6(O:Oracle)(R:Jump)(q:Nat)(x1 x5 x6:TVal)(h:Heap):Res1 :=
 vtouch O (.mv (.k x5)) h 63 fun x63 h t0 =>
 vtouch O (.faddr 4 (.k x1)) h 64 fun x64 h t1 =>
 vtouch O (.load false 1 (.k x64)) h 65 fun x65 h t2 =>
 vtouch O (.mv (.k x6)) h 66 fun x66 h t3 =>
 vtouch O (.iaddr 1 (.k x65) (.k x66)) h 67 fun x67 h t4 =>
 vtouch O (.load false 1 (.k x67)) h 68 fun x68 h t5 =>
 vtouch O (.call (.k (.v (.c (.func 40 [])))) [(.k x68)]) h 69 fun x69 h t6 =>
 vtouch O (.bin .add 0 (.k x63) (.k x69)) h 70 fun x70 h t7 =>
 vtouch O (.bin .add 0 (.k x70) (.k (kS [58]))) h 71 fun x71 h t8 =>
 vtouch O (.faddr 5 (.k x1)) h 72 fun x72 h t9 =>
 vtouch O (.load false 1 (.k x72)) h 73 fun x73 h t10 =>
 vtouch O (.mv (.k x6)) h 74 fun x74 h t11 =>
 vtouch O (.iaddr 6 (.k x73) (.k x74)) h 75 fun x75 h t12 =>
 vtouch O (.load true 6 (.k x75)) h 76 fun x76 h t13 =>
 vtouch O (.call (.k (.v (.c (.func 21 [])))) [(.k x76)]) h 77 fun x77 h t14 =>
 vtouch O (.bin .add 0 (.k x71) (.k x77)) h 78 fun x78 h t15 =>
 vtouch O (.mv (.k x78)) h 5 fun x5_1 h t16 =>
 bif apartAll [t0,t1,t2,t3,t4,t5,t6,t7,t8,t9,t10,t11,t12,t13,t14,t15,t16] [(6,10),(6,13)] then
 vbin .add 0 x6 (kI 1) h fun x58 h =>
 R 5 [x1,x5_1,x58] h
 else none
theorem e21_6(O:Oracle)(R:Jump)(q:Nat)(x1 x5 x6:TVal)(h:Heap):b21_6 O R q x1 x5 x6 h=stepF c21 O R q 6 [x1,x5,x6] h:=by kernel_rfl
def b21_7(O:Oracle)(R:Jump)(q:Nat)(x5:TVal)(h:Heap):Res1 :=
 vbin .add 0 x5 (kS [125]) h fun x80 h =>
 tcomp x80 fun c0=>vfin true q [c0] h
theorem e21_7(O:Oracle)(R:Jump)(q:Nat)(x5:TVal)(h:Heap):b21_7 O R q x5 h=stepF c21 O R q 7 [x5] h:=by kernel_rfl
def d21:BlkF:=fun O R Q=>[.s fun a => .z (b21_0 O R Q a),.s fun a => .s fun b => .s fun c => .z (b21_1 O R Q a b c),.s fun a => .s fun b => .s fun c => .z (b21_2 O R Q a b c),.s fun a => .z (b21_3 O R Q a),.s fun a => .z (b21_4 O R Q a),.s fun a => .s fun b => .s fun c => .z (b21_5 O R Q a b c),.s fun a => .s fun b => .s fun c => .z (b21_6 O R Q a b c),.s fun a => .z (b21_7 O R Q a)]
theorem o21(O:Oracle)(R:Jump)(q:Nat):HoldsAll c21 O R q 0 (d21 O R q):=⟨e21_0 O R q,e21_1 O R q,e21_2 O R q,e21_3 O R q,e21_4 O R q,e21_5 O R q,e21_6 O R q,e21_7 O R q,trivial⟩
def c24:MFunc:=mkM (compF Tryz.prog (globs2 tabs opq) (fun _=>false) true Tryz.f24) .n
def b24_0(O:Oracle)(R:Jump)(q:Nat)(x0:TVal)(h:Heap):Res1 :=
 vop O (.box (.k x0) false) h 1 fun x1 h =>
 vop O (.alloc [(.p (.int .i64 0))] false) h 3 fun x3 h =>
 vstore 1 x3 (kI 0) h fun _ h =>
 vload true 6 x1 h fun x4 h =>
 vcall O (.v (.c (.func 44 []))) [x4,(kI 1),x3] h 5 fun x5 h =>
 tcomp x5 fun c0=>vfin true q [c0] h
theorem e24_0(O:Oracle)(R:Jump)(q:Nat)(x0:TVal)(h:Heap):b24_0 O R q x0 h=stepF c24 O R q 0 [x0] h:=by kernel_rfl
def d24:BlkF:=fun O R Q=>[.s fun a => .z (b24_0 O R Q a)]
theorem o24(O:Oracle)(R:Jump)(q:Nat):HoldsAll c24 O R q 0 (d24 O R q):=⟨e24_0 O R q,trivial⟩
def c26:MFunc:=mkM (compF Tryz.prog (globs2 tabs opq) (fun _=>false) true Tryz.f26) .n
def b26_0(O:Oracle)(R:Jump)(q:Nat)(x0 x1:TVal)(h:Heap):Res1 :=
 vop O (.box (.k x0) false) h 2 fun x2 h =>
 vop O (.box (.k x1) false) h 3 fun x3 h =>
 vop O (.alloc [(.p (.int .i64 0)),(.p (.bool false)),(.p (.int .i64 0)),(.p (.str [])),(.p .nilslice),(.p .nilslice)] false) h 4 fun x4 h =>
 vload false 1 x2 h fun x6 h =>
 vcall O (.v (.c (.func 27 []))) [x6] h 7 fun x7 h =>
 vload false 1 x2 h fun x8 h =>
 vop O (.nilck (.k x8)) h 9 fun x9 h =>
 vfaddr 1 x9 h fun x10 h =>
 vload false 1 x10 h fun x11 h =>
 vbin .neq 0 x11 (kI 0) h fun x12 h =>
 vif x12 (
 vop O (.build [(.p (.int .i64 0)),(.p (.bool false)),(.p (.int .i64 0)),(.p (.str [])),(.p .nilslice),(.p .nilslice)] []) h 13 fun x13 h =>
 vstore 6 x4 x13 h fun _ h =>
 vcell true 6 x4 h fun c0=>vfin true q [c0] h)
 (vload false 1 x2 h fun x14 h =>
 vop O (.nilck (.k x14)) h 15 fun x15 h =>
 vfaddr 0 x15 h fun x16 h =>
 vload false 1 x16 h fun x17 h =>
 vbin .eql 0 x17 (kS []) h fun x18 h =>
 vguard x18 false (fun kk=>vload false 1 x2 h kk) h fun x20 h =>
 vguard x18 false (fun kk=>vop O (.nilck (.k x20)) h 21 kk) h fun x21 h =>
 vguard x18 false (fun kk=>vfaddr 0 x21 h kk) h fun x22 h =>
 vguard x18 false (fun kk=>vload false 1 x22 h kk) h fun x23 h =>
 vguard x18 false (fun kk=>vop O (.slice 0 true (.k x23) none (some (.k (kI 1))) none) h 24 kk) h fun x24 h =>
 vguard x18 false (fun kk=>vcall O (.v (.c (.func 46 []))) [(kS [110,116,102,45,48,49,50,51,52,53,54,55,56,57,34,91,123]),x24] h 25 kk) h fun x25 h =>
 vguard x18 false (fun kk=>vop O (.un .not (.k x25)) h 26 kk) h fun x26 h =>
 vop O (.pick (.k x18) (.k (kB true)) (.k x26)) h 27 fun x27 h =>
 vif x27 (
 vload false 1 x2 h fun x28 h =>
 vcall O (.v (.c (.func 28 []))) [x28,(kI 12)] h 29 fun x29 h =>
 vop O (.build [(.p (.int .i64 0)),(.p (.bool false)),(.p (.int .i64 0)),(.p (.str [])),(.p .nilslice),(.p .nilslice)] []) h 30 fun x30 h =>
 vstore 6 x4 x30 h fun _ h =>
 vcell true 6 x4 h fun c0=>vfin true q [c0] h)
 (vload false 1 x3 h fun x31 h =>
 vbin .gtr 0 x31 (kI 12) h fun x32 h =>
 vguard x32 true (fun kk=>vload false 1 x2 h kk) h fun x34 h =>
 vguard x32 true (fun kk=>vcall O (.v (.c (.func 47 []))) [x34] h 35 kk) h fun x35 h =>
 vop O (.pick (.k x32) (.k x35) (.k (kB false))) h 36 fun x36 h =>
 vif x36 (
 vload false 1 x2 h fun x37 h =>
 vcall O (.v (.c (.func 28 []))) [x37,(kI 13)] h 38 fun x38 h =>
 vop O (.build [(.p (.int .i64 0)),(.p (.bool false)),(.p (.int .i64 0)),(.p (.str [])),(.p .nilslice),(.p .nilslice)] []) h 39 fun x39 h =>
 vstore 6 x4 x39 h fun _ h =>
 vcell true 6 x4 h fun c0=>vfin true q [c0] h)
 (vload false 1 x2 h fun x41 h =>
 vcall O (.v (.c (.func 48 []))) [x41,(kS [110,117,108,108])] h 42 fun x42 h =>
 vif x42 (
 vop O (.build [(.p (.int .i64 0)),(.p (.bool false)),(.p (.int .i64 0)),(.p (.str [])),(.p .nilslice),(.p .nilslice)] []) h 43 fun x43 h =>
 vstore 6 x4 x43 h fun _ h =>
 vcell true 6 x4 h fun c0=>vfin true q [c0] h)
 (vload false 1 x2 h fun x45 h =>
 vcall O (.v (.c (.func 48 []))) [x45,(kS [116,114,117,101])] h 46 fun x46 h =>
 vif x46 (
 vop O (.build [(.p (.int .i64 0)),(.p (.bool false)),(.p (.int .i64 0)),(.p (.str [])),(.p .nilslice),(.p .nilslice)] [(0,1,(.k (kI 1))),(1,1,(.k (kB true)))]) h 47 fun x47 h =>
 vstore 6 x4 x47 h fun _ h =>
 vcell true 6 x4 h fun c0=>vfin true q [c0] h)
 (vload false 1 x2 h fun x49 h =>
 vcall O (.v (.c (.func 48 []))) [x49,(kS [102,97,108,115,101])] h 50 fun x50 h =>
 vif x50 (
 vop O (.build [(.p (.int .i64 0)),(.p (.bool false)),(.p (.int .i64 0)),(.p (.str [])),(.p .nilslice),(.p .nilslice)] [(0,1,(.k (kI 1)))]) h 51 fun x51 h =>
 vstore 6 x4 x51 h fun _ h =>
 vcell true 6 x4 h fun c0=>vfin true q [c0] h)
 (vload false 1 x2 h fun x53 h =>
 vcall O (.v (.c (.func 48 []))) [x53,(kS [34])] h 54 fun x54 h =>
 vif x54 (
 vload false 1 x2 h fun x55 h =>
 vcall O (.v (.c (.func 49 []))) [x55] h 56 fun x56 h =>
 vop O (.build [(.p (.int .i64 0)),(.p (.bool false)),(.p (.int .i64 0)),(.p (.str [])),(.p .nilslice),(.p .nilslice)] [(0,1,(.k (kI 3))),(3,1,(.k x56))]) h 57 fun x57 h =>
 vstore 6 x4 x57 h fun _ h =>
 vcell true 6 x4 h fun c0=>vfin true q [c0] h)
 (vload false 1 x2 h fun x59 h =>
 vcall O (.v (.c (.func 48 []))) [x59,(kS [91])] h 60 fun x60 h =>
 vif x60 (
 vop O (.build [(.p (.int .i64 0)),(.p (.bool false)),(.p (.int .i64 0)),(.p (.str [])),(.p .nilslice),(.p .nilslice)] [(0,1,(.k (kI 4)))]) h 61 fun x61 h =>
 vop O (.alloc [(.p (.int .i64 0)),(.p (.bool false)),(.p (.int .i64 0)),(.p (.str [])),(.p .nilslice),(.p .nilslice)] false) h 5 fun x5 h =>
 vstore 6 x5 x61 h fun _ h =>
 vload false 1 x2 h fun x62 h =>
 vop O (.mkfn 51 [(.k x5),(.k x2),(.k x3)]) h 63 fun x63 h =>
 vcall O (.v (.c (.func 50 []))) [x62,(kS [93]),x63] h 64 fun x64 h =>
 vload true 6 x5 h fun x65 h =>
 vstore 6 x4 x65 h fun _ h =>
 vcell true 6 x4 h fun c0=>vfin true q [c0] h)
 (vload false 1 x2 h fun x67 h =>
 vcall O (.v (.c (.func 48 []))) [x67,(kS [123])] h 68 fun x68 h =>
 vif x68 (
 vload false 1 x2 h fun x69 h =>
 vload false 1 x3 h fun x70 h =>
 vcall O (.v (.c (.func 52 []))) [x69,x70] h 71 fun x71 h =>
 vstore 6 x4 x71 h fun _ h =>
 vcell true 6 x4 h fun c0=>vfin true q [c0] h)
 (vload false 1 x2 h fun x73 h =>
 vop O (.nilck (.k x73)) h 74 fun x74 h =>
 vfaddr 0 x74 h fun x75 h =>
 vload false 1 x75 h fun x76 h =>
 vop O (.slice 0 true (.k x76) none (some (.k (kI 1))) none) h 77 fun x77 h =>
 vcall O (.v (.c (.func 46 []))) [(kS [110,116,102]),x77] h 78 fun x78 h =>
 vif x78 (
 vload false 1 x2 h fun x79 h =>
 vcall O (.v (.c (.func 28 []))) [x79,(kI 12)] h 80 fun x80 h =>
 vop O (.build [(.p (.int .i64 0)),(.p (.bool false)),(.p (.int .i64 0)),(.p (.str [])),(.p .nilslice),(.p .nilslice)] []) h 81 fun x81 h =>
 vstore 6 x4 x81 h fun _ h =>
 vcell true 6 x4 h fun c0=>vfin true q [c0] h)
 (vload false 1 x2 h fun x82 h =>
 vcall O (.v (.c (.func 53 []))) [x82] h 83 fun x83 h =>
 vstore 6 x4 x83 h fun _ h =>
 vcell true 6 x4 h fun c0=>vfin true q [c0] h))))))))))
theorem e26_0(O:Oracle)(R:Jump)(q:Nat)(x0 x1:TVal)(h:Heap):b26_0 O R q x0 x1 h=stepF c26 O R q 0 [x0,x1] h:=by kernel_rfl
def d26:BlkF:=fun O R Q=>[.s fun a => .s fun b => .z (b26_0 O R Q a b)]
theorem o26(O:Oracle)(R:Jump)(q:Nat):HoldsAll c26 O R q 0 (d26 O R q):=⟨e26_0 O R q,trivial⟩
def c27:MFunc:=mkM (compF Tryz.prog (globs2 tabs opq) (fun _=>false) true Tryz.f27) .n
def b27_0(O:Oracle)(R:Jump)(q:Nat)(x0:TVal)(h:Heap):Res1 :=
 vop O (.nilck (.k x0)) h 4 fun x4 h =>
 vfaddr 0 x4 h fun x5 h =>
 vload false 1 x5 h fun x6 h =>
 vcall O (.v (.c (.func 54 []))) [x6,(kS [32,9,10,13])] h 7 fun x7 h =>
 vop O (.nilck (.k x0)) h 8 fun x8 h =>
 vfaddr 0 x8 h fun x9 h =>
 vstore 1 x9 x7 h fun _ h =>
 vfin true q [] h
theorem e27_0(O:Oracle)(R:Jump)(q:Nat)(x0:TVal)(h:Heap):b27_0 O R q x0 h=stepF c27 O R q 0 [x0] h:=by kernel_rfl
def d27:BlkF:=fun O R Q=>[.s fun a => .z (b27_0 O R Q a)]
theorem o27(O:Oracle)(R:Jump)(q:Nat):HoldsAll c27 O R q 0 (d27 O R q):=⟨e27_0 O R q,trivial⟩
def c28:MFunc:=mkM (compF Tryz.prog (globs2 tabs opq) (fun _=>false) true Tryz.f28) .n
def b28_0(O:Oracle)(R:Jump)(q:Nat)(x0 x1:TVal)(h:Heap):Res1 :=
 vop O (.nilck (.k x0)) h 5 fun x5 h =>
 vfaddr 1 x5 h fun x6 h =>
 vload false 1 x6 h fun x7 h =>
 vbin .eql 0 x7 (kI 0) h fun x8 h =>
 vif x8 (
 vop O (.nilck (.k x0)) h 11 fun x11 h =>
 vfaddr 1 x11 h fun x12 h =>
 vstore 1 x12 x1 h fun _ h =>
 vfin true q [] h)
 (vfin true q [] h)
theorem e28_0(O:Oracle)(R:Jump)(q:Nat)(x0 x1:TVal)(h:Heap):b28_0 O R q x0 x1 h=stepF c28 O R q 0 [x0,x1] h:=by kernel_rfl
def d28:BlkF:=fun O R Q=>[.s fun a => .s fun b => .z (b28_0 O R Q a b)]
theorem o28(O:Oracle)(R:Jump)(q:Nat):HoldsAll c28 O R q 0 (d28 O R q):=⟨e28_0 O R q,trivial⟩
def c29:MFunc:=mkM (compF Tryz.prog (globs2 tabs opq) (fun _=>false) true Tryz.f29) .n
def b29_0(O:Oracle)(R:Jump)(q:Nat)(x0:TVal)(h:Heap):Res1 :=
 vcall O (.v (.c (.func 55 []))) [x0] h 4 fun x4 h =>
 tcomp x4 fun c0=>vfin true q [c0] h
theorem e29_0(O:Oracle)(R:Jump)(q:Nat)(x0:TVal)(h:Heap):b29_0 O R q x0 h=stepF c29 O R q 0 [x0] h:=by kernel_rfl
def d29:BlkF:=fun O R Q=>[.s fun a => .z (b29_0 O R Q a)]
theorem o29(O:Oracle)(R:Jump)(q:Nat):HoldsAll c29 O R q 0 (d29 O R q):=⟨e29_0 O R q,trivial⟩
def c30:MFunc:=mkM (compF Tryz.prog (globs2 tabs opq) (fun _=>false) true Tryz.f30) .n
def b30_0(O:Oracle)(R:Jump)(q:Nat)(x0 x1:TVal)(h:Heap):Res1 :=
 vcall O (.v (.c (.func 56 []))) [x0,x1] h 7 fun x7 h =>
 tcomp x7 fun c0=>vfin true q [c0] h
theorem e30_0(O:Oracle)(R:Jump)(q:Nat)(x0 x1:TVal)(h:Heap):b30_0 O R q x0 x1 h=stepF c30 O R q 0 [x0,x1] h:=by kernel_rfl
def d30:BlkF:=fun O R Q=>[.s fun a => .s fun b => .z (b30_0 O R Q a b)]
theorem o30(O:Oracle)(R:Jump)(q:Nat):HoldsAll c30 O R q 0 (d30 O R q):=⟨e30_0 O R q,trivial⟩
def c33:MFunc:=mkM (compF Tryz.prog (globs2 tabs opq) (fun _=>false) true Tryz.f33) (.s .n (.s .n (.s (.s .n (.k (.l 1 [0,3,4] (.s .n (.s .n (.m 2 [0,3,4] .n)))))) .n)))
def b33_0(O:Oracle)(R:Jump)(q:Nat)(x0:TVal)(h:Heap):Res1 :=
 R 1 [x0,(kS []),(kI 0)] h
theorem e33_0(O:Oracle)(R:Jump)(q:Nat)(x0:TVal)(h:Heap):b33_0 O R q x0 h=stepF c33 O R q 0 [x0] h:=by kernel_rfl
def b33_1(O:Oracle)(R:Jump)(q:Nat)(x0 x3 x4:TVal)(h:Heap):Res1 :=
 vlen O 2 x0 h 7 fun x7 h =>
 vbin .lss 0 x4 x7 h fun x8 h =>
 vif x8 (
 viaddr 1 x0 x4 h fun x13 h =>
 vload false 1 x13 h fun x14 h =>
 vbin .geq 0 x14 (.v (.c (.p (.int .u8 32)))) h fun x15 h =>
 vguard x15 false (fun kk=>kk x0 h) h fun x17 h =>
 vguard x15 false (fun kk=>kk x4 h) h fun x18 h =>
 vguard x15 false (fun kk=>viaddr 1 x17 x18 h kk) h fun x19 h =>
 vguard x15 false (fun kk=>vload false 1 x19 h kk) h fun x20 h =>
 vguard x15 false (fun kk=>vbin .eql 0 x20 (.v (.c (.p (.int .u8 10)))) h kk) h fun x21 h =>
 vop O (.pick (.k x15) (.k (kB true)) (.k x21)) h 22 fun x22 h =>
 vguard x22 false (fun kk=>kk x0 h) h fun x24 h =>
 vguard x22 false (fun kk=>kk x4 h) h fun x25 h =>
 vguard x22 false (fun kk=>viaddr 1 x24 x25 h kk) h fun x26 h =>
 vguard x22 false (fun kk=>vload false 1 x26 h kk) h fun x27 h =>
 vguard x22 false (fun kk=>vbin .eql 0 x27 (.v (.c (.p (.int .u8 9)))) h kk) h fun x28 h =>
 vop O (.pick (.k x22) (.k (kB true)) (.k x28)) h 29 fun x29 h =>
 vif x29 (
 vbin .add 0 x4 (kI 1) h fun x34 h =>
 vop O (.slice 1 false (.k x0) (some (.k x4)) (some (.k x34)) none) h 35 fun x35 h =>
 vop O (.toStr (.k x35)) h 36 fun x36 h =>
 vbin .add 0 x3 x36 h fun x37 h =>
 R 2 [x0,x37,x4] h)
 (R 2 [x0,x3,x4] h))
 (tcomp x3 fun c0=>vfin true q [c0] h)
theorem e33_1(O:Oracle)(R:Jump)(q:Nat)(x0 x3 x4:TVal)(h:Heap):b33_1 O R q x0 x3 x4 h=stepF c33 O R q 1 [x0,x3,x4] h:=by kernel_rfl
def b33_2(O:Oracle)(R:Jump)(q:Nat)(x0 x3 x4:TVal)(h:Heap):Res1 :=
 vbin .add 0 x4 (kI 1) h fun x10 h =>
 R 1 [x0,x3,x10] h
theorem e33_2(O:Oracle)(R:Jump)(q:Nat)(x0 x3 x4:TVal)(h:Heap):b33_2 O R q x0 x3 x4 h=stepF c33 O R q 2 [x0,x3,x4] h:=by kernel_rfl
def d33:BlkF:=fun O R Q=>[.s fun a => .z (b33_0 O R Q a),.s fun a => .s fun b => .s fun c => .z (b33_1 O R Q a b c),.s fun a => .s fun b => .s fun c => .z (b33_2 O R Q a b c)]
theorem o33(O:Oracle)(R:Jump)(q:Nat):HoldsAll c33 O R q 0 (d33 O R q):=⟨e33_0 O R q,e33_1 O R q,e33_2 O R q,trivial⟩
def c34:MFunc:=mkM (compF Tryz.prog (globs2 tabs opq) (fun _=>false) true Tryz.f34) (.s .n (.s .n (.s (.k (.l 1 [1,3,5,6,7] .n)) (.m 2 [1,3,5,6,7] .n))))
def b34_0(O:Oracle)(R:Jump)(q:Nat)(x0 x1 x2:TVal)(h:Heap):Res1 :=
 vop O (.box (.k x0) false) h 3 fun x3 h =>
 vop O (.box (.k x2) false) h 5 fun x5 h =>
 vop O (.alloc [(.p (.int .i64 0)),(.p (.bool false)),(.p (.int .i64 0)),(.p (.str [])),(.p .nilslice),(.p .nilslice)] false) h 6 fun x6 h =>
 R 1 [x1,x3,x5,x6,(kI 0)] h
theorem e34_0(O:Oracle)(R:Jump)(q:Nat)(x0 x1 x2:TVal)(h:Heap):b34_0 O R q x0 x1 x2 h=stepF c34 O R q 0 [x0,x1,x2] h:=by kernel_rfl
def b34_1(O:Oracle)(R:Jump)(q:Nat)(x1 x3 x5 x6 x7:TVal)(h:Heap):Res1 :=
 vfaddr 4 x3 h fun x11 h =>
 vload false 1 x11 h fun x12 h =>
 vlen O 2 x12 h 13 fun x13 h =>
 vbin .lss 0 x7 x13 h fun x14 h =>
 vguard x14 true (fun kk=>vfaddr 4 x3 h kk) h fun x16 h =>
 vguard x14 true (fun kk=>vload false 1 x16 h kk) h fun x17 h =>
 vguard x14 true (fun kk=>kk x7 h) h fun x18 h =>
 vguard x14 true (fun kk=>viaddr 1 x17 x18 h kk) h fun x19 h =>
 vguard x14 true (fun kk=>vload false 1 x19 h kk) h fun x20 h =>
 vguard x14 true (fun kk=>kk x1 h) h fun x21 h =>
 vguard x14 true (fun kk=>vbin .lss 0 x20 x21 h kk) h fun x22 h =>
 vop O (.pick (.k x14) (.k x22) (.k (kB false))) h 23 fun x23 h =>
 vif x23 (
 vbin .add 0 x7 (kI 1) h fun x25 h =>
 R 1 [x1,x3,x5,x6,x25] h)
 (R 2 [x1,x3,x5,x6,x7] h)
theorem e34_1(O:Oracle)(R:Jump)(q:Nat)(x1 x3 x5 x6 x7:TVal)(h:Heap):b34_1 O R q x1 x3 x5 x6 x7 h=stepF c34 O R q 1 [x1,x3,x5,x6,x7] h:=by kernel_rfl
def b34_2(O:Oracle)(R:Jump)(q:Nat)(x1 x3 x5 x6 x7:TVal)(h:Heap):Res1 :=
 vfaddr 4 x3 h fun x27 h =>
 vload false 1 x27 h fun x28 h =>
 vlen O 2 x28 h 29 fun x29 h =>
 vbin .lss 0 x7 x29 h fun x30 h =>
 vguard x30 true (fun kk=>vfaddr 4 x3 h kk) h fun x32 h =>
 vguard x30 true (fun kk=>vload false 1 x32 h kk) h fun x33 h =>
 vguard x30 true (fun kk=>kk x7 h) h fun x34 h =>
 vguard x30 true (fun kk=>viaddr 1 x33 x34 h kk) h fun x35 h =>
 vguard x30 true (fun kk=>vload false 1 x35 h kk) h fun x36 h =>
 vguard x30 true (fun kk=>kk x1 h) h fun x37 h =>
 vguard x30 true (fun kk=>vbin .eql 0 x36 x37 h kk) h fun x38 h =>
 vop O (.pick (.k x30) (.k x38) (.k (kB false))) h 39 fun x39 h =>
 vif x39 (
 vload true 6 x3 h fun x40 h =>
 vstore 6 x6 x40 h fun _ h =>
 vcell true 6 x6 h fun c0=>vfin true q [c0] h)
 (vop O (.bslice 1 0 [(.p (.str []))] [] false) h 41 fun x41 h =>
 vfaddr 4 x3 h fun x42 h =>
 vload false 1 x42 h fun x43 h =>
 vop O (.slice 1 false (.k x43) none (some (.k x7)) none) h 45 fun x45 h =>
 vop O (.append 1 16 false (.k x41) (.k x45)) h 46 fun x46 h =>
 vop O (.bslice 6 0 [(.p (.int .i64 0)),(.p (.bool false)),(.p (.int .i64 0)),(.p (.str [])),(.p .nilslice),(.p .nilslice)] [] false) h 47 fun x47 h =>
 vfaddr 5 x3 h fun x48 h =>
 vload false 1 x48 h fun x49 h =>
 vop O (.slice 6 false (.k x49) none (some (.k x7)) none) h 51 fun x51 h =>
 vop O (.append 6 88 false (.k x47) (.k x51)) h 52 fun x52 h =>
 vtouch O (.mv (.k x46)) h 53 fun x53 h t0 =>
 vtouch O (.mv (.k x1)) h 54 fun x54 h t1 =>
 vtouch O (.bslice 1 1 [(.p (.str []))] [(0,(.k x54))] false) h 55 fun x55 h t2 =>
 vtouch O (.append 1 16 false (.k x53) (.k x55)) h 56 fun x56 h t3 =>
 vtouch O (.faddr 4 (.k x3)) h 57 fun x57 h t4 =>
 vtouch O (.load false 1 (.k x57)) h 58 fun x58 h t5 =>
 vtouch O (.mv (.k x7)) h 59 fun x59 h t6 =>
 vtouch O (.slice 1 false (.k x58) (some (.k x59)) none none) h 60 fun x60 h t7 =>
 vtouch O (.append 1 16 false (.k x56) (.k x60)) h 61 fun x61 h t8 =>
 vtouch O (.mv (.k x52)) h 62 fun x62 h t9 =>
 vtouch O (.load true 6 (.k x5)) h 63 fun x63 h t10 =>
 vtouch O (.bslice 6 1 [(.p (.int .i64 0)),(.p (.bool false)),(.p (.int .i64 0)),(.p (.str [])),(.p .nilslice),(.p .nilslice)] [(0,(.k x63))] false) h 64 fun x64 h t11 =>
 vtouch O (.append 6 88 false (.k x62) (.k x64)) h 65 fun x65 h t12 =>
 vtouch O (.faddr 5 (.k x3)) h 66 fun x66 h t13 =>
 vtouch O (.load false 1 (.k x66)) h 67 fun x67 h t14 =>
 vtouch O (.mv (.k x7)) h 68 fun x68 h t15 =>
 vtouch O (.slice 6 false (.k x67) (some (.k x68)) none none) h 69 fun x69 h t16 =>
 vtouch O (.append 6 88 false (.k x65) (.k x69)) h 70 fun x70 h t17 =>
 vtouch O (.faddr 4 (.k x3)) h 71 fun x71 h t18 =>
 vtouch O (.store 1 (.k x71) (.k x61)) h 1000000 fun _ h t19 =>
 vtouch O (.faddr 5 (.k x3)) h 72 fun x72 h t20 =>
 vtouch O (.store 1 (.k x72) (.k x70)) h 1000000 fun _ h t21 =>
 bif apartAll [t0,t1,t2,t3,t4,t5,t6,t7,t8,t9,t10,t11,t12,t13,t14,t15,t16,t17,t18,t19,t20,t21] [(2,5),(3,5),(2,10),(3,10),(8,10),(2,11),(3,11),(5,11),(8,11),(2,14),(3,14),(8,14),(11,14),(12,14)] then
 vload true 6 x3 h fun x73 h =>
 vstore 6 x6 x73 h fun _ h =>
 vcell true 6 x6 h fun c0=>vfin true q [c0] h
 else none)
theorem e34_2(O:Oracle)(R:Jump)(q:Nat)(x1 x3 x5 x6 x7:TVal)(h:Heap):b34_2 O R q x1 x3 x5 x6 x7 h=stepF c34 O R q 2 [x1,x3,x5,x6,x7] h:=by kernel_rfl
def d34:BlkF:=fun O R Q=>[.s fun a => .s fun b => .s fun c => .z (b34_0 O R Q a b c),.s fun a => .s fun b => .s fun c => .s fun d => .s fun e => .z (b34_1 O R Q a b c d e),.s fun a => .s fun b => .s fun c => .s fun d => .s fun e => .z (b34_2 O R Q a b c d e)]
theorem o34(O:Oracle)(R:Jump)(q:Nat):HoldsAll c34 O R q 0 (d34 O R q):=⟨e34_0 O R q,e34_1 O R q,e34_2 O R q,trivial⟩
def c35:MFunc:=mkM (compF Tryz.prog (globs2 tabs opq) (fun _=>false) true Tryz.f35) (.s .n (.s .n (.s (.s .n (.k (.l 1 [0,1,12,13] .n))) .n)))
def b35_0(O:Oracle)(R:Jump)(q:Nat)(x0 x1:TVal)(h:Heap):Res1 :=
 vlen O 2 x0 h 7 fun x7 h =>
 vlen O 2 x1 h 9 fun x9 h =>
 vbin .neq 0 x7 x9 h fun x10 h =>
 vif x10 (
 tcomp (kB false) fun c0=>vfin true q [c0] h)
 (vlen O 2 x0 h 12 fun x12 h =>
 R 1 [x0,x1,x12,(kI 0)] h)
theorem e35_0(O:Oracle)(R:Jump)(q:Nat)(x0 x1:TVal)(h:Heap):b35_0 O R q x0 x1 h=stepF c35 O R q 0 [x0,x1] h:=by kernel_rfl
def b35_1(O:Oracle)(R:Jump)(q:Nat)(x0 x1 x12 x13:TVal)(h:Heap):Res1 :=
 vbin .lss 0 x13 x12 h fun x14 h =>
 vif x14 (
 viaddr 1 x0 x13 h fun x18 h =>
 vload false 1 x18 h fun x19 h =>
 viaddr 1 x1 x13 h fun x22 h =>
 vload false 1 x22 h fun x23 h =>
 vbin .neq 0 x19 x23 h fun x24 h =>
 vif x24 (
 tcomp (kB false) fun c0=>vfin true q [c0] h)
 (vbin .add 0 x13 (kI 1) h fun x25 h =>
 R 1 [x0,x1,x12,x25] h))
 (tcomp (kB true) fun c0=>vfin true q [c0] h)
theorem e35_1(O:Oracle)(R:Jump)(q:Nat)(x0 x1 x12 x13:TVal)(h:Heap):b35_1 O R q x0 x1 x12 x13 h=stepF c35 O R q 1 [x0,x1,x12,x13] h:=by kernel_rfl
def d35:BlkF:=fun O R Q=>[.s fun a => .s fun b => .z (b35_0 O R Q a b),.s fun a => .s fun b => .s fun c => .s fun d => .z (b35_1 O R Q a b c d)]
theorem o35(O:Oracle)(R:Jump)(q:Nat):HoldsAll c35 O R q 0 (d35 O R q):=⟨e35_0 O R q,e35_1 O R q,trivial⟩
def c36:MFunc:=mkM (compF Tryz.prog (globs2 tabs opq) (fun _=>false) true Tryz.f36) (.s .n (.s .n (.s (.s .n (.k (.l 1 [1,2,15,16,17] .n))) .n)))
def b36_0(O:Oracle)(R:Jump)(q:Nat)(x0 x1 x2:TVal)(h:Heap):Res1 :=
 vlen O 2 x0 h 11 fun x11 h =>
 vlen O 2 x1 h 13 fun x13 h =>
 vbin .neq 0 x11 x13 h fun x14 h =>
 vif x14 (
 tcomp (kB false) fun c0=>vfin true q [c0] h)
 (vlen O 2 x0 h 16 fun x16 h =>
 R 1 [x1,x2,x0,x16,(kI 0)] h)
theorem e36_0(O:Oracle)(R:Jump)(q:Nat)(x0 x1 x2:TVal)(h:Heap):b36_0 O R q x0 x1 x2 h=stepF c36 O R q 0 [x0,x1,x2] h:=by kernel_rfl
def b36_1(O:Oracle)(R:Jump)(q:Nat)(x1 x2 x15 x16 x17:TVal)(h:Heap):Res1 :=
 vbin .lss 0 x17 x16 h fun x18 h =>
 vif x18 (
 viaddr 6 x15 x17 h fun x20 h =>
 vload true 6 x20 h fun x21 h =>
 vop O (.alloc [(.p (.int .i64 0)),(.p (.bool false)),(.p (.int .i64 0)),(.p (.str [])),(.p .nilslice),(.p .nilslice)] false) h 8 fun x8 h =>
 vstore 6 x8 x21 h fun _ h =>
 viaddr 6 x1 x17 h fun x24 h =>
 vload true 6 x24 h fun x25 h =>
 vop O (.alloc [(.p (.int .i64 0)),(.p (.bool false)),(.p (.int .i64 0)),(.p (.str [])),(.p .nilslice),(.p .nilslice)] false) h 9 fun x9 h =>
 vstore 6 x9 x25 h fun _ h =>
 vload true 6 x8 h fun x27 h =>
 vload true 6 x9 h fun x28 h =>
 vcall O x2 [x27,x28] h 29 fun x29 h =>
 vop O (.un .not (.k x29)) h 30 fun x30 h =>
 vif x30 (
 tcomp (kB false) fun c0=>vfin true q [c0] h)
 (vbin .add 0 x17 (kI 1) h fun x31 h =>
 R 1 [x1,x2,x15,x16,x31] h))
 (tcomp (kB true) fun c0=>vfin true q [c0] h)
theorem e36_1(O:Oracle)(R:Jump)(q:Nat)(x1 x2 x15 x16 x17:TVal)(h:Heap):b36_1 O R q x1 x2 x15 x16 x17 h=stepF c36 O R q 1 [x1,x2,x15,x16,x17] h:=by kernel_rfl
def d36:BlkF:=fun O R Q=>[.s fun a => .s fun b => .s fun c => .z (b36_0 O R Q a b c),.s fun a => .s fun b => .s fun c => .s fun d => .s fun e => .z (b36_1 O R Q a b c d e)]
theorem o36(O:Oracle)(R:Jump)(q:Nat):HoldsAll c36 O R q 0 (d36 O R q):=⟨e36_0 O R q,e36_1 O R q,trivial⟩
def c39:MFunc:=mkM (compF Tryz.prog (globs2 tabs opq) (fun _=>false) true Tryz.f39) (.s .n (.s .n (.s (.s .n (.k (.l 1 [0,3,4] (.s .n (.s (.k (.s .n (.m 2 [0,3,4] (.s .n (.k (.l 3 [0,3,4,5] (.s .n (.s (.k (.s .n (.m 4 [0,3,4,5] .n))) .n)))))))) (.m 5 [0,3,4] .n)))))) .n)))
def b39_0(O:Oracle)(R:Jump)(q:Nat)(x0:TVal)(h:Heap):Res1 :=
 R 1 [x0,(kS []),(kI 0)] h
theorem e39_0(O:Oracle)(R:Jump)(q:Nat)(x0:TVal)(h:Heap):b39_0 O R q x0 h=stepF c39 O R q 0 [x0] h:=by kernel_rfl
def b39_1(O:Oracle)(R:Jump)(q:Nat)(x0 x3 x4:TVal)(h:Heap):Res1 :=
 vlen O 2 x0 h 8 fun x8 h =>
 vbin .lss 0 x4 x8 h fun x9 h =>
 vif x9 (
 vbin .gtr 0 x4 (kI 0) h fun x13 h =>
 vif x13 (
 vbin .add 0 x3 (kS [32,124,32]) h fun x15 h =>
 R 2 [x0,x15,x4] h)
 (R 2 [x0,x3,x4] h))
 (tcomp x3 fun c0=>vfin true q [c0] h)
theorem e39_1(O:Oracle)(R:Jump)(q:Nat)(x0 x3 x4:TVal)(h:Heap):b39_1 O R q x0 x3 x4 h=stepF c39 O R q 1 [x0,x3,x4] h:=by kernel_rfl
def b39_2(O:Oracle)(R:Jump)(q:Nat)(x0 x3 x4:TVal)(h:Heap):Res1 :=
 R 3 [x0,x3,x4,(kI 0)] h
theorem e39_2(O:Oracle)(R:Jump)(q:Nat)(x0 x3 x4:TVal)(h:Heap):b39_2 O R q x0 x3 x4 h=stepF c39 O R q 2 [x0,x3,x4] h:=by kernel_rfl
def b39_3(O:Oracle)(R:Jump)(q:Nat)(x0 x3 x4 x5:TVal)(h:Heap):Res1 :=
 viaddr 1 x0 x4 h fun x19 h =>
 vfaddr 0 x19 h fun x20 h =>
 vload false 1 x20 h fun x21 h =>
 vlen O 2 x21 h 22 fun x22 h =>
 vbin .lss 0 x5 x22 h fun x23 h =>
 vif x23 (
 vbin .gtr 0 x5 (kI 0) h fun x27 h =>
 vif x27 (
 vbin .add 0 x3 (kS [32]) h fun x29 h =>
 R 4 [x0,x29,x4,x5] h)
 (R 4 [x0,x3,x4,x5] h))
 (R 5 [x0,x3,x4] h)
theorem e39_3(O:Oracle)(R:Jump)(q:Nat)(x0 x3 x4 x5:TVal)(h:Heap):b39_3 O R q x0 x3 x4 x5 h=stepF c39 O R q 3 [x0,x3,x4,x5] h:=by kernel_rfl
def b39_4(O:Oracle)(R:Jump)(q:Nat)(x0 x3 x4 x5:TVal)(h:Heap):Res1 :=
 viaddr 1 x0 x4 h fun x33 h =>
 vfaddr 0 x33 h fun x34 h =>
 vload false 1 x34 h fun x35 h =>
 viaddr 7 x35 x5 h fun x37 h =>
 vload true 7 x37 h fun x38 h =>
 vcall O (.v (.c (.func 64 []))) [x38] h 39 fun x39 h =>
 vbin .add 0 x3 x39 h fun x40 h =>
 vbin .add 0 x5 (kI 1) h fun x25 h =>
 R 3 [x0,x40,x4,x25] h
theorem e39_4(O:Oracle)(R:Jump)(q:Nat)(x0 x3 x4 x5:TVal)(h:Heap):b39_4 O R q x0 x3 x4 x5 h=stepF c39 O R q 4 [x0,x3,x4,x5] h:=by kernel_rfl
def b39_5(O:Oracle)(R:Jump)(q:Nat)(x0 x3 x4:TVal)(h:Heap):Res1 :=
 vbin .add 0 x4 (kI 1) h fun x11 h =>
 R 1 [x0,x3,x11] h
theorem e39_5(O:Oracle)(R:Jump)(q:Nat)(x0 x3 x4:TVal)(h:Heap):b39_5 O R q x0 x3 x4 h=stepF c39 O R q 5 [x0,x3,x4] h:=by kernel_rfl
def d39:BlkF:=fun O R Q=>[.s fun a => .z (b39_0 O R Q a),.s fun a => .s fun b => .s fun c => .z (b39_1 O R Q a b c),.s fun a => .s fun b => .s fun c => .z (b39_2 O R Q a b c),.s fun a => .s fun b => .s fun c => .s fun d => .z (b39_3 O R Q a b c d),.s fun a => .s fun b => .s fun c => .s fun d => .z (b39_4 O R Q a b c d),.s fun a => .s fun b => .s fun c => .z (b39_5 O R Q a b c)]
theorem o39(O:Oracle)(R:Jump)(q:Nat):HoldsAll c39 O R q 0 (d39 O R q):=⟨e39_0 O R q,e39_1 O R q,e39_2 O R q,e39_3 O R q,e39_4 O R q,e39_5 O R q,trivial⟩
def c40:MFunc:=mkM (compF Tryz.prog (globs2 tabs opq) (fun _=>false) true Tryz.f40) (.s .n (.s .n (.s (.s .n (.k (.l 1 [0,3,4] (.s .n (.s (.k (.s .n (.k (.s .n (.m 2 [0,3,4,13,21] .n))))) (.m 3 [0,3,4] .n)))))) (.m 4 [3] .n))))
def b40_0(O:Oracle)(R:Jump)(q:Nat)(x0:TVal)(h:Heap):Res1 :=
 R 1 [x0,(kS [34]),(kI 0)] h
theorem e40_0(O:Oracle)(R:Jump)(q:Nat)(x0:TVal)(h:Heap):b40_0 O R q x0 h=stepF c40 O R q 0 [x0] h:=by kernel_rfl
def b40_1(O:Oracle)(R:Jump)(q:Nat)(x0 x3 x4:TVal)(h:Heap):Res1 :=
 vlen O 0 x0 h 7 fun x7 h =>
 vbin .lss 0 x4 x7 h fun x8 h =>
 vif x8 (
 vindex x0 x4 h fun x13 h =>
 vbin .eql 0 x13 (.v (.c (.p (.int .u8 92)))) h fun x22 h =>
 vif x22 (
 R 2 [x0,x3,x4,x13,x22] h)
 (vbin .eql 0 x13 (.v (.c (.p (.int .u8 34)))) h fun x23 h =>
 R 2 [x0,x3,x4,x13,x23] h))
 (R 4 [x3] h)
theorem e40_1(O:Oracle)(R:Jump)(q:Nat)(x0 x3 x4:TVal)(h:Heap):b40_1 O R q x0 x3 x4 h=stepF c40 O R q 1 [x0,x3,x4] h:=by kernel_rfl
def b40_2(O:Oracle)(R:Jump)(q:Nat)(x0 x3 x4 x13 x21:TVal)(h:Heap):Res1 :=
 vif x21 (
 vbin .add 0 x3 (kS [92]) h fun x25 h =>
 vbin .add 0 x4 (kI 1) h fun x29 h =>
 vop O (.slice 0 true (.k x0) (some (.k x4)) (some (.k x29)) none) h 30 fun x30 h =>
 vbin .add 0 x25 x30 h fun x31 h =>
 R 3 [x0,x31,x4] h)
 (vbin .eql 0 x13 (.v (.c (.p (.int .u8 10)))) h fun x33 h =>
 vif x33 (
 vbin .add 0 x3 (kS [92,110]) h fun x35 h =>
 R 3 [x0,x35,x4] h)
 (vbin .eql 0 x13 (.v (.c (.p (.int .u8 9)))) h fun x37 h =>
 vif x37 (
 vbin .add 0 x3 (kS [92,116]) h fun x39 h =>
 R 3 [x0,x39,x4] h)
 (vbin .add 0 x4 (kI 1) h fun x18 h =>
 vop O (.slice 0 true (.k x0) (some (.k x4)) (some (.k x18)) none) h 19 fun x19 h =>
 vbin .add 0 x3 x19 h fun x20 h =>
 R 3 [x0,x20,x4] h)))
theorem e40_2(O:Oracle)(R:Jump)(q:Nat)(x0 x3 x4 x13 x21:TVal)(h:Heap):b40_2 O R q x0 x3 x4 x13 x21 h=stepF c40 O R q 2 [x0,x3,x4,x13,x21] h:=by kernel_rfl
def b40_3(O:Oracle)(R:Jump)(q:Nat)(x0 x3 x4:TVal)(h:Heap):Res1 :=
 vbin .add 0 x4 (kI 1) h fun x10 h =>
 R 1 [x0,x3,x10] h
theorem e40_3(O:Oracle)(R:Jump)(q:Nat)(x0 x3 x4:TVal)(h:Heap):b40_3 O R q x0 x3 x4 h=stepF c40 O R q 3 [x0,x3,x4] h:=by kernel_rfl
def b40_4(O:Oracle)(R:Jump)(q:Nat)(x3:TVal)(h:Heap):Res1 :=
 vbin .add 0 x3 (kS [34]) h fun x41 h =>
 tcomp x41 fun c0=>vfin true q [c0] h
theorem e40_4(O:Oracle)(R:Jump)(q:Nat)(x3:TVal)(h:Heap):b40_4 O R q x3 h=stepF c40 O R q 4 [x3] h:=by kernel_rfl
def d40:BlkF:=fun O R Q=>[.s fun a => .z (b40_0 O R Q a),.s fun a => .s fun b => .s fun c => .z (b40_1 O R Q a b c),.s fun a => .s fun b => .s fun c => .s fun d => .s fun e => .z (b40_2 O R Q a b c d e),.s fun a => .s fun b => .s fun c => .z (b40_3 O R Q a b c),.s fun a => .z (b40_4 O R Q a)]
theorem o40(O:Oracle)(R:Jump)(q:Nat):HoldsAll c40 O R q 0 (d40 O R q):=⟨e40_0 O R q,e40_1 O R q,e40_2 O R q,e40_3 O R q,e40_4 O R q,trivial⟩
def c44:MFunc:=mkM (compF Tryz.prog (globs2 tabs opq) (fun _=>false) true Tryz.f44) (.s .n (.s .n (.s .n (.s .n (.s (.s .n (.k (.l 1 [1,2,68,69,70] .n))) .n)))))
def b44_0(O:Oracle)(R:Jump)(q:Nat)(x0 x1 x2:TVal)(h:Heap):Res1 :=
 vop O (.box (.k x0) false) h 3 fun x3 h =>
 vop O (.nilck (.k x2)) h 12 fun x12 h =>
 vload false 1 x12 h fun x13 h =>
 vbin .add 0 x13 (kI 1) h fun x14 h =>
 vop O (.nilck (.k x2)) h 15 fun x15 h =>
 vstore 1 x15 x14 h fun _ h =>
 vop O (.nilck (.k x2)) h 18 fun x18 h =>
 vload false 1 x18 h fun x19 h =>
 vbin .gtr 0 x19 (kI 2000) h fun x20 h =>
 vif x20 (
 tcomp (kI 3) fun c0=>vfin true q [c0] h)
 (vfaddr 0 x3 h fun x22 h =>
 vload false 1 x22 h fun x23 h =>
 vbin .lss 0 x23 (kI 0) h fun x24 h =>
 vguard x24 false (fun kk=>vfaddr 0 x3 h kk) h fun x26 h =>
 vguard x24 false (fun kk=>vload false 1 x26 h kk) h fun x27 h =>
 vguard x24 false (fun kk=>vbin .gtr 0 x27 (kI 5) h kk) h fun x28 h =>
 vop O (.pick (.k x24) (.k (kB true)) (.k x28)) h 29 fun x29 h =>
 vguard x29 false (fun kk=>vload true 6 x3 h kk) h fun x31 h =>
 vguard x29 false (fun kk=>vcall O (.v (.c (.func 71 []))) [x31] h 32 kk) h fun x32 h =>
 vop O (.pick (.k x29) (.k (kB true)) (.k x32)) h 33 fun x33 h =>
 vguard x33 false (fun kk=>vfaddr 0 x3 h kk) h fun x35 h =>
 vguard x33 false (fun kk=>vload false 1 x35 h kk) h fun x36 h =>
 vguard x33 false (fun kk=>vbin .eql 0 x36 (kI 5) h kk) h fun x37 h =>
 vguard x33 false (fun kk=>kk x37 h) h fun x38 h =>
 vguard x38 true (fun kk=>vfaddr 4 x3 h kk) h fun x39 h =>
 vguard x38 true (fun kk=>vload false 1 x39 h kk) h fun x40 h =>
 vguard x38 true (fun kk=>vlen O 2 x40 h 41 kk) h fun x41 h =>
 vguard x38 true (fun kk=>vfaddr 5 x3 h kk) h fun x42 h =>
 vguard x38 true (fun kk=>vload false 1 x42 h kk) h fun x43 h =>
 vguard x38 true (fun kk=>vlen O 2 x43 h 44 kk) h fun x44 h =>
 vguard x38 true (fun kk=>vbin .neq 0 x41 x44 h kk) h fun x45 h =>
 vguard x33 false (fun kk=>vop O (.pick (.k x38) (.k x45) (.k (kB false))) h 46 kk) h fun x46 h =>
 vop O (.pick (.k x33) (.k (kB true)) (.k x46)) h 47 fun x47 h =>
 vif x47 (
 tcomp (kI 1) fun c0=>vfin true q [c0] h)
 (vbin .gtr 0 x1 (kI 12) h fun x50 h =>
 vif x50 (
 tcomp (kI 13) fun c0=>vfin true q [c0] h)
 (vfaddr 5 x3 h fun x52 h =>
 vload false 1 x52 h fun x53 h =>
 vlen O 2 x53 h 54 fun x54 h =>
 vbin .gtr 0 x54 (kI 40) h fun x55 h =>
 vif x55 (
 tcomp (kI 3) fun c0=>vfin true q [c0] h)
 (vfaddr 3 x3 h fun x57 h =>
 vload false 1 x57 h fun x58 h =>
 vlen O 0 x58 h 59 fun x59 h =>
 vbin .gtr 0 x59 (kI 200) h fun x60 h =>
 vif x60 (
 tcomp (kI 4) fun c0=>vfin true q [c0] h)
 (vfaddr 4 x3 h fun x61 h =>
 vload false 1 x61 h fun x62 h =>
 vcall O (.v (.c (.func 72 []))) [x62] h 63 fun x63 h =>
 vbin .neq 0 x63 (kI 0) h fun x65 h =>
 vif x65 (
 tcomp x63 fun c0=>vfin true q [c0] h)
 (vfaddr 5 x3 h fun x67 h =>
 vload false 1 x67 h fun x68 h =>
 vlen O 2 x68 h 69 fun x69 h =>
 R 1 [x1,x2,x68,x69,(kI 0)] h))))))
theorem e44_0(O:Oracle)(R:Jump)(q:Nat)(x0 x1 x2:TVal)(h:Heap):b44_0 O R q x0 x1 x2 h=stepF c44 O R q 0 [x0,x1,x2] h:=by kernel_rfl
def b44_1(O:Oracle)(R:Jump)(q:Nat)(x1 x2 x68 x69 x70:TVal)(h:Heap):Res1 :=
 vbin .lss 0 x70 x69 h fun x71 h =>
 vif x71 (
 viaddr 6 x68 x70 h fun x72 h =>
 vload true 6 x72 h fun x73 h =>
 vop O (.alloc [(.p (.int .i64 0)),(.p (.bool false)),(.p (.int .i64 0)),(.p (.str [])),(.p .nilslice),(.p .nilslice)] false) h 9 fun x9 h =>
 vstore 6 x9 x73 h fun _ h =>
 vload true 6 x9 h fun x74 h =>
 vbin .add 0 x1 (kI 1) h fun x76 h =>
 vcall O (.v (.c (.func 44 []))) [x74,x76,x2] h 78 fun x78 h =>
 vbin .neq 0 x78 (kI 0) h fun x80 h =>
 vif x80 (
 tcomp x78 fun c0=>vfin true q [c0] h)
 (vbin .add 0 x70 (kI 1) h fun x82 h =>
 R 1 [x1,x2,x68,x69,x82] h))
 (tcomp (kI 0) fun c0=>vfin true q [c0] h)
theorem e44_1(O:Oracle)(R:Jump)(q:Nat)(x1 x2 x68 x69 x70:TVal)(h:Heap):b44_1 O R q x1 x2 x68 x69 x70 h=stepF c44 O R q 1 [x1,x2,x68,x69,x70] h:=by kernel_rfl
def d44:BlkF:=fun O R Q=>[.s fun a => .s fun b => .s fun c => .z (b44_0 O R Q a b c),.s fun a => .s fun b => .s fun c => .s fun d => .s fun e => .z (b44_1 O R Q a b c d e)]
theorem o44(O:Oracle)(R:Jump)(q:Nat):HoldsAll c44 O R q 0 (d44 O R q):=⟨e44_0 O R q,e44_1 O R q,trivial⟩
def c46:MFunc:=mkM (compF Tryz.prog (globs2 tabs opq) (fun _=>false) true Tryz.f46) .n
def b46_0(O:Oracle)(R:Jump)(q:Nat)(x0 x1:TVal)(h:Heap):Res1 :=
 vcall O (.v (.c (.func 74 []))) [x0,x1] h 7 fun x7 h =>
 vbin .geq 0 x7 (kI 0) h fun x8 h =>
 tcomp x8 fun c0=>vfin true q [c0] h
theorem e46_0(O:Oracle)(R:Jump)(q:Nat)(x0 x1:TVal)(h:Heap):b46_0 O R q x0 x1 h=stepF c46 O R q 0 [x0,x1] h:=by kernel_rfl
def d46:BlkF:=fun O R Q=>[.s fun a => .s fun b => .z (b46_0 O R Q a b)]
theorem o46(O:Oracle)(R:Jump)(q:Nat):HoldsAll c46 O R q 0 (d46 O R q):=⟨e46_0 O R q,trivial⟩
def c47:MFunc:=mkM (compF Tryz.prog (globs2 tabs opq) (fun _=>false) true Tryz.f47) (.s .n (.s (.s .n (.k (.l 1 [0,5,6,7] .n))) (.m 2 [0] .n)))
def b47_0(O:Oracle)(R:Jump)(q:Nat)(x0:TVal)(h:Heap):Res1 :=
 vop O (.bslice 1 6 [(.p (.str []))] [(0,(.k (kS [110,117,108,108]))),(1,(.k (kS [116,114,117,101]))),(2,(.k (kS [102,97,108,115,101]))),(3,(.k (kS [34]))),(4,(.k (kS [91]))),(5,(.k (kS [123])))] false) h 5 fun x5 h =>
 vlen O 2 x5 h 6 fun x6 h =>
 R 1 [x0,x5,x6,(kI 0)] h
theorem e47_0(O:Oracle)(R:Jump)(q:Nat)(x0:TVal)(h:Heap):b47_0 O R q x0 h=stepF c47 O R q 0 [x0] h:=by kernel_rfl
def b47_1(O:Oracle)(R:Jump)(q:Nat)(x0 x5 x6 x7:TVal)(h:Heap):Res1 :=
 vbin .lss 0 x7 x6 h fun x8 h =>
 vif x8 (
 viaddr 1 x5 x7 h fun x9 h =>
 vload false 1 x9 h fun x10 h =>
 vop O (.nilck (.k x0)) h 12 fun x12 h =>
 vfaddr 0 x12 h fun x13 h =>
 vload false 1 x13 h fun x14 h =>
 vcall O (.v (.c (.func 75 []))) [x14,x10] h 16 fun x16 h =>
 vif x16 (
 tcomp (kB true) fun c0=>vfin true q [c0] h)
 (vbin .add 0 x7 (kI 1) h fun x17 h =>
 R 1 [x0,x5,x6,x17] h))
 (R 2 [x0] h)
theorem e47_1(O:Oracle)(R:Jump)(q:Nat)(x0 x5 x6 x7:TVal)(h:Heap):b47_1 O R q x0 x5 x6 x7 h=stepF c47 O R q 1 [x0,x5,x6,x7] h:=by kernel_rfl
def b47_2(O:Oracle)(R:Jump)(q:Nat)(x0:TVal)(h:Heap):Res1 :=
 vop O (.nilck (.k x0)) h 19 fun x19 h =>
 vfaddr 0 x19 h fun x20 h =>
 vload false 1 x20 h fun x21 h =>
 vcall O (.v (.c (.func 77 []))) [x21,(kS [45])] h 22 fun x22 h =>
 vcall O (.v (.c (.func 76 []))) [x22] h 23 fun x23 h =>
 vbin .gtr 0 x23 (kI 0) h fun x24 h =>
 tcomp x24 fun c0=>vfin true q [c0] h
theorem e47_2(O:Oracle)(R:Jump)(q:Nat)(x0:TVal)(h:Heap):b47_2 O R q x0 h=stepF c47 O R q 2 [x0] h:=by kernel_rfl
def d47:BlkF:=fun O R Q=>[.s fun a => .z (b47_0 O R Q a),.s fun a => .s fun b => .s fun c => .s fun d => .z (b47_1 O R Q a b c d),.s fun a => .z (b47_2 O R Q a)]
theorem o47(O:Oracle)(R:Jump)(q:Nat):HoldsAll c47 O R q 0 (d47 O R q):=⟨e47_0 O R q,e47_1 O R q,e47_2 O R q,trivial⟩
def c48:MFunc:=mkM (compF Tryz.prog (globs2 tabs opq) (fun _=>false) true Tryz.f48) .n
def b48_0(O:Oracle)(R:Jump)(q:Nat)(x0 x1:TVal)(h:Heap):Res1 :=
 vop O (.nilck (.k x0)) h 6 fun x6 h =>
 vfaddr 1 x6 h fun x7 h =>
 vload false 1 x7 h fun x8 h =>
 vbin .neq 0 x8 (kI 0) h fun x9 h =>
 vguard x9 false (fun kk=>kk x0 h) h fun x11 h =>
 vguard x9 false (fun kk=>vop O (.nilck (.k x11)) h 12 kk) h fun x12 h =>
 vguard x9 false (fun kk=>vfaddr 0 x12 h kk) h fun x13 h =>
 vguard x9 false (fun kk=>vload false 1 x13 h kk) h fun x14 h =>
 vguard x9 false (fun kk=>kk x1 h) h fun x15 h =>
 vguard x9 false (fun kk=>vcall O (.v (.c (.func 75 []))) [x14,x15] h 16 kk) h fun x16 h =>
 vguard x9 false (fun kk=>vop O (.un .not (.k x16)) h 17 kk) h fun x17 h =>
 vop O (.pick (.k x9) (.k (kB true)) (.k x17)) h 18 fun x18 h =>
 vif x18 (
 tcomp (kB false) fun c0=>vfin true q [c0] h)
 (vop O (.nilck (.k x0)) h 21 fun x21 h =>
 vfaddr 0 x21 h fun x22 h =>
 vload false 1 x22 h fun x23 h =>
 vlen O 0 x1 h 25 fun x25 h =>
 vop O (.slice 0 true (.k x23) (some (.k x25)) none none) h 26 fun x26 h =>
 vop O (.nilck (.k x0)) h 27 fun x27 h =>
 vfaddr 0 x27 h fun x28 h =>
 vstore 1 x28 x26 h fun _ h =>
 tcomp (kB true) fun c0=>vfin true q [c0] h)
theorem e48_0(O:Oracle)(R:Jump)(q:Nat)(x0 x1:TVal)(h:Heap):b48_0 O R q x0 x1 h=stepF c48 O R q 0 [x0,x1] h:=by kernel_rfl
def d48:BlkF:=fun O R Q=>[.s fun a => .s fun b => .z (b48_0 O R Q a b)]
theorem o48(O:Oracle)(R:Jump)(q:Nat):HoldsAll c48 O R q 0 (d48 O R q):=⟨e48_0 O R q,trivial⟩
def c49:MFunc:=mkM (compF Tryz.prog (globs2 tabs opq) (fun _=>false) true Tryz.f49) (.s .n (.s .n (.s (.s .n (.k (.l 1 [0,3,4] (.s .n (.s .n (.m 2 [0,3,4] .n)))))) (.m 3 [0] .n))))
def b49_0(O:Oracle)(R:Jump)(q:Nat)(x0:TVal)(h:Heap):Res1 :=
 R 1 [x0,(.v (.c (.p .nilslice))),(kI 0)] h
theorem e49_0(O:Oracle)(R:Jump)(q:Nat)(x0:TVal)(h:Heap):b49_0 O R q x0 h=stepF c49 O R q 0 [x0] h:=by kernel_rfl
def b49_1(O:Oracle)(R:Jump)(q:Nat)(x0 x3 x4:TVal)(h:Heap):Res1 :=
 vop O (.nilck (.k x0)) h 10 fun x10 h =>
 vfaddr 0 x10 h fun x11 h =>
 vload false 1 x11 h fun x12 h =>
 vlen O 0 x12 h 13 fun x13 h =>
 vbin .lss 0 x4 x13 h fun x14 h =>
 vif x14 (
 vop O (.nilck (.k x0)) h 18 fun x18 h =>
 vfaddr 0 x18 h fun x19 h =>
 vload false 1 x19 h fun x20 h =>
 vindex x20 x4 h fun x22 h =>
 vbin .lss 0 x22 (.v (.c (.p (.int .u8 32)))) h fun x29 h =>
 vif x29 (
 vcall O (.v (.c (.func 28 []))) [x0,(kI 11)] h 31 fun x31 h =>
 tcomp (kS []) fun c0=>vfin true q [c0] h)
 (vbin .eql 0 x22 (.v (.c (.p (.int .u8 34)))) h fun x34 h =>
 vif x34 (
 vop O (.nilck (.k x0)) h 37 fun x37 h =>
 vfaddr 0 x37 h fun x38 h =>
 vload false 1 x38 h fun x39 h =>
 vbin .add 0 x4 (kI 1) h fun x41 h =>
 vop O (.slice 0 true (.k x39) (some (.k x41)) none none) h 42 fun x42 h =>
 vop O (.nilck (.k x0)) h 43 fun x43 h =>
 vfaddr 0 x43 h fun x44 h =>
 vstore 1 x44 x42 h fun _ h =>
 vop O (.toStr (.k x3)) h 46 fun x46 h =>
 tcomp x46 fun c0=>vfin true q [c0] h)
 (vbin .eql 0 x22 (.v (.c (.p (.int .u8 92)))) h fun x49 h =>
 vguard x49 true (fun kk=>kk x4 h) h fun x51 h =>
 vguard x49 true (fun kk=>vbin .add 0 x51 (kI 1) h kk) h fun x52 h =>
 vguard x49 true (fun kk=>kk x0 h) h fun x53 h =>
 vguard x49 true (fun kk=>vop O (.nilck (.k x53)) h 54 kk) h fun x54 h =>
 vguard x49 true (fun kk=>vfaddr 0 x54 h kk) h fun x55 h =>
 vguard x49 true (fun kk=>vload false 1 x55 h kk) h fun x56 h =>
 vguard x49 true (fun kk=>vlen O 0 x56 h 57 kk) h fun x57 h =>
 vguard x49 true (fun kk=>vbin .lss 0 x52 x57 h kk) h fun x58 h =>
 vop O (.pick (.k x49) (.k x58) (.k (kB false))) h 59 fun x59 h =>
 vif x59 (
 vop O (.nilck (.k x0)) h 62 fun x62 h =>
 vfaddr 0 x62 h fun x63 h =>
 vload false 1 x63 h fun x64 h =>
 vbin .add 0 x4 (kI 1) h fun x66 h =>
 vindex x64 x66 h fun x67 h =>
 vcall O (.v (.c (.func 78 []))) [x67] h 68 fun x68 h =>
 vext x68 0 h fun x69 h =>
 vext x68 1 h fun x70 h =>
 vop O (.un .not (.k x70)) h 72 fun x72 h =>
 vif x72 (
 vcall O (.v (.c (.func 28 []))) [x0,(kI 11)] h 74 fun x74 h =>
 tcomp (kS []) fun c0=>vfin true q [c0] h)
 (vop O (.bslice 1 1 [(.p (.int .u8 0))] [(0,(.k x69))] false) h 77 fun x77 h =>
 vop O (.append 1 1 false (.k x3) (.k x77)) h 78 fun x78 h =>
 vbin .add 0 x4 (kI 1) h fun x80 h =>
 R 2 [x0,x78,x80] h))
 (vop O (.bslice 1 1 [(.p (.int .u8 0))] [(0,(.k x22))] false) h 25 fun x25 h =>
 vop O (.append 1 1 false (.k x3) (.k x25)) h 26 fun x26 h =>
 R 2 [x0,x26,x4] h))))
 (R 3 [x0] h)
theorem e49_1(O:Oracle)(R:Jump)(q:Nat)(x0 x3 x4:TVal)(h:Heap):b49_1 O R q x0 x3 x4 h=stepF c49 O R q 1 [x0,x3,x4] h:=by kernel_rfl
def b49_2(O:Oracle)(R:Jump)(q:Nat)(x0 x3 x4:TVal)(h:Heap):Res1 :=
 vbin .add 0 x4 (kI 1) h fun x16 h =>
 R 1 [x0,x3,x16] h
theorem e49_2(O:Oracle)(R:Jump)(q:Nat)(x0 x3 x4:TVal)(h:Heap):b49_2 O R q x0 x3 x4 h=stepF c49 O R q 2 [x0,x3,x4] h:=by kernel_rfl
def b49_3(O:Oracle)(R:Jump)(q:Nat)(x0:TVal)(h:Heap):Res1 :=
 vcall O (.v (.c (.func 28 []))) [x0,(kI 11)] h 82 fun x82 h =>
 tcomp (kS []) fun c0=>vfin true q [c0] h
theorem e49_3(O:Oracle)(R:Jump)(q:Nat)(x0:TVal)(h:Heap):b49_3 O R q x0 h=stepF c49 O R q 3 [x0] h:=by kernel_rfl
def d49:BlkF:=fun O R Q=>[.s fun a => .z (b49_0 O R Q a),.s fun a => .s fun b => .s fun c => .z (b49_1 O R Q a b c),.s fun a => .s fun b => .s fun c => .z (b49_2 O R Q a b c),.s fun a => .z (b49_3 O R Q a)]
theorem o49(O:Oracle)(R:Jump)(q:Nat):HoldsAll c49 O R q 0 (d49 O R q):=⟨e49_0 O R q,e49_1 O R q,e49_2 O R q,e49_3 O R q,trivial⟩
def c50:MFunc:=mkM (compF Tryz.prog (globs2 tabs opq) (fun _=>false) true Tryz.f50) (.s .n (.s .n (.s .n (.s (.s .n (.k (.l 1 [0,1,2] .n))) (.m 2 [0,1] .n)))))
def b50_0(O:Oracle)(R:Jump)(q:Nat)(x0 x1 x2:TVal)(h:Heap):Res1 :=
 vcall O (.v (.c (.func 27 []))) [x0] h 7 fun x7 h =>
 vcall O (.v (.c (.func 48 []))) [x0,x1] h 10 fun x10 h =>
 vif x10 (
 vfin true q [] h)
 (vcall O x2 [] h 12 fun x12 h =>
 vcall O (.v (.c (.func 27 []))) [x0] h 14 fun x14 h =>
 R 1 [x0,x1,x2] h)
theorem e50_0(O:Oracle)(R:Jump)(q:Nat)(x0 x1 x2:TVal)(h:Heap):b50_0 O R q x0 x1 x2 h=stepF c50 O R q 0 [x0,x1,x2] h:=by kernel_rfl
def b50_1(O:Oracle)(R:Jump)(q:Nat)(x0 x1 x2:TVal)(h:Heap):Res1 :=
 vcall O (.v (.c (.func 48 []))) [x0,(kS [44])] h 16 fun x16 h =>
 vif x16 (
 vcall O x2 [] h 20 fun x20 h =>
 vcall O (.v (.c (.func 27 []))) [x0] h 18 fun x18 h =>
 R 1 [x0,x1,x2] h)
 (R 2 [x0,x1] h)
theorem e50_1(O:Oracle)(R:Jump)(q:Nat)(x0 x1 x2:TVal)(h:Heap):b50_1 O R q x0 x1 x2 h=stepF c50 O R q 1 [x0,x1,x2] h:=by kernel_rfl
def b50_2(O:Oracle)(R:Jump)(q:Nat)(x0 x1:TVal)(h:Heap):Res1 :=
 vcall O (.v (.c (.func 79 []))) [x0,x1] h 23 fun x23 h =>
 vfin true q [] h
theorem e50_2(O:Oracle)(R:Jump)(q:Nat)(x0 x1:TVal)(h:Heap):b50_2 O R q x0 x1 h=stepF c50 O R q 2 [x0,x1] h:=by kernel_rfl
def d50:BlkF:=fun O R Q=>[.s fun a => .s fun b => .s fun c => .z (b50_0 O R Q a b c),.s fun a => .s fun b => .s fun c => .z (b50_1 O R Q a b c),.s fun a => .s fun b => .z (b50_2 O R Q a b)]
theorem o50(O:Oracle)(R:Jump)(q:Nat):HoldsAll c50 O R q 0 (d50 O R q):=⟨e50_0 O R q,e50_1 O R q,e50_2 O R q,trivial⟩
def c51:MFunc:=mkM (compF Tryz.prog (globs2 tabs opq) (fun n=>Nat.beq n 6) true Tryz.f51) .n
def b51_0(O:Oracle)(R:Jump)(q:Nat)(x0 x1 x2:TVal)(h:Heap):Res1 :=
 vtouch O (.faddr 5 (.k x0)) h 3 fun x3 h t0 =>
 vtouch O (.load false 1 (.k x3)) h 4 fun x4 h t1 =>
 vtouch O (.load false 1 (.k x1)) h 5 fun x5 h t2 =>
 vtouch O (.load false 1 (.k x2)) h 6 fun x6 h t3 =>
 vtouch O (.bin .add 0 (.k x6) (.k (kI 1))) h 7 fun x7 h t4 =>
 vtouch O (.call (.k (.v (.c (.func 26 [])))) [(.k x5),(.k x7)]) h 8 fun x8 h t5 =>
 vtouch O (.len 2 (.k x4)) h 9 fun x9 h t6 =>
 vtouch O (.bslice 6 1 [(.p (.int .i64 0)),(.p (.bool false)),(.p (.int .i64 0)),(.p (.str [])),(.p .nilslice),(.p .nilslice)] [(0,(.k (.v (.agg [(.p (.int .i64 0)),(.p (.bool false)),(.p (.int .i64 0)),(.p (.str [])),(.p .nilslice),(.p .nilslice)]))))] true) h 10 fun x10 h t7 =>
 vtouch O (.append 6 88 true (.k x4) (.k x10)) h 11 fun x11 h t8 =>
 vtouch O (.iaddr 6 (.k x11) (.k x9)) h 12 fun x12 h t9 =>
 vtouch O (.store 6 (.k x12) (.k x8)) h 1000000 fun _ h t10 =>
 vtouch O (.faddr 5 (.k x0)) h 13 fun x13 h t11 =>
 vtouch O (.store 1 (.k x13) (.k x11)) h 1000000 fun _ h t12 =>
 bif apartAll [t0,t1,t2,t3,t4,t5,t6,t7,t8,t9,t10,t11,t12] [(1,5),(5,6),(1,7),(2,7),(3,7),(5,7),(6,7),(10,12)] then
 vfin true q [] h
 else none
theorem e51_0(O:Oracle)(R:Jump)(q:Nat)(x0 x1 x2:TVal)(h:Heap):b51_0 O R q x0 x1 x2 h=stepF c51 O R q 0 [x0,x1,x2] h:=by kernel_rfl
def d51:BlkF:=fun O R Q=>[.s fun a => .s fun b => .s fun c => .z (b51_0 O R Q a b c)]
theorem o51(O:Oracle)(R:Jump)(q:Nat):HoldsAll c51 O R q 0 (d51 O R q):=⟨e51_0 O R q,trivial⟩
def c52:MFunc:=mkM (compF Tryz.prog (globs2 tabs opq) (fun n=>Nat.beq n 7) true Tryz.f52) (.s .n (.s .n (.s .n (.s .n (.s .n (.s (.s .n (.k (.l 1 [2,4,5,6,15,16,17] (.s .n (.s .n (.s (.k (.s .n (.s .n (.m 2 [2,4,5,6,8,15,16,17] .n)))) .n)))))) (.m 3 [4,6] .n)))))))
def b52_0(O:Oracle)(R:Jump)(q:Nat)(x0 x1:TVal)(h:Heap):Res1 :=
 vop O (.box (.k x0) false) h 2 fun x2 h =>
 vop O (.box (.k x1) false) h 3 fun x3 h =>
 vop O (.alloc [(.p (.int .i64 0)),(.p (.bool false)),(.p (.int .i64 0)),(.p (.str [])),(.p .nilslice),(.p .nilslice)] false) h 4 fun x4 h =>
 vop O (.alloc [(.p .nilslice)] false) h 5 fun x5 h =>
 vload false 1 x2 h fun x9 h =>
 vop O (.mkfn 80 [(.k x2),(.k x3),(.k x5)]) h 10 fun x10 h =>
 vcall O (.v (.c (.func 50 []))) [x9,(kS [125]),x10] h 11 fun x11 h =>
 vload false 1 x5 h fun x12 h =>
 vcall O (.v (.c (.func 81 []))) [x12,(.v (.c (.func 82 [])))] h 13 fun x13 h =>
 vop O (.build [(.p (.int .i64 0)),(.p (.bool false)),(.p (.int .i64 0)),(.p (.str [])),(.p .nilslice),(.p .nilslice)] [(0,1,(.k (kI 5)))]) h 14 fun x14 h =>
 vop O (.alloc [(.p (.int .i64 0)),(.p (.bool false)),(.p (.int .i64 0)),(.p (.str [])),(.p .nilslice),(.p .nilslice)] false) h 6 fun x6 h =>
 vstore 6 x6 x14 h fun _ h =>
 vload false 1 x5 h fun x15 h =>
 vlen O 2 x15 h 16 fun x16 h =>
 R 1 [x2,x4,x5,x6,x15,x16,(kI 0)] h
theorem e52_0(O:Oracle)(R:Jump)(q:Nat)(x0 x1:TVal)(h:Heap):b52_0 O R q x0 x1 h=stepF c52 O R q 0 [x0,x1] h:=by kernel_rfl
def b52_1(O:Oracle)(R:Jump)(q:Nat)(x2 x4 x5 x6 x15 x16 x17:TVal)(h:Heap):Res1 :=
 vbin .lss 0 x17 x16 h fun x18 h =>
 vif x18 (
 viaddr 7 x15 x17 h fun x20 h =>
 vload true 7 x20 h fun x21 h =>
 vop O (.alloc [(.p (.str [])),(.p (.int .i64 0)),(.p (.bool false)),(.p (.int .i64 0)),(.p (.str [])),(.p .nilslice),(.p .nilslice)] false) h 8 fun x8 h =>
 vstore 7 x8 x21 h fun _ h =>
 vbin .gtr 0 x17 (kI 0) h fun x23 h =>
 vguard x23 true (fun kk=>vload false 1 x5 h kk) h fun x25 h =>
 vguard x23 true (fun kk=>kk x17 h) h fun x26 h =>
 vguard x23 true (fun kk=>vbin .sub 0 x26 (kI 1) h kk) h fun x27 h =>
 vguard x23 true (fun kk=>viaddr 7 x25 x27 h kk) h fun x28 h =>
 vguard x23 true (fun kk=>vfaddr 0 x28 h kk) h fun x29 h =>
 vguard x23 true (fun kk=>vload false 1 x29 h kk) h fun x30 h =>
 vguard x23 true (fun kk=>vfaddr 0 x8 h kk) h fun x31 h =>
 vguard x23 true (fun kk=>vload false 1 x31 h kk) h fun x32 h =>
 vguard x23 true (fun kk=>vbin .eql 0 x30 x32 h kk) h fun x33 h =>
 vop O (.pick (.k x23) (.k x33) (.k (kB false))) h 34 fun x34 h =>
 vif x34 (
 vload false 1 x2 h fun x35 h =>
 vcall O (.v (.c (.func 28 []))) [x35,(kI 6)] h 36 fun x36 h =>
 R 2 [x2,x4,x5,x6,x8,x15,x16,x17] h)
 (R 2 [x2,x4,x5,x6,x8,x15,x16,x17] h))
 (R 3 [x4,x6] h)
theorem e52_1(O:Oracle)(R:Jump)(q:Nat)(x2 x4 x5 x6 x15 x16 x17:TVal)(h:Heap):b52_1 O R q x2 x4 x5 x6 x15 x16 x17 h=stepF c52 O R q 1 [x2,x4,x5,x6,x15,x16,x17] h:=by kernel_rfl
def b52_2(O:Oracle)(R:Jump)(q:Nat)(x2 x4 x5 x6 x8 x15 x16 x17:TVal)(h:Heap):Res1 :=
 vtouch O (.faddr 4 (.k x6)) h 37 fun x37 h t0 =>
 vtouch O (.load false 1 (.k x37)) h 38 fun x38 h t1 =>
 vtouch O (.faddr 0 (.k x8)) h 39 fun x39 h t2 =>
 vtouch O (.load false 1 (.k x39)) h 40 fun x40 h t3 =>
 vtouch O (.bslice 1 1 [(.p (.str []))] [(0,(.k x40))] false) h 41 fun x41 h t4 =>
 vtouch O (.append 1 16 false (.k x38) (.k x41)) h 42 fun x42 h t5 =>
 vtouch O (.faddr 5 (.k x6)) h 43 fun x43 h t6 =>
 vtouch O (.load false 1 (.k x43)) h 44 fun x44 h t7 =>
 vtouch O (.faddr 1 (.k x8)) h 45 fun x45 h t8 =>
 vtouch O (.load true 6 (.k x45)) h 46 fun x46 h t9 =>
 vtouch O (.bslice 6 1 [(.p (.int .i64 0)),(.p (.bool false)),(.p (.int .i64 0)),(.p (.str [])),(.p .nilslice),(.p .nilslice)] [(0,(.k x46))] false) h 47 fun x47 h t10 =>
 vtouch O (.append 6 88 false (.k x44) (.k x47)) h 48 fun x48 h t11 =>
 vtouch O (.faddr 4 (.k x6)) h 49 fun x49 h t12 =>
 vtouch O (.store 1 (.k x49) (.k x42)) h 1000000 fun _ h t13 =>
 vtouch O (.faddr 5 (.k x6)) h 50 fun x50 h t14 =>
 vtouch O (.store 1 (.k x50) (.k x48)) h 1000000 fun _ h t15 =>
 bif apartAll [t0,t1,t2,t3,t4,t5,t6,t7,t8,t9,t10,t11,t12,t13,t14,t15] [(1,4),(4,7),(5,7),(4,9),(5,9),(1,10),(3,10),(4,10),(5,10),(7,10)] then
 vbin .add 0 x17 (kI 1) h fun x51 h =>
 R 1 [x2,x4,x5,x6,x15,x16,x51] h
 else none
theorem e52_2(O:Oracle)(R:Jump)(q:Nat)(x2 x4 x5 x6 x8 x15 x16 x17:TVal)(h:Heap):b52_2 O R q x2 x4 x5 x6 x8 x15 x16 x17 h=stepF c52 O R q 2 [x2,x4,x5,x6,x8,x15,x16,x17] h:=by kernel_rfl
def b52_3(O:Oracle)(R:Jump)(q:Nat)(x4 x6:TVal)(h:Heap):Res1 :=
 vload true 6 x6 h fun x52 h =>
 vstore 6 x4 x52 h fun _ h =>
 vcell true 6 x4 h fun c0=>vfin true q [c0] h
theorem e52_3(O:Oracle)(R:Jump)(q:Nat)(x4 x6:TVal)(h:Heap):b52_3 O R q x4 x6 h=stepF c52 O R q 3 [x4,x6] h:=by kernel_rfl
def d52:BlkF:=fun O R Q=>[.s fun a => .s fun b => .z (b52_0 O R Q a b),.s fun a => .s fun b => .s fun c => .s fun d => .s fun e => .s fun f => .s fun g => .z (b52_1 O R Q a b c d e f g),.s fun a => .s fun b => .s fun c => .s fun d => .s fun e => .s fun f => .s fun g => .s fun h => .z (b52_2 O R Q a b c d e f g h),.s fun a => .s fun b => .z (b52_3 O R Q a b)]
theorem o52(O:Oracle)(R:Jump)(q:Nat):HoldsAll c52 O R q 0 (d52 O R q):=⟨e52_0 O R q,e52_1 O R q,e52_2 O R q,e52_3 O R q,trivial⟩
def c53:MFunc:=mkM (compF Tryz.prog (globs2 tabs opq) (fun _=>false) true Tryz.f53) (.s .n (.s .n (.s .n (.s .n (.m 1 [0,2,3,4] (.s .n (.s .n (.m 2 [0,2,3,4,5,6] (.s (.s .n (.k (.l 3 [0,2,3,4,5,6,36] .n))) (.m 4 [0,2,3,4,5,6] (.s .n (.m 5 [0,2,3,4,5] .n))))))))))))
def b53_0(O:Oracle)(R:Jump)(q:Nat)(x0:TVal)(h:Heap):Res1 :=
 vop O (.alloc [(.p (.int .i64 0)),(.p (.bool false)),(.p (.int .i64 0)),(.p (.str [])),(.p .nilslice),(.p .nilslice)] false) h 2 fun x2 h =>
 vcall O (.v (.c (.func 48 []))) [x0,(kS [45])] h 10 fun x10 h =>
 vop O (.nilck (.k x0)) h 12 fun x12 h =>
 vfaddr 0 x12 h fun x13 h =>
 vload false 1 x13 h fun x14 h =>
 vcall O (.v (.c (.func 76 []))) [x14] h 15 fun x15 h =>
 vbin .eql 0 x15 (kI 0) h fun x18 h =>
 vif x18 (
 vcall O (.v (.c (.func 28 []))) [x0,(kI 12)] h 20 fun x20 h =>
 R 1 [x0,x2,x10,x15] h)
 (vbin .gtr 0 x15 (kI 19) h fun x23 h =>
 vif x23 (
 vcall O (.v (.c (.func 28 []))) [x0,(kI 11)] h 25 fun x25 h =>
 R 1 [x0,x2,x10,x15] h)
 (R 1 [x0,x2,x10,x15] h))
theorem e53_0(O:Oracle)(R:Jump)(q:Nat)(x0:TVal)(h:Heap):b53_0 O R q x0 h=stepF c53 O R q 0 [x0] h:=by kernel_rfl
def b53_1(O:Oracle)(R:Jump)(q:Nat)(x0 x2 x3 x4:TVal)(h:Heap):Res1 :=
 vif x3 (
 vbin .add 0 (.v (.c (.p (.int .u64 9223372036854775807)))) (.v (.c (.p (.int .u64 1)))) h fun x28 h =>
 R 2 [x0,x2,x3,x4,(.v (.c (.p (.int .u64 0)))),x28] h)
 (R 2 [x0,x2,x3,x4,(.v (.c (.p (.int .u64 0)))),(.v (.c (.p (.int .u64 9223372036854775807))))] h)
theorem e53_1(O:Oracle)(R:Jump)(q:Nat)(x0 x2 x3 x4:TVal)(h:Heap):b53_1 O R q x0 x2 x3 x4 h=stepF c53 O R q 1 [x0,x2,x3,x4] h:=by kernel_rfl
def b53_2(O:Oracle)(R:Jump)(q:Nat)(x0 x2 x3 x4 x5 x6:TVal)(h:Heap):Res1 :=
 vop O (.nilck (.k x0)) h 30 fun x30 h =>
 vfaddr 0 x30 h fun x31 h =>
 vload false 1 x31 h fun x32 h =>
 vop O (.minmax false [(.k x4),(.k (kI 19))]) h 34 fun x34 h =>
 vop O (.slice 0 true (.k x32) none (some (.k x34)) none) h 35 fun x35 h =>
 vop O (.rangeS (.k x35)) h 36 fun x36 h =>
 R 3 [x0,x2,x3,x4,x5,x6,x36] h
theorem e53_2(O:Oracle)(R:Jump)(q:Nat)(x0 x2 x3 x4 x5 x6:TVal)(h:Heap):b53_2 O R q x0 x2 x3 x4 x5 x6 h=stepF c53 O R q 2 [x0,x2,x3,x4,x5,x6] h:=by kernel_rfl
def b53_3(O:Oracle)(R:Jump)(q:Nat)(x0 x2 x3 x4 x5 x6 x36:TVal)(h:Heap):Res1 :=
 vop O (.nextS (.k x36)) h 37 fun x37 h =>
 vext x37 0 h fun x38 h =>
 vif x38 (
 vext x37 2 h fun x39 h =>
 vbin .mul 0 (.v (.c (.p (.int .u64 10)))) x5 h fun x41 h =>
 vbin .sub 0 x39 (.v (.c (.p (.int .i32 48)))) h fun x43 h =>
 vtoInt .u64 x43 h fun x44 h =>
 vbin .add 0 x41 x44 h fun x45 h =>
 R 3 [x0,x2,x3,x4,x45,x6,x36] h)
 (R 4 [x0,x2,x3,x4,x5,x6] h)
theorem e53_3(O:Oracle)(R:Jump)(q:Nat)(x0 x2 x3 x4 x5 x6 x36:TVal)(h:Heap):b53_3 O R q x0 x2 x3 x4 x5 x6 x36 h=stepF c53 O R q 3 [x0,x2,x3,x4,x5,x6,x36] h:=by kernel_rfl
def b53_4(O:Oracle)(R:Jump)(q:Nat)(x0 x2 x3 x4 x5 x6:TVal)(h:Heap):Res1 :=
 vbin .gtr 0 x5 x6 h fun x48 h =>
 vif x48 (
 vcall O (.v (.c (.func 28 []))) [x0,(kI 11)] h 50 fun x50 h =>
 R 5 [x0,x2,x3,x4,x5] h)
 (R 5 [x0,x2,x3,x4,x5] h)
theorem e53_4(O:Oracle)(R:Jump)(q:Nat)(x0 x2 x3 x4 x5 x6:TVal)(h:Heap):b53_4 O R q x0 x2 x3 x4 x5 x6 h=stepF c53 O R q 4 [x0,x2,x3,x4,x5,x6] h:=by kernel_rfl
def b53_5(O:Oracle)(R:Jump)(q:Nat)(x0 x2 x3 x4 x5:TVal)(h:Heap):Res1 :=
 vop O (.nilck (.k x0)) h 52 fun x52 h =>
 vfaddr 1 x52 h fun x53 h =>
 vload false 1 x53 h fun x54 h =>
 vbin .neq 0 x54 (kI 0) h fun x55 h =>
 vif x55 (
 vop O (.build [(.p (.int .i64 0)),(.p (.bool false)),(.p (.int .i64 0)),(.p (.str [])),(.p .nilslice),(.p .nilslice)] []) h 56 fun x56 h =>
 vstore 6 x2 x56 h fun _ h =>
 vcell true 6 x2 h fun c0=>vfin true q [c0] h)
 (vop O (.nilck (.k x0)) h 59 fun x59 h =>
 vfaddr 0 x59 h fun x60 h =>
 vload false 1 x60 h fun x61 h =>
 vop O (.slice 0 true (.k x61) (some (.k x4)) none none) h 63 fun x63 h =>
 vop O (.nilck (.k x0)) h 64 fun x64 h =>
 vfaddr 0 x64 h fun x65 h =>
 vstore 1 x65 x63 h fun _ h =>
 vif x3 (
 vtoInt .i64 x5 h fun x68 h =>
 vop O (.un .neg (.k x68)) h 69 fun x69 h =>
 vop O (.build [(.p (.int .i64 0)),(.p (.bool false)),(.p (.int .i64 0)),(.p (.str [])),(.p .nilslice),(.p .nilslice)] [(0,1,(.k (kI 2))),(2,1,(.k x69))]) h 70 fun x70 h =>
 vstore 6 x2 x70 h fun _ h =>
 vcell true 6 x2 h fun c0=>vfin true q [c0] h)
 (vtoInt .i64 x5 h fun x72 h =>
 vop O (.build [(.p (.int .i64 0)),(.p (.bool false)),(.p (.int .i64 0)),(.p (.str [])),(.p .nilslice),(.p .nilslice)] [(0,1,(.k (kI 2))),(2,1,(.k x72))]) h 73 fun x73 h =>
 vstore 6 x2 x73 h fun _ h =>
 vcell true 6 x2 h fun c0=>vfin true q [c0] h))
theorem e53_5(O:Oracle)(R:Jump)(q:Nat)(x0 x2 x3 x4 x5:TVal)(h:Heap):b53_5 O R q x0 x2 x3 x4 x5 h=stepF c53 O R q 5 [x0,x2,x3,x4,x5] h:=by kernel_rfl
def d53:BlkF:=fun O R Q=>[.s fun a => .z (b53_0 O R Q a),.s fun a => .s fun b => .s fun c => .s fun d => .z (b53_1 O R Q a b c d),.s fun a => .s fun b => .s fun c => .s fun d => .s fun e => .s fun f => .z (b53_2 O R Q a b c d e f),.s fun a => .s fun b => .s fun c => .s fun d => .s fun e => .s fun f => .s fun g => .z (b53_3 O R Q a b c d e f g),.s fun a => .s fun b => .s fun c => .s fun d => .s fun e => .s fun f => .z (b53_4 O R Q a b c d e f),.s fun a => .s fun b => .s fun c => .s fun d => .s fun e => .z (b53_5 O R Q a b c d e)]
theorem o53(O:Oracle)(R:Jump)(q:Nat):HoldsAll c53 O R q 0 (d53 O R q):=⟨e53_0 O R q,e53_1 O R q,e53_2 O R q,e53_3 O R q,e53_4 O R q,e53_5 O R q,trivial⟩
def c54:MFunc:=mkM (compF Tryz.prog (globs2 tabs opq) (fun _=>false) true Tryz.f54) .n
def b54_0(O:Oracle)(R:Jump)(q:Nat)(x0 x1:TVal)(h:Heap):Res1 :=
 vbin .eql 0 x0 (kS []) h fun x8 h =>
 vguard x8 false (fun kk=>kk x1 h) h fun x10 h =>
 vguard x8 false (fun kk=>vbin .eql 0 x10 (kS []) h kk) h fun x11 h =>
 vop O (.pick (.k x8) (.k (kB true)) (.k x11)) h 12 fun x12 h =>
 vif x12 (
 tcomp x0 fun c0=>vfin true q [c0] h)
 (vlen O 0 x1 h 15 fun x15 h =>
 vbin .eql 0 x15 (kI 1) h fun x16 h =>
 vguard x16 true (fun kk=>kk x1 h) h fun x18 h =>
 vguard x16 true (fun kk=>vindex x18 (kI 0) h kk) h fun x19 h =>
 vguard x16 true (fun kk=>vbin .lss 0 x19 (.v (.c (.p (.int .u8 128)))) h kk) h fun x20 h =>
 vop O (.pick (.k x16) (.k x20) (.k (kB false))) h 21 fun x21 h =>
 vif x21 (
 vindex x1 (kI 0) h fun x24 h =>
 vcall O (.v (.c (.func 84 []))) [x0,x24] h 25 fun x25 h =>
 tcomp x25 fun c0=>vfin true q [c0] h)
 (vcall O (.v (.c (.func 85 []))) [x1] h 28 fun x28 h =>
 vext x28 0 h fun x29 h =>
 vext x28 1 h fun x30 h =>
 vop O (.alloc [(.p (.bool false)),(.p (.bool false)),(.p (.bool false)),(.p (.bool false)),(.p (.bool false)),(.p (.bool false)),(.p (.bool false)),(.p (.bool false)),(.p (.bool false)),(.p (.bool false)),(.p (.bool false)),(.p (.bool false)),(.p (.bool false)),(.p (.bool false)),(.p (.bool false)),(.p (.bool false)),(.p (.bool false)),(.p (.bool false)),(.p (.bool false)),(.p (.bool false)),(.p (.bool false)),(.p (.bool false)),(.p (.bool false)),(.p (.bool false)),(.p (.bool false)),(.p (.bool false)),(.p (.bool false)),(.p (.bool false)),(.p (.bool false)),(.p (.bool false)),(.p (.bool false)),(.p (.bool false)),(.p (.bool false)),(.p (.bool false)),(.p (.bool false)),(.p (.bool false)),(.p (.bool false)),(.p (.bool false)),(.p (.bool false)),(.p (.bool false)),(.p (.bool false)),(.p (.bool false)),(.p (.bool false)),(.p (.bool false)),(.p (.bool false)),(.p (.bool false)),(.p (.bool false)),(.p (.bool false)),(.p (.bool false)),(.p (.bool false)),(.p (.bool false)),(.p (.bool false)),(.p (.bool false)),(.p (.bool false)),(.p (.bool false)),(.p (.bool false)),(.p (.bool false)),(.p (.bool false)),(.p (.bool false)),(.p (.bool false)),(.p (.bool false)),(.p (.bool false)),(.p (.bool false)),(.p (.bool false)),(.p (.bool false)),(.p (.bool false)),(.p (.bool false)),(.p (.bool false)),(.p (.bool false)),(.p (.bool false)),(.p (.bool false)),(.p (.bool false)),(.p (.bool false)),(.p (.bool false)),(.p (.bool false)),(.p (.bool false)),(.p (.bool false)),(.p (.bool false)),(.p (.bool false)),(.p (.bool false)),(.p (.bool false)),(.p (.bool false)),(.p (.bool false)),(.p (.bool false)),(.p (.bool false)),(.p (.bool false)),(.p (.bool false)),(.p (.bool false)),(.p (.bool false)),(.p (.bool false)),(.p (.bool false)),(.p (.bool false)),(.p (.bool false)),(.p (.bool false)),(.p (.bool false)),(.p (.bool false)),(.p (.bool false)),(.p (.bool false)),(.p (.bool false)),(.p (.bool false)),(.p (.bool false)),(.p (.bool false)),(.p (.bool false)),(.p (.bool false)),(.p (.bool false)),(.p (.bool false)),(.p (.bool false)),(.p (.bool false)),(.p (.bool false)),(.p (.bool false)),(.p (.bool false)),(.p (.bool false)),(.p (.bool false)),(.p (.bool false)),(.p (.bool false)),(.p (.bool false)),(.p (.bool false)),(.p (.bool false)),(.p (.bool false)),(.p (.bool false)),(.p (.bool false)),(.p (.bool false)),(.p (.bool false)),(.p (.bool false)),(.p (.bool false)),(.p (.bool false)),(.p (.bool false)),(.p (.bool false)),(.p (.bool false)),(.p (.bool false)),(.p (.bool false)),(.p (.bool false)),(.p (.bool false)),(.p (.bool false)),(.p (.bool false)),(.p (.bool false)),(.p (.bool false)),(.p (.bool false)),(.p (.bool false)),(.p (.bool false)),(.p (.bool false)),(.p (.bool false)),(.p (.bool false)),(.p (.bool false)),(.p (.bool false)),(.p (.bool false)),(.p (.bool false)),(.p (.bool false)),(.p (.bool false)),(.p (.bool false)),(.p (.bool false)),(.p (.bool false)),(.p (.bool false)),(.p (.bool false)),(.p (.bool false)),(.p (.bool false)),(.p (.bool false)),(.p (.bool false)),(.p (.bool false)),(.p (.bool false)),(.p (.bool false)),(.p (.bool false)),(.p (.bool false)),(.p (.bool false)),(.p (.bool false)),(.p (.bool false)),(.p (.bool false)),(.p (.bool false)),(.p (.bool false)),(.p (.bool false)),(.p (.bool false)),(.p (.bool false)),(.p (.bool false)),(.p (.bool false)),(.p (.bool false)),(.p (.bool false)),(.p (.bool false)),(.p (.bool false)),(.p (.bool false)),(.p (.bool false)),(.p (.bool false)),(.p (.bool false)),(.p (.bool false)),(.p (.bool false)),(.p (.bool false)),(.p (.bool false)),(.p (.bool false)),(.p (.bool false)),(.p (.bool false)),(.p (.bool false)),(.p (.bool false)),(.p (.bool false)),(.p (.bool false)),(.p (.bool false)),(.p (.bool false)),(.p (.bool false)),(.p (.bool false)),(.p (.bool false)),(.p (.bool false)),(.p (.bool false)),(.p (.bool false)),(.p (.bool false)),(.p (.bool false)),(.p (.bool false)),(.p (.bool false)),(.p (.bool false)),(.p (.bool false)),(.p (.bool false)),(.p (.bool false)),(.p (.bool false)),(.p (.bool false)),(.p (.bool false)),(.p (.bool false)),(.p (.bool false)),(.p (.bool false)),(.p (.bool false)),(.p (.bool false)),(.p (.bool false)),(.p (.bool false)),(.p (.bool false)),(.p (.bool false)),(.p (.bool false)),(.p (.bool false)),(.p (.bool false)),(.p (.bool false)),(.p (.bool false)),(.p (.bool false)),(.p (.bool false)),(.p (.bool false)),(.p (.bool false)),(.p (.bool false)),(.p (.bool false)),(.p (.bool false)),(.p (.bool false)),(.p (.bool false)),(.p (.bool false)),(.p (.bool false)),(.p (.bool false)),(.p (.bool false)),(.p (.bool false)),(.p (.bool false)),(.p (.bool false)),(.p (.bool false)),(.p (.bool false)),(.p (.bool false)),(.p (.bool false)),(.p (.bool false)),(.p (.bool false)),(.p (.bool false)),(.p (.bool false)),(.p (.bool false)),(.p (.bool false)),(.p (.bool false)),(.p (.bool false)),(.p (.bool false)),(.p (.bool false))] false) h 5 fun x5 h =>
 vstore 256 x5 x29 h fun _ h =>
 vif x30 (
 vcall O (.v (.c (.func 86 []))) [x0,x5] h 33 fun x33 h =>
 tcomp x33 fun c0=>vfin true q [c0] h)
 (vcall O (.v (.c (.func 87 []))) [x0,x1] h 36 fun x36 h =>
 tcomp x36 fun c0=>vfin true q [c0] h)))
theorem e54_0(O:Oracle)(R:Jump)(q:Nat)(x0 x1:TVal)(h:Heap):b54_0 O R q x0 x1 h=stepF c54 O R q 0 [x0,x1] h:=by kernel_rfl
def d54:BlkF:=fun O R Q=>[.s fun a => .s fun b => .z (b54_0 O R Q a b)]
theorem o54(O:Oracle)(R:Jump)(q:Nat):HoldsAll c54 O R q 0 (d54 O R q):=⟨e54_0 O R q,trivial⟩
def c55:MFunc:=mkM (compF Tryz.prog (globs2 tabs opq) (fun _=>false) true Tryz.f55) .n
def b55_0(O:Oracle)(R:Jump)(q:Nat)(x0:TVal)(h:Heap):Res1 :=
 vif x0 (
 tcomp (kS [116,114,117,101]) fun c0=>vfin true q [c0] h)
 (tcomp (kS [102,97,108,115,101]) fun c0=>vfin true q [c0] h)
theorem e55_0(O:Oracle)(R:Jump)(q:Nat)(x0:TVal)(h:Heap):b55_0 O R q x0 h=stepF c55 O R q 0 [x0] h:=by kernel_rfl
def d55:BlkF:=fun O R Q=>[.s fun a => .z (b55_0 O R Q a)]
theorem o55(O:Oracle)(R:Jump)(q:Nat):HoldsAll c55 O R q 0 (d55 O R q):=⟨e55_0 O R q,trivial⟩
def c56:MFunc:=mkM (compF Tryz.prog (globs2 tabs opq) (fun _=>false) true Tryz.f56) (.s .n (.s (.s .n (.s (.s .n (.s .n (.s .n (.s .n (.m 1 [0,5,6] .n))))) .n)) .n))
def b56_0(O:Oracle)(R:Jump)(q:Nat)(x0 x1:TVal)(h:Heap):Res1 :=
 vbin .eql 0 x1 (kI 10) h fun x11 h =>
 vif x11 (
 vbin .leq 0 (kI 0) x0 h fun x13 h =>
 vguard x13 true (fun kk=>kk x0 h) h fun x15 h =>
 vguard x13 true (fun kk=>vbin .lss 0 x15 (kI 100) h kk) h fun x16 h =>
 vop O (.pick (.k x13) (.k x16) (.k (kB false))) h 17 fun x17 h =>
 vif x17 (
 vcall O (.v (.c (.func 88 []))) [x0] h 19 fun x19 h =>
 tcomp x19 fun c0=>vfin true q [c0] h)
 (vop O (.alloc [(.p (.int .u8 0)),(.p (.int .u8 0)),(.p (.int .u8 0)),(.p (.int .u8 0)),(.p (.int .u8 0)),(.p (.int .u8 0)),(.p (.int .u8 0)),(.p (.int .u8 0)),(.p (.int .u8 0)),(.p (.int .u8 0)),(.p (.int .u8 0)),(.p (.int .u8 0)),(.p (.int .u8 0)),(.p (.int .u8 0)),(.p (.int .u8 0)),(.p (.int .u8 0)),(.p (.int .u8 0)),(.p (.int .u8 0)),(.p (.int .u8 0)),(.p (.int .u8 0)),(.p (.int .u8 0)),(.p (.int .u8 0)),(.p (.int .u8 0)),(.p (.int .u8 0))] false) h 5 fun x5 h =>
 vtoInt .u64 x0 h fun x21 h =>
 vbin .lss 0 x0 (kI 0) h fun x23 h =>
 vif x23 (
 vop O (.un .neg (.k x21)) h 25 fun x25 h =>
 R 1 [x0,x5,x25] h)
 (R 1 [x0,x5,x21] h)))
 (vtoInt .u64 x0 h fun x46 h =>
 vbin .lss 0 x0 (kI 0) h fun x49 h =>
 vcall O (.v (.c (.func 91 []))) [(.v (.c (.p .nilslice))),x46,x1,x49,(kB false)] h 50 fun x50 h =>
 vext x50 0 h fun x51 h =>
 vext x50 1 h fun x52 h =>
 tcomp x52 fun c0=>vfin true q [c0] h)
theorem e56_0(O:Oracle)(R:Jump)(q:Nat)(x0 x1:TVal)(h:Heap):b56_0 O R q x0 x1 h=stepF c56 O R q 0 [x0,x1] h:=by kernel_rfl
def b56_1(O:Oracle)(R:Jump)(q:Nat)(x0 x5 x6:TVal)(h:Heap):Res1 :=
 vcall O (.v (.c (.func 89 []))) [x6] h 27 fun x27 h =>
 vbin .add 0 (kI 1) x27 h fun x29 h =>
 vop O (.sliceA 24 1 (.k x5) (some (.k (kI 1))) (some (.k x29))) h 30 fun x30 h =>
 vcall O (.v (.c (.func 90 []))) [x30,x6] h 32 fun x32 h =>
 vbin .lss 0 x0 (kI 0) h fun x34 h =>
 vif x34 (
 vop O (.iaddrA 24 1 (.k x5) (.k (kI 0))) h 35 fun x35 h =>
 vstore 1 x35 (.v (.c (.p (.int .u8 45)))) h fun _ h =>
 vbin .add 0 (kI 1) x27 h fun x37 h =>
 vop O (.sliceA 24 1 (.k x5) none (some (.k x37))) h 38 fun x38 h =>
 vop O (.toStr (.k x38)) h 39 fun x39 h =>
 tcomp x39 fun c0=>vfin true q [c0] h)
 (vbin .add 0 (kI 1) x27 h fun x41 h =>
 vop O (.sliceA 24 1 (.k x5) (some (.k (kI 1))) (some (.k x41))) h 42 fun x42 h =>
 vop O (.toStr (.k x42)) h 43 fun x43 h =>
 tcomp x43 fun c0=>vfin true q [c0] h)
theorem e56_1(O:Oracle)(R:Jump)(q:Nat)(x0 x5 x6:TVal)(h:Heap):b56_1 O R q x0 x5 x6 h=stepF c56 O R q 1 [x0,x5,x6] h:=by kernel_rfl
def d56:BlkF:=fun O R Q=>[.s fun a => .s fun b => .z (b56_0 O R Q a b),.s fun a => .s fun b => .s fun c => .z (b56_1 O R Q a b c)]
theorem o56(O:Oracle)(R:Jump)(q:Nat):HoldsAll c56 O R q 0 (d56 O R q):=⟨e56_0 O R q,e56_1 O R q,trivial⟩
def c64:MFunc:=mkM (compF Tryz.prog (globs2 tabs opq) (fun _=>false) true Tryz.f64) (.s .n (.s .n (.s .n (.s .n (.m 1 [1,3] (.s (.s .n (.k (.l 2 [1,3,4] .n))) (.m 3 [3] .n)))))))
def b64_0(O:Oracle)(R:Jump)(q:Nat)(x0:TVal)(h:Heap):Res1 :=
 vop O (.box (.k x0) false) h 1 fun x1 h =>
 vfaddr 0 x1 h fun x5 h =>
 vload false 1 x5 h fun x6 h =>
 vbin .eql 0 x6 (kI 2) h fun x8 h =>
 vif x8 (
 vfaddr 3 x1 h fun x9 h =>
 vload false 1 x9 h fun x10 h =>
 vcall O (.v (.c (.func 40 []))) [x10] h 11 fun x11 h =>
 tcomp x11 fun c0=>vfin true q [c0] h)
 (vbin .eql 0 x6 (kI 3) h fun x13 h =>
 vif x13 (
 vfaddr 4 x1 h fun x14 h =>
 vload false 1 x14 h fun x15 h =>
 vcall O (.v (.c (.func 96 []))) [x15] h 16 fun x16 h =>
 tcomp x16 fun c0=>vfin true q [c0] h)
 (vbin .eql 0 x6 (kI 4) h fun x18 h =>
 vif x18 (
 vfaddr 5 x1 h fun x19 h =>
 vload false 1 x19 h fun x20 h =>
 vif x20 (
 tcomp (kS [116,114,117,101]) fun c0=>vfin true q [c0] h)
 (tcomp (kS [102,97,108,115,101]) fun c0=>vfin true q [c0] h))
 (vbin .eql 0 x6 (kI 5) h fun x22 h =>
 vif x22 (
 vfaddr 6 x1 h fun x23 h =>
 vload false 1 x23 h fun x24 h =>
 vcall O (.v (.c (.func 39 []))) [x24] h 25 fun x25 h =>
 vbin .add 0 (kS [40]) x25 h fun x26 h =>
 vbin .add 0 x26 (kS [41]) h fun x27 h =>
 tcomp x27 fun c0=>vfin true q [c0] h)
 (vbin .eql 0 x6 (kI 6) h fun x29 h =>
 vif x29 (
 vfaddr 3 x1 h fun x30 h =>
 vload false 1 x30 h fun x31 h =>
 tcomp x31 fun c0=>vfin true q [c0] h)
 (vfaddr 1 x1 h fun x32 h =>
 vload false 1 x32 h fun x33 h =>
 vbin .neq 0 x33 (kS []) h fun x34 h =>
 vif x34 (
 vfaddr 1 x1 h fun x35 h =>
 vload false 1 x35 h fun x36 h =>
 vbin .add 0 (kS [36]) x36 h fun x37 h =>
 R 1 [x1,x37] h)
 (R 1 [x1,(kS [])] h))))))
theorem e64_0(O:Oracle)(R:Jump)(q:Nat)(x0:TVal)(h:Heap):b64_0 O R q x0 h=stepF c64 O R q 0 [x0] h:=by kernel_rfl
def b64_1(O:Oracle)(R:Jump)(q:Nat)(x1 x3:TVal)(h:Heap):Res1 :=
 R 2 [x1,x3,(kI 0)] h
theorem e64_1(O:Oracle)(R:Jump)(q:Nat)(x1 x3:TVal)(h:Heap):b64_1 O R q x1 x3 h=stepF c64 O R q 1 [x1,x3] h:=by kernel_rfl
def b64_2(O:Oracle)(R:Jump)(q:Nat)(x1 x3 x4:TVal)(h:Heap):Res1 :=
 vfaddr 2 x1 h fun x39 h =>
 vload false 1 x39 h fun x40 h =>
 vlen O 2 x40 h 41 fun x41 h =>
 vbin .lss 0 x4 x41 h fun x42 h =>
 vif x42 (
 vbin .add 0 x3 (kS [46]) h fun x46 h =>
 vfaddr 2 x1 h fun x47 h =>
 vload false 1 x47 h fun x48 h =>
 viaddr 1 x48 x4 h fun x50 h =>
 vload false 1 x50 h fun x51 h =>
 vbin .add 0 x46 x51 h fun x52 h =>
 vbin .add 0 x4 (kI 1) h fun x44 h =>
 R 2 [x1,x52,x44] h)
 (R 3 [x3] h)
theorem e64_2(O:Oracle)(R:Jump)(q:Nat)(x1 x3 x4:TVal)(h:Heap):b64_2 O R q x1 x3 x4 h=stepF c64 O R q 2 [x1,x3,x4] h:=by kernel_rfl
def b64_3(O:Oracle)(R:Jump)(q:Nat)(x3:TVal)(h:Heap):Res1 :=
 vbin .eql 0 x3 (kS []) h fun x54 h =>
 vif x54 (
 tcomp (kS [46]) fun c0=>vfin true q [c0] h)
 (tcomp x3 fun c0=>vfin true q [c0] h)
theorem e64_3(O:Oracle)(R:Jump)(q:Nat)(x3:TVal)(h:Heap):b64_3 O R q x3 h=stepF c64 O R q 3 [x3] h:=by kernel_rfl
def d64:BlkF:=fun O R Q=>[.s fun a => .z (b64_0 O R Q a),.s fun a => .s fun b => .z (b64_1 O R Q a b),.s fun a => .s fun b => .s fun c => .z (b64_2 O R Q a b c),.s fun a => .z (b64_3 O R Q a)]
theorem o64(O:Oracle)(R:Jump)(q:Nat):HoldsAll c64 O R q 0 (d64 O R q):=⟨e64_0 O R q,e64_1 O R q,e64_2 O R q,e64_3 O R q,trivial⟩
def c71:MFunc:=mkM (compF Tryz.prog (globs2 tabs opq) (fun _=>false) true Tryz.f71) (.s .n (.s .n (.s (.s .n (.k (.s .n (.m 1 [3] .n)))) (.m 2 [3] .n))))
def b71_0(O:Oracle)(R:Jump)(q:Nat)(x0:TVal)(h:Heap):Res1 :=
 vop O (.box (.k x0) false) h 1 fun x1 h =>
 vload true 6 x1 h fun x4 h =>
 vop O (.alloc [(.p (.int .i64 0)),(.p (.bool false)),(.p (.int .i64 0)),(.p (.str [])),(.p .nilslice),(.p .nilslice)] false) h 3 fun x3 h =>
 vstore 6 x3 x4 h fun _ h =>
 vfaddr 0 x1 h fun x5 h =>
 vload false 1 x5 h fun x6 h =>
 vbin .eql 0 x6 (kI 1) h fun x8 h =>
 vif x8 (
 vfaddr 1 x3 h fun x17 h =>
 vstore 1 x17 (kB false) h fun _ h =>
 R 2 [x3] h)
 (vbin .eql 0 x6 (kI 2) h fun x10 h =>
 vif x10 (
 vfaddr 2 x3 h fun x18 h =>
 vstore 1 x18 (kI 0) h fun _ h =>
 R 2 [x3] h)
 (vbin .eql 0 x6 (kI 3) h fun x12 h =>
 vif x12 (
 vfaddr 3 x3 h fun x19 h =>
 vstore 1 x19 (kS []) h fun _ h =>
 R 2 [x3] h)
 (vbin .eql 0 x6 (kI 5) h fun x14 h =>
 vif x14 (
 vfaddr 4 x3 h fun x20 h =>
 vstore 1 x20 (.v (.c (.p .nilslice))) h fun _ h =>
 R 1 [x3] h)
 (vbin .eql 0 x6 (kI 4) h fun x16 h =>
 vif x16 (
 R 1 [x3] h)
 (R 2 [x3] h)))))
theorem e71_0(O:Oracle)(R:Jump)(q:Nat)(x0:TVal)(h:Heap):b71_0 O R q x0 h=stepF c71 O R q 0 [x0] h:=by kernel_rfl
def b71_1(O:Oracle)(R:Jump)(q:Nat)(x3:TVal)(h:Heap):Res1 :=
 vfaddr 5 x3 h fun x21 h =>
 vstore 1 x21 (.v (.c (.p .nilslice))) h fun _ h =>
 R 2 [x3] h
theorem e71_1(O:Oracle)(R:Jump)(q:Nat)(x3:TVal)(h:Heap):b71_1 O R q x3 h=stepF c71 O R q 1 [x3] h:=by kernel_rfl
def b71_2(O:Oracle)(R:Jump)(q:Nat)(x3:TVal)(h:Heap):Res1 :=
 vfaddr 1 x3 h fun x22 h =>
 vload false 1 x22 h fun x23 h =>
 vguard x23 false (fun kk=>vfaddr 2 x3 h kk) h fun x25 h =>
 vguard x23 false (fun kk=>vload false 1 x25 h kk) h fun x26 h =>
 vguard x23 false (fun kk=>vbin .neq 0 x26 (kI 0) h kk) h fun x27 h =>
 vop O (.pick (.k x23) (.k (kB true)) (.k x27)) h 28 fun x28 h =>
 vguard x28 false (fun kk=>vfaddr 3 x3 h kk) h fun x30 h =>
 vguard x28 false (fun kk=>vload false 1 x30 h kk) h fun x31 h =>
 vguard x28 false (fun kk=>vbin .neq 0 x31 (kS []) h kk) h fun x32 h =>
 vop O (.pick (.k x28) (.k (kB true)) (.k x32)) h 33 fun x33 h =>
 vguard x33 false (fun kk=>vfaddr 4 x3 h kk) h fun x35 h =>
 vguard x33 false (fun kk=>vload false 1 x35 h kk) h fun x36 h =>
 vguard x33 false (fun kk=>vlen O 2 x36 h 37 kk) h fun x37 h =>
 vguard x33 false (fun kk=>vbin .gtr 0 x37 (kI 0) h kk) h fun x38 h =>
 vop O (.pick (.k x33) (.k (kB true)) (.k x38)) h 39 fun x39 h =>
 vguard x39 false (fun kk=>vfaddr 5 x3 h kk) h fun x41 h =>
 vguard x39 false (fun kk=>vload false 1 x41 h kk) h fun x42 h =>
 vguard x39 false (fun kk=>vlen O 2 x42 h 43 kk) h fun x43 h =>
 vguard x39 false (fun kk=>vbin .gtr 0 x43 (kI 0) h kk) h fun x44 h =>
 vop O (.pick (.k x39) (.k (kB true)) (.k x44)) h 45 fun x45 h =>
 tcomp x45 fun c0=>vfin true q [c0] h
theorem e71_2(O:Oracle)(R:Jump)(q:Nat)(x3:TVal)(h:Heap):b71_2 O R q x3 h=stepF c71 O R q 2 [x3] h:=by kernel_rfl
def d71:BlkF:=fun O R Q=>[.s fun a => .z (b71_0 O R Q a),.s fun a => .z (b71_1 O R Q a),.s fun a => .z (b71_2 O R Q a)]
theorem o71(O:Oracle)(R:Jump)(q:Nat):HoldsAll c71 O R q 0 (d71 O R q):=⟨e71_0 O R q,e71_1 O R q,e71_2 O R q,trivial⟩
def c72:MFunc:=mkM (compF Tryz.prog (globs2 tabs opq) (fun _=>false) true Tryz.f72) (.s .n (.s .n (.s (.s .n (.k (.l 1 [0,7,8] .n))) .n)))
def b72_0(O:Oracle)(R:Jump)(q:Nat)(x0:TVal)(h:Heap):Res1 :=
 vcall O (.v (.c (.func 100 []))) [x0,(.v (.c (.func 101 [])))] h 5 fun x5 h =>
 vif x5 (
 tcomp (kI 4) fun c0=>vfin true q [c0] h)
 (vlen O 2 x0 h 7 fun x7 h =>
 R 1 [x0,x7,(kI 0)] h)
theorem e72_0(O:Oracle)(R:Jump)(q:Nat)(x0:TVal)(h:Heap):b72_0 O R q x0 h=stepF c72 O R q 0 [x0] h:=by kernel_rfl
def b72_1(O:Oracle)(R:Jump)(q:Nat)(x0 x7 x8:TVal)(h:Heap):Res1 :=
 vbin .lss 0 x8 x7 h fun x9 h =>
 vif x9 (
 vbin .gtr 0 x8 (kI 0) h fun x12 h =>
 vguard x12 true (fun kk=>kk x0 h) h fun x14 h =>
 vguard x12 true (fun kk=>kk x8 h) h fun x15 h =>
 vguard x12 true (fun kk=>vbin .sub 0 x15 (kI 1) h kk) h fun x16 h =>
 vguard x12 true (fun kk=>viaddr 1 x14 x16 h kk) h fun x17 h =>
 vguard x12 true (fun kk=>vload false 1 x17 h kk) h fun x18 h =>
 vguard x12 true (fun kk=>kk x0 h) h fun x19 h =>
 vguard x12 true (fun kk=>kk x8 h) h fun x20 h =>
 vguard x12 true (fun kk=>viaddr 1 x19 x20 h kk) h fun x21 h =>
 vguard x12 true (fun kk=>vload false 1 x21 h kk) h fun x22 h =>
 vguard x12 true (fun kk=>vbin .geq 0 x18 x22 h kk) h fun x23 h =>
 vop O (.pick (.k x12) (.k x23) (.k (kB false))) h 24 fun x24 h =>
 vif x24 (
 tcomp (kI 6) fun c0=>vfin true q [c0] h)
 (vbin .add 0 x8 (kI 1) h fun x25 h =>
 R 1 [x0,x7,x25] h))
 (tcomp (kI 0) fun c0=>vfin true q [c0] h)
theorem e72_1(O:Oracle)(R:Jump)(q:Nat)(x0 x7 x8:TVal)(h:Heap):b72_1 O R q x0 x7 x8 h=stepF c72 O R q 1 [x0,x7,x8] h:=by kernel_rfl
def d72:BlkF:=fun O R Q=>[.s fun a => .z (b72_0 O R Q a),.s fun a => .s fun b => .s fun c => .z (b72_1 O R Q a b c)]
theorem o72(O:Oracle)(R:Jump)(q:Nat):HoldsAll c72 O R q 0 (d72 O R q):=⟨e72_0 O R q,e72_1 O R q,trivial⟩
def c74:MFunc:=mkM (compF Tryz.prog (globs2 tabs opq) (fun _=>false) true Tryz.f74) .n
def b74_0(O:Oracle)(R:Jump)(q:Nat)(x0 x1:TVal)(h:Heap):Res1 :=
 vcall O (.v (.c (.func 102 []))) [x0,x1] h 7 fun x7 h =>
 tcomp x7 fun c0=>vfin true q [c0] h
theorem e74_0(O:Oracle)(R:Jump)(q:Nat)(x0 x1:TVal)(h:Heap):b74_0 O R q x0 x1 h=stepF c74 O R q 0 [x0,x1] h:=by kernel_rfl
def d74:BlkF:=fun O R Q=>[.s fun a => .s fun b => .z (b74_0 O R Q a b)]
theorem o74(O:Oracle)(R:Jump)(q:Nat):HoldsAll c74 O R q 0 (d74 O R q):=⟨e74_0 O R q,trivial⟩
def c75:MFunc:=mkM (compF Tryz.prog (globs2 tabs opq) (fun _=>false) true Tryz.f75) .n
def b75_0(O:Oracle)(R:Jump)(q:Nat)(x0 x1:TVal)(h:Heap):Res1 :=
 vcall O (.v (.c (.func 103 []))) [x0,x1] h 7 fun x7 h =>
 tcomp x7 fun c0=>vfin true q [c0] h
theorem e75_0(O:Oracle)(R:Jump)(q:Nat)(x0 x1:TVal)(h:Heap):b75_0 O R q x0 x1 h=stepF c75 O R q 0 [x0,x1] h:=by kernel_rfl
def d75:BlkF:=fun O R Q=>[.s fun a => .s fun b => .z (b75_0 O R Q a b)]
theorem o75(O:Oracle)(R:Jump)(q:Nat):HoldsAll c75 O R q 0 (d75 O R q):=⟨e75_0 O R q,trivial⟩
def c76:MFunc:=mkM (compF Tryz.prog (globs2 tabs opq) (fun _=>false) true Tryz.f76) (.s .n (.s (.s .n (.k (.l 1 [0,6] .n))) (.m 2 [0] .n)))
def b76_0(O:Oracle)(R:Jump)(q:Nat)(x0:TVal)(h:Heap):Res1 :=
 vop O (.rangeS (.k x0)) h 6 fun x6 h =>
 R 1 [x0,x6] h
theorem e76_0(O:Oracle)(R:Jump)(q:Nat)(x0:TVal)(h:Heap):b76_0 O R q x0 h=stepF c76 O R q 0 [x0] h:=by kernel_rfl
def b76_1(O:Oracle)(R:Jump)(q:Nat)(x0 x6:TVal)(h:Heap):Res1 :=
 vop O (.nextS (.k x6)) h 7 fun x7 h =>
 vext x7 0 h fun x8 h =>
 vif x8 (
 vext x7 1 h fun x9 h =>
 vext x7 2 h fun x10 h =>
 vbin .lss 0 x10 (.v (.c (.p (.int .i32 48)))) h fun x12 h =>
 vguard x12 false (fun kk=>kk x10 h) h fun x14 h =>
 vguard x12 false (fun kk=>vbin .gtr 0 x14 (.v (.c (.p (.int .i32 57)))) h kk) h fun x15 h =>
 vop O (.pick (.k x12) (.k (kB true)) (.k x15)) h 16 fun x16 h =>
 vguard x16 false (fun kk=>kk x9 h) h fun x18 h =>
 vguard x16 false (fun kk=>vbin .eql 0 x18 (kI 1) h kk) h fun x19 h =>
 vguard x16 false (fun kk=>kk x19 h) h fun x20 h =>
 vguard x20 true (fun kk=>kk x0 h) h fun x21 h =>
 vguard x20 true (fun kk=>vindex x21 (kI 0) h kk) h fun x22 h =>
 vguard x20 true (fun kk=>vbin .eql 0 x22 (.v (.c (.p (.int .u8 48)))) h kk) h fun x23 h =>
 vguard x16 false (fun kk=>vop O (.pick (.k x20) (.k x23) (.k (kB false))) h 24 kk) h fun x24 h =>
 vop O (.pick (.k x16) (.k (kB true)) (.k x24)) h 25 fun x25 h =>
 vif x25 (
 tcomp x9 fun c0=>vfin true q [c0] h)
 (R 1 [x0,x6] h))
 (R 2 [x0] h)
theorem e76_1(O:Oracle)(R:Jump)(q:Nat)(x0 x6:TVal)(h:Heap):b76_1 O R q x0 x6 h=stepF c76 O R q 1 [x0,x6] h:=by kernel_rfl
def b76_2(O:Oracle)(R:Jump)(q:Nat)(x0:TVal)(h:Heap):Res1 :=
 vlen O 0 x0 h 28 fun x28 h =>
 vbin .gtr 0 x28 (kI 1) h fun x29 h =>
 vguard x29 true (fun kk=>kk x0 h) h fun x31 h =>
 vguard x29 true (fun kk=>vindex x31 (kI 0) h kk) h fun x32 h =>
 vguard x29 true (fun kk=>vbin .eql 0 x32 (.v (.c (.p (.int .u8 48)))) h kk) h fun x33 h =>
 vop O (.pick (.k x29) (.k x33) (.k (kB false))) h 34 fun x34 h =>
 vif x34 (
 tcomp (kI 1) fun c0=>vfin true q [c0] h)
 (vlen O 0 x0 h 36 fun x36 h =>
 tcomp x36 fun c0=>vfin true q [c0] h)
theorem e76_2(O:Oracle)(R:Jump)(q:Nat)(x0:TVal)(h:Heap):b76_2 O R q x0 h=stepF c76 O R q 2 [x0] h:=by kernel_rfl
def d76:BlkF:=fun O R Q=>[.s fun a => .z (b76_0 O R Q a),.s fun a => .s fun b => .z (b76_1 O R Q a b),.s fun a => .z (b76_2 O R Q a)]
theorem o76(O:Oracle)(R:Jump)(q:Nat):HoldsAll c76 O R q 0 (d76 O R q):=⟨e76_0 O R q,e76_1 O R q,e76_2 O R q,trivial⟩
def c77:MFunc:=mkM (compF Tryz.prog (globs2 tabs opq) (fun _=>false) true Tryz.f77) .n
def b77_0(O:Oracle)(R:Jump)(q:Nat)(x0 x1:TVal)(h:Heap):Res1 :=
 vcall O (.v (.c (.func 104 []))) [x0,x1] h 7 fun x7 h =>
 tcomp x7 fun c0=>vfin true q [c0] h
theorem e77_0(O:Oracle)(R:Jump)(q:Nat)(x0 x1:TVal)(h:Heap):b77_0 O R q x0 x1 h=stepF c77 O R q 0 [x0,x1] h:=by kernel_rfl
def d77:BlkF:=fun O R Q=>[.s fun a => .s fun b => .z (b77_0 O R Q a b)]
theorem o77(O:Oracle)(R:Jump)(q:Nat):HoldsAll c77 O R q 0 (d77 O R q):=⟨e77_0 O R q,trivial⟩
def c78:MFunc:=mkM (compF Tryz.prog (globs2 tabs opq) (fun _=>false) true Tryz.f78) (.s .n (.s (.s .n (.k (.s .n (.s .n (.s .n (.s .n (.s .n (.m 1 [0,9] .n)))))))) .n))
def b78_0(O:Oracle)(R:Jump)(q:Nat)(x0:TVal)(h:Heap):Res1 :=
 vbin .eql 0 x0 (.v (.c (.p (.int .u8 110)))) h fun x6 h =>
 vif x6 (
 tcomp (.v (.c (.p (.int .u8 10)))) fun c0=>tcomp (kB true) fun c1=>vfin true q [c0,c1] h)
 (vbin .eql 0 x0 (.v (.c (.p (.int .u8 116)))) h fun x8 h =>
 vif x8 (
 tcomp (.v (.c (.p (.int .u8 9)))) fun c0=>tcomp (kB true) fun c1=>vfin true q [c0,c1] h)
 (vbin .eql 0 x0 (.v (.c (.p (.int .u8 34)))) h fun x10 h =>
 vif x10 (
 R 1 [x0,x10] h)
 (vbin .eql 0 x0 (.v (.c (.p (.int .u8 92)))) h fun x11 h =>
 R 1 [x0,x11] h)))
theorem e78_0(O:Oracle)(R:Jump)(q:Nat)(x0:TVal)(h:Heap):b78_0 O R q x0 h=stepF c78 O R q 0 [x0] h:=by kernel_rfl
def b78_1(O:Oracle)(R:Jump)(q:Nat)(x0 x9:TVal)(h:Heap):Res1 :=
 vif x9 (
 tcomp x0 fun c0=>tcomp (kB true) fun c1=>vfin true q [c0,c1] h)
 (tcomp (.v (.c (.p (.int .u8 0)))) fun c0=>tcomp (kB false) fun c1=>vfin true q [c0,c1] h)
theorem e78_1(O:Oracle)(R:Jump)(q:Nat)(x0 x9:TVal)(h:Heap):b78_1 O R q x0 x9 h=stepF c78 O R q 1 [x0,x9] h:=by kernel_rfl
def d78:BlkF:=fun O R Q=>[.s fun a => .z (b78_0 O R Q a),.s fun a => .s fun b => .z (b78_1 O R Q a b)]
theorem o78(O:Oracle)(R:Jump)(q:Nat):HoldsAll c78 O R q 0 (d78 O R q):=⟨e78_0 O R q,e78_1 O R q,trivial⟩
def c79:MFunc:=mkM (compF Tryz.prog (globs2 tabs opq) (fun _=>false) true Tryz.f79) .n
def b79_0(O:Oracle)(R:Jump)(q:Nat)(x0 x1:TVal)(h:Heap):Res1 :=
 vcall O (.v (.c (.func 27 []))) [x0] h 5 fun x5 h =>
 vcall O (.v (.c (.func 48 []))) [x0,x1] h 8 fun x8 h =>
 vop O (.un .not (.k x8)) h 9 fun x9 h =>
 vif x9 (
 vcall O (.v (.c (.func 28 []))) [x0,(kI 12)] h 11 fun x11 h =>
 vfin true q [] h)
 (vfin true q [] h)
theorem e79_0(O:Oracle)(R:Jump)(q:Nat)(x0 x1:TVal)(h:Heap):b79_0 O R q x0 x1 h=stepF c79 O R q 0 [x0,x1] h:=by kernel_rfl
def d79:BlkF:=fun O R Q=>[.s fun a => .s fun b => .z (b79_0 O R Q a b)]
theorem o79(O:Oracle)(R:Jump)(q:Nat):HoldsAll c79 O R q 0 (d79 O R q):=⟨e79_0 O R q,trivial⟩
def c80:MFunc:=mkM (compF Tryz.prog (globs2 tabs opq) (fun n=>Nat.beq n 7) true Tryz.f80) .n
def b80_0(O:Oracle)(R:Jump)(q:Nat)(x0 x1 x2:TVal)(h:Heap):Res1 :=
 vload false 1 x0 h fun x4 h =>
 vcall O (.v (.c (.func 79 []))) [x4,(kS [34])] h 5 fun x5 h =>
 vload false 1 x0 h fun x6 h =>
 vop O (.nilck (.k x6)) h 7 fun x7 h =>
 vfaddr 1 x7 h fun x8 h =>
 vload false 1 x8 h fun x9 h =>
 vbin .neq 0 x9 (kI 0) h fun x10 h =>
 vif x10 (
 vfin true q [] h)
 (vload false 1 x0 h fun x11 h =>
 vcall O (.v (.c (.func 49 []))) [x11] h 12 fun x12 h =>
 vop O (.build [(.p (.str [])),(.p (.int .i64 0)),(.p (.bool false)),(.p (.int .i64 0)),(.p (.str [])),(.p .nilslice),(.p .nilslice)] [(0,1,(.k x12))]) h 13 fun x13 h =>
 vop O (.alloc [(.p (.str [])),(.p (.int .i64 0)),(.p (.bool false)),(.p (.int .i64 0)),(.p (.str [])),(.p .nilslice),(.p .nilslice)] false) h 3 fun x3 h =>
 vstore 7 x3 x13 h fun _ h =>
 vload false 1 x0 h fun x14 h =>
 vcall O (.v (.c (.func 79 []))) [x14,(kS [58])] h 15 fun x15 h =>
 vload false 1 x0 h fun x16 h =>
 vload false 1 x1 h fun x17 h =>
 vbin .add 0 x17 (kI 1) h fun x18 h =>
 vcall O (.v (.c (.func 26 []))) [x16,x18] h 19 fun x19 h =>
 vfaddr 1 x3 h fun x20 h =>
 vstore 6 x20 x19 h fun _ h =>
 vload false 1 x2 h fun x21 h =>
 vload true 7 x3 h fun x22 h =>
 vop O (.bslice 7 1 [(.p (.str [])),(.p (.int .i64 0)),(.p (.bool false)),(.p (.int .i64 0)),(.p (.str [])),(.p .nilslice),(.p .nilslice)] [(0,(.k x22))] true) h 23 fun x23 h =>
 vop O (.append 7 104 true (.k x21) (.k x23)) h 24 fun x24 h =>
 vstore 1 x2 x24 h fun _ h =>
 vfin true q [] h)
theorem e80_0(O:Oracle)(R:Jump)(q:Nat)(x0 x1 x2:TVal)(h:Heap):b80_0 O R q x0 x1 x2 h=stepF c80 O R q 0 [x0,x1,x2] h:=by kernel_rfl
def d80:BlkF:=fun O R Q=>[.s fun a => .s fun b => .s fun c => .z (b80_0 O R Q a b c)]
theorem o80(O:Oracle)(R:Jump)(q:Nat):HoldsAll c80 O R q 0 (d80 O R q):=⟨e80_0 O R q,trivial⟩
def c81:MFunc:=mkM (compF Tryz.prog (globs2 tabs opq) (fun _=>false) true Tryz.f81) .n
def b81_0(O:Oracle)(R:Jump)(q:Nat)(x0 x1:TVal)(h:Heap):Res1 :=
 vlen O 2 x0 h 6 fun x6 h =>
 vcall O (.v (.c (.func 105 []))) [x0,x6,x1] h 8 fun x8 h =>
 vfin true q [] h
theorem e81_0(O:Oracle)(R:Jump)(q:Nat)(x0 x1:TVal)(h:Heap):b81_0 O R q x0 x1 h=stepF c81 O R q 0 [x0,x1] h:=by kernel_rfl
def d81:BlkF:=fun O R Q=>[.s fun a => .s fun b => .z (b81_0 O R Q a b)]
theorem o81(O:Oracle)(R:Jump)(q:Nat):HoldsAll c81 O R q 0 (d81 O R q):=⟨e81_0 O R q,trivial⟩
def c82:MFunc:=mkM (compF Tryz.prog (globs2 tabs opq) (fun _=>false) true Tryz.f82) .n
def b82_0(O:Oracle)(R:Jump)(q:Nat)(x0 x1:TVal)(h:Heap):Res1 :=
 vop O (.box (.k x0) false) h 2 fun x2 h =>
 vop O (.box (.k x1) false) h 3 fun x3 h =>
 vfaddr 0 x2 h fun x5 h =>
 vload false 1 x5 h fun x6 h =>
 vfaddr 0 x3 h fun x7 h =>
 vload false 1 x7 h fun x8 h =>
 vcall O (.v (.c (.func 83 []))) [x6,x8] h 9 fun x9 h =>
 tcomp x9 fun c0=>vfin true q [c0] h
theorem e82_0(O:Oracle)(R:Jump)(q:Nat)(x0 x1:TVal)(h:Heap):b82_0 O R q x0 x1 h=stepF c82 O R q 0 [x0,x1] h:=by kernel_rfl
def d82:BlkF:=fun O R Q=>[.s fun a => .s fun b => .z (b82_0 O R Q a b)]
theorem o82(O:Oracle)(R:Jump)(q:Nat):HoldsAll c82 O R q 0 (d82 O R q):=⟨e82_0 O R q,trivial⟩
def c83:MFunc:=mkM (compF Tryz.prog (globs2 tabs opq) (fun _=>false) true Tryz.f83) .n
def b83_0(O:Oracle)(R:Jump)(q:Nat)(x0 x1:TVal)(h:Heap):Res1 :=
 vcall O (.v (.c (.func 106 []))) [x0] h 8 fun x8 h =>
 vcall O (.v (.c (.func 106 []))) [x1] h 10 fun x10 h =>
 vif x8 (
 vif x10 (
 tcomp (kI 0) fun c0=>vfin true q [c0] h)
 (tcomp (kI (-1)) fun c0=>vfin true q [c0] h))
 (vif x10 (
 tcomp (kI 1) fun c0=>vfin true q [c0] h)
 (vbin .lss 0 x0 x1 h fun x16 h =>
 vif x16 (
 tcomp (kI (-1)) fun c0=>vfin true q [c0] h)
 (vbin .gtr 0 x0 x1 h fun x19 h =>
 vif x19 (
 tcomp (kI 1) fun c0=>vfin true q [c0] h)
 (tcomp (kI 0) fun c0=>vfin true q [c0] h))))
theorem e83_0(O:Oracle)(R:Jump)(q:Nat)(x0 x1:TVal)(h:Heap):b83_0 O R q x0 x1 h=stepF c83 O R q 0 [x0,x1] h:=by kernel_rfl
def d83:BlkF:=fun O R Q=>[.s fun a => .s fun b => .z (b83_0 O R Q a b)]
theorem o83(O:Oracle)(R:Jump)(q:Nat):HoldsAll c83 O R q 0 (d83 O R q):=⟨e83_0 O R q,trivial⟩
def c84:MFunc:=mkM (compF Tryz.prog (globs2 tabs opq) (fun _=>false) true Tryz.f84) (.s .n (.s (.k (.l 1 [0,1] .n)) .n))
def b84_0(O:Oracle)(R:Jump)(q:Nat)(x0 x1:TVal)(h:Heap):Res1 :=
 R 1 [x0,x1] h
theorem e84_0(O:Oracle)(R:Jump)(q:Nat)(x0 x1:TVal)(h:Heap):b84_0 O R q x0 x1 h=stepF c84 O R q 0 [x0,x1] h:=by kernel_rfl
def b84_1(O:Oracle)(R:Jump)(q:Nat)(x0 x1:TVal)(h:Heap):Res1 :=
 vlen O 0 x0 h 6 fun x6 h =>
 vbin .gtr 0 x6 (kI 0) h fun x7 h =>
 vguard x7 true (fun kk=>kk x0 h) h fun x9 h =>
 vguard x7 true (fun kk=>vindex x9 (kI 0) h kk) h fun x10 h =>
 vguard x7 true (fun kk=>kk x1 h) h fun x11 h =>
 vguard x7 true (fun kk=>vbin .eql 0 x10 x11 h kk) h fun x12 h =>
 vop O (.pick (.k x7) (.k x12) (.k (kB false))) h 13 fun x13 h =>
 vif x13 (
 vop O (.slice 0 true (.k x0) (some (.k (kI 1))) none none) h 15 fun x15 h =>
 R 1 [x15,x1] h)
 (tcomp x0 fun c0=>vfin true q [c0] h)
theorem e84_1(O:Oracle)(R:Jump)(q:Nat)(x0 x1:TVal)(h:Heap):b84_1 O R q x0 x1 h=stepF c84 O R q 1 [x0,x1] h:=by kernel_rfl
def d84:BlkF:=fun O R Q=>[.s fun a => .s fun b => .z (b84_0 O R Q a b),.s fun a => .s fun b => .z (b84_1 O R Q a b)]
theorem o84(O:Oracle)(R:Jump)(q:Nat):HoldsAll c84 O R q 0 (d84 O R q):=⟨e84_0 O R q,e84_1 O R q,trivial⟩
def c85:MFunc:=mkM (compF Tryz.prog (globs2 tabs opq) (fun _=>false) true Tryz.f85) (.s .n (.s (.s .n (.k (.l 1 [0,2,4] .n))) (.m 2 [2] .n)))
def b85_0(O:Oracle)(R:Jump)(q:Nat)(x0:TVal)(h:Heap):Res1 :=
 vop O (.alloc [(.p (.bool false)),(.p (.bool false)),(.p (.bool false)),(.p (.bool false)),(.p (.bool false)),(.p (.bool false)),(.p (.bool false)),(.p (.bool false)),(.p (.bool false)),(.p (.bool false)),(.p (.bool false)),(.p (.bool false)),(.p (.bool false)),(.p (.bool false)),(.p (.bool false)),(.p (.bool false)),(.p (.bool false)),(.p (.bool false)),(.p (.bool false)),(.p (.bool false)),(.p (.bool false)),(.p (.bool false)),(.p (.bool false)),(.p (.bool false)),(.p (.bool false)),(.p (.bool false)),(.p (.bool false)),(.p (.bool false)),(.p (.bool false)),(.p (.bool false)),(.p (.bool false)),(.p (.bool false)),(.p (.bool false)),(.p (.bool false)),(.p (.bool false)),(.p (.bool false)),(.p (.bool false)),(.p (.bool false)),(.p (.bool false)),(.p (.bool false)),(.p (.bool false)),(.p (.bool false)),(.p (.bool false)),(.p (.bool false)),(.p (.bool false)),(.p (.bool false)),(.p (.bool false)),(.p (.bool false)),(.p (.bool false)),(.p (.bool false)),(.p (.bool false)),(.p (.bool false)),(.p (.bool false)),(.p (.bool false)),(.p (.bool false)),(.p (.bool false)),(.p (.bool false)),(.p (.bool false)),(.p (.bool false)),(.p (.bool false)),(.p (.bool false)),(.p (.bool false)),(.p (.bool false)),(.p (.bool false)),(.p (.bool false)),(.p (.bool false)),(.p (.bool false)),(.p (.bool false)),(.p (.bool false)),(.p (.bool false)),(.p (.bool false)),(.p (.bool false)),(.p (.bool false)),(.p (.bool false)),(.p (.bool false)),(.p (.bool false)),(.p (.bool false)),(.p (.bool false)),(.p (.bool false)),(.p (.bool false)),(.p (.bool false)),(.p (.bool false)),(.p (.bool false)),(.p (.bool false)),(.p (.bool false)),(.p (.bool false)),(.p (.bool false)),(.p (.bool false)),(.p (.bool false)),(.p (.bool false)),(.p (.bool false)),(.p (.bool false)),(.p (.bool false)),(.p (.bool false)),(.p (.bool false)),(.p (.bool false)),(.p (.bool false)),(.p (.bool false)),(.p (.bool false)),(.p (.bool false)),(.p (.bool false)),(.p (.bool false)),(.p (.bool false)),(.p (.bool false)),(.p (.bool false)),(.p (.bool false)),(.p (.bool false)),(.p (.bool false)),(.p (.bool false)),(.p (.bool false)),(.p (.bool false)),(.p (.bool false)),(.p (.bool false)),(.p (.bool false)),(.p (.bool false)),(.p (.bool false)),(.p (.bool false)),(.p (.bool false)),(.p (.bool false)),(.p (.bool false)),(.p (.bool false)),(.p (.bool false)),(.p (.bool false)),(.p (.bool false)),(.p (.bool false)),(.p (.bool false)),(.p (.bool false)),(.p (.bool false)),(.p (.bool false)),(.p (.bool false)),(.p (.bool false)),(.p (.bool false)),(.p (.bool false)),(.p (.bool false)),(.p (.bool false)),(.p (.bool false)),(.p (.bool false)),(.p (.bool false)),(.p (.bool false)),(.p (.bool false)),(.p (.bool false)),(.p (.bool false)),(.p (.bool false)),(.p (.bool false)),(.p (.bool false)),(.p (.bool false)),(.p (.bool false)),(.p (.bool false)),(.p (.bool false)),(.p (.bool false)),(.p (.bool false)),(.p (.bool false)),(.p (.bool false)),(.p (.bool false)),(.p (.bool false)),(.p (.bool false)),(.p (.bool false)),(.p (.bool false)),(.p (.bool false)),(.p (.bool false)),(.p (.bool false)),(.p (.bool false)),(.p (.bool false)),(.p (.bool false)),(.p (.bool false)),(.p (.bool false)),(.p (.bool false)),(.p (.bool false)),(.p (.bool false)),(.p (.bool false)),(.p (.bool false)),(.p (.bool false)),(.p (.bool false)),(.p (.bool false)),(.p (.bool false)),(.p (.bool false)),(.p (.bool false)),(.p (.bool false)),(.p (.bool false)),(.p (.bool false)),(.p (.bool false)),(.p (.bool false)),(.p (.bool false)),(.p (.bool false)),(.p (.bool false)),(.p (.bool false)),(.p (.bool false)),(.p (.bool false)),(.p (.bool false)),(.p (.bool false)),(.p (.bool false)),(.p (.bool false)),(.p (.bool false)),(.p (.bool false)),(.p (.bool false)),(.p (.bool false)),(.p (.bool false)),(.p (.bool false)),(.p (.bool false)),(.p (.bool false)),(.p (.bool false)),(.p (.bool false)),(.p (.bool false)),(.p (.bool false)),(.p (.bool false)),(.p (.bool false)),(.p (.bool false)),(.p (.bool false)),(.p (.bool false)),(.p (.bool false)),(.p (.bool false)),(.p (.bool false)),(.p (.bool false)),(.p (.bool false)),(.p (.bool false)),(.p (.bool false)),(.p (.bool false)),(.p (.bool false)),(.p (.bool false)),(.p (.bool false)),(.p (.bool false)),(.p (.bool false)),(.p (.bool false)),(.p (.bool false)),(.p (.bool false)),(.p (.bool false)),(.p (.bool false)),(.p (.bool false)),(.p (.bool false)),(.p (.bool false)),(.p (.bool false)),(.p (.bool false)),(.p (.bool false)),(.p (.bool false)),(.p (.bool false)),(.p (.bool false)),(.p (.bool false)),(.p (.bool false)),(.p (.bool false)),(.p (.bool false)),(.p (.bool false)),(.p (.bool false)),(.p (.bool false)),(.p (.bool false)),(.p (.bool false)),(.p (.bool false)),(.p (.bool false)),(.p (.bool false)),(.p (.bool false)),(.p (.bool false)),(.p (.bool false)),(.p (.bool false)),(.p (.bool false)),(.p (.bool false)),(.p (.bool false)),(.p (.bool false))] false) h 2 fun x2 h =>
 R 1 [x0,x2,(kI 0)] h
theorem e85_0(O:Oracle)(R:Jump)(q:Nat)(x0:TVal)(h:Heap):b85_0 O R q x0 h=stepF c85 O R q 0 [x0] h:=by kernel_rfl
def b85_1(O:Oracle)(R:Jump)(q:Nat)(x0 x2 x4:TVal)(h:Heap):Res1 :=
 vlen O 0 x0 h 8 fun x8 h =>
 vbin .lss 0 x4 x8 h fun x9 h =>
 vif x9 (
 vindex x0 x4 h fun x14 h =>
 vbin .geq 0 x14 (.v (.c (.p (.int .u8 128)))) h fun x16 h =>
 vif x16 (
 vload true 256 x2 h fun x17 h =>
 vstore 256 x2 x17 h fun _ h =>
 vcell true 256 x2 h fun c0=>tcomp (kB false) fun c1=>vfin true q [c0,c1] h)
 (vop O (.iaddrA 256 1 (.k x2) (.k x14)) h 19 fun x19 h =>
 vstore 1 x19 (kB true) h fun _ h =>
 vbin .add 0 x4 (kI 1) h fun x11 h =>
 R 1 [x0,x2,x11] h))
 (R 2 [x2] h)
theorem e85_1(O:Oracle)(R:Jump)(q:Nat)(x0 x2 x4:TVal)(h:Heap):b85_1 O R q x0 x2 x4 h=stepF c85 O R q 1 [x0,x2,x4] h:=by kernel_rfl
def b85_2(O:Oracle)(R:Jump)(q:Nat)(x2:TVal)(h:Heap):Res1 :=
 vload true 256 x2 h fun x20 h =>
 vstore 256 x2 x20 h fun _ h =>
 vcell true 256 x2 h fun c0=>tcomp (kB true) fun c1=>vfin true q [c0,c1] h
theorem e85_2(O:Oracle)(R:Jump)(q:Nat)(x2:TVal)(h:Heap):b85_2 O R q x2 h=stepF c85 O R q 2 [x2] h:=by kernel_rfl
def d85:BlkF:=fun O R Q=>[.s fun a => .z (b85_0 O R Q a),.s fun a => .s fun b => .s fun c => .z (b85_1 O R Q a b c),.s fun a => .z (b85_2 O R Q a)]
theorem o85(O:Oracle)(R:Jump)(q:Nat):HoldsAll c85 O R q 0 (d85 O R q):=⟨e85_0 O R q,e85_1 O R q,e85_2 O R q,trivial⟩
def c86:MFunc:=mkM (compF Tryz.prog (globs2 tabs opq) (fun _=>false) true Tryz.f86) (.s .n (.s (.k (.l 1 [0,1] .n)) .n))
def b86_0(O:Oracle)(R:Jump)(q:Nat)(x0 x1:TVal)(h:Heap):Res1 :=
 R 1 [x0,x1] h
theorem e86_0(O:Oracle)(R:Jump)(q:Nat)(x0 x1:TVal)(h:Heap):b86_0 O R q x0 x1 h=stepF c86 O R q 0 [x0,x1] h:=by kernel_rfl
def b86_1(O:Oracle)(R:Jump)(q:Nat)(x0 x1:TVal)(h:Heap):Res1 :=
 vlen O 0 x0 h 6 fun x6 h =>
 vbin .gtr 0 x6 (kI 0) h fun x7 h =>
 vif x7 (
 vindex x0 (kI 0) h fun x10 h =>
 vcall O (.v (.c (.func 107 []))) [x1,x10] h 11 fun x11 h =>
 vop O (.un .not (.k x11)) h 12 fun x12 h =>
 vif x12 (
 tcomp x0 fun c0=>vfin true q [c0] h)
 (vop O (.slice 0 true (.k x0) (some (.k (kI 1))) none none) h 14 fun x14 h =>
 R 1 [x14,x1] h))
 (tcomp x0 fun c0=>vfin true q [c0] h)
theorem e86_1(O:Oracle)(R:Jump)(q:Nat)(x0 x1:TVal)(h:Heap):b86_1 O R q x0 x1 h=stepF c86 O R q 1 [x0,x1] h:=by kernel_rfl
def d86:BlkF:=fun O R Q=>[.s fun a => .s fun b => .z (b86_0 O R Q a b),.s fun a => .s fun b => .z (b86_1 O R Q a b)]
theorem o86(O:Oracle)(R:Jump)(q:Nat):HoldsAll c86 O R q 0 (d86 O R q):=⟨e86_0 O R q,e86_1 O R q,trivial⟩
def c88:MFunc:=mkM (compF Tryz.prog (globs2 tabs opq) (fun _=>false) true Tryz.f88) .n
def b88_0(O:Oracle)(R:Jump)(q:Nat)(x0:TVal)(h:Heap):Res1 :=
 vbin .lss 0 x0 (kI 10) h fun x4 h =>
 vif x4 (
 vbin .add 0 x0 (kI 1) h fun x7 h =>
 vop O (.slice 0 true (.k (kS [48,49,50,51,52,53,54,55,56,57,97,98,99,100,101,102,103,104,105,106,107,108,109,110,111,112,113,114,115,116,117,118,119,120,121,122])) (some (.k x0)) (some (.k x7)) none) h 8 fun x8 h =>
 tcomp x8 fun c0=>vfin true q [c0] h)
 (vbin .mul 0 x0 (kI 2) h fun x10 h =>
 vbin .mul 0 x0 (kI 2) h fun x12 h =>
 vbin .add 0 x12 (kI 2) h fun x13 h =>
 vop O (.slice 0 true (.k (kS z53fdd7c2)) (some (.k x10)) (some (.k x13)) none) h 14 fun x14 h =>
 tcomp x14 fun c0=>vfin true q [c0] h)
theorem e88_0(O:Oracle)(R:Jump)(q:Nat)(x0:TVal)(h:Heap):b88_0 O R q x0 h=stepF c88 O R q 0 [x0] h:=by kernel_rfl
def d88:BlkF:=fun O R Q=>[.s fun a => .z (b88_0 O R Q a)]
theorem o88(O:Oracle)(R:Jump)(q:Nat):HoldsAll c88 O R q 0 (d88 O R q):=⟨e88_0 O R q,trivial⟩
def c89:MFunc:=mkM (compF Tryz.prog (globs2 tabs opq) (fun _=>false) true Tryz.f89) .n
def b89_0(O:Oracle)(R:Jump)(q:Nat)(x0:TVal)(h:Heap):Res1 :=
 vcall O (.v (.c (.func 111 []))) [x0] h 5 fun x5 h =>
 vcall O (.v (.c (.func 110 []))) [x5] h 6 fun x6 h =>
 vop O (.iaddrA 20 1 (.k (.v (.c (.p (.pptr [(.int .u64 1),(.int .u64 10),(.int .u64 100),(.int .u64 1000),(.int .u64 10000),(.int .u64 100000),(.int .u64 1000000),(.int .u64 10000000),(.int .u64 100000000),(.int .u64 1000000000),(.int .u64 10000000000),(.int .u64 100000000000),(.int .u64 1000000000000),(.int .u64 10000000000000),(.int .u64 100000000000000),(.int .u64 1000000000000000),(.int .u64 10000000000000000),(.int .u64 100000000000000000),(.int .u64 1000000000000000000),(.int .u64 10000000000000000000)] 0))))) (.k x6)) h 10 fun x10 h =>
 vload false 1 x10 h fun x11 h =>
 vbin .geq 0 x0 x11 h fun x12 h =>
 vcall O (.v (.c (.func 112 []))) [x12] h 13 fun x13 h =>
 vbin .add 0 x6 x13 h fun x14 h =>
 tcomp x14 fun c0=>vfin true q [c0] h
theorem e89_0(O:Oracle)(R:Jump)(q:Nat)(x0:TVal)(h:Heap):b89_0 O R q x0 h=stepF c89 O R q 0 [x0] h:=by kernel_rfl
def d89:BlkF:=fun O R Q=>[.s fun a => .z (b89_0 O R Q a)]
theorem o89(O:Oracle)(R:Jump)(q:Nat):HoldsAll c89 O R q 0 (d89 O R q):=⟨e89_0 O R q,trivial⟩
def c90:MFunc:=mkM (compF Tryz.prog (globs2 tabs opq) (fun _=>false) true Tryz.f90) (.s .n (.s (.k (.l 1 [0,1,4] .n)) (.m 2 [0,1,4] (.s .n (.s .n (.m 3 [0,4,12] (.s .n (.m 4 [0,4,12] .n))))))))
def b90_0(O:Oracle)(R:Jump)(q:Nat)(x0 x1:TVal)(h:Heap):Res1 :=
 vlen O 2 x0 h 18 fun x18 h =>
 R 1 [x0,x1,x18] h
theorem e90_0(O:Oracle)(R:Jump)(q:Nat)(x0 x1:TVal)(h:Heap):b90_0 O R q x0 x1 h=stepF c90 O R q 0 [x0,x1] h:=by kernel_rfl
def b90_1(O:Oracle)(R:Jump)(q:Nat)(x0 x1 x4:TVal)(h:Heap):Res1 :=
 vbin .geq 0 x4 (kI 8) h fun x20 h =>
 vif x20 (
 vbin .rem 0 x1 (.v (.c (.p (.int .u64 100000000)))) h fun x22 h =>
 vtoInt .u32 x22 h fun x23 h =>
 vbin .quo 0 x1 (.v (.c (.p (.int .u64 100000000)))) h fun x25 h =>
 vbin .quo 0 x23 (.v (.c (.p (.int .u32 10000)))) h fun x27 h =>
 vbin .rem 0 x23 (.v (.c (.p (.int .u32 10000)))) h fun x29 h =>
 vbin .quo 0 x29 (.v (.c (.p (.int .u32 100)))) h fun x31 h =>
 vbin .mul 0 x31 (.v (.c (.p (.int .u32 2)))) h fun x32 h =>
 vbin .rem 0 x29 (.v (.c (.p (.int .u32 100)))) h fun x34 h =>
 vbin .mul 0 x34 (.v (.c (.p (.int .u32 2)))) h fun x35 h =>
 vbin .quo 0 x27 (.v (.c (.p (.int .u32 100)))) h fun x37 h =>
 vbin .mul 0 x37 (.v (.c (.p (.int .u32 2)))) h fun x38 h =>
 vbin .rem 0 x27 (.v (.c (.p (.int .u32 100)))) h fun x40 h =>
 vbin .mul 0 x40 (.v (.c (.p (.int .u32 2)))) h fun x41 h =>
 vbin .sub 0 x4 (kI 1) h fun x44 h =>
 vbin .sub 0 x4 (kI 2) h fun x47 h =>
 vbin .add 0 x35 (.v (.c (.p (.int .u32 1)))) h fun x49 h =>
 vindex (kS z53fdd7c2) x49 h fun x50 h =>
 vindex (kS z53fdd7c2) x35 h fun x52 h =>
 viaddr 1 x0 x44 h fun x53 h =>
 vstore 1 x53 x50 h fun _ h =>
 viaddr 1 x0 x47 h fun x54 h =>
 vstore 1 x54 x52 h fun _ h =>
 vbin .sub 0 x4 (kI 3) h fun x57 h =>
 vbin .sub 0 x4 (kI 4) h fun x60 h =>
 vbin .add 0 x32 (.v (.c (.p (.int .u32 1)))) h fun x62 h =>
 vindex (kS z53fdd7c2) x62 h fun x63 h =>
 vindex (kS z53fdd7c2) x32 h fun x65 h =>
 viaddr 1 x0 x57 h fun x66 h =>
 vstore 1 x66 x63 h fun _ h =>
 viaddr 1 x0 x60 h fun x67 h =>
 vstore 1 x67 x65 h fun _ h =>
 vbin .sub 0 x4 (kI 5) h fun x70 h =>
 vbin .sub 0 x4 (kI 6) h fun x73 h =>
 vbin .add 0 x41 (.v (.c (.p (.int .u32 1)))) h fun x75 h =>
 vindex (kS z53fdd7c2) x75 h fun x76 h =>
 vindex (kS z53fdd7c2) x41 h fun x78 h =>
 viaddr 1 x0 x70 h fun x79 h =>
 vstore 1 x79 x76 h fun _ h =>
 viaddr 1 x0 x73 h fun x80 h =>
 vstore 1 x80 x78 h fun _ h =>
 vbin .sub 0 x4 (kI 7) h fun x83 h =>
 vbin .sub 0 x4 (kI 8) h fun x86 h =>
 vbin .add 0 x38 (.v (.c (.p (.int .u32 1)))) h fun x88 h =>
 vindex (kS z53fdd7c2) x88 h fun x89 h =>
 vindex (kS z53fdd7c2) x38 h fun x91 h =>
 viaddr 1 x0 x83 h fun x92 h =>
 vstore 1 x92 x89 h fun _ h =>
 viaddr 1 x0 x86 h fun x93 h =>
 vstore 1 x93 x91 h fun _ h =>
 vbin .sub 0 x4 (kI 8) h fun x95 h =>
 R 1 [x0,x25,x95] h)
 (R 2 [x0,x1,x4] h)
theorem e90_1(O:Oracle)(R:Jump)(q:Nat)(x0 x1 x4:TVal)(h:Heap):b90_1 O R q x0 x1 x4 h=stepF c90 O R q 1 [x0,x1,x4] h:=by kernel_rfl
def b90_2(O:Oracle)(R:Jump)(q:Nat)(x0 x1 x4:TVal)(h:Heap):Res1 :=
 vtoInt .u32 x1 h fun x97 h =>
 vbin .geq 0 x4 (kI 4) h fun x99 h =>
 vif x99 (
 vbin .rem 0 x97 (.v (.c (.p (.int .u32 10000)))) h fun x101 h =>
 vbin .quo 0 x97 (.v (.c (.p (.int .u32 10000)))) h fun x103 h =>
 vbin .quo 0 x101 (.v (.c (.p (.int .u32 100)))) h fun x105 h =>
 vbin .mul 0 x105 (.v (.c (.p (.int .u32 2)))) h fun x106 h =>
 vbin .rem 0 x101 (.v (.c (.p (.int .u32 100)))) h fun x108 h =>
 vbin .mul 0 x108 (.v (.c (.p (.int .u32 2)))) h fun x109 h =>
 vbin .sub 0 x4 (kI 1) h fun x112 h =>
 vbin .sub 0 x4 (kI 2) h fun x115 h =>
 vbin .add 0 x109 (.v (.c (.p (.int .u32 1)))) h fun x117 h =>
 vindex (kS z53fdd7c2) x117 h fun x118 h =>
 vindex (kS z53fdd7c2) x109 h fun x120 h =>
 viaddr 1 x0 x112 h fun x121 h =>
 vstore 1 x121 x118 h fun _ h =>
 viaddr 1 x0 x115 h fun x122 h =>
 vstore 1 x122 x120 h fun _ h =>
 vbin .sub 0 x4 (kI 3) h fun x125 h =>
 vbin .sub 0 x4 (kI 4) h fun x128 h =>
 vbin .add 0 x106 (.v (.c (.p (.int .u32 1)))) h fun x130 h =>
 vindex (kS z53fdd7c2) x130 h fun x131 h =>
 vindex (kS z53fdd7c2) x106 h fun x133 h =>
 viaddr 1 x0 x125 h fun x134 h =>
 vstore 1 x134 x131 h fun _ h =>
 viaddr 1 x0 x128 h fun x135 h =>
 vstore 1 x135 x133 h fun _ h =>
 vbin .sub 0 x4 (kI 4) h fun x137 h =>
 R 3 [x0,x137,x103] h)
 (R 3 [x0,x4,x97] h)
theorem e90_2(O:Oracle)(R:Jump)(q:Nat)(x0 x1 x4:TVal)(h:Heap):b90_2 O R q x0 x1 x4 h=stepF c90 O R q 2 [x0,x1,x4] h:=by kernel_rfl
def b90_3(O:Oracle)(R:Jump)(q:Nat)(x0 x4 x12:TVal)(h:Heap):Res1 :=
 vbin .geq 0 x4 (kI 2) h fun x139 h =>
 vif x139 (
 vbin .rem 0 x12 (.v (.c (.p (.int .u32 100)))) h fun x141 h =>
 vbin .mul 0 x141 (.v (.c (.p (.int .u32 2)))) h fun x142 h =>
 vbin .quo 0 x12 (.v (.c (.p (.int .u32 100)))) h fun x144 h =>
 vbin .sub 0 x4 (kI 1) h fun x147 h =>
 vbin .sub 0 x4 (kI 2) h fun x150 h =>
 vbin .add 0 x142 (.v (.c (.p (.int .u32 1)))) h fun x152 h =>
 vindex (kS z53fdd7c2) x152 h fun x153 h =>
 vindex (kS z53fdd7c2) x142 h fun x155 h =>
 viaddr 1 x0 x147 h fun x156 h =>
 vstore 1 x156 x153 h fun _ h =>
 viaddr 1 x0 x150 h fun x157 h =>
 vstore 1 x157 x155 h fun _ h =>
 vbin .sub 0 x4 (kI 2) h fun x159 h =>
 R 4 [x0,x159,x144] h)
 (R 4 [x0,x4,x12] h)
theorem e90_3(O:Oracle)(R:Jump)(q:Nat)(x0 x4 x12:TVal)(h:Heap):b90_3 O R q x0 x4 x12 h=stepF c90 O R q 3 [x0,x4,x12] h:=by kernel_rfl
def b90_4(O:Oracle)(R:Jump)(q:Nat)(x0 x4 x12:TVal)(h:Heap):Res1 :=
 vbin .gtr 0 x4 (kI 0) h fun x161 h =>
 vif x161 (
 vbin .add 0 (.v (.c (.p (.int .u32 48)))) x12 h fun x164 h =>
 vtoInt .u8 x164 h fun x165 h =>
 viaddr 1 x0 (kI 0) h fun x166 h =>
 vstore 1 x166 x165 h fun _ h =>
 vfin true q [] h)
 (vfin true q [] h)
theorem e90_4(O:Oracle)(R:Jump)(q:Nat)(x0 x4 x12:TVal)(h:Heap):b90_4 O R q x0 x4 x12 h=stepF c90 O R q 4 [x0,x4,x12] h:=by kernel_rfl
def d90:BlkF:=fun O R Q=>[.s fun a => .s fun b => .z (b90_0 O R Q a b),.s fun a => .s fun b => .s fun c => .z (b90_1 O R Q a b c),.s fun a => .s fun b => .s fun c => .z (b90_2 O R Q a b c),.s fun a => .s fun b => .s fun c => .z (b90_3 O R Q a b c),.s fun a => .s fun b => .s fun c => .z (b90_4 O R Q a b c)]
theorem o90(O:Oracle)(R:Jump)(q:Nat):HoldsAll c90 O R q 0 (d90 O R q):=⟨e90_0 O R q,e90_1 O R q,e90_2 O R q,e90_3 O R q,e90_4 O R q,trivial⟩
def c96:MFunc:=mkM (compF Tryz.prog (globs2 tabs opq) (fun _=>false) true Tryz.f96) .n
def b96_0(O:Oracle)(R:Jump)(q:Nat)(x0:TVal)(h:Heap):Res1 :=
 vbin .lss 0 x0 (kI 0) h fun x4 h =>
 vif x4 (
 vbin .eql 0 x0 (kI (-9223372036854775808)) h fun x6 h =>
 vif x6 (
 tcomp (kS [45,57,50,50,51,51,55,50,48,51,54,56,53,52,55,55,53,56,48,56]) fun c0=>vfin true q [c0] h)
 (vbin .sub 0 (kI 0) x0 h fun x8 h =>
 vcall O (.v (.c (.func 96 []))) [x8] h 9 fun x9 h =>
 vbin .add 0 (kS [45]) x9 h fun x10 h =>
 tcomp x10 fun c0=>vfin true q [c0] h))
 (vbin .geq 0 x0 (kI 10) h fun x12 h =>
 vif x12 (
 vbin .quo 0 x0 (kI 10) h fun x14 h =>
 vcall O (.v (.c (.func 96 []))) [x14] h 15 fun x15 h =>
 vbin .rem 0 x0 (kI 10) h fun x17 h =>
 vcall O (.v (.c (.func 96 []))) [x17] h 18 fun x18 h =>
 vbin .add 0 x15 x18 h fun x19 h =>
 tcomp x19 fun c0=>vfin true q [c0] h)
 (vbin .add 0 (kI 48) x0 h fun x21 h =>
 vtoInt .u8 x21 h fun x22 h =>
 vop O (.bslice 1 1 [(.p (.int .u8 0))] [(0,(.k x22))] false) h 23 fun x23 h =>
 vop O (.toStr (.k x23)) h 24 fun x24 h =>
 tcomp x24 fun c0=>vfin true q [c0] h))
theorem e96_0(O:Oracle)(R:Jump)(q:Nat)(x0:TVal)(h:Heap):b96_0 O R q x0 h=stepF c96 O R q 0 [x0] h:=by kernel_rfl
def d96:BlkF:=fun O R Q=>[.s fun a => .z (b96_0 O R Q a)]
theorem o96(O:Oracle)(R:Jump)(q:Nat):HoldsAll c96 O R q 0 (d96 O R q):=⟨e96_0 O R q,trivial⟩
def c100:MFunc:=mkM (compF Tryz.prog (globs2 tabs opq) (fun _=>false) true Tryz.f100) .n
def b100_0(O:Oracle)(R:Jump)(q:Nat)(x0 x1:TVal)(h:Heap):Res1 :=
 vcall O (.v (.c (.func 120 []))) [x0,x1] h 7 fun x7 h =>
 vbin .geq 0 x7 (kI 0) h fun x8 h =>
 tcomp x8 fun c0=>vfin true q [c0] h
theorem e100_0(O:Oracle)(R:Jump)(q:Nat)(x0 x1:TVal)(h:Heap):b100_0 O R q x0 x1 h=stepF c100 O R q 0 [x0,x1] h:=by kernel_rfl
def d100:BlkF:=fun O R Q=>[.s fun a => .s fun b => .z (b100_0 O R Q a b)]
theorem o100(O:Oracle)(R:Jump)(q:Nat):HoldsAll c100 O R q 0 (d100 O R q):=⟨e100_0 O R q,trivial⟩
def c101:MFunc:=mkM (compF Tryz.prog (globs2 tabs opq) (fun _=>false) true Tryz.f101) .n
def b101_0(O:Oracle)(R:Jump)(q:Nat)(x0:TVal)(h:Heap):Res1 :=
 vlen O 0 x0 h 4 fun x4 h =>
 vbin .gtr 0 x4 (kI 200) h fun x5 h =>
 tcomp x5 fun c0=>vfin true q [c0] h
theorem e101_0(O:Oracle)(R:Jump)(q:Nat)(x0:TVal)(h:Heap):b101_0 O R q x0 h=stepF c101 O R q 0 [x0] h:=by kernel_rfl
def d101:BlkF:=fun O R Q=>[.s fun a => .z (b101_0 O R Q a)]
theorem o101(O:Oracle)(R:Jump)(q:Nat):HoldsAll c101 O R q 0 (d101 O R q):=⟨e101_0 O R q,trivial⟩
def c103:MFunc:=mkM (compF Tryz.prog (globs2 tabs opq) (fun _=>false) true Tryz.f103) .n
def b103_0(O:Oracle)(R:Jump)(q:Nat)(x0 x1:TVal)(h:Heap):Res1 :=
 vlen O 0 x0 h 6 fun x6 h =>
 vlen O 0 x1 h 8 fun x8 h =>
 vbin .geq 0 x6 x8 h fun x9 h =>
 vguard x9 true (fun kk=>kk x0 h) h fun x11 h =>
 vguard x9 true (fun kk=>kk x1 h) h fun x12 h =>
 vguard x9 true (fun kk=>vlen O 0 x12 h 13 kk) h fun x13 h =>
 vguard x9 true (fun kk=>vop O (.slice 0 true (.k x11) none (some (.k x13)) none) h 14 kk) h fun x14 h =>
 vguard x9 true (fun kk=>kk x1 h) h fun x15 h =>
 vguard x9 true (fun kk=>vbin .eql 0 x14 x15 h kk) h fun x16 h =>
 vop O (.pick (.k x9) (.k x16) (.k (kB false))) h 17 fun x17 h =>
 tcomp x17 fun c0=>vfin true q [c0] h
theorem e103_0(O:Oracle)(R:Jump)(q:Nat)(x0 x1:TVal)(h:Heap):b103_0 O R q x0 x1 h=stepF c103 O R q 0 [x0,x1] h:=by kernel_rfl
def d103:BlkF:=fun O R Q=>[.s fun a => .s fun b => .z (b103_0 O R Q a b)]
theorem o103(O:Oracle)(R:Jump)(q:Nat):HoldsAll c103 O R q 0 (d103 O R q):=⟨e103_0 O R q,trivial⟩
def c104:MFunc:=mkM (compF Tryz.prog (globs2 tabs opq) (fun _=>false) true Tryz.f104) .n
def b104_0(O:Oracle)(R:Jump)(q:Nat)(x0 x1:TVal)(h:Heap):Res1 :=
 vcall O (.v (.c (.func 103 []))) [x0,x1] h 7 fun x7 h =>
 vif x7 (
 vlen O 0 x1 h 10 fun x10 h =>
 vop O (.slice 0 true (.k x0) (some (.k x10)) none none) h 11 fun x11 h =>
 tcomp x11 fun c0=>vfin true q [c0] h)
 (tcomp x0 fun c0=>vfin true q [c0] h)
theorem e104_0(O:Oracle)(R:Jump)(q:Nat)(x0 x1:TVal)(h:Heap):b104_0 O R q x0 x1 h=stepF c104 O R q 0 [x0,x1] h:=by kernel_rfl
def d104:BlkF:=fun O R Q=>[.s fun a => .s fun b => .z (b104_0 O R Q a b)]
theorem o104(O:Oracle)(R:Jump)(q:Nat):HoldsAll c104 O R q 0 (d104 O R q):=⟨e104_0 O R q,trivial⟩
def c105:MFunc:=mkM (compF Tryz.prog (globs2 tabs opq) (fun _=>false) true Tryz.f105) (.s .n (.s .n (.s (.k (.l 1 [0,1,2,6,7,8] .n)) (.m 2 [0,1,2,6,7] (.s .n (.k (.l 3 [0,1,2,6] (.s .n (.k (.s .n (.s (.k (.l 4 [0,1,2,6,7,8] .n)) (.m 5 [0,1,2,6,7] (.s .n (.m 6 [0,1,2,6] .n))))))))))))))
def b105_0(O:Oracle)(R:Jump)(q:Nat)(x0 x1 x2:TVal)(h:Heap):Res1 :=
 R 1 [x0,x1,x2,(kI 20),(kI 0),(kI 20)] h
theorem e105_0(O:Oracle)(R:Jump)(q:Nat)(x0 x1 x2:TVal)(h:Heap):b105_0 O R q x0 x1 x2 h=stepF c105 O R q 0 [x0,x1,x2] h:=by kernel_rfl
def b105_1(O:Oracle)(R:Jump)(q:Nat)(x0 x1 x2 x6 x7 x8:TVal)(h:Heap):Res1 :=
 vbin .leq 0 x8 x1 h fun x13 h =>
 vif x13 (
 vcall O (.v (.c (.func 125 []))) [x0,x7,x8,x2] h 18 fun x18 h =>
 vbin .add 0 x8 x6 h fun x22 h =>
 R 1 [x0,x1,x2,x6,x8,x22] h)
 (R 2 [x0,x1,x2,x6,x7] h)
theorem e105_1(O:Oracle)(R:Jump)(q:Nat)(x0 x1 x2 x6 x7 x8:TVal)(h:Heap):b105_1 O R q x0 x1 x2 x6 x7 x8 h=stepF c105 O R q 1 [x0,x1,x2,x6,x7,x8] h:=by kernel_rfl
def b105_2(O:Oracle)(R:Jump)(q:Nat)(x0 x1 x2 x6 x7:TVal)(h:Heap):Res1 :=
 vcall O (.v (.c (.func 125 []))) [x0,x7,x1,x2] h 27 fun x27 h =>
 R 3 [x0,x1,x2,x6] h
theorem e105_2(O:Oracle)(R:Jump)(q:Nat)(x0 x1 x2 x6 x7:TVal)(h:Heap):b105_2 O R q x0 x1 x2 x6 x7 h=stepF c105 O R q 2 [x0,x1,x2,x6,x7] h:=by kernel_rfl
def b105_3(O:Oracle)(R:Jump)(q:Nat)(x0 x1 x2 x6:TVal)(h:Heap):Res1 :=
 vbin .lss 0 x6 x1 h fun x30 h =>
 vif x30 (
 vbin .mul 0 (kI 2) x6 h fun x32 h =>
 R 4 [x0,x1,x2,x6,(kI 0),x32] h)
 (vfin true q [] h)
theorem e105_3(O:Oracle)(R:Jump)(q:Nat)(x0 x1 x2 x6:TVal)(h:Heap):b105_3 O R q x0 x1 x2 x6 h=stepF c105 O R q 3 [x0,x1,x2,x6] h:=by kernel_rfl
def b105_4(O:Oracle)(R:Jump)(q:Nat)(x0 x1 x2 x6 x7 x8:TVal)(h:Heap):Res1 :=
 vbin .leq 0 x8 x1 h fun x35 h =>
 vif x35 (
 vbin .add 0 x7 x6 h fun x40 h =>
 vcall O (.v (.c (.func 126 []))) [x0,x7,x40,x8,x2] h 43 fun x43 h =>
 vbin .mul 0 (kI 2) x6 h fun x47 h =>
 vbin .add 0 x8 x47 h fun x48 h =>
 R 4 [x0,x1,x2,x6,x8,x48] h)
 (R 5 [x0,x1,x2,x6,x7] h)
theorem e105_4(O:Oracle)(R:Jump)(q:Nat)(x0 x1 x2 x6 x7 x8:TVal)(h:Heap):b105_4 O R q x0 x1 x2 x6 x7 x8 h=stepF c105 O R q 4 [x0,x1,x2,x6,x7,x8] h:=by kernel_rfl
def b105_5(O:Oracle)(R:Jump)(q:Nat)(x0 x1 x2 x6 x7:TVal)(h:Heap):Res1 :=
 vbin .add 0 x7 x6 h fun x51 h =>
 vbin .lss 0 x51 x1 h fun x54 h =>
 vif x54 (
 vcall O (.v (.c (.func 126 []))) [x0,x7,x51,x1,x2] h 60 fun x60 h =>
 R 6 [x0,x1,x2,x6] h)
 (R 6 [x0,x1,x2,x6] h)
theorem e105_5(O:Oracle)(R:Jump)(q:Nat)(x0 x1 x2 x6 x7:TVal)(h:Heap):b105_5 O R q x0 x1 x2 x6 x7 h=stepF c105 O R q 5 [x0,x1,x2,x6,x7] h:=by kernel_rfl
def b105_6(O:Oracle)(R:Jump)(q:Nat)(x0 x1 x2 x6:TVal)(h:Heap):Res1 :=
 vbin .mul 0 x6 (kI 2) h fun x62 h =>
 R 3 [x0,x1,x2,x62] h
theorem e105_6(O:Oracle)(R:Jump)(q:Nat)(x0 x1 x2 x6:TVal)(h:Heap):b105_6 O R q x0 x1 x2 x6 h=stepF c105 O R q 6 [x0,x1,x2,x6] h:=by kernel_rfl
def d105:BlkF:=fun O R Q=>[.s fun a => .s fun b => .s fun c => .z (b105_0 O R Q a b c),.s fun a => .s fun b => .s fun c => .s fun d => .s fun e => .s fun f => .z (b105_1 O R Q a b c d e f),.s fun a => .s fun b => .s fun c => .s fun d => .s fun e => .z (b105_2 O R Q a b c d e),.s fun a => .s fun b => .s fun c => .s fun d => .z (b105_3 O R Q a b c d),.s fun a => .s fun b => .s fun c => .s fun d => .s fun e => .s fun f => .z (b105_4 O R Q a b c d e f),.s fun a => .s fun b => .s fun c => .s fun d => .s fun e => .z (b105_5 O R Q a b c d e),.s fun a => .s fun b => .s fun c => .s fun d => .z (b105_6 O R Q a b c d)]
theorem o105(O:Oracle)(R:Jump)(q:Nat):HoldsAll c105 O R q 0 (d105 O R q):=⟨e105_0 O R q,e105_1 O R q,e105_2 O R q,e105_3 O R q,e105_4 O R q,e105_5 O R q,e105_6 O R q,trivial⟩
def c106:MFunc:=mkM (compF Tryz.prog (globs2 tabs opq) (fun _=>false) true Tryz.f106) .n
def b106_0(O:Oracle)(R:Jump)(q:Nat)(x0:TVal)(h:Heap):Res1 :=
 vbin .neq 0 x0 x0 h fun x5 h =>
 tcomp x5 fun c0=>vfin true q [c0] h
theorem e106_0(O:Oracle)(R:Jump)(q:Nat)(x0:TVal)(h:Heap):b106_0 O R q x0 h=stepF c106 O R q 0 [x0] h:=by kernel_rfl
def d106:BlkF:=fun O R Q=>[.s fun a => .z (b106_0 O R Q a)]
theorem o106(O:Oracle)(R:Jump)(q:Nat):HoldsAll c106 O R q 0 (d106 O R q):=⟨e106_0 O R q,trivial⟩
def c107:MFunc:=mkM (compF Tryz.prog (globs2 tabs opq) (fun _=>false) true Tryz.f107) .n
def b107_0(O:Oracle)(R:Jump)(q:Nat)(x0 x1:TVal)(h:Heap):Res1 :=
 vop O (.nilck (.k x0)) h 7 fun x7 h =>
 vop O (.iaddrA 256 1 (.k x7) (.k x1)) h 8 fun x8 h =>
 vload false 1 x8 h fun x9 h =>
 tcomp x9 fun c0=>vfin true q [c0] h
theorem e107_0(O:Oracle)(R:Jump)(q:Nat)(x0 x1:TVal)(h:Heap):b107_0 O R q x0 x1 h=stepF c107 O R q 0 [x0,x1] h:=by kernel_rfl
def d107:BlkF:=fun O R Q=>[.s fun a => .s fun b => .z (b107_0 O R Q a b)]
theorem o107(O:Oracle)(R:Jump)(q:Nat):HoldsAll c107 O R q 0 (d107 O R q):=⟨e107_0 O R q,trivial⟩
def c110:MFunc:=mkM (compF Tryz.prog (globs2 tabs opq) (fun _=>false) true Tryz.f110) .n
def b110_0(O:Oracle)(R:Jump)(q:Nat)(x0:TVal)(h:Heap):Res1 :=
 vbin .mul 0 x0 (kI 78913) h fun x4 h =>
 vbin .shr 0 x4 (.v (.c (.p (.int .u64 18)))) h fun x5 h =>
 tcomp x5 fun c0=>vfin true q [c0] h
theorem e110_0(O:Oracle)(R:Jump)(q:Nat)(x0:TVal)(h:Heap):b110_0 O R q x0 h=stepF c110 O R q 0 [x0] h:=by kernel_rfl
def d110:BlkF:=fun O R Q=>[.s fun a => .z (b110_0 O R Q a)]
theorem o110(O:Oracle)(R:Jump)(q:Nat):HoldsAll c110 O R q 0 (d110 O R q):=⟨e110_0 O R q,trivial⟩
def c111:MFunc:=mkM (compF Tryz.prog (globs2 tabs opq) (fun _=>false) true Tryz.f111) (.s .n (.s .n (.m 1 [0,2] (.s .n (.m 2 [0,2] (.s .n (.m 3 [0,2] .n)))))))
def b111_0(O:Oracle)(R:Jump)(q:Nat)(x0:TVal)(h:Heap):Res1 :=
 vbin .geq 0 x0 (.v (.c (.p (.int .u64 4294967296)))) h fun x4 h =>
 vif x4 (
 vbin .shr 0 x0 (.v (.c (.p (.int .u64 32)))) h fun x6 h =>
 R 1 [x6,(kI 32)] h)
 (R 1 [x0,(kI 0)] h)
theorem e111_0(O:Oracle)(R:Jump)(q:Nat)(x0:TVal)(h:Heap):b111_0 O R q x0 h=stepF c111 O R q 0 [x0] h:=by kernel_rfl
def b111_1(O:Oracle)(R:Jump)(q:Nat)(x0 x2:TVal)(h:Heap):Res1 :=
 vbin .geq 0 x0 (.v (.c (.p (.int .u64 65536)))) h fun x8 h =>
 vif x8 (
 vbin .shr 0 x0 (.v (.c (.p (.int .u64 16)))) h fun x10 h =>
 vbin .add 0 x2 (kI 16) h fun x12 h =>
 R 2 [x10,x12] h)
 (R 2 [x0,x2] h)
theorem e111_1(O:Oracle)(R:Jump)(q:Nat)(x0 x2:TVal)(h:Heap):b111_1 O R q x0 x2 h=stepF c111 O R q 1 [x0,x2] h:=by kernel_rfl
def b111_2(O:Oracle)(R:Jump)(q:Nat)(x0 x2:TVal)(h:Heap):Res1 :=
 vbin .geq 0 x0 (.v (.c (.p (.int .u64 256)))) h fun x14 h =>
 vif x14 (
 vbin .shr 0 x0 (.v (.c (.p (.int .u64 8)))) h fun x16 h =>
 vbin .add 0 x2 (kI 8) h fun x18 h =>
 R 3 [x16,x18] h)
 (R 3 [x0,x2] h)
theorem e111_2(O:Oracle)(R:Jump)(q:Nat)(x0 x2:TVal)(h:Heap):b111_2 O R q x0 x2 h=stepF c111 O R q 2 [x0,x2] h:=by kernel_rfl
def b111_3(O:Oracle)(R:Jump)(q:Nat)(x0 x2:TVal)(h:Heap):Res1 :=
 vtoInt .u8 x0 h fun x21 h =>
 vindex (kS z0a4518d3) x21 h fun x22 h =>
 vtoInt .i64 x22 h fun x23 h =>
 vbin .add 0 x2 x23 h fun x24 h =>
 tcomp x24 fun c0=>vfin true q [c0] h
theorem e111_3(O:Oracle)(R:Jump)(q:Nat)(x0 x2:TVal)(h:Heap):b111_3 O R q x0 x2 h=stepF c111 O R q 3 [x0,x2] h:=by kernel_rfl
def d111:BlkF:=fun O R Q=>[.s fun a => .z (b111_0 O R Q a),.s fun a => .s fun b => .z (b111_1 O R Q a b),.s fun a => .s fun b => .z (b111_2 O R Q a b),.s fun a => .s fun b => .z (b111_3 O R Q a b)]
theorem o111(O:Oracle)(R:Jump)(q:Nat):HoldsAll c111 O R q 0 (d111 O R q):=⟨e111_0 O R q,e111_1 O R q,e111_2 O R q,e111_3 O R q,trivial⟩
def c112:MFunc:=mkM (compF Tryz.prog (globs2 tabs opq) (fun _=>false) true Tryz.f112) .n
def b112_0(O:Oracle)(R:Jump)(q:Nat)(x0:TVal)(h:Heap):Res1 :=
 vif x0 (
 tcomp (kI 1) fun c0=>vfin true q [c0] h)
 (tcomp (kI 0) fun c0=>vfin true q [c0] h)
theorem e112_0(O:Oracle)(R:Jump)(q:Nat)(x0:TVal)(h:Heap):b112_0 O R q x0 h=stepF c112 O R q 0 [x0] h:=by kernel_rfl
def d112:BlkF:=fun O R Q=>[.s fun a => .z (b112_0 O R Q a)]
theorem o112(O:Oracle)(R:Jump)(q:Nat):HoldsAll c112 O R q 0 (d112 O R q):=⟨e112_0 O R q,trivial⟩
def c120:MFunc:=mkM (compF Tryz.prog (globs2 tabs opq) (fun _=>false) true Tryz.f120) (.s .n (.s (.s .n (.k (.l 1 [0,1,7,8] .n))) .n))
def b120_0(O:Oracle)(R:Jump)(q:Nat)(x0 x1:TVal)(h:Heap):Res1 :=
 vlen O 2 x0 h 7 fun x7 h =>
 R 1 [x0,x1,x7,(kI 0)] h
theorem e120_0(O:Oracle)(R:Jump)(q:Nat)(x0 x1:TVal)(h:Heap):b120_0 O R q x0 x1 h=stepF c120 O R q 0 [x0,x1] h:=by kernel_rfl
def b120_1(O:Oracle)(R:Jump)(q:Nat)(x0 x1 x7 x8:TVal)(h:Heap):Res1 :=
 vbin .lss 0 x8 x7 h fun x9 h =>
 vif x9 (
 viaddr 1 x0 x8 h fun x14 h =>
 vload false 1 x14 h fun x15 h =>
 vcall O x1 [x15] h 16 fun x16 h =>
 vif x16 (
 tcomp x8 fun c0=>vfin true q [c0] h)
 (vbin .add 0 x8 (kI 1) h fun x18 h =>
 R 1 [x0,x1,x7,x18] h))
 (tcomp (kI (-1)) fun c0=>vfin true q [c0] h)
theorem e120_1(O:Oracle)(R:Jump)(q:Nat)(x0 x1 x7 x8:TVal)(h:Heap):b120_1 O R q x0 x1 x7 x8 h=stepF c120 O R q 1 [x0,x1,x7,x8] h:=by kernel_rfl
def d120:BlkF:=fun O R Q=>[.s fun a => .s fun b => .z (b120_0 O R Q a b),.s fun a => .s fun b => .s fun c => .s fun d => .z (b120_1 O R Q a b c d)]
theorem o120(O:Oracle)(R:Jump)(q:Nat):HoldsAll c120 O R q 0 (d120 O R q):=⟨e120_0 O R q,e120_1 O R q,trivial⟩
def c125:MFunc:=mkM (compF Tryz.prog (globs2 tabs opq) (fun _=>false) true Tryz.f125) (.s .n (.k (.l 1 [0,1,2,3,8] (.s .n (.s (.k (.s .n (.k (.l 2 [0,1,2,3,8,9] .n)))) (.m 3 [0,1,2,3,8] .n))))))
def b125_0(O:Oracle)(R:Jump)(q:Nat)(x0 x1 x2 x3:TVal)(h:Heap):Res1 :=
 vbin .add 0 x1 (kI 1) h fun x11 h =>
 R 1 [x0,x1,x2,x3,x11] h
theorem e125_0(O:Oracle)(R:Jump)(q:Nat)(x0 x1 x2 x3:TVal)(h:Heap):b125_0 O R q x0 x1 x2 x3 h=stepF c125 O R q 0 [x0,x1,x2,x3] h:=by kernel_rfl
def b125_1(O:Oracle)(R:Jump)(q:Nat)(x0 x1 x2 x3 x8:TVal)(h:Heap):Res1 :=
 vbin .lss 0 x8 x2 h fun x14 h =>
 vif x14 (
 R 2 [x0,x1,x2,x3,x8,x8] h)
 (vfin true q [] h)
theorem e125_1(O:Oracle)(R:Jump)(q:Nat)(x0 x1 x2 x3 x8:TVal)(h:Heap):b125_1 O R q x0 x1 x2 x3 x8 h=stepF c125 O R q 1 [x0,x1,x2,x3,x8] h:=by kernel_rfl
def b125_2(O:Oracle)(R:Jump)(q:Nat)(x0 x1 x2 x3 x8 x9:TVal)(h:Heap):Res1 :=
 vbin .gtr 0 x9 x1 h fun x20 h =>
 vguard x20 true (fun kk=>kk x3 h) h fun x22 h =>
 vguard x20 true (fun kk=>kk x0 h) h fun x23 h =>
 vguard x20 true (fun kk=>kk x9 h) h fun x24 h =>
 vguard x20 true (fun kk=>viaddr 7 x23 x24 h kk) h fun x25 h =>
 vguard x20 true (fun kk=>vload true 7 x25 h kk) h fun x26 h =>
 vguard x20 true (fun kk=>kk x0 h) h fun x27 h =>
 vguard x20 true (fun kk=>kk x9 h) h fun x28 h =>
 vguard x20 true (fun kk=>vbin .sub 0 x28 (kI 1) h kk) h fun x29 h =>
 vguard x20 true (fun kk=>viaddr 7 x27 x29 h kk) h fun x30 h =>
 vguard x20 true (fun kk=>vload true 7 x30 h kk) h fun x31 h =>
 vguard x20 true (fun kk=>vcall O x22 [x26,x31] h 32 kk) h fun x32 h =>
 vguard x20 true (fun kk=>vbin .lss 0 x32 (kI 0) h kk) h fun x33 h =>
 vop O (.pick (.k x20) (.k x33) (.k (kB false))) h 34 fun x34 h =>
 vif x34 (
 vbin .sub 0 x9 (kI 1) h fun x41 h =>
 vbin .sub 0 x9 (kI 1) h fun x44 h =>
 viaddr 7 x0 x44 h fun x45 h =>
 vload true 7 x45 h fun x46 h =>
 viaddr 7 x0 x9 h fun x49 h =>
 vload true 7 x49 h fun x50 h =>
 viaddr 7 x0 x9 h fun x51 h =>
 vstore 7 x51 x46 h fun _ h =>
 viaddr 7 x0 x41 h fun x52 h =>
 vstore 7 x52 x50 h fun _ h =>
 vbin .sub 0 x9 (kI 1) h fun x36 h =>
 R 2 [x0,x1,x2,x3,x8,x36] h)
 (R 3 [x0,x1,x2,x3,x8] h)
theorem e125_2(O:Oracle)(R:Jump)(q:Nat)(x0 x1 x2 x3 x8 x9:TVal)(h:Heap):b125_2 O R q x0 x1 x2 x3 x8 x9 h=stepF c125 O R q 2 [x0,x1,x2,x3,x8,x9] h:=by kernel_rfl
def b125_3(O:Oracle)(R:Jump)(q:Nat)(x0 x1 x2 x3 x8:TVal)(h:Heap):Res1 :=
 vbin .add 0 x8 (kI 1) h fun x16 h =>
 R 1 [x0,x1,x2,x3,x16] h
theorem e125_3(O:Oracle)(R:Jump)(q:Nat)(x0 x1 x2 x3 x8:TVal)(h:Heap):b125_3 O R q x0 x1 x2 x3 x8 h=stepF c125 O R q 3 [x0,x1,x2,x3,x8] h:=by kernel_rfl
def d125:BlkF:=fun O R Q=>[.s fun a => .s fun b => .s fun c => .s fun d => .z (b125_0 O R Q a b c d),.s fun a => .s fun b => .s fun c => .s fun d => .s fun e => .z (b125_1 O R Q a b c d e),.s fun a => .s fun b => .s fun c => .s fun d => .s fun e => .s fun f => .z (b125_2 O R Q a b c d e f),.s fun a => .s fun b => .s fun c => .s fun d => .s fun e => .z (b125_3 O R Q a b c d e)]
theorem o125(O:Oracle)(R:Jump)(q:Nat):HoldsAll c125 O R q 0 (d125 O R q):=⟨e125_0 O R q,e125_1 O R q,e125_2 O R q,e125_3 O R q,trivial⟩
end
end Go.Proofs.YtiahgnkffnokfaaGreatDoor.Ab
