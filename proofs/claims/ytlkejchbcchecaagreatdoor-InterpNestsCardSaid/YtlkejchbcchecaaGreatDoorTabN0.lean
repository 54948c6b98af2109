/- Functions of the given program as the abstract interpreter has them (part 0),printed by a program of our own; each is shown to be what 'compF' makes of the given program's. No condition. -/
import Derived.Test.YtlkejchbcchecaaGreatDoorChecked
import Derived.Test.YtlkejchbcchecaaGreatDoorAd
namespace Go.Proofs.YtlkejchbcchecaaGreatDoor.Ab
open Go Go.AI
noncomputable section
set_option linter.all false
set_option linter.unusedVariables false
set_option maxRecDepth 100000
def z0a4518d3:List UInt8:=[0,1,2,2,3,3,3,3,4,4,4,4,4,4,4,4,5,5,5,5,5,5,5,5,5,5,5,5,5,5,5,5,6,6,6,6,6,6,6,6,6,6,6,6,6,6,6,6,6,6,6,6,6,6,6,6,6,6,6,6,6,6,6,6,7,7,7,7,7,7,7,7,7,7,7,7,7,7,7,7,7,7,7,7,7,7,7,7,7,7,7,7,7,7,7,7,7,7,7,7,7,7,7,7,7,7,7,7,7,7,7,7,7,7,7,7,7,7,7,7,7,7,7,7,7,7,7,7,8,8,8,8,8,8,8,8,8,8,8,8,8,8,8,8,8,8,8,8,8,8,8,8,8,8,8,8,8,8,8,8,8,8,8,8,8,8,8,8,8,8,8,8,8,8,8,8,8,8,8,8,8,8,8,8,8,8,8,8,8,8,8,8,8,8,8,8,8,8,8,8,8,8,8,8,8,8,8,8,8,8,8,8,8,8,8,8,8,8,8,8,8,8,8,8,8,8,8,8,8,8,8,8,8,8,8,8,8,8,8,8,8,8,8,8,8,8,8,8,8,8,8,8,8,8,8,8]
def z53fdd7c2:List UInt8:=[48,48,48,49,48,50,48,51,48,52,48,53,48,54,48,55,48,56,48,57,49,48,49,49,49,50,49,51,49,52,49,53,49,54,49,55,49,56,49,57,50,48,50,49,50,50,50,51,50,52,50,53,50,54,50,55,50,56,50,57,51,48,51,49,51,50,51,51,51,52,51,53,51,54,51,55,51,56,51,57,52,48,52,49,52,50,52,51,52,52,52,53,52,54,52,55,52,56,52,57,53,48,53,49,53,50,53,51,53,52,53,53,53,54,53,55,53,56,53,57,54,48,54,49,54,50,54,51,54,52,54,53,54,54,54,55,54,56,54,57,55,48,55,49,55,50,55,51,55,52,55,53,55,54,55,55,55,56,55,57,56,48,56,49,56,50,56,51,56,52,56,53,56,54,56,55,56,56,56,57,57,48,57,49,57,50,57,51,57,52,57,53,57,54,57,55,57,56,57,57]
def z6c995b20:List UInt8:=[32,108,101,110,32,110,111,116,32,97,110,100,32,111,114,32,101,113,32,108,116,32,97,100,100,32,115,117,98,32,109,117,108,32,115,104,108,32,115,104,114,32,105,56,32,105,49,54,32,105,51,50,32,117,56,32,117,49,54,32,117,51,50,32,99,97,116,32,116,101,120,116,32,97,116,32,103,101,116,32,104,97,115,32,111,114,101,108,115,101,32]
def zfa8d5996:List UInt8:=[123,123,36,120,32,58,61,32,49,125,125,123,123,116,101,109,112,108,97,116,101,32,34,116,34,125,125,123,123,100,101,102,105,110,101,32,34,116,34,125,125,123,123,36,120,125,125,123,123,101,110,100,125,125]
def vals0:List Int:=[0,1,28,2,29,14,24,3,30,22,20,15,25,17,4,8,31,27,13,23,21,19,16,7,26,12,18,6,11,5,10,9]
def tabs:List Tabl:=[Tabl.mk "math/bits.deBruijn32tab" 2 .u8 [0,1,28,2,29,14,24,3,30,22,20,15,25,17,4,8,31,27,13,23,21,19,16,7,26,12,18,6,11,5,10,9],Tabl.mk "math/bits.deBruijn64tab" 3 .u8 [0,1,56,2,57,49,28,3,61,58,42,50,38,29,17,4,62,47,59,36,45,43,51,22,53,39,33,30,24,18,12,5,63,55,48,27,60,41,37,16,46,35,44,21,52,32,23,11,54,26,40,15,34,20,31,10,25,14,19,9,13,8,7,6],Tabl.mk "internal/strconv.uint64pow10" 0 .u64 [1,10,100,1000,10000,100000,1000000,10000000,100000000,1000000000,10000000000,100000000000,1000000000000,10000000000000,100000000000000,1000000000000000,10000000000000000,100000000000000000,1000000000000000000,10000000000000000000]]
def opq:Option Nat:=some 1
def c4:MFunc:=mkM (compF Tryz.prog (globs2 tabs opq) (fun _=>false) true Tryz.f4) (.s .n (.s .n (.s .n (.s .n (.s .n (.s (.s .n (.k (.l 1 [0,1,5,6,7] (.s .n (.s (.k (.s .n (.s .n (.s .n (.m 2 [0,1,5,6,7] .n))))) .n))))) (.m 3 [0,1,5,6] (.s (.s .n (.k (.l 4 [1,5,6,9] .n))) (.m 5 [1,5,6] .n)))))))))
def b4_0(O:Oracle)(R:Jump)(q:Nat)(x0 x1:TVal)(h:Heap):Res1 :=
 vcall O (.v (.c (.func 5 []))) [] h 14 fun x14 h =>
 vop O (.un .not (.k x14)) h 15 fun x15 h =>
 vif x15 (
 tcomp (kB false) fun c0=>vfin true q [c0] h)
 (vcall O (.v (.c (.func 10 []))) [x0,(kI 10)] h 17 fun x17 h =>
 R 1 [x17,x1,(kS [123,123,36,120,32,58,61,32,49,125,125,123,123,116,101,109,112,108,97,116,101,32,34,116,97,34,32,46,125,125,123,123,36,120,125,125]),(kS []),(kI 0)] h)
theorem e4_0(O:Oracle)(R:Jump)(q:Nat)(x0 x1:TVal)(h:Heap):b4_0 O R q x0 x1 h=stepF c4 O R q 0 [x0,x1] h:=by kernel_rfl
def b4_1(O:Oracle)(R:Jump)(q:Nat)(x0 x1 x5 x6 x7:TVal)(h:Heap):Res1 :=
 vbin .leq 0 x7 x0 h fun x20 h =>
 vif x20 (
 vbin .add 0 (kI 97) x7 h fun x24 h =>
 vtoInt .u8 x24 h fun x25 h =>
 vop O (.bslice 1 1 [(.p (.int .u8 0))] [(0,(.k x25))] false) h 26 fun x26 h =>
 vop O (.toStr (.k x26)) h 27 fun x27 h =>
 vbin .add 0 x5 (kS [123,123,100,101,102,105,110,101,32,34,116]) h fun x29 h =>
 vbin .add 0 x29 x27 h fun x31 h =>
 vbin .add 0 x31 (kS [34,125,125]) h fun x32 h =>
 vbin .lss 0 x7 x0 h fun x35 h =>
 vif x35 (
 vbin .add 0 x32 (kS [123,123,116,101,109,112,108,97,116,101,32,34,116]) h fun x37 h =>
 vbin .add 0 (kI 98) x7 h fun x39 h =>
 vtoInt .u8 x39 h fun x40 h =>
 vop O (.bslice 1 1 [(.p (.int .u8 0))] [(0,(.k x40))] false) h 41 fun x41 h =>
 vop O (.toStr (.k x41)) h 42 fun x42 h =>
 vbin .add 0 x37 x42 h fun x43 h =>
 vbin .add 0 x43 (kS [34,32,40,97,100,100,32,46,32,49,41,125,125]) h fun x44 h =>
 R 2 [x0,x1,x44,x6,x7] h)
 (R 2 [x0,x1,x32,x6,x7] h))
 (R 3 [x0,x1,x5,x6] h)
theorem e4_1(O:Oracle)(R:Jump)(q:Nat)(x0 x1 x5 x6 x7:TVal)(h:Heap):b4_1 O R q x0 x1 x5 x6 x7 h=stepF c4 O R q 1 [x0,x1,x5,x6,x7] h:=by kernel_rfl
def b4_2(O:Oracle)(R:Jump)(q:Nat)(x0 x1 x5 x6 x7:TVal)(h:Heap):Res1 :=
 vbin .add 0 x5 (kS [123,123,36,120,32,58,61,32,46,125,125,123,123,36,120,125,125,44,123,123,101,110,100,125,125]) h fun x46 h =>
 vbin .add 0 x7 (kI 1) h fun x22 h =>
 R 1 [x0,x1,x46,x6,x22] h
theorem e4_2(O:Oracle)(R:Jump)(q:Nat)(x0 x1 x5 x6 x7:TVal)(h:Heap):b4_2 O R q x0 x1 x5 x6 x7 h=stepF c4 O R q 2 [x0,x1,x5,x6,x7] h:=by kernel_rfl
def b4_3(O:Oracle)(R:Jump)(q:Nat)(x0 x1 x5 x6:TVal)(h:Heap):Res1 :=
 R 4 [x1,x5,x6,x0] h
theorem e4_3(O:Oracle)(R:Jump)(q:Nat)(x0 x1 x5 x6:TVal)(h:Heap):b4_3 O R q x0 x1 x5 x6 h=stepF c4 O R q 3 [x0,x1,x5,x6] h:=by kernel_rfl
def b4_4(O:Oracle)(R:Jump)(q:Nat)(x1 x5 x6 x9:TVal)(h:Heap):Res1 :=
 vbin .geq 0 x9 (kI 0) h fun x49 h =>
 vif x49 (
 vbin .add 0 x1 x9 h fun x55 h =>
 vop O (.build [(.p (.int .i64 0)),(.p (.bool false)),(.p (.int .i64 0)),(.p (.str [])),(.p .nilslice),(.p .nilslice)] [(0,1,(.k (kI 2))),(2,1,(.k x55))]) h 56 fun x56 h =>
 vcall O (.v (.c (.func 11 []))) [x56] h 57 fun x57 h =>
 vbin .add 0 x6 x57 h fun x58 h =>
 vbin .add 0 x58 (kS [44]) h fun x59 h =>
 vbin .sub 0 x9 (kI 1) h fun x51 h =>
 R 4 [x1,x5,x59,x51] h)
 (R 5 [x1,x5,x6] h)
theorem e4_4(O:Oracle)(R:Jump)(q:Nat)(x1 x5 x6 x9:TVal)(h:Heap):b4_4 O R q x1 x5 x6 x9 h=stepF c4 O R q 4 [x1,x5,x6,x9] h:=by kernel_rfl
def b4_5(O:Oracle)(R:Jump)(q:Nat)(x1 x5 x6:TVal)(h:Heap):Res1 :=
 vop O (.build [(.p (.int .i64 0)),(.p (.bool false)),(.p (.int .i64 0)),(.p (.str [])),(.p .nilslice),(.p .nilslice)] [(0,1,(.k (kI 2))),(2,1,(.k x1))]) h 63 fun x63 h =>
 vcall O (.v (.c (.func 11 []))) [x63] h 64 fun x64 h =>
 vcall O (.v (.c (.func 12 []))) [x5,x64,(.v (.c (.p .nilslice)))] h 65 fun x65 h =>
 vext x65 0 h fun x66 h =>
 vext x65 1 h fun x67 h =>
 vcall O (.v (.c (.func 12 []))) [(kS zfa8d5996),(kS [49]),(.v (.c (.p .nilslice)))] h 69 fun x69 h =>
 vext x69 0 h fun x70 h =>
 vext x69 1 h fun x71 h =>
 vbin .eql 0 x67 (kI 0) h fun x73 h =>
 vguard x73 true (fun kk=>kk x66 h) h fun x75 h =>
 vguard x73 true (fun kk=>kk x6 h) h fun x76 h =>
 vguard x73 true (fun kk=>vbin .add 0 x76 (kS [49]) h kk) h fun x77 h =>
 vguard x73 true (fun kk=>vbin .eql 0 x75 x77 h kk) h fun x78 h =>
 vop O (.pick (.k x73) (.k x78) (.k (kB false))) h 79 fun x79 h =>
 vguard x79 true (fun kk=>kk x71 h) h fun x81 h =>
 vguard x79 true (fun kk=>vbin .eql 0 x81 (kI 15) h kk) h fun x82 h =>
 vop O (.pick (.k x79) (.k x82) (.k (kB false))) h 83 fun x83 h =>
 tcomp x83 fun c0=>vfin true q [c0] h
theorem e4_5(O:Oracle)(R:Jump)(q:Nat)(x1 x5 x6:TVal)(h:Heap):b4_5 O R q x1 x5 x6 h=stepF c4 O R q 5 [x1,x5,x6] h:=by kernel_rfl
def d4:BlkF:=fun O R Q=>[.s fun a => .s fun b => .z (b4_0 O R Q a b),.s fun a => .s fun b => .s fun c => .s fun d => .s fun e => .z (b4_1 O R Q a b c d e),.s fun a => .s fun b => .s fun c => .s fun d => .s fun e => .z (b4_2 O R Q a b c d e),.s fun a => .s fun b => .s fun c => .s fun d => .z (b4_3 O R Q a b c d),.s fun a => .s fun b => .s fun c => .s fun d => .z (b4_4 O R Q a b c d),.s fun a => .s fun b => .s fun c => .z (b4_5 O R Q a b c)]
theorem o4(O:Oracle)(R:Jump)(q:Nat):HoldsAll c4 O R q 0 (d4 O R q):=⟨e4_0 O R q,e4_1 O R q,e4_2 O R q,e4_3 O R q,e4_4 O R q,e4_5 O R q,trivial⟩
def c5:MFunc:=mkM (compF Tryz.prog (globs2 tabs opq) (fun _=>false) true Tryz.f5) .n
def b5_0(O:Oracle)(R:Jump)(q:Nat)(h:Heap):Res1 :=
 vcall O (.v (.c (.func 7 []))) [(kS [97,123,123,46,125,125])] h 8 fun x8 h =>
 vext x8 0 h fun x9 h =>
 vext x8 1 h fun x10 h =>
 vext x8 2 h fun x11 h =>
 vop O (.build [(.p (.int .i64 0)),(.p (.bool false)),(.p (.int .i64 0)),(.p (.str [])),(.p .nilslice),(.p .nilslice)] [(0,1,(.k (kI 2))),(2,1,(.k (kI 5)))]) h 14 fun x14 h =>
 vcall O (.v (.c (.func 9 []))) [(.v (.c (.p .nilslice)))] h 15 fun x15 h =>
 vop O (.build [(.p (.int .i64 0)),(.p (.int .i64 0)),(.p (.int .i64 0))] [(0,1,(.k (kI 9))),(1,1,(.k (kI 1))),(2,1,(.k (kI (-1))))]) h 16 fun x16 h =>
 vcall O (.v (.c (.func 8 []))) [x9,x14,x15,x16] h 17 fun x17 h =>
 vext x17 0 h fun x18 h =>
 vext x17 1 h fun x19 h =>
 vext x17 2 h fun x20 h =>
 vbin .eql 0 x11 (kI 0) h fun x22 h =>
 vguard x22 true (fun kk=>kk x20 h) h fun x24 h =>
 vguard x22 true (fun kk=>vbin .eql 0 x24 (kI 0) h kk) h fun x25 h =>
 vop O (.pick (.k x22) (.k x25) (.k (kB false))) h 26 fun x26 h =>
 vguard x26 true (fun kk=>kk x18 h) h fun x28 h =>
 vguard x26 true (fun kk=>vop O (.toStr (.k x28)) h 29 kk) h fun x29 h =>
 vguard x26 true (fun kk=>vbin .eql 0 x29 (kS [97,53]) h kk) h fun x30 h =>
 vop O (.pick (.k x26) (.k x30) (.k (kB false))) h 31 fun x31 h =>
 vguard x31 true (fun kk=>kk x19 h) h fun x33 h =>
 vguard x31 true (fun kk=>vbin .eql 0 x33 (kI 3) h kk) h fun x34 h =>
 vop O (.pick (.k x31) (.k x34) (.k (kB false))) h 35 fun x35 h =>
 tcomp x35 fun c0=>vfin true q [c0] h
theorem e5_0(O:Oracle)(R:Jump)(q:Nat)(h:Heap):b5_0 O R q  h=stepF c5 O R q 0 [] h:=by kernel_rfl
def d5:BlkF:=fun O R Q=>[.z (b5_0 O R Q )]
theorem o5(O:Oracle)(R:Jump)(q:Nat):HoldsAll c5 O R q 0 (d5 O R q):=⟨e5_0 O R q,trivial⟩
def c7:MFunc:=mkM (compF Tryz.prog (globs2 tabs opq) (fun _=>false) true Tryz.f7) (.s .n (.s .n (.s .n (.s .n (.s (.s .n (.k (.l 1 [0,5,7,8] (.s .n (.s (.k (.s .n (.s .n (.m 2 [0,5,7,8,9] .n)))) .n))))) (.m 3 [0,7] .n))))))
def b7_0(O:Oracle)(R:Jump)(q:Nat)(x0:TVal)(h:Heap):Res1 :=
 vcall O (.v (.c (.func 13 []))) [x0] h 12 fun x12 h =>
 vext x12 0 h fun x13 h =>
 vext x12 1 h fun x14 h =>
 vbin .neq 0 x14 (kI 0) h fun x16 h =>
 vif x16 (
 tcomp (.v (.c (.p .nilslice))) fun c0=>tcomp (kI 0) fun c1=>tcomp x14 fun c2=>vfin true q [c0,c1,c2] h)
 (vop O (.build [(.p .nilslice),(.p .nilslice),(.p .nilslice),(.p (.int .i64 0))] []) h 18 fun x18 h =>
 vop O (.box (.k x18) false) h 19 fun x19 h =>
 R 1 [x0,x13,x19,(kI 0)] h)
theorem e7_0(O:Oracle)(R:Jump)(q:Nat)(x0:TVal)(h:Heap):b7_0 O R q x0 h=stepF c7 O R q 0 [x0] h:=by kernel_rfl
def b7_1(O:Oracle)(R:Jump)(q:Nat)(x0 x5 x7 x8:TVal)(h:Heap):Res1 :=
 vlen O 2 x5 h 22 fun x22 h =>
 vbin .lss 0 x8 x22 h fun x23 h =>
 vif x23 (
 viaddr 3 x5 x8 h fun x28 h =>
 vfaddr 0 x28 h fun x29 h =>
 vload false 1 x29 h fun x30 h =>
 vif x30 (
 viaddr 3 x5 x8 h fun x34 h =>
 vload true 3 x34 h fun x35 h =>
 vcall O (.v (.c (.func 14 []))) [x7,x35] h 36 fun x36 h =>
 R 2 [x0,x5,x7,x8,x36] h)
 (viaddr 3 x5 x8 h fun x40 h =>
 vload true 3 x40 h fun x41 h =>
 vcall O (.v (.c (.func 15 []))) [x7,x41] h 42 fun x42 h =>
 R 2 [x0,x5,x7,x8,x42] h))
 (R 3 [x0,x7] h)
theorem e7_1(O:Oracle)(R:Jump)(q:Nat)(x0 x5 x7 x8:TVal)(h:Heap):b7_1 O R q x0 x5 x7 x8 h=stepF c7 O R q 1 [x0,x5,x7,x8] h:=by kernel_rfl
def b7_2(O:Oracle)(R:Jump)(q:Nat)(x0 x5 x7 x8 x9:TVal)(h:Heap):Res1 :=
 vbin .neq 0 x9 (kI 0) h fun x44 h =>
 vif x44 (
 viaddr 3 x5 x8 h fun x47 h =>
 vfaddr 2 x47 h fun x48 h =>
 vload false 1 x48 h fun x49 h =>
 tcomp (.v (.c (.p .nilslice))) fun c0=>tcomp x49 fun c1=>tcomp x9 fun c2=>vfin true q [c0,c1,c2] h)
 (vbin .add 0 x8 (kI 1) h fun x25 h =>
 R 1 [x0,x5,x7,x25] h)
theorem e7_2(O:Oracle)(R:Jump)(q:Nat)(x0 x5 x7 x8 x9:TVal)(h:Heap):b7_2 O R q x0 x5 x7 x8 x9 h=stepF c7 O R q 2 [x0,x5,x7,x8,x9] h:=by kernel_rfl
def b7_3(O:Oracle)(R:Jump)(q:Nat)(x0 x7:TVal)(h:Heap):Res1 :=
 vop O (.nilck (.k x7)) h 52 fun x52 h =>
 vfaddr 0 x52 h fun x53 h =>
 vload false 1 x53 h fun x54 h =>
 vlen O 2 x54 h 55 fun x55 h =>
 vbin .gtr 0 x55 (kI 0) h fun x56 h =>
 vif x56 (
 vlen O 0 x0 h 58 fun x58 h =>
 tcomp (.v (.c (.p .nilslice))) fun c0=>tcomp x58 fun c1=>tcomp (kI 12) fun c2=>vfin true q [c0,c1,c2] h)
 (vtouch O (.mv (.k x7)) h 59 fun x59 h t0 =>
 vtouch O (.nilck (.k x59)) h 60 fun x60 h t1 =>
 vtouch O (.faddr 1 (.k x60)) h 61 fun x61 h t2 =>
 vtouch O (.load false 1 (.k x61)) h 62 fun x62 h t3 =>
 vtouch O (.build [(.p (.str [])),(.p .nilslice)] [(1,1,(.k x62))]) h 63 fun x63 h t4 =>
 vtouch O (.bslice 2 1 [(.p (.str [])),(.p .nilslice)] [(0,(.k x63))] false) h 64 fun x64 h t5 =>
 vtouch O (.mv (.k x7)) h 65 fun x65 h t6 =>
 vtouch O (.nilck (.k x65)) h 66 fun x66 h t7 =>
 vtouch O (.faddr 2 (.k x66)) h 67 fun x67 h t8 =>
 vtouch O (.load false 1 (.k x67)) h 68 fun x68 h t9 =>
 vtouch O (.append 2 40 false (.k x64) (.k x68)) h 69 fun x69 h t10 =>
 vtouch O (.mv (.k x69)) h 2 fun x2 h t11 =>
 vtouch O (.mv (.k (kI 0))) h 3 fun x3 h t12 =>
 vtouch O (.mv (.k (kI 0))) h 4 fun x4 h t13 =>
 bif apartAll [t0,t1,t2,t3,t4,t5,t6,t7,t8,t9,t10,t11,t12,t13] [(5,9)] then
 tcomp x2 fun c0=>tcomp x3 fun c1=>tcomp x4 fun c2=>vfin true q [c0,c1,c2] h
 else none)
theorem e7_3(O:Oracle)(R:Jump)(q:Nat)(x0 x7:TVal)(h:Heap):b7_3 O R q x0 x7 h=stepF c7 O R q 3 [x0,x7] h:=by kernel_rfl
def d7:BlkF:=fun O R Q=>[.s fun a => .z (b7_0 O R Q a),.s fun a => .s fun b => .s fun c => .s fun d => .z (b7_1 O R Q a b c d),.s fun a => .s fun b => .s fun c => .s fun d => .s fun e => .z (b7_2 O R Q a b c d e),.s fun a => .s fun b => .z (b7_3 O R Q a b)]
theorem o7(O:Oracle)(R:Jump)(q:Nat):HoldsAll c7 O R q 0 (d7 O R q):=⟨e7_0 O R q,e7_1 O R q,e7_2 O R q,e7_3 O R q,trivial⟩
def c8:MFunc:=mkM (compF Tryz.prog (globs2 tabs opq) (fun _=>false) true Tryz.f8) (.s .n (.s .n (.s .n (.m 1 [0,5,10,11] (.s .n (.m 2 [10,11] .n))))))
def b8_0(O:Oracle)(R:Jump)(q:Nat)(x0 x1 x2 x3:TVal)(h:Heap):Res1 :=
 vop O (.box (.k x1) false) h 5 fun x5 h =>
 vop O (.box (.k x3) false) h 7 fun x7 h =>
 vtouch O (.faddr 0 (.k x7)) h 12 fun x12 h t0 =>
 vtouch O (.load false 1 (.k x12)) h 13 fun x13 h t1 =>
 vtouch O (.call (.k (.v (.c (.func 16 [])))) [(.k x13),(.k (kI 5000))]) h 14 fun x14 h t2 =>
 vtouch O (.faddr 1 (.k x7)) h 15 fun x15 h t3 =>
 vtouch O (.load false 1 (.k x15)) h 16 fun x16 h t4 =>
 vtouch O (.call (.k (.v (.c (.func 16 [])))) [(.k x16),(.k (kI 12))]) h 17 fun x17 h t5 =>
 vtouch O (.faddr 2 (.k x7)) h 18 fun x18 h t6 =>
 vtouch O (.load false 1 (.k x18)) h 19 fun x19 h t7 =>
 vtouch O (.build [(.p (.int .i64 0)),(.p (.int .i64 0)),(.p (.int .i64 0))] [(0,1,(.k x14)),(1,1,(.k x17)),(2,1,(.k x19))]) h 20 fun x20 h t8 =>
 vtouch O (.mv (.k x0)) h 21 fun x21 h t9 =>
 vtouch O (.mv (.k x2)) h 22 fun x22 h t10 =>
 vtouch O (.build [(.p (.int .i64 0)),(.p (.int .i64 0)),(.p (.int .i64 0)),(.p .nilslice),(.p .nilptr),(.p .nilslice),(.p (.int .i64 0))] [(0,3,(.k x20)),(3,1,(.k x21)),(4,1,(.k x22))]) h 23 fun x23 h t11 =>
 vtouch O (.box (.k x23) false) h 24 fun x24 h t12 =>
 vtouch O (.mv (.k x24)) h 11 fun x11 h t13 =>
 bif apartAll [t0,t1,t2,t3,t4,t5,t6,t7,t8,t9,t10,t11,t12,t13] [(2,4),(2,7),(5,7)] then
 vfaddr 2 x7 h fun x25 h =>
 vload false 1 x25 h fun x26 h =>
 vbin .lss 0 x26 (kI 0) h fun x27 h =>
 vguard x27 false (fun kk=>vfaddr 2 x7 h kk) h fun x29 h =>
 vguard x27 false (fun kk=>vload false 1 x29 h kk) h fun x30 h =>
 vguard x27 false (fun kk=>vbin .gtr 0 x30 (kI 65536) h kk) h fun x31 h =>
 vop O (.pick (.k x27) (.k (kB true)) (.k x31)) h 32 fun x32 h =>
 vif x32 (
 vop O (.nilck (.k x11)) h 34 fun x34 h =>
 vfaddr 0 x34 h fun x35 h =>
 vfaddr 2 x35 h fun x36 h =>
 vstore 1 x36 (kI 65536) h fun _ h =>
 R 1 [x0,x5,(kI 0),x11] h)
 (R 1 [x0,x5,(kI 0),x11] h)
 else none
theorem e8_0(O:Oracle)(R:Jump)(q:Nat)(x0 x1 x2 x3:TVal)(h:Heap):b8_0 O R q x0 x1 x2 x3 h=stepF c8 O R q 0 [x0,x1,x2,x3] h:=by kernel_rfl
def b8_1(O:Oracle)(R:Jump)(q:Nat)(x0 x5 x10 x11:TVal)(h:Heap):Res1 :=
 vlen O 2 x0 h 38 fun x38 h =>
 vbin .gtr 0 x38 (kI 0) h fun x39 h =>
 vif x39 (
 vtouch O (.mv (.k x11)) h 40 fun x40 h t0 =>
 vtouch O (.load true 6 (.k x5)) h 41 fun x41 h t1 =>
 vtouch O (.call (.k (.v (.c (.func 18 [])))) [(.k x41)]) h 42 fun x42 h t2 =>
 vtouch O (.build [(.p (.int .i64 0)),(.p (.bool false)),(.p (.int .i64 0)),(.p (.str [])),(.p .nilslice),(.p .nilslice),(.p .nilslice),(.p (.int .i64 0))] [(0,6,(.k x42))]) h 43 fun x43 h t3 =>
 vtouch O (.mv (.k x0)) h 44 fun x44 h t4 =>
 vtouch O (.iaddr 2 (.k x44) (.k (kI 0))) h 45 fun x45 h t5 =>
 vtouch O (.faddr 1 (.k x45)) h 46 fun x46 h t6 =>
 vtouch O (.load false 1 (.k x46)) h 47 fun x47 h t7 =>
 vtouch O (.call (.k (.v (.c (.func 17 [])))) [(.k x40),(.k x43),(.k x47)]) h 48 fun x48 h t8 =>
 vtouch O (.mv (.k x48)) h 10 fun x10_1 h t9 =>
 bif apartAll [t0,t1,t2,t3,t4,t5,t6,t7,t8,t9] [(2,7)] then
 R 2 [x10_1,x11] h
 else none)
 (R 2 [x10,x11] h)
theorem e8_1(O:Oracle)(R:Jump)(q:Nat)(x0 x5 x10 x11:TVal)(h:Heap):b8_1 O R q x0 x5 x10 x11 h=stepF c8 O R q 1 [x0,x5,x10,x11] h:=by kernel_rfl
def b8_2(O:Oracle)(R:Jump)(q:Nat)(x10 x11:TVal)(h:Heap):Res1 :=
 vop O (.nilck (.k x11)) h 50 fun x50 h =>
 vfaddr 5 x50 h fun x51 h =>
 vload false 1 x51 h fun x52 h =>
 vop O (.nilck (.k x11)) h 54 fun x54 h =>
 vfaddr 6 x54 h fun x55 h =>
 vload false 1 x55 h fun x56 h =>
 tcomp x52 fun c0=>tcomp x56 fun c1=>tcomp x10 fun c2=>vfin true q [c0,c1,c2] h
theorem e8_2(O:Oracle)(R:Jump)(q:Nat)(x10 x11:TVal)(h:Heap):b8_2 O R q x10 x11 h=stepF c8 O R q 2 [x10,x11] h:=by kernel_rfl
def d8:BlkF:=fun O R Q=>[.s fun a => .s fun b => .s fun c => .s fun d => .z (b8_0 O R Q a b c d),.s fun a => .s fun b => .s fun c => .s fun d => .z (b8_1 O R Q a b c d),.s fun a => .s fun b => .z (b8_2 O R Q a b)]
theorem o8(O:Oracle)(R:Jump)(q:Nat):HoldsAll c8 O R q 0 (d8 O R q):=⟨e8_0 O R q,e8_1 O R q,e8_2 O R q,trivial⟩
def c9:MFunc:=mkM (compF Tryz.prog (globs2 tabs opq) (fun _=>false) false Tryz.f9) (.s .n (.s .n (.s (.s .n (.k (.l 1 [3,14,15,16] (.s .n (.s .n (.s (.k (.s .n (.s .n (.s .n (.s (.s .n (.k (.l 2 [3,5,14,15,16,36,37,38] .n))) (.m 3 [3,5,14,15,16] .n)))))) (.m 4 [3,14,15,16] .n))))))) .n)))
def b9_0(O:Oracle)(R:Jump)(q:Nat)(x0:TVal)(h:Heap):Res1 :=
 vop O .mkmap h 10 fun x10 h =>
 vop O .mkmap h 11 fun x11 h =>
 vop O (.build [(.p .nilmap),(.p .nilmap)] [(0,1,(.k x10)),(1,1,(.k x11))]) h 12 fun x12 h =>
 vop O (.box (.k x12) false) h 13 fun x13 h =>
 vlen O 2 x0 h 15 fun x15 h =>
 R 1 [x13,x0,x15,(kI 0)] h
theorem e9_0(O:Oracle)(R:Jump)(q:Nat)(x0:TVal)(h:Heap):b9_0 O R q x0 h=stepF c9 O R q 0 [x0] h:=by kernel_rfl
def b9_1(O:Oracle)(R:Jump)(q:Nat)(x3 x14 x15 x16:TVal)(h:Heap):Res1 :=
 vbin .lss 0 x16 x15 h fun x17 h =>
 vif x17 (
 viaddr 3 x14 x16 h fun x18 h =>
 vload true 3 x18 h fun x19 h =>
 vop O (.alloc [(.p (.str [])),(.p .nilslice),(.p (.int .i64 0))] false) h 5 fun x5 h =>
 vstore 3 x5 x19 h fun _ h =>
 vtouch O (.mv (.k x3)) h 21 fun x21 h t0 =>
 vtouch O (.nilck (.k x21)) h 22 fun x22 h t1 =>
 vtouch O (.faddr 0 (.k x22)) h 23 fun x23 h t2 =>
 vtouch O (.load false 1 (.k x23)) h 24 fun x24 h t3 =>
 vtouch O (.faddr 0 (.k x5)) h 25 fun x25 h t4 =>
 vtouch O (.load false 1 (.k x25)) h 26 fun x26 h t5 =>
 vtouch O (.lookup 2 (.agg [(.p (.str [])),(.p .nilslice),(.p (.int .i64 0))]) (.k x24) (.k x26) true) h 27 fun x27 h t6 =>
 vtouch O (.mv (.k x27)) h 20 fun x20 h t7 =>
 vtouch O (.extract (.k x20) 0) h 28 fun x28 h t8 =>
 vtouch O (.extract (.k x20) 1) h 29 fun x29 h t9 =>
 vtouch O (.alloc [(.p (.str [])),(.p .nilslice),(.p (.int .i64 0))] false) h 6 fun x6 h t10 =>
 vtouch O (.store 3 (.k x6) (.k x28)) h 1000000 fun _ h t11 =>
 vtouch O (.mv (.k x29)) h 7 fun x7 h t12 =>
 bif apartAll [t0,t1,t2,t3,t4,t5,t6,t7,t8,t9,t10,t11,t12] [(3,10),(5,10),(6,10)] then
 vif x7 (
 R 4 [x3,x14,x15,x16] h)
 (vfaddr 1 x5 h fun x31 h =>
 vload false 1 x31 h fun x32 h =>
 vcall O (.v (.c (.func 19 []))) [x32] h 33 fun x33 h =>
 vfaddr 1 x5 h fun x34 h =>
 vstore 1 x34 x33 h fun _ h =>
 vfaddr 1 x5 h fun x35 h =>
 vload false 1 x35 h fun x36 h =>
 vlen O 2 x36 h 37 fun x37 h =>
 R 2 [x3,x5,x14,x15,x16,x36,x37,(kI 0)] h)
 else none)
 (tcomp x3 fun c0=>vfin false q [c0] h)
theorem e9_1(O:Oracle)(R:Jump)(q:Nat)(x3 x14 x15 x16:TVal)(h:Heap):b9_1 O R q x3 x14 x15 x16 h=stepF c9 O R q 1 [x3,x14,x15,x16] h:=by kernel_rfl
def b9_2(O:Oracle)(R:Jump)(q:Nat)(x3 x5 x14 x15 x16 x36 x37 x38:TVal)(h:Heap):Res1 :=
 vbin .lss 0 x38 x37 h fun x39 h =>
 vif x39 (
 viaddr 6 x36 x38 h fun x41 h =>
 vload true 6 x41 h fun x42 h =>
 vop O (.alloc [(.p (.int .i64 0)),(.p (.bool false)),(.p (.int .i64 0)),(.p (.str [])),(.p .nilslice),(.p .nilslice)] false) h 9 fun x9 h =>
 vstore 6 x9 x42 h fun _ h =>
 vtouch O (.faddr 1 (.k x5)) h 43 fun x43 h t0 =>
 vtouch O (.load false 1 (.k x43)) h 44 fun x44 h t1 =>
 vtouch O (.mv (.k x38)) h 45 fun x45 h t2 =>
 vtouch O (.load true 6 (.k x9)) h 46 fun x46 h t3 =>
 vtouch O (.call (.k (.v (.c (.func 20 [])))) [(.k x46)]) h 47 fun x47 h t4 =>
 vtouch O (.iaddr 6 (.k x44) (.k x45)) h 48 fun x48 h t5 =>
 vtouch O (.store 6 (.k x48) (.k x47)) h 1000000 fun _ h t6 =>
 bif apartAll [t0,t1,t2,t3,t4,t5,t6] [(1,4)] then
 vbin .add 0 x38 (kI 1) h fun x49 h =>
 R 2 [x3,x5,x14,x15,x16,x36,x37,x49] h
 else none)
 (R 3 [x3,x5,x14,x15,x16] h)
theorem e9_2(O:Oracle)(R:Jump)(q:Nat)(x3 x5 x14 x15 x16 x36 x37 x38:TVal)(h:Heap):b9_2 O R q x3 x5 x14 x15 x16 x36 x37 x38 h=stepF c9 O R q 2 [x3,x5,x14,x15,x16,x36,x37,x38] h:=by kernel_rfl
def b9_3(O:Oracle)(R:Jump)(q:Nat)(x3 x5 x14 x15 x16:TVal)(h:Heap):Res1 :=
 vop O (.nilck (.k x3)) h 51 fun x51 h =>
 vfaddr 0 x51 h fun x52 h =>
 vload false 1 x52 h fun x53 h =>
 vfaddr 0 x5 h fun x54 h =>
 vload false 1 x54 h fun x55 h =>
 vload true 3 x5 h fun x56 h =>
 vop O (.mapup 2 (.k x53) (.k x55) (.k x56)) h 1000000 fun _ h =>
 R 4 [x3,x14,x15,x16] h
theorem e9_3(O:Oracle)(R:Jump)(q:Nat)(x3 x5 x14 x15 x16:TVal)(h:Heap):b9_3 O R q x3 x5 x14 x15 x16 h=stepF c9 O R q 3 [x3,x5,x14,x15,x16] h:=by kernel_rfl
def b9_4(O:Oracle)(R:Jump)(q:Nat)(x3 x14 x15 x16:TVal)(h:Heap):Res1 :=
 vbin .add 0 x16 (kI 1) h fun x57 h =>
 R 1 [x3,x14,x15,x57] h
theorem e9_4(O:Oracle)(R:Jump)(q:Nat)(x3 x14 x15 x16:TVal)(h:Heap):b9_4 O R q x3 x14 x15 x16 h=stepF c9 O R q 4 [x3,x14,x15,x16] h:=by kernel_rfl
def d9:BlkF:=fun O R Q=>[.s fun a => .z (b9_0 O R Q a),.s fun a => .s fun b => .s fun c => .s fun d => .z (b9_1 O R Q a b c d),.s fun a => .s fun b => .s fun c => .s fun d => .s fun e => .s fun f => .s fun g => .s fun h => .z (b9_2 O R Q a b c d e f g h),.s fun a => .s fun b => .s fun c => .s fun d => .s fun e => .z (b9_3 O R Q a b c d e),.s fun a => .s fun b => .s fun c => .s fun d => .z (b9_4 O R Q a b c d)]
theorem o9(O:Oracle)(R:Jump)(q:Nat):HoldsAll c9 O R q 0 (d9 O R q):=⟨e9_0 O R q,e9_1 O R q,e9_2 O R q,e9_3 O R q,e9_4 O R q,trivial⟩
def c10:MFunc:=mkM (compF Tryz.prog (globs2 tabs opq) (fun _=>false) true Tryz.f10) .n
def b10_0(O:Oracle)(R:Jump)(q:Nat)(x0 x1:TVal)(h:Heap):Res1 :=
 vbin .rem 0 x0 x1 h fun x8 h =>
 vbin .lss 0 x8 (kI 0) h fun x10 h =>
 vif x10 (
 vbin .add 0 x8 x1 h fun x13 h =>
 tcomp x13 fun c0=>vfin true q [c0] h)
 (tcomp x8 fun c0=>vfin true q [c0] h)
theorem e10_0(O:Oracle)(R:Jump)(q:Nat)(x0 x1:TVal)(h:Heap):b10_0 O R q x0 x1 h=stepF c10 O R q 0 [x0,x1] h:=by kernel_rfl
def d10:BlkF:=fun O R Q=>[.s fun a => .s fun b => .z (b10_0 O R Q a b)]
theorem o10(O:Oracle)(R:Jump)(q:Nat):HoldsAll c10 O R q 0 (d10 O R q):=⟨e10_0 O R q,trivial⟩
def c11:MFunc:=mkM (compF Tryz.prog (globs2 tabs opq) (fun _=>false) true Tryz.f11) (.s .n (.s (.s .n (.k (.s .n (.s .n (.s .n (.s .n (.s .n (.s .n (.s .n (.s .n (.s .n (.s (.s .n (.s (.s .n (.k (.l 1 [1,3,4] (.s .n (.s (.k (.s .n (.m 2 [1,3,4] .n))) .n))))) (.m 3 [3] .n))) .n)))))))))))) (.m 4 [1] (.s .n (.s (.s .n (.k (.l 5 [1,5,6] (.s .n (.s (.k (.s .n (.m 6 [1,5,6] .n))) .n))))) (.m 7 [5] .n))))))
def b11_0(O:Oracle)(R:Jump)(q:Nat)(x0:TVal)(h:Heap):Res1 :=
 vop O (.box (.k x0) false) h 1 fun x1 h =>
 vfaddr 0 x1 h fun x7 h =>
 vload false 1 x7 h fun x8 h =>
 vbin .eql 0 x8 (kI 0) h fun x10 h =>
 vif x10 (
 tcomp (kS [110,117,108,108]) fun c0=>vfin true q [c0] h)
 (vbin .eql 0 x8 (kI 1) h fun x12 h =>
 vif x12 (
 vfaddr 1 x1 h fun x13 h =>
 vload false 1 x13 h fun x14 h =>
 vif x14 (
 tcomp (kS [116,114,117,101]) fun c0=>vfin true q [c0] h)
 (tcomp (kS [102,97,108,115,101]) fun c0=>vfin true q [c0] h))
 (vbin .eql 0 x8 (kI 2) h fun x16 h =>
 vif x16 (
 vfaddr 2 x1 h fun x17 h =>
 vload false 1 x17 h fun x18 h =>
 vop O (.build [(.p (.int .i64 0)),(.p (.str [])),(.p .nilslice),(.p (.str [])),(.p (.int .i64 0)),(.p (.bool false)),(.p .nilslice)] [(0,1,(.k (kI 3))),(4,1,(.k x18))]) h 19 fun x19 h =>
 vop O (.bslice 7 1 [(.p (.int .i64 0)),(.p (.str [])),(.p .nilslice),(.p (.str [])),(.p (.int .i64 0)),(.p (.bool false)),(.p .nilslice)] [(0,(.k x19))] false) h 20 fun x20 h =>
 vop O (.build [(.p .nilslice)] [(0,1,(.k x20))]) h 21 fun x21 h =>
 vop O (.bslice 1 1 [(.p .nilslice)] [(0,(.k x21))] false) h 22 fun x22 h =>
 vcall O (.v (.c (.func 21 []))) [x22] h 23 fun x23 h =>
 tcomp x23 fun c0=>vfin true q [c0] h)
 (vbin .eql 0 x8 (kI 3) h fun x25 h =>
 vif x25 (
 vfaddr 3 x1 h fun x26 h =>
 vload false 1 x26 h fun x27 h =>
 vcall O (.v (.c (.func 22 []))) [x27] h 28 fun x28 h =>
 tcomp x28 fun c0=>vfin true q [c0] h)
 (vbin .eql 0 x8 (kI 4) h fun x30 h =>
 vif x30 (
 R 1 [x1,(kS [91]),(kI 0)] h)
 (R 4 [x1] h)))))
theorem e11_0(O:Oracle)(R:Jump)(q:Nat)(x0:TVal)(h:Heap):b11_0 O R q x0 h=stepF c11 O R q 0 [x0] h:=by kernel_rfl
def b11_1(O:Oracle)(R:Jump)(q:Nat)(x1 x3 x4:TVal)(h:Heap):Res1 :=
 vfaddr 5 x1 h fun x32 h =>
 vload false 1 x32 h fun x33 h =>
 vlen O 2 x33 h 34 fun x34 h =>
 vbin .lss 0 x4 x34 h fun x35 h =>
 vif x35 (
 vbin .gtr 0 x4 (kI 0) h fun x39 h =>
 vif x39 (
 vbin .add 0 x3 (kS [44]) h fun x41 h =>
 R 2 [x1,x41,x4] h)
 (R 2 [x1,x3,x4] h))
 (R 3 [x3] h)
theorem e11_1(O:Oracle)(R:Jump)(q:Nat)(x1 x3 x4:TVal)(h:Heap):b11_1 O R q x1 x3 x4 h=stepF c11 O R q 1 [x1,x3,x4] h:=by kernel_rfl
def b11_2(O:Oracle)(R:Jump)(q:Nat)(x1 x3 x4:TVal)(h:Heap):Res1 :=
 vfaddr 5 x1 h fun x43 h =>
 vload false 1 x43 h fun x44 h =>
 viaddr 6 x44 x4 h fun x46 h =>
 vload true 6 x46 h fun x47 h =>
 vcall O (.v (.c (.func 11 []))) [x47] h 48 fun x48 h =>
 vbin .add 0 x3 x48 h fun x49 h =>
 vbin .add 0 x4 (kI 1) h fun x37 h =>
 R 1 [x1,x49,x37] h
theorem e11_2(O:Oracle)(R:Jump)(q:Nat)(x1 x3 x4:TVal)(h:Heap):b11_2 O R q x1 x3 x4 h=stepF c11 O R q 2 [x1,x3,x4] h:=by kernel_rfl
def b11_3(O:Oracle)(R:Jump)(q:Nat)(x3:TVal)(h:Heap):Res1 :=
 vbin .add 0 x3 (kS [93]) h fun x51 h =>
 tcomp x51 fun c0=>vfin true q [c0] h
theorem e11_3(O:Oracle)(R:Jump)(q:Nat)(x3:TVal)(h:Heap):b11_3 O R q x3 h=stepF c11 O R q 3 [x3] h:=by kernel_rfl
def b11_4(O:Oracle)(R:Jump)(q:Nat)(x1:TVal)(h:Heap):Res1 :=
 R 5 [x1,(kS [123]),(kI 0)] h
theorem e11_4(O:Oracle)(R:Jump)(q:Nat)(x1:TVal)(h:Heap):b11_4 O R q x1 h=stepF c11 O R q 4 [x1] h:=by kernel_rfl
def b11_5(O:Oracle)(R:Jump)(q:Nat)(x1 x5 x6:TVal)(h:Heap):Res1 :=
 vfaddr 5 x1 h fun x53 h =>
 vload false 1 x53 h fun x54 h =>
 vlen O 2 x54 h 55 fun x55 h =>
 vbin .lss 0 x6 x55 h fun x56 h =>
 vif x56 (
 vbin .gtr 0 x6 (kI 0) h fun x60 h =>
 vif x60 (
 vbin .add 0 x5 (kS [44]) h fun x62 h =>
 R 6 [x1,x62,x6] h)
 (R 6 [x1,x5,x6] h))
 (R 7 [x5] h)
theorem e11_5(O:Oracle)(R:Jump)(q:Nat)(x1 x5 x6:TVal)(h:Heap):b11_5 O R q x1 x5 x6 h=stepF c11 O R q 5 [x1,x5,x6] h:=by kernel_rfl
def b11_6(O:Oracle)(R:Jump)(q:Nat)(x1 x5 x6:TVal)(h:Heap):Res1 :=
 vtouch O (.mv (.k x5)) h 63 fun x63 h t0 =>
 vtouch O (.faddr 4 (.k x1)) h 64 fun x64 h t1 =>
 vtouch O (.load false 1 (.k x64)) h 65 fun x65 h t2 =>
 vtouch O (.mv (.k x6)) h 66 fun x66 h t3 =>
 vtouch O (.iaddr 1 (.k x65) (.k x66)) h 67 fun x67 h t4 =>
 vtouch O (.load false 1 (.k x67)) h 68 fun x68 h t5 =>
 vtouch O (.call (.k (.v (.c (.func 22 [])))) [(.k x68)]) h 69 fun x69 h t6 =>
 vtouch O (.bin .add 0 (.k x63) (.k x69)) h 70 fun x70 h t7 =>
 vtouch O (.bin .add 0 (.k x70) (.k (kS [58]))) h 71 fun x71 h t8 =>
 vtouch O (.faddr 5 (.k x1)) h 72 fun x72 h t9 =>
 vtouch O (.load false 1 (.k x72)) h 73 fun x73 h t10 =>
 vtouch O (.mv (.k x6)) h 74 fun x74 h t11 =>
 vtouch O (.iaddr 6 (.k x73) (.k x74)) h 75 fun x75 h t12 =>
 vtouch O (.load true 6 (.k x75)) h 76 fun x76 h t13 =>
 vtouch O (.call (.k (.v (.c (.func 11 [])))) [(.k x76)]) h 77 fun x77 h t14 =>
 vtouch O (.bin .add 0 (.k x71) (.k x77)) h 78 fun x78 h t15 =>
 vtouch O (.mv (.k x78)) h 5 fun x5_1 h t16 =>
 bif apartAll [t0,t1,t2,t3,t4,t5,t6,t7,t8,t9,t10,t11,t12,t13,t14,t15,t16] [(6,10),(6,13)] then
 vbin .add 0 x6 (kI 1) h fun x58 h =>
 R 5 [x1,x5_1,x58] h
 else none
theorem e11_6(O:Oracle)(R:Jump)(q:Nat)(x1 x5 x6:TVal)(h:Heap):b11_6 O R q x1 x5 x6 h=stepF c11 O R q 6 [x1,x5,x6] h:=by kernel_rfl
def b11_7(O:Oracle)(R:Jump)(q:Nat)(x5:TVal)(h:Heap):Res1 :=
 vbin .add 0 x5 (kS [125]) h fun x80 h =>
 tcomp x80 fun c0=>vfin true q [c0] h
theorem e11_7(O:Oracle)(R:Jump)(q:Nat)(x5:TVal)(h:Heap):b11_7 O R q x5 h=stepF c11 O R q 7 [x5] h:=by kernel_rfl
def d11:BlkF:=fun O R Q=>[.s fun a => .z (b11_0 O R Q a),.s fun a => .s fun b => .s fun c => .z (b11_1 O R Q a b c),.s fun a => .s fun b => .s fun c => .z (b11_2 O R Q a b c),.s fun a => .z (b11_3 O R Q a),.s fun a => .z (b11_4 O R Q a),.s fun a => .s fun b => .s fun c => .z (b11_5 O R Q a b c),.s fun a => .s fun b => .s fun c => .z (b11_6 O R Q a b c),.s fun a => .z (b11_7 O R Q a)]
theorem o11(O:Oracle)(R:Jump)(q:Nat):HoldsAll c11 O R q 0 (d11 O R q):=⟨e11_0 O R q,e11_1 O R q,e11_2 O R q,e11_3 O R q,e11_4 O R q,e11_5 O R q,e11_6 O R q,e11_7 O R q,trivial⟩
def c12:MFunc:=mkM (compF Tryz.prog (globs2 tabs opq) (fun _=>false) true Tryz.f12) .n
def b12_0(O:Oracle)(R:Jump)(q:Nat)(x0 x1 x2:TVal)(h:Heap):Res1 :=
 vcall O (.v (.c (.func 7 []))) [x0] h 18 fun x18 h =>
 vext x18 0 h fun x19 h =>
 vext x18 1 h fun x20 h =>
 vext x18 2 h fun x21 h =>
 vcall O (.v (.c (.func 23 []))) [x1] h 24 fun x24 h =>
 vext x24 0 h fun x25 h =>
 vext x24 1 h fun x26 h =>
 vop O (.alloc [(.p (.int .i64 0)),(.p (.bool false)),(.p (.int .i64 0)),(.p (.str [])),(.p .nilslice),(.p .nilslice)] false) h 11 fun x11 h =>
 vstore 6 x11 x25 h fun _ h =>
 vbin .neq 0 x21 (kI 0) h fun x28 h =>
 vguard x28 false (fun kk=>kk x26 h) h fun x30 h =>
 vguard x28 false (fun kk=>vbin .neq 0 x30 (kI 0) h kk) h fun x31 h =>
 vop O (.pick (.k x28) (.k (kB true)) (.k x31)) h 32 fun x32 h =>
 vif x32 (
 tcomp (kS [33]) fun c0=>tcomp (kI 1) fun c1=>vfin true q [c0,c1] h)
 (vtouch O (.mv (.k x19)) h 34 fun x34 h t0 =>
 vtouch O (.load true 6 (.k x11)) h 35 fun x35 h t1 =>
 vtouch O (.mv (.k x2)) h 36 fun x36 h t2 =>
 vtouch O (.call (.k (.v (.c (.func 9 [])))) [(.k x36)]) h 37 fun x37 h t3 =>
 vtouch O (.build [(.p (.int .i64 0)),(.p (.int .i64 0)),(.p (.int .i64 0))] [(0,1,(.k (kI 5000))),(1,1,(.k (kI 12))),(2,1,(.k (kI (-1))))]) h 38 fun x38 h t4 =>
 vtouch O (.call (.k (.v (.c (.func 8 [])))) [(.k x34),(.k x35),(.k x37),(.k x38)]) h 39 fun x39 h t5 =>
 vtouch O (.mv (.k x39)) h 33 fun x33 h t6 =>
 vtouch O (.extract (.k x33) 0) h 40 fun x40 h t7 =>
 vtouch O (.extract (.k x33) 1) h 41 fun x41 h t8 =>
 vtouch O (.extract (.k x33) 2) h 42 fun x42 h t9 =>
 vtouch O (.mv (.k x40)) h 13 fun x13 h t10 =>
 vtouch O (.mv (.k x41)) h 14 fun x14 h t11 =>
 vtouch O (.mv (.k x42)) h 15 fun x15 h t12 =>
 bif apartAll [t0,t1,t2,t3,t4,t5,t6,t7,t8,t9,t10,t11,t12] [(1,3)] then
 vop O (.toStr (.k x13)) h 44 fun x44 h =>
 tcomp x44 fun c0=>tcomp x15 fun c1=>vfin true q [c0,c1] h
 else none)
theorem e12_0(O:Oracle)(R:Jump)(q:Nat)(x0 x1 x2:TVal)(h:Heap):b12_0 O R q x0 x1 x2 h=stepF c12 O R q 0 [x0,x1,x2] h:=by kernel_rfl
def d12:BlkF:=fun O R Q=>[.s fun a => .s fun b => .s fun c => .z (b12_0 O R Q a b c)]
theorem o12(O:Oracle)(R:Jump)(q:Nat):HoldsAll c12 O R q 0 (d12 O R q):=⟨e12_0 O R q,trivial⟩
def c13:MFunc:=mkM (compF Tryz.prog (globs2 tabs opq) (fun _=>false) true Tryz.f13) (.s .n (.s .n (.s .n (.s .n (.s (.k (.l 1 [0,4,5,6] (.s .n (.k (.s .n (.s .n (.m 2 [0,4,5] .n))))))) (.m 3 [0,4,6] (.s .n (.m 4 [4] .n))))))))
def b13_0(O:Oracle)(R:Jump)(q:Nat)(x0:TVal)(h:Heap):Res1 :=
 vlen O 0 x0 h 9 fun x9 h =>
 vbin .gtr 0 x9 (kI 1500) h fun x10 h =>
 vif x10 (
 tcomp (.v (.c (.p .nilslice))) fun c0=>tcomp (kI 4) fun c1=>vfin true q [c0,c1] h)
 (R 1 [x0,(.v (.c (.p .nilslice))),(kI 0),(kI 0)] h)
theorem e13_0(O:Oracle)(R:Jump)(q:Nat)(x0:TVal)(h:Heap):b13_0 O R q x0 h=stepF c13 O R q 0 [x0] h:=by kernel_rfl
def b13_1(O:Oracle)(R:Jump)(q:Nat)(x0 x4 x5 x6:TVal)(h:Heap):Res1 :=
 vlen O 0 x0 h 13 fun x13 h =>
 vbin .lss 0 x5 x13 h fun x14 h =>
 vif x14 (
 vbin .add 0 x5 (kI 1) h fun x16 h =>
 vlen O 0 x0 h 18 fun x18 h =>
 vbin .geq 0 x16 x18 h fun x19 h =>
 vguard x19 false (fun kk=>kk x0 h) h fun x21 h =>
 vguard x19 false (fun kk=>kk x5 h) h fun x22 h =>
 vguard x19 false (fun kk=>vindex x21 x22 h kk) h fun x23 h =>
 vguard x19 false (fun kk=>vbin .neq 0 x23 (.v (.c (.p (.int .u8 123)))) h kk) h fun x24 h =>
 vop O (.pick (.k x19) (.k (kB true)) (.k x24)) h 25 fun x25 h =>
 vguard x25 false (fun kk=>kk x0 h) h fun x27 h =>
 vguard x25 false (fun kk=>kk x5 h) h fun x28 h =>
 vguard x25 false (fun kk=>vbin .add 0 x28 (kI 1) h kk) h fun x29 h =>
 vguard x25 false (fun kk=>vindex x27 x29 h kk) h fun x30 h =>
 vguard x25 false (fun kk=>vbin .neq 0 x30 (.v (.c (.p (.int .u8 123)))) h kk) h fun x31 h =>
 vop O (.pick (.k x25) (.k (kB true)) (.k x31)) h 32 fun x32 h =>
 vif x32 (
 vbin .add 0 x5 (kI 1) h fun x34 h =>
 R 1 [x0,x4,x34,x6] h)
 (vbin .gtr 0 x5 x6 h fun x37 h =>
 vif x37 (
 vop O (.slice 0 true (.k x0) (some (.k x6)) (some (.k x5)) none) h 42 fun x42 h =>
 vop O (.build [(.p (.bool false)),(.p (.str [])),(.p (.int .i64 0))] [(1,1,(.k x42)),(2,1,(.k x6))]) h 44 fun x44 h =>
 vop O (.bslice 3 1 [(.p (.bool false)),(.p (.str [])),(.p (.int .i64 0))] [(0,(.k x44))] false) h 45 fun x45 h =>
 vop O (.append 3 32 false (.k x4) (.k x45)) h 46 fun x46 h =>
 R 2 [x0,x46,x5] h)
 (R 2 [x0,x4,x5] h)))
 (R 3 [x0,x4,x6] h)
theorem e13_1(O:Oracle)(R:Jump)(q:Nat)(x0 x4 x5 x6:TVal)(h:Heap):b13_1 O R q x0 x4 x5 x6 h=stepF c13 O R q 1 [x0,x4,x5,x6] h:=by kernel_rfl
def b13_2(O:Oracle)(R:Jump)(q:Nat)(x0 x4 x5:TVal)(h:Heap):Res1 :=
 vbin .add 0 x5 (kI 2) h fun x49 h =>
 vcall O (.v (.c (.func 24 []))) [x0,x49] h 50 fun x50 h =>
 vbin .lss 0 x50 (kI 0) h fun x52 h =>
 vif x52 (
 tcomp (.v (.c (.p .nilslice))) fun c0=>tcomp (kI 11) fun c1=>vfin true q [c0,c1] h)
 (vbin .add 0 x5 (kI 2) h fun x56 h =>
 vop O (.slice 0 true (.k x0) (some (.k x56)) (some (.k x50)) none) h 58 fun x58 h =>
 vop O (.build [(.p (.bool false)),(.p (.str [])),(.p (.int .i64 0))] [(0,1,(.k (kB true))),(1,1,(.k x58)),(2,1,(.k x5))]) h 60 fun x60 h =>
 vop O (.bslice 3 1 [(.p (.bool false)),(.p (.str [])),(.p (.int .i64 0))] [(0,(.k x60))] false) h 61 fun x61 h =>
 vop O (.append 3 32 false (.k x4) (.k x61)) h 62 fun x62 h =>
 vbin .add 0 x50 (kI 2) h fun x64 h =>
 R 1 [x0,x62,x64,x64] h)
theorem e13_2(O:Oracle)(R:Jump)(q:Nat)(x0 x4 x5:TVal)(h:Heap):b13_2 O R q x0 x4 x5 h=stepF c13 O R q 2 [x0,x4,x5] h:=by kernel_rfl
def b13_3(O:Oracle)(R:Jump)(q:Nat)(x0 x4 x6:TVal)(h:Heap):Res1 :=
 vlen O 0 x0 h 67 fun x67 h =>
 vbin .gtr 0 x67 x6 h fun x69 h =>
 vif x69 (
 vop O (.slice 0 true (.k x0) (some (.k x6)) none none) h 73 fun x73 h =>
 vop O (.build [(.p (.bool false)),(.p (.str [])),(.p (.int .i64 0))] [(1,1,(.k x73)),(2,1,(.k x6))]) h 75 fun x75 h =>
 vop O (.bslice 3 1 [(.p (.bool false)),(.p (.str [])),(.p (.int .i64 0))] [(0,(.k x75))] false) h 76 fun x76 h =>
 vop O (.append 3 32 false (.k x4) (.k x76)) h 77 fun x77 h =>
 R 4 [x77] h)
 (R 4 [x4] h)
theorem e13_3(O:Oracle)(R:Jump)(q:Nat)(x0 x4 x6:TVal)(h:Heap):b13_3 O R q x0 x4 x6 h=stepF c13 O R q 3 [x0,x4,x6] h:=by kernel_rfl
def b13_4(O:Oracle)(R:Jump)(q:Nat)(x4:TVal)(h:Heap):Res1 :=
 vlen O 2 x4 h 79 fun x79 h =>
 vbin .gtr 0 x79 (kI 200) h fun x80 h =>
 vif x80 (
 tcomp (.v (.c (.p .nilslice))) fun c0=>tcomp (kI 3) fun c1=>vfin true q [c0,c1] h)
 (tcomp x4 fun c0=>tcomp (kI 0) fun c1=>vfin true q [c0,c1] h)
theorem e13_4(O:Oracle)(R:Jump)(q:Nat)(x4:TVal)(h:Heap):b13_4 O R q x4 h=stepF c13 O R q 4 [x4] h:=by kernel_rfl
def d13:BlkF:=fun O R Q=>[.s fun a => .z (b13_0 O R Q a),.s fun a => .s fun b => .s fun c => .s fun d => .z (b13_1 O R Q a b c d),.s fun a => .s fun b => .s fun c => .z (b13_2 O R Q a b c),.s fun a => .s fun b => .s fun c => .z (b13_3 O R Q a b c),.s fun a => .z (b13_4 O R Q a)]
theorem o13(O:Oracle)(R:Jump)(q:Nat):HoldsAll c13 O R q 0 (d13 O R q):=⟨e13_0 O R q,e13_1 O R q,e13_2 O R q,e13_3 O R q,e13_4 O R q,trivial⟩
def c14:MFunc:=mkM (compF Tryz.prog (globs2 tabs opq) (fun n=>Nat.blt n 1000000) true Tryz.f14) (.s .n (.s .n (.s .n (.s .n (.s .n (.s .n (.s .n (.m 1 [0,5,7,8,9] (.s (.s .n (.k (.s .n (.m 2 [0,5,7,8,9,59,113] (.s .n (.s .n (.m 3 [0,5,7,8,9,59,124] (.s .n (.s .n (.s .n (.s .n (.m 4 [0,5,7,8,9,133] (.s .n (.s (.s .n (.s (.s .n (.s .n (.m 5 [0,7,8,9] .n))) .n)) (.m 6 [0,7,8,9] .n))))))))))))))) (.m 7 [0,7,8,9] .n))))))))))
def b14_0(O:Oracle)(R:Jump)(q:Nat)(x0 x1:TVal)(h:Heap):Res1 :=
 vop O (.box (.k x1) true) h 3 fun x3 h =>
 vfaddr 1 x3 h fun x11 h =>
 vload false 1 x11 h fun x12 h =>
 vcall O (.v (.c (.func 25 []))) [x12] h 13 fun x13 h =>
 vext x13 0 h fun x14 h =>
 vext x13 1 h fun x15 h =>
 vbin .neq 0 x15 (kI 0) h fun x17 h =>
 vif x17 (
 tcomp x15 fun c0=>vfin true q [c0] h)
 (vop O (.build [(.p .nilslice),(.p (.int .i64 0)),(.p (.int .i64 0))] [(0,1,(.k x14))]) h 20 fun x20 h =>
 vop O (.box (.k x20) true) h 21 fun x21 h =>
 vfaddr 2 x3 h fun x22 h =>
 vload false 1 x22 h fun x23 h =>
 vop O (.build [(.p (.int .i64 0)),(.p (.int .i64 0)),(.p (.str [])),(.p (.str [])),(.p .nilslice),(.p .nilslice),(.p .nilslice),(.p (.bool false)),(.p .nilslice)] [(0,1,(.k (kI 2))),(1,1,(.k x23))]) h 24 fun x24 h =>
 vop O (.alloc [(.p (.int .i64 0)),(.p (.int .i64 0)),(.p (.str [])),(.p (.str [])),(.p .nilslice),(.p .nilslice),(.p .nilslice),(.p (.bool false)),(.p .nilslice)] true) h 8 fun x8 h =>
 vstore 9 x8 x24 h fun _ h =>
 vcall O (.v (.c (.func 26 []))) [x21,(kI 1)] h 26 fun x26 h =>
 vguard x26 true (fun kk=>kk x14 h) h fun x28 h =>
 vguard x26 true (fun kk=>viaddr 4 x28 (kI 0) h kk) h fun x29 h =>
 vguard x26 true (fun kk=>vfaddr 1 x29 h kk) h fun x30 h =>
 vguard x26 true (fun kk=>vload false 1 x30 h kk) h fun x31 h =>
 vguard x26 true (fun kk=>vcall O (.v (.c (.func 27 []))) [x31] h 32 kk) h fun x32 h =>
 vop O (.pick (.k x26) (.k x32) (.k (kB false))) h 33 fun x33 h =>
 vguard x33 true (fun kk=>kk x14 h) h fun x35 h =>
 vguard x33 true (fun kk=>viaddr 4 x35 (kI 0) h kk) h fun x36 h =>
 vguard x33 true (fun kk=>vfaddr 1 x36 h kk) h fun x37 h =>
 vguard x33 true (fun kk=>vload false 1 x37 h kk) h fun x38 h =>
 vguard x33 true (fun kk=>vbin .neq 0 x38 (kS [116,114,117,101]) h kk) h fun x39 h =>
 vop O (.pick (.k x33) (.k x39) (.k (kB false))) h 40 fun x40 h =>
 vguard x40 true (fun kk=>kk x14 h) h fun x42 h =>
 vguard x40 true (fun kk=>viaddr 4 x42 (kI 0) h kk) h fun x43 h =>
 vguard x40 true (fun kk=>vfaddr 1 x43 h kk) h fun x44 h =>
 vguard x40 true (fun kk=>vload false 1 x44 h kk) h fun x45 h =>
 vguard x40 true (fun kk=>vbin .neq 0 x45 (kS [102,97,108,115,101]) h kk) h fun x46 h =>
 vop O (.pick (.k x40) (.k x46) (.k (kB false))) h 47 fun x47 h =>
 vif x47 (
 viaddr 4 x14 (kI 0) h fun x49 h =>
 vfaddr 1 x49 h fun x50 h =>
 vload false 1 x50 h fun x51 h =>
 vop O (.nilck (.k x21)) h 53 fun x53 h =>
 vfaddr 1 x53 h fun x54 h =>
 vload false 1 x54 h fun x55 h =>
 vbin .add 0 x55 (kI 1) h fun x56 h =>
 vop O (.nilck (.k x21)) h 57 fun x57 h =>
 vfaddr 1 x57 h fun x58 h =>
 vstore 1 x58 x56 h fun _ h =>
 R 1 [x0,x14,x21,x8,x51] h)
 (R 1 [x0,x14,x21,x8,(kS [])] h))
theorem e14_0(O:Oracle)(R:Jump)(q:Nat)(x0 x1:TVal)(h:Heap):b14_0 O R q x0 x1 h=stepF c14 O R q 0 [x0,x1] h:=by kernel_rfl
def b14_1(O:Oracle)(R:Jump)(q:Nat)(x0 x5 x7 x8 x9:TVal)(h:Heap):Res1 :=
 vbin .eql 0 x9 (kS [105,102]) h fun x114 h =>
 vif x114 (
 R 2 [x0,x5,x7,x8,x9,x9,x114] h)
 (vbin .eql 0 x9 (kS [119,105,116,104]) h fun x115 h =>
 vif x115 (
 R 2 [x0,x5,x7,x8,x9,x9,x115] h)
 (vbin .eql 0 x9 (kS [114,97,110,103,101]) h fun x116 h =>
 vif x116 (
 R 2 [x0,x5,x7,x8,x9,x9,x116] h)
 (vbin .eql 0 x9 (kS [109,97,116,99,104]) h fun x117 h =>
 R 2 [x0,x5,x7,x8,x9,x9,x117] h)))
theorem e14_1(O:Oracle)(R:Jump)(q:Nat)(x0 x5 x7 x8 x9:TVal)(h:Heap):b14_1 O R q x0 x5 x7 x8 x9 h=stepF c14 O R q 1 [x0,x5,x7,x8,x9] h:=by kernel_rfl
def b14_2(O:Oracle)(R:Jump)(q:Nat)(x0 x5 x7 x8 x9 x59 x113:TVal)(h:Heap):Res1 :=
 vif x113 (
 vcall O (.v (.c (.func 28 []))) [x9] h 119 fun x119 h =>
 vcall O (.v (.c (.func 29 []))) [x7,(kI 0)] h 121 fun x121 h =>
 vfaddr 0 x8 h fun x122 h =>
 vstore 1 x122 x119 h fun _ h =>
 vfaddr 4 x8 h fun x123 h =>
 vstore 1 x123 x121 h fun _ h =>
 R 7 [x0,x7,x8,x9] h)
 (vbin .eql 0 x59 (kS [101,108,115,101]) h fun x125 h =>
 vif x125 (
 R 3 [x0,x5,x7,x8,x9,x59,x125] h)
 (vbin .eql 0 x59 (kS [101,110,100]) h fun x126 h =>
 R 3 [x0,x5,x7,x8,x9,x59,x126] h))
theorem e14_2(O:Oracle)(R:Jump)(q:Nat)(x0 x5 x7 x8 x9 x59 x113:TVal)(h:Heap):b14_2 O R q x0 x5 x7 x8 x9 x59 x113 h=stepF c14 O R q 2 [x0,x5,x7,x8,x9,x59,x113] h:=by kernel_rfl
def b14_3(O:Oracle)(R:Jump)(q:Nat)(x0 x5 x7 x8 x9 x59 x124:TVal)(h:Heap):Res1 :=
 vif x124 (
 R 7 [x0,x7,x8,x9] h)
 (vbin .eql 0 x59 (kS [99,97,115,101]) h fun x128 h =>
 vif x128 (
 vcall O (.v (.c (.func 30 []))) [x7,(kI 1)] h 130 fun x130 h =>
 vfield 1 1 false x130 h fun x131 h =>
 vfaddr 3 x8 h fun x132 h =>
 vstore 1 x132 x131 h fun _ h =>
 R 7 [x0,x7,x8,x9] h)
 (vbin .eql 0 x59 (kS [100,101,102,105,110,101]) h fun x134 h =>
 vif x134 (
 R 4 [x0,x5,x7,x8,x9,x134] h)
 (vbin .eql 0 x59 (kS [116,101,109,112,108,97,116,101]) h fun x135 h =>
 R 4 [x0,x5,x7,x8,x9,x135] h)))
theorem e14_3(O:Oracle)(R:Jump)(q:Nat)(x0 x5 x7 x8 x9 x59 x124:TVal)(h:Heap):b14_3 O R q x0 x5 x7 x8 x9 x59 x124 h=stepF c14 O R q 3 [x0,x5,x7,x8,x9,x59,x124] h:=by kernel_rfl
def b14_4(O:Oracle)(R:Jump)(q:Nat)(x0 x5 x7 x8 x9 x133:TVal)(h:Heap):Res1 :=
 vif x133 (
 vcall O (.v (.c (.func 30 []))) [x7,(kI 2)] h 137 fun x137 h =>
 vfield 1 1 false x137 h fun x138 h =>
 vfaddr 0 x8 h fun x139 h =>
 vstore 1 x139 (kI 9) h fun _ h =>
 vfaddr 3 x8 h fun x140 h =>
 vstore 1 x140 x138 h fun _ h =>
 vbin .eql 0 x9 (kS [116,101,109,112,108,97,116,101]) h fun x142 h =>
 vguard x142 true (fun kk=>kk x7 h) h fun x144 h =>
 vguard x142 true (fun kk=>vop O (.nilck (.k x144)) h 145 kk) h fun x145 h =>
 vguard x142 true (fun kk=>vfaddr 1 x145 h kk) h fun x146 h =>
 vguard x142 true (fun kk=>vload false 1 x146 h kk) h fun x147 h =>
 vguard x142 true (fun kk=>kk x5 h) h fun x148 h =>
 vguard x142 true (fun kk=>vlen O 2 x148 h 149 kk) h fun x149 h =>
 vguard x142 true (fun kk=>vbin .lss 0 x147 x149 h kk) h fun x150 h =>
 vop O (.pick (.k x142) (.k x150) (.k (kB false))) h 151 fun x151 h =>
 vif x151 (
 vcall O (.v (.c (.func 29 []))) [x7,(kI 0)] h 153 fun x153 h =>
 vfaddr 4 x8 h fun x154 h =>
 vstore 1 x154 x153 h fun _ h =>
 R 7 [x0,x7,x8,x9] h)
 (R 7 [x0,x7,x8,x9] h))
 (vlen O 2 x5 h 61 fun x61 h =>
 vbin .gtr 0 x61 (kI 2) h fun x62 h =>
 vguard x62 true (fun kk=>kk x7 h) h fun x64 h =>
 vguard x62 true (fun kk=>vcall O (.v (.c (.func 31 []))) [x64,(kS [36])] h 65 kk) h fun x65 h =>
 vop O (.pick (.k x62) (.k x65) (.k (kB false))) h 66 fun x66 h =>
 vguard x66 true (fun kk=>kk x5 h) h fun x68 h =>
 vguard x66 true (fun kk=>viaddr 4 x68 (kI 1) h kk) h fun x69 h =>
 vguard x66 true (fun kk=>vfaddr 0 x69 h kk) h fun x70 h =>
 vguard x66 true (fun kk=>vload false 1 x70 h kk) h fun x71 h =>
 vguard x66 true (fun kk=>vbin .eql 0 x71 (kI 1) h kk) h fun x72 h =>
 vop O (.pick (.k x66) (.k x72) (.k (kB false))) h 73 fun x73 h =>
 vguard x73 true (fun kk=>kk x5 h) h fun x75 h =>
 vguard x73 true (fun kk=>viaddr 4 x75 (kI 2) h kk) h fun x76 h =>
 vguard x73 true (fun kk=>vfaddr 0 x76 h kk) h fun x77 h =>
 vguard x73 true (fun kk=>vload false 1 x77 h kk) h fun x78 h =>
 vguard x73 true (fun kk=>vbin .eql 0 x78 (kI 4) h kk) h fun x79 h =>
 vop O (.pick (.k x73) (.k x79) (.k (kB false))) h 80 fun x80 h =>
 vguard x80 true (fun kk=>kk x5 h) h fun x82 h =>
 vguard x80 true (fun kk=>viaddr 4 x82 (kI 2) h kk) h fun x83 h =>
 vguard x80 true (fun kk=>vfaddr 1 x83 h kk) h fun x84 h =>
 vguard x80 true (fun kk=>vload false 1 x84 h kk) h fun x85 h =>
 vguard x80 true (fun kk=>vbin .eql 0 x85 (kS [58,61]) h kk) h fun x86 h =>
 vguard x80 true (fun kk=>kk x86 h) h fun x87 h =>
 vguard x87 false (fun kk=>kk x5 h) h fun x88 h =>
 vguard x87 false (fun kk=>viaddr 4 x88 (kI 2) h kk) h fun x89 h =>
 vguard x87 false (fun kk=>vfaddr 1 x89 h kk) h fun x90 h =>
 vguard x87 false (fun kk=>vload false 1 x90 h kk) h fun x91 h =>
 vguard x87 false (fun kk=>vbin .eql 0 x91 (kS [61]) h kk) h fun x92 h =>
 vguard x80 true (fun kk=>vop O (.pick (.k x87) (.k (kB true)) (.k x92)) h 93 kk) h fun x93 h =>
 vop O (.pick (.k x80) (.k x93) (.k (kB false))) h 94 fun x94 h =>
 vif x94 (
 vtouch O (.mv (.k x5)) h 95 fun x95 h t0 =>
 vtouch O (.iaddr 4 (.k x95) (.k (kI 1))) h 96 fun x96 h t1 =>
 vtouch O (.faddr 1 (.k x96)) h 97 fun x97 h t2 =>
 vtouch O (.load false 1 (.k x97)) h 98 fun x98 h t3 =>
 vtouch O (.faddr 0 (.k x8)) h 99 fun x99 h t4 =>
 vtouch O (.store 1 (.k x99) (.k (kI 3))) h 1000000 fun _ h t5 =>
 vtouch O (.faddr 3 (.k x8)) h 100 fun x100 h t6 =>
 vtouch O (.store 1 (.k x100) (.k x98)) h 1000000 fun _ h t7 =>
 bif apartAll [t0,t1,t2,t3,t4,t5,t6,t7] [(3,5)] then
 viaddr 4 x5 (kI 2) h fun x102 h =>
 vfaddr 1 x102 h fun x103 h =>
 vload false 1 x103 h fun x104 h =>
 vbin .eql 0 x104 (kS [61]) h fun x105 h =>
 vif x105 (
 vfaddr 0 x8 h fun x106 h =>
 vstore 1 x106 (kI 4) h fun _ h =>
 R 5 [x0,x7,x8,x9] h)
 (R 5 [x0,x7,x8,x9] h)
 else none)
 (R 6 [x0,x7,x8,x9] h))
theorem e14_4(O:Oracle)(R:Jump)(q:Nat)(x0 x5 x7 x8 x9 x133:TVal)(h:Heap):b14_4 O R q x0 x5 x7 x8 x9 x133 h=stepF c14 O R q 4 [x0,x5,x7,x8,x9,x133] h:=by kernel_rfl
def b14_5(O:Oracle)(R:Jump)(q:Nat)(x0 x7 x8 x9:TVal)(h:Heap):Res1 :=
 vop O (.nilck (.k x7)) h 108 fun x108 h =>
 vfaddr 1 x108 h fun x109 h =>
 vstore 1 x109 (kI 3) h fun _ h =>
 R 6 [x0,x7,x8,x9] h
theorem e14_5(O:Oracle)(R:Jump)(q:Nat)(x0 x7 x8 x9:TVal)(h:Heap):b14_5 O R q x0 x7 x8 x9 h=stepF c14 O R q 5 [x0,x7,x8,x9] h:=by kernel_rfl
def b14_6(O:Oracle)(R:Jump)(q:Nat)(x0 x7 x8 x9:TVal)(h:Heap):Res1 :=
 vcall O (.v (.c (.func 29 []))) [x7,(kI 0)] h 111 fun x111 h =>
 vfaddr 4 x8 h fun x112 h =>
 vstore 1 x112 x111 h fun _ h =>
 R 7 [x0,x7,x8,x9] h
theorem e14_6(O:Oracle)(R:Jump)(q:Nat)(x0 x7 x8 x9:TVal)(h:Heap):b14_6 O R q x0 x7 x8 x9 h=stepF c14 O R q 6 [x0,x7,x8,x9] h:=by kernel_rfl
def b14_7(O:Oracle)(R:Jump)(q:Nat)(x0 x7 x8 x9:TVal)(h:Heap):Res1 :=
 vcall O (.v (.c (.func 32 []))) [x7] h 156 fun x156 h =>
 vbin .neq 0 x156 (kI 0) h fun x157 h =>
 vif x157 (
 vop O (.nilck (.k x7)) h 159 fun x159 h =>
 vfaddr 2 x159 h fun x160 h =>
 vload false 1 x160 h fun x161 h =>
 tcomp x161 fun c0=>vfin true q [c0] h)
 (vload true 9 x8 h fun x164 h =>
 vcall O (.v (.c (.func 33 []))) [x0,x9,x164] h 165 fun x165 h =>
 tcomp x165 fun c0=>vfin true q [c0] h)
theorem e14_7(O:Oracle)(R:Jump)(q:Nat)(x0 x7 x8 x9:TVal)(h:Heap):b14_7 O R q x0 x7 x8 x9 h=stepF c14 O R q 7 [x0,x7,x8,x9] h:=by kernel_rfl
def d14:BlkF:=fun O R Q=>[.s fun a => .s fun b => .z (b14_0 O R Q a b),.s fun a => .s fun b => .s fun c => .s fun d => .s fun e => .z (b14_1 O R Q a b c d e),.s fun a => .s fun b => .s fun c => .s fun d => .s fun e => .s fun f => .s fun g => .z (b14_2 O R Q a b c d e f g),.s fun a => .s fun b => .s fun c => .s fun d => .s fun e => .s fun f => .s fun g => .z (b14_3 O R Q a b c d e f g),.s fun a => .s fun b => .s fun c => .s fun d => .s fun e => .s fun f => .z (b14_4 O R Q a b c d e f),.s fun a => .s fun b => .s fun c => .s fun d => .z (b14_5 O R Q a b c d),.s fun a => .s fun b => .s fun c => .s fun d => .z (b14_6 O R Q a b c d),.s fun a => .s fun b => .s fun c => .s fun d => .z (b14_7 O R Q a b c d)]
theorem o14(O:Oracle)(R:Jump)(q:Nat):HoldsAll c14 O R q 0 (d14 O R q):=⟨e14_0 O R q,e14_1 O R q,e14_2 O R q,e14_3 O R q,e14_4 O R q,e14_5 O R q,e14_6 O R q,e14_7 O R q,trivial⟩
def c15:MFunc:=mkM (compF Tryz.prog (globs2 tabs opq) (fun n=>Nat.blt n 1000000) true Tryz.f15) .n
def b15_0(O:Oracle)(R:Jump)(q:Nat)(x0 x1:TVal)(h:Heap):Res1 :=
 vop O (.box (.k x1) true) h 3 fun x3 h =>
 vfaddr 2 x3 h fun x6 h =>
 vload false 1 x6 h fun x7 h =>
 vfaddr 1 x3 h fun x8 h =>
 vload false 1 x8 h fun x9 h =>
 vop O (.build [(.p (.int .i64 0)),(.p (.int .i64 0)),(.p (.str [])),(.p (.str [])),(.p .nilslice),(.p .nilslice),(.p .nilslice),(.p (.bool false)),(.p .nilslice)] [(0,1,(.k (kI 1))),(1,1,(.k x7)),(2,1,(.k x9))]) h 10 fun x10 h =>
 vop O (.alloc [(.p (.int .i64 0)),(.p (.int .i64 0)),(.p (.str [])),(.p (.str [])),(.p .nilslice),(.p .nilslice),(.p .nilslice),(.p (.bool false)),(.p .nilslice)] true) h 5 fun x5 h =>
 vstore 9 x5 x10 h fun _ h =>
 vload true 9 x5 h fun x12 h =>
 vcall O (.v (.c (.func 34 []))) [x0,x12] h 13 fun x13 h =>
 vguard x13 false (fun kk=>vfaddr 1 x3 h kk) h fun x15 h =>
 vguard x13 false (fun kk=>vload false 1 x15 h kk) h fun x16 h =>
 vguard x13 false (fun kk=>vcall O (.v (.c (.func 35 []))) [x16] h 17 kk) h fun x17 h =>
 vop O (.pick (.k x13) (.k (kB true)) (.k x17)) h 18 fun x18 h =>
 vif x18 (
 tcomp (kI 0) fun c0=>vfin true q [c0] h)
 (tcomp (kI 12) fun c0=>vfin true q [c0] h)
theorem e15_0(O:Oracle)(R:Jump)(q:Nat)(x0 x1:TVal)(h:Heap):b15_0 O R q x0 x1 h=stepF c15 O R q 0 [x0,x1] h:=by kernel_rfl
def d15:BlkF:=fun O R Q=>[.s fun a => .s fun b => .z (b15_0 O R Q a b)]
theorem o15(O:Oracle)(R:Jump)(q:Nat):HoldsAll c15 O R q 0 (d15 O R q):=⟨e15_0 O R q,trivial⟩
def c16:MFunc:=mkM (compF Tryz.prog (globs2 tabs opq) (fun _=>false) true Tryz.f16) .n
def b16_0(O:Oracle)(R:Jump)(q:Nat)(x0 x1:TVal)(h:Heap):Res1 :=
 vop O (.minmax true [(.k x0),(.k (kI 0))]) h 6 fun x6 h =>
 vop O (.minmax false [(.k x6),(.k x1)]) h 8 fun x8 h =>
 tcomp x8 fun c0=>vfin true q [c0] h
theorem e16_0(O:Oracle)(R:Jump)(q:Nat)(x0 x1:TVal)(h:Heap):b16_0 O R q x0 x1 h=stepF c16 O R q 0 [x0,x1] h:=by kernel_rfl
def d16:BlkF:=fun O R Q=>[.s fun a => .s fun b => .z (b16_0 O R Q a b)]
theorem o16(O:Oracle)(R:Jump)(q:Nat):HoldsAll c16 O R q 0 (d16 O R q):=⟨e16_0 O R q,trivial⟩
def c17:MFunc:=mkM (compF Tryz.prog (globs2 tabs opq) (fun n=>Nat.beq n 1) true Tryz.f17) (.s .n (.s (.s .n (.k (.l 1 [0,4,12,13,14] (.s .n (.s .n (.s (.k (.s .n (.s .n (.s .n (.s (.k (.s .n (.m 2 [0,4,8,10,11,12,13,14] (.s (.s .n (.m 3 [0,4,8,10,11,12,13,14] .n)) (.m 4 [0,4,8,10,11,12,13,14] .n))))) (.m 5 [0,4,8,10,11,12,13,14] .n)))))) (.m 6 [0,4,12,13,14] .n))))))) .n))
def b17_0(O:Oracle)(R:Jump)(q:Nat)(x0 x1 x2:TVal)(h:Heap):Res1 :=
 vop O (.box (.k x1) false) h 4 fun x4 h =>
 vlen O 2 x2 h 13 fun x13 h =>
 R 1 [x0,x4,x2,x13,(kI 0)] h
theorem e17_0(O:Oracle)(R:Jump)(q:Nat)(x0 x1 x2:TVal)(h:Heap):b17_0 O R q x0 x1 x2 h=stepF c17 O R q 0 [x0,x1,x2] h:=by kernel_rfl
def b17_1(O:Oracle)(R:Jump)(q:Nat)(x0 x4 x12 x13 x14:TVal)(h:Heap):Res1 :=
 vbin .lss 0 x14 x13 h fun x15 h =>
 vif x15 (
 viaddr 9 x12 x14 h fun x16 h =>
 vload true 9 x16 h fun x17 h =>
 vop O (.alloc [(.p (.int .i64 0)),(.p (.int .i64 0)),(.p (.str [])),(.p (.str [])),(.p .nilslice),(.p .nilslice),(.p .nilslice),(.p (.bool false)),(.p .nilslice)] false) h 8 fun x8 h =>
 vstore 9 x8 x17 h fun _ h =>
 vcall O (.v (.c (.func 36 []))) [x0] h 19 fun x19 h =>
 vbin .neq 0 x19 (kI 0) h fun x21 h =>
 vif x21 (
 tcomp x19 fun c0=>vfin true q [c0] h)
 (vfaddr 0 x4 h fun x23 h =>
 vload true 6 x23 h fun x24 h =>
 vop O (.alloc [(.p (.int .i64 0)),(.p (.bool false)),(.p (.int .i64 0)),(.p (.str [])),(.p .nilslice),(.p .nilslice)] false) h 10 fun x10 h =>
 vstore 6 x10 x24 h fun _ h =>
 vfaddr 0 x8 h fun x26 h =>
 vload false 1 x26 h fun x27 h =>
 vbin .eql 0 x27 (kI 1) h fun x28 h =>
 vif x28 (
 vfaddr 2 x8 h fun x40 h =>
 vload false 1 x40 h fun x41 h =>
 vcall O (.v (.c (.func 37 []))) [x0,x41] h 42 fun x42 h =>
 R 5 [x0,x4,x8,x10,x42,x12,x13,x14] h)
 (vfaddr 0 x8 h fun x30 h =>
 vload false 1 x30 h fun x31 h =>
 vbin .eql 0 x31 (kI 9) h fun x32 h =>
 vguard x32 true (fun kk=>vfaddr 4 x8 h kk) h fun x34 h =>
 vguard x32 true (fun kk=>vload false 1 x34 h kk) h fun x35 h =>
 vguard x32 true (fun kk=>vlen O 2 x35 h 36 kk) h fun x36 h =>
 vguard x32 true (fun kk=>vbin .eql 0 x36 (kI 0) h kk) h fun x37 h =>
 vop O (.pick (.k x32) (.k x37) (.k (kB false))) h 38 fun x38 h =>
 vif x38 (
 R 2 [x0,x4,x8,x10,(kI 0),x12,x13,x14] h)
 (R 2 [x0,x4,x8,x10,(kI 0),x12,x13,x14] h))))
 (tcomp (kI 0) fun c0=>vfin true q [c0] h)
theorem e17_1(O:Oracle)(R:Jump)(q:Nat)(x0 x4 x12 x13 x14:TVal)(h:Heap):b17_1 O R q x0 x4 x12 x13 x14 h=stepF c17 O R q 1 [x0,x4,x12,x13,x14] h:=by kernel_rfl
def b17_2(O:Oracle)(R:Jump)(q:Nat)(x0 x4 x8 x10 x11 x12 x13 x14:TVal)(h:Heap):Res1 :=
 vfaddr 0 x8 h fun x43 h =>
 vload false 1 x43 h fun x44 h =>
 vbin .neq 0 x44 (kI 9) h fun x45 h =>
 vguard x45 false (fun kk=>vfaddr 4 x8 h kk) h fun x47 h =>
 vguard x45 false (fun kk=>vload false 1 x47 h kk) h fun x48 h =>
 vguard x45 false (fun kk=>vlen O 2 x48 h 49 kk) h fun x49 h =>
 vguard x45 false (fun kk=>vbin .gtr 0 x49 (kI 0) h kk) h fun x50 h =>
 vop O (.pick (.k x45) (.k (kB true)) (.k x50)) h 51 fun x51 h =>
 vif x51 (
 vload true 8 x4 h fun x54 h =>
 vfaddr 4 x8 h fun x55 h =>
 vload false 1 x55 h fun x56 h =>
 vcall O (.v (.c (.func 38 []))) [x0,x54,x56] h 57 fun x57 h =>
 vext x57 0 h fun x58 h =>
 vext x57 1 h fun x59 h =>
 vstore 6 x10 x58 h fun _ h =>
 R 3 [x0,x4,x8,x10,x59,x12,x13,x14] h)
 (R 3 [x0,x4,x8,x10,x11,x12,x13,x14] h)
theorem e17_2(O:Oracle)(R:Jump)(q:Nat)(x0 x4 x8 x10 x11 x12 x13 x14:TVal)(h:Heap):b17_2 O R q x0 x4 x8 x10 x11 x12 x13 x14 h=stepF c17 O R q 2 [x0,x4,x8,x10,x11,x12,x13,x14] h:=by kernel_rfl
def b17_3(O:Oracle)(R:Jump)(q:Nat)(x0 x4 x8 x10 x11 x12 x13 x14:TVal)(h:Heap):Res1 :=
 vbin .eql 0 x11 (kI 0) h fun x61 h =>
 vif x61 (
 vload true 8 x4 h fun x63 h =>
 vload true 9 x8 h fun x64 h =>
 vload true 6 x10 h fun x65 h =>
 vcall O (.v (.c (.func 39 []))) [x0,x63,x64,x65] h 66 fun x66 h =>
 R 4 [x0,x4,x8,x10,x66,x12,x13,x14] h)
 (R 4 [x0,x4,x8,x10,x11,x12,x13,x14] h)
theorem e17_3(O:Oracle)(R:Jump)(q:Nat)(x0 x4 x8 x10 x11 x12 x13 x14:TVal)(h:Heap):b17_3 O R q x0 x4 x8 x10 x11 x12 x13 x14 h=stepF c17 O R q 3 [x0,x4,x8,x10,x11,x12,x13,x14] h:=by kernel_rfl
def b17_4(O:Oracle)(R:Jump)(q:Nat)(x0 x4 x8 x10 x11 x12 x13 x14:TVal)(h:Heap):Res1 :=
 R 5 [x0,x4,x8,x10,x11,x12,x13,x14] h
theorem e17_4(O:Oracle)(R:Jump)(q:Nat)(x0 x4 x8 x10 x11 x12 x13 x14:TVal)(h:Heap):b17_4 O R q x0 x4 x8 x10 x11 x12 x13 x14 h=stepF c17 O R q 4 [x0,x4,x8,x10,x11,x12,x13,x14] h:=by kernel_rfl
def b17_5(O:Oracle)(R:Jump)(q:Nat)(x0 x4 x8 x10 x11 x12 x13 x14:TVal)(h:Heap):Res1 :=
 vbin .neq 0 x11 (kI 0) h fun x68 h =>
 vif x68 (
 tcomp x11 fun c0=>vfin true q [c0] h)
 (vfaddr 0 x8 h fun x70 h =>
 vload false 1 x70 h fun x71 h =>
 vbin .eql 0 x71 (kI 3) h fun x72 h =>
 vif x72 (
 vtouch O (.faddr 6 (.k x4)) h 73 fun x73 h t0 =>
 vtouch O (.load false 1 (.k x73)) h 74 fun x74 h t1 =>
 vtouch O (.call (.k (.v (.c (.func 40 [])))) [(.k x74)]) h 75 fun x75 h t2 =>
 vtouch O (.faddr 3 (.k x8)) h 76 fun x76 h t3 =>
 vtouch O (.load false 1 (.k x76)) h 77 fun x77 h t4 =>
 vtouch O (.load true 6 (.k x10)) h 78 fun x78 h t5 =>
 vtouch O (.build [(.p (.str [])),(.p (.int .i64 0)),(.p (.bool false)),(.p (.int .i64 0)),(.p (.str [])),(.p .nilslice),(.p .nilslice)] [(0,1,(.k x77)),(1,6,(.k x78))]) h 79 fun x79 h t6 =>
 vtouch O (.box (.k x79) false) h 80 fun x80 h t7 =>
 vtouch O (.bslice 1 1 [(.p .nilptr)] [(0,(.k x80))] true) h 81 fun x81 h t8 =>
 vtouch O (.append 1 8 true (.k x75) (.k x81)) h 82 fun x82 h t9 =>
 vtouch O (.faddr 6 (.k x4)) h 83 fun x83 h t10 =>
 vtouch O (.store 1 (.k x83) (.k x82)) h 1000000 fun _ h t11 =>
 bif apartAll [t0,t1,t2,t3,t4,t5,t6,t7,t8,t9,t10,t11] [(2,4),(2,5),(1,7),(2,7),(1,8),(2,8)] then
 R 6 [x0,x4,x12,x13,x14] h
 else none)
 (R 6 [x0,x4,x12,x13,x14] h))
theorem e17_5(O:Oracle)(R:Jump)(q:Nat)(x0 x4 x8 x10 x11 x12 x13 x14:TVal)(h:Heap):b17_5 O R q x0 x4 x8 x10 x11 x12 x13 x14 h=stepF c17 O R q 5 [x0,x4,x8,x10,x11,x12,x13,x14] h:=by kernel_rfl
def b17_6(O:Oracle)(R:Jump)(q:Nat)(x0 x4 x12 x13 x14:TVal)(h:Heap):Res1 :=
 vbin .add 0 x14 (kI 1) h fun x84 h =>
 R 1 [x0,x4,x12,x13,x84] h
theorem e17_6(O:Oracle)(R:Jump)(q:Nat)(x0 x4 x12 x13 x14:TVal)(h:Heap):b17_6 O R q x0 x4 x12 x13 x14 h=stepF c17 O R q 6 [x0,x4,x12,x13,x14] h:=by kernel_rfl
def d17:BlkF:=fun O R Q=>[.s fun a => .s fun b => .s fun c => .z (b17_0 O R Q a b c),.s fun a => .s fun b => .s fun c => .s fun d => .s fun e => .z (b17_1 O R Q a b c d e),.s fun a => .s fun b => .s fun c => .s fun d => .s fun e => .s fun f => .s fun g => .s fun h => .z (b17_2 O R Q a b c d e f g h),.s fun a => .s fun b => .s fun c => .s fun d => .s fun e => .s fun f => .s fun g => .s fun h => .z (b17_3 O R Q a b c d e f g h),.s fun a => .s fun b => .s fun c => .s fun d => .s fun e => .s fun f => .s fun g => .s fun h => .z (b17_4 O R Q a b c d e f g h),.s fun a => .s fun b => .s fun c => .s fun d => .s fun e => .s fun f => .s fun g => .s fun h => .z (b17_5 O R Q a b c d e f g h),.s fun a => .s fun b => .s fun c => .s fun d => .s fun e => .z (b17_6 O R Q a b c d e)]
theorem o17(O:Oracle)(R:Jump)(q:Nat):HoldsAll c17 O R q 0 (d17 O R q):=⟨e17_0 O R q,e17_1 O R q,e17_2 O R q,e17_3 O R q,e17_4 O R q,e17_5 O R q,e17_6 O R q,trivial⟩
def c18:MFunc:=mkM (compF Tryz.prog (globs2 tabs opq) (fun _=>false) true Tryz.f18) .n
def b18_0(O:Oracle)(R:Jump)(q:Nat)(x0:TVal)(h:Heap):Res1 :=
 vop O (.box (.k x0) false) h 1 fun x1 h =>
 vop O (.alloc [(.p (.int .i64 0)),(.p (.bool false)),(.p (.int .i64 0)),(.p (.str [])),(.p .nilslice),(.p .nilslice)] false) h 2 fun x2 h =>
 vop O (.bslice 1 1 [(.p (.str []))] [(0,(.k (kS [])))] false) h 6 fun x6 h =>
 vload true 6 x1 h fun x7 h =>
 vop O (.bslice 6 1 [(.p (.int .i64 0)),(.p (.bool false)),(.p (.int .i64 0)),(.p (.str [])),(.p .nilslice),(.p .nilslice)] [(0,(.k x7))] false) h 8 fun x8 h =>
 vop O (.build [(.p (.int .i64 0)),(.p (.bool false)),(.p (.int .i64 0)),(.p (.str [])),(.p .nilslice),(.p .nilslice)] [(0,1,(.k (kI 5))),(4,1,(.k x6)),(5,1,(.k x8))]) h 9 fun x9 h =>
 vcall O (.v (.c (.func 41 []))) [x9,(kS [])] h 10 fun x10 h =>
 vext x10 0 h fun x11 h =>
 vext x10 1 h fun x12 h =>
 vop O (.alloc [(.p (.int .i64 0)),(.p (.bool false)),(.p (.int .i64 0)),(.p (.str [])),(.p .nilslice),(.p .nilslice)] false) h 3 fun x3 h =>
 vstore 6 x3 x11 h fun _ h =>
 vload true 6 x3 h fun x13 h =>
 vstore 6 x2 x13 h fun _ h =>
 vcell true 6 x2 h fun c0=>vfin true q [c0] h
theorem e18_0(O:Oracle)(R:Jump)(q:Nat)(x0:TVal)(h:Heap):b18_0 O R q x0 h=stepF c18 O R q 0 [x0] h:=by kernel_rfl
def d18:BlkF:=fun O R Q=>[.s fun a => .z (b18_0 O R Q a)]
theorem o18(O:Oracle)(R:Jump)(q:Nat):HoldsAll c18 O R q 0 (d18 O R q):=⟨e18_0 O R q,trivial⟩
def c19:MFunc:=mkM (compF Tryz.prog (globs2 tabs opq) (fun n=>Nat.blt n 1000000) false Tryz.f19) .n
def b19_0(O:Oracle)(R:Jump)(q:Nat)(x0:TVal)(h:Heap):Res1 :=
 vbin .eql 2 x0 (.v (.c (.p .nilslice))) h fun x4 h =>
 vif x4 (
 tcomp (.v (.c (.p .nilslice))) fun c0=>vfin false q [c0] h)
 (vop O (.bslice 6 0 [(.p (.int .i64 0)),(.p (.bool false)),(.p (.int .i64 0)),(.p (.str [])),(.p .nilslice),(.p .nilslice)] [] true) h 5 fun x5 h =>
 vop O (.append 6 88 true (.k x5) (.k x0)) h 7 fun x7 h =>
 tcomp x7 fun c0=>vfin false q [c0] h)
theorem e19_0(O:Oracle)(R:Jump)(q:Nat)(x0:TVal)(h:Heap):b19_0 O R q x0 h=stepF c19 O R q 0 [x0] h:=by kernel_rfl
def d19:BlkF:=fun O R Q=>[.s fun a => .z (b19_0 O R Q a)]
theorem o19(O:Oracle)(R:Jump)(q:Nat):HoldsAll c19 O R q 0 (d19 O R q):=⟨e19_0 O R q,trivial⟩
def c21:MFunc:=mkM (compF Tryz.prog (globs2 tabs opq) (fun _=>false) true Tryz.f21) (.s .n (.s .n (.s (.s .n (.k (.l 1 [0,3,4] (.s .n (.s (.k (.s .n (.m 2 [0,3,4] (.s .n (.k (.l 3 [0,3,4,5] (.s .n (.s (.k (.s .n (.m 4 [0,3,4,5] .n))) .n)))))))) (.m 5 [0,3,4] .n)))))) .n)))
def b21_0(O:Oracle)(R:Jump)(q:Nat)(x0:TVal)(h:Heap):Res1 :=
 R 1 [x0,(kS []),(kI 0)] h
theorem e21_0(O:Oracle)(R:Jump)(q:Nat)(x0:TVal)(h:Heap):b21_0 O R q x0 h=stepF c21 O R q 0 [x0] h:=by kernel_rfl
def b21_1(O:Oracle)(R:Jump)(q:Nat)(x0 x3 x4:TVal)(h:Heap):Res1 :=
 vlen O 2 x0 h 8 fun x8 h =>
 vbin .lss 0 x4 x8 h fun x9 h =>
 vif x9 (
 vbin .gtr 0 x4 (kI 0) h fun x13 h =>
 vif x13 (
 vbin .add 0 x3 (kS [32,124,32]) h fun x15 h =>
 R 2 [x0,x15,x4] h)
 (R 2 [x0,x3,x4] h))
 (tcomp x3 fun c0=>vfin true q [c0] h)
theorem e21_1(O:Oracle)(R:Jump)(q:Nat)(x0 x3 x4:TVal)(h:Heap):b21_1 O R q x0 x3 x4 h=stepF c21 O R q 1 [x0,x3,x4] h:=by kernel_rfl
def b21_2(O:Oracle)(R:Jump)(q:Nat)(x0 x3 x4:TVal)(h:Heap):Res1 :=
 R 3 [x0,x3,x4,(kI 0)] h
theorem e21_2(O:Oracle)(R:Jump)(q:Nat)(x0 x3 x4:TVal)(h:Heap):b21_2 O R q x0 x3 x4 h=stepF c21 O R q 2 [x0,x3,x4] h:=by kernel_rfl
def b21_3(O:Oracle)(R:Jump)(q:Nat)(x0 x3 x4 x5:TVal)(h:Heap):Res1 :=
 viaddr 1 x0 x4 h fun x19 h =>
 vfaddr 0 x19 h fun x20 h =>
 vload false 1 x20 h fun x21 h =>
 vlen O 2 x21 h 22 fun x22 h =>
 vbin .lss 0 x5 x22 h fun x23 h =>
 vif x23 (
 vbin .gtr 0 x5 (kI 0) h fun x27 h =>
 vif x27 (
 vbin .add 0 x3 (kS [32]) h fun x29 h =>
 R 4 [x0,x29,x4,x5] h)
 (R 4 [x0,x3,x4,x5] h))
 (R 5 [x0,x3,x4] h)
theorem e21_3(O:Oracle)(R:Jump)(q:Nat)(x0 x3 x4 x5:TVal)(h:Heap):b21_3 O R q x0 x3 x4 x5 h=stepF c21 O R q 3 [x0,x3,x4,x5] h:=by kernel_rfl
def b21_4(O:Oracle)(R:Jump)(q:Nat)(x0 x3 x4 x5:TVal)(h:Heap):Res1 :=
 viaddr 1 x0 x4 h fun x33 h =>
 vfaddr 0 x33 h fun x34 h =>
 vload false 1 x34 h fun x35 h =>
 viaddr 7 x35 x5 h fun x37 h =>
 vload true 7 x37 h fun x38 h =>
 vcall O (.v (.c (.func 42 []))) [x38] h 39 fun x39 h =>
 vbin .add 0 x3 x39 h fun x40 h =>
 vbin .add 0 x5 (kI 1) h fun x25 h =>
 R 3 [x0,x40,x4,x25] h
theorem e21_4(O:Oracle)(R:Jump)(q:Nat)(x0 x3 x4 x5:TVal)(h:Heap):b21_4 O R q x0 x3 x4 x5 h=stepF c21 O R q 4 [x0,x3,x4,x5] h:=by kernel_rfl
def b21_5(O:Oracle)(R:Jump)(q:Nat)(x0 x3 x4:TVal)(h:Heap):Res1 :=
 vbin .add 0 x4 (kI 1) h fun x11 h =>
 R 1 [x0,x3,x11] h
theorem e21_5(O:Oracle)(R:Jump)(q:Nat)(x0 x3 x4:TVal)(h:Heap):b21_5 O R q x0 x3 x4 h=stepF c21 O R q 5 [x0,x3,x4] h:=by kernel_rfl
def d21:BlkF:=fun O R Q=>[.s fun a => .z (b21_0 O R Q a),.s fun a => .s fun b => .s fun c => .z (b21_1 O R Q a b c),.s fun a => .s fun b => .s fun c => .z (b21_2 O R Q a b c),.s fun a => .s fun b => .s fun c => .s fun d => .z (b21_3 O R Q a b c d),.s fun a => .s fun b => .s fun c => .s fun d => .z (b21_4 O R Q a b c d),.s fun a => .s fun b => .s fun c => .z (b21_5 O R Q a b c)]
theorem o21(O:Oracle)(R:Jump)(q:Nat):HoldsAll c21 O R q 0 (d21 O R q):=⟨e21_0 O R q,e21_1 O R q,e21_2 O R q,e21_3 O R q,e21_4 O R q,e21_5 O R q,trivial⟩
def c23:MFunc:=mkM (compF Tryz.prog (globs2 tabs opq) (fun _=>false) true Tryz.f23) (.s .n (.s .n (.s .n (.s .n (.s .n (.s .n (.m 1 [2,4,5] (.s .n (.m 2 [2,4,5] .n)))))))))
def b23_0(O:Oracle)(R:Jump)(q:Nat)(x0:TVal)(h:Heap):Res1 :=
 vop O (.alloc [(.p (.int .i64 0)),(.p (.bool false)),(.p (.int .i64 0)),(.p (.str [])),(.p .nilslice),(.p .nilslice)] false) h 2 fun x2 h =>
 vlen O 0 x0 h 7 fun x7 h =>
 vbin .gtr 0 x7 (kI 20000) h fun x8 h =>
 vif x8 (
 vop O (.build [(.p (.int .i64 0)),(.p (.bool false)),(.p (.int .i64 0)),(.p (.str [])),(.p .nilslice),(.p .nilslice)] []) h 9 fun x9 h =>
 vstore 6 x2 x9 h fun _ h =>
 vcell true 6 x2 h fun c0=>tcomp (kI 4) fun c1=>vfin true q [c0,c1] h)
 (vop O (.build [(.p (.str [])),(.p (.int .i64 0)),(.p (.int .i64 0))] [(0,1,(.k x0))]) h 11 fun x11 h =>
 vop O (.box (.k x11) false) h 12 fun x12 h =>
 vcall O (.v (.c (.func 43 []))) [x12,(kI 1)] h 14 fun x14 h =>
 vop O (.alloc [(.p (.int .i64 0)),(.p (.bool false)),(.p (.int .i64 0)),(.p (.str [])),(.p .nilslice),(.p .nilslice)] false) h 5 fun x5 h =>
 vstore 6 x5 x14 h fun _ h =>
 vcall O (.v (.c (.func 44 []))) [x12] h 16 fun x16 h =>
 vop O (.nilck (.k x12)) h 18 fun x18 h =>
 vfaddr 1 x18 h fun x19 h =>
 vload false 1 x19 h fun x20 h =>
 vlen O 0 x0 h 22 fun x22 h =>
 vbin .lss 0 x20 x22 h fun x23 h =>
 vif x23 (
 vcall O (.v (.c (.func 45 []))) [x12,(kI 12)] h 25 fun x25 h =>
 R 1 [x2,x12,x5] h)
 (R 1 [x2,x12,x5] h))
theorem e23_0(O:Oracle)(R:Jump)(q:Nat)(x0:TVal)(h:Heap):b23_0 O R q x0 h=stepF c23 O R q 0 [x0] h:=by kernel_rfl
def b23_1(O:Oracle)(R:Jump)(q:Nat)(x2 x4 x5:TVal)(h:Heap):Res1 :=
 vop O (.nilck (.k x4)) h 27 fun x27 h =>
 vfaddr 2 x27 h fun x28 h =>
 vload false 1 x28 h fun x29 h =>
 vbin .eql 0 x29 (kI 0) h fun x30 h =>
 vif x30 (
 vload true 6 x5 h fun x32 h =>
 vcall O (.v (.c (.func 46 []))) [x32] h 33 fun x33 h =>
 vop O (.nilck (.k x4)) h 34 fun x34 h =>
 vfaddr 2 x34 h fun x35 h =>
 vstore 1 x35 x33 h fun _ h =>
 R 2 [x2,x4,x5] h)
 (R 2 [x2,x4,x5] h)
theorem e23_1(O:Oracle)(R:Jump)(q:Nat)(x2 x4 x5:TVal)(h:Heap):b23_1 O R q x2 x4 x5 h=stepF c23 O R q 1 [x2,x4,x5] h:=by kernel_rfl
def b23_2(O:Oracle)(R:Jump)(q:Nat)(x2 x4 x5:TVal)(h:Heap):Res1 :=
 vop O (.nilck (.k x4)) h 37 fun x37 h =>
 vfaddr 2 x37 h fun x38 h =>
 vload false 1 x38 h fun x39 h =>
 vbin .neq 0 x39 (kI 0) h fun x40 h =>
 vif x40 (
 vtouch O (.build [(.p (.int .i64 0)),(.p (.bool false)),(.p (.int .i64 0)),(.p (.str [])),(.p .nilslice),(.p .nilslice)] []) h 41 fun x41 h t0 =>
 vtouch O (.mv (.k x4)) h 42 fun x42 h t1 =>
 vtouch O (.nilck (.k x42)) h 43 fun x43 h t2 =>
 vtouch O (.faddr 2 (.k x43)) h 44 fun x44 h t3 =>
 vtouch O (.load false 1 (.k x44)) h 45 fun x45 h t4 =>
 vtouch O (.store 6 (.k x2) (.k x41)) h 1000000 fun _ h t5 =>
 vtouch O (.mv (.k x45)) h 3 fun x3 h t6 =>
 bif apartAll [t0,t1,t2,t3,t4,t5,t6] [(4,5)] then
 vcell true 6 x2 h fun c0=>tcomp x3 fun c1=>vfin true q [c0,c1] h
 else none)
 (vload true 6 x5 h fun x46 h =>
 vstore 6 x2 x46 h fun _ h =>
 vcell true 6 x2 h fun c0=>tcomp (kI 0) fun c1=>vfin true q [c0,c1] h)
theorem e23_2(O:Oracle)(R:Jump)(q:Nat)(x2 x4 x5:TVal)(h:Heap):b23_2 O R q x2 x4 x5 h=stepF c23 O R q 2 [x2,x4,x5] h:=by kernel_rfl
def d23:BlkF:=fun O R Q=>[.s fun a => .z (b23_0 O R Q a),.s fun a => .s fun b => .s fun c => .z (b23_1 O R Q a b c),.s fun a => .s fun b => .s fun c => .z (b23_2 O R Q a b c)]
theorem o23(O:Oracle)(R:Jump)(q:Nat):HoldsAll c23 O R q 0 (d23 O R q):=⟨e23_0 O R q,e23_1 O R q,e23_2 O R q,trivial⟩
def c24:MFunc:=mkM (compF Tryz.prog (globs2 tabs opq) (fun _=>false) true Tryz.f24) (.s .n (.s .n (.s (.k (.l 1 [0,1,5,6] (.s .n (.k (.s .n (.s .n (.m 2 [0,1,5,6] .n))))))) .n)))
def b24_0(O:Oracle)(R:Jump)(q:Nat)(x0 x1:TVal)(h:Heap):Res1 :=
 R 1 [x0,x1,(kB false),(kI 0)] h
theorem e24_0(O:Oracle)(R:Jump)(q:Nat)(x0 x1:TVal)(h:Heap):b24_0 O R q x0 x1 h=stepF c24 O R q 0 [x0,x1] h:=by kernel_rfl
def b24_1(O:Oracle)(R:Jump)(q:Nat)(x0 x1 x5 x6:TVal)(h:Heap):Res1 :=
 vlen O 0 x0 h 10 fun x10 h =>
 vbin .lss 0 x1 x10 h fun x11 h =>
 vif x11 (
 vindex x0 x1 h fun x14 h =>
 vop O (.un .not (.k x5)) h 24 fun x24 h =>
 vguard x24 true (fun kk=>kk x14 h) h fun x26 h =>
 vguard x24 true (fun kk=>vbin .eql 0 x26 (.v (.c (.p (.int .u8 125)))) h kk) h fun x27 h =>
 vop O (.pick (.k x24) (.k x27) (.k (kB false))) h 28 fun x28 h =>
 vguard x28 true (fun kk=>kk x1 h) h fun x30 h =>
 vguard x28 true (fun kk=>vbin .add 0 x30 (kI 1) h kk) h fun x31 h =>
 vguard x28 true (fun kk=>kk x0 h) h fun x32 h =>
 vguard x28 true (fun kk=>vlen O 0 x32 h 33 kk) h fun x33 h =>
 vguard x28 true (fun kk=>vbin .lss 0 x31 x33 h kk) h fun x34 h =>
 vop O (.pick (.k x28) (.k x34) (.k (kB false))) h 35 fun x35 h =>
 vguard x35 true (fun kk=>kk x0 h) h fun x37 h =>
 vguard x35 true (fun kk=>kk x1 h) h fun x38 h =>
 vguard x35 true (fun kk=>vbin .add 0 x38 (kI 1) h kk) h fun x39 h =>
 vguard x35 true (fun kk=>vindex x37 x39 h kk) h fun x40 h =>
 vguard x35 true (fun kk=>vbin .eql 0 x40 (.v (.c (.p (.int .u8 125)))) h kk) h fun x41 h =>
 vop O (.pick (.k x35) (.k x41) (.k (kB false))) h 42 fun x42 h =>
 vif x42 (
 tcomp x1 fun c0=>vfin true q [c0] h)
 (vop O (.un .not (.k x5)) h 46 fun x46 h =>
 vif x46 (
 vbin .eql 0 x14 (.v (.c (.p (.int .u8 34)))) h fun x48 h =>
 R 2 [x0,x1,x48,(kI 0)] h)
 (vbin .eql 0 x14 (.v (.c (.p (.int .u8 92)))) h fun x51 h =>
 vif x51 (
 vbin .add 0 x6 (kI 1) h fun x53 h =>
 R 2 [x0,x1,x5,x53] h)
 (vbin .neq 0 x14 (.v (.c (.p (.int .u8 34)))) h fun x16 h =>
 vguard x16 false (fun kk=>kk x6 h) h fun x18 h =>
 vguard x16 false (fun kk=>vbin .rem 0 x18 (kI 2) h kk) h fun x19 h =>
 vguard x16 false (fun kk=>vbin .eql 0 x19 (kI 1) h kk) h fun x20 h =>
 vop O (.pick (.k x16) (.k (kB true)) (.k x20)) h 21 fun x21 h =>
 R 2 [x0,x1,x21,(kI 0)] h))))
 (tcomp (kI (-1)) fun c0=>vfin true q [c0] h)
theorem e24_1(O:Oracle)(R:Jump)(q:Nat)(x0 x1 x5 x6:TVal)(h:Heap):b24_1 O R q x0 x1 x5 x6 h=stepF c24 O R q 1 [x0,x1,x5,x6] h:=by kernel_rfl
def b24_2(O:Oracle)(R:Jump)(q:Nat)(x0 x1 x5 x6:TVal)(h:Heap):Res1 :=
 vbin .add 0 x1 (kI 1) h fun x55 h =>
 R 1 [x0,x55,x5,x6] h
theorem e24_2(O:Oracle)(R:Jump)(q:Nat)(x0 x1 x5 x6:TVal)(h:Heap):b24_2 O R q x0 x1 x5 x6 h=stepF c24 O R q 2 [x0,x1,x5,x6] h:=by kernel_rfl
def d24:BlkF:=fun O R Q=>[.s fun a => .s fun b => .z (b24_0 O R Q a b),.s fun a => .s fun b => .s fun c => .s fun d => .z (b24_1 O R Q a b c d),.s fun a => .s fun b => .s fun c => .s fun d => .z (b24_2 O R Q a b c d)]
theorem o24(O:Oracle)(R:Jump)(q:Nat):HoldsAll c24 O R q 0 (d24 O R q):=⟨e24_0 O R q,e24_1 O R q,e24_2 O R q,trivial⟩
def c25:MFunc:=mkM (compF Tryz.prog (globs2 tabs opq) (fun _=>false) true Tryz.f25) (.s .n (.s .n (.s .n (.s .n (.s (.k (.l 1 [0,4,5] .n)) (.m 2 [4] .n))))))
def b25_0(O:Oracle)(R:Jump)(q:Nat)(x0:TVal)(h:Heap):Res1 :=
 vlen O 0 x0 h 10 fun x10 h =>
 vbin .gtr 0 x10 (kI 1500) h fun x11 h =>
 vif x11 (
 tcomp (.v (.c (.p .nilslice))) fun c0=>tcomp (kI 4) fun c1=>vfin true q [c0,c1] h)
 (R 1 [x0,(.v (.c (.p .nilslice))),(kI 0)] h)
theorem e25_0(O:Oracle)(R:Jump)(q:Nat)(x0:TVal)(h:Heap):b25_0 O R q x0 h=stepF c25 O R q 0 [x0] h:=by kernel_rfl
def b25_1(O:Oracle)(R:Jump)(q:Nat)(x0 x4 x5:TVal)(h:Heap):Res1 :=
 vlen O 0 x0 h 14 fun x14 h =>
 vbin .lss 0 x5 x14 h fun x15 h =>
 vif x15 (
 vindex x0 x5 h fun x18 h =>
 vcall O (.v (.c (.func 47 []))) [x18] h 19 fun x19 h =>
 vif x19 (
 vbin .add 0 x5 (kI 1) h fun x21 h =>
 R 1 [x0,x4,x21] h)
 (vcall O (.v (.c (.func 48 []))) [x0,x5] h 25 fun x25 h =>
 vext x25 0 h fun x26 h =>
 vext x25 1 h fun x27 h =>
 vext x25 2 h fun x28 h =>
 vop O (.alloc [(.p (.int .i64 0)),(.p (.str [])),(.p (.int .i64 0)),(.p (.int .i64 0))] false) h 6 fun x6 h =>
 vstore 4 x6 x26 h fun _ h =>
 vbin .neq 0 x28 (kI 0) h fun x30 h =>
 vif x30 (
 tcomp (.v (.c (.p .nilslice))) fun c0=>tcomp x28 fun c1=>vfin true q [c0,c1] h)
 (vload true 4 x6 h fun x33 h =>
 vop O (.bslice 4 1 [(.p (.int .i64 0)),(.p (.str [])),(.p (.int .i64 0)),(.p (.int .i64 0))] [(0,(.k x33))] false) h 34 fun x34 h =>
 vop O (.append 4 40 false (.k x4) (.k x34)) h 35 fun x35 h =>
 R 1 [x0,x35,x27] h)))
 (R 2 [x4] h)
theorem e25_1(O:Oracle)(R:Jump)(q:Nat)(x0 x4 x5:TVal)(h:Heap):b25_1 O R q x0 x4 x5 h=stepF c25 O R q 1 [x0,x4,x5] h:=by kernel_rfl
def b25_2(O:Oracle)(R:Jump)(q:Nat)(x4:TVal)(h:Heap):Res1 :=
 vlen O 2 x4 h 38 fun x38 h =>
 vbin .gtr 0 x38 (kI 400) h fun x39 h =>
 vif x39 (
 tcomp (.v (.c (.p .nilslice))) fun c0=>tcomp (kI 3) fun c1=>vfin true q [c0,c1] h)
 (tcomp x4 fun c0=>tcomp (kI 0) fun c1=>vfin true q [c0,c1] h)
theorem e25_2(O:Oracle)(R:Jump)(q:Nat)(x4:TVal)(h:Heap):b25_2 O R q x4 h=stepF c25 O R q 2 [x4] h:=by kernel_rfl
def d25:BlkF:=fun O R Q=>[.s fun a => .z (b25_0 O R Q a),.s fun a => .s fun b => .s fun c => .z (b25_1 O R Q a b c),.s fun a => .z (b25_2 O R Q a)]
theorem o25(O:Oracle)(R:Jump)(q:Nat):HoldsAll c25 O R q 0 (d25 O R q):=⟨e25_0 O R q,e25_1 O R q,e25_2 O R q,trivial⟩
def c26:MFunc:=mkM (compF Tryz.prog (globs2 tabs opq) (fun _=>false) true Tryz.f26) .n
def b26_0(O:Oracle)(R:Jump)(q:Nat)(x0 x1:TVal)(h:Heap):Res1 :=
 vop O (.nilck (.k x0)) h 6 fun x6 h =>
 vfaddr 2 x6 h fun x7 h =>
 vload false 1 x7 h fun x8 h =>
 vbin .eql 0 x8 (kI 0) h fun x9 h =>
 vguard x9 true (fun kk=>kk x0 h) h fun x11 h =>
 vguard x9 true (fun kk=>vop O (.nilck (.k x11)) h 12 kk) h fun x12 h =>
 vguard x9 true (fun kk=>vfaddr 1 x12 h kk) h fun x13 h =>
 vguard x9 true (fun kk=>vload false 1 x13 h kk) h fun x14 h =>
 vguard x9 true (fun kk=>kk x0 h) h fun x15 h =>
 vguard x9 true (fun kk=>vop O (.nilck (.k x15)) h 16 kk) h fun x16 h =>
 vguard x9 true (fun kk=>vfaddr 0 x16 h kk) h fun x17 h =>
 vguard x9 true (fun kk=>vload false 1 x17 h kk) h fun x18 h =>
 vguard x9 true (fun kk=>vlen O 2 x18 h 19 kk) h fun x19 h =>
 vguard x9 true (fun kk=>vbin .lss 0 x14 x19 h kk) h fun x20 h =>
 vop O (.pick (.k x9) (.k x20) (.k (kB false))) h 21 fun x21 h =>
 vguard x21 true (fun kk=>kk x0 h) h fun x23 h =>
 vguard x21 true (fun kk=>vop O (.nilck (.k x23)) h 24 kk) h fun x24 h =>
 vguard x21 true (fun kk=>vfaddr 0 x24 h kk) h fun x25 h =>
 vguard x21 true (fun kk=>vload false 1 x25 h kk) h fun x26 h =>
 vguard x21 true (fun kk=>kk x0 h) h fun x27 h =>
 vguard x21 true (fun kk=>vop O (.nilck (.k x27)) h 28 kk) h fun x28 h =>
 vguard x21 true (fun kk=>vfaddr 1 x28 h kk) h fun x29 h =>
 vguard x21 true (fun kk=>vload false 1 x29 h kk) h fun x30 h =>
 vguard x21 true (fun kk=>viaddr 4 x26 x30 h kk) h fun x31 h =>
 vguard x21 true (fun kk=>vfaddr 0 x31 h kk) h fun x32 h =>
 vguard x21 true (fun kk=>vload false 1 x32 h kk) h fun x33 h =>
 vguard x21 true (fun kk=>kk x1 h) h fun x34 h =>
 vguard x21 true (fun kk=>vbin .eql 0 x33 x34 h kk) h fun x35 h =>
 vop O (.pick (.k x21) (.k x35) (.k (kB false))) h 36 fun x36 h =>
 tcomp x36 fun c0=>vfin true q [c0] h
theorem e26_0(O:Oracle)(R:Jump)(q:Nat)(x0 x1:TVal)(h:Heap):b26_0 O R q x0 x1 h=stepF c26 O R q 0 [x0,x1] h:=by kernel_rfl
def d26:BlkF:=fun O R Q=>[.s fun a => .s fun b => .z (b26_0 O R Q a b)]
theorem o26(O:Oracle)(R:Jump)(q:Nat):HoldsAll c26 O R q 0 (d26 O R q):=⟨e26_0 O R q,trivial⟩
def c27:MFunc:=mkM (compF Tryz.prog (globs2 tabs opq) (fun _=>false) true Tryz.f27) (.s .n (.s (.s .n (.k (.s .n (.m 1 [4] .n)))) .n))
def b27_0(O:Oracle)(R:Jump)(q:Nat)(x0:TVal)(h:Heap):Res1 :=
 vbin .eql 0 x0 (kS [105,102]) h fun x5 h =>
 vif x5 (
 R 1 [x5] h)
 (vbin .eql 0 x0 (kS [119,105,116,104]) h fun x6 h =>
 vif x6 (
 R 1 [x6] h)
 (vbin .eql 0 x0 (kS [114,97,110,103,101]) h fun x7 h =>
 vif x7 (
 R 1 [x7] h)
 (vbin .eql 0 x0 (kS [109,97,116,99,104]) h fun x8 h =>
 vif x8 (
 R 1 [x8] h)
 (vbin .eql 0 x0 (kS [101,108,115,101]) h fun x9 h =>
 vif x9 (
 R 1 [x9] h)
 (vbin .eql 0 x0 (kS [101,110,100]) h fun x10 h =>
 vif x10 (
 R 1 [x10] h)
 (vbin .eql 0 x0 (kS [99,97,115,101]) h fun x11 h =>
 vif x11 (
 R 1 [x11] h)
 (vbin .eql 0 x0 (kS [116,101,109,112,108,97,116,101]) h fun x12 h =>
 vif x12 (
 R 1 [x12] h)
 (vbin .eql 0 x0 (kS [100,101,102,105,110,101]) h fun x13 h =>
 vif x13 (
 R 1 [x13] h)
 (vbin .eql 0 x0 (kS [116,114,117,101]) h fun x14 h =>
 vif x14 (
 R 1 [x14] h)
 (vbin .eql 0 x0 (kS [102,97,108,115,101]) h fun x15 h =>
 R 1 [x15] h))))))))))
theorem e27_0(O:Oracle)(R:Jump)(q:Nat)(x0:TVal)(h:Heap):b27_0 O R q x0 h=stepF c27 O R q 0 [x0] h:=by kernel_rfl
def b27_1(O:Oracle)(R:Jump)(q:Nat)(x4:TVal)(h:Heap):Res1 :=
 vif x4 (
 tcomp (kB true) fun c0=>vfin true q [c0] h)
 (tcomp (kB false) fun c0=>vfin true q [c0] h)
theorem e27_1(O:Oracle)(R:Jump)(q:Nat)(x4:TVal)(h:Heap):b27_1 O R q x4 h=stepF c27 O R q 1 [x4] h:=by kernel_rfl
def d27:BlkF:=fun O R Q=>[.s fun a => .z (b27_0 O R Q a),.s fun a => .z (b27_1 O R Q a)]
theorem o27(O:Oracle)(R:Jump)(q:Nat):HoldsAll c27 O R q 0 (d27 O R q):=⟨e27_0 O R q,e27_1 O R q,trivial⟩
def c29:MFunc:=mkM (compF Tryz.prog (globs2 tabs opq) (fun _=>false) true Tryz.f29) (.s .n (.s .n (.s (.k (.l 1 [0,1,5] .n)) .n)))
def b29_0(O:Oracle)(R:Jump)(q:Nat)(x0 x1:TVal)(h:Heap):Res1 :=
 vcall O (.v (.c (.func 49 []))) [x0,x1] h 8 fun x8 h =>
 vop O (.bslice 1 1 [(.p .nilslice)] [(0,(.k x8))] false) h 9 fun x9 h =>
 R 1 [x0,x1,x9] h
theorem e29_0(O:Oracle)(R:Jump)(q:Nat)(x0 x1:TVal)(h:Heap):b29_0 O R q x0 x1 h=stepF c29 O R q 0 [x0,x1] h:=by kernel_rfl
def b29_1(O:Oracle)(R:Jump)(q:Nat)(x0 x1 x5:TVal)(h:Heap):Res1 :=
 vcall O (.v (.c (.func 31 []))) [x0,(kS [124])] h 11 fun x11 h =>
 vif x11 (
 vop O (.nilck (.k x0)) h 13 fun x13 h =>
 vfaddr 1 x13 h fun x14 h =>
 vload false 1 x14 h fun x15 h =>
 vbin .add 0 x15 (kI 1) h fun x16 h =>
 vop O (.nilck (.k x0)) h 17 fun x17 h =>
 vfaddr 1 x17 h fun x18 h =>
 vstore 1 x18 x16 h fun _ h =>
 vcall O (.v (.c (.func 49 []))) [x0,x1] h 22 fun x22 h =>
 vop O (.bslice 1 1 [(.p .nilslice)] [(0,(.k x22))] false) h 23 fun x23 h =>
 vop O (.append 1 24 false (.k x5) (.k x23)) h 24 fun x24 h =>
 R 1 [x0,x1,x24] h)
 (tcomp x5 fun c0=>vfin true q [c0] h)
theorem e29_1(O:Oracle)(R:Jump)(q:Nat)(x0 x1 x5:TVal)(h:Heap):b29_1 O R q x0 x1 x5 h=stepF c29 O R q 1 [x0,x1,x5] h:=by kernel_rfl
def d29:BlkF:=fun O R Q=>[.s fun a => .s fun b => .z (b29_0 O R Q a b),.s fun a => .s fun b => .s fun c => .z (b29_1 O R Q a b c)]
theorem o29(O:Oracle)(R:Jump)(q:Nat):HoldsAll c29 O R q 0 (d29 O R q):=⟨e29_0 O R q,e29_1 O R q,trivial⟩
def c30:MFunc:=mkM (compF Tryz.prog (globs2 tabs opq) (fun _=>false) true Tryz.f30) .n
def b30_0(O:Oracle)(R:Jump)(q:Nat)(x0 x1:TVal)(h:Heap):Res1 :=
 vop O (.alloc [(.p (.int .i64 0)),(.p (.str [])),(.p (.int .i64 0)),(.p (.int .i64 0))] false) h 4 fun x4 h =>
 vcall O (.v (.c (.func 26 []))) [x0,x1] h 7 fun x7 h =>
 vop O (.un .not (.k x7)) h 8 fun x8 h =>
 vif x8 (
 vcall O (.v (.c (.func 50 []))) [x0,(kI 12)] h 10 fun x10 h =>
 vop O (.build [(.p (.int .i64 0)),(.p (.str [])),(.p (.int .i64 0)),(.p (.int .i64 0))] []) h 11 fun x11 h =>
 vstore 4 x4 x11 h fun _ h =>
 vcell true 4 x4 h fun c0=>vfin true q [c0] h)
 (vop O (.nilck (.k x0)) h 13 fun x13 h =>
 vfaddr 1 x13 h fun x14 h =>
 vload false 1 x14 h fun x15 h =>
 vbin .add 0 x15 (kI 1) h fun x16 h =>
 vop O (.nilck (.k x0)) h 17 fun x17 h =>
 vfaddr 1 x17 h fun x18 h =>
 vstore 1 x18 x16 h fun _ h =>
 vop O (.nilck (.k x0)) h 20 fun x20 h =>
 vfaddr 0 x20 h fun x21 h =>
 vload false 1 x21 h fun x22 h =>
 vop O (.nilck (.k x0)) h 24 fun x24 h =>
 vfaddr 1 x24 h fun x25 h =>
 vload false 1 x25 h fun x26 h =>
 vbin .sub 0 x26 (kI 1) h fun x27 h =>
 viaddr 4 x22 x27 h fun x28 h =>
 vload true 4 x28 h fun x29 h =>
 vstore 4 x4 x29 h fun _ h =>
 vcell true 4 x4 h fun c0=>vfin true q [c0] h)
theorem e30_0(O:Oracle)(R:Jump)(q:Nat)(x0 x1:TVal)(h:Heap):b30_0 O R q x0 x1 h=stepF c30 O R q 0 [x0,x1] h:=by kernel_rfl
def d30:BlkF:=fun O R Q=>[.s fun a => .s fun b => .z (b30_0 O R Q a b)]
theorem o30(O:Oracle)(R:Jump)(q:Nat):HoldsAll c30 O R q 0 (d30 O R q):=⟨e30_0 O R q,trivial⟩
def c31:MFunc:=mkM (compF Tryz.prog (globs2 tabs opq) (fun _=>false) true Tryz.f31) .n
def b31_0(O:Oracle)(R:Jump)(q:Nat)(x0 x1:TVal)(h:Heap):Res1 :=
 vop O (.nilck (.k x0)) h 6 fun x6 h =>
 vfaddr 2 x6 h fun x7 h =>
 vload false 1 x7 h fun x8 h =>
 vbin .eql 0 x8 (kI 0) h fun x9 h =>
 vguard x9 true (fun kk=>kk x0 h) h fun x11 h =>
 vguard x9 true (fun kk=>vop O (.nilck (.k x11)) h 12 kk) h fun x12 h =>
 vguard x9 true (fun kk=>vfaddr 1 x12 h kk) h fun x13 h =>
 vguard x9 true (fun kk=>vload false 1 x13 h kk) h fun x14 h =>
 vguard x9 true (fun kk=>kk x0 h) h fun x15 h =>
 vguard x9 true (fun kk=>vop O (.nilck (.k x15)) h 16 kk) h fun x16 h =>
 vguard x9 true (fun kk=>vfaddr 0 x16 h kk) h fun x17 h =>
 vguard x9 true (fun kk=>vload false 1 x17 h kk) h fun x18 h =>
 vguard x9 true (fun kk=>vlen O 2 x18 h 19 kk) h fun x19 h =>
 vguard x9 true (fun kk=>vbin .lss 0 x14 x19 h kk) h fun x20 h =>
 vop O (.pick (.k x9) (.k x20) (.k (kB false))) h 21 fun x21 h =>
 vguard x21 true (fun kk=>kk x0 h) h fun x23 h =>
 vguard x21 true (fun kk=>vop O (.nilck (.k x23)) h 24 kk) h fun x24 h =>
 vguard x21 true (fun kk=>vfaddr 0 x24 h kk) h fun x25 h =>
 vguard x21 true (fun kk=>vload false 1 x25 h kk) h fun x26 h =>
 vguard x21 true (fun kk=>kk x0 h) h fun x27 h =>
 vguard x21 true (fun kk=>vop O (.nilck (.k x27)) h 28 kk) h fun x28 h =>
 vguard x21 true (fun kk=>vfaddr 1 x28 h kk) h fun x29 h =>
 vguard x21 true (fun kk=>vload false 1 x29 h kk) h fun x30 h =>
 vguard x21 true (fun kk=>viaddr 4 x26 x30 h kk) h fun x31 h =>
 vguard x21 true (fun kk=>vfaddr 0 x31 h kk) h fun x32 h =>
 vguard x21 true (fun kk=>vload false 1 x32 h kk) h fun x33 h =>
 vguard x21 true (fun kk=>vbin .eql 0 x33 (kI 4) h kk) h fun x34 h =>
 vop O (.pick (.k x21) (.k x34) (.k (kB false))) h 35 fun x35 h =>
 vguard x35 true (fun kk=>kk x0 h) h fun x37 h =>
 vguard x35 true (fun kk=>vop O (.nilck (.k x37)) h 38 kk) h fun x38 h =>
 vguard x35 true (fun kk=>vfaddr 0 x38 h kk) h fun x39 h =>
 vguard x35 true (fun kk=>vload false 1 x39 h kk) h fun x40 h =>
 vguard x35 true (fun kk=>kk x0 h) h fun x41 h =>
 vguard x35 true (fun kk=>vop O (.nilck (.k x41)) h 42 kk) h fun x42 h =>
 vguard x35 true (fun kk=>vfaddr 1 x42 h kk) h fun x43 h =>
 vguard x35 true (fun kk=>vload false 1 x43 h kk) h fun x44 h =>
 vguard x35 true (fun kk=>viaddr 4 x40 x44 h kk) h fun x45 h =>
 vguard x35 true (fun kk=>vfaddr 1 x45 h kk) h fun x46 h =>
 vguard x35 true (fun kk=>vload false 1 x46 h kk) h fun x47 h =>
 vguard x35 true (fun kk=>kk x1 h) h fun x48 h =>
 vguard x35 true (fun kk=>vbin .eql 0 x47 x48 h kk) h fun x49 h =>
 vop O (.pick (.k x35) (.k x49) (.k (kB false))) h 50 fun x50 h =>
 tcomp x50 fun c0=>vfin true q [c0] h
theorem e31_0(O:Oracle)(R:Jump)(q:Nat)(x0 x1:TVal)(h:Heap):b31_0 O R q x0 x1 h=stepF c31 O R q 0 [x0,x1] h:=by kernel_rfl
def d31:BlkF:=fun O R Q=>[.s fun a => .s fun b => .z (b31_0 O R Q a b)]
theorem o31(O:Oracle)(R:Jump)(q:Nat):HoldsAll c31 O R q 0 (d31 O R q):=⟨e31_0 O R q,trivial⟩
def c32:MFunc:=mkM (compF Tryz.prog (globs2 tabs opq) (fun _=>false) true Tryz.f32) (.s .n (.s .n (.m 1 [0] .n)))
def b32_0(O:Oracle)(R:Jump)(q:Nat)(x0:TVal)(h:Heap):Res1 :=
 vop O (.nilck (.k x0)) h 4 fun x4 h =>
 vfaddr 1 x4 h fun x5 h =>
 vload false 1 x5 h fun x6 h =>
 vop O (.nilck (.k x0)) h 8 fun x8 h =>
 vfaddr 0 x8 h fun x9 h =>
 vload false 1 x9 h fun x10 h =>
 vlen O 2 x10 h 11 fun x11 h =>
 vbin .lss 0 x6 x11 h fun x12 h =>
 vif x12 (
 vcall O (.v (.c (.func 50 []))) [x0,(kI 12)] h 14 fun x14 h =>
 R 1 [x0] h)
 (R 1 [x0] h)
theorem e32_0(O:Oracle)(R:Jump)(q:Nat)(x0:TVal)(h:Heap):b32_0 O R q x0 h=stepF c32 O R q 0 [x0] h:=by kernel_rfl
def b32_1(O:Oracle)(R:Jump)(q:Nat)(x0:TVal)(h:Heap):Res1 :=
 vop O (.nilck (.k x0)) h 16 fun x16 h =>
 vfaddr 2 x16 h fun x17 h =>
 vload false 1 x17 h fun x18 h =>
 tcomp x18 fun c0=>vfin true q [c0] h
theorem e32_1(O:Oracle)(R:Jump)(q:Nat)(x0:TVal)(h:Heap):b32_1 O R q x0 h=stepF c32 O R q 1 [x0] h:=by kernel_rfl
def d32:BlkF:=fun O R Q=>[.s fun a => .z (b32_0 O R Q a),.s fun a => .z (b32_1 O R Q a)]
theorem o32(O:Oracle)(R:Jump)(q:Nat):HoldsAll c32 O R q 0 (d32 O R q):=⟨e32_0 O R q,e32_1 O R q,trivial⟩
def c33:MFunc:=mkM (compF Tryz.prog (globs2 tabs opq) (fun n=>Nat.blt n 1000000) true Tryz.f33) (.s .n (.s (.s .n (.k (.s .n (.s .n (.s .n (.m 1 [0,1,5,7,14] (.s .n (.s .n (.m 2 [0,1,5,7,22] .n))))))))) (.m 3 [0,5] .n)))
def b33_0(O:Oracle)(R:Jump)(q:Nat)(x0 x1 x2:TVal)(h:Heap):Res1 :=
 vop O (.box (.k x2) true) h 5 fun x5 h =>
 vbin .eql 0 x1 (kS [109,97,116,99,104]) h fun x9 h =>
 vif x9 (
 vload true 9 x5 h fun x12 h =>
 vcall O (.v (.c (.func 51 []))) [x0,x1,x12,(kI 3),(kS [])] h 13 fun x13 h =>
 tcomp x13 fun c0=>vfin true q [c0] h)
 (vbin .eql 0 x1 (kS [105,102]) h fun x15 h =>
 vif x15 (
 R 1 [x0,x1,x5,x1,x15] h)
 (vbin .eql 0 x1 (kS [119,105,116,104]) h fun x16 h =>
 vif x16 (
 R 1 [x0,x1,x5,x1,x16] h)
 (vbin .eql 0 x1 (kS [114,97,110,103,101]) h fun x17 h =>
 R 1 [x0,x1,x5,x1,x17] h)))
theorem e33_0(O:Oracle)(R:Jump)(q:Nat)(x0 x1 x2:TVal)(h:Heap):b33_0 O R q x0 x1 x2 h=stepF c33 O R q 0 [x0,x1,x2] h:=by kernel_rfl
def b33_1(O:Oracle)(R:Jump)(q:Nat)(x0 x1 x5 x7 x14:TVal)(h:Heap):Res1 :=
 vif x14 (
 vload true 9 x5 h fun x20 h =>
 vcall O (.v (.c (.func 51 []))) [x0,x1,x20,(kI 0),(kS [])] h 21 fun x21 h =>
 tcomp x21 fun c0=>vfin true q [c0] h)
 (vbin .eql 0 x7 (kS [101,108,115,101]) h fun x23 h =>
 vif x23 (
 R 2 [x0,x1,x5,x7,x23] h)
 (vbin .eql 0 x7 (kS [99,97,115,101]) h fun x24 h =>
 R 2 [x0,x1,x5,x7,x24] h))
theorem e33_1(O:Oracle)(R:Jump)(q:Nat)(x0 x1 x5 x7 x14:TVal)(h:Heap):b33_1 O R q x0 x1 x5 x7 x14 h=stepF c33 O R q 1 [x0,x1,x5,x7,x14] h:=by kernel_rfl
def b33_2(O:Oracle)(R:Jump)(q:Nat)(x0 x1 x5 x7 x22:TVal)(h:Heap):Res1 :=
 vif x22 (
 vfaddr 3 x5 h fun x27 h =>
 vload false 1 x27 h fun x28 h =>
 vcall O (.v (.c (.func 52 []))) [x0,x1,x28] h 29 fun x29 h =>
 tcomp x29 fun c0=>vfin true q [c0] h)
 (vbin .eql 0 x7 (kS [101,110,100]) h fun x31 h =>
 vif x31 (
 vcall O (.v (.c (.func 53 []))) [x0] h 33 fun x33 h =>
 tcomp x33 fun c0=>vfin true q [c0] h)
 (vbin .eql 0 x7 (kS [100,101,102,105,110,101]) h fun x35 h =>
 vif x35 (
 vfaddr 3 x5 h fun x37 h =>
 vload false 1 x37 h fun x38 h =>
 vcall O (.v (.c (.func 54 []))) [x0,x38] h 39 fun x39 h =>
 tcomp x39 fun c0=>vfin true q [c0] h)
 (vbin .eql 0 x7 (kS [116,101,109,112,108,97,116,101]) h fun x41 h =>
 vif x41 (
 vop O (.nilck (.k x0)) h 43 fun x43 h =>
 vfaddr 0 x43 h fun x44 h =>
 vload false 1 x44 h fun x45 h =>
 vlen O 2 x45 h 46 fun x46 h =>
 vbin .gtr 0 x46 (kI 0) h fun x47 h =>
 vguard x47 true (fun kk=>kk x0 h) h fun x49 h =>
 vguard x47 true (fun kk=>vop O (.nilck (.k x49)) h 50 kk) h fun x50 h =>
 vguard x47 true (fun kk=>vfaddr 0 x50 h kk) h fun x51 h =>
 vguard x47 true (fun kk=>vload false 1 x51 h kk) h fun x52 h =>
 vguard x47 true (fun kk=>kk x0 h) h fun x53 h =>
 vguard x47 true (fun kk=>vop O (.nilck (.k x53)) h 54 kk) h fun x54 h =>
 vguard x47 true (fun kk=>vfaddr 0 x54 h kk) h fun x55 h =>
 vguard x47 true (fun kk=>vload false 1 x55 h kk) h fun x56 h =>
 vguard x47 true (fun kk=>vlen O 2 x56 h 57 kk) h fun x57 h =>
 vguard x47 true (fun kk=>vbin .sub 0 x57 (kI 1) h kk) h fun x58 h =>
 vguard x47 true (fun kk=>viaddr 12 x52 x58 h kk) h fun x59 h =>
 vguard x47 true (fun kk=>vfaddr 10 x59 h kk) h fun x60 h =>
 vguard x47 true (fun kk=>vload false 1 x60 h kk) h fun x61 h =>
 vguard x47 true (fun kk=>vbin .eql 0 x61 (kI 3) h kk) h fun x62 h =>
 vop O (.pick (.k x47) (.k x62) (.k (kB false))) h 63 fun x63 h =>
 vif x63 (
 tcomp (kI 12) fun c0=>vfin true q [c0] h)
 (vfaddr 3 x5 h fun x64 h =>
 vload false 1 x64 h fun x65 h =>
 vcall O (.v (.c (.func 55 []))) [x65] h 66 fun x66 h =>
 vop O (.un .not (.k x66)) h 67 fun x67 h =>
 vif x67 (
 tcomp (kI 15) fun c0=>vfin true q [c0] h)
 (R 3 [x0,x5] h)))
 (R 3 [x0,x5] h))))
theorem e33_2(O:Oracle)(R:Jump)(q:Nat)(x0 x1 x5 x7 x22:TVal)(h:Heap):b33_2 O R q x0 x1 x5 x7 x22 h=stepF c33 O R q 2 [x0,x1,x5,x7,x22] h:=by kernel_rfl
def b33_3(O:Oracle)(R:Jump)(q:Nat)(x0 x5:TVal)(h:Heap):Res1 :=
 vload true 9 x5 h fun x69 h =>
 vcall O (.v (.c (.func 34 []))) [x0,x69] h 70 fun x70 h =>
 vop O (.un .not (.k x70)) h 71 fun x71 h =>
 vif x71 (
 tcomp (kI 12) fun c0=>vfin true q [c0] h)
 (tcomp (kI 0) fun c0=>vfin true q [c0] h)
theorem e33_3(O:Oracle)(R:Jump)(q:Nat)(x0 x5:TVal)(h:Heap):b33_3 O R q x0 x5 h=stepF c33 O R q 3 [x0,x5] h:=by kernel_rfl
def d33:BlkF:=fun O R Q=>[.s fun a => .s fun b => .s fun c => .z (b33_0 O R Q a b c),.s fun a => .s fun b => .s fun c => .s fun d => .s fun e => .z (b33_1 O R Q a b c d e),.s fun a => .s fun b => .s fun c => .s fun d => .s fun e => .z (b33_2 O R Q a b c d e),.s fun a => .s fun b => .z (b33_3 O R Q a b)]
theorem o33(O:Oracle)(R:Jump)(q:Nat):HoldsAll c33 O R q 0 (d33 O R q):=⟨e33_0 O R q,e33_1 O R q,e33_2 O R q,e33_3 O R q,trivial⟩
def c34:MFunc:=mkM (compF Tryz.prog (globs2 tabs opq) (fun n=>Nat.blt n 1000000) true Tryz.f34) .n
def b34_0(O:Oracle)(R:Jump)(q:Nat)(x0 x1:TVal)(h:Heap):Res1 :=
 vop O (.box (.k x1) true) h 3 fun x3 h =>
 vop O (.nilck (.k x0)) h 8 fun x8 h =>
 vfaddr 0 x8 h fun x9 h =>
 vload false 1 x9 h fun x10 h =>
 vlen O 2 x10 h 11 fun x11 h =>
 vbin .eql 0 x11 (kI 0) h fun x12 h =>
 vif x12 (
 vtouch O (.mv (.k x0)) h 13 fun x13 h t0 =>
 vtouch O (.nilck (.k x13)) h 14 fun x14 h t1 =>
 vtouch O (.faddr 1 (.k x14)) h 15 fun x15 h t2 =>
 vtouch O (.load false 1 (.k x15)) h 16 fun x16 h t3 =>
 vtouch O (.load true 9 (.k x3)) h 17 fun x17 h t4 =>
 vtouch O (.len 2 (.k x16)) h 18 fun x18 h t5 =>
 vtouch O (.bslice 9 1 [(.p (.int .i64 0)),(.p (.int .i64 0)),(.p (.str [])),(.p (.str [])),(.p .nilslice),(.p .nilslice),(.p .nilslice),(.p (.bool false)),(.p .nilslice)] [(0,(.k (.v (.agg [(.p (.int .i64 0)),(.p (.int .i64 0)),(.p (.str [])),(.p (.str [])),(.p .nilslice),(.p .nilslice),(.p .nilslice),(.p (.bool false)),(.p .nilslice)]))))] true) h 19 fun x19 h t6 =>
 vtouch O (.append 9 152 true (.k x16) (.k x19)) h 20 fun x20 h t7 =>
 vtouch O (.iaddr 9 (.k x20) (.k x18)) h 21 fun x21 h t8 =>
 vtouch O (.store 9 (.k x21) (.k x17)) h 1000000 fun _ h t9 =>
 vtouch O (.nilck (.k x13)) h 22 fun x22 h t10 =>
 vtouch O (.faddr 1 (.k x22)) h 23 fun x23 h t11 =>
 vtouch O (.store 1 (.k x23) (.k x20)) h 1000000 fun _ h t12 =>
 bif apartAll [t0,t1,t2,t3,t4,t5,t6,t7,t8,t9,t10,t11,t12] [(3,6),(4,6),(5,6),(9,12)] then
 tcomp (kB true) fun c0=>vfin true q [c0] h
 else none)
 (vop O (.nilck (.k x0)) h 25 fun x25 h =>
 vfaddr 0 x25 h fun x26 h =>
 vload false 1 x26 h fun x27 h =>
 vop O (.nilck (.k x0)) h 29 fun x29 h =>
 vfaddr 0 x29 h fun x30 h =>
 vload false 1 x30 h fun x31 h =>
 vlen O 2 x31 h 32 fun x32 h =>
 vbin .sub 0 x32 (kI 1) h fun x33 h =>
 viaddr 12 x27 x33 h fun x34 h =>
 vop O (.nilck (.k x34)) h 36 fun x36 h =>
 vfaddr 10 x36 h fun x37 h =>
 vload false 1 x37 h fun x38 h =>
 vbin .eql 0 x38 (kI 0) h fun x40 h =>
 vif x40 (
 vtouch O (.mv (.k x34)) h 41 fun x41 h t0 =>
 vtouch O (.nilck (.k x41)) h 42 fun x42 h t1 =>
 vtouch O (.faddr 1 (.k x42)) h 43 fun x43 h t2 =>
 vtouch O (.faddr 5 (.k x43)) h 44 fun x44 h t3 =>
 vtouch O (.load false 1 (.k x44)) h 45 fun x45 h t4 =>
 vtouch O (.load true 9 (.k x3)) h 46 fun x46 h t5 =>
 vtouch O (.len 2 (.k x45)) h 47 fun x47 h t6 =>
 vtouch O (.bslice 9 1 [(.p (.int .i64 0)),(.p (.int .i64 0)),(.p (.str [])),(.p (.str [])),(.p .nilslice),(.p .nilslice),(.p .nilslice),(.p (.bool false)),(.p .nilslice)] [(0,(.k (.v (.agg [(.p (.int .i64 0)),(.p (.int .i64 0)),(.p (.str [])),(.p (.str [])),(.p .nilslice),(.p .nilslice),(.p .nilslice),(.p (.bool false)),(.p .nilslice)]))))] true) h 48 fun x48 h t7 =>
 vtouch O (.append 9 152 true (.k x45) (.k x48)) h 49 fun x49 h t8 =>
 vtouch O (.iaddr 9 (.k x49) (.k x47)) h 50 fun x50 h t9 =>
 vtouch O (.store 9 (.k x50) (.k x46)) h 1000000 fun _ h t10 =>
 vtouch O (.nilck (.k x41)) h 51 fun x51 h t11 =>
 vtouch O (.faddr 1 (.k x51)) h 52 fun x52 h t12 =>
 vtouch O (.faddr 5 (.k x52)) h 53 fun x53 h t13 =>
 vtouch O (.store 1 (.k x53) (.k x49)) h 1000000 fun _ h t14 =>
 bif apartAll [t0,t1,t2,t3,t4,t5,t6,t7,t8,t9,t10,t11,t12,t13,t14] [(4,7),(5,7),(6,7),(10,14)] then
 tcomp (kB true) fun c0=>vfin true q [c0] h
 else none)
 (vbin .eql 0 x38 (kI 1) h fun x55 h =>
 vif x55 (
 vtouch O (.mv (.k x34)) h 56 fun x56 h t0 =>
 vtouch O (.nilck (.k x56)) h 57 fun x57 h t1 =>
 vtouch O (.faddr 1 (.k x57)) h 58 fun x58 h t2 =>
 vtouch O (.faddr 6 (.k x58)) h 59 fun x59 h t3 =>
 vtouch O (.load false 1 (.k x59)) h 60 fun x60 h t4 =>
 vtouch O (.load true 9 (.k x3)) h 61 fun x61 h t5 =>
 vtouch O (.len 2 (.k x60)) h 62 fun x62 h t6 =>
 vtouch O (.bslice 9 1 [(.p (.int .i64 0)),(.p (.int .i64 0)),(.p (.str [])),(.p (.str [])),(.p .nilslice),(.p .nilslice),(.p .nilslice),(.p (.bool false)),(.p .nilslice)] [(0,(.k (.v (.agg [(.p (.int .i64 0)),(.p (.int .i64 0)),(.p (.str [])),(.p (.str [])),(.p .nilslice),(.p .nilslice),(.p .nilslice),(.p (.bool false)),(.p .nilslice)]))))] true) h 63 fun x63 h t7 =>
 vtouch O (.append 9 152 true (.k x60) (.k x63)) h 64 fun x64 h t8 =>
 vtouch O (.iaddr 9 (.k x64) (.k x62)) h 65 fun x65 h t9 =>
 vtouch O (.store 9 (.k x65) (.k x61)) h 1000000 fun _ h t10 =>
 vtouch O (.nilck (.k x56)) h 66 fun x66 h t11 =>
 vtouch O (.faddr 1 (.k x66)) h 67 fun x67 h t12 =>
 vtouch O (.faddr 6 (.k x67)) h 68 fun x68 h t13 =>
 vtouch O (.store 1 (.k x68) (.k x64)) h 1000000 fun _ h t14 =>
 bif apartAll [t0,t1,t2,t3,t4,t5,t6,t7,t8,t9,t10,t11,t12,t13,t14] [(4,7),(5,7),(6,7),(10,14)] then
 tcomp (kB true) fun c0=>vfin true q [c0] h
 else none)
 (vbin .eql 0 x38 (kI 2) h fun x70 h =>
 vif x70 (
 vop O (.nilck (.k x34)) h 72 fun x72 h =>
 vfaddr 1 x72 h fun x73 h =>
 vfaddr 8 x73 h fun x74 h =>
 vload false 1 x74 h fun x75 h =>
 vop O (.nilck (.k x34)) h 77 fun x77 h =>
 vfaddr 1 x77 h fun x78 h =>
 vfaddr 8 x78 h fun x79 h =>
 vload false 1 x79 h fun x80 h =>
 vlen O 2 x80 h 81 fun x81 h =>
 vbin .sub 0 x81 (kI 1) h fun x82 h =>
 viaddr 2 x75 x82 h fun x83 h =>
 vtouch O (.mv (.k x83)) h 84 fun x84 h t0 =>
 vtouch O (.nilck (.k x84)) h 85 fun x85 h t1 =>
 vtouch O (.faddr 1 (.k x85)) h 86 fun x86 h t2 =>
 vtouch O (.load false 1 (.k x86)) h 87 fun x87 h t3 =>
 vtouch O (.load true 9 (.k x3)) h 88 fun x88 h t4 =>
 vtouch O (.len 2 (.k x87)) h 89 fun x89 h t5 =>
 vtouch O (.bslice 9 1 [(.p (.int .i64 0)),(.p (.int .i64 0)),(.p (.str [])),(.p (.str [])),(.p .nilslice),(.p .nilslice),(.p .nilslice),(.p (.bool false)),(.p .nilslice)] [(0,(.k (.v (.agg [(.p (.int .i64 0)),(.p (.int .i64 0)),(.p (.str [])),(.p (.str [])),(.p .nilslice),(.p .nilslice),(.p .nilslice),(.p (.bool false)),(.p .nilslice)]))))] true) h 90 fun x90 h t6 =>
 vtouch O (.append 9 152 true (.k x87) (.k x90)) h 91 fun x91 h t7 =>
 vtouch O (.iaddr 9 (.k x91) (.k x89)) h 92 fun x92 h t8 =>
 vtouch O (.store 9 (.k x92) (.k x88)) h 1000000 fun _ h t9 =>
 vtouch O (.nilck (.k x84)) h 93 fun x93 h t10 =>
 vtouch O (.faddr 1 (.k x93)) h 94 fun x94 h t11 =>
 vtouch O (.store 1 (.k x94) (.k x91)) h 1000000 fun _ h t12 =>
 bif apartAll [t0,t1,t2,t3,t4,t5,t6,t7,t8,t9,t10,t11,t12] [(3,6),(4,6),(5,6),(9,12)] then
 tcomp (kB true) fun c0=>vfin true q [c0] h
 else none)
 (tcomp (kB false) fun c0=>vfin true q [c0] h))))
theorem e34_0(O:Oracle)(R:Jump)(q:Nat)(x0 x1:TVal)(h:Heap):b34_0 O R q x0 x1 h=stepF c34 O R q 0 [x0,x1] h:=by kernel_rfl
def d34:BlkF:=fun O R Q=>[.s fun a => .s fun b => .z (b34_0 O R Q a b)]
theorem o34(O:Oracle)(R:Jump)(q:Nat):HoldsAll c34 O R q 0 (d34 O R q):=⟨e34_0 O R q,trivial⟩
def c36:MFunc:=mkM (compF Tryz.prog (globs2 tabs opq) (fun _=>false) true Tryz.f36) .n
def b36_0(O:Oracle)(R:Jump)(q:Nat)(x0:TVal)(h:Heap):Res1 :=
 vop O (.nilck (.k x0)) h 4 fun x4 h =>
 vfaddr 6 x4 h fun x5 h =>
 vload false 1 x5 h fun x6 h =>
 vop O (.nilck (.k x0)) h 8 fun x8 h =>
 vfaddr 0 x8 h fun x9 h =>
 vfaddr 0 x9 h fun x10 h =>
 vload false 1 x10 h fun x11 h =>
 vbin .geq 0 x6 x11 h fun x12 h =>
 vif x12 (
 tcomp (kI 36) fun c0=>vfin true q [c0] h)
 (vop O (.nilck (.k x0)) h 14 fun x14 h =>
 vfaddr 6 x14 h fun x15 h =>
 vload false 1 x15 h fun x16 h =>
 vbin .add 0 x16 (kI 1) h fun x17 h =>
 vop O (.nilck (.k x0)) h 18 fun x18 h =>
 vfaddr 6 x18 h fun x19 h =>
 vstore 1 x19 x17 h fun _ h =>
 tcomp (kI 0) fun c0=>vfin true q [c0] h)
theorem e36_0(O:Oracle)(R:Jump)(q:Nat)(x0:TVal)(h:Heap):b36_0 O R q x0 h=stepF c36 O R q 0 [x0] h:=by kernel_rfl
def d36:BlkF:=fun O R Q=>[.s fun a => .z (b36_0 O R Q a)]
theorem o36(O:Oracle)(R:Jump)(q:Nat):HoldsAll c36 O R q 0 (d36 O R q):=⟨e36_0 O R q,trivial⟩
def c37:MFunc:=mkM (compF Tryz.prog (globs2 tabs opq) (fun _=>false) true Tryz.f37) .n
def b37_0(O:Oracle)(R:Jump)(q:Nat)(x0 x1:TVal)(h:Heap):Res1 :=
 vlen O 0 x1 h 7 fun x7 h =>
 vop O (.nilck (.k x0)) h 9 fun x9 h =>
 vfaddr 0 x9 h fun x10 h =>
 vfaddr 2 x10 h fun x11 h =>
 vload false 1 x11 h fun x12 h =>
 vop O (.nilck (.k x0)) h 14 fun x14 h =>
 vfaddr 5 x14 h fun x15 h =>
 vload false 1 x15 h fun x16 h =>
 vlen O 2 x16 h 17 fun x17 h =>
 vbin .sub 0 x12 x17 h fun x18 h =>
 vop O (.minmax false [(.k x7),(.k x18)]) h 19 fun x19 h =>
 vop O (.nilck (.k x0)) h 22 fun x22 h =>
 vfaddr 5 x22 h fun x23 h =>
 vload false 1 x23 h fun x24 h =>
 vop O (.slice 0 true (.k x1) none (some (.k x19)) none) h 27 fun x27 h =>
 vop O (.append 1 1 false (.k x24) (.k x27)) h 28 fun x28 h =>
 vop O (.nilck (.k x0)) h 29 fun x29 h =>
 vfaddr 5 x29 h fun x30 h =>
 vstore 1 x30 x28 h fun _ h =>
 vlen O 0 x1 h 33 fun x33 h =>
 vbin .lss 0 x19 x33 h fun x34 h =>
 vif x34 (
 tcomp (kI 34) fun c0=>vfin true q [c0] h)
 (tcomp (kI 0) fun c0=>vfin true q [c0] h)
theorem e37_0(O:Oracle)(R:Jump)(q:Nat)(x0 x1:TVal)(h:Heap):b37_0 O R q x0 x1 h=stepF c37 O R q 0 [x0,x1] h:=by kernel_rfl
def d37:BlkF:=fun O R Q=>[.s fun a => .s fun b => .z (b37_0 O R Q a b)]
theorem o37(O:Oracle)(R:Jump)(q:Nat):HoldsAll c37 O R q 0 (d37 O R q):=⟨e37_0 O R q,trivial⟩
def c38:MFunc:=mkM (compF Tryz.prog (globs2 tabs opq) (fun _=>false) true Tryz.f38) (.s .n (.s .n (.s (.s .n (.k (.l 1 [0,4,6,8,13,14,15] .n))) (.m 2 [6,8] .n))))
def b38_0(O:Oracle)(R:Jump)(q:Nat)(x0 x1 x2:TVal)(h:Heap):Res1 :=
 vop O (.box (.k x1) false) h 4 fun x4 h =>
 vop O (.alloc [(.p (.int .i64 0)),(.p (.bool false)),(.p (.int .i64 0)),(.p (.str [])),(.p .nilslice),(.p .nilslice)] false) h 6 fun x6 h =>
 vlen O 2 x2 h 14 fun x14 h =>
 R 1 [x0,x4,x6,(.v (.c (.p .nilslice))),x2,x14,(kI 0)] h
theorem e38_0(O:Oracle)(R:Jump)(q:Nat)(x0 x1 x2:TVal)(h:Heap):b38_0 O R q x0 x1 x2 h=stepF c38 O R q 0 [x0,x1,x2] h:=by kernel_rfl
def b38_1(O:Oracle)(R:Jump)(q:Nat)(x0 x4 x6 x8 x13 x14 x15:TVal)(h:Heap):Res1 :=
 vbin .lss 0 x15 x14 h fun x16 h =>
 vif x16 (
 viaddr 1 x13 x15 h fun x17 h =>
 vload true 1 x17 h fun x18 h =>
 vop O (.alloc [(.p .nilslice)] false) h 10 fun x10 h =>
 vstore 1 x10 x18 h fun _ h =>
 vload true 8 x4 h fun x21 h =>
 vload true 1 x10 h fun x22 h =>
 vcall O (.v (.c (.func 56 []))) [x0,x21,x22,x8] h 24 fun x24 h =>
 vext x24 0 h fun x25 h =>
 vext x24 1 h fun x26 h =>
 vop O (.alloc [(.p (.int .i64 0)),(.p (.bool false)),(.p (.int .i64 0)),(.p (.str [])),(.p .nilslice),(.p .nilslice)] false) h 11 fun x11 h =>
 vstore 6 x11 x25 h fun _ h =>
 vbin .neq 0 x26 (kI 0) h fun x28 h =>
 vif x28 (
 vop O (.build [(.p (.int .i64 0)),(.p (.bool false)),(.p (.int .i64 0)),(.p (.str [])),(.p .nilslice),(.p .nilslice)] []) h 29 fun x29 h =>
 vstore 6 x6 x29 h fun _ h =>
 vcell true 6 x6 h fun c0=>tcomp x26 fun c1=>vfin true q [c0,c1] h)
 (vload true 6 x11 h fun x31 h =>
 vop O (.bslice 6 1 [(.p (.int .i64 0)),(.p (.bool false)),(.p (.int .i64 0)),(.p (.str [])),(.p .nilslice),(.p .nilslice)] [(0,(.k x31))] false) h 32 fun x32 h =>
 vbin .add 0 x15 (kI 1) h fun x33 h =>
 R 1 [x0,x4,x6,x32,x13,x14,x33] h))
 (R 2 [x6,x8] h)
theorem e38_1(O:Oracle)(R:Jump)(q:Nat)(x0 x4 x6 x8 x13 x14 x15:TVal)(h:Heap):b38_1 O R q x0 x4 x6 x8 x13 x14 x15 h=stepF c38 O R q 1 [x0,x4,x6,x8,x13,x14,x15] h:=by kernel_rfl
def b38_2(O:Oracle)(R:Jump)(q:Nat)(x6 x8:TVal)(h:Heap):Res1 :=
 vlen O 2 x8 h 35 fun x35 h =>
 vbin .eql 0 x35 (kI 0) h fun x36 h =>
 vif x36 (
 vop O (.build [(.p (.int .i64 0)),(.p (.bool false)),(.p (.int .i64 0)),(.p (.str [])),(.p .nilslice),(.p .nilslice)] []) h 37 fun x37 h =>
 vstore 6 x6 x37 h fun _ h =>
 vcell true 6 x6 h fun c0=>tcomp (kI 12) fun c1=>vfin true q [c0,c1] h)
 (viaddr 6 x8 (kI 0) h fun x39 h =>
 vload true 6 x39 h fun x40 h =>
 vstore 6 x6 x40 h fun _ h =>
 vcell true 6 x6 h fun c0=>tcomp (kI 0) fun c1=>vfin true q [c0,c1] h)
theorem e38_2(O:Oracle)(R:Jump)(q:Nat)(x6 x8:TVal)(h:Heap):b38_2 O R q x6 x8 h=stepF c38 O R q 2 [x6,x8] h:=by kernel_rfl
def d38:BlkF:=fun O R Q=>[.s fun a => .s fun b => .s fun c => .z (b38_0 O R Q a b c),.s fun a => .s fun b => .s fun c => .s fun d => .s fun e => .s fun f => .s fun g => .z (b38_1 O R Q a b c d e f g),.s fun a => .s fun b => .z (b38_2 O R Q a b)]
theorem o38(O:Oracle)(R:Jump)(q:Nat):HoldsAll c38 O R q 0 (d38 O R q):=⟨e38_0 O R q,e38_1 O R q,e38_2 O R q,trivial⟩
def c39:MFunc:=mkM (compF Tryz.prog (globs2 tabs opq) (fun _=>false) true Tryz.f39) .n
def b39_0(O:Oracle)(R:Jump)(q:Nat)(x0 x1 x2 x3:TVal)(h:Heap):Res1 :=
 vop O (.box (.k x1) false) h 5 fun x5 h =>
 vop O (.box (.k x2) false) h 6 fun x6 h =>
 vop O (.box (.k x3) false) h 7 fun x7 h =>
 vfaddr 0 x6 h fun x10 h =>
 vload false 1 x10 h fun x11 h =>
 vbin .eql 0 x11 (kI 2) h fun x13 h =>
 vif x13 (
 vload true 6 x7 h fun x15 h =>
 vcall O (.v (.c (.func 57 []))) [x0,x15] h 16 fun x16 h =>
 tcomp x16 fun c0=>vfin true q [c0] h)
 (vbin .eql 0 x11 (kI 4) h fun x18 h =>
 vif x18 (
 vload true 8 x5 h fun x19 h =>
 vfaddr 3 x6 h fun x20 h =>
 vload false 1 x20 h fun x21 h =>
 vcall O (.v (.c (.func 58 []))) [x19,x21] h 22 fun x22 h =>
 vbin .eql 1 x22 (.v (.c (.p .nilptr))) h fun x24 h =>
 vif x24 (
 tcomp (kI 15) fun c0=>vfin true q [c0] h)
 (vload true 6 x7 h fun x26 h =>
 vop O (.nilck (.k x22)) h 27 fun x27 h =>
 vfaddr 1 x27 h fun x28 h =>
 vstore 6 x28 x26 h fun _ h =>
 tcomp (kI 0) fun c0=>vfin true q [c0] h))
 (vbin .eql 0 x11 (kI 5) h fun x30 h =>
 vif x30 (
 vfaddr 0 x7 h fun x31 h =>
 vload false 1 x31 h fun x32 h =>
 vbin .eql 0 x32 (kI 0) h fun x33 h =>
 vguard x33 false (fun kk=>vfaddr 0 x7 h kk) h fun x35 h =>
 vguard x33 false (fun kk=>vload false 1 x35 h kk) h fun x36 h =>
 vguard x33 false (fun kk=>vbin .eql 0 x36 (kI 1) h kk) h fun x37 h =>
 vguard x33 false (fun kk=>kk x37 h) h fun x38 h =>
 vguard x38 true (fun kk=>vfaddr 1 x7 h kk) h fun x39 h =>
 vguard x38 true (fun kk=>vload false 1 x39 h kk) h fun x40 h =>
 vguard x38 true (fun kk=>vop O (.un .not (.k x40)) h 41 kk) h fun x41 h =>
 vguard x33 false (fun kk=>vop O (.pick (.k x38) (.k x41) (.k (kB false))) h 42 kk) h fun x42 h =>
 vop O (.pick (.k x33) (.k (kB true)) (.k x42)) h 43 fun x43 h =>
 vif x43 (
 vload true 8 x5 h fun x45 h =>
 vfaddr 6 x6 h fun x46 h =>
 vload false 1 x46 h fun x47 h =>
 vcall O (.v (.c (.func 17 []))) [x0,x45,x47] h 48 fun x48 h =>
 tcomp x48 fun c0=>vfin true q [c0] h)
 (vload true 8 x5 h fun x50 h =>
 vfaddr 5 x6 h fun x51 h =>
 vload false 1 x51 h fun x52 h =>
 vcall O (.v (.c (.func 17 []))) [x0,x50,x52] h 53 fun x53 h =>
 tcomp x53 fun c0=>vfin true q [c0] h))
 (vbin .eql 0 x11 (kI 6) h fun x55 h =>
 vif x55 (
 vfaddr 0 x7 h fun x56 h =>
 vload false 1 x56 h fun x57 h =>
 vbin .eql 0 x57 (kI 0) h fun x58 h =>
 vif x58 (
 vload true 8 x5 h fun x60 h =>
 vfaddr 6 x6 h fun x61 h =>
 vload false 1 x61 h fun x62 h =>
 vcall O (.v (.c (.func 17 []))) [x0,x60,x62] h 63 fun x63 h =>
 tcomp x63 fun c0=>vfin true q [c0] h)
 (vtouch O (.mv (.k x0)) h 64 fun x64 h t0 =>
 vtouch O (.load true 8 (.k x5)) h 65 fun x65 h t1 =>
 vtouch O (.load true 6 (.k x7)) h 66 fun x66 h t2 =>
 vtouch O (.call (.k (.v (.c (.func 59 [])))) [(.k x65),(.k x66)]) h 67 fun x67 h t3 =>
 vtouch O (.faddr 5 (.k x6)) h 68 fun x68 h t4 =>
 vtouch O (.load false 1 (.k x68)) h 69 fun x69 h t5 =>
 vtouch O (.call (.k (.v (.c (.func 17 [])))) [(.k x64),(.k x67),(.k x69)]) h 70 fun x70 h t6 =>
 vtouch O (.mv (.k x70)) h 8 fun x8 h t7 =>
 bif apartAll [t0,t1,t2,t3,t4,t5,t6,t7] [(3,5)] then
 tcomp x8 fun c0=>vfin true q [c0] h
 else none))
 (vbin .eql 0 x11 (kI 7) h fun x72 h =>
 vif x72 (
 vload true 8 x5 h fun x74 h =>
 vload true 9 x6 h fun x75 h =>
 vload true 6 x7 h fun x76 h =>
 vcall O (.v (.c (.func 60 []))) [x0,x74,x75,x76] h 77 fun x77 h =>
 tcomp x77 fun c0=>vfin true q [c0] h)
 (vbin .eql 0 x11 (kI 8) h fun x79 h =>
 vif x79 (
 vload true 8 x5 h fun x81 h =>
 vload true 9 x6 h fun x82 h =>
 vload true 6 x7 h fun x83 h =>
 vcall O (.v (.c (.func 61 []))) [x0,x81,x82,x83] h 84 fun x84 h =>
 tcomp x84 fun c0=>vfin true q [c0] h)
 (vbin .eql 0 x11 (kI 9) h fun x86 h =>
 vif x86 (
 vload true 8 x5 h fun x88 h =>
 vfaddr 3 x6 h fun x89 h =>
 vload false 1 x89 h fun x90 h =>
 vload true 6 x7 h fun x91 h =>
 vcall O (.v (.c (.func 62 []))) [x0,x88,x90,x91] h 92 fun x92 h =>
 tcomp x92 fun c0=>vfin true q [c0] h)
 (tcomp (kI 0) fun c0=>vfin true q [c0] h)))))))
theorem e39_0(O:Oracle)(R:Jump)(q:Nat)(x0 x1 x2 x3:TVal)(h:Heap):b39_0 O R q x0 x1 x2 x3 h=stepF c39 O R q 0 [x0,x1,x2,x3] h:=by kernel_rfl
def d39:BlkF:=fun O R Q=>[.s fun a => .s fun b => .s fun c => .s fun d => .z (b39_0 O R Q a b c d)]
theorem o39(O:Oracle)(R:Jump)(q:Nat):HoldsAll c39 O R q 0 (d39 O R q):=⟨e39_0 O R q,trivial⟩
def c40:MFunc:=mkM (compF Tryz.prog (globs2 tabs opq) (fun _=>false) false Tryz.f40) .n
def b40_0(O:Oracle)(R:Jump)(q:Nat)(x0:TVal)(h:Heap):Res1 :=
 vbin .eql 2 x0 (.v (.c (.p .nilslice))) h fun x4 h =>
 vif x4 (
 tcomp (.v (.c (.p .nilslice))) fun c0=>vfin false q [c0] h)
 (vop O (.bslice 1 0 [(.p .nilptr)] [] false) h 5 fun x5 h =>
 vop O (.append 1 8 false (.k x5) (.k x0)) h 7 fun x7 h =>
 tcomp x7 fun c0=>vfin false q [c0] h)
theorem e40_0(O:Oracle)(R:Jump)(q:Nat)(x0:TVal)(h:Heap):b40_0 O R q x0 h=stepF c40 O R q 0 [x0] h:=by kernel_rfl
def d40:BlkF:=fun O R Q=>[.s fun a => .z (b40_0 O R Q a)]
theorem o40(O:Oracle)(R:Jump)(q:Nat):HoldsAll c40 O R q 0 (d40 O R q):=⟨e40_0 O R q,trivial⟩
def c41:MFunc:=mkM (compF Tryz.prog (globs2 tabs opq) (fun _=>false) true Tryz.f41) .n
def b41_0(O:Oracle)(R:Jump)(q:Nat)(x0 x1:TVal)(h:Heap):Res1 :=
 vop O (.box (.k x0) false) h 2 fun x2 h =>
 vop O (.alloc [(.p (.int .i64 0)),(.p (.bool false)),(.p (.int .i64 0)),(.p (.str [])),(.p .nilslice),(.p .nilslice)] false) h 4 fun x4 h =>
 vfaddr 4 x2 h fun x7 h =>
 vload false 1 x7 h fun x8 h =>
 vcall O (.v (.c (.func 63 []))) [x8,x1] h 10 fun x10 h =>
 vfaddr 0 x2 h fun x11 h =>
 vload false 1 x11 h fun x12 h =>
 vbin .neq 0 x12 (kI 5) h fun x13 h =>
 vguard x13 false (fun kk=>kk x10 h) h fun x15 h =>
 vguard x13 false (fun kk=>vbin .lss 0 x15 (kI 0) h kk) h fun x16 h =>
 vop O (.pick (.k x13) (.k (kB true)) (.k x16)) h 17 fun x17 h =>
 vguard x17 false (fun kk=>kk x10 h) h fun x19 h =>
 vguard x17 false (fun kk=>vfaddr 5 x2 h kk) h fun x20 h =>
 vguard x17 false (fun kk=>vload false 1 x20 h kk) h fun x21 h =>
 vguard x17 false (fun kk=>vlen O 2 x21 h 22 kk) h fun x22 h =>
 vguard x17 false (fun kk=>vbin .geq 0 x19 x22 h kk) h fun x23 h =>
 vop O (.pick (.k x17) (.k (kB true)) (.k x23)) h 24 fun x24 h =>
 vif x24 (
 vop O (.build [(.p (.int .i64 0)),(.p (.bool false)),(.p (.int .i64 0)),(.p (.str [])),(.p .nilslice),(.p .nilslice)] []) h 25 fun x25 h =>
 vstore 6 x4 x25 h fun _ h =>
 vcell true 6 x4 h fun c0=>tcomp (kB false) fun c1=>vfin true q [c0,c1] h)
 (vfaddr 5 x2 h fun x26 h =>
 vload false 1 x26 h fun x27 h =>
 viaddr 6 x27 x10 h fun x29 h =>
 vload true 6 x29 h fun x30 h =>
 vcall O (.v (.c (.func 64 []))) [x30] h 31 fun x31 h =>
 vstore 6 x4 x31 h fun _ h =>
 vcell true 6 x4 h fun c0=>tcomp (kB true) fun c1=>vfin true q [c0,c1] h)
theorem e41_0(O:Oracle)(R:Jump)(q:Nat)(x0 x1:TVal)(h:Heap):b41_0 O R q x0 x1 h=stepF c41 O R q 0 [x0,x1] h:=by kernel_rfl
def d41:BlkF:=fun O R Q=>[.s fun a => .s fun b => .z (b41_0 O R Q a b)]
theorem o41(O:Oracle)(R:Jump)(q:Nat):HoldsAll c41 O R q 0 (d41 O R q):=⟨e41_0 O R q,trivial⟩
def c42:MFunc:=mkM (compF Tryz.prog (globs2 tabs opq) (fun _=>false) true Tryz.f42) (.s .n (.s .n (.s .n (.s .n (.m 1 [1,3] (.s (.s .n (.k (.l 2 [1,3,4] .n))) (.m 3 [3] .n)))))))
def b42_0(O:Oracle)(R:Jump)(q:Nat)(x0:TVal)(h:Heap):Res1 :=
 vop O (.box (.k x0) false) h 1 fun x1 h =>
 vfaddr 0 x1 h fun x5 h =>
 vload false 1 x5 h fun x6 h =>
 vbin .eql 0 x6 (kI 2) h fun x8 h =>
 vif x8 (
 vfaddr 3 x1 h fun x9 h =>
 vload false 1 x9 h fun x10 h =>
 vcall O (.v (.c (.func 22 []))) [x10] h 11 fun x11 h =>
 tcomp x11 fun c0=>vfin true q [c0] h)
 (vbin .eql 0 x6 (kI 3) h fun x13 h =>
 vif x13 (
 vfaddr 4 x1 h fun x14 h =>
 vload false 1 x14 h fun x15 h =>
 vcall O (.v (.c (.func 65 []))) [x15] h 16 fun x16 h =>
 tcomp x16 fun c0=>vfin true q [c0] h)
 (vbin .eql 0 x6 (kI 4) h fun x18 h =>
 vif x18 (
 vfaddr 5 x1 h fun x19 h =>
 vload false 1 x19 h fun x20 h =>
 vif x20 (
 tcomp (kS [116,114,117,101]) fun c0=>vfin true q [c0] h)
 (tcomp (kS [102,97,108,115,101]) fun c0=>vfin true q [c0] h))
 (vbin .eql 0 x6 (kI 5) h fun x22 h =>
 vif x22 (
 vfaddr 6 x1 h fun x23 h =>
 vload false 1 x23 h fun x24 h =>
 vcall O (.v (.c (.func 21 []))) [x24] h 25 fun x25 h =>
 vbin .add 0 (kS [40]) x25 h fun x26 h =>
 vbin .add 0 x26 (kS [41]) h fun x27 h =>
 tcomp x27 fun c0=>vfin true q [c0] h)
 (vbin .eql 0 x6 (kI 6) h fun x29 h =>
 vif x29 (
 vfaddr 3 x1 h fun x30 h =>
 vload false 1 x30 h fun x31 h =>
 tcomp x31 fun c0=>vfin true q [c0] h)
 (vfaddr 1 x1 h fun x32 h =>
 vload false 1 x32 h fun x33 h =>
 vbin .neq 0 x33 (kS []) h fun x34 h =>
 vif x34 (
 vfaddr 1 x1 h fun x35 h =>
 vload false 1 x35 h fun x36 h =>
 vbin .add 0 (kS [36]) x36 h fun x37 h =>
 R 1 [x1,x37] h)
 (R 1 [x1,(kS [])] h))))))
theorem e42_0(O:Oracle)(R:Jump)(q:Nat)(x0:TVal)(h:Heap):b42_0 O R q x0 h=stepF c42 O R q 0 [x0] h:=by kernel_rfl
def b42_1(O:Oracle)(R:Jump)(q:Nat)(x1 x3:TVal)(h:Heap):Res1 :=
 R 2 [x1,x3,(kI 0)] h
theorem e42_1(O:Oracle)(R:Jump)(q:Nat)(x1 x3:TVal)(h:Heap):b42_1 O R q x1 x3 h=stepF c42 O R q 1 [x1,x3] h:=by kernel_rfl
def b42_2(O:Oracle)(R:Jump)(q:Nat)(x1 x3 x4:TVal)(h:Heap):Res1 :=
 vfaddr 2 x1 h fun x39 h =>
 vload false 1 x39 h fun x40 h =>
 vlen O 2 x40 h 41 fun x41 h =>
 vbin .lss 0 x4 x41 h fun x42 h =>
 vif x42 (
 vbin .add 0 x3 (kS [46]) h fun x46 h =>
 vfaddr 2 x1 h fun x47 h =>
 vload false 1 x47 h fun x48 h =>
 viaddr 1 x48 x4 h fun x50 h =>
 vload false 1 x50 h fun x51 h =>
 vbin .add 0 x46 x51 h fun x52 h =>
 vbin .add 0 x4 (kI 1) h fun x44 h =>
 R 2 [x1,x52,x44] h)
 (R 3 [x3] h)
theorem e42_2(O:Oracle)(R:Jump)(q:Nat)(x1 x3 x4:TVal)(h:Heap):b42_2 O R q x1 x3 x4 h=stepF c42 O R q 2 [x1,x3,x4] h:=by kernel_rfl
def b42_3(O:Oracle)(R:Jump)(q:Nat)(x3:TVal)(h:Heap):Res1 :=
 vbin .eql 0 x3 (kS []) h fun x54 h =>
 vif x54 (
 tcomp (kS [46]) fun c0=>vfin true q [c0] h)
 (tcomp x3 fun c0=>vfin true q [c0] h)
theorem e42_3(O:Oracle)(R:Jump)(q:Nat)(x3:TVal)(h:Heap):b42_3 O R q x3 h=stepF c42 O R q 3 [x3] h:=by kernel_rfl
def d42:BlkF:=fun O R Q=>[.s fun a => .z (b42_0 O R Q a),.s fun a => .s fun b => .z (b42_1 O R Q a b),.s fun a => .s fun b => .s fun c => .z (b42_2 O R Q a b c),.s fun a => .z (b42_3 O R Q a)]
theorem o42(O:Oracle)(R:Jump)(q:Nat):HoldsAll c42 O R q 0 (d42 O R q):=⟨e42_0 O R q,e42_1 O R q,e42_2 O R q,e42_3 O R q,trivial⟩
def c43:MFunc:=mkM (compF Tryz.prog (globs2 tabs opq) (fun _=>false) true Tryz.f43) .n
def b43_0(O:Oracle)(R:Jump)(q:Nat)(x0 x1:TVal)(h:Heap):Res1 :=
 vop O (.alloc [(.p (.int .i64 0)),(.p (.bool false)),(.p (.int .i64 0)),(.p (.str [])),(.p .nilslice),(.p .nilslice)] false) h 4 fun x4 h =>
 vcall O (.v (.c (.func 44 []))) [x0] h 9 fun x9 h =>
 vop O (.nilck (.k x0)) h 11 fun x11 h =>
 vfaddr 2 x11 h fun x12 h =>
 vload false 1 x12 h fun x13 h =>
 vbin .neq 0 x13 (kI 0) h fun x14 h =>
 vguard x14 false (fun kk=>kk x0 h) h fun x16 h =>
 vguard x14 false (fun kk=>vop O (.nilck (.k x16)) h 17 kk) h fun x17 h =>
 vguard x14 false (fun kk=>vfaddr 1 x17 h kk) h fun x18 h =>
 vguard x14 false (fun kk=>vload false 1 x18 h kk) h fun x19 h =>
 vguard x14 false (fun kk=>kk x0 h) h fun x20 h =>
 vguard x14 false (fun kk=>vop O (.nilck (.k x20)) h 21 kk) h fun x21 h =>
 vguard x14 false (fun kk=>vfaddr 0 x21 h kk) h fun x22 h =>
 vguard x14 false (fun kk=>vload false 1 x22 h kk) h fun x23 h =>
 vguard x14 false (fun kk=>vlen O 0 x23 h 24 kk) h fun x24 h =>
 vguard x14 false (fun kk=>vbin .geq 0 x19 x24 h kk) h fun x25 h =>
 vop O (.pick (.k x14) (.k (kB true)) (.k x25)) h 26 fun x26 h =>
 vif x26 (
 vcall O (.v (.c (.func 45 []))) [x0,(kI 12)] h 28 fun x28 h =>
 vop O (.build [(.p (.int .i64 0)),(.p (.bool false)),(.p (.int .i64 0)),(.p (.str [])),(.p .nilslice),(.p .nilslice)] []) h 29 fun x29 h =>
 vstore 6 x4 x29 h fun _ h =>
 vcell true 6 x4 h fun c0=>vfin true q [c0] h)
 (vop O (.nilck (.k x0)) h 31 fun x31 h =>
 vfaddr 0 x31 h fun x32 h =>
 vload false 1 x32 h fun x33 h =>
 vop O (.nilck (.k x0)) h 35 fun x35 h =>
 vfaddr 1 x35 h fun x36 h =>
 vload false 1 x36 h fun x37 h =>
 vindex x33 x37 h fun x38 h =>
 vcall O (.v (.c (.func 66 []))) [x0] h 41 fun x41 h =>
 vext x41 0 h fun x42 h =>
 vext x41 1 h fun x43 h =>
 vop O (.alloc [(.p (.int .i64 0)),(.p (.bool false)),(.p (.int .i64 0)),(.p (.str [])),(.p .nilslice),(.p .nilslice)] false) h 6 fun x6 h =>
 vstore 6 x6 x42 h fun _ h =>
 vop O (.un .not (.k x43)) h 45 fun x45 h =>
 vguard x45 true (fun kk=>kk x38 h) h fun x47 h =>
 vguard x45 true (fun kk=>vbin .neq 0 x47 (.v (.c (.p (.int .u8 34)))) h kk) h fun x48 h =>
 vop O (.pick (.k x45) (.k x48) (.k (kB false))) h 49 fun x49 h =>
 vguard x49 true (fun kk=>kk x38 h) h fun x51 h =>
 vguard x49 true (fun kk=>vbin .neq 0 x51 (.v (.c (.p (.int .u8 45)))) h kk) h fun x52 h =>
 vop O (.pick (.k x49) (.k x52) (.k (kB false))) h 53 fun x53 h =>
 vguard x53 true (fun kk=>kk x38 h) h fun x55 h =>
 vguard x53 true (fun kk=>vcall O (.v (.c (.func 67 []))) [x55] h 56 kk) h fun x56 h =>
 vguard x53 true (fun kk=>vop O (.un .not (.k x56)) h 57 kk) h fun x57 h =>
 vop O (.pick (.k x53) (.k x57) (.k (kB false))) h 58 fun x58 h =>
 vguard x58 true (fun kk=>kk x38 h) h fun x60 h =>
 vguard x58 true (fun kk=>vbin .neq 0 x60 (.v (.c (.p (.int .u8 91)))) h kk) h fun x61 h =>
 vop O (.pick (.k x58) (.k x61) (.k (kB false))) h 62 fun x62 h =>
 vguard x62 true (fun kk=>kk x38 h) h fun x64 h =>
 vguard x62 true (fun kk=>vbin .neq 0 x64 (.v (.c (.p (.int .u8 123)))) h kk) h fun x65 h =>
 vop O (.pick (.k x62) (.k x65) (.k (kB false))) h 66 fun x66 h =>
 vif x66 (
 vcall O (.v (.c (.func 45 []))) [x0,(kI 12)] h 68 fun x68 h =>
 vop O (.build [(.p (.int .i64 0)),(.p (.bool false)),(.p (.int .i64 0)),(.p (.str [])),(.p .nilslice),(.p .nilslice)] []) h 69 fun x69 h =>
 vstore 6 x4 x69 h fun _ h =>
 vcell true 6 x4 h fun c0=>vfin true q [c0] h)
 (vbin .gtr 0 x1 (kI 12) h fun x71 h =>
 vif x71 (
 vcall O (.v (.c (.func 45 []))) [x0,(kI 13)] h 73 fun x73 h =>
 vop O (.build [(.p (.int .i64 0)),(.p (.bool false)),(.p (.int .i64 0)),(.p (.str [])),(.p .nilslice),(.p .nilslice)] []) h 74 fun x74 h =>
 vstore 6 x4 x74 h fun _ h =>
 vcell true 6 x4 h fun c0=>vfin true q [c0] h)
 (vif x43 (
 vload true 6 x6 h fun x77 h =>
 vstore 6 x4 x77 h fun _ h =>
 vcell true 6 x4 h fun c0=>vfin true q [c0] h)
 (vbin .eql 0 x38 (.v (.c (.p (.int .u8 34)))) h fun x80 h =>
 vif x80 (
 vcall O (.v (.c (.func 68 []))) [x0] h 82 fun x82 h =>
 vop O (.build [(.p (.int .i64 0)),(.p (.bool false)),(.p (.int .i64 0)),(.p (.str [])),(.p .nilslice),(.p .nilslice)] [(0,1,(.k (kI 3))),(3,1,(.k x82))]) h 83 fun x83 h =>
 vstore 6 x4 x83 h fun _ h =>
 vcell true 6 x4 h fun c0=>vfin true q [c0] h)
 (vbin .eql 0 x38 (.v (.c (.p (.int .u8 91)))) h fun x86 h =>
 vif x86 (
 vcall O (.v (.c (.func 69 []))) [x0,x1] h 89 fun x89 h =>
 vstore 6 x4 x89 h fun _ h =>
 vcell true 6 x4 h fun c0=>vfin true q [c0] h)
 (vbin .eql 0 x38 (.v (.c (.p (.int .u8 123)))) h fun x92 h =>
 vif x92 (
 vcall O (.v (.c (.func 70 []))) [x0,x1] h 95 fun x95 h =>
 vstore 6 x4 x95 h fun _ h =>
 vcell true 6 x4 h fun c0=>vfin true q [c0] h)
 (vcall O (.v (.c (.func 71 []))) [x0] h 97 fun x97 h =>
 vstore 6 x4 x97 h fun _ h =>
 vcell true 6 x4 h fun c0=>vfin true q [c0] h)))))))
theorem e43_0(O:Oracle)(R:Jump)(q:Nat)(x0 x1:TVal)(h:Heap):b43_0 O R q x0 x1 h=stepF c43 O R q 0 [x0,x1] h:=by kernel_rfl
def d43:BlkF:=fun O R Q=>[.s fun a => .s fun b => .z (b43_0 O R Q a b)]
theorem o43(O:Oracle)(R:Jump)(q:Nat):HoldsAll c43 O R q 0 (d43 O R q):=⟨e43_0 O R q,trivial⟩
def c44:MFunc:=mkM (compF Tryz.prog (globs2 tabs opq) (fun _=>false) true Tryz.f44) (.k (.l 1 [0] .n))
def b44_0(O:Oracle)(R:Jump)(q:Nat)(x0:TVal)(h:Heap):Res1 :=
 R 1 [x0] h
theorem e44_0(O:Oracle)(R:Jump)(q:Nat)(x0:TVal)(h:Heap):b44_0 O R q x0 h=stepF c44 O R q 0 [x0] h:=by kernel_rfl
def b44_1(O:Oracle)(R:Jump)(q:Nat)(x0:TVal)(h:Heap):Res1 :=
 vop O (.nilck (.k x0)) h 3 fun x3 h =>
 vfaddr 1 x3 h fun x4 h =>
 vload false 1 x4 h fun x5 h =>
 vop O (.nilck (.k x0)) h 7 fun x7 h =>
 vfaddr 0 x7 h fun x8 h =>
 vload false 1 x8 h fun x9 h =>
 vlen O 0 x9 h 10 fun x10 h =>
 vbin .lss 0 x5 x10 h fun x11 h =>
 vguard x11 true (fun kk=>kk x0 h) h fun x13 h =>
 vguard x11 true (fun kk=>vop O (.nilck (.k x13)) h 14 kk) h fun x14 h =>
 vguard x11 true (fun kk=>vfaddr 0 x14 h kk) h fun x15 h =>
 vguard x11 true (fun kk=>vload false 1 x15 h kk) h fun x16 h =>
 vguard x11 true (fun kk=>kk x0 h) h fun x17 h =>
 vguard x11 true (fun kk=>vop O (.nilck (.k x17)) h 18 kk) h fun x18 h =>
 vguard x11 true (fun kk=>vfaddr 1 x18 h kk) h fun x19 h =>
 vguard x11 true (fun kk=>vload false 1 x19 h kk) h fun x20 h =>
 vguard x11 true (fun kk=>vindex x16 x20 h kk) h fun x21 h =>
 vguard x11 true (fun kk=>vbin .eql 0 x21 (.v (.c (.p (.int .u8 32)))) h kk) h fun x22 h =>
 vguard x11 true (fun kk=>kk x22 h) h fun x23 h =>
 vguard x23 false (fun kk=>kk x0 h) h fun x24 h =>
 vguard x23 false (fun kk=>vop O (.nilck (.k x24)) h 25 kk) h fun x25 h =>
 vguard x23 false (fun kk=>vfaddr 0 x25 h kk) h fun x26 h =>
 vguard x23 false (fun kk=>vload false 1 x26 h kk) h fun x27 h =>
 vguard x23 false (fun kk=>kk x0 h) h fun x28 h =>
 vguard x23 false (fun kk=>vop O (.nilck (.k x28)) h 29 kk) h fun x29 h =>
 vguard x23 false (fun kk=>vfaddr 1 x29 h kk) h fun x30 h =>
 vguard x23 false (fun kk=>vload false 1 x30 h kk) h fun x31 h =>
 vguard x23 false (fun kk=>vindex x27 x31 h kk) h fun x32 h =>
 vguard x23 false (fun kk=>vbin .eql 0 x32 (.v (.c (.p (.int .u8 9)))) h kk) h fun x33 h =>
 vguard x11 true (fun kk=>vop O (.pick (.k x23) (.k (kB true)) (.k x33)) h 34 kk) h fun x34 h =>
 vguard x11 true (fun kk=>kk x34 h) h fun x35 h =>
 vguard x35 false (fun kk=>kk x0 h) h fun x36 h =>
 vguard x35 false (fun kk=>vop O (.nilck (.k x36)) h 37 kk) h fun x37 h =>
 vguard x35 false (fun kk=>vfaddr 0 x37 h kk) h fun x38 h =>
 vguard x35 false (fun kk=>vload false 1 x38 h kk) h fun x39 h =>
 vguard x35 false (fun kk=>kk x0 h) h fun x40 h =>
 vguard x35 false (fun kk=>vop O (.nilck (.k x40)) h 41 kk) h fun x41 h =>
 vguard x35 false (fun kk=>vfaddr 1 x41 h kk) h fun x42 h =>
 vguard x35 false (fun kk=>vload false 1 x42 h kk) h fun x43 h =>
 vguard x35 false (fun kk=>vindex x39 x43 h kk) h fun x44 h =>
 vguard x35 false (fun kk=>vbin .eql 0 x44 (.v (.c (.p (.int .u8 10)))) h kk) h fun x45 h =>
 vguard x11 true (fun kk=>vop O (.pick (.k x35) (.k (kB true)) (.k x45)) h 46 kk) h fun x46 h =>
 vguard x11 true (fun kk=>kk x46 h) h fun x47 h =>
 vguard x47 false (fun kk=>kk x0 h) h fun x48 h =>
 vguard x47 false (fun kk=>vop O (.nilck (.k x48)) h 49 kk) h fun x49 h =>
 vguard x47 false (fun kk=>vfaddr 0 x49 h kk) h fun x50 h =>
 vguard x47 false (fun kk=>vload false 1 x50 h kk) h fun x51 h =>
 vguard x47 false (fun kk=>kk x0 h) h fun x52 h =>
 vguard x47 false (fun kk=>vop O (.nilck (.k x52)) h 53 kk) h fun x53 h =>
 vguard x47 false (fun kk=>vfaddr 1 x53 h kk) h fun x54 h =>
 vguard x47 false (fun kk=>vload false 1 x54 h kk) h fun x55 h =>
 vguard x47 false (fun kk=>vindex x51 x55 h kk) h fun x56 h =>
 vguard x47 false (fun kk=>vbin .eql 0 x56 (.v (.c (.p (.int .u8 13)))) h kk) h fun x57 h =>
 vguard x11 true (fun kk=>vop O (.pick (.k x47) (.k (kB true)) (.k x57)) h 58 kk) h fun x58 h =>
 vop O (.pick (.k x11) (.k x58) (.k (kB false))) h 59 fun x59 h =>
 vif x59 (
 vop O (.nilck (.k x0)) h 61 fun x61 h =>
 vfaddr 1 x61 h fun x62 h =>
 vload false 1 x62 h fun x63 h =>
 vbin .add 0 x63 (kI 1) h fun x64 h =>
 vop O (.nilck (.k x0)) h 65 fun x65 h =>
 vfaddr 1 x65 h fun x66 h =>
 vstore 1 x66 x64 h fun _ h =>
 R 1 [x0] h)
 (vfin true q [] h)
theorem e44_1(O:Oracle)(R:Jump)(q:Nat)(x0:TVal)(h:Heap):b44_1 O R q x0 h=stepF c44 O R q 1 [x0] h:=by kernel_rfl
def d44:BlkF:=fun O R Q=>[.s fun a => .z (b44_0 O R Q a),.s fun a => .z (b44_1 O R Q a)]
theorem o44(O:Oracle)(R:Jump)(q:Nat):HoldsAll c44 O R q 0 (d44 O R q):=⟨e44_0 O R q,e44_1 O R q,trivial⟩
def c46:MFunc:=mkM (compF Tryz.prog (globs2 tabs opq) (fun _=>false) true Tryz.f46) .n
def b46_0(O:Oracle)(R:Jump)(q:Nat)(x0:TVal)(h:Heap):Res1 :=
 vop O (.box (.k x0) false) h 1 fun x1 h =>
 vop O (.build [(.p (.int .i64 0))] []) h 4 fun x4 h =>
 vop O (.box (.k x4) false) h 5 fun x5 h =>
 vload true 6 x1 h fun x7 h =>
 vcall O (.v (.c (.func 72 []))) [x5,x7,(kI 1)] h 8 fun x8 h =>
 tcomp x8 fun c0=>vfin true q [c0] h
theorem e46_0(O:Oracle)(R:Jump)(q:Nat)(x0:TVal)(h:Heap):b46_0 O R q x0 h=stepF c46 O R q 0 [x0] h:=by kernel_rfl
def d46:BlkF:=fun O R Q=>[.s fun a => .z (b46_0 O R Q a)]
theorem o46(O:Oracle)(R:Jump)(q:Nat):HoldsAll c46 O R q 0 (d46 O R q):=⟨e46_0 O R q,trivial⟩
def c47:MFunc:=mkM (compF Tryz.prog (globs2 tabs opq) (fun _=>false) true Tryz.f47) .n
def b47_0(O:Oracle)(R:Jump)(q:Nat)(x0:TVal)(h:Heap):Res1 :=
 vbin .eql 0 x0 (.v (.c (.p (.int .u8 32)))) h fun x4 h =>
 vguard x4 false (fun kk=>kk x0 h) h fun x6 h =>
 vguard x4 false (fun kk=>vbin .eql 0 x6 (.v (.c (.p (.int .u8 9)))) h kk) h fun x7 h =>
 vop O (.pick (.k x4) (.k (kB true)) (.k x7)) h 8 fun x8 h =>
 vguard x8 false (fun kk=>kk x0 h) h fun x10 h =>
 vguard x8 false (fun kk=>vbin .eql 0 x10 (.v (.c (.p (.int .u8 10)))) h kk) h fun x11 h =>
 vop O (.pick (.k x8) (.k (kB true)) (.k x11)) h 12 fun x12 h =>
 vguard x12 false (fun kk=>kk x0 h) h fun x14 h =>
 vguard x12 false (fun kk=>vbin .eql 0 x14 (.v (.c (.p (.int .u8 13)))) h kk) h fun x15 h =>
 vop O (.pick (.k x12) (.k (kB true)) (.k x15)) h 16 fun x16 h =>
 tcomp x16 fun c0=>vfin true q [c0] h
theorem e47_0(O:Oracle)(R:Jump)(q:Nat)(x0:TVal)(h:Heap):b47_0 O R q x0 h=stepF c47 O R q 0 [x0] h:=by kernel_rfl
def d47:BlkF:=fun O R Q=>[.s fun a => .z (b47_0 O R Q a)]
theorem o47(O:Oracle)(R:Jump)(q:Nat):HoldsAll c47 O R q 0 (d47 O R q):=⟨e47_0 O R q,trivial⟩
def c48:MFunc:=mkM (compF Tryz.prog (globs2 tabs opq) (fun _=>false) true Tryz.f48) (.s .n (.s .n (.s (.k (.s .n (.s (.s (.k (.l 1 [0,1,4,7] .n)) (.m 2 [0,1,4,7] .n)) (.s .n (.s (.s .n (.s (.k (.l 3 [0,1,4,7] .n)) (.m 4 [0,1,4,7] .n))) .n))))) (.m 5 [0,1,4] (.s .n (.s .n (.s (.s .n (.k (.l 6 [0,1,4,12,13] .n))) (.m 7 [4] .n))))))))
def b48_0(O:Oracle)(R:Jump)(q:Nat)(x0 x1:TVal)(h:Heap):Res1 :=
 vop O (.alloc [(.p (.int .i64 0)),(.p (.str [])),(.p (.int .i64 0)),(.p (.int .i64 0))] false) h 4 fun x4 h =>
 vindex x0 x1 h fun x18 h =>
 vcall O (.v (.c (.func 73 []))) [x18] h 19 fun x19 h =>
 vif x19 (
 R 1 [x0,x1,x4,x1] h)
 (vindex x0 x1 h fun x53 h =>
 vcall O (.v (.c (.func 74 []))) [x53] h 54 fun x54 h =>
 vguard x54 false (fun kk=>kk x0 h) h fun x56 h =>
 vguard x54 false (fun kk=>kk x1 h) h fun x57 h =>
 vguard x54 false (fun kk=>vindex x56 x57 h kk) h fun x58 h =>
 vguard x54 false (fun kk=>vbin .eql 0 x58 (.v (.c (.p (.int .u8 45)))) h kk) h fun x59 h =>
 vguard x54 false (fun kk=>kk x59 h) h fun x60 h =>
 vguard x60 true (fun kk=>kk x1 h) h fun x61 h =>
 vguard x60 true (fun kk=>vbin .add 0 x61 (kI 1) h kk) h fun x62 h =>
 vguard x60 true (fun kk=>kk x0 h) h fun x63 h =>
 vguard x60 true (fun kk=>vlen O 0 x63 h 64 kk) h fun x64 h =>
 vguard x60 true (fun kk=>vbin .lss 0 x62 x64 h kk) h fun x65 h =>
 vguard x54 false (fun kk=>vop O (.pick (.k x60) (.k x65) (.k (kB false))) h 66 kk) h fun x66 h =>
 vguard x54 false (fun kk=>kk x66 h) h fun x67 h =>
 vguard x67 true (fun kk=>kk x0 h) h fun x68 h =>
 vguard x67 true (fun kk=>kk x1 h) h fun x69 h =>
 vguard x67 true (fun kk=>vbin .add 0 x69 (kI 1) h kk) h fun x70 h =>
 vguard x67 true (fun kk=>vindex x68 x70 h kk) h fun x71 h =>
 vguard x67 true (fun kk=>vcall O (.v (.c (.func 74 []))) [x71] h 72 kk) h fun x72 h =>
 vguard x54 false (fun kk=>vop O (.pick (.k x67) (.k x72) (.k (kB false))) h 73 kk) h fun x73 h =>
 vop O (.pick (.k x54) (.k (kB true)) (.k x73)) h 74 fun x74 h =>
 vif x74 (
 vbin .add 0 x1 (kI 1) h fun x76 h =>
 R 3 [x0,x1,x4,x76] h)
 (vindex x0 x1 h fun x105 h =>
 vbin .eql 0 x105 (.v (.c (.p (.int .u8 34)))) h fun x106 h =>
 vif x106 (
 vcall O (.v (.c (.func 76 []))) [x0,x1] h 110 fun x110 h =>
 vext x110 0 h fun x111 h =>
 vext x110 1 h fun x112 h =>
 vbin .lss 0 x112 (kI 0) h fun x114 h =>
 vif x114 (
 vop O (.build [(.p (.int .i64 0)),(.p (.str [])),(.p (.int .i64 0)),(.p (.int .i64 0))] []) h 115 fun x115 h =>
 vstore 4 x4 x115 h fun _ h =>
 vcell true 4 x4 h fun c0=>tcomp (kI 0) fun c1=>tcomp (kI 11) fun c2=>vfin true q [c0,c1,c2] h)
 (vlen O 0 x111 h 117 fun x117 h =>
 vbin .gtr 0 x117 (kI 200) h fun x118 h =>
 vif x118 (
 vop O (.build [(.p (.int .i64 0)),(.p (.str [])),(.p (.int .i64 0)),(.p (.int .i64 0))] []) h 119 fun x119 h =>
 vstore 4 x4 x119 h fun _ h =>
 vcell true 4 x4 h fun c0=>tcomp (kI 0) fun c1=>tcomp (kI 4) fun c2=>vfin true q [c0,c1,c2] h)
 (vop O (.build [(.p (.int .i64 0)),(.p (.str [])),(.p (.int .i64 0)),(.p (.int .i64 0))] [(0,1,(.k (kI 2))),(1,1,(.k x111)),(3,1,(.k x1))]) h 122 fun x122 h =>
 vstore 4 x4 x122 h fun _ h =>
 vcell true 4 x4 h fun c0=>tcomp x112 fun c1=>tcomp (kI 0) fun c2=>vfin true q [c0,c1,c2] h)))
 (R 5 [x0,x1,x4] h)))
theorem e48_0(O:Oracle)(R:Jump)(q:Nat)(x0 x1:TVal)(h:Heap):b48_0 O R q x0 x1 h=stepF c48 O R q 0 [x0,x1] h:=by kernel_rfl
def b48_1(O:Oracle)(R:Jump)(q:Nat)(x0 x1 x4 x7:TVal)(h:Heap):Res1 :=
 vlen O 0 x0 h 22 fun x22 h =>
 vbin .lss 0 x7 x22 h fun x23 h =>
 vguard x23 true (fun kk=>kk x0 h) h fun x25 h =>
 vguard x23 true (fun kk=>kk x7 h) h fun x26 h =>
 vguard x23 true (fun kk=>vindex x25 x26 h kk) h fun x27 h =>
 vguard x23 true (fun kk=>vcall O (.v (.c (.func 73 []))) [x27] h 28 kk) h fun x28 h =>
 vguard x23 true (fun kk=>kk x28 h) h fun x29 h =>
 vguard x29 false (fun kk=>kk x0 h) h fun x30 h =>
 vguard x29 false (fun kk=>kk x7 h) h fun x31 h =>
 vguard x29 false (fun kk=>vindex x30 x31 h kk) h fun x32 h =>
 vguard x29 false (fun kk=>vcall O (.v (.c (.func 74 []))) [x32] h 33 kk) h fun x33 h =>
 vguard x23 true (fun kk=>vop O (.pick (.k x29) (.k (kB true)) (.k x33)) h 34 kk) h fun x34 h =>
 vop O (.pick (.k x23) (.k x34) (.k (kB false))) h 35 fun x35 h =>
 vif x35 (
 vbin .add 0 x7 (kI 1) h fun x37 h =>
 R 1 [x0,x1,x4,x37] h)
 (R 2 [x0,x1,x4,x7] h)
theorem e48_1(O:Oracle)(R:Jump)(q:Nat)(x0 x1 x4 x7:TVal)(h:Heap):b48_1 O R q x0 x1 x4 x7 h=stepF c48 O R q 1 [x0,x1,x4,x7] h:=by kernel_rfl
def b48_2(O:Oracle)(R:Jump)(q:Nat)(x0 x1 x4 x7:TVal)(h:Heap):Res1 :=
 vbin .sub 0 x7 x1 h fun x40 h =>
 vbin .gtr 0 x40 (kI 16) h fun x41 h =>
 vif x41 (
 vop O (.build [(.p (.int .i64 0)),(.p (.str [])),(.p (.int .i64 0)),(.p (.int .i64 0))] []) h 42 fun x42 h =>
 vstore 4 x4 x42 h fun _ h =>
 vcell true 4 x4 h fun c0=>tcomp (kI 0) fun c1=>tcomp (kI 4) fun c2=>vfin true q [c0,c1,c2] h)
 (vop O (.slice 0 true (.k x0) (some (.k x1)) (some (.k x7)) none) h 46 fun x46 h =>
 vop O (.build [(.p (.int .i64 0)),(.p (.str [])),(.p (.int .i64 0)),(.p (.int .i64 0))] [(0,1,(.k (kI 1))),(1,1,(.k x46)),(3,1,(.k x1))]) h 48 fun x48 h =>
 vstore 4 x4 x48 h fun _ h =>
 vcell true 4 x4 h fun c0=>tcomp x7 fun c1=>tcomp (kI 0) fun c2=>vfin true q [c0,c1,c2] h)
theorem e48_2(O:Oracle)(R:Jump)(q:Nat)(x0 x1 x4 x7:TVal)(h:Heap):b48_2 O R q x0 x1 x4 x7 h=stepF c48 O R q 2 [x0,x1,x4,x7] h:=by kernel_rfl
def b48_3(O:Oracle)(R:Jump)(q:Nat)(x0 x1 x4 x7:TVal)(h:Heap):Res1 :=
 vlen O 0 x0 h 79 fun x79 h =>
 vbin .lss 0 x7 x79 h fun x80 h =>
 vguard x80 true (fun kk=>kk x0 h) h fun x82 h =>
 vguard x80 true (fun kk=>kk x7 h) h fun x83 h =>
 vguard x80 true (fun kk=>vindex x82 x83 h kk) h fun x84 h =>
 vguard x80 true (fun kk=>vcall O (.v (.c (.func 74 []))) [x84] h 85 kk) h fun x85 h =>
 vop O (.pick (.k x80) (.k x85) (.k (kB false))) h 86 fun x86 h =>
 vif x86 (
 vbin .add 0 x7 (kI 1) h fun x88 h =>
 R 3 [x0,x1,x4,x88] h)
 (R 4 [x0,x1,x4,x7] h)
theorem e48_3(O:Oracle)(R:Jump)(q:Nat)(x0 x1 x4 x7:TVal)(h:Heap):b48_3 O R q x0 x1 x4 x7 h=stepF c48 O R q 3 [x0,x1,x4,x7] h:=by kernel_rfl
def b48_4(O:Oracle)(R:Jump)(q:Nat)(x0 x1 x4 x7:TVal)(h:Heap):Res1 :=
 vop O (.slice 0 true (.k x0) (some (.k x1)) (some (.k x7)) none) h 93 fun x93 h =>
 vcall O (.v (.c (.func 75 []))) [x93] h 94 fun x94 h =>
 vext x94 0 h fun x95 h =>
 vext x94 1 h fun x96 h =>
 vop O (.build [(.p (.int .i64 0)),(.p (.str [])),(.p (.int .i64 0)),(.p (.int .i64 0))] [(0,1,(.k (kI 3))),(2,1,(.k x95)),(3,1,(.k x1))]) h 99 fun x99 h =>
 vstore 4 x4 x99 h fun _ h =>
 vcell true 4 x4 h fun c0=>tcomp x7 fun c1=>tcomp x96 fun c2=>vfin true q [c0,c1,c2] h
theorem e48_4(O:Oracle)(R:Jump)(q:Nat)(x0 x1 x4 x7:TVal)(h:Heap):b48_4 O R q x0 x1 x4 x7 h=stepF c48 O R q 4 [x0,x1,x4,x7] h:=by kernel_rfl
def b48_5(O:Oracle)(R:Jump)(q:Nat)(x0 x1 x4:TVal)(h:Heap):Res1 :=
 vbin .add 0 x1 (kI 2) h fun x125 h =>
 vlen O 0 x0 h 127 fun x127 h =>
 vbin .leq 0 x125 x127 h fun x128 h =>
 vguard x128 true (fun kk=>kk x0 h) h fun x130 h =>
 vguard x128 true (fun kk=>kk x1 h) h fun x131 h =>
 vguard x128 true (fun kk=>kk x1 h) h fun x132 h =>
 vguard x128 true (fun kk=>vbin .add 0 x132 (kI 2) h kk) h fun x133 h =>
 vguard x128 true (fun kk=>vop O (.slice 0 true (.k x130) (some (.k x131)) (some (.k x133)) none) h 134 kk) h fun x134 h =>
 vguard x128 true (fun kk=>vbin .eql 0 x134 (kS [45,62]) h kk) h fun x135 h =>
 vguard x128 true (fun kk=>kk x135 h) h fun x136 h =>
 vguard x136 false (fun kk=>kk x0 h) h fun x137 h =>
 vguard x136 false (fun kk=>kk x1 h) h fun x138 h =>
 vguard x136 false (fun kk=>kk x1 h) h fun x139 h =>
 vguard x136 false (fun kk=>vbin .add 0 x139 (kI 2) h kk) h fun x140 h =>
 vguard x136 false (fun kk=>vop O (.slice 0 true (.k x137) (some (.k x138)) (some (.k x140)) none) h 141 kk) h fun x141 h =>
 vguard x136 false (fun kk=>vbin .eql 0 x141 (kS [58,61]) h kk) h fun x142 h =>
 vguard x128 true (fun kk=>vop O (.pick (.k x136) (.k (kB true)) (.k x142)) h 143 kk) h fun x143 h =>
 vop O (.pick (.k x128) (.k x143) (.k (kB false))) h 144 fun x144 h =>
 vif x144 (
 vbin .add 0 x1 (kI 2) h fun x148 h =>
 vop O (.slice 0 true (.k x0) (some (.k x1)) (some (.k x148)) none) h 149 fun x149 h =>
 vop O (.build [(.p (.int .i64 0)),(.p (.str [])),(.p (.int .i64 0)),(.p (.int .i64 0))] [(0,1,(.k (kI 4))),(1,1,(.k x149)),(3,1,(.k x1))]) h 151 fun x151 h =>
 vbin .add 0 x1 (kI 2) h fun x153 h =>
 vstore 4 x4 x151 h fun _ h =>
 vcell true 4 x4 h fun c0=>tcomp x153 fun c1=>tcomp (kI 0) fun c2=>vfin true q [c0,c1,c2] h)
 (R 6 [x0,x1,x4,(kS [123,125,60,62,44,58,40,41,46,36,124,61,59]),(kI 0)] h)
theorem e48_5(O:Oracle)(R:Jump)(q:Nat)(x0 x1 x4:TVal)(h:Heap):b48_5 O R q x0 x1 x4 h=stepF c48 O R q 5 [x0,x1,x4] h:=by kernel_rfl
def b48_6(O:Oracle)(R:Jump)(q:Nat)(x0 x1 x4 x12 x13:TVal)(h:Heap):Res1 :=
 vlen O 0 x12 h 156 fun x156 h =>
 vbin .lss 0 x13 x156 h fun x157 h =>
 vif x157 (
 vindex x12 x13 h fun x162 h =>
 vindex x0 x1 h fun x165 h =>
 vbin .eql 0 x162 x165 h fun x166 h =>
 vif x166 (
 vbin .add 0 x1 (kI 1) h fun x170 h =>
 vop O (.slice 0 true (.k x0) (some (.k x1)) (some (.k x170)) none) h 171 fun x171 h =>
 vop O (.build [(.p (.int .i64 0)),(.p (.str [])),(.p (.int .i64 0)),(.p (.int .i64 0))] [(0,1,(.k (kI 4))),(1,1,(.k x171)),(3,1,(.k x1))]) h 173 fun x173 h =>
 vbin .add 0 x1 (kI 1) h fun x175 h =>
 vstore 4 x4 x173 h fun _ h =>
 vcell true 4 x4 h fun c0=>tcomp x175 fun c1=>tcomp (kI 0) fun c2=>vfin true q [c0,c1,c2] h)
 (vbin .add 0 x13 (kI 1) h fun x159 h =>
 R 6 [x0,x1,x4,x12,x159] h))
 (R 7 [x4] h)
theorem e48_6(O:Oracle)(R:Jump)(q:Nat)(x0 x1 x4 x12 x13:TVal)(h:Heap):b48_6 O R q x0 x1 x4 x12 x13 h=stepF c48 O R q 6 [x0,x1,x4,x12,x13] h:=by kernel_rfl
def b48_7(O:Oracle)(R:Jump)(q:Nat)(x4:TVal)(h:Heap):Res1 :=
 vop O (.build [(.p (.int .i64 0)),(.p (.str [])),(.p (.int .i64 0)),(.p (.int .i64 0))] []) h 176 fun x176 h =>
 vstore 4 x4 x176 h fun _ h =>
 vcell true 4 x4 h fun c0=>tcomp (kI 0) fun c1=>tcomp (kI 11) fun c2=>vfin true q [c0,c1,c2] h
theorem e48_7(O:Oracle)(R:Jump)(q:Nat)(x4:TVal)(h:Heap):b48_7 O R q x4 h=stepF c48 O R q 7 [x4] h:=by kernel_rfl
def d48:BlkF:=fun O R Q=>[.s fun a => .s fun b => .z (b48_0 O R Q a b),.s fun a => .s fun b => .s fun c => .s fun d => .z (b48_1 O R Q a b c d),.s fun a => .s fun b => .s fun c => .s fun d => .z (b48_2 O R Q a b c d),.s fun a => .s fun b => .s fun c => .s fun d => .z (b48_3 O R Q a b c d),.s fun a => .s fun b => .s fun c => .s fun d => .z (b48_4 O R Q a b c d),.s fun a => .s fun b => .s fun c => .z (b48_5 O R Q a b c),.s fun a => .s fun b => .s fun c => .s fun d => .s fun e => .z (b48_6 O R Q a b c d e),.s fun a => .z (b48_7 O R Q a)]
theorem o48(O:Oracle)(R:Jump)(q:Nat):HoldsAll c48 O R q 0 (d48 O R q):=⟨e48_0 O R q,e48_1 O R q,e48_2 O R q,e48_3 O R q,e48_4 O R q,e48_5 O R q,e48_6 O R q,e48_7 O R q,trivial⟩
def c49:MFunc:=mkM (compF Tryz.prog (globs2 tabs opq) (fun _=>false) true Tryz.f49) (.s .n (.s .n (.s .n (.s (.k (.l 1 [0,1,4,5] .n)) (.m 2 [4,5] .n)))))
def b49_0(O:Oracle)(R:Jump)(q:Nat)(x0 x1:TVal)(h:Heap):Res1 :=
 vop O (.alloc [(.p .nilslice)] false) h 4 fun x4 h =>
 vcall O (.v (.c (.func 26 []))) [x0,(kI 1)] h 7 fun x7 h =>
 vop O (.un .not (.k x7)) h 8 fun x8 h =>
 vguard x8 false (fun kk=>kk x0 h) h fun x10 h =>
 vguard x8 false (fun kk=>vop O (.nilck (.k x10)) h 11 kk) h fun x11 h =>
 vguard x8 false (fun kk=>vfaddr 0 x11 h kk) h fun x12 h =>
 vguard x8 false (fun kk=>vload false 1 x12 h kk) h fun x13 h =>
 vguard x8 false (fun kk=>kk x0 h) h fun x14 h =>
 vguard x8 false (fun kk=>vop O (.nilck (.k x14)) h 15 kk) h fun x15 h =>
 vguard x8 false (fun kk=>vfaddr 1 x15 h kk) h fun x16 h =>
 vguard x8 false (fun kk=>vload false 1 x16 h kk) h fun x17 h =>
 vguard x8 false (fun kk=>viaddr 4 x13 x17 h kk) h fun x18 h =>
 vguard x8 false (fun kk=>vfaddr 1 x18 h kk) h fun x19 h =>
 vguard x8 false (fun kk=>vload false 1 x19 h kk) h fun x20 h =>
 vguard x8 false (fun kk=>vcall O (.v (.c (.func 27 []))) [x20] h 21 kk) h fun x21 h =>
 vop O (.pick (.k x8) (.k (kB true)) (.k x21)) h 22 fun x22 h =>
 vif x22 (
 vcall O (.v (.c (.func 77 []))) [x0,x1] h 25 fun x25 h =>
 vop O (.bslice 7 1 [(.p (.int .i64 0)),(.p (.str [])),(.p .nilslice),(.p (.str [])),(.p (.int .i64 0)),(.p (.bool false)),(.p .nilslice)] [(0,(.k x25))] false) h 26 fun x26 h =>
 vop O (.build [(.p .nilslice)] [(0,1,(.k x26))]) h 27 fun x27 h =>
 vstore 1 x4 x27 h fun _ h =>
 vcell true 1 x4 h fun c0=>vfin true q [c0] h)
 (vcall O (.v (.c (.func 30 []))) [x0,(kI 1)] h 29 fun x29 h =>
 vfield 1 1 false x29 h fun x30 h =>
 vop O (.build [(.p (.int .i64 0)),(.p (.str [])),(.p .nilslice),(.p (.str [])),(.p (.int .i64 0)),(.p (.bool false)),(.p .nilslice)] [(0,1,(.k (kI 6))),(3,1,(.k x30))]) h 31 fun x31 h =>
 vop O (.bslice 7 1 [(.p (.int .i64 0)),(.p (.str [])),(.p .nilslice),(.p (.str [])),(.p (.int .i64 0)),(.p (.bool false)),(.p .nilslice)] [(0,(.k x31))] false) h 32 fun x32 h =>
 vop O (.build [(.p .nilslice)] [(0,1,(.k x32))]) h 33 fun x33 h =>
 vop O (.alloc [(.p .nilslice)] false) h 5 fun x5 h =>
 vstore 1 x5 x33 h fun _ h =>
 R 1 [x0,x1,x4,x5] h)
theorem e49_0(O:Oracle)(R:Jump)(q:Nat)(x0 x1:TVal)(h:Heap):b49_0 O R q x0 x1 h=stepF c49 O R q 0 [x0,x1] h:=by kernel_rfl
def b49_1(O:Oracle)(R:Jump)(q:Nat)(x0 x1 x4 x5:TVal)(h:Heap):Res1 :=
 vcall O (.v (.c (.func 78 []))) [x0] h 35 fun x35 h =>
 vif x35 (
 vfaddr 0 x5 h fun x36 h =>
 vload false 1 x36 h fun x37 h =>
 vlen O 2 x37 h 38 fun x38 h =>
 vbin .gtr 0 x38 (kI 4) h fun x39 h =>
 vif x39 (
 vcall O (.v (.c (.func 50 []))) [x0,(kI 18)] h 41 fun x41 h =>
 vload true 1 x5 h fun x42 h =>
 vstore 1 x4 x42 h fun _ h =>
 vcell true 1 x4 h fun c0=>vfin true q [c0] h)
 (vtouch O (.faddr 0 (.k x5)) h 43 fun x43 h t0 =>
 vtouch O (.load false 1 (.k x43)) h 44 fun x44 h t1 =>
 vtouch O (.mv (.k x0)) h 45 fun x45 h t2 =>
 vtouch O (.mv (.k x1)) h 46 fun x46 h t3 =>
 vtouch O (.call (.k (.v (.c (.func 77 [])))) [(.k x45),(.k x46)]) h 47 fun x47 h t4 =>
 vtouch O (.bslice 7 1 [(.p (.int .i64 0)),(.p (.str [])),(.p .nilslice),(.p (.str [])),(.p (.int .i64 0)),(.p (.bool false)),(.p .nilslice)] [(0,(.k x47))] false) h 48 fun x48 h t5 =>
 vtouch O (.append 7 104 false (.k x44) (.k x48)) h 49 fun x49 h t6 =>
 vtouch O (.faddr 0 (.k x5)) h 50 fun x50 h t7 =>
 vtouch O (.store 1 (.k x50) (.k x49)) h 1000000 fun _ h t8 =>
 bif apartAll [t0,t1,t2,t3,t4,t5,t6,t7,t8] [(1,4),(1,5)] then
 R 1 [x0,x1,x4,x5] h
 else none))
 (R 2 [x4,x5] h)
theorem e49_1(O:Oracle)(R:Jump)(q:Nat)(x0 x1 x4 x5:TVal)(h:Heap):b49_1 O R q x0 x1 x4 x5 h=stepF c49 O R q 1 [x0,x1,x4,x5] h:=by kernel_rfl
def b49_2(O:Oracle)(R:Jump)(q:Nat)(x4 x5:TVal)(h:Heap):Res1 :=
 vload true 1 x5 h fun x51 h =>
 vstore 1 x4 x51 h fun _ h =>
 vcell true 1 x4 h fun c0=>vfin true q [c0] h
theorem e49_2(O:Oracle)(R:Jump)(q:Nat)(x4 x5:TVal)(h:Heap):b49_2 O R q x4 x5 h=stepF c49 O R q 2 [x4,x5] h:=by kernel_rfl
def d49:BlkF:=fun O R Q=>[.s fun a => .s fun b => .z (b49_0 O R Q a b),.s fun a => .s fun b => .s fun c => .s fun d => .z (b49_1 O R Q a b c d),.s fun a => .s fun b => .z (b49_2 O R Q a b)]
theorem o49(O:Oracle)(R:Jump)(q:Nat):HoldsAll c49 O R q 0 (d49 O R q):=⟨e49_0 O R q,e49_1 O R q,e49_2 O R q,trivial⟩
def c51:MFunc:=mkM (compF Tryz.prog (globs2 tabs opq) (fun n=>Nat.blt n 1000000) true Tryz.f51) .n
def b51_0(O:Oracle)(R:Jump)(q:Nat)(x0 x1 x2 x3 x4:TVal)(h:Heap):Res1 :=
 vop O (.box (.k x2) true) h 7 fun x7 h =>
 vbin .neq 0 x1 (kS [100,101,102,105,110,101]) h fun x12 h =>
 vguard x12 true (fun kk=>kk x0 h) h fun x14 h =>
 vguard x12 true (fun kk=>vop O (.nilck (.k x14)) h 15 kk) h fun x15 h =>
 vguard x12 true (fun kk=>vfaddr 0 x15 h kk) h fun x16 h =>
 vguard x12 true (fun kk=>vload false 1 x16 h kk) h fun x17 h =>
 vguard x12 true (fun kk=>vlen O 2 x17 h 18 kk) h fun x18 h =>
 vguard x12 true (fun kk=>vbin .gtr 0 x18 (kI 0) h kk) h fun x19 h =>
 vop O (.pick (.k x12) (.k x19) (.k (kB false))) h 20 fun x20 h =>
 vguard x20 true (fun kk=>kk x0 h) h fun x22 h =>
 vguard x20 true (fun kk=>vop O (.nilck (.k x22)) h 23 kk) h fun x23 h =>
 vguard x20 true (fun kk=>vfaddr 0 x23 h kk) h fun x24 h =>
 vguard x20 true (fun kk=>vload false 1 x24 h kk) h fun x25 h =>
 vguard x20 true (fun kk=>kk x0 h) h fun x26 h =>
 vguard x20 true (fun kk=>vop O (.nilck (.k x26)) h 27 kk) h fun x27 h =>
 vguard x20 true (fun kk=>vfaddr 0 x27 h kk) h fun x28 h =>
 vguard x20 true (fun kk=>vload false 1 x28 h kk) h fun x29 h =>
 vguard x20 true (fun kk=>vlen O 2 x29 h 30 kk) h fun x30 h =>
 vguard x20 true (fun kk=>vbin .sub 0 x30 (kI 1) h kk) h fun x31 h =>
 vguard x20 true (fun kk=>viaddr 12 x25 x31 h kk) h fun x32 h =>
 vguard x20 true (fun kk=>vfaddr 10 x32 h kk) h fun x33 h =>
 vguard x20 true (fun kk=>vload false 1 x33 h kk) h fun x34 h =>
 vguard x20 true (fun kk=>vbin .eql 0 x34 (kI 3) h kk) h fun x35 h =>
 vop O (.pick (.k x20) (.k x35) (.k (kB false))) h 36 fun x36 h =>
 vif x36 (
 tcomp (kI 12) fun c0=>vfin true q [c0] h)
 (vop O (.nilck (.k x0)) h 38 fun x38 h =>
 vfaddr 0 x38 h fun x39 h =>
 vload false 1 x39 h fun x40 h =>
 vlen O 2 x40 h 41 fun x41 h =>
 vbin .geq 0 x41 (kI 12) h fun x42 h =>
 vif x42 (
 tcomp (kI 13) fun c0=>vfin true q [c0] h)
 (vtouch O (.mv (.k x0)) h 43 fun x43 h t0 =>
 vtouch O (.mv (.k x0)) h 44 fun x44 h t1 =>
 vtouch O (.nilck (.k x44)) h 45 fun x45 h t2 =>
 vtouch O (.faddr 0 (.k x45)) h 46 fun x46 h t3 =>
 vtouch O (.load false 1 (.k x46)) h 47 fun x47 h t4 =>
 vtouch O (.mv (.k x1)) h 48 fun x48 h t5 =>
 vtouch O (.load true 9 (.k x7)) h 49 fun x49 h t6 =>
 vtouch O (.mv (.k x3)) h 50 fun x50 h t7 =>
 vtouch O (.mv (.k x4)) h 51 fun x51 h t8 =>
 vtouch O (.build [(.p (.str [])),(.p (.int .i64 0)),(.p (.int .i64 0)),(.p (.str [])),(.p (.str [])),(.p .nilslice),(.p .nilslice),(.p .nilslice),(.p (.bool false)),(.p .nilslice),(.p (.int .i64 0)),(.p (.str []))] [(0,1,(.k x48)),(1,9,(.k x49)),(10,1,(.k x50)),(11,1,(.k x51))]) h 52 fun x52 h t9 =>
 vtouch O (.bslice 12 1 [(.p (.str [])),(.p (.int .i64 0)),(.p (.int .i64 0)),(.p (.str [])),(.p (.str [])),(.p .nilslice),(.p .nilslice),(.p .nilslice),(.p (.bool false)),(.p .nilslice),(.p (.int .i64 0)),(.p (.str []))] [(0,(.k x52))] true) h 53 fun x53 h t10 =>
 vtouch O (.append 12 192 true (.k x47) (.k x53)) h 54 fun x54 h t11 =>
 vtouch O (.nilck (.k x43)) h 55 fun x55 h t12 =>
 vtouch O (.faddr 0 (.k x55)) h 56 fun x56 h t13 =>
 vtouch O (.store 1 (.k x56) (.k x54)) h 1000000 fun _ h t14 =>
 bif apartAll [t0,t1,t2,t3,t4,t5,t6,t7,t8,t9,t10,t11,t12,t13,t14] [(4,10)] then
 tcomp (kI 0) fun c0=>vfin true q [c0] h
 else none))
theorem e51_0(O:Oracle)(R:Jump)(q:Nat)(x0 x1 x2 x3 x4:TVal)(h:Heap):b51_0 O R q x0 x1 x2 x3 x4 h=stepF c51 O R q 0 [x0,x1,x2,x3,x4] h:=by kernel_rfl
def d51:BlkF:=fun O R Q=>[.s fun a => .s fun b => .s fun c => .s fun d => .s fun e => .z (b51_0 O R Q a b c d e)]
theorem o51(O:Oracle)(R:Jump)(q:Nat):HoldsAll c51 O R q 0 (d51 O R q):=⟨e51_0 O R q,trivial⟩
def c53:MFunc:=mkM (compF Tryz.prog (globs2 tabs opq) (fun n=>Nat.blt n 1000000) true Tryz.f53) .n
def b53_0(O:Oracle)(R:Jump)(q:Nat)(x0:TVal)(h:Heap):Res1 :=
 vop O (.nilck (.k x0)) h 5 fun x5 h =>
 vfaddr 0 x5 h fun x6 h =>
 vload false 1 x6 h fun x7 h =>
 vlen O 2 x7 h 8 fun x8 h =>
 vbin .eql 0 x8 (kI 0) h fun x9 h =>
 vif x9 (
 tcomp (kI 12) fun c0=>vfin true q [c0] h)
 (vtouch O (.mv (.k x0)) h 10 fun x10 h t0 =>
 vtouch O (.nilck (.k x10)) h 11 fun x11 h t1 =>
 vtouch O (.faddr 0 (.k x11)) h 12 fun x12 h t2 =>
 vtouch O (.load false 1 (.k x12)) h 13 fun x13 h t3 =>
 vtouch O (.mv (.k x0)) h 14 fun x14 h t4 =>
 vtouch O (.nilck (.k x14)) h 15 fun x15 h t5 =>
 vtouch O (.faddr 0 (.k x15)) h 16 fun x16 h t6 =>
 vtouch O (.load false 1 (.k x16)) h 17 fun x17 h t7 =>
 vtouch O (.len 2 (.k x17)) h 18 fun x18 h t8 =>
 vtouch O (.bin .sub 0 (.k x18) (.k (kI 1))) h 19 fun x19 h t9 =>
 vtouch O (.iaddr 12 (.k x13) (.k x19)) h 20 fun x20 h t10 =>
 vtouch O (.load true 12 (.k x20)) h 21 fun x21 h t11 =>
 vtouch O (.alloc [(.p (.str [])),(.p (.int .i64 0)),(.p (.int .i64 0)),(.p (.str [])),(.p (.str [])),(.p .nilslice),(.p .nilslice),(.p .nilslice),(.p (.bool false)),(.p .nilslice),(.p (.int .i64 0)),(.p (.str []))] true) h 3 fun x3 h t12 =>
 vtouch O (.store 12 (.k x3) (.k x21)) h 1000000 fun _ h t13 =>
 bif apartAll [t0,t1,t2,t3,t4,t5,t6,t7,t8,t9,t10,t11,t12,t13] [(3,12),(7,12),(8,12),(11,12)] then
 vop O (.nilck (.k x0)) h 24 fun x24 h =>
 vfaddr 0 x24 h fun x25 h =>
 vload false 1 x25 h fun x26 h =>
 vop O (.nilck (.k x0)) h 28 fun x28 h =>
 vfaddr 0 x28 h fun x29 h =>
 vload false 1 x29 h fun x30 h =>
 vlen O 2 x30 h 31 fun x31 h =>
 vbin .sub 0 x31 (kI 1) h fun x32 h =>
 vop O (.slice 12 false (.k x26) none (some (.k x32)) none) h 33 fun x33 h =>
 vop O (.nilck (.k x0)) h 34 fun x34 h =>
 vfaddr 0 x34 h fun x35 h =>
 vstore 1 x35 x33 h fun _ h =>
 vfaddr 0 x3 h fun x36 h =>
 vload false 1 x36 h fun x37 h =>
 vbin .eql 0 x37 (kS [100,101,102,105,110,101]) h fun x38 h =>
 vif x38 (
 vtouch O (.mv (.k x0)) h 39 fun x39 h t0 =>
 vtouch O (.mv (.k x0)) h 40 fun x40 h t1 =>
 vtouch O (.nilck (.k x40)) h 41 fun x41 h t2 =>
 vtouch O (.faddr 2 (.k x41)) h 42 fun x42 h t3 =>
 vtouch O (.load false 1 (.k x42)) h 43 fun x43 h t4 =>
 vtouch O (.faddr 11 (.k x3)) h 44 fun x44 h t5 =>
 vtouch O (.load false 1 (.k x44)) h 45 fun x45 h t6 =>
 vtouch O (.faddr 1 (.k x3)) h 46 fun x46 h t7 =>
 vtouch O (.faddr 5 (.k x46)) h 47 fun x47 h t8 =>
 vtouch O (.load false 1 (.k x47)) h 48 fun x48 h t9 =>
 vtouch O (.build [(.p (.str [])),(.p .nilslice)] [(0,1,(.k x45)),(1,1,(.k x48))]) h 49 fun x49 h t10 =>
 vtouch O (.bslice 2 1 [(.p (.str [])),(.p .nilslice)] [(0,(.k x49))] true) h 50 fun x50 h t11 =>
 vtouch O (.append 2 40 true (.k x43) (.k x50)) h 51 fun x51 h t12 =>
 vtouch O (.nilck (.k x39)) h 52 fun x52 h t13 =>
 vtouch O (.faddr 2 (.k x52)) h 53 fun x53 h t14 =>
 vtouch O (.store 1 (.k x53) (.k x51)) h 1000000 fun _ h t15 =>
 bif apartAll [t0,t1,t2,t3,t4,t5,t6,t7,t8,t9,t10,t11,t12,t13,t14,t15] [(4,11)] then
 tcomp (kI 0) fun c0=>vfin true q [c0] h
 else none)
 (vfaddr 1 x3 h fun x55 h =>
 vload true 9 x55 h fun x56 h =>
 vcall O (.v (.c (.func 34 []))) [x0,x56] h 57 fun x57 h =>
 tcomp (kI 0) fun c0=>vfin true q [c0] h)
 else none)
theorem e53_0(O:Oracle)(R:Jump)(q:Nat)(x0:TVal)(h:Heap):b53_0 O R q x0 h=stepF c53 O R q 0 [x0] h:=by kernel_rfl
def d53:BlkF:=fun O R Q=>[.s fun a => .z (b53_0 O R Q a)]
theorem o53(O:Oracle)(R:Jump)(q:Nat):HoldsAll c53 O R q 0 (d53 O R q):=⟨e53_0 O R q,trivial⟩
def c54:MFunc:=mkM (compF Tryz.prog (globs2 tabs opq) (fun n=>Nat.blt n 1000000) true Tryz.f54) (.s .n (.s .n (.s .n (.s (.s .n (.k (.l 1 [0,1,5] .n))) (.m 2 [0,1] .n)))))
def b54_0(O:Oracle)(R:Jump)(q:Nat)(x0 x1:TVal)(h:Heap):Res1 :=
 vop O (.nilck (.k x0)) h 7 fun x7 h =>
 vfaddr 0 x7 h fun x8 h =>
 vload false 1 x8 h fun x9 h =>
 vlen O 2 x9 h 10 fun x10 h =>
 vbin .gtr 0 x10 (kI 0) h fun x11 h =>
 vif x11 (
 tcomp (kI 12) fun c0=>vfin true q [c0] h)
 (vcall O (.v (.c (.func 55 []))) [x1] h 13 fun x13 h =>
 vop O (.un .not (.k x13)) h 14 fun x14 h =>
 vif x14 (
 tcomp (kI 15) fun c0=>vfin true q [c0] h)
 (R 1 [x0,x1,(kI 0)] h))
theorem e54_0(O:Oracle)(R:Jump)(q:Nat)(x0 x1:TVal)(h:Heap):b54_0 O R q x0 x1 h=stepF c54 O R q 0 [x0,x1] h:=by kernel_rfl
def b54_1(O:Oracle)(R:Jump)(q:Nat)(x0 x1 x5:TVal)(h:Heap):Res1 :=
 vop O (.nilck (.k x0)) h 17 fun x17 h =>
 vfaddr 2 x17 h fun x18 h =>
 vload false 1 x18 h fun x19 h =>
 vlen O 2 x19 h 20 fun x20 h =>
 vbin .lss 0 x5 x20 h fun x21 h =>
 vif x21 (
 vop O (.nilck (.k x0)) h 25 fun x25 h =>
 vfaddr 2 x25 h fun x26 h =>
 vload false 1 x26 h fun x27 h =>
 viaddr 2 x27 x5 h fun x29 h =>
 vfaddr 0 x29 h fun x30 h =>
 vload false 1 x30 h fun x31 h =>
 vbin .eql 0 x31 x1 h fun x33 h =>
 vif x33 (
 tcomp (kI 6) fun c0=>vfin true q [c0] h)
 (vbin .add 0 x5 (kI 1) h fun x23 h =>
 R 1 [x0,x1,x23] h))
 (R 2 [x0,x1] h)
theorem e54_1(O:Oracle)(R:Jump)(q:Nat)(x0 x1 x5:TVal)(h:Heap):b54_1 O R q x0 x1 x5 h=stepF c54 O R q 1 [x0,x1,x5] h:=by kernel_rfl
def b54_2(O:Oracle)(R:Jump)(q:Nat)(x0 x1:TVal)(h:Heap):Res1 :=
 vop O (.nilck (.k x0)) h 35 fun x35 h =>
 vfaddr 2 x35 h fun x36 h =>
 vload false 1 x36 h fun x37 h =>
 vlen O 2 x37 h 38 fun x38 h =>
 vbin .geq 0 x38 (kI 12) h fun x39 h =>
 vif x39 (
 tcomp (kI 3) fun c0=>vfin true q [c0] h)
 (vop O (.build [(.p (.int .i64 0)),(.p (.int .i64 0)),(.p (.str [])),(.p (.str [])),(.p .nilslice),(.p .nilslice),(.p .nilslice),(.p (.bool false)),(.p .nilslice)] []) h 41 fun x41 h =>
 vcall O (.v (.c (.func 51 []))) [x0,(kS [100,101,102,105,110,101]),x41,(kI 0),x1] h 43 fun x43 h =>
 tcomp x43 fun c0=>vfin true q [c0] h)
theorem e54_2(O:Oracle)(R:Jump)(q:Nat)(x0 x1:TVal)(h:Heap):b54_2 O R q x0 x1 h=stepF c54 O R q 2 [x0,x1] h:=by kernel_rfl
def d54:BlkF:=fun O R Q=>[.s fun a => .s fun b => .z (b54_0 O R Q a b),.s fun a => .s fun b => .s fun c => .z (b54_1 O R Q a b c),.s fun a => .s fun b => .z (b54_2 O R Q a b)]
theorem o54(O:Oracle)(R:Jump)(q:Nat):HoldsAll c54 O R q 0 (d54 O R q):=⟨e54_0 O R q,e54_1 O R q,e54_2 O R q,trivial⟩
def c55:MFunc:=mkM (compF Tryz.prog (globs2 tabs opq) (fun _=>false) true Tryz.f55) (.s .n (.s .n (.s (.s .n (.k (.l 1 [0,3] .n))) .n)))
def b55_0(O:Oracle)(R:Jump)(q:Nat)(x0:TVal)(h:Heap):Res1 :=
 vlen O 0 x0 h 5 fun x5 h =>
 vbin .eql 0 x5 (kI 0) h fun x6 h =>
 vguard x6 false (fun kk=>kk x0 h) h fun x8 h =>
 vguard x6 false (fun kk=>vlen O 0 x8 h 9 kk) h fun x9 h =>
 vguard x6 false (fun kk=>vbin .gtr 0 x9 (kI 16) h kk) h fun x10 h =>
 vop O (.pick (.k x6) (.k (kB true)) (.k x10)) h 11 fun x11 h =>
 vguard x11 false (fun kk=>kk x0 h) h fun x13 h =>
 vguard x11 false (fun kk=>vindex x13 (kI 0) h kk) h fun x14 h =>
 vguard x11 false (fun kk=>vcall O (.v (.c (.func 73 []))) [x14] h 15 kk) h fun x15 h =>
 vguard x11 false (fun kk=>vop O (.un .not (.k x15)) h 16 kk) h fun x16 h =>
 vop O (.pick (.k x11) (.k (kB true)) (.k x16)) h 17 fun x17 h =>
 vif x17 (
 tcomp (kB false) fun c0=>vfin true q [c0] h)
 (R 1 [x0,(kI 0)] h)
theorem e55_0(O:Oracle)(R:Jump)(q:Nat)(x0:TVal)(h:Heap):b55_0 O R q x0 h=stepF c55 O R q 0 [x0] h:=by kernel_rfl
def b55_1(O:Oracle)(R:Jump)(q:Nat)(x0 x3:TVal)(h:Heap):Res1 :=
 vlen O 0 x0 h 20 fun x20 h =>
 vbin .lss 0 x3 x20 h fun x21 h =>
 vif x21 (
 vindex x0 x3 h fun x26 h =>
 vcall O (.v (.c (.func 73 []))) [x26] h 27 fun x27 h =>
 vop O (.un .not (.k x27)) h 28 fun x28 h =>
 vguard x28 true (fun kk=>kk x0 h) h fun x30 h =>
 vguard x28 true (fun kk=>kk x3 h) h fun x31 h =>
 vguard x28 true (fun kk=>vindex x30 x31 h kk) h fun x32 h =>
 vguard x28 true (fun kk=>vcall O (.v (.c (.func 74 []))) [x32] h 33 kk) h fun x33 h =>
 vguard x28 true (fun kk=>vop O (.un .not (.k x33)) h 34 kk) h fun x34 h =>
 vop O (.pick (.k x28) (.k x34) (.k (kB false))) h 35 fun x35 h =>
 vif x35 (
 tcomp (kB false) fun c0=>vfin true q [c0] h)
 (vbin .add 0 x3 (kI 1) h fun x23 h =>
 R 1 [x0,x23] h))
 (tcomp (kB true) fun c0=>vfin true q [c0] h)
theorem e55_1(O:Oracle)(R:Jump)(q:Nat)(x0 x3:TVal)(h:Heap):b55_1 O R q x0 x3 h=stepF c55 O R q 1 [x0,x3] h:=by kernel_rfl
def d55:BlkF:=fun O R Q=>[.s fun a => .z (b55_0 O R Q a),.s fun a => .s fun b => .z (b55_1 O R Q a b)]
theorem o55(O:Oracle)(R:Jump)(q:Nat):HoldsAll c55 O R q 0 (d55 O R q):=⟨e55_0 O R q,e55_1 O R q,trivial⟩
def c56:MFunc:=mkM (compF Tryz.prog (globs2 tabs opq) (fun _=>false) true Tryz.f56) .n
def b56_0(O:Oracle)(R:Jump)(q:Nat)(x0 x1 x2 x3:TVal)(h:Heap):Res1 :=
 vop O (.box (.k x1) false) h 5 fun x5 h =>
 vop O (.box (.k x2) false) h 6 fun x6 h =>
 vop O (.alloc [(.p (.int .i64 0)),(.p (.bool false)),(.p (.int .i64 0)),(.p (.str [])),(.p .nilslice),(.p .nilslice)] false) h 8 fun x8 h =>
 vcall O (.v (.c (.func 36 []))) [x0] h 14 fun x14 h =>
 vbin .neq 0 x14 (kI 0) h fun x16 h =>
 vif x16 (
 vop O (.build [(.p (.int .i64 0)),(.p (.bool false)),(.p (.int .i64 0)),(.p (.str [])),(.p .nilslice),(.p .nilslice)] []) h 17 fun x17 h =>
 vstore 6 x8 x17 h fun _ h =>
 vcell true 6 x8 h fun c0=>tcomp x14 fun c1=>vfin true q [c0,c1] h)
 (vfaddr 0 x6 h fun x19 h =>
 vload false 1 x19 h fun x20 h =>
 vlen O 2 x20 h 21 fun x21 h =>
 vbin .eql 0 x21 (kI 0) h fun x22 h =>
 vif x22 (
 vop O (.build [(.p (.int .i64 0)),(.p (.bool false)),(.p (.int .i64 0)),(.p (.str [])),(.p .nilslice),(.p .nilslice)] []) h 23 fun x23 h =>
 vstore 6 x8 x23 h fun _ h =>
 vcell true 6 x8 h fun c0=>tcomp (kI 12) fun c1=>vfin true q [c0,c1] h)
 (vfaddr 0 x6 h fun x24 h =>
 vload false 1 x24 h fun x25 h =>
 viaddr 7 x25 (kI 0) h fun x26 h =>
 vfaddr 0 x26 h fun x27 h =>
 vload false 1 x27 h fun x28 h =>
 vbin .eql 0 x28 (kI 6) h fun x29 h =>
 vif x29 (
 vload true 8 x5 h fun x31 h =>
 vload true 1 x6 h fun x32 h =>
 vcall O (.v (.c (.func 79 []))) [x0,x31,x32,x3] h 34 fun x34 h =>
 vext x34 0 h fun x35 h =>
 vext x34 1 h fun x36 h =>
 vstore 6 x8 x35 h fun _ h =>
 vcell true 6 x8 h fun c0=>tcomp x36 fun c1=>vfin true q [c0,c1] h)
 (vtouch O (.mv (.k x0)) h 38 fun x38 h t0 =>
 vtouch O (.load true 8 (.k x5)) h 39 fun x39 h t1 =>
 vtouch O (.faddr 0 (.k x6)) h 40 fun x40 h t2 =>
 vtouch O (.load false 1 (.k x40)) h 41 fun x41 h t3 =>
 vtouch O (.iaddr 7 (.k x41) (.k (kI 0))) h 42 fun x42 h t4 =>
 vtouch O (.load true 7 (.k x42)) h 43 fun x43 h t5 =>
 vtouch O (.call (.k (.v (.c (.func 80 [])))) [(.k x38),(.k x39),(.k x43)]) h 44 fun x44 h t6 =>
 vtouch O (.mv (.k x44)) h 37 fun x37 h t7 =>
 vtouch O (.extract (.k x37) 0) h 45 fun x45 h t8 =>
 vtouch O (.extract (.k x37) 1) h 46 fun x46 h t9 =>
 vtouch O (.alloc [(.p (.int .i64 0)),(.p (.bool false)),(.p (.int .i64 0)),(.p (.str [])),(.p .nilslice),(.p .nilslice)] false) h 11 fun x11 h t10 =>
 vtouch O (.store 6 (.k x11) (.k x45)) h 1000000 fun _ h t11 =>
 vtouch O (.mv (.k x46)) h 12 fun x12 h t12 =>
 bif apartAll [t0,t1,t2,t3,t4,t5,t6,t7,t8,t9,t10,t11,t12] [(1,10),(3,10),(5,10),(6,10)] then
 vbin .eql 0 x12 (kI 0) h fun x48 h =>
 vguard x48 true (fun kk=>kk x3 h) h fun x50 h =>
 vguard x48 true (fun kk=>vlen O 2 x50 h 51 kk) h fun x51 h =>
 vguard x48 true (fun kk=>vbin .gtr 0 x51 (kI 0) h kk) h fun x52 h =>
 vop O (.pick (.k x48) (.k x52) (.k (kB false))) h 53 fun x53 h =>
 vif x53 (
 vop O (.build [(.p (.int .i64 0)),(.p (.bool false)),(.p (.int .i64 0)),(.p (.str [])),(.p .nilslice),(.p .nilslice)] []) h 54 fun x54 h =>
 vstore 6 x8 x54 h fun _ h =>
 vcell true 6 x8 h fun c0=>tcomp (kI 18) fun c1=>vfin true q [c0,c1] h)
 (vload true 6 x11 h fun x55 h =>
 vstore 6 x8 x55 h fun _ h =>
 vcell true 6 x8 h fun c0=>tcomp x12 fun c1=>vfin true q [c0,c1] h)
 else none)))
theorem e56_0(O:Oracle)(R:Jump)(q:Nat)(x0 x1 x2 x3:TVal)(h:Heap):b56_0 O R q x0 x1 x2 x3 h=stepF c56 O R q 0 [x0,x1,x2,x3] h:=by kernel_rfl
def d56:BlkF:=fun O R Q=>[.s fun a => .s fun b => .s fun c => .s fun d => .z (b56_0 O R Q a b c d)]
theorem o56(O:Oracle)(R:Jump)(q:Nat):HoldsAll c56 O R q 0 (d56 O R q):=⟨e56_0 O R q,trivial⟩
def c57:MFunc:=mkM (compF Tryz.prog (globs2 tabs opq) (fun _=>false) true Tryz.f57) .n
def b57_0(O:Oracle)(R:Jump)(q:Nat)(x0 x1:TVal)(h:Heap):Res1 :=
 vop O (.box (.k x1) false) h 3 fun x3 h =>
 vfaddr 0 x3 h fun x5 h =>
 vload false 1 x5 h fun x6 h =>
 vbin .eql 0 x6 (kI 1) h fun x8 h =>
 vif x8 (
 vfaddr 1 x3 h fun x10 h =>
 vload false 1 x10 h fun x11 h =>
 vcall O (.v (.c (.func 81 []))) [x11] h 12 fun x12 h =>
 vcall O (.v (.c (.func 37 []))) [x0,x12] h 13 fun x13 h =>
 tcomp x13 fun c0=>vfin true q [c0] h)
 (vbin .eql 0 x6 (kI 2) h fun x15 h =>
 vif x15 (
 vfaddr 2 x3 h fun x17 h =>
 vload false 1 x17 h fun x18 h =>
 vcall O (.v (.c (.func 82 []))) [x18,(kI 10)] h 19 fun x19 h =>
 vcall O (.v (.c (.func 37 []))) [x0,x19] h 20 fun x20 h =>
 tcomp x20 fun c0=>vfin true q [c0] h)
 (vbin .eql 0 x6 (kI 3) h fun x22 h =>
 vif x22 (
 vfaddr 3 x3 h fun x24 h =>
 vload false 1 x24 h fun x25 h =>
 vcall O (.v (.c (.func 37 []))) [x0,x25] h 26 fun x26 h =>
 tcomp x26 fun c0=>vfin true q [c0] h)
 (tcomp (kI 17) fun c0=>vfin true q [c0] h)))
theorem e57_0(O:Oracle)(R:Jump)(q:Nat)(x0 x1:TVal)(h:Heap):b57_0 O R q x0 x1 h=stepF c57 O R q 0 [x0,x1] h:=by kernel_rfl
def d57:BlkF:=fun O R Q=>[.s fun a => .s fun b => .z (b57_0 O R Q a b)]
theorem o57(O:Oracle)(R:Jump)(q:Nat):HoldsAll c57 O R q 0 (d57 O R q):=⟨e57_0 O R q,trivial⟩
def c62:MFunc:=mkM (compF Tryz.prog (globs2 tabs opq) (fun _=>false) true Tryz.f62) .n
def b62_0(O:Oracle)(R:Jump)(q:Nat)(x0 x1 x2 x3:TVal)(h:Heap):Res1 :=
 vop O (.box (.k x1) false) h 5 fun x5 h =>
 vop O (.box (.k x2) false) h 6 fun x6 h =>
 vop O (.box (.k x3) false) h 7 fun x7 h =>
 vop O (.nilck (.k x0)) h 11 fun x11 h =>
 vfaddr 3 x11 h fun x12 h =>
 vload false 1 x12 h fun x13 h =>
 vop O (.mkfn 85 [(.k x6)]) h 14 fun x14 h =>
 vcall O (.v (.c (.func 84 []))) [x13,x14] h 15 fun x15 h =>
 vbin .lss 0 x15 (kI 0) h fun x18 h =>
 vguard x18 false (fun kk=>vload false 1 x6 h kk) h fun x20 h =>
 vguard x18 false (fun kk=>vbin .eql 0 x20 (kS []) h kk) h fun x21 h =>
 vop O (.pick (.k x18) (.k (kB true)) (.k x21)) h 22 fun x22 h =>
 vif x22 (
 tcomp (kI 15) fun c0=>vfin true q [c0] h)
 (vfaddr 7 x5 h fun x24 h =>
 vload false 1 x24 h fun x25 h =>
 vop O (.nilck (.k x0)) h 27 fun x27 h =>
 vfaddr 0 x27 h fun x28 h =>
 vfaddr 1 x28 h fun x29 h =>
 vload false 1 x29 h fun x30 h =>
 vbin .geq 0 x25 x30 h fun x31 h =>
 vif x31 (
 tcomp (kI 35) fun c0=>vfin true q [c0] h)
 (vload true 6 x7 h fun x33 h =>
 vfaddr 7 x5 h fun x34 h =>
 vload false 1 x34 h fun x35 h =>
 vbin .add 0 x35 (kI 1) h fun x36 h =>
 vop O (.build [(.p (.int .i64 0)),(.p (.bool false)),(.p (.int .i64 0)),(.p (.str [])),(.p .nilslice),(.p .nilslice),(.p .nilslice),(.p (.int .i64 0))] [(0,6,(.k x33)),(7,1,(.k x36))]) h 37 fun x37 h =>
 vop O (.nilck (.k x0)) h 39 fun x39 h =>
 vfaddr 3 x39 h fun x40 h =>
 vload false 1 x40 h fun x41 h =>
 viaddr 2 x41 x15 h fun x43 h =>
 vfaddr 1 x43 h fun x44 h =>
 vload false 1 x44 h fun x45 h =>
 vcall O (.v (.c (.func 17 []))) [x0,x37,x45] h 46 fun x46 h =>
 tcomp x46 fun c0=>vfin true q [c0] h))
theorem e62_0(O:Oracle)(R:Jump)(q:Nat)(x0 x1 x2 x3:TVal)(h:Heap):b62_0 O R q x0 x1 x2 x3 h=stepF c62 O R q 0 [x0,x1,x2,x3] h:=by kernel_rfl
def d62:BlkF:=fun O R Q=>[.s fun a => .s fun b => .s fun c => .s fun d => .z (b62_0 O R Q a b c d)]
theorem o62(O:Oracle)(R:Jump)(q:Nat):HoldsAll c62 O R q 0 (d62 O R q):=⟨e62_0 O R q,trivial⟩
def c63:MFunc:=mkM (compF Tryz.prog (globs2 tabs opq) (fun _=>false) true Tryz.f63) (.s .n (.s (.s .n (.k (.l 1 [0,1,7,8] .n))) .n))
def b63_0(O:Oracle)(R:Jump)(q:Nat)(x0 x1:TVal)(h:Heap):Res1 :=
 vlen O 2 x0 h 7 fun x7 h =>
 R 1 [x0,x1,x7,(kI 0)] h
theorem e63_0(O:Oracle)(R:Jump)(q:Nat)(x0 x1:TVal)(h:Heap):b63_0 O R q x0 x1 h=stepF c63 O R q 0 [x0,x1] h:=by kernel_rfl
def b63_1(O:Oracle)(R:Jump)(q:Nat)(x0 x1 x7 x8:TVal)(h:Heap):Res1 :=
 vbin .lss 0 x8 x7 h fun x9 h =>
 vif x9 (
 viaddr 1 x0 x8 h fun x14 h =>
 vload false 1 x14 h fun x15 h =>
 vbin .eql 0 x1 x15 h fun x16 h =>
 vif x16 (
 tcomp x8 fun c0=>vfin true q [c0] h)
 (vbin .add 0 x8 (kI 1) h fun x18 h =>
 R 1 [x0,x1,x7,x18] h))
 (tcomp (kI (-1)) fun c0=>vfin true q [c0] h)
theorem e63_1(O:Oracle)(R:Jump)(q:Nat)(x0 x1 x7 x8:TVal)(h:Heap):b63_1 O R q x0 x1 x7 x8 h=stepF c63 O R q 1 [x0,x1,x7,x8] h:=by kernel_rfl
def d63:BlkF:=fun O R Q=>[.s fun a => .s fun b => .z (b63_0 O R Q a b),.s fun a => .s fun b => .s fun c => .s fun d => .z (b63_1 O R Q a b c d)]
theorem o63(O:Oracle)(R:Jump)(q:Nat):HoldsAll c63 O R q 0 (d63 O R q):=⟨e63_0 O R q,e63_1 O R q,trivial⟩
def c64:MFunc:=mkM (compF Tryz.prog (globs2 tabs opq) (fun _=>false) true Tryz.f64) (.s .n (.s .n (.s (.s .n (.k (.l 1 [1,2,14,15,16] .n))) (.m 2 [1,2] .n))))
def b64_0(O:Oracle)(R:Jump)(q:Nat)(x0:TVal)(h:Heap):Res1 :=
 vop O (.box (.k x0) false) h 1 fun x1 h =>
 vop O (.alloc [(.p (.int .i64 0)),(.p (.bool false)),(.p (.int .i64 0)),(.p (.str [])),(.p .nilslice),(.p .nilslice)] false) h 2 fun x2 h =>
 vtouch O (.faddr 4 (.k x1)) h 5 fun x5 h t0 =>
 vtouch O (.load false 1 (.k x5)) h 6 fun x6 h t1 =>
 vtouch O (.call (.k (.v (.c (.func 86 [])))) [(.k x6)]) h 7 fun x7 h t2 =>
 vtouch O (.faddr 5 (.k x1)) h 8 fun x8 h t3 =>
 vtouch O (.load false 1 (.k x8)) h 9 fun x9 h t4 =>
 vtouch O (.call (.k (.v (.c (.func 19 [])))) [(.k x9)]) h 10 fun x10 h t5 =>
 vtouch O (.faddr 4 (.k x1)) h 11 fun x11 h t6 =>
 vtouch O (.store 1 (.k x11) (.k x7)) h 1000000 fun _ h t7 =>
 vtouch O (.faddr 5 (.k x1)) h 12 fun x12 h t8 =>
 vtouch O (.store 1 (.k x12) (.k x10)) h 1000000 fun _ h t9 =>
 bif apartAll [t0,t1,t2,t3,t4,t5,t6,t7,t8,t9] [(2,4)] then
 vfaddr 5 x1 h fun x13 h =>
 vload false 1 x13 h fun x14 h =>
 vlen O 2 x14 h 15 fun x15 h =>
 R 1 [x1,x2,x14,x15,(kI 0)] h
 else none
theorem e64_0(O:Oracle)(R:Jump)(q:Nat)(x0:TVal)(h:Heap):b64_0 O R q x0 h=stepF c64 O R q 0 [x0] h:=by kernel_rfl
def b64_1(O:Oracle)(R:Jump)(q:Nat)(x1 x2 x14 x15 x16:TVal)(h:Heap):Res1 :=
 vbin .lss 0 x16 x15 h fun x17 h =>
 vif x17 (
 viaddr 6 x14 x16 h fun x19 h =>
 vload true 6 x19 h fun x20 h =>
 vop O (.alloc [(.p (.int .i64 0)),(.p (.bool false)),(.p (.int .i64 0)),(.p (.str [])),(.p .nilslice),(.p .nilslice)] false) h 4 fun x4 h =>
 vstore 6 x4 x20 h fun _ h =>
 vtouch O (.faddr 5 (.k x1)) h 21 fun x21 h t0 =>
 vtouch O (.load false 1 (.k x21)) h 22 fun x22 h t1 =>
 vtouch O (.mv (.k x16)) h 23 fun x23 h t2 =>
 vtouch O (.load true 6 (.k x4)) h 24 fun x24 h t3 =>
 vtouch O (.call (.k (.v (.c (.func 64 [])))) [(.k x24)]) h 25 fun x25 h t4 =>
 vtouch O (.iaddr 6 (.k x22) (.k x23)) h 26 fun x26 h t5 =>
 vtouch O (.store 6 (.k x26) (.k x25)) h 1000000 fun _ h t6 =>
 bif apartAll [t0,t1,t2,t3,t4,t5,t6] [(1,4)] then
 vbin .add 0 x16 (kI 1) h fun x27 h =>
 R 1 [x1,x2,x14,x15,x27] h
 else none)
 (R 2 [x1,x2] h)
theorem e64_1(O:Oracle)(R:Jump)(q:Nat)(x1 x2 x14 x15 x16:TVal)(h:Heap):b64_1 O R q x1 x2 x14 x15 x16 h=stepF c64 O R q 1 [x1,x2,x14,x15,x16] h:=by kernel_rfl
def b64_2(O:Oracle)(R:Jump)(q:Nat)(x1 x2:TVal)(h:Heap):Res1 :=
 vload true 6 x1 h fun x28 h =>
 vstore 6 x2 x28 h fun _ h =>
 vcell true 6 x2 h fun c0=>vfin true q [c0] h
theorem e64_2(O:Oracle)(R:Jump)(q:Nat)(x1 x2:TVal)(h:Heap):b64_2 O R q x1 x2 h=stepF c64 O R q 2 [x1,x2] h:=by kernel_rfl
def d64:BlkF:=fun O R Q=>[.s fun a => .z (b64_0 O R Q a),.s fun a => .s fun b => .s fun c => .s fun d => .s fun e => .z (b64_1 O R Q a b c d e),.s fun a => .s fun b => .z (b64_2 O R Q a b)]
theorem o64(O:Oracle)(R:Jump)(q:Nat):HoldsAll c64 O R q 0 (d64 O R q):=⟨e64_0 O R q,e64_1 O R q,e64_2 O R q,trivial⟩
def c65:MFunc:=mkM (compF Tryz.prog (globs2 tabs opq) (fun _=>false) true Tryz.f65) .n
def b65_0(O:Oracle)(R:Jump)(q:Nat)(x0:TVal)(h:Heap):Res1 :=
 vbin .lss 0 x0 (kI 0) h fun x4 h =>
 vif x4 (
 vbin .eql 0 x0 (kI (-9223372036854775808)) h fun x6 h =>
 vif x6 (
 tcomp (kS [45,57,50,50,51,51,55,50,48,51,54,56,53,52,55,55,53,56,48,56]) fun c0=>vfin true q [c0] h)
 (vbin .sub 0 (kI 0) x0 h fun x8 h =>
 vcall O (.v (.c (.func 65 []))) [x8] h 9 fun x9 h =>
 vbin .add 0 (kS [45]) x9 h fun x10 h =>
 tcomp x10 fun c0=>vfin true q [c0] h))
 (vbin .geq 0 x0 (kI 10) h fun x12 h =>
 vif x12 (
 vbin .quo 0 x0 (kI 10) h fun x14 h =>
 vcall O (.v (.c (.func 65 []))) [x14] h 15 fun x15 h =>
 vbin .rem 0 x0 (kI 10) h fun x17 h =>
 vcall O (.v (.c (.func 65 []))) [x17] h 18 fun x18 h =>
 vbin .add 0 x15 x18 h fun x19 h =>
 tcomp x19 fun c0=>vfin true q [c0] h)
 (vbin .add 0 (kI 48) x0 h fun x21 h =>
 vtoInt .u8 x21 h fun x22 h =>
 vop O (.bslice 1 1 [(.p (.int .u8 0))] [(0,(.k x22))] false) h 23 fun x23 h =>
 vop O (.toStr (.k x23)) h 24 fun x24 h =>
 tcomp x24 fun c0=>vfin true q [c0] h))
theorem e65_0(O:Oracle)(R:Jump)(q:Nat)(x0:TVal)(h:Heap):b65_0 O R q x0 h=stepF c65 O R q 0 [x0] h:=by kernel_rfl
def d65:BlkF:=fun O R Q=>[.s fun a => .z (b65_0 O R Q a)]
theorem o65(O:Oracle)(R:Jump)(q:Nat):HoldsAll c65 O R q 0 (d65 O R q):=⟨e65_0 O R q,trivial⟩
def c66:MFunc:=mkM (compF Tryz.prog (globs2 tabs opq) (fun _=>false) true Tryz.f66) (.s .n (.s .n (.s (.s .n (.k (.l 1 [0,2,4,5] .n))) (.m 2 [2] .n))))
def b66_0(O:Oracle)(R:Jump)(q:Nat)(x0:TVal)(h:Heap):Res1 :=
 vop O (.alloc [(.p (.int .i64 0)),(.p (.bool false)),(.p (.int .i64 0)),(.p (.str [])),(.p .nilslice),(.p .nilslice)] false) h 2 fun x2 h =>
 vop O (.bslice 1 3 [(.p (.str []))] [(0,(.k (kS [110,117,108,108]))),(1,(.k (kS [102,97,108,115,101]))),(2,(.k (kS [116,114,117,101])))] false) h 7 fun x7 h =>
 R 1 [x0,x2,x7,(kI 0)] h
theorem e66_0(O:Oracle)(R:Jump)(q:Nat)(x0:TVal)(h:Heap):b66_0 O R q x0 h=stepF c66 O R q 0 [x0] h:=by kernel_rfl
def b66_1(O:Oracle)(R:Jump)(q:Nat)(x0 x2 x4 x5:TVal)(h:Heap):Res1 :=
 vbin .lss 0 x5 (kI 3) h fun x9 h =>
 vif x9 (
 viaddr 1 x4 x5 h fun x14 h =>
 vload false 1 x14 h fun x15 h =>
 vop O (.nilck (.k x0)) h 17 fun x17 h =>
 vfaddr 1 x17 h fun x18 h =>
 vload false 1 x18 h fun x19 h =>
 vlen O 0 x15 h 21 fun x21 h =>
 vbin .add 0 x19 x21 h fun x22 h =>
 vop O (.nilck (.k x0)) h 24 fun x24 h =>
 vfaddr 0 x24 h fun x25 h =>
 vload false 1 x25 h fun x26 h =>
 vlen O 0 x26 h 27 fun x27 h =>
 vbin .leq 0 x22 x27 h fun x28 h =>
 vguard x28 true (fun kk=>kk x0 h) h fun x30 h =>
 vguard x28 true (fun kk=>vop O (.nilck (.k x30)) h 31 kk) h fun x31 h =>
 vguard x28 true (fun kk=>vfaddr 0 x31 h kk) h fun x32 h =>
 vguard x28 true (fun kk=>vload false 1 x32 h kk) h fun x33 h =>
 vguard x28 true (fun kk=>kk x0 h) h fun x34 h =>
 vguard x28 true (fun kk=>vop O (.nilck (.k x34)) h 35 kk) h fun x35 h =>
 vguard x28 true (fun kk=>vfaddr 1 x35 h kk) h fun x36 h =>
 vguard x28 true (fun kk=>vload false 1 x36 h kk) h fun x37 h =>
 vguard x28 true (fun kk=>kk x0 h) h fun x38 h =>
 vguard x28 true (fun kk=>vop O (.nilck (.k x38)) h 39 kk) h fun x39 h =>
 vguard x28 true (fun kk=>vfaddr 1 x39 h kk) h fun x40 h =>
 vguard x28 true (fun kk=>vload false 1 x40 h kk) h fun x41 h =>
 vguard x28 true (fun kk=>kk x15 h) h fun x42 h =>
 vguard x28 true (fun kk=>vlen O 0 x42 h 43 kk) h fun x43 h =>
 vguard x28 true (fun kk=>vbin .add 0 x41 x43 h kk) h fun x44 h =>
 vguard x28 true (fun kk=>vop O (.slice 0 true (.k x33) (some (.k x37)) (some (.k x44)) none) h 45 kk) h fun x45 h =>
 vguard x28 true (fun kk=>kk x15 h) h fun x46 h =>
 vguard x28 true (fun kk=>vbin .eql 0 x45 x46 h kk) h fun x47 h =>
 vop O (.pick (.k x28) (.k x47) (.k (kB false))) h 48 fun x48 h =>
 vif x48 (
 vop O (.nilck (.k x0)) h 51 fun x51 h =>
 vfaddr 1 x51 h fun x52 h =>
 vload false 1 x52 h fun x53 h =>
 vlen O 0 x15 h 55 fun x55 h =>
 vbin .add 0 x53 x55 h fun x56 h =>
 vop O (.nilck (.k x0)) h 57 fun x57 h =>
 vfaddr 1 x57 h fun x58 h =>
 vstore 1 x58 x56 h fun _ h =>
 vbin .eql 0 x5 (kI 0) h fun x60 h =>
 vif x60 (
 vop O (.build [(.p (.int .i64 0)),(.p (.bool false)),(.p (.int .i64 0)),(.p (.str [])),(.p .nilslice),(.p .nilslice)] []) h 61 fun x61 h =>
 vstore 6 x2 x61 h fun _ h =>
 vcell true 6 x2 h fun c0=>tcomp (kB true) fun c1=>vfin true q [c0,c1] h)
 (vbin .eql 0 x5 (kI 2) h fun x63 h =>
 vop O (.build [(.p (.int .i64 0)),(.p (.bool false)),(.p (.int .i64 0)),(.p (.str [])),(.p .nilslice),(.p .nilslice)] [(0,1,(.k (kI 1))),(1,1,(.k x63))]) h 64 fun x64 h =>
 vstore 6 x2 x64 h fun _ h =>
 vcell true 6 x2 h fun c0=>tcomp (kB true) fun c1=>vfin true q [c0,c1] h))
 (vbin .add 0 x5 (kI 1) h fun x11 h =>
 R 1 [x0,x2,x4,x11] h))
 (R 2 [x2] h)
theorem e66_1(O:Oracle)(R:Jump)(q:Nat)(x0 x2 x4 x5:TVal)(h:Heap):b66_1 O R q x0 x2 x4 x5 h=stepF c66 O R q 1 [x0,x2,x4,x5] h:=by kernel_rfl
def b66_2(O:Oracle)(R:Jump)(q:Nat)(x2:TVal)(h:Heap):Res1 :=
 vop O (.build [(.p (.int .i64 0)),(.p (.bool false)),(.p (.int .i64 0)),(.p (.str [])),(.p .nilslice),(.p .nilslice)] []) h 65 fun x65 h =>
 vstore 6 x2 x65 h fun _ h =>
 vcell true 6 x2 h fun c0=>tcomp (kB false) fun c1=>vfin true q [c0,c1] h
theorem e66_2(O:Oracle)(R:Jump)(q:Nat)(x2:TVal)(h:Heap):b66_2 O R q x2 h=stepF c66 O R q 2 [x2] h:=by kernel_rfl
def d66:BlkF:=fun O R Q=>[.s fun a => .z (b66_0 O R Q a),.s fun a => .s fun b => .s fun c => .s fun d => .z (b66_1 O R Q a b c d),.s fun a => .z (b66_2 O R Q a)]
theorem o66(O:Oracle)(R:Jump)(q:Nat):HoldsAll c66 O R q 0 (d66 O R q):=⟨e66_0 O R q,e66_1 O R q,e66_2 O R q,trivial⟩
def c67:MFunc:=mkM (compF Tryz.prog (globs2 tabs opq) (fun _=>false) true Tryz.f67) .n
def b67_0(O:Oracle)(R:Jump)(q:Nat)(x0:TVal)(h:Heap):Res1 :=
 vbin .geq 0 x0 (.v (.c (.p (.int .u8 48)))) h fun x4 h =>
 vguard x4 true (fun kk=>kk x0 h) h fun x6 h =>
 vguard x4 true (fun kk=>vbin .leq 0 x6 (.v (.c (.p (.int .u8 57)))) h kk) h fun x7 h =>
 vop O (.pick (.k x4) (.k x7) (.k (kB false))) h 8 fun x8 h =>
 tcomp x8 fun c0=>vfin true q [c0] h
theorem e67_0(O:Oracle)(R:Jump)(q:Nat)(x0:TVal)(h:Heap):b67_0 O R q x0 h=stepF c67 O R q 0 [x0] h:=by kernel_rfl
def d67:BlkF:=fun O R Q=>[.s fun a => .z (b67_0 O R Q a)]
theorem o67(O:Oracle)(R:Jump)(q:Nat):HoldsAll c67 O R q 0 (d67 O R q):=⟨e67_0 O R q,trivial⟩
def c71:MFunc:=mkM (compF Tryz.prog (globs2 tabs opq) (fun _=>false) true Tryz.f71) (.s .n (.s .n (.s .n (.m 1 [0,2,3] (.s .n (.s (.s .n (.s .n (.k (.l 2 [0,2,3] .n)))) (.m 3 [0,2,3] .n)))))))
def b71_0(O:Oracle)(R:Jump)(q:Nat)(x0:TVal)(h:Heap):Res1 :=
 vop O (.alloc [(.p (.int .i64 0)),(.p (.bool false)),(.p (.int .i64 0)),(.p (.str [])),(.p .nilslice),(.p .nilslice)] false) h 2 fun x2 h =>
 vop O (.nilck (.k x0)) h 7 fun x7 h =>
 vfaddr 1 x7 h fun x8 h =>
 vload false 1 x8 h fun x9 h =>
 vop O (.nilck (.k x0)) h 11 fun x11 h =>
 vfaddr 0 x11 h fun x12 h =>
 vload false 1 x12 h fun x13 h =>
 vindex x13 x9 h fun x15 h =>
 vbin .eql 0 x15 (.v (.c (.p (.int .u8 45)))) h fun x16 h =>
 vif x16 (
 vbin .add 0 x9 (kI 1) h fun x18 h =>
 R 1 [x0,x2,x18] h)
 (R 1 [x0,x2,x9] h)
theorem e71_0(O:Oracle)(R:Jump)(q:Nat)(x0:TVal)(h:Heap):b71_0 O R q x0 h=stepF c71 O R q 0 [x0] h:=by kernel_rfl
def b71_1(O:Oracle)(R:Jump)(q:Nat)(x0 x2 x3:TVal)(h:Heap):Res1 :=
 vop O (.nilck (.k x0)) h 21 fun x21 h =>
 vfaddr 0 x21 h fun x22 h =>
 vload false 1 x22 h fun x23 h =>
 vlen O 0 x23 h 24 fun x24 h =>
 vbin .geq 0 x3 x24 h fun x25 h =>
 vguard x25 false (fun kk=>kk x0 h) h fun x27 h =>
 vguard x25 false (fun kk=>vop O (.nilck (.k x27)) h 28 kk) h fun x28 h =>
 vguard x25 false (fun kk=>vfaddr 0 x28 h kk) h fun x29 h =>
 vguard x25 false (fun kk=>vload false 1 x29 h kk) h fun x30 h =>
 vguard x25 false (fun kk=>kk x3 h) h fun x31 h =>
 vguard x25 false (fun kk=>vindex x30 x31 h kk) h fun x32 h =>
 vguard x25 false (fun kk=>vcall O (.v (.c (.func 67 []))) [x32] h 33 kk) h fun x33 h =>
 vguard x25 false (fun kk=>vop O (.un .not (.k x33)) h 34 kk) h fun x34 h =>
 vop O (.pick (.k x25) (.k (kB true)) (.k x34)) h 35 fun x35 h =>
 vif x35 (
 vcall O (.v (.c (.func 45 []))) [x0,(kI 12)] h 37 fun x37 h =>
 vop O (.build [(.p (.int .i64 0)),(.p (.bool false)),(.p (.int .i64 0)),(.p (.str [])),(.p .nilslice),(.p .nilslice)] []) h 38 fun x38 h =>
 vstore 6 x2 x38 h fun _ h =>
 vcell true 6 x2 h fun c0=>vfin true q [c0] h)
 (vop O (.nilck (.k x0)) h 40 fun x40 h =>
 vfaddr 0 x40 h fun x41 h =>
 vload false 1 x41 h fun x42 h =>
 vindex x42 x3 h fun x44 h =>
 vbin .eql 0 x44 (.v (.c (.p (.int .u8 48)))) h fun x45 h =>
 vif x45 (
 vbin .add 0 x3 (kI 1) h fun x47 h =>
 R 3 [x0,x2,x47] h)
 (R 2 [x0,x2,x3] h))
theorem e71_1(O:Oracle)(R:Jump)(q:Nat)(x0 x2 x3:TVal)(h:Heap):b71_1 O R q x0 x2 x3 h=stepF c71 O R q 1 [x0,x2,x3] h:=by kernel_rfl
def b71_2(O:Oracle)(R:Jump)(q:Nat)(x0 x2 x3:TVal)(h:Heap):Res1 :=
 vop O (.nilck (.k x0)) h 50 fun x50 h =>
 vfaddr 0 x50 h fun x51 h =>
 vload false 1 x51 h fun x52 h =>
 vlen O 0 x52 h 53 fun x53 h =>
 vbin .lss 0 x3 x53 h fun x54 h =>
 vguard x54 true (fun kk=>kk x0 h) h fun x56 h =>
 vguard x54 true (fun kk=>vop O (.nilck (.k x56)) h 57 kk) h fun x57 h =>
 vguard x54 true (fun kk=>vfaddr 0 x57 h kk) h fun x58 h =>
 vguard x54 true (fun kk=>vload false 1 x58 h kk) h fun x59 h =>
 vguard x54 true (fun kk=>kk x3 h) h fun x60 h =>
 vguard x54 true (fun kk=>vindex x59 x60 h kk) h fun x61 h =>
 vguard x54 true (fun kk=>vcall O (.v (.c (.func 67 []))) [x61] h 62 kk) h fun x62 h =>
 vop O (.pick (.k x54) (.k x62) (.k (kB false))) h 63 fun x63 h =>
 vif x63 (
 vbin .add 0 x3 (kI 1) h fun x65 h =>
 R 2 [x0,x2,x65] h)
 (R 3 [x0,x2,x3] h)
theorem e71_2(O:Oracle)(R:Jump)(q:Nat)(x0 x2 x3:TVal)(h:Heap):b71_2 O R q x0 x2 x3 h=stepF c71 O R q 2 [x0,x2,x3] h:=by kernel_rfl
def b71_3(O:Oracle)(R:Jump)(q:Nat)(x0 x2 x3:TVal)(h:Heap):Res1 :=
 vop O (.nilck (.k x0)) h 68 fun x68 h =>
 vfaddr 0 x68 h fun x69 h =>
 vload false 1 x69 h fun x70 h =>
 vop O (.nilck (.k x0)) h 72 fun x72 h =>
 vfaddr 1 x72 h fun x73 h =>
 vload false 1 x73 h fun x74 h =>
 vop O (.slice 0 true (.k x70) (some (.k x74)) (some (.k x3)) none) h 76 fun x76 h =>
 vcall O (.v (.c (.func 75 []))) [x76] h 77 fun x77 h =>
 vext x77 0 h fun x78 h =>
 vext x77 1 h fun x79 h =>
 vbin .neq 0 x79 (kI 0) h fun x81 h =>
 vif x81 (
 vcall O (.v (.c (.func 45 []))) [x0,(kI 11)] h 83 fun x83 h =>
 vop O (.build [(.p (.int .i64 0)),(.p (.bool false)),(.p (.int .i64 0)),(.p (.str [])),(.p .nilslice),(.p .nilslice)] []) h 84 fun x84 h =>
 vstore 6 x2 x84 h fun _ h =>
 vcell true 6 x2 h fun c0=>vfin true q [c0] h)
 (vop O (.nilck (.k x0)) h 87 fun x87 h =>
 vfaddr 1 x87 h fun x88 h =>
 vstore 1 x88 x3 h fun _ h =>
 vop O (.build [(.p (.int .i64 0)),(.p (.bool false)),(.p (.int .i64 0)),(.p (.str [])),(.p .nilslice),(.p .nilslice)] [(0,1,(.k (kI 2))),(2,1,(.k x78))]) h 90 fun x90 h =>
 vstore 6 x2 x90 h fun _ h =>
 vcell true 6 x2 h fun c0=>vfin true q [c0] h)
theorem e71_3(O:Oracle)(R:Jump)(q:Nat)(x0 x2 x3:TVal)(h:Heap):b71_3 O R q x0 x2 x3 h=stepF c71 O R q 3 [x0,x2,x3] h:=by kernel_rfl
def d71:BlkF:=fun O R Q=>[.s fun a => .z (b71_0 O R Q a),.s fun a => .s fun b => .s fun c => .z (b71_1 O R Q a b c),.s fun a => .s fun b => .s fun c => .z (b71_2 O R Q a b c),.s fun a => .s fun b => .s fun c => .z (b71_3 O R Q a b c)]
theorem o71(O:Oracle)(R:Jump)(q:Nat):HoldsAll c71 O R q 0 (d71 O R q):=⟨e71_0 O R q,e71_1 O R q,e71_2 O R q,e71_3 O R q,trivial⟩
def c72:MFunc:=mkM (compF Tryz.prog (globs2 tabs opq) (fun _=>false) true Tryz.f72) (.s .n (.s .n (.s .n (.s .n (.s .n (.s .n (.s .n (.s (.s .n (.k (.l 1 [0,2,4,7] .n))) (.m 2 [0,2,4] (.s (.s .n (.k (.l 3 [0,2,4,8] .n))) (.m 4 [0,2,4] (.s (.s .n (.k (.l 5 [0,2,4,9] .n))) .n))))))))))))
def b72_0(O:Oracle)(R:Jump)(q:Nat)(x0 x1 x2:TVal)(h:Heap):Res1 :=
 vop O (.box (.k x1) false) h 4 fun x4 h =>
 vop O (.nilck (.k x0)) h 12 fun x12 h =>
 vfaddr 0 x12 h fun x13 h =>
 vload false 1 x13 h fun x14 h =>
 vbin .add 0 x14 (kI 1) h fun x15 h =>
 vop O (.nilck (.k x0)) h 16 fun x16 h =>
 vfaddr 0 x16 h fun x17 h =>
 vstore 1 x17 x15 h fun _ h =>
 vop O (.nilck (.k x0)) h 19 fun x19 h =>
 vfaddr 0 x19 h fun x20 h =>
 vload false 1 x20 h fun x21 h =>
 vbin .gtr 0 x21 (kI 2000) h fun x22 h =>
 vif x22 (
 tcomp (kI 3) fun c0=>vfin true q [c0] h)
 (vload true 6 x4 h fun x23 h =>
 vcall O (.v (.c (.func 88 []))) [x23] h 24 fun x24 h =>
 vop O (.un .not (.k x24)) h 25 fun x25 h =>
 vif x25 (
 tcomp (kI 1) fun c0=>vfin true q [c0] h)
 (vbin .gtr 0 x2 (kI 12) h fun x27 h =>
 vif x27 (
 tcomp (kI 13) fun c0=>vfin true q [c0] h)
 (vfaddr 5 x4 h fun x28 h =>
 vload false 1 x28 h fun x29 h =>
 vlen O 2 x29 h 30 fun x30 h =>
 vbin .gtr 0 x30 (kI 40) h fun x31 h =>
 vif x31 (
 tcomp (kI 3) fun c0=>vfin true q [c0] h)
 (vfaddr 3 x4 h fun x32 h =>
 vload false 1 x32 h fun x33 h =>
 vlen O 0 x33 h 34 fun x34 h =>
 vbin .gtr 0 x34 (kI 200) h fun x35 h =>
 vif x35 (
 tcomp (kI 4) fun c0=>vfin true q [c0] h)
 (R 1 [x0,x2,x4,(kI 0)] h)))))
theorem e72_0(O:Oracle)(R:Jump)(q:Nat)(x0 x1 x2:TVal)(h:Heap):b72_0 O R q x0 x1 x2 h=stepF c72 O R q 0 [x0,x1,x2] h:=by kernel_rfl
def b72_1(O:Oracle)(R:Jump)(q:Nat)(x0 x2 x4 x7:TVal)(h:Heap):Res1 :=
 vfaddr 4 x4 h fun x37 h =>
 vload false 1 x37 h fun x38 h =>
 vlen O 2 x38 h 39 fun x39 h =>
 vbin .lss 0 x7 x39 h fun x40 h =>
 vif x40 (
 vfaddr 4 x4 h fun x43 h =>
 vload false 1 x43 h fun x44 h =>
 viaddr 1 x44 x7 h fun x46 h =>
 vload false 1 x46 h fun x47 h =>
 vlen O 0 x47 h 48 fun x48 h =>
 vbin .gtr 0 x48 (kI 200) h fun x49 h =>
 vif x49 (
 tcomp (kI 4) fun c0=>vfin true q [c0] h)
 (vbin .add 0 x7 (kI 1) h fun x42 h =>
 R 1 [x0,x2,x4,x42] h))
 (R 2 [x0,x2,x4] h)
theorem e72_1(O:Oracle)(R:Jump)(q:Nat)(x0 x2 x4 x7:TVal)(h:Heap):b72_1 O R q x0 x2 x4 x7 h=stepF c72 O R q 1 [x0,x2,x4,x7] h:=by kernel_rfl
def b72_2(O:Oracle)(R:Jump)(q:Nat)(x0 x2 x4:TVal)(h:Heap):Res1 :=
 R 3 [x0,x2,x4,(kI 1)] h
theorem e72_2(O:Oracle)(R:Jump)(q:Nat)(x0 x2 x4:TVal)(h:Heap):b72_2 O R q x0 x2 x4 h=stepF c72 O R q 2 [x0,x2,x4] h:=by kernel_rfl
def b72_3(O:Oracle)(R:Jump)(q:Nat)(x0 x2 x4 x8:TVal)(h:Heap):Res1 :=
 vfaddr 4 x4 h fun x51 h =>
 vload false 1 x51 h fun x52 h =>
 vlen O 2 x52 h 53 fun x53 h =>
 vbin .lss 0 x8 x53 h fun x54 h =>
 vif x54 (
 vfaddr 4 x4 h fun x57 h =>
 vload false 1 x57 h fun x58 h =>
 viaddr 1 x58 x8 h fun x60 h =>
 vload false 1 x60 h fun x61 h =>
 vfaddr 4 x4 h fun x62 h =>
 vload false 1 x62 h fun x63 h =>
 vbin .sub 0 x8 (kI 1) h fun x65 h =>
 viaddr 1 x63 x65 h fun x66 h =>
 vload false 1 x66 h fun x67 h =>
 vbin .leq 0 x61 x67 h fun x68 h =>
 vif x68 (
 tcomp (kI 6) fun c0=>vfin true q [c0] h)
 (vbin .add 0 x8 (kI 1) h fun x56 h =>
 R 3 [x0,x2,x4,x56] h))
 (R 4 [x0,x2,x4] h)
theorem e72_3(O:Oracle)(R:Jump)(q:Nat)(x0 x2 x4 x8:TVal)(h:Heap):b72_3 O R q x0 x2 x4 x8 h=stepF c72 O R q 3 [x0,x2,x4,x8] h:=by kernel_rfl
def b72_4(O:Oracle)(R:Jump)(q:Nat)(x0 x2 x4:TVal)(h:Heap):Res1 :=
 R 5 [x0,x2,x4,(kI 0)] h
theorem e72_4(O:Oracle)(R:Jump)(q:Nat)(x0 x2 x4:TVal)(h:Heap):b72_4 O R q x0 x2 x4 h=stepF c72 O R q 4 [x0,x2,x4] h:=by kernel_rfl
def b72_5(O:Oracle)(R:Jump)(q:Nat)(x0 x2 x4 x9:TVal)(h:Heap):Res1 :=
 vfaddr 5 x4 h fun x70 h =>
 vload false 1 x70 h fun x71 h =>
 vlen O 2 x71 h 72 fun x72 h =>
 vbin .lss 0 x9 x72 h fun x73 h =>
 vif x73 (
 vfaddr 5 x4 h fun x77 h =>
 vload false 1 x77 h fun x78 h =>
 viaddr 6 x78 x9 h fun x80 h =>
 vload true 6 x80 h fun x81 h =>
 vbin .add 0 x2 (kI 1) h fun x83 h =>
 vcall O (.v (.c (.func 72 []))) [x0,x81,x83] h 84 fun x84 h =>
 vbin .neq 0 x84 (kI 0) h fun x86 h =>
 vif x86 (
 tcomp x84 fun c0=>vfin true q [c0] h)
 (vbin .add 0 x9 (kI 1) h fun x75 h =>
 R 5 [x0,x2,x4,x75] h))
 (tcomp (kI 0) fun c0=>vfin true q [c0] h)
theorem e72_5(O:Oracle)(R:Jump)(q:Nat)(x0 x2 x4 x9:TVal)(h:Heap):b72_5 O R q x0 x2 x4 x9 h=stepF c72 O R q 5 [x0,x2,x4,x9] h:=by kernel_rfl
def d72:BlkF:=fun O R Q=>[.s fun a => .s fun b => .s fun c => .z (b72_0 O R Q a b c),.s fun a => .s fun b => .s fun c => .s fun d => .z (b72_1 O R Q a b c d),.s fun a => .s fun b => .s fun c => .z (b72_2 O R Q a b c),.s fun a => .s fun b => .s fun c => .s fun d => .z (b72_3 O R Q a b c d),.s fun a => .s fun b => .s fun c => .z (b72_4 O R Q a b c),.s fun a => .s fun b => .s fun c => .s fun d => .z (b72_5 O R Q a b c d)]
theorem o72(O:Oracle)(R:Jump)(q:Nat):HoldsAll c72 O R q 0 (d72 O R q):=⟨e72_0 O R q,e72_1 O R q,e72_2 O R q,e72_3 O R q,e72_4 O R q,e72_5 O R q,trivial⟩
def c73:MFunc:=mkM (compF Tryz.prog (globs2 tabs opq) (fun _=>false) true Tryz.f73) .n
def b73_0(O:Oracle)(R:Jump)(q:Nat)(x0:TVal)(h:Heap):Res1 :=
 vbin .geq 0 x0 (.v (.c (.p (.int .u8 97)))) h fun x4 h =>
 vguard x4 true (fun kk=>kk x0 h) h fun x6 h =>
 vguard x4 true (fun kk=>vbin .leq 0 x6 (.v (.c (.p (.int .u8 122)))) h kk) h fun x7 h =>
 vop O (.pick (.k x4) (.k x7) (.k (kB false))) h 8 fun x8 h =>
 vguard x8 false (fun kk=>kk x0 h) h fun x10 h =>
 vguard x8 false (fun kk=>vbin .geq 0 x10 (.v (.c (.p (.int .u8 65)))) h kk) h fun x11 h =>
 vguard x8 false (fun kk=>kk x11 h) h fun x12 h =>
 vguard x12 true (fun kk=>kk x0 h) h fun x13 h =>
 vguard x12 true (fun kk=>vbin .leq 0 x13 (.v (.c (.p (.int .u8 90)))) h kk) h fun x14 h =>
 vguard x8 false (fun kk=>vop O (.pick (.k x12) (.k x14) (.k (kB false))) h 15 kk) h fun x15 h =>
 vop O (.pick (.k x8) (.k (kB true)) (.k x15)) h 16 fun x16 h =>
 vguard x16 false (fun kk=>kk x0 h) h fun x18 h =>
 vguard x16 false (fun kk=>vbin .eql 0 x18 (.v (.c (.p (.int .u8 95)))) h kk) h fun x19 h =>
 vop O (.pick (.k x16) (.k (kB true)) (.k x19)) h 20 fun x20 h =>
 tcomp x20 fun c0=>vfin true q [c0] h
theorem e73_0(O:Oracle)(R:Jump)(q:Nat)(x0:TVal)(h:Heap):b73_0 O R q x0 h=stepF c73 O R q 0 [x0] h:=by kernel_rfl
def d73:BlkF:=fun O R Q=>[.s fun a => .z (b73_0 O R Q a)]
theorem o73(O:Oracle)(R:Jump)(q:Nat):HoldsAll c73 O R q 0 (d73 O R q):=⟨e73_0 O R q,trivial⟩
def c74:MFunc:=mkM (compF Tryz.prog (globs2 tabs opq) (fun _=>false) true Tryz.f74) .n
def b74_0(O:Oracle)(R:Jump)(q:Nat)(x0:TVal)(h:Heap):Res1 :=
 vbin .geq 0 x0 (.v (.c (.p (.int .u8 48)))) h fun x4 h =>
 vguard x4 true (fun kk=>kk x0 h) h fun x6 h =>
 vguard x4 true (fun kk=>vbin .leq 0 x6 (.v (.c (.p (.int .u8 57)))) h kk) h fun x7 h =>
 vop O (.pick (.k x4) (.k x7) (.k (kB false))) h 8 fun x8 h =>
 tcomp x8 fun c0=>vfin true q [c0] h
theorem e74_0(O:Oracle)(R:Jump)(q:Nat)(x0:TVal)(h:Heap):b74_0 O R q x0 h=stepF c74 O R q 0 [x0] h:=by kernel_rfl
def d74:BlkF:=fun O R Q=>[.s fun a => .z (b74_0 O R Q a)]
theorem o74(O:Oracle)(R:Jump)(q:Nat):HoldsAll c74 O R q 0 (d74 O R q):=⟨e74_0 O R q,trivial⟩
def c75:MFunc:=mkM (compF Tryz.prog (globs2 tabs opq) (fun _=>false) true Tryz.f75) (.s .n (.s .n (.s .n (.m 1 [0,4] (.s .n (.s .n (.s (.s .n (.k (.l 2 [0,4,5,6] .n))) (.m 3 [0,5] .n))))))))
def b75_0(O:Oracle)(R:Jump)(q:Nat)(x0:TVal)(h:Heap):Res1 :=
 vindex x0 (kI 0) h fun x9 h =>
 vbin .eql 0 x9 (.v (.c (.p (.int .u8 45)))) h fun x10 h =>
 vif x10 (
 vop O (.slice 0 true (.k x0) (some (.k (kI 1))) none none) h 12 fun x12 h =>
 R 1 [x0,x12] h)
 (R 1 [x0,x0] h)
theorem e75_0(O:Oracle)(R:Jump)(q:Nat)(x0:TVal)(h:Heap):b75_0 O R q x0 h=stepF c75 O R q 0 [x0] h:=by kernel_rfl
def b75_1(O:Oracle)(R:Jump)(q:Nat)(x0 x4:TVal)(h:Heap):Res1 :=
 vlen O 0 x4 h 14 fun x14 h =>
 vbin .gtr 0 x14 (kI 19) h fun x15 h =>
 vif x15 (
 tcomp (kI 0) fun c0=>tcomp (kI 4) fun c1=>vfin true q [c0,c1] h)
 (R 2 [x0,x4,(.v (.c (.p (.int .u64 0)))),(kI 0)] h)
theorem e75_1(O:Oracle)(R:Jump)(q:Nat)(x0 x4:TVal)(h:Heap):b75_1 O R q x0 x4 h=stepF c75 O R q 1 [x0,x4] h:=by kernel_rfl
def b75_2(O:Oracle)(R:Jump)(q:Nat)(x0 x4 x5 x6:TVal)(h:Heap):Res1 :=
 vlen O 0 x4 h 18 fun x18 h =>
 vbin .lss 0 x6 x18 h fun x19 h =>
 vif x19 (
 vbin .mul 0 x5 (.v (.c (.p (.int .u64 10)))) h fun x23 h =>
 vindex x4 x6 h fun x26 h =>
 vbin .sub 0 x26 (.v (.c (.p (.int .u8 48)))) h fun x27 h =>
 vtoInt .u64 x27 h fun x28 h =>
 vbin .add 0 x23 x28 h fun x29 h =>
 vbin .add 0 x6 (kI 1) h fun x21 h =>
 R 2 [x0,x4,x29,x21] h)
 (R 3 [x0,x5] h)
theorem e75_2(O:Oracle)(R:Jump)(q:Nat)(x0 x4 x5 x6:TVal)(h:Heap):b75_2 O R q x0 x4 x5 x6 h=stepF c75 O R q 2 [x0,x4,x5,x6] h:=by kernel_rfl
def b75_3(O:Oracle)(R:Jump)(q:Nat)(x0 x5:TVal)(h:Heap):Res1 :=
 vindex x0 (kI 0) h fun x31 h =>
 vbin .eql 0 x31 (.v (.c (.p (.int .u8 45)))) h fun x32 h =>
 vif x32 (
 vbin .gtr 0 x5 (.v (.c (.p (.int .u64 9223372036854775808)))) h fun x34 h =>
 vif x34 (
 tcomp (kI 0) fun c0=>tcomp (kI 11) fun c1=>vfin true q [c0,c1] h)
 (vop O (.un .neg (.k x5)) h 36 fun x36 h =>
 vtoInt .i64 x36 h fun x37 h =>
 tcomp x37 fun c0=>tcomp (kI 0) fun c1=>vfin true q [c0,c1] h))
 (vbin .gtr 0 x5 (.v (.c (.p (.int .u64 9223372036854775807)))) h fun x39 h =>
 vif x39 (
 tcomp (kI 0) fun c0=>tcomp (kI 11) fun c1=>vfin true q [c0,c1] h)
 (vtoInt .i64 x5 h fun x41 h =>
 tcomp x41 fun c0=>tcomp (kI 0) fun c1=>vfin true q [c0,c1] h))
theorem e75_3(O:Oracle)(R:Jump)(q:Nat)(x0 x5:TVal)(h:Heap):b75_3 O R q x0 x5 h=stepF c75 O R q 3 [x0,x5] h:=by kernel_rfl
def d75:BlkF:=fun O R Q=>[.s fun a => .z (b75_0 O R Q a),.s fun a => .s fun b => .z (b75_1 O R Q a b),.s fun a => .s fun b => .s fun c => .s fun d => .z (b75_2 O R Q a b c d),.s fun a => .s fun b => .z (b75_3 O R Q a b)]
theorem o75(O:Oracle)(R:Jump)(q:Nat):HoldsAll c75 O R q 0 (d75 O R q):=⟨e75_0 O R q,e75_1 O R q,e75_2 O R q,e75_3 O R q,trivial⟩
end
end Go.Proofs.YtlkejchbcchecaaGreatDoor.Ab
