/- Functions of the given program as the abstract interpreter has them (part 0),printed by a program of our own; each is shown to be what 'compF' makes of the given program's. No condition. -/
import Derived.Test.YtnlmlcfipbnpgaaDoorChecked
import Derived.Test.YtnlmlcfipbnpgaaDoorAd
namespace Go.Proofs.YtnlmlcfipbnpgaaDoor.Ab
open Go Go.AI
noncomputable section
set_option linter.all false
set_option linter.unusedVariables false
set_option maxRecDepth 100000
def vals0:List Int:=[0,0,0,0,0,0,0,0,0,1,1,1,1,1,0,0,0,0,0,0,0,0,0,0,0,0,0,0,0,0,0,0,1,0,0,0,0,0,0,0,0,0,0,0,0,0,0,0,0,0,0,0,0,0,0,0,0,0,0,0,0,0,0,0,0,0,0,0,0,0,0,0,0,0,0,0,0,0,0,0,0,0,0,0,0,0,0,0,0,0,0,0,0,0,0,0,0,0,0,0,0,0,0,0,0,0,0,0,0,0,0,0,0,0,0,0,0,0,0,0,0,0,0,0,0,0,0,0,0,0,0,0,0,0,0,0,0,0,0,0,0,0,0,0,0,0,0,0,0,0,0,0,0,0,0,0,0,0,0,0,0,0,0,0,0,0,0,0,0,0,0,0,0,0,0,0,0,0,0,0,0,0,0,0,0,0,0,0,0,0,0,0,0,0,0,0,0,0,0,0,0,0,0,0,0,0,0,0,0,0,0,0,0,0,0,0,0,0,0,0,0,0,0,0,0,0,0,0,0,0,0,0,0,0,0,0,0,0,0,0,0,0,0,0,0,0,0,0,0,0,0,0,0,0,0,0]
def tabs:List Tabl:=[Tabl.mk "strings.asciiSpace" 1 .u8 [0,0,0,0,0,0,0,0,0,1,1,1,1,1,0,0,0,0,0,0,0,0,0,0,0,0,0,0,0,0,0,0,1,0,0,0,0,0,0,0,0,0,0,0,0,0,0,0,0,0,0,0,0,0,0,0,0,0,0,0,0,0,0,0,0,0,0,0,0,0,0,0,0,0,0,0,0,0,0,0,0,0,0,0,0,0,0,0,0,0,0,0,0,0,0,0,0,0,0,0,0,0,0,0,0,0,0,0,0,0,0,0,0,0,0,0,0,0,0,0,0,0,0,0,0,0,0,0,0,0,0,0,0,0,0,0,0,0,0,0,0,0,0,0,0,0,0,0,0,0,0,0,0,0,0,0,0,0,0,0,0,0,0,0,0,0,0,0,0,0,0,0,0,0,0,0,0,0,0,0,0,0,0,0,0,0,0,0,0,0,0,0,0,0,0,0,0,0,0,0,0,0,0,0,0,0,0,0,0,0,0,0,0,0,0,0,0,0,0,0,0,0,0,0,0,0,0,0,0,0,0,0,0,0,0,0,0,0,0,0,0,0,0,0,0,0,0,0,0,0,0,0,0,0,0,0]]
def opq:Option Nat:=some 0
def c4:MFunc:=mkM (compF Tryd.prog (globs2 tabs opq) (fun _=>false) true Tryd.f4) (.s .n (.s .n (.s .n (.s .n (.s (.s .n (.k (.l 1 [5,6] (.s .n (.s .n (.m 2 [5,6] .n)))))) .n)))))
def b4_0(O:Oracle)(R:Jump)(q:Nat)(x0 x1:TVal)(h:Heap):Res1 :=
 vop O (.box (.k x0) false) h 2 fun x2 h =>
 vcall O (.v (.c (.func 10 []))) [] h 12 fun x12 h =>
 vop O (.un .not (.k x12)) h 13 fun x13 h =>
 vif x13 (
 tcomp (kB false) fun c0=>vfin true q [c0] h)
 (vload true 4 x2 h fun x14 h =>
 vcall O (.v (.c (.func 11 []))) [x14,(kI 60)] h 15 fun x15 h =>
 vbin .eql 0 x15 (kI 0) h fun x16 h =>
 vif x16 (
 tcomp (kB true) fun c0=>vfin true q [c0] h)
 (vload true 4 x2 h fun x17 h =>
 vop O (.bslice 1 1 [(.p (.str []))] [(0,(.k (kS [65])))] false) h 18 fun x18 h =>
 vcall O (.v (.c (.func 12 []))) [x17,(kI 8),x18] h 19 fun x19 h =>
 vcall O (.v (.c (.func 14 []))) [x19] h 20 fun x20 h =>
 vcall O (.v (.c (.func 15 []))) [x1] h 22 fun x22 h =>
 vcall O (.v (.c (.func 15 []))) [x1] h 24 fun x24 h =>
 vbin .add 0 (kS [123]) x24 h fun x25 h =>
 vbin .add 0 x25 (kS [125]) h fun x26 h =>
 vop O (.bslice 1 3 [(.p (.str []))] [(0,(.k x20)),(1,(.k x22)),(2,(.k x26))] false) h 27 fun x27 h =>
 R 1 [x27,(kI 0)] h))
theorem e4_0(O:Oracle)(R:Jump)(q:Nat)(x0 x1:TVal)(h:Heap):b4_0 O R q x0 x1 h=stepF c4 O R q 0 [x0,x1] h:=by kernel_rfl
def b4_1(O:Oracle)(R:Jump)(q:Nat)(x5 x6:TVal)(h:Heap):Res1 :=
 vbin .lss 0 x6 (kI 3) h fun x29 h =>
 vif x29 (
 viaddr 1 x5 x6 h fun x35 h =>
 vload false 1 x35 h fun x36 h =>
 vcall O (.v (.c (.func 16 []))) [x36] h 37 fun x37 h =>
 vext x37 0 h fun x38 h =>
 vext x37 1 h fun x39 h =>
 vop O (.alloc [(.p (.int .i64 0)),(.p (.str [])),(.p .nilslice),(.p .nilslice)] false) h 7 fun x7 h =>
 vstore 4 x7 x38 h fun _ h =>
 vbin .neq 0 x39 (kI 0) h fun x41 h =>
 vif x41 (
 R 2 [x5,x6] h)
 (vload true 4 x7 h fun x42 h =>
 vcall O (.v (.c (.func 14 []))) [x42] h 43 fun x43 h =>
 vcall O (.v (.c (.func 16 []))) [x43] h 46 fun x46 h =>
 vext x46 0 h fun x47 h =>
 vext x46 1 h fun x48 h =>
 vop O (.alloc [(.p (.int .i64 0)),(.p (.str [])),(.p .nilslice),(.p .nilslice)] false) h 10 fun x10 h =>
 vstore 4 x10 x47 h fun _ h =>
 vbin .neq 0 x48 (kI 0) h fun x50 h =>
 vguard x50 true (fun kk=>kk x48 h) h fun x52 h =>
 vguard x50 true (fun kk=>vbin .neq 0 x52 (kI 4) h kk) h fun x53 h =>
 vop O (.pick (.k x50) (.k x53) (.k (kB false))) h 54 fun x54 h =>
 vguard x54 true (fun kk=>kk x48 h) h fun x56 h =>
 vguard x54 true (fun kk=>vbin .neq 0 x56 (kI 3) h kk) h fun x57 h =>
 vop O (.pick (.k x54) (.k x57) (.k (kB false))) h 58 fun x58 h =>
 vguard x58 false (fun kk=>kk x48 h) h fun x60 h =>
 vguard x58 false (fun kk=>vbin .eql 0 x60 (kI 0) h kk) h fun x61 h =>
 vguard x58 false (fun kk=>kk x61 h) h fun x62 h =>
 vguard x62 true (fun kk=>vload true 4 x10 h kk) h fun x63 h =>
 vguard x62 true (fun kk=>vcall O (.v (.c (.func 14 []))) [x63] h 64 kk) h fun x64 h =>
 vguard x62 true (fun kk=>kk x43 h) h fun x65 h =>
 vguard x62 true (fun kk=>vbin .neq 0 x64 x65 h kk) h fun x66 h =>
 vguard x62 true (fun kk=>kk x66 h) h fun x67 h =>
 vguard x67 false (fun kk=>vload true 4 x7 h kk) h fun x68 h =>
 vguard x67 false (fun kk=>vload true 4 x10 h kk) h fun x69 h =>
 vguard x67 false (fun kk=>vcall O (.v (.c (.func 17 []))) [x68,x69] h 70 kk) h fun x70 h =>
 vguard x67 false (fun kk=>vop O (.un .not (.k x70)) h 71 kk) h fun x71 h =>
 vguard x62 true (fun kk=>vop O (.pick (.k x67) (.k (kB true)) (.k x71)) h 72 kk) h fun x72 h =>
 vguard x58 false (fun kk=>vop O (.pick (.k x62) (.k x72) (.k (kB false))) h 73 kk) h fun x73 h =>
 vop O (.pick (.k x58) (.k (kB true)) (.k x73)) h 74 fun x74 h =>
 vif x74 (
 tcomp (kB false) fun c0=>vfin true q [c0] h)
 (R 2 [x5,x6] h)))
 (tcomp (kB true) fun c0=>vfin true q [c0] h)
theorem e4_1(O:Oracle)(R:Jump)(q:Nat)(x5 x6:TVal)(h:Heap):b4_1 O R q x5 x6 h=stepF c4 O R q 1 [x5,x6] h:=by kernel_rfl
def b4_2(O:Oracle)(R:Jump)(q:Nat)(x5 x6:TVal)(h:Heap):Res1 :=
 vbin .add 0 x6 (kI 1) h fun x31 h =>
 R 1 [x5,x31] h
theorem e4_2(O:Oracle)(R:Jump)(q:Nat)(x5 x6:TVal)(h:Heap):b4_2 O R q x5 x6 h=stepF c4 O R q 2 [x5,x6] h:=by kernel_rfl
def d4:BlkF:=fun O R Q=>[.s fun a => .s fun b => .z (b4_0 O R Q a b),.s fun a => .s fun b => .z (b4_1 O R Q a b),.s fun a => .s fun b => .z (b4_2 O R Q a b)]
theorem o4(O:Oracle)(R:Jump)(q:Nat):HoldsAll c4 O R q 0 (d4 O R q):=⟨e4_0 O R q,e4_1 O R q,e4_2 O R q,trivial⟩
def c10:MFunc:=mkM (compF Tryd.prog (globs2 tabs opq) (fun _=>false) true Tryd.f10) .n
def b10_0(O:Oracle)(R:Jump)(q:Nat)(h:Heap):Res1 :=
 vcall O (.v (.c (.func 16 []))) [(kS [123,98,58,32,73,110,116,44,32,97,58,32,84,101,120,116,125])] h 4 fun x4 h =>
 vext x4 0 h fun x5 h =>
 vext x4 1 h fun x6 h =>
 vop O (.alloc [(.p (.int .i64 0)),(.p (.str [])),(.p .nilslice),(.p .nilslice)] false) h 1 fun x1 h =>
 vstore 4 x1 x5 h fun _ h =>
 vbin .eql 0 x6 (kI 0) h fun x8 h =>
 vguard x8 true (fun kk=>vload true 4 x1 h kk) h fun x10 h =>
 vguard x8 true (fun kk=>vcall O (.v (.c (.func 14 []))) [x10] h 11 kk) h fun x11 h =>
 vguard x8 true (fun kk=>vbin .eql 0 x11 (kS [123,97,58,32,84,101,120,116,44,32,98,58,32,73,110,116,125]) h kk) h fun x12 h =>
 vop O (.pick (.k x8) (.k x12) (.k (kB false))) h 13 fun x13 h =>
 tcomp x13 fun c0=>vfin true q [c0] h
theorem e10_0(O:Oracle)(R:Jump)(q:Nat)(h:Heap):b10_0 O R q  h=stepF c10 O R q 0 [] h:=by kernel_rfl
def d10:BlkF:=fun O R Q=>[.z (b10_0 O R Q )]
theorem o10(O:Oracle)(R:Jump)(q:Nat):HoldsAll c10 O R q 0 (d10 O R q):=⟨e10_0 O R q,trivial⟩
def c11:MFunc:=mkM (compF Tryd.prog (globs2 tabs opq) (fun _=>false) true Tryd.f11) (.s .n (.s .n (.s .n (.s (.s .n (.k (.l 1 [1,2,5] .n))) .n))))
def b11_0(O:Oracle)(R:Jump)(q:Nat)(x0 x1:TVal)(h:Heap):Res1 :=
 vop O (.box (.k x0) false) h 2 fun x2 h =>
 vbin .leq 0 x1 (kI 0) h fun x7 h =>
 vguard x7 false (fun kk=>vfaddr 3 x2 h kk) h fun x9 h =>
 vguard x7 false (fun kk=>vload false 1 x9 h kk) h fun x10 h =>
 vguard x7 false (fun kk=>vlen O 2 x10 h 11 kk) h fun x11 h =>
 vguard x7 false (fun kk=>vbin .gtr 0 x11 (kI 10) h kk) h fun x12 h =>
 vop O (.pick (.k x7) (.k (kB true)) (.k x12)) h 13 fun x13 h =>
 vguard x13 false (fun kk=>vfaddr 2 x2 h kk) h fun x15 h =>
 vguard x13 false (fun kk=>vload false 1 x15 h kk) h fun x16 h =>
 vguard x13 false (fun kk=>vlen O 2 x16 h 17 kk) h fun x17 h =>
 vguard x13 false (fun kk=>vbin .gtr 0 x17 (kI 20) h kk) h fun x18 h =>
 vop O (.pick (.k x13) (.k (kB true)) (.k x18)) h 19 fun x19 h =>
 vif x19 (
 tcomp (kI 0) fun c0=>vfin true q [c0] h)
 (vbin .sub 0 x1 (kI 1) h fun x21 h =>
 R 1 [x21,x2,(kI 0)] h)
theorem e11_0(O:Oracle)(R:Jump)(q:Nat)(x0 x1:TVal)(h:Heap):b11_0 O R q x0 x1 h=stepF c11 O R q 0 [x0,x1] h:=by kernel_rfl
def b11_1(O:Oracle)(R:Jump)(q:Nat)(x1 x2 x5:TVal)(h:Heap):Res1 :=
 vfaddr 3 x2 h fun x23 h =>
 vload false 1 x23 h fun x24 h =>
 vlen O 2 x24 h 25 fun x25 h =>
 vbin .lss 0 x5 x25 h fun x26 h =>
 vguard x26 true (fun kk=>kk x1 h) h fun x28 h =>
 vguard x26 true (fun kk=>vbin .gtr 0 x28 (kI 0) h kk) h fun x29 h =>
 vop O (.pick (.k x26) (.k x29) (.k (kB false))) h 30 fun x30 h =>
 vif x30 (
 vfaddr 3 x2 h fun x33 h =>
 vload false 1 x33 h fun x34 h =>
 viaddr 4 x34 x5 h fun x36 h =>
 vload true 4 x36 h fun x37 h =>
 vcall O (.v (.c (.func 11 []))) [x37,x1] h 39 fun x39 h =>
 vbin .add 0 x5 (kI 1) h fun x32 h =>
 R 1 [x39,x2,x32] h)
 (tcomp x1 fun c0=>vfin true q [c0] h)
theorem e11_1(O:Oracle)(R:Jump)(q:Nat)(x1 x2 x5:TVal)(h:Heap):b11_1 O R q x1 x2 x5 h=stepF c11 O R q 1 [x1,x2,x5] h:=by kernel_rfl
def d11:BlkF:=fun O R Q=>[.s fun a => .s fun b => .z (b11_0 O R Q a b),.s fun a => .s fun b => .s fun c => .z (b11_1 O R Q a b c)]
theorem o11(O:Oracle)(R:Jump)(q:Nat):HoldsAll c11 O R q 0 (d11 O R q):=⟨e11_0 O R q,e11_1 O R q,trivial⟩
def c12:MFunc:=mkM (compF Tryd.prog (globs2 tabs opq) (fun _=>false) true Tryd.f12) (.s .n (.s .n (.s .n (.m 1 [1,2,3,6,7] (.s .n (.s (.s .n (.k (.s .n (.s .n (.s .n (.m 2 [1,2,3,6,7,8,36,48] (.s .n (.s .n (.m 3 [1,2,3,6,7,8,74] (.s (.s .n (.k (.l 4 [1,2,3,6,7,8,9] (.s .n (.s (.k (.s .n (.s .n (.m 5 [1,2,3,6,7,8,9,10] .n)))) .n))))) .n)))))))))) (.m 6 [6,8] .n)))))))
def b12_0(O:Oracle)(R:Jump)(q:Nat)(x0 x1 x2:TVal)(h:Heap):Res1 :=
 vop O (.box (.k x0) false) h 3 fun x3 h =>
 vop O (.alloc [(.p (.int .i64 0)),(.p (.str [])),(.p .nilslice),(.p .nilslice)] false) h 6 fun x6 h =>
 vfaddr 0 x3 h fun x11 h =>
 vload false 1 x11 h fun x12 h =>
 vcall O (.v (.c (.func 19 []))) [x12,(kI 9)] h 13 fun x13 h =>
 vbin .add 0 (kI 1) x13 h fun x14 h =>
 vbin .eql 0 x14 (kI 9) h fun x16 h =>
 vguard x16 true (fun kk=>kk x2 h) h fun x18 h =>
 vguard x16 true (fun kk=>vlen O 2 x18 h 19 kk) h fun x19 h =>
 vguard x16 true (fun kk=>vbin .eql 0 x19 (kI 0) h kk) h fun x20 h =>
 vop O (.pick (.k x16) (.k x20) (.k (kB false))) h 21 fun x21 h =>
 vguard x21 false (fun kk=>kk x1 h) h fun x23 h =>
 vguard x21 false (fun kk=>vbin .leq 0 x23 (kI 1) h kk) h fun x24 h =>
 vguard x21 false (fun kk=>kk x24 h) h fun x25 h =>
 vguard x25 true (fun kk=>kk x14 h) h fun x26 h =>
 vguard x25 true (fun kk=>vbin .geq 0 x26 (kI 4) h kk) h fun x27 h =>
 vguard x21 false (fun kk=>vop O (.pick (.k x25) (.k x27) (.k (kB false))) h 28 kk) h fun x28 h =>
 vguard x21 false (fun kk=>kk x28 h) h fun x29 h =>
 vguard x29 true (fun kk=>kk x14 h) h fun x30 h =>
 vguard x29 true (fun kk=>vbin .leq 0 x30 (kI 8) h kk) h fun x31 h =>
 vguard x21 false (fun kk=>vop O (.pick (.k x29) (.k x31) (.k (kB false))) h 32 kk) h fun x32 h =>
 vop O (.pick (.k x21) (.k (kB true)) (.k x32)) h 33 fun x33 h =>
 vif x33 (
 R 1 [x1,x2,x3,x6,(kI 2)] h)
 (R 1 [x1,x2,x3,x6,x14] h)
theorem e12_0(O:Oracle)(R:Jump)(q:Nat)(x0 x1 x2:TVal)(h:Heap):b12_0 O R q x0 x1 x2 h=stepF c12 O R q 0 [x0,x1,x2] h:=by kernel_rfl
def b12_1(O:Oracle)(R:Jump)(q:Nat)(x1 x2 x3 x6 x7:TVal)(h:Heap):Res1 :=
 vop O (.build [(.p (.int .i64 0)),(.p (.str [])),(.p .nilslice),(.p .nilslice)] [(0,1,(.k x7))]) h 35 fun x35 h =>
 vop O (.alloc [(.p (.int .i64 0)),(.p (.str [])),(.p .nilslice),(.p .nilslice)] false) h 8 fun x8 h =>
 vstore 4 x8 x35 h fun _ h =>
 vbin .eql 0 x7 (kI 9) h fun x38 h =>
 vif x38 (
 vfaddr 1 x3 h fun x40 h =>
 vload false 1 x40 h fun x41 h =>
 vlen O 2 x2 h 43 fun x43 h =>
 vcall O (.v (.c (.func 19 []))) [x41,x43] h 44 fun x44 h =>
 viaddr 1 x2 x44 h fun x45 h =>
 vload false 1 x45 h fun x46 h =>
 vfaddr 1 x8 h fun x47 h =>
 vstore 1 x47 x46 h fun _ h =>
 R 6 [x6,x8] h)
 (vbin .eql 0 x7 (kI 4) h fun x49 h =>
 vif x49 (
 R 2 [x1,x2,x3,x6,x7,x8,x7,x49] h)
 (vbin .eql 0 x7 (kI 5) h fun x50 h =>
 vif x50 (
 R 2 [x1,x2,x3,x6,x7,x8,x7,x50] h)
 (vbin .eql 0 x7 (kI 6) h fun x51 h =>
 R 2 [x1,x2,x3,x6,x7,x8,x7,x51] h)))
theorem e12_1(O:Oracle)(R:Jump)(q:Nat)(x1 x2 x3 x6 x7:TVal)(h:Heap):b12_1 O R q x1 x2 x3 x6 x7 h=stepF c12 O R q 1 [x1,x2,x3,x6,x7] h:=by kernel_rfl
def b12_2(O:Oracle)(R:Jump)(q:Nat)(x1 x2 x3 x6 x7 x8 x36 x48:TVal)(h:Heap):Res1 :=
 vif x48 (
 vload true 4 x3 h fun x52 h =>
 vcall O (.v (.c (.func 27 []))) [x52,(kI 0)] h 53 fun x53 h =>
 vbin .sub 0 x1 (kI 1) h fun x55 h =>
 vcall O (.v (.c (.func 12 []))) [x53,x55,x2] h 57 fun x57 h =>
 vop O (.bslice 4 1 [(.p (.int .i64 0)),(.p (.str [])),(.p .nilslice),(.p .nilslice)] [(0,(.k x57))] false) h 58 fun x58 h =>
 vfaddr 3 x8 h fun x59 h =>
 vstore 1 x59 x58 h fun _ h =>
 vbin .eql 0 x7 (kI 6) h fun x61 h =>
 vguard x61 true (fun kk=>vfaddr 3 x8 h kk) h fun x63 h =>
 vguard x61 true (fun kk=>vload false 1 x63 h kk) h fun x64 h =>
 vguard x61 true (fun kk=>viaddr 4 x64 (kI 0) h kk) h fun x65 h =>
 vguard x61 true (fun kk=>vfaddr 0 x65 h kk) h fun x66 h =>
 vguard x61 true (fun kk=>vload false 1 x66 h kk) h fun x67 h =>
 vguard x61 true (fun kk=>vbin .eql 0 x67 (kI 6) h kk) h fun x68 h =>
 vop O (.pick (.k x61) (.k x68) (.k (kB false))) h 69 fun x69 h =>
 vif x69 (
 vfaddr 3 x8 h fun x70 h =>
 vload false 1 x70 h fun x71 h =>
 viaddr 4 x71 (kI 0) h fun x72 h =>
 vload true 4 x72 h fun x73 h =>
 vstore 4 x6 x73 h fun _ h =>
 vcell true 4 x6 h fun c0=>vfin true q [c0] h)
 (R 6 [x6,x8] h))
 (vbin .eql 0 x36 (kI 7) h fun x75 h =>
 vif x75 (
 R 3 [x1,x2,x3,x6,x7,x8,x75] h)
 (vbin .eql 0 x36 (kI 8) h fun x76 h =>
 R 3 [x1,x2,x3,x6,x7,x8,x76] h))
theorem e12_2(O:Oracle)(R:Jump)(q:Nat)(x1 x2 x3 x6 x7 x8 x36 x48:TVal)(h:Heap):b12_2 O R q x1 x2 x3 x6 x7 x8 x36 x48 h=stepF c12 O R q 2 [x1,x2,x3,x6,x7,x8,x36,x48] h:=by kernel_rfl
def b12_3(O:Oracle)(R:Jump)(q:Nat)(x1 x2 x3 x6 x7 x8 x74:TVal)(h:Heap):Res1 :=
 vif x74 (
 R 4 [x1,x2,x3,x6,x7,x8,(kI 0)] h)
 (R 6 [x6,x8] h)
theorem e12_3(O:Oracle)(R:Jump)(q:Nat)(x1 x2 x3 x6 x7 x8 x74:TVal)(h:Heap):b12_3 O R q x1 x2 x3 x6 x7 x8 x74 h=stepF c12 O R q 3 [x1,x2,x3,x6,x7,x8,x74] h:=by kernel_rfl
def b12_4(O:Oracle)(R:Jump)(q:Nat)(x1 x2 x3 x6 x7 x8 x9:TVal)(h:Heap):Res1 :=
 vfaddr 2 x3 h fun x78 h =>
 vload false 1 x78 h fun x79 h =>
 vlen O 2 x79 h 80 fun x80 h =>
 vbin .lss 0 x9 x80 h fun x81 h =>
 vguard x81 true (fun kk=>kk x9 h) h fun x83 h =>
 vguard x81 true (fun kk=>vbin .lss 0 x83 (kI 4) h kk) h fun x84 h =>
 vop O (.pick (.k x81) (.k x84) (.k (kB false))) h 85 fun x85 h =>
 vguard x85 false (fun kk=>kk x9 h) h fun x87 h =>
 vguard x85 false (fun kk=>vbin .eql 0 x87 (kI 0) h kk) h fun x88 h =>
 vguard x85 false (fun kk=>kk x88 h) h fun x89 h =>
 vguard x89 true (fun kk=>kk x7 h) h fun x90 h =>
 vguard x89 true (fun kk=>vbin .eql 0 x90 (kI 8) h kk) h fun x91 h =>
 vguard x85 false (fun kk=>vop O (.pick (.k x89) (.k x91) (.k (kB false))) h 92 kk) h fun x92 h =>
 vop O (.pick (.k x85) (.k (kB true)) (.k x92)) h 93 fun x93 h =>
 vif x93 (
 vfaddr 2 x3 h fun x97 h =>
 vload false 1 x97 h fun x98 h =>
 vlen O 2 x98 h 99 fun x99 h =>
 vbin .lss 0 x9 x99 h fun x100 h =>
 vif x100 (
 vfaddr 2 x3 h fun x101 h =>
 vload false 1 x101 h fun x102 h =>
 viaddr 1 x102 x9 h fun x104 h =>
 vload false 1 x104 h fun x105 h =>
 vcall O (.v (.c (.func 21 []))) [x105] h 106 fun x106 h =>
 R 5 [x1,x2,x3,x6,x7,x8,x9,x106] h)
 (R 5 [x1,x2,x3,x6,x7,x8,x9,(kS [117])] h))
 (R 6 [x6,x8] h)
theorem e12_4(O:Oracle)(R:Jump)(q:Nat)(x1 x2 x3 x6 x7 x8 x9:TVal)(h:Heap):b12_4 O R q x1 x2 x3 x6 x7 x8 x9 h=stepF c12 O R q 4 [x1,x2,x3,x6,x7,x8,x9] h:=by kernel_rfl
def b12_5(O:Oracle)(R:Jump)(q:Nat)(x1 x2 x3 x6 x7 x8 x9 x10:TVal)(h:Heap):Res1 :=
 vtouch O (.load true 4 (.k x8)) h 107 fun x107 h t0 =>
 vtouch O (.mv (.k x10)) h 108 fun x108 h t1 =>
 vtouch O (.load true 4 (.k x3)) h 109 fun x109 h t2 =>
 vtouch O (.mv (.k x9)) h 110 fun x110 h t3 =>
 vtouch O (.call (.k (.v (.c (.func 27 [])))) [(.k x109),(.k x110)]) h 111 fun x111 h t4 =>
 vtouch O (.mv (.k x1)) h 112 fun x112 h t5 =>
 vtouch O (.bin .sub 0 (.k x112) (.k (kI 1))) h 113 fun x113 h t6 =>
 vtouch O (.mv (.k x2)) h 114 fun x114 h t7 =>
 vtouch O (.call (.k (.v (.c (.func 12 [])))) [(.k x111),(.k x113),(.k x114)]) h 115 fun x115 h t8 =>
 vtouch O (.call (.k (.v (.c (.func 28 [])))) [(.k x107),(.k x108),(.k x115)]) h 116 fun x116 h t9 =>
 vtouch O (.store 4 (.k x8) (.k x116)) h 1000000 fun _ h t10 =>
 bif apartAll [t0,t1,t2,t3,t4,t5,t6,t7,t8,t9,t10] [(0,4),(0,8)] then
 vbin .add 0 x9 (kI 1) h fun x95 h =>
 R 4 [x1,x2,x3,x6,x7,x8,x95] h
 else none
theorem e12_5(O:Oracle)(R:Jump)(q:Nat)(x1 x2 x3 x6 x7 x8 x9 x10:TVal)(h:Heap):b12_5 O R q x1 x2 x3 x6 x7 x8 x9 x10 h=stepF c12 O R q 5 [x1,x2,x3,x6,x7,x8,x9,x10] h:=by kernel_rfl
def b12_6(O:Oracle)(R:Jump)(q:Nat)(x6 x8:TVal)(h:Heap):Res1 :=
 vload true 4 x8 h fun x117 h =>
 vstore 4 x6 x117 h fun _ h =>
 vcell true 4 x6 h fun c0=>vfin true q [c0] h
theorem e12_6(O:Oracle)(R:Jump)(q:Nat)(x6 x8:TVal)(h:Heap):b12_6 O R q x6 x8 h=stepF c12 O R q 6 [x6,x8] h:=by kernel_rfl
def d12:BlkF:=fun O R Q=>[.s fun a => .s fun b => .s fun c => .z (b12_0 O R Q a b c),.s fun a => .s fun b => .s fun c => .s fun d => .s fun e => .z (b12_1 O R Q a b c d e),.s fun a => .s fun b => .s fun c => .s fun d => .s fun e => .s fun f => .s fun g => .s fun h => .z (b12_2 O R Q a b c d e f g h),.s fun a => .s fun b => .s fun c => .s fun d => .s fun e => .s fun f => .s fun g => .z (b12_3 O R Q a b c d e f g),.s fun a => .s fun b => .s fun c => .s fun d => .s fun e => .s fun f => .s fun g => .z (b12_4 O R Q a b c d e f g),.s fun a => .s fun b => .s fun c => .s fun d => .s fun e => .s fun f => .s fun g => .s fun h => .z (b12_5 O R Q a b c d e f g h),.s fun a => .s fun b => .z (b12_6 O R Q a b)]
theorem o12(O:Oracle)(R:Jump)(q:Nat):HoldsAll c12 O R q 0 (d12 O R q):=⟨e12_0 O R q,e12_1 O R q,e12_2 O R q,e12_3 O R q,e12_4 O R q,e12_5 O R q,e12_6 O R q,trivial⟩
def c14:MFunc:=mkM (compF Tryd.prog (globs2 tabs opq) (fun _=>false) true Tryd.f14) (.s .n (.s .n (.s .n (.s (.s .n (.k (.l 1 [3,27,28,29] .n))) .n))))
def b14_0(O:Oracle)(R:Jump)(q:Nat)(x0:TVal)(h:Heap):Res1 :=
 vop O (.box (.k x0) false) h 1 fun x1 h =>
 vfaddr 0 x1 h fun x6 h =>
 vload false 1 x6 h fun x7 h =>
 vbin .eql 0 x7 (kI 9) h fun x9 h =>
 vif x9 (
 vfaddr 1 x1 h fun x10 h =>
 vload false 1 x10 h fun x11 h =>
 tcomp x11 fun c0=>vfin true q [c0] h)
 (vbin .eql 0 x7 (kI 7) h fun x13 h =>
 vif x13 (
 vload true 4 x1 h fun x14 h =>
 vcall O (.v (.c (.func 31 []))) [x14] h 15 fun x15 h =>
 tcomp x15 fun c0=>vfin true q [c0] h)
 (vbin .eql 0 x7 (kI 8) h fun x17 h =>
 vif x17 (
 vtouch O (.call (.k (.v (.c (.func 32 [])))) [(.k (kI 8))]) h 18 fun x18 h t0 =>
 vtouch O (.bin .add 0 (.k x18) (.k (kS [32]))) h 19 fun x19 h t1 =>
 vtouch O (.load true 4 (.k x1)) h 20 fun x20 h t2 =>
 vtouch O (.call (.k (.v (.c (.func 31 [])))) [(.k x20)]) h 21 fun x21 h t3 =>
 vtouch O (.bin .add 0 (.k x19) (.k x21)) h 22 fun x22 h t4 =>
 vtouch O (.mv (.k x22)) h 2 fun x2 h t5 =>
 bif apartAll [t0,t1,t2,t3,t4,t5] [(0,2)] then
 tcomp x2 fun c0=>vfin true q [c0] h
 else none)
 (vfaddr 0 x1 h fun x23 h =>
 vload false 1 x23 h fun x24 h =>
 vcall O (.v (.c (.func 32 []))) [x24] h 25 fun x25 h =>
 vfaddr 3 x1 h fun x26 h =>
 vload false 1 x26 h fun x27 h =>
 vlen O 2 x27 h 28 fun x28 h =>
 R 1 [x25,x27,x28,(kI 0)] h)))
theorem e14_0(O:Oracle)(R:Jump)(q:Nat)(x0:TVal)(h:Heap):b14_0 O R q x0 h=stepF c14 O R q 0 [x0] h:=by kernel_rfl
def b14_1(O:Oracle)(R:Jump)(q:Nat)(x3 x27 x28 x29:TVal)(h:Heap):Res1 :=
 vbin .lss 0 x29 x28 h fun x30 h =>
 vif x30 (
 viaddr 4 x27 x29 h fun x31 h =>
 vload true 4 x31 h fun x32 h =>
 vop O (.alloc [(.p (.int .i64 0)),(.p (.str [])),(.p .nilslice),(.p .nilslice)] false) h 5 fun x5 h =>
 vstore 4 x5 x32 h fun _ h =>
 vload true 4 x5 h fun x34 h =>
 vcall O (.v (.c (.func 14 []))) [x34] h 35 fun x35 h =>
 vbin .add 0 (kS [60]) x35 h fun x36 h =>
 vbin .add 0 x36 (kS [62]) h fun x37 h =>
 vbin .add 0 x3 x37 h fun x38 h =>
 vbin .add 0 x29 (kI 1) h fun x39 h =>
 R 1 [x38,x27,x28,x39] h)
 (tcomp x3 fun c0=>vfin true q [c0] h)
theorem e14_1(O:Oracle)(R:Jump)(q:Nat)(x3 x27 x28 x29:TVal)(h:Heap):b14_1 O R q x3 x27 x28 x29 h=stepF c14 O R q 1 [x3,x27,x28,x29] h:=by kernel_rfl
def d14:BlkF:=fun O R Q=>[.s fun a => .z (b14_0 O R Q a),.s fun a => .s fun b => .s fun c => .s fun d => .z (b14_1 O R Q a b c d)]
theorem o14(O:Oracle)(R:Jump)(q:Nat):HoldsAll c14 O R q 0 (d14 O R q):=⟨e14_0 O R q,e14_1 O R q,trivial⟩
def c15:MFunc:=mkM (compF Tryd.prog (globs2 tabs opq) (fun _=>false) true Tryd.f15) (.s .n (.s .n (.s .n (.s (.s .n (.k (.l 1 [0,3,4,5] .n))) .n))))
def b15_0(O:Oracle)(R:Jump)(q:Nat)(x0:TVal)(h:Heap):Res1 :=
 vop O (.bslice 1 25 [(.p (.str []))] [(0,(.k (kS [100,97,116,97]))),(1,(.k (kS [116,121,112,101]))),(2,(.k (kS [102,110]))),(3,(.k (kS [73,110,116]))),(4,(.k (kS [66,111,111,108]))),(5,(.k (kS [84,101,120,116]))),(6,(.k (kS [76,105,115,116,60]))),(7,(.k (kS [77,97,112,60]))),(8,(.k (kS [79,112,116,60]))),(9,(.k (kS [62]))),(10,(.k (kS [123]))),(11,(.k (kS [125]))),(12,(.k (kS [85,110,105,111,110]))),(13,(.k (kS [97]))),(14,(.k (kS [98]))),(15,(.k (kS [58]))),(16,(.k (kS [44]))),(17,(.k (kS [59]))),(18,(.k (kS [61]))),(19,(.k (kS [40]))),(20,(.k (kS [41]))),(21,(.k (kS [45,62]))),(22,(.k (kS [65]))),(23,(.k (kS [55]))),(24,(.k (kS [34,120,34])))] false) h 6 fun x6 h =>
 R 1 [x0,x6,(kS []),(kI 0)] h
theorem e15_0(O:Oracle)(R:Jump)(q:Nat)(x0:TVal)(h:Heap):b15_0 O R q x0 h=stepF c15 O R q 0 [x0] h:=by kernel_rfl
def b15_1(O:Oracle)(R:Jump)(q:Nat)(x0 x3 x4 x5:TVal)(h:Heap):Res1 :=
 vlen O 2 x0 h 9 fun x9 h =>
 vbin .lss 0 x5 x9 h fun x10 h =>
 vguard x10 true (fun kk=>kk x5 h) h fun x12 h =>
 vguard x10 true (fun kk=>vbin .lss 0 x12 (kI 50) h kk) h fun x13 h =>
 vop O (.pick (.k x10) (.k x13) (.k (kB false))) h 14 fun x14 h =>
 vif x14 (
 viaddr 1 x0 x5 h fun x21 h =>
 vload false 1 x21 h fun x22 h =>
 vlen O 2 x3 h 24 fun x24 h =>
 vcall O (.v (.c (.func 19 []))) [x22,x24] h 25 fun x25 h =>
 viaddr 1 x3 x25 h fun x26 h =>
 vload false 1 x26 h fun x27 h =>
 vbin .add 0 x4 x27 h fun x28 h =>
 vbin .add 0 x28 (kS [32]) h fun x29 h =>
 vbin .add 0 x5 (kI 1) h fun x16 h =>
 R 1 [x0,x3,x29,x16] h)
 (tcomp x4 fun c0=>vfin true q [c0] h)
theorem e15_1(O:Oracle)(R:Jump)(q:Nat)(x0 x3 x4 x5:TVal)(h:Heap):b15_1 O R q x0 x3 x4 x5 h=stepF c15 O R q 1 [x0,x3,x4,x5] h:=by kernel_rfl
def d15:BlkF:=fun O R Q=>[.s fun a => .z (b15_0 O R Q a),.s fun a => .s fun b => .s fun c => .s fun d => .z (b15_1 O R Q a b c d)]
theorem o15(O:Oracle)(R:Jump)(q:Nat):HoldsAll c15 O R q 0 (d15 O R q):=⟨e15_0 O R q,e15_1 O R q,trivial⟩
def c16:MFunc:=mkM (compF Tryd.prog (globs2 tabs opq) (fun _=>false) true Tryd.f16) .n
def b16_0(O:Oracle)(R:Jump)(q:Nat)(x0:TVal)(h:Heap):Res1 :=
 vop O (.alloc [(.p (.int .i64 0)),(.p (.str [])),(.p .nilslice),(.p .nilslice)] false) h 2 fun x2 h =>
 vcall O (.v (.c (.func 33 []))) [x0] h 8 fun x8 h =>
 vcall O (.v (.c (.func 34 []))) [x8,(kI 1)] h 10 fun x10 h =>
 vop O (.alloc [(.p (.int .i64 0)),(.p (.str [])),(.p .nilslice),(.p .nilslice)] false) h 5 fun x5 h =>
 vstore 4 x5 x10 h fun _ h =>
 vcall O (.v (.c (.func 35 []))) [x8] h 12 fun x12 h =>
 vbin .neq 0 x12 (kI 0) h fun x14 h =>
 vif x14 (
 vop O (.build [(.p (.int .i64 0)),(.p (.str [])),(.p .nilslice),(.p .nilslice)] []) h 15 fun x15 h =>
 vstore 4 x2 x15 h fun _ h =>
 vcell true 4 x2 h fun c0=>tcomp x12 fun c1=>vfin true q [c0,c1] h)
 (vload true 4 x5 h fun x17 h =>
 vstore 4 x2 x17 h fun _ h =>
 vcell true 4 x2 h fun c0=>tcomp (kI 0) fun c1=>vfin true q [c0,c1] h)
theorem e16_0(O:Oracle)(R:Jump)(q:Nat)(x0:TVal)(h:Heap):b16_0 O R q x0 h=stepF c16 O R q 0 [x0] h:=by kernel_rfl
def d16:BlkF:=fun O R Q=>[.s fun a => .z (b16_0 O R Q a)]
theorem o16(O:Oracle)(R:Jump)(q:Nat):HoldsAll c16 O R q 0 (d16 O R q):=⟨e16_0 O R q,trivial⟩
def c17:MFunc:=mkM (compF Tryd.prog (globs2 tabs opq) (fun _=>false) true Tryd.f17) (.s .n (.s .n (.s (.s .n (.k (.l 1 [2,3,5] .n))) (.m 2 [2,3] (.s (.s .n (.k (.l 3 [2,3,6] .n))) .n)))))
def b17_0(O:Oracle)(R:Jump)(q:Nat)(x0 x1:TVal)(h:Heap):Res1 :=
 vop O (.box (.k x0) false) h 2 fun x2 h =>
 vop O (.box (.k x1) false) h 3 fun x3 h =>
 vfaddr 0 x2 h fun x7 h =>
 vload false 1 x7 h fun x8 h =>
 vfaddr 0 x3 h fun x9 h =>
 vload false 1 x9 h fun x10 h =>
 vbin .neq 0 x8 x10 h fun x11 h =>
 vguard x11 false (fun kk=>vfaddr 1 x2 h kk) h fun x13 h =>
 vguard x11 false (fun kk=>vload false 1 x13 h kk) h fun x14 h =>
 vguard x11 false (fun kk=>vfaddr 1 x3 h kk) h fun x15 h =>
 vguard x11 false (fun kk=>vload false 1 x15 h kk) h fun x16 h =>
 vguard x11 false (fun kk=>vbin .neq 0 x14 x16 h kk) h fun x17 h =>
 vop O (.pick (.k x11) (.k (kB true)) (.k x17)) h 18 fun x18 h =>
 vguard x18 false (fun kk=>vfaddr 2 x2 h kk) h fun x20 h =>
 vguard x18 false (fun kk=>vload false 1 x20 h kk) h fun x21 h =>
 vguard x18 false (fun kk=>vlen O 2 x21 h 22 kk) h fun x22 h =>
 vguard x18 false (fun kk=>vfaddr 2 x3 h kk) h fun x23 h =>
 vguard x18 false (fun kk=>vload false 1 x23 h kk) h fun x24 h =>
 vguard x18 false (fun kk=>vlen O 2 x24 h 25 kk) h fun x25 h =>
 vguard x18 false (fun kk=>vbin .neq 0 x22 x25 h kk) h fun x26 h =>
 vop O (.pick (.k x18) (.k (kB true)) (.k x26)) h 27 fun x27 h =>
 vguard x27 false (fun kk=>vfaddr 3 x2 h kk) h fun x29 h =>
 vguard x27 false (fun kk=>vload false 1 x29 h kk) h fun x30 h =>
 vguard x27 false (fun kk=>vlen O 2 x30 h 31 kk) h fun x31 h =>
 vguard x27 false (fun kk=>vfaddr 3 x3 h kk) h fun x32 h =>
 vguard x27 false (fun kk=>vload false 1 x32 h kk) h fun x33 h =>
 vguard x27 false (fun kk=>vlen O 2 x33 h 34 kk) h fun x34 h =>
 vguard x27 false (fun kk=>vbin .neq 0 x31 x34 h kk) h fun x35 h =>
 vop O (.pick (.k x27) (.k (kB true)) (.k x35)) h 36 fun x36 h =>
 vif x36 (
 tcomp (kB false) fun c0=>vfin true q [c0] h)
 (R 1 [x2,x3,(kI 0)] h)
theorem e17_0(O:Oracle)(R:Jump)(q:Nat)(x0 x1:TVal)(h:Heap):b17_0 O R q x0 x1 h=stepF c17 O R q 0 [x0,x1] h:=by kernel_rfl
def b17_1(O:Oracle)(R:Jump)(q:Nat)(x2 x3 x5:TVal)(h:Heap):Res1 :=
 vfaddr 2 x2 h fun x38 h =>
 vload false 1 x38 h fun x39 h =>
 vlen O 2 x39 h 40 fun x40 h =>
 vbin .lss 0 x5 x40 h fun x41 h =>
 vif x41 (
 vfaddr 2 x2 h fun x44 h =>
 vload false 1 x44 h fun x45 h =>
 viaddr 1 x45 x5 h fun x47 h =>
 vload false 1 x47 h fun x48 h =>
 vfaddr 2 x3 h fun x49 h =>
 vload false 1 x49 h fun x50 h =>
 viaddr 1 x50 x5 h fun x52 h =>
 vload false 1 x52 h fun x53 h =>
 vbin .neq 0 x48 x53 h fun x54 h =>
 vif x54 (
 tcomp (kB false) fun c0=>vfin true q [c0] h)
 (vbin .add 0 x5 (kI 1) h fun x43 h =>
 R 1 [x2,x3,x43] h))
 (R 2 [x2,x3] h)
theorem e17_1(O:Oracle)(R:Jump)(q:Nat)(x2 x3 x5:TVal)(h:Heap):b17_1 O R q x2 x3 x5 h=stepF c17 O R q 1 [x2,x3,x5] h:=by kernel_rfl
def b17_2(O:Oracle)(R:Jump)(q:Nat)(x2 x3:TVal)(h:Heap):Res1 :=
 R 3 [x2,x3,(kI 0)] h
theorem e17_2(O:Oracle)(R:Jump)(q:Nat)(x2 x3:TVal)(h:Heap):b17_2 O R q x2 x3 h=stepF c17 O R q 2 [x2,x3] h:=by kernel_rfl
def b17_3(O:Oracle)(R:Jump)(q:Nat)(x2 x3 x6:TVal)(h:Heap):Res1 :=
 vfaddr 3 x2 h fun x56 h =>
 vload false 1 x56 h fun x57 h =>
 vlen O 2 x57 h 58 fun x58 h =>
 vbin .lss 0 x6 x58 h fun x59 h =>
 vif x59 (
 vfaddr 3 x2 h fun x62 h =>
 vload false 1 x62 h fun x63 h =>
 viaddr 4 x63 x6 h fun x65 h =>
 vload true 4 x65 h fun x66 h =>
 vfaddr 3 x3 h fun x67 h =>
 vload false 1 x67 h fun x68 h =>
 viaddr 4 x68 x6 h fun x70 h =>
 vload true 4 x70 h fun x71 h =>
 vcall O (.v (.c (.func 17 []))) [x66,x71] h 72 fun x72 h =>
 vop O (.un .not (.k x72)) h 73 fun x73 h =>
 vif x73 (
 tcomp (kB false) fun c0=>vfin true q [c0] h)
 (vbin .add 0 x6 (kI 1) h fun x61 h =>
 R 3 [x2,x3,x61] h))
 (tcomp (kB true) fun c0=>vfin true q [c0] h)
theorem e17_3(O:Oracle)(R:Jump)(q:Nat)(x2 x3 x6:TVal)(h:Heap):b17_3 O R q x2 x3 x6 h=stepF c17 O R q 3 [x2,x3,x6] h:=by kernel_rfl
def d17:BlkF:=fun O R Q=>[.s fun a => .s fun b => .z (b17_0 O R Q a b),.s fun a => .s fun b => .s fun c => .z (b17_1 O R Q a b c),.s fun a => .s fun b => .z (b17_2 O R Q a b),.s fun a => .s fun b => .s fun c => .z (b17_3 O R Q a b c)]
theorem o17(O:Oracle)(R:Jump)(q:Nat):HoldsAll c17 O R q 0 (d17 O R q):=⟨e17_0 O R q,e17_1 O R q,e17_2 O R q,e17_3 O R q,trivial⟩
def c19:MFunc:=mkM (compF Tryd.prog (globs2 tabs opq) (fun _=>false) true Tryd.f19) .n
def b19_0(O:Oracle)(R:Jump)(q:Nat)(x0 x1:TVal)(h:Heap):Res1 :=
 vbin .rem 0 x0 x1 h fun x8 h =>
 vbin .lss 0 x8 (kI 0) h fun x10 h =>
 vif x10 (
 vbin .add 0 x8 x1 h fun x13 h =>
 tcomp x13 fun c0=>vfin true q [c0] h)
 (tcomp x8 fun c0=>vfin true q [c0] h)
theorem e19_0(O:Oracle)(R:Jump)(q:Nat)(x0 x1:TVal)(h:Heap):b19_0 O R q x0 x1 h=stepF c19 O R q 0 [x0,x1] h:=by kernel_rfl
def d19:BlkF:=fun O R Q=>[.s fun a => .s fun b => .z (b19_0 O R Q a b)]
theorem o19(O:Oracle)(R:Jump)(q:Nat):HoldsAll c19 O R q 0 (d19 O R q):=⟨e19_0 O R q,trivial⟩
def c21:MFunc:=mkM (compF Tryd.prog (globs2 tabs opq) (fun _=>false) true Tryd.f21) .n
def b21_0(O:Oracle)(R:Jump)(q:Nat)(x0:TVal)(h:Heap):Res1 :=
 vop O (.bslice 1 7 [(.p (.str []))] [(0,(.k (kS [97]))),(1,(.k (kS [98]))),(2,(.k (kS [99]))),(3,(.k (kS [110,97,109,101]))),(4,(.k (kS [110]))),(5,(.k (kS [73,110,116]))),(6,(.k (kS [116,121,112,101])))] false) h 3 fun x3 h =>
 vcall O (.v (.c (.func 19 []))) [x0,(kI 7)] h 5 fun x5 h =>
 viaddr 1 x3 x5 h fun x6 h =>
 vload false 1 x6 h fun x7 h =>
 tcomp x7 fun c0=>vfin true q [c0] h
theorem e21_0(O:Oracle)(R:Jump)(q:Nat)(x0:TVal)(h:Heap):b21_0 O R q x0 h=stepF c21 O R q 0 [x0] h:=by kernel_rfl
def d21:BlkF:=fun O R Q=>[.s fun a => .z (b21_0 O R Q a)]
theorem o21(O:Oracle)(R:Jump)(q:Nat):HoldsAll c21 O R q 0 (d21 O R q):=⟨e21_0 O R q,trivial⟩
def c27:MFunc:=mkM (compF Tryd.prog (globs2 tabs opq) (fun _=>false) true Tryd.f27) .n
def b27_0(O:Oracle)(R:Jump)(q:Nat)(x0 x1:TVal)(h:Heap):Res1 :=
 vop O (.box (.k x0) false) h 2 fun x2 h =>
 vop O (.alloc [(.p (.int .i64 0)),(.p (.int .i64 0)),(.p .nilslice),(.p .nilslice)] false) h 4 fun x4 h =>
 vfaddr 3 x2 h fun x5 h =>
 vload false 1 x5 h fun x6 h =>
 vlen O 2 x6 h 7 fun x7 h =>
 vbin .eql 0 x7 (kI 0) h fun x8 h =>
 vif x8 (
 vfaddr 1 x2 h fun x9 h =>
 vload false 1 x9 h fun x10 h =>
 vbin .add 0 x10 x1 h fun x12 h =>
 vfaddr 0 x2 h fun x13 h =>
 vload false 1 x13 h fun x14 h =>
 vop O (.build [(.p (.int .i64 0)),(.p (.int .i64 0)),(.p .nilslice),(.p .nilslice)] [(0,1,(.k x12)),(1,1,(.k x14))]) h 15 fun x15 h =>
 vstore 4 x4 x15 h fun _ h =>
 vcell true 4 x4 h fun c0=>vfin true q [c0] h)
 (vfaddr 3 x2 h fun x16 h =>
 vload false 1 x16 h fun x17 h =>
 vfaddr 3 x2 h fun x19 h =>
 vload false 1 x19 h fun x20 h =>
 vlen O 2 x20 h 21 fun x21 h =>
 vbin .rem 0 x1 x21 h fun x22 h =>
 viaddr 4 x17 x22 h fun x23 h =>
 vload true 4 x23 h fun x24 h =>
 vstore 4 x4 x24 h fun _ h =>
 vcell true 4 x4 h fun c0=>vfin true q [c0] h)
theorem e27_0(O:Oracle)(R:Jump)(q:Nat)(x0 x1:TVal)(h:Heap):b27_0 O R q x0 x1 h=stepF c27 O R q 0 [x0,x1] h:=by kernel_rfl
def d27:BlkF:=fun O R Q=>[.s fun a => .s fun b => .z (b27_0 O R Q a b)]
theorem o27(O:Oracle)(R:Jump)(q:Nat):HoldsAll c27 O R q 0 (d27 O R q):=⟨e27_0 O R q,trivial⟩
def c28:MFunc:=mkM (compF Tryd.prog (globs2 tabs opq) (fun _=>false) true Tryd.f28) (.s .n (.s .n (.s (.k (.l 1 [1,3,5,6,7] .n)) (.m 2 [1,3,5,6,7] .n))))
def b28_0(O:Oracle)(R:Jump)(q:Nat)(x0 x1 x2:TVal)(h:Heap):Res1 :=
 vop O (.box (.k x0) false) h 3 fun x3 h =>
 vop O (.box (.k x2) false) h 5 fun x5 h =>
 vop O (.alloc [(.p (.int .i64 0)),(.p (.str [])),(.p .nilslice),(.p .nilslice)] false) h 6 fun x6 h =>
 R 1 [x1,x3,x5,x6,(kI 0)] h
theorem e28_0(O:Oracle)(R:Jump)(q:Nat)(x0 x1 x2:TVal)(h:Heap):b28_0 O R q x0 x1 x2 h=stepF c28 O R q 0 [x0,x1,x2] h:=by kernel_rfl
def b28_1(O:Oracle)(R:Jump)(q:Nat)(x1 x3 x5 x6 x7:TVal)(h:Heap):Res1 :=
 vfaddr 2 x3 h fun x11 h =>
 vload false 1 x11 h fun x12 h =>
 vlen O 2 x12 h 13 fun x13 h =>
 vbin .lss 0 x7 x13 h fun x14 h =>
 vguard x14 true (fun kk=>vfaddr 2 x3 h kk) h fun x16 h =>
 vguard x14 true (fun kk=>vload false 1 x16 h kk) h fun x17 h =>
 vguard x14 true (fun kk=>kk x7 h) h fun x18 h =>
 vguard x14 true (fun kk=>viaddr 1 x17 x18 h kk) h fun x19 h =>
 vguard x14 true (fun kk=>vload false 1 x19 h kk) h fun x20 h =>
 vguard x14 true (fun kk=>kk x1 h) h fun x21 h =>
 vguard x14 true (fun kk=>vbin .lss 0 x20 x21 h kk) h fun x22 h =>
 vop O (.pick (.k x14) (.k x22) (.k (kB false))) h 23 fun x23 h =>
 vif x23 (
 vbin .add 0 x7 (kI 1) h fun x25 h =>
 R 1 [x1,x3,x5,x6,x25] h)
 (R 2 [x1,x3,x5,x6,x7] h)
theorem e28_1(O:Oracle)(R:Jump)(q:Nat)(x1 x3 x5 x6 x7:TVal)(h:Heap):b28_1 O R q x1 x3 x5 x6 x7 h=stepF c28 O R q 1 [x1,x3,x5,x6,x7] h:=by kernel_rfl
def b28_2(O:Oracle)(R:Jump)(q:Nat)(x1 x3 x5 x6 x7:TVal)(h:Heap):Res1 :=
 vfaddr 2 x3 h fun x27 h =>
 vload false 1 x27 h fun x28 h =>
 vlen O 2 x28 h 29 fun x29 h =>
 vbin .lss 0 x7 x29 h fun x30 h =>
 vguard x30 true (fun kk=>vfaddr 2 x3 h kk) h fun x32 h =>
 vguard x30 true (fun kk=>vload false 1 x32 h kk) h fun x33 h =>
 vguard x30 true (fun kk=>kk x7 h) h fun x34 h =>
 vguard x30 true (fun kk=>viaddr 1 x33 x34 h kk) h fun x35 h =>
 vguard x30 true (fun kk=>vload false 1 x35 h kk) h fun x36 h =>
 vguard x30 true (fun kk=>kk x1 h) h fun x37 h =>
 vguard x30 true (fun kk=>vbin .eql 0 x36 x37 h kk) h fun x38 h =>
 vop O (.pick (.k x30) (.k x38) (.k (kB false))) h 39 fun x39 h =>
 vif x39 (
 vload true 4 x3 h fun x40 h =>
 vstore 4 x6 x40 h fun _ h =>
 vcell true 4 x6 h fun c0=>vfin true q [c0] h)
 (vop O (.bslice 1 0 [(.p (.str []))] [] false) h 41 fun x41 h =>
 vfaddr 2 x3 h fun x42 h =>
 vload false 1 x42 h fun x43 h =>
 vop O (.slice 1 false (.k x43) none (some (.k x7)) none) h 45 fun x45 h =>
 vop O (.append 1 16 false (.k x41) (.k x45)) h 46 fun x46 h =>
 vop O (.bslice 4 0 [(.p (.int .i64 0)),(.p (.str [])),(.p .nilslice),(.p .nilslice)] [] false) h 47 fun x47 h =>
 vfaddr 3 x3 h fun x48 h =>
 vload false 1 x48 h fun x49 h =>
 vop O (.slice 4 false (.k x49) none (some (.k x7)) none) h 51 fun x51 h =>
 vop O (.append 4 72 false (.k x47) (.k x51)) h 52 fun x52 h =>
 vtouch O (.mv (.k x46)) h 53 fun x53 h t0 =>
 vtouch O (.mv (.k x1)) h 54 fun x54 h t1 =>
 vtouch O (.bslice 1 1 [(.p (.str []))] [(0,(.k x54))] false) h 55 fun x55 h t2 =>
 vtouch O (.append 1 16 false (.k x53) (.k x55)) h 56 fun x56 h t3 =>
 vtouch O (.faddr 2 (.k x3)) h 57 fun x57 h t4 =>
 vtouch O (.load false 1 (.k x57)) h 58 fun x58 h t5 =>
 vtouch O (.mv (.k x7)) h 59 fun x59 h t6 =>
 vtouch O (.slice 1 false (.k x58) (some (.k x59)) none none) h 60 fun x60 h t7 =>
 vtouch O (.append 1 16 false (.k x56) (.k x60)) h 61 fun x61 h t8 =>
 vtouch O (.mv (.k x52)) h 62 fun x62 h t9 =>
 vtouch O (.load true 4 (.k x5)) h 63 fun x63 h t10 =>
 vtouch O (.bslice 4 1 [(.p (.int .i64 0)),(.p (.str [])),(.p .nilslice),(.p .nilslice)] [(0,(.k x63))] false) h 64 fun x64 h t11 =>
 vtouch O (.append 4 72 false (.k x62) (.k x64)) h 65 fun x65 h t12 =>
 vtouch O (.faddr 3 (.k x3)) h 66 fun x66 h t13 =>
 vtouch O (.load false 1 (.k x66)) h 67 fun x67 h t14 =>
 vtouch O (.mv (.k x7)) h 68 fun x68 h t15 =>
 vtouch O (.slice 4 false (.k x67) (some (.k x68)) none none) h 69 fun x69 h t16 =>
 vtouch O (.append 4 72 false (.k x65) (.k x69)) h 70 fun x70 h t17 =>
 vtouch O (.faddr 2 (.k x3)) h 71 fun x71 h t18 =>
 vtouch O (.store 1 (.k x71) (.k x61)) h 1000000 fun _ h t19 =>
 vtouch O (.faddr 3 (.k x3)) h 72 fun x72 h t20 =>
 vtouch O (.store 1 (.k x72) (.k x70)) h 1000000 fun _ h t21 =>
 bif apartAll [t0,t1,t2,t3,t4,t5,t6,t7,t8,t9,t10,t11,t12,t13,t14,t15,t16,t17,t18,t19,t20,t21] [(2,5),(3,5),(2,10),(3,10),(8,10),(2,11),(3,11),(5,11),(8,11),(2,14),(3,14),(8,14),(11,14),(12,14)] then
 vload true 4 x3 h fun x73 h =>
 vstore 4 x6 x73 h fun _ h =>
 vcell true 4 x6 h fun c0=>vfin true q [c0] h
 else none)
theorem e28_2(O:Oracle)(R:Jump)(q:Nat)(x1 x3 x5 x6 x7:TVal)(h:Heap):b28_2 O R q x1 x3 x5 x6 x7 h=stepF c28 O R q 2 [x1,x3,x5,x6,x7] h:=by kernel_rfl
def d28:BlkF:=fun O R Q=>[.s fun a => .s fun b => .s fun c => .z (b28_0 O R Q a b c),.s fun a => .s fun b => .s fun c => .s fun d => .s fun e => .z (b28_1 O R Q a b c d e),.s fun a => .s fun b => .s fun c => .s fun d => .s fun e => .z (b28_2 O R Q a b c d e)]
theorem o28(O:Oracle)(R:Jump)(q:Nat):HoldsAll c28 O R q 0 (d28 O R q):=⟨e28_0 O R q,e28_1 O R q,e28_2 O R q,trivial⟩
def c31:MFunc:=mkM (compF Tryd.prog (globs2 tabs opq) (fun _=>false) true Tryd.f31) (.s .n (.s .n (.s (.s .n (.k (.l 1 [1,3,7,8,9] (.s .n (.s .n (.s .n (.m 2 [1,3,7,8,9] .n))))))) (.m 3 [3] .n))))
def b31_0(O:Oracle)(R:Jump)(q:Nat)(x0:TVal)(h:Heap):Res1 :=
 vop O (.box (.k x0) false) h 1 fun x1 h =>
 vfaddr 3 x1 h fun x6 h =>
 vload false 1 x6 h fun x7 h =>
 vlen O 2 x7 h 8 fun x8 h =>
 R 1 [x1,(.v (.c (.p .nilslice))),x7,x8,(kI 0)] h
theorem e31_0(O:Oracle)(R:Jump)(q:Nat)(x0:TVal)(h:Heap):b31_0 O R q x0 h=stepF c31 O R q 0 [x0] h:=by kernel_rfl
def b31_1(O:Oracle)(R:Jump)(q:Nat)(x1 x3 x7 x8 x9:TVal)(h:Heap):Res1 :=
 vbin .lss 0 x9 x8 h fun x10 h =>
 vif x10 (
 viaddr 4 x7 x9 h fun x12 h =>
 vload true 4 x12 h fun x13 h =>
 vop O (.alloc [(.p (.int .i64 0)),(.p (.str [])),(.p .nilslice),(.p .nilslice)] false) h 5 fun x5 h =>
 vstore 4 x5 x13 h fun _ h =>
 vfaddr 2 x1 h fun x15 h =>
 vload false 1 x15 h fun x16 h =>
 vlen O 2 x16 h 17 fun x17 h =>
 vbin .lss 0 x9 x17 h fun x18 h =>
 vif x18 (
 vtouch O (.mv (.k x3)) h 19 fun x19 h t0 =>
 vtouch O (.faddr 2 (.k x1)) h 20 fun x20 h t1 =>
 vtouch O (.load false 1 (.k x20)) h 21 fun x21 h t2 =>
 vtouch O (.mv (.k x9)) h 22 fun x22 h t3 =>
 vtouch O (.iaddr 1 (.k x21) (.k x22)) h 23 fun x23 h t4 =>
 vtouch O (.load false 1 (.k x23)) h 24 fun x24 h t5 =>
 vtouch O (.bin .add 0 (.k x24) (.k (kS [58,32]))) h 25 fun x25 h t6 =>
 vtouch O (.load true 4 (.k x5)) h 26 fun x26 h t7 =>
 vtouch O (.call (.k (.v (.c (.func 14 [])))) [(.k x26)]) h 27 fun x27 h t8 =>
 vtouch O (.bin .add 0 (.k x25) (.k x27)) h 28 fun x28 h t9 =>
 vtouch O (.bslice 1 1 [(.p (.str []))] [(0,(.k x28))] false) h 29 fun x29 h t10 =>
 vtouch O (.append 1 16 false (.k x19) (.k x29)) h 30 fun x30 h t11 =>
 vtouch O (.mv (.k x30)) h 3 fun x3_1 h t12 =>
 bif apartAll [t0,t1,t2,t3,t4,t5,t6,t7,t8,t9,t10,t11,t12] [(2,8),(5,8)] then
 R 2 [x1,x3_1,x7,x8,x9] h
 else none)
 (R 2 [x1,x3,x7,x8,x9] h))
 (R 3 [x3] h)
theorem e31_1(O:Oracle)(R:Jump)(q:Nat)(x1 x3 x7 x8 x9:TVal)(h:Heap):b31_1 O R q x1 x3 x7 x8 x9 h=stepF c31 O R q 1 [x1,x3,x7,x8,x9] h:=by kernel_rfl
def b31_2(O:Oracle)(R:Jump)(q:Nat)(x1 x3 x7 x8 x9:TVal)(h:Heap):Res1 :=
 vbin .add 0 x9 (kI 1) h fun x31 h =>
 R 1 [x1,x3,x7,x8,x31] h
theorem e31_2(O:Oracle)(R:Jump)(q:Nat)(x1 x3 x7 x8 x9:TVal)(h:Heap):b31_2 O R q x1 x3 x7 x8 x9 h=stepF c31 O R q 2 [x1,x3,x7,x8,x9] h:=by kernel_rfl
def b31_3(O:Oracle)(R:Jump)(q:Nat)(x3:TVal)(h:Heap):Res1 :=
 vcall O (.v (.c (.func 53 []))) [x3,(kS [44,32])] h 33 fun x33 h =>
 vbin .add 0 (kS [123]) x33 h fun x34 h =>
 vbin .add 0 x34 (kS [125]) h fun x35 h =>
 tcomp x35 fun c0=>vfin true q [c0] h
theorem e31_3(O:Oracle)(R:Jump)(q:Nat)(x3:TVal)(h:Heap):b31_3 O R q x3 h=stepF c31 O R q 3 [x3] h:=by kernel_rfl
def d31:BlkF:=fun O R Q=>[.s fun a => .z (b31_0 O R Q a),.s fun a => .s fun b => .s fun c => .s fun d => .s fun e => .z (b31_1 O R Q a b c d e),.s fun a => .s fun b => .s fun c => .s fun d => .s fun e => .z (b31_2 O R Q a b c d e),.s fun a => .z (b31_3 O R Q a)]
theorem o31(O:Oracle)(R:Jump)(q:Nat):HoldsAll c31 O R q 0 (d31 O R q):=⟨e31_0 O R q,e31_1 O R q,e31_2 O R q,e31_3 O R q,trivial⟩
def c32:MFunc:=mkM (compF Tryd.prog (globs2 tabs opq) (fun _=>false) true Tryd.f32) .n
def b32_0(O:Oracle)(R:Jump)(q:Nat)(x0:TVal)(h:Heap):Res1 :=
 vbin .eql 0 x0 (kI 1) h fun x5 h =>
 vif x5 (
 tcomp (kS [66,111,111,108]) fun c0=>vfin true q [c0] h)
 (vbin .eql 0 x0 (kI 2) h fun x7 h =>
 vif x7 (
 tcomp (kS [73,110,116]) fun c0=>vfin true q [c0] h)
 (vbin .eql 0 x0 (kI 3) h fun x9 h =>
 vif x9 (
 tcomp (kS [84,101,120,116]) fun c0=>vfin true q [c0] h)
 (vbin .eql 0 x0 (kI 4) h fun x11 h =>
 vif x11 (
 tcomp (kS [76,105,115,116]) fun c0=>vfin true q [c0] h)
 (vbin .eql 0 x0 (kI 5) h fun x13 h =>
 vif x13 (
 tcomp (kS [77,97,112]) fun c0=>vfin true q [c0] h)
 (vbin .eql 0 x0 (kI 6) h fun x15 h =>
 vif x15 (
 tcomp (kS [79,112,116]) fun c0=>vfin true q [c0] h)
 (vbin .eql 0 x0 (kI 8) h fun x17 h =>
 vif x17 (
 tcomp (kS [85,110,105,111,110]) fun c0=>vfin true q [c0] h)
 (tcomp (kS []) fun c0=>vfin true q [c0] h)))))))
theorem e32_0(O:Oracle)(R:Jump)(q:Nat)(x0:TVal)(h:Heap):b32_0 O R q x0 h=stepF c32 O R q 0 [x0] h:=by kernel_rfl
def d32:BlkF:=fun O R Q=>[.s fun a => .z (b32_0 O R Q a)]
theorem o32(O:Oracle)(R:Jump)(q:Nat):HoldsAll c32 O R q 0 (d32 O R q):=⟨e32_0 O R q,trivial⟩
def c33:MFunc:=mkM (compF Tryd.prog (globs2 tabs opq) (fun _=>false) false Tryd.f33) .n
def b33_0(O:Oracle)(R:Jump)(q:Nat)(x0:TVal)(h:Heap):Res1 :=
 vcall O (.v (.c (.func 54 []))) [x0] h 7 fun x7 h =>
 vext x7 0 h fun x8 h =>
 vext x7 1 h fun x9 h =>
 vop O (.build [(.p .nilslice),(.p (.int .i64 0)),(.p (.int .i64 0)),(.p (.bool false))] [(0,1,(.k x8)),(2,1,(.k x9))]) h 12 fun x12 h =>
 vop O (.box (.k x12) false) h 13 fun x13 h =>
 tcomp x13 fun c0=>vfin false q [c0] h
theorem e33_0(O:Oracle)(R:Jump)(q:Nat)(x0:TVal)(h:Heap):b33_0 O R q x0 h=stepF c33 O R q 0 [x0] h:=by kernel_rfl
def d33:BlkF:=fun O R Q=>[.s fun a => .z (b33_0 O R Q a)]
theorem o33(O:Oracle)(R:Jump)(q:Nat):HoldsAll c33 O R q 0 (d33 O R q):=⟨e33_0 O R q,trivial⟩
def c34:MFunc:=mkM (compF Tryd.prog (globs2 tabs opq) (fun _=>false) true Tryd.f34) (.s .n (.s .n (.s .n (.s .n (.s .n (.m 1 [0,1,4,5] (.s .n (.s .n (.s .n (.s .n (.s (.s .n (.k (.l 2 [0,1,4,5,7] .n))) (.m 3 [4,5] .n))))))))))))
def b34_0(O:Oracle)(R:Jump)(q:Nat)(x0 x1:TVal)(h:Heap):Res1 :=
 vop O (.alloc [(.p (.int .i64 0)),(.p (.str [])),(.p .nilslice),(.p .nilslice)] false) h 4 fun x4 h =>
 vcall O (.v (.c (.func 55 []))) [x0] h 10 fun x10 h =>
 vop O (.alloc [(.p (.int .i64 0)),(.p (.str [])),(.p (.int .i64 0)),(.p (.int .i64 0))] false) h 5 fun x5 h =>
 vstore 4 x5 x10 h fun _ h =>
 vfaddr 0 x5 h fun x11 h =>
 vload false 1 x11 h fun x12 h =>
 vbin .eql 0 x12 (kI 1) h fun x13 h =>
 vguard x13 false (fun kk=>vfaddr 0 x5 h kk) h fun x15 h =>
 vguard x13 false (fun kk=>vload false 1 x15 h kk) h fun x16 h =>
 vguard x13 false (fun kk=>vbin .eql 0 x16 (kI 4) h kk) h fun x17 h =>
 vguard x13 false (fun kk=>kk x17 h) h fun x18 h =>
 vguard x18 true (fun kk=>vfaddr 1 x5 h kk) h fun x19 h =>
 vguard x18 true (fun kk=>vload false 1 x19 h kk) h fun x20 h =>
 vguard x18 true (fun kk=>vbin .eql 0 x20 (kS [123]) h kk) h fun x21 h =>
 vguard x13 false (fun kk=>vop O (.pick (.k x18) (.k x21) (.k (kB false))) h 22 kk) h fun x22 h =>
 vop O (.pick (.k x13) (.k (kB true)) (.k x22)) h 23 fun x23 h =>
 vcall O (.v (.c (.func 39 []))) [x0,x23] h 26 fun x26 h =>
 vguard x23 true (fun kk=>kk x1 h) h fun x29 h =>
 vguard x23 true (fun kk=>vbin .gtr 0 x29 (kI 12) h kk) h fun x30 h =>
 vop O (.pick (.k x23) (.k x30) (.k (kB false))) h 31 fun x31 h =>
 vif x31 (
 vcall O (.v (.c (.func 56 []))) [x0,(kI 13)] h 33 fun x33 h =>
 R 1 [x0,x1,x4,x5] h)
 (R 1 [x0,x1,x4,x5] h)
theorem e34_0(O:Oracle)(R:Jump)(q:Nat)(x0 x1:TVal)(h:Heap):b34_0 O R q x0 x1 h=stepF c34 O R q 0 [x0,x1] h:=by kernel_rfl
def b34_1(O:Oracle)(R:Jump)(q:Nat)(x0 x1 x4 x5:TVal)(h:Heap):Res1 :=
 vop O (.nilck (.k x0)) h 35 fun x35 h =>
 vfaddr 2 x35 h fun x36 h =>
 vload false 1 x36 h fun x37 h =>
 vbin .neq 0 x37 (kI 0) h fun x38 h =>
 vif x38 (
 vop O (.build [(.p (.int .i64 0)),(.p (.str [])),(.p .nilslice),(.p .nilslice)] []) h 39 fun x39 h =>
 vstore 4 x4 x39 h fun _ h =>
 vcell true 4 x4 h fun c0=>vfin true q [c0] h)
 (vfaddr 0 x5 h fun x40 h =>
 vload false 1 x40 h fun x41 h =>
 vbin .eql 0 x41 (kI 4) h fun x42 h =>
 vif x42 (
 vcall O (.v (.c (.func 57 []))) [x0,(kI 7),x1] h 45 fun x45 h =>
 vstore 4 x4 x45 h fun _ h =>
 vcell true 4 x4 h fun c0=>vfin true q [c0] h)
 (vop O (.nilck (.k x0)) h 47 fun x47 h =>
 vfaddr 1 x47 h fun x48 h =>
 vload false 1 x48 h fun x49 h =>
 vbin .add 0 x49 (kI 1) h fun x50 h =>
 vop O (.nilck (.k x0)) h 51 fun x51 h =>
 vfaddr 1 x51 h fun x52 h =>
 vstore 1 x52 x50 h fun _ h =>
 vfaddr 1 x5 h fun x53 h =>
 vload false 1 x53 h fun x54 h =>
 vcall O (.v (.c (.func 32 []))) [(kI 1)] h 56 fun x56 h =>
 vbin .eql 0 x54 x56 h fun x57 h =>
 vif x57 (
 vop O (.build [(.p (.int .i64 0)),(.p (.str [])),(.p .nilslice),(.p .nilslice)] [(0,1,(.k (kI 1)))]) h 58 fun x58 h =>
 vstore 4 x4 x58 h fun _ h =>
 vcell true 4 x4 h fun c0=>vfin true q [c0] h)
 (vcall O (.v (.c (.func 32 []))) [(kI 2)] h 60 fun x60 h =>
 vbin .eql 0 x54 x60 h fun x61 h =>
 vif x61 (
 vop O (.build [(.p (.int .i64 0)),(.p (.str [])),(.p .nilslice),(.p .nilslice)] [(0,1,(.k (kI 2)))]) h 62 fun x62 h =>
 vstore 4 x4 x62 h fun _ h =>
 vcell true 4 x4 h fun c0=>vfin true q [c0] h)
 (vcall O (.v (.c (.func 32 []))) [(kI 3)] h 64 fun x64 h =>
 vbin .eql 0 x54 x64 h fun x65 h =>
 vif x65 (
 vop O (.build [(.p (.int .i64 0)),(.p (.str [])),(.p .nilslice),(.p .nilslice)] [(0,1,(.k (kI 3)))]) h 66 fun x66 h =>
 vstore 4 x4 x66 h fun _ h =>
 vcell true 4 x4 h fun c0=>vfin true q [c0] h)
 (vcall O (.v (.c (.func 32 []))) [(kI 8)] h 68 fun x68 h =>
 vbin .eql 0 x54 x68 h fun x69 h =>
 vif x69 (
 vcall O (.v (.c (.func 57 []))) [x0,(kI 8),x1] h 72 fun x72 h =>
 vstore 4 x4 x72 h fun _ h =>
 vcell true 4 x4 h fun c0=>vfin true q [c0] h)
 (R 2 [x0,x1,x4,x5,(kI 4)] h))))))
theorem e34_1(O:Oracle)(R:Jump)(q:Nat)(x0 x1 x4 x5:TVal)(h:Heap):b34_1 O R q x0 x1 x4 x5 h=stepF c34 O R q 1 [x0,x1,x4,x5] h:=by kernel_rfl
def b34_2(O:Oracle)(R:Jump)(q:Nat)(x0 x1 x4 x5 x7:TVal)(h:Heap):Res1 :=
 vbin .leq 0 x7 (kI 6) h fun x74 h =>
 vif x74 (
 vtouch O (.faddr 1 (.k x5)) h 77 fun x77 h t0 =>
 vtouch O (.load false 1 (.k x77)) h 78 fun x78 h t1 =>
 vtouch O (.mv (.k x7)) h 79 fun x79 h t2 =>
 vtouch O (.call (.k (.v (.c (.func 32 [])))) [(.k x79)]) h 80 fun x80 h t3 =>
 vtouch O (.bin .neq 0 (.k x78) (.k x80)) h 81 fun x81 h t4 =>
 bif apartAll [t0,t1,t2,t3,t4] [(1,3)] then
 vif x81 (
 vbin .add 0 x7 (kI 1) h fun x76 h =>
 R 2 [x0,x1,x4,x5,x76] h)
 (vcall O (.v (.c (.func 41 []))) [x0,(kS [60])] h 84 fun x84 h =>
 vcall O (.v (.c (.func 39 []))) [x0,x84] h 85 fun x85 h =>
 vbin .add 0 x1 (kI 1) h fun x88 h =>
 vcall O (.v (.c (.func 34 []))) [x0,x88] h 89 fun x89 h =>
 vop O (.alloc [(.p (.int .i64 0)),(.p (.str [])),(.p .nilslice),(.p .nilslice)] false) h 8 fun x8 h =>
 vstore 4 x8 x89 h fun _ h =>
 vcall O (.v (.c (.func 41 []))) [x0,(kS [62])] h 92 fun x92 h =>
 vcall O (.v (.c (.func 39 []))) [x0,x92] h 93 fun x93 h =>
 vload true 4 x8 h fun x95 h =>
 vop O (.bslice 4 1 [(.p (.int .i64 0)),(.p (.str [])),(.p .nilslice),(.p .nilslice)] [(0,(.k x95))] false) h 96 fun x96 h =>
 vop O (.build [(.p (.int .i64 0)),(.p (.str [])),(.p .nilslice),(.p .nilslice)] [(0,1,(.k x7)),(3,1,(.k x96))]) h 97 fun x97 h =>
 vstore 4 x4 x97 h fun _ h =>
 vcell true 4 x4 h fun c0=>vfin true q [c0] h)
 else none)
 (R 3 [x4,x5] h)
theorem e34_2(O:Oracle)(R:Jump)(q:Nat)(x0 x1 x4 x5 x7:TVal)(h:Heap):b34_2 O R q x0 x1 x4 x5 x7 h=stepF c34 O R q 2 [x0,x1,x4,x5,x7] h:=by kernel_rfl
def b34_3(O:Oracle)(R:Jump)(q:Nat)(x4 x5:TVal)(h:Heap):Res1 :=
 vfaddr 1 x5 h fun x98 h =>
 vload false 1 x98 h fun x99 h =>
 vop O (.build [(.p (.int .i64 0)),(.p (.str [])),(.p .nilslice),(.p .nilslice)] [(0,1,(.k (kI 9))),(1,1,(.k x99))]) h 100 fun x100 h =>
 vstore 4 x4 x100 h fun _ h =>
 vcell true 4 x4 h fun c0=>vfin true q [c0] h
theorem e34_3(O:Oracle)(R:Jump)(q:Nat)(x4 x5:TVal)(h:Heap):b34_3 O R q x4 x5 h=stepF c34 O R q 3 [x4,x5] h:=by kernel_rfl
def d34:BlkF:=fun O R Q=>[.s fun a => .s fun b => .z (b34_0 O R Q a b),.s fun a => .s fun b => .s fun c => .s fun d => .z (b34_1 O R Q a b c d),.s fun a => .s fun b => .s fun c => .s fun d => .s fun e => .z (b34_2 O R Q a b c d e),.s fun a => .s fun b => .z (b34_3 O R Q a b)]
theorem o34(O:Oracle)(R:Jump)(q:Nat):HoldsAll c34 O R q 0 (d34 O R q):=⟨e34_0 O R q,e34_1 O R q,e34_2 O R q,e34_3 O R q,trivial⟩
def c35:MFunc:=mkM (compF Tryd.prog (globs2 tabs opq) (fun _=>false) true Tryd.f35) .n
def b35_0(O:Oracle)(R:Jump)(q:Nat)(x0:TVal)(h:Heap):Res1 :=
 vop O (.nilck (.k x0)) h 5 fun x5 h =>
 vfaddr 1 x5 h fun x6 h =>
 vload false 1 x6 h fun x7 h =>
 vop O (.nilck (.k x0)) h 9 fun x9 h =>
 vfaddr 0 x9 h fun x10 h =>
 vload false 1 x10 h fun x11 h =>
 vlen O 2 x11 h 12 fun x12 h =>
 vbin .geq 0 x7 x12 h fun x13 h =>
 vcall O (.v (.c (.func 39 []))) [x0,x13] h 14 fun x14 h =>
 vop O (.nilck (.k x0)) h 17 fun x17 h =>
 vfaddr 2 x17 h fun x18 h =>
 vload false 1 x18 h fun x19 h =>
 vbin .neq 0 x19 (kI 0) h fun x20 h =>
 vif x20 (
 vop O (.nilck (.k x0)) h 22 fun x22 h =>
 vfaddr 2 x22 h fun x23 h =>
 vload false 1 x23 h fun x24 h =>
 tcomp x24 fun c0=>vfin true q [c0] h)
 (vop O (.nilck (.k x0)) h 27 fun x27 h =>
 vfaddr 3 x27 h fun x28 h =>
 vload false 1 x28 h fun x29 h =>
 vif x29 (
 tcomp (kI 6) fun c0=>vfin true q [c0] h)
 (tcomp (kI 0) fun c0=>vfin true q [c0] h))
theorem e35_0(O:Oracle)(R:Jump)(q:Nat)(x0:TVal)(h:Heap):b35_0 O R q x0 h=stepF c35 O R q 0 [x0] h:=by kernel_rfl
def d35:BlkF:=fun O R Q=>[.s fun a => .z (b35_0 O R Q a)]
theorem o35(O:Oracle)(R:Jump)(q:Nat):HoldsAll c35 O R q 0 (d35 O R q):=⟨e35_0 O R q,trivial⟩
def c39:MFunc:=mkM (compF Tryd.prog (globs2 tabs opq) (fun _=>false) true Tryd.f39) .n
def b39_0(O:Oracle)(R:Jump)(q:Nat)(x0 x1:TVal)(h:Heap):Res1 :=
 vop O (.un .not (.k x1)) h 5 fun x5 h =>
 vif x5 (
 vcall O (.v (.c (.func 56 []))) [x0,(kI 12)] h 7 fun x7 h =>
 vfin true q [] h)
 (vfin true q [] h)
theorem e39_0(O:Oracle)(R:Jump)(q:Nat)(x0 x1:TVal)(h:Heap):b39_0 O R q x0 x1 h=stepF c39 O R q 0 [x0,x1] h:=by kernel_rfl
def d39:BlkF:=fun O R Q=>[.s fun a => .s fun b => .z (b39_0 O R Q a b)]
theorem o39(O:Oracle)(R:Jump)(q:Nat):HoldsAll c39 O R q 0 (d39 O R q):=⟨e39_0 O R q,trivial⟩
def c41:MFunc:=mkM (compF Tryd.prog (globs2 tabs opq) (fun _=>false) true Tryd.f41) .n
def b41_0(O:Oracle)(R:Jump)(q:Nat)(x0 x1:TVal)(h:Heap):Res1 :=
 vcall O (.v (.c (.func 55 []))) [x0] h 7 fun x7 h =>
 vop O (.alloc [(.p (.int .i64 0)),(.p (.str [])),(.p (.int .i64 0)),(.p (.int .i64 0))] false) h 5 fun x5 h =>
 vstore 4 x5 x7 h fun _ h =>
 vfaddr 0 x5 h fun x8 h =>
 vload false 1 x8 h fun x9 h =>
 vbin .neq 0 x9 (kI 4) h fun x10 h =>
 vguard x10 false (fun kk=>vfaddr 1 x5 h kk) h fun x12 h =>
 vguard x10 false (fun kk=>vload false 1 x12 h kk) h fun x13 h =>
 vguard x10 false (fun kk=>kk x1 h) h fun x14 h =>
 vguard x10 false (fun kk=>vbin .neq 0 x13 x14 h kk) h fun x15 h =>
 vop O (.pick (.k x10) (.k (kB true)) (.k x15)) h 16 fun x16 h =>
 vif x16 (
 tcomp (kB false) fun c0=>vfin true q [c0] h)
 (vop O (.nilck (.k x0)) h 18 fun x18 h =>
 vfaddr 1 x18 h fun x19 h =>
 vload false 1 x19 h fun x20 h =>
 vbin .add 0 x20 (kI 1) h fun x21 h =>
 vop O (.nilck (.k x0)) h 22 fun x22 h =>
 vfaddr 1 x22 h fun x23 h =>
 vstore 1 x23 x21 h fun _ h =>
 tcomp (kB true) fun c0=>vfin true q [c0] h)
theorem e41_0(O:Oracle)(R:Jump)(q:Nat)(x0 x1:TVal)(h:Heap):b41_0 O R q x0 x1 h=stepF c41 O R q 0 [x0,x1] h:=by kernel_rfl
def d41:BlkF:=fun O R Q=>[.s fun a => .s fun b => .z (b41_0 O R Q a b)]
theorem o41(O:Oracle)(R:Jump)(q:Nat):HoldsAll c41 O R q 0 (d41 O R q):=⟨e41_0 O R q,trivial⟩
def c46:MFunc:=mkM (compF Tryd.prog (globs2 tabs opq) (fun _=>false) true Tryd.f46) .n
def b46_0(O:Oracle)(R:Jump)(q:Nat)(x0 x1:TVal)(h:Heap):Res1 :=
 vcall O (.v (.c (.func 69 []))) [x0] h 8 fun x8 h =>
 vcall O (.v (.c (.func 69 []))) [x1] h 10 fun x10 h =>
 vif x8 (
 vif x10 (
 tcomp (kI 0) fun c0=>vfin true q [c0] h)
 (tcomp (kI (-1)) fun c0=>vfin true q [c0] h))
 (vif x10 (
 tcomp (kI 1) fun c0=>vfin true q [c0] h)
 (vbin .lss 0 x0 x1 h fun x16 h =>
 vif x16 (
 tcomp (kI (-1)) fun c0=>vfin true q [c0] h)
 (vbin .gtr 0 x0 x1 h fun x19 h =>
 vif x19 (
 tcomp (kI 1) fun c0=>vfin true q [c0] h)
 (tcomp (kI 0) fun c0=>vfin true q [c0] h))))
theorem e46_0(O:Oracle)(R:Jump)(q:Nat)(x0 x1:TVal)(h:Heap):b46_0 O R q x0 x1 h=stepF c46 O R q 0 [x0,x1] h:=by kernel_rfl
def d46:BlkF:=fun O R Q=>[.s fun a => .s fun b => .z (b46_0 O R Q a b)]
theorem o46(O:Oracle)(R:Jump)(q:Nat):HoldsAll c46 O R q 0 (d46 O R q):=⟨e46_0 O R q,trivial⟩
def c53:MFunc:=mkM (compF Tryd.prog (globs2 tabs opq) (fun _=>false) true Tryd.f53) (.s .n (.s .n (.s .n (.s (.s .n (.s (.s .n (.m 1 [0,1,5] .n)) .n)) (.m 2 [0,1,5] (.s (.s .n (.k (.l 3 [0,1,5,39,40,41] (.s .n (.s .n (.s (.k (.s .n (.s .n (.m 4 [0,1,5,7,39,40,41] .n)))) .n)))))) (.m 5 [0,1,5] (.s .n (.s .n (.s .n (.s (.s .n (.k (.l 6 [1,8,63,64,65] .n))) (.m 7 [8] .n))))))))))))
def b53_0(O:Oracle)(R:Jump)(q:Nat)(x0 x1:TVal)(h:Heap):Res1 :=
 vlen O 2 x0 h 12 fun x12 h =>
 vbin .eql 0 x12 (kI 0) h fun x14 h =>
 vif x14 (
 tcomp (kS []) fun c0=>vfin true q [c0] h)
 (vbin .eql 0 x12 (kI 1) h fun x16 h =>
 vif x16 (
 viaddr 1 x0 (kI 0) h fun x18 h =>
 vload false 1 x18 h fun x19 h =>
 tcomp x19 fun c0=>vfin true q [c0] h)
 (vlen O 0 x1 h 21 fun x21 h =>
 vbin .gtr 0 x21 (kI 0) h fun x22 h =>
 vif x22 (
 vlen O 0 x1 h 24 fun x24 h =>
 vlen O 2 x0 h 26 fun x26 h =>
 vbin .sub 0 x26 (kI 1) h fun x27 h =>
 vbin .quo 0 (kI 9223372036854775807) x27 h fun x28 h =>
 vbin .geq 0 x24 x28 h fun x29 h =>
 vif x29 (
 none)
 (R 1 [x0,x1,(kI 0)] h))
 (R 2 [x0,x1,(kI 0)] h)))
theorem e53_0(O:Oracle)(R:Jump)(q:Nat)(x0 x1:TVal)(h:Heap):b53_0 O R q x0 x1 h=stepF c53 O R q 0 [x0,x1] h:=by kernel_rfl
def b53_1(O:Oracle)(R:Jump)(q:Nat)(x0 x1 x5:TVal)(h:Heap):Res1 :=
 vlen O 0 x1 h 33 fun x33 h =>
 vlen O 2 x0 h 35 fun x35 h =>
 vbin .sub 0 x35 (kI 1) h fun x36 h =>
 vbin .mul 0 x33 x36 h fun x37 h =>
 vbin .add 0 x5 x37 h fun x38 h =>
 R 2 [x0,x1,x38] h
theorem e53_1(O:Oracle)(R:Jump)(q:Nat)(x0 x1 x5:TVal)(h:Heap):b53_1 O R q x0 x1 x5 h=stepF c53 O R q 1 [x0,x1,x5] h:=by kernel_rfl
def b53_2(O:Oracle)(R:Jump)(q:Nat)(x0 x1 x5:TVal)(h:Heap):Res1 :=
 vlen O 2 x0 h 40 fun x40 h =>
 R 3 [x0,x1,x5,x0,x40,(kI 0)] h
theorem e53_2(O:Oracle)(R:Jump)(q:Nat)(x0 x1 x5:TVal)(h:Heap):b53_2 O R q x0 x1 x5 h=stepF c53 O R q 2 [x0,x1,x5] h:=by kernel_rfl
def b53_3(O:Oracle)(R:Jump)(q:Nat)(x0 x1 x5 x39 x40 x41:TVal)(h:Heap):Res1 :=
 vbin .lss 0 x41 x40 h fun x42 h =>
 vif x42 (
 viaddr 1 x39 x41 h fun x43 h =>
 vload false 1 x43 h fun x44 h =>
 vlen O 0 x44 h 46 fun x46 h =>
 vbin .sub 0 (kI 9223372036854775807) x5 h fun x48 h =>
 vbin .gtr 0 x46 x48 h fun x49 h =>
 vif x49 (
 none)
 (R 4 [x0,x1,x5,x44,x39,x40,x41] h))
 (R 5 [x0,x1,x5] h)
theorem e53_3(O:Oracle)(R:Jump)(q:Nat)(x0 x1 x5 x39 x40 x41:TVal)(h:Heap):b53_3 O R q x0 x1 x5 x39 x40 x41 h=stepF c53 O R q 3 [x0,x1,x5,x39,x40,x41] h:=by kernel_rfl
def b53_4(O:Oracle)(R:Jump)(q:Nat)(x0 x1 x5 x7 x39 x40 x41:TVal)(h:Heap):Res1 :=
 vlen O 0 x7 h 53 fun x53 h =>
 vbin .add 0 x5 x53 h fun x54 h =>
 vbin .add 0 x41 (kI 1) h fun x55 h =>
 R 3 [x0,x1,x54,x39,x40,x55] h
theorem e53_4(O:Oracle)(R:Jump)(q:Nat)(x0 x1 x5 x7 x39 x40 x41:TVal)(h:Heap):b53_4 O R q x0 x1 x5 x7 x39 x40 x41 h=stepF c53 O R q 4 [x0,x1,x5,x7,x39,x40,x41] h:=by kernel_rfl
def b53_5(O:Oracle)(R:Jump)(q:Nat)(x0 x1 x5:TVal)(h:Heap):Res1 :=
 vop O (.alloc [(.p .nilptr),(.p .nilslice)] false) h 8 fun x8 h =>
 vcall O (.v (.c (.func 81 []))) [x8,x5] h 57 fun x57 h =>
 viaddr 1 x0 (kI 0) h fun x59 h =>
 vload false 1 x59 h fun x60 h =>
 vcall O (.v (.c (.func 82 []))) [x8,x60] h 61 fun x61 h =>
 vop O (.slice 1 false (.k x0) (some (.k (kI 1))) none none) h 63 fun x63 h =>
 vlen O 2 x63 h 64 fun x64 h =>
 R 6 [x1,x8,x63,x64,(kI 0)] h
theorem e53_5(O:Oracle)(R:Jump)(q:Nat)(x0 x1 x5:TVal)(h:Heap):b53_5 O R q x0 x1 x5 h=stepF c53 O R q 5 [x0,x1,x5] h:=by kernel_rfl
def b53_6(O:Oracle)(R:Jump)(q:Nat)(x1 x8 x63 x64 x65:TVal)(h:Heap):Res1 :=
 vbin .lss 0 x65 x64 h fun x66 h =>
 vif x66 (
 viaddr 1 x63 x65 h fun x67 h =>
 vload false 1 x67 h fun x68 h =>
 vcall O (.v (.c (.func 82 []))) [x8,x1] h 70 fun x70 h =>
 vcall O (.v (.c (.func 82 []))) [x8,x68] h 72 fun x72 h =>
 vbin .add 0 x65 (kI 1) h fun x73 h =>
 R 6 [x1,x8,x63,x64,x73] h)
 (R 7 [x8] h)
theorem e53_6(O:Oracle)(R:Jump)(q:Nat)(x1 x8 x63 x64 x65:TVal)(h:Heap):b53_6 O R q x1 x8 x63 x64 x65 h=stepF c53 O R q 6 [x1,x8,x63,x64,x65] h:=by kernel_rfl
def b53_7(O:Oracle)(R:Jump)(q:Nat)(x8:TVal)(h:Heap):Res1 :=
 vcall O (.v (.c (.func 83 []))) [x8] h 74 fun x74 h =>
 tcomp x74 fun c0=>vfin true q [c0] h
theorem e53_7(O:Oracle)(R:Jump)(q:Nat)(x8:TVal)(h:Heap):b53_7 O R q x8 h=stepF c53 O R q 7 [x8] h:=by kernel_rfl
def d53:BlkF:=fun O R Q=>[.s fun a => .s fun b => .z (b53_0 O R Q a b),.s fun a => .s fun b => .s fun c => .z (b53_1 O R Q a b c),.s fun a => .s fun b => .s fun c => .z (b53_2 O R Q a b c),.s fun a => .s fun b => .s fun c => .s fun d => .s fun e => .s fun f => .z (b53_3 O R Q a b c d e f),.s fun a => .s fun b => .s fun c => .s fun d => .s fun e => .s fun f => .s fun g => .z (b53_4 O R Q a b c d e f g),.s fun a => .s fun b => .s fun c => .z (b53_5 O R Q a b c),.s fun a => .s fun b => .s fun c => .s fun d => .s fun e => .z (b53_6 O R Q a b c d e),.s fun a => .z (b53_7 O R Q a)]
theorem o53(O:Oracle)(R:Jump)(q:Nat):HoldsAll c53 O R q 0 (d53 O R q):=⟨e53_0 O R q,e53_1 O R q,e53_2 O R q,e53_3 O R q,e53_4 O R q,e53_5 O R q,e53_6 O R q,e53_7 O R q,trivial⟩
def c54:MFunc:=mkM (compF Tryd.prog (globs2 tabs opq) (fun _=>false) true Tryd.f54) (.s .n (.s .n (.s .n (.s (.s .n (.k (.l 1 [0,4,5] (.k (.s (.k (.l 2 [0,4,5] .n)) (.m 3 [0,4,5] .n)))))) (.m 4 [4] .n)))))
def b54_0(O:Oracle)(R:Jump)(q:Nat)(x0:TVal)(h:Heap):Res1 :=
 vlen O 0 x0 h 10 fun x10 h =>
 vbin .gtr 0 x10 (kI 1500) h fun x11 h =>
 vif x11 (
 tcomp (.v (.c (.p .nilslice))) fun c0=>tcomp (kI 4) fun c1=>vfin true q [c0,c1] h)
 (R 1 [x0,(.v (.c (.p .nilslice))),(kI 0)] h)
theorem e54_0(O:Oracle)(R:Jump)(q:Nat)(x0:TVal)(h:Heap):b54_0 O R q x0 h=stepF c54 O R q 0 [x0] h:=by kernel_rfl
def b54_1(O:Oracle)(R:Jump)(q:Nat)(x0 x4 x5:TVal)(h:Heap):Res1 :=
 R 2 [x0,x4,x5] h
theorem e54_1(O:Oracle)(R:Jump)(q:Nat)(x0 x4 x5:TVal)(h:Heap):b54_1 O R q x0 x4 x5 h=stepF c54 O R q 1 [x0,x4,x5] h:=by kernel_rfl
def b54_2(O:Oracle)(R:Jump)(q:Nat)(x0 x4 x5:TVal)(h:Heap):Res1 :=
 vlen O 0 x0 h 14 fun x14 h =>
 vbin .lss 0 x5 x14 h fun x15 h =>
 vguard x15 true (fun kk=>kk x0 h) h fun x17 h =>
 vguard x15 true (fun kk=>kk x5 h) h fun x18 h =>
 vguard x15 true (fun kk=>kk x5 h) h fun x19 h =>
 vguard x15 true (fun kk=>vbin .add 0 x19 (kI 1) h kk) h fun x20 h =>
 vguard x15 true (fun kk=>vop O (.slice 0 true (.k x17) (some (.k x18)) (some (.k x20)) none) h 21 kk) h fun x21 h =>
 vguard x15 true (fun kk=>vcall O (.v (.c (.func 84 []))) [(kS [32,9,10,13]),x21] h 22 kk) h fun x22 h =>
 vop O (.pick (.k x15) (.k x22) (.k (kB false))) h 23 fun x23 h =>
 vif x23 (
 vbin .add 0 x5 (kI 1) h fun x25 h =>
 R 2 [x0,x4,x25] h)
 (R 3 [x0,x4,x5] h)
theorem e54_2(O:Oracle)(R:Jump)(q:Nat)(x0 x4 x5:TVal)(h:Heap):b54_2 O R q x0 x4 x5 h=stepF c54 O R q 2 [x0,x4,x5] h:=by kernel_rfl
def b54_3(O:Oracle)(R:Jump)(q:Nat)(x0 x4 x5:TVal)(h:Heap):Res1 :=
 vlen O 0 x0 h 28 fun x28 h =>
 vbin .eql 0 x5 x28 h fun x29 h =>
 vif x29 (
 R 4 [x4] h)
 (vop O (.slice 0 true (.k x0) (some (.k x5)) none none) h 33 fun x33 h =>
 vcall O (.v (.c (.func 85 []))) [x33] h 34 fun x34 h =>
 vext x34 0 h fun x35 h =>
 vext x34 1 h fun x36 h =>
 vext x34 2 h fun x37 h =>
 vop O (.alloc [(.p (.int .i64 0)),(.p (.str [])),(.p (.int .i64 0)),(.p (.int .i64 0))] false) h 6 fun x6 h =>
 vstore 4 x6 x35 h fun _ h =>
 vbin .neq 0 x37 (kI 0) h fun x39 h =>
 vif x39 (
 tcomp (.v (.c (.p .nilslice))) fun c0=>tcomp x37 fun c1=>vfin true q [c0,c1] h)
 (vfaddr 3 x6 h fun x42 h =>
 vstore 1 x42 x5 h fun _ h =>
 vload true 4 x6 h fun x44 h =>
 vop O (.bslice 4 1 [(.p (.int .i64 0)),(.p (.str [])),(.p (.int .i64 0)),(.p (.int .i64 0))] [(0,(.k x44))] false) h 45 fun x45 h =>
 vop O (.append 4 40 false (.k x4) (.k x45)) h 46 fun x46 h =>
 vbin .add 0 x5 x36 h fun x49 h =>
 R 1 [x0,x46,x49] h))
theorem e54_3(O:Oracle)(R:Jump)(q:Nat)(x0 x4 x5:TVal)(h:Heap):b54_3 O R q x0 x4 x5 h=stepF c54 O R q 3 [x0,x4,x5] h:=by kernel_rfl
def b54_4(O:Oracle)(R:Jump)(q:Nat)(x4:TVal)(h:Heap):Res1 :=
 vlen O 2 x4 h 51 fun x51 h =>
 vbin .gtr 0 x51 (kI 400) h fun x52 h =>
 vif x52 (
 tcomp (.v (.c (.p .nilslice))) fun c0=>tcomp (kI 3) fun c1=>vfin true q [c0,c1] h)
 (tcomp x4 fun c0=>tcomp (kI 0) fun c1=>vfin true q [c0,c1] h)
theorem e54_4(O:Oracle)(R:Jump)(q:Nat)(x4:TVal)(h:Heap):b54_4 O R q x4 h=stepF c54 O R q 4 [x4] h:=by kernel_rfl
def d54:BlkF:=fun O R Q=>[.s fun a => .z (b54_0 O R Q a),.s fun a => .s fun b => .s fun c => .z (b54_1 O R Q a b c),.s fun a => .s fun b => .s fun c => .z (b54_2 O R Q a b c),.s fun a => .s fun b => .s fun c => .z (b54_3 O R Q a b c),.s fun a => .z (b54_4 O R Q a)]
theorem o54(O:Oracle)(R:Jump)(q:Nat):HoldsAll c54 O R q 0 (d54 O R q):=⟨e54_0 O R q,e54_1 O R q,e54_2 O R q,e54_3 O R q,e54_4 O R q,trivial⟩
def c55:MFunc:=mkM (compF Tryd.prog (globs2 tabs opq) (fun _=>false) true Tryd.f55) .n
def b55_0(O:Oracle)(R:Jump)(q:Nat)(x0:TVal)(h:Heap):Res1 :=
 vop O (.alloc [(.p (.int .i64 0)),(.p (.str [])),(.p (.int .i64 0)),(.p (.int .i64 0))] false) h 2 fun x2 h =>
 vop O (.nilck (.k x0)) h 4 fun x4 h =>
 vfaddr 2 x4 h fun x5 h =>
 vload false 1 x5 h fun x6 h =>
 vbin .neq 0 x6 (kI 0) h fun x7 h =>
 vguard x7 false (fun kk=>kk x0 h) h fun x9 h =>
 vguard x7 false (fun kk=>vop O (.nilck (.k x9)) h 10 kk) h fun x10 h =>
 vguard x7 false (fun kk=>vfaddr 1 x10 h kk) h fun x11 h =>
 vguard x7 false (fun kk=>vload false 1 x11 h kk) h fun x12 h =>
 vguard x7 false (fun kk=>kk x0 h) h fun x13 h =>
 vguard x7 false (fun kk=>vop O (.nilck (.k x13)) h 14 kk) h fun x14 h =>
 vguard x7 false (fun kk=>vfaddr 0 x14 h kk) h fun x15 h =>
 vguard x7 false (fun kk=>vload false 1 x15 h kk) h fun x16 h =>
 vguard x7 false (fun kk=>vlen O 2 x16 h 17 kk) h fun x17 h =>
 vguard x7 false (fun kk=>vbin .geq 0 x12 x17 h kk) h fun x18 h =>
 vop O (.pick (.k x7) (.k (kB true)) (.k x18)) h 19 fun x19 h =>
 vif x19 (
 vop O (.build [(.p (.int .i64 0)),(.p (.str [])),(.p (.int .i64 0)),(.p (.int .i64 0))] []) h 20 fun x20 h =>
 vstore 4 x2 x20 h fun _ h =>
 vcell true 4 x2 h fun c0=>vfin true q [c0] h)
 (vop O (.nilck (.k x0)) h 22 fun x22 h =>
 vfaddr 0 x22 h fun x23 h =>
 vload false 1 x23 h fun x24 h =>
 vop O (.nilck (.k x0)) h 26 fun x26 h =>
 vfaddr 1 x26 h fun x27 h =>
 vload false 1 x27 h fun x28 h =>
 viaddr 4 x24 x28 h fun x29 h =>
 vload true 4 x29 h fun x30 h =>
 vstore 4 x2 x30 h fun _ h =>
 vcell true 4 x2 h fun c0=>vfin true q [c0] h)
theorem e55_0(O:Oracle)(R:Jump)(q:Nat)(x0:TVal)(h:Heap):b55_0 O R q x0 h=stepF c55 O R q 0 [x0] h:=by kernel_rfl
def d55:BlkF:=fun O R Q=>[.s fun a => .z (b55_0 O R Q a)]
theorem o55(O:Oracle)(R:Jump)(q:Nat):HoldsAll c55 O R q 0 (d55 O R q):=⟨e55_0 O R q,trivial⟩
def c56:MFunc:=mkM (compF Tryd.prog (globs2 tabs opq) (fun _=>false) true Tryd.f56) .n
def b56_0(O:Oracle)(R:Jump)(q:Nat)(x0 x1:TVal)(h:Heap):Res1 :=
 vop O (.nilck (.k x0)) h 5 fun x5 h =>
 vfaddr 2 x5 h fun x6 h =>
 vload false 1 x6 h fun x7 h =>
 vbin .eql 0 x7 (kI 0) h fun x8 h =>
 vif x8 (
 vop O (.nilck (.k x0)) h 11 fun x11 h =>
 vfaddr 2 x11 h fun x12 h =>
 vstore 1 x12 x1 h fun _ h =>
 vfin true q [] h)
 (vfin true q [] h)
theorem e56_0(O:Oracle)(R:Jump)(q:Nat)(x0 x1:TVal)(h:Heap):b56_0 O R q x0 x1 h=stepF c56 O R q 0 [x0,x1] h:=by kernel_rfl
def d56:BlkF:=fun O R Q=>[.s fun a => .s fun b => .z (b56_0 O R Q a b)]
theorem o56(O:Oracle)(R:Jump)(q:Nat):HoldsAll c56 O R q 0 (d56 O R q):=⟨e56_0 O R q,trivial⟩
def c57:MFunc:=mkM (compF Tryd.prog (globs2 tabs opq) (fun _=>false) true Tryd.f57) (.s .n (.s .n (.s .n (.s .n (.s .n (.s .n (.s (.s .n (.k (.l 1 [3,6,7,8,22,23,24] .n))) (.m 2 [6,8] .n))))))))
def b57_0(O:Oracle)(R:Jump)(q:Nat)(x0 x1 x2:TVal)(h:Heap):Res1 :=
 vop O (.box (.k x0) false) h 3 fun x3 h =>
 vop O (.box (.k x2) false) h 5 fun x5 h =>
 vop O (.alloc [(.p (.int .i64 0)),(.p (.str [])),(.p .nilslice),(.p .nilslice)] false) h 6 fun x6 h =>
 vop O (.alloc [(.p .nilslice)] false) h 7 fun x7 h =>
 vtouch O (.load false 1 (.k x3)) h 11 fun x11 h t0 =>
 vtouch O (.load false 1 (.k x3)) h 12 fun x12 h t1 =>
 vtouch O (.call (.k (.v (.c (.func 41 [])))) [(.k x12),(.k (kS [123]))]) h 13 fun x13 h t2 =>
 vtouch O (.call (.k (.v (.c (.func 39 [])))) [(.k x11),(.k x13)]) h 14 fun x14 h t3 =>
 bif apartAll [t0,t1,t2,t3] [(0,2)] then
 vload false 1 x3 h fun x15 h =>
 vop O (.mkfn 86 [(.k x3),(.k x5),(.k x7)]) h 16 fun x16 h =>
 vcall O (.v (.c (.func 66 []))) [x15,(kS [125]),x16] h 17 fun x17 h =>
 vload false 1 x7 h fun x18 h =>
 vcall O (.v (.c (.func 87 []))) [x18,(.v (.c (.func 88 [])))] h 19 fun x19 h =>
 vop O (.build [(.p (.int .i64 0)),(.p (.str [])),(.p .nilslice),(.p .nilslice)] [(0,1,(.k x1))]) h 21 fun x21 h =>
 vop O (.alloc [(.p (.int .i64 0)),(.p (.str [])),(.p .nilslice),(.p .nilslice)] false) h 8 fun x8 h =>
 vstore 4 x8 x21 h fun _ h =>
 vload false 1 x7 h fun x22 h =>
 vlen O 2 x22 h 23 fun x23 h =>
 R 1 [x3,x6,x7,x8,x22,x23,(kI 0)] h
 else none
theorem e57_0(O:Oracle)(R:Jump)(q:Nat)(x0 x1 x2:TVal)(h:Heap):b57_0 O R q x0 x1 x2 h=stepF c57 O R q 0 [x0,x1,x2] h:=by kernel_rfl
def b57_1(O:Oracle)(R:Jump)(q:Nat)(x3 x6 x7 x8 x22 x23 x24:TVal)(h:Heap):Res1 :=
 vbin .lss 0 x24 x23 h fun x25 h =>
 vif x25 (
 viaddr 5 x22 x24 h fun x27 h =>
 vload true 5 x27 h fun x28 h =>
 vop O (.alloc [(.p (.str [])),(.p (.int .i64 0)),(.p (.str [])),(.p .nilslice),(.p .nilslice)] false) h 10 fun x10 h =>
 vstore 5 x10 x28 h fun _ h =>
 vload false 1 x3 h fun x29 h =>
 vload false 1 x3 h fun x30 h =>
 vop O (.nilck (.k x30)) h 31 fun x31 h =>
 vfaddr 3 x31 h fun x32 h =>
 vload false 1 x32 h fun x33 h =>
 vguard x33 false (fun kk=>kk x24 h) h fun x35 h =>
 vguard x33 false (fun kk=>vbin .gtr 0 x35 (kI 0) h kk) h fun x36 h =>
 vguard x33 false (fun kk=>kk x36 h) h fun x37 h =>
 vguard x37 true (fun kk=>vload false 1 x7 h kk) h fun x38 h =>
 vguard x37 true (fun kk=>kk x24 h) h fun x39 h =>
 vguard x37 true (fun kk=>vbin .sub 0 x39 (kI 1) h kk) h fun x40 h =>
 vguard x37 true (fun kk=>viaddr 5 x38 x40 h kk) h fun x41 h =>
 vguard x37 true (fun kk=>vfaddr 0 x41 h kk) h fun x42 h =>
 vguard x37 true (fun kk=>vload false 1 x42 h kk) h fun x43 h =>
 vguard x37 true (fun kk=>vfaddr 0 x10 h kk) h fun x44 h =>
 vguard x37 true (fun kk=>vload false 1 x44 h kk) h fun x45 h =>
 vguard x37 true (fun kk=>vbin .eql 0 x43 x45 h kk) h fun x46 h =>
 vguard x33 false (fun kk=>vop O (.pick (.k x37) (.k x46) (.k (kB false))) h 47 kk) h fun x47 h =>
 vop O (.pick (.k x33) (.k (kB true)) (.k x47)) h 48 fun x48 h =>
 vop O (.nilck (.k x29)) h 49 fun x49 h =>
 vfaddr 3 x49 h fun x50 h =>
 vstore 1 x50 x48 h fun _ h =>
 vtouch O (.faddr 2 (.k x8)) h 51 fun x51 h t0 =>
 vtouch O (.load false 1 (.k x51)) h 52 fun x52 h t1 =>
 vtouch O (.faddr 0 (.k x10)) h 53 fun x53 h t2 =>
 vtouch O (.load false 1 (.k x53)) h 54 fun x54 h t3 =>
 vtouch O (.bslice 1 1 [(.p (.str []))] [(0,(.k x54))] false) h 55 fun x55 h t4 =>
 vtouch O (.append 1 16 false (.k x52) (.k x55)) h 56 fun x56 h t5 =>
 vtouch O (.faddr 3 (.k x8)) h 57 fun x57 h t6 =>
 vtouch O (.load false 1 (.k x57)) h 58 fun x58 h t7 =>
 vtouch O (.faddr 1 (.k x10)) h 59 fun x59 h t8 =>
 vtouch O (.load true 4 (.k x59)) h 60 fun x60 h t9 =>
 vtouch O (.bslice 4 1 [(.p (.int .i64 0)),(.p (.str [])),(.p .nilslice),(.p .nilslice)] [(0,(.k x60))] false) h 61 fun x61 h t10 =>
 vtouch O (.append 4 72 false (.k x58) (.k x61)) h 62 fun x62 h t11 =>
 vtouch O (.faddr 2 (.k x8)) h 63 fun x63 h t12 =>
 vtouch O (.store 1 (.k x63) (.k x56)) h 1000000 fun _ h t13 =>
 vtouch O (.faddr 3 (.k x8)) h 64 fun x64 h t14 =>
 vtouch O (.store 1 (.k x64) (.k x62)) h 1000000 fun _ h t15 =>
 bif apartAll [t0,t1,t2,t3,t4,t5,t6,t7,t8,t9,t10,t11,t12,t13,t14,t15] [(1,4),(4,7),(5,7),(4,9),(5,9),(1,10),(3,10),(4,10),(5,10),(7,10)] then
 vbin .add 0 x24 (kI 1) h fun x65 h =>
 R 1 [x3,x6,x7,x8,x22,x23,x65] h
 else none)
 (R 2 [x6,x8] h)
theorem e57_1(O:Oracle)(R:Jump)(q:Nat)(x3 x6 x7 x8 x22 x23 x24:TVal)(h:Heap):b57_1 O R q x3 x6 x7 x8 x22 x23 x24 h=stepF c57 O R q 1 [x3,x6,x7,x8,x22,x23,x24] h:=by kernel_rfl
def b57_2(O:Oracle)(R:Jump)(q:Nat)(x6 x8:TVal)(h:Heap):Res1 :=
 vload true 4 x8 h fun x66 h =>
 vstore 4 x6 x66 h fun _ h =>
 vcell true 4 x6 h fun c0=>vfin true q [c0] h
theorem e57_2(O:Oracle)(R:Jump)(q:Nat)(x6 x8:TVal)(h:Heap):b57_2 O R q x6 x8 h=stepF c57 O R q 2 [x6,x8] h:=by kernel_rfl
def d57:BlkF:=fun O R Q=>[.s fun a => .s fun b => .s fun c => .z (b57_0 O R Q a b c),.s fun a => .s fun b => .s fun c => .s fun d => .s fun e => .s fun f => .s fun g => .z (b57_1 O R Q a b c d e f g),.s fun a => .s fun b => .z (b57_2 O R Q a b)]
theorem o57(O:Oracle)(R:Jump)(q:Nat):HoldsAll c57 O R q 0 (d57 O R q):=⟨e57_0 O R q,e57_1 O R q,e57_2 O R q,trivial⟩
def c65:MFunc:=mkM (compF Tryd.prog (globs2 tabs opq) (fun _=>false) true Tryd.f65) .n
def b65_0(O:Oracle)(R:Jump)(q:Nat)(x0:TVal)(h:Heap):Res1 :=
 vcall O (.v (.c (.func 55 []))) [x0] h 5 fun x5 h =>
 vop O (.alloc [(.p (.int .i64 0)),(.p (.str [])),(.p (.int .i64 0)),(.p (.int .i64 0))] false) h 3 fun x3 h =>
 vstore 4 x3 x5 h fun _ h =>
 vfaddr 0 x3 h fun x7 h =>
 vload false 1 x7 h fun x8 h =>
 vbin .eql 0 x8 (kI 1) h fun x9 h =>
 vcall O (.v (.c (.func 39 []))) [x0,x9] h 10 fun x10 h =>
 vop O (.nilck (.k x0)) h 12 fun x12 h =>
 vfaddr 1 x12 h fun x13 h =>
 vload false 1 x13 h fun x14 h =>
 vbin .add 0 x14 (kI 1) h fun x15 h =>
 vop O (.nilck (.k x0)) h 16 fun x16 h =>
 vfaddr 1 x16 h fun x17 h =>
 vstore 1 x17 x15 h fun _ h =>
 vfaddr 1 x3 h fun x18 h =>
 vload false 1 x18 h fun x19 h =>
 tcomp x19 fun c0=>vfin true q [c0] h
theorem e65_0(O:Oracle)(R:Jump)(q:Nat)(x0:TVal)(h:Heap):b65_0 O R q x0 h=stepF c65 O R q 0 [x0] h:=by kernel_rfl
def d65:BlkF:=fun O R Q=>[.s fun a => .z (b65_0 O R Q a)]
theorem o65(O:Oracle)(R:Jump)(q:Nat):HoldsAll c65 O R q 0 (d65 O R q):=⟨e65_0 O R q,trivial⟩
def c66:MFunc:=mkM (compF Tryd.prog (globs2 tabs opq) (fun _=>false) true Tryd.f66) (.s .n (.s .n (.s (.k (.l 1 [0,1,2] .n)) (.m 2 [0,1] .n))))
def b66_0(O:Oracle)(R:Jump)(q:Nat)(x0 x1 x2:TVal)(h:Heap):Res1 :=
 vcall O (.v (.c (.func 41 []))) [x0,x1] h 8 fun x8 h =>
 vif x8 (
 vfin true q [] h)
 (vcall O x2 [] h 10 fun x10 h =>
 R 1 [x0,x1,x2] h)
theorem e66_0(O:Oracle)(R:Jump)(q:Nat)(x0 x1 x2:TVal)(h:Heap):b66_0 O R q x0 x1 x2 h=stepF c66 O R q 0 [x0,x1,x2] h:=by kernel_rfl
def b66_1(O:Oracle)(R:Jump)(q:Nat)(x0 x1 x2:TVal)(h:Heap):Res1 :=
 vcall O (.v (.c (.func 41 []))) [x0,(kS [44])] h 12 fun x12 h =>
 vif x12 (
 vcall O x2 [] h 14 fun x14 h =>
 R 1 [x0,x1,x2] h)
 (R 2 [x0,x1] h)
theorem e66_1(O:Oracle)(R:Jump)(q:Nat)(x0 x1 x2:TVal)(h:Heap):b66_1 O R q x0 x1 x2 h=stepF c66 O R q 1 [x0,x1,x2] h:=by kernel_rfl
def b66_2(O:Oracle)(R:Jump)(q:Nat)(x0 x1:TVal)(h:Heap):Res1 :=
 vcall O (.v (.c (.func 41 []))) [x0,x1] h 18 fun x18 h =>
 vcall O (.v (.c (.func 39 []))) [x0,x18] h 19 fun x19 h =>
 vfin true q [] h
theorem e66_2(O:Oracle)(R:Jump)(q:Nat)(x0 x1:TVal)(h:Heap):b66_2 O R q x0 x1 h=stepF c66 O R q 2 [x0,x1] h:=by kernel_rfl
def d66:BlkF:=fun O R Q=>[.s fun a => .s fun b => .s fun c => .z (b66_0 O R Q a b c),.s fun a => .s fun b => .s fun c => .z (b66_1 O R Q a b c),.s fun a => .s fun b => .z (b66_2 O R Q a b)]
theorem o66(O:Oracle)(R:Jump)(q:Nat):HoldsAll c66 O R q 0 (d66 O R q):=⟨e66_0 O R q,e66_1 O R q,e66_2 O R q,trivial⟩
def c69:MFunc:=mkM (compF Tryd.prog (globs2 tabs opq) (fun _=>false) true Tryd.f69) .n
def b69_0(O:Oracle)(R:Jump)(q:Nat)(x0:TVal)(h:Heap):Res1 :=
 vbin .neq 0 x0 x0 h fun x5 h =>
 tcomp x5 fun c0=>vfin true q [c0] h
theorem e69_0(O:Oracle)(R:Jump)(q:Nat)(x0:TVal)(h:Heap):b69_0 O R q x0 h=stepF c69 O R q 0 [x0] h:=by kernel_rfl
def d69:BlkF:=fun O R Q=>[.s fun a => .z (b69_0 O R Q a)]
theorem o69(O:Oracle)(R:Jump)(q:Nat):HoldsAll c69 O R q 0 (d69 O R q):=⟨e69_0 O R q,trivial⟩
def c71:MFunc:=mkM (compF Tryd.prog (globs2 tabs opq) (fun _=>false) true Tryd.f71) .n
def b71_0(O:Oracle)(R:Jump)(q:Nat)(x0 x1:TVal)(h:Heap):Res1 :=
 vcall O (.v (.c (.func 98 []))) [x0,x1] h 7 fun x7 h =>
 tcomp x7 fun c0=>vfin true q [c0] h
theorem e71_0(O:Oracle)(R:Jump)(q:Nat)(x0 x1:TVal)(h:Heap):b71_0 O R q x0 x1 h=stepF c71 O R q 0 [x0,x1] h:=by kernel_rfl
def d71:BlkF:=fun O R Q=>[.s fun a => .s fun b => .z (b71_0 O R Q a b)]
theorem o71(O:Oracle)(R:Jump)(q:Nat):HoldsAll c71 O R q 0 (d71 O R q):=⟨e71_0 O R q,trivial⟩
def c81:MFunc:=mkM (compF Tryd.prog (globs2 tabs opq) (fun _=>false) true Tryd.f81) (.s .n (.s .n (.m 1 [0,1] .n)))
def b81_0(O:Oracle)(R:Jump)(q:Nat)(x0 x1:TVal)(h:Heap):Res1 :=
 vcall O (.v (.c (.func 116 []))) [x0] h 5 fun x5 h =>
 vbin .lss 0 x1 (kI 0) h fun x7 h =>
 vif x7 (
 none)
 (R 1 [x0,x1] h)
theorem e81_0(O:Oracle)(R:Jump)(q:Nat)(x0 x1:TVal)(h:Heap):b81_0 O R q x0 x1 h=stepF c81 O R q 0 [x0,x1] h:=by kernel_rfl
def b81_1(O:Oracle)(R:Jump)(q:Nat)(x0 x1:TVal)(h:Heap):Res1 :=
 vop O (.nilck (.k x0)) h 10 fun x10 h =>
 vfaddr 1 x10 h fun x11 h =>
 vload false 1 x11 h fun x12 h =>
 vop O (.cap (.k x12)) h 13 fun x13 h =>
 vop O (.nilck (.k x0)) h 15 fun x15 h =>
 vfaddr 1 x15 h fun x16 h =>
 vload false 1 x16 h fun x17 h =>
 vlen O 2 x17 h 18 fun x18 h =>
 vbin .sub 0 x13 x18 h fun x19 h =>
 vbin .lss 0 x19 x1 h fun x21 h =>
 vif x21 (
 vcall O (.v (.c (.func 117 []))) [x0,x1] h 24 fun x24 h =>
 vfin true q [] h)
 (vfin true q [] h)
theorem e81_1(O:Oracle)(R:Jump)(q:Nat)(x0 x1:TVal)(h:Heap):b81_1 O R q x0 x1 h=stepF c81 O R q 1 [x0,x1] h:=by kernel_rfl
def d81:BlkF:=fun O R Q=>[.s fun a => .s fun b => .z (b81_0 O R Q a b),.s fun a => .s fun b => .z (b81_1 O R Q a b)]
theorem o81(O:Oracle)(R:Jump)(q:Nat):HoldsAll c81 O R q 0 (d81 O R q):=⟨e81_0 O R q,e81_1 O R q,trivial⟩
def c82:MFunc:=mkM (compF Tryd.prog (globs2 tabs opq) (fun _=>false) true Tryd.f82) .n
def b82_0(O:Oracle)(R:Jump)(q:Nat)(x0 x1:TVal)(h:Heap):Res1 :=
 vcall O (.v (.c (.func 116 []))) [x0] h 7 fun x7 h =>
 vop O (.nilck (.k x0)) h 10 fun x10 h =>
 vfaddr 1 x10 h fun x11 h =>
 vload false 1 x11 h fun x12 h =>
 vop O (.append 1 1 false (.k x12) (.k x1)) h 14 fun x14 h =>
 vop O (.nilck (.k x0)) h 15 fun x15 h =>
 vfaddr 1 x15 h fun x16 h =>
 vstore 1 x16 x14 h fun _ h =>
 vlen O 0 x1 h 18 fun x18 h =>
 tcomp x18 fun c0=>tcomp (.v (.c (.p .niliface))) fun c1=>vfin true q [c0,c1] h
theorem e82_0(O:Oracle)(R:Jump)(q:Nat)(x0 x1:TVal)(h:Heap):b82_0 O R q x0 x1 h=stepF c82 O R q 0 [x0,x1] h:=by kernel_rfl
def d82:BlkF:=fun O R Q=>[.s fun a => .s fun b => .z (b82_0 O R Q a b)]
theorem o82(O:Oracle)(R:Jump)(q:Nat):HoldsAll c82 O R q 0 (d82 O R q):=⟨e82_0 O R q,trivial⟩
def c83:MFunc:=mkM (compF Tryd.prog (globs2 tabs opq) (fun _=>false) true Tryd.f83) .n
def b83_0(O:Oracle)(R:Jump)(q:Nat)(x0:TVal)(h:Heap):Res1 :=
 vop O (.nilck (.k x0)) h 4 fun x4 h =>
 vfaddr 1 x4 h fun x5 h =>
 vload false 1 x5 h fun x6 h =>
 none
theorem e83_0(O:Oracle)(R:Jump)(q:Nat)(x0:TVal)(h:Heap):b83_0 O R q x0 h=stepF c83 O R q 0 [x0] h:=by kernel_rfl
def d83:BlkF:=fun O R Q=>[.s fun a => .z (b83_0 O R Q a)]
theorem o83(O:Oracle)(R:Jump)(q:Nat):HoldsAll c83 O R q 0 (d83 O R q):=⟨e83_0 O R q,trivial⟩
def c84:MFunc:=mkM (compF Tryd.prog (globs2 tabs opq) (fun _=>false) true Tryd.f84) .n
def b84_0(O:Oracle)(R:Jump)(q:Nat)(x0 x1:TVal)(h:Heap):Res1 :=
 vcall O (.v (.c (.func 71 []))) [x0,x1] h 7 fun x7 h =>
 vbin .geq 0 x7 (kI 0) h fun x8 h =>
 tcomp x8 fun c0=>vfin true q [c0] h
theorem e84_0(O:Oracle)(R:Jump)(q:Nat)(x0 x1:TVal)(h:Heap):b84_0 O R q x0 x1 h=stepF c84 O R q 0 [x0,x1] h:=by kernel_rfl
def d84:BlkF:=fun O R Q=>[.s fun a => .s fun b => .z (b84_0 O R Q a b)]
theorem o84(O:Oracle)(R:Jump)(q:Nat):HoldsAll c84 O R q 0 (d84 O R q):=⟨e84_0 O R q,trivial⟩
def c85:MFunc:=mkM (compF Tryd.prog (globs2 tabs opq) (fun _=>false) true Tryd.f85) (.s .n (.s (.s .n (.k (.s .n (.s .n (.s .n (.m 1 [0,2,5,16] .n)))))) .n))
def b85_0(O:Oracle)(R:Jump)(q:Nat)(x0:TVal)(h:Heap):Res1 :=
 vop O (.alloc [(.p (.int .i64 0)),(.p (.str [])),(.p (.int .i64 0)),(.p (.int .i64 0))] false) h 2 fun x2 h =>
 vindex x0 (kI 0) h fun x7 h =>
 vcall O (.v (.c (.func 118 []))) [x7] h 10 fun x10 h =>
 vif x10 (
 vcall O (.v (.c (.func 119 []))) [x0] h 12 fun x12 h =>
 vext x12 0 h fun x13 h =>
 vext x12 1 h fun x14 h =>
 vext x12 2 h fun x15 h =>
 vstore 4 x2 x13 h fun _ h =>
 vcell true 4 x2 h fun c0=>tcomp x14 fun c1=>tcomp x15 fun c2=>vfin true q [c0,c1,c2] h)
 (vcall O (.v (.c (.func 107 []))) [x7] h 18 fun x18 h =>
 vif x18 (
 R 1 [x0,x2,x7,x18] h)
 (vbin .eql 0 x7 (.v (.c (.p (.int .u8 45)))) h fun x20 h =>
 vguard x20 true (fun kk=>kk x0 h) h fun x22 h =>
 vguard x20 true (fun kk=>vlen O 0 x22 h 23 kk) h fun x23 h =>
 vguard x20 true (fun kk=>vbin .gtr 0 x23 (kI 1) h kk) h fun x24 h =>
 vop O (.pick (.k x20) (.k x24) (.k (kB false))) h 25 fun x25 h =>
 vguard x25 true (fun kk=>kk x0 h) h fun x27 h =>
 vguard x25 true (fun kk=>vindex x27 (kI 1) h kk) h fun x28 h =>
 vguard x25 true (fun kk=>vcall O (.v (.c (.func 107 []))) [x28] h 29 kk) h fun x29 h =>
 vop O (.pick (.k x25) (.k x29) (.k (kB false))) h 30 fun x30 h =>
 R 1 [x0,x2,x7,x30] h))
theorem e85_0(O:Oracle)(R:Jump)(q:Nat)(x0:TVal)(h:Heap):b85_0 O R q x0 h=stepF c85 O R q 0 [x0] h:=by kernel_rfl
def b85_1(O:Oracle)(R:Jump)(q:Nat)(x0 x2 x5 x16:TVal)(h:Heap):Res1 :=
 vif x16 (
 vcall O (.v (.c (.func 120 []))) [x0] h 32 fun x32 h =>
 vext x32 0 h fun x33 h =>
 vext x32 1 h fun x34 h =>
 vext x32 2 h fun x35 h =>
 vstore 4 x2 x33 h fun _ h =>
 vcell true 4 x2 h fun c0=>tcomp x34 fun c1=>tcomp x35 fun c2=>vfin true q [c0,c1,c2] h)
 (vbin .eql 0 x5 (.v (.c (.p (.int .u8 34)))) h fun x38 h =>
 vif x38 (
 vcall O (.v (.c (.func 121 []))) [x0] h 40 fun x40 h =>
 vext x40 0 h fun x41 h =>
 vext x40 1 h fun x42 h =>
 vext x40 2 h fun x43 h =>
 vstore 4 x2 x41 h fun _ h =>
 vcell true 4 x2 h fun c0=>tcomp x42 fun c1=>tcomp x43 fun c2=>vfin true q [c0,c1,c2] h)
 (vcall O (.v (.c (.func 122 []))) [x0] h 45 fun x45 h =>
 vext x45 0 h fun x46 h =>
 vext x45 1 h fun x47 h =>
 vext x45 2 h fun x48 h =>
 vstore 4 x2 x46 h fun _ h =>
 vcell true 4 x2 h fun c0=>tcomp x47 fun c1=>tcomp x48 fun c2=>vfin true q [c0,c1,c2] h))
theorem e85_1(O:Oracle)(R:Jump)(q:Nat)(x0 x2 x5 x16:TVal)(h:Heap):b85_1 O R q x0 x2 x5 x16 h=stepF c85 O R q 1 [x0,x2,x5,x16] h:=by kernel_rfl
def d85:BlkF:=fun O R Q=>[.s fun a => .z (b85_0 O R Q a),.s fun a => .s fun b => .s fun c => .s fun d => .z (b85_1 O R Q a b c d)]
theorem o85(O:Oracle)(R:Jump)(q:Nat):HoldsAll c85 O R q 0 (d85 O R q):=⟨e85_0 O R q,e85_1 O R q,trivial⟩
def c86:MFunc:=mkM (compF Tryd.prog (globs2 tabs opq) (fun n=>Nat.blt n 1000000) true Tryd.f86) .n
def b86_0(O:Oracle)(R:Jump)(q:Nat)(x0 x1 x2:TVal)(h:Heap):Res1 :=
 vload false 1 x0 h fun x4 h =>
 vcall O (.v (.c (.func 65 []))) [x4] h 5 fun x5 h =>
 vop O (.build [(.p (.str [])),(.p (.int .i64 0)),(.p (.str [])),(.p .nilslice),(.p .nilslice)] [(0,1,(.k x5))]) h 6 fun x6 h =>
 vop O (.alloc [(.p (.str [])),(.p (.int .i64 0)),(.p (.str [])),(.p .nilslice),(.p .nilslice)] true) h 3 fun x3 h =>
 vstore 5 x3 x6 h fun _ h =>
 vtouch O (.load false 1 (.k x0)) h 7 fun x7 h t0 =>
 vtouch O (.load false 1 (.k x0)) h 8 fun x8 h t1 =>
 vtouch O (.call (.k (.v (.c (.func 41 [])))) [(.k x8),(.k (kS [58]))]) h 9 fun x9 h t2 =>
 vtouch O (.call (.k (.v (.c (.func 39 [])))) [(.k x7),(.k x9)]) h 10 fun x10 h t3 =>
 bif apartAll [t0,t1,t2,t3] [(0,2)] then
 vload false 1 x0 h fun x11 h =>
 vload false 1 x1 h fun x12 h =>
 vbin .add 0 x12 (kI 1) h fun x13 h =>
 vcall O (.v (.c (.func 34 []))) [x11,x13] h 14 fun x14 h =>
 vfaddr 1 x3 h fun x15 h =>
 vstore 4 x15 x14 h fun _ h =>
 vload false 1 x2 h fun x16 h =>
 vload true 5 x3 h fun x17 h =>
 vop O (.bslice 5 1 [(.p (.str [])),(.p (.int .i64 0)),(.p (.str [])),(.p .nilslice),(.p .nilslice)] [(0,(.k x17))] true) h 18 fun x18 h =>
 vop O (.append 5 88 true (.k x16) (.k x18)) h 19 fun x19 h =>
 vstore 1 x2 x19 h fun _ h =>
 vfin true q [] h
 else none
theorem e86_0(O:Oracle)(R:Jump)(q:Nat)(x0 x1 x2:TVal)(h:Heap):b86_0 O R q x0 x1 x2 h=stepF c86 O R q 0 [x0,x1,x2] h:=by kernel_rfl
def d86:BlkF:=fun O R Q=>[.s fun a => .s fun b => .s fun c => .z (b86_0 O R Q a b c)]
theorem o86(O:Oracle)(R:Jump)(q:Nat):HoldsAll c86 O R q 0 (d86 O R q):=⟨e86_0 O R q,trivial⟩
def c87:MFunc:=mkM (compF Tryd.prog (globs2 tabs opq) (fun _=>false) true Tryd.f87) .n
def b87_0(O:Oracle)(R:Jump)(q:Nat)(x0 x1:TVal)(h:Heap):Res1 :=
 vlen O 2 x0 h 6 fun x6 h =>
 vcall O (.v (.c (.func 123 []))) [x0,x6,x1] h 8 fun x8 h =>
 vfin true q [] h
theorem e87_0(O:Oracle)(R:Jump)(q:Nat)(x0 x1:TVal)(h:Heap):b87_0 O R q x0 x1 h=stepF c87 O R q 0 [x0,x1] h:=by kernel_rfl
def d87:BlkF:=fun O R Q=>[.s fun a => .s fun b => .z (b87_0 O R Q a b)]
theorem o87(O:Oracle)(R:Jump)(q:Nat):HoldsAll c87 O R q 0 (d87 O R q):=⟨e87_0 O R q,trivial⟩
def c88:MFunc:=mkM (compF Tryd.prog (globs2 tabs opq) (fun _=>false) true Tryd.f88) .n
def b88_0(O:Oracle)(R:Jump)(q:Nat)(x0 x1:TVal)(h:Heap):Res1 :=
 vop O (.box (.k x0) false) h 2 fun x2 h =>
 vop O (.box (.k x1) false) h 3 fun x3 h =>
 vfaddr 0 x2 h fun x5 h =>
 vload false 1 x5 h fun x6 h =>
 vfaddr 0 x3 h fun x7 h =>
 vload false 1 x7 h fun x8 h =>
 vcall O (.v (.c (.func 46 []))) [x6,x8] h 9 fun x9 h =>
 tcomp x9 fun c0=>vfin true q [c0] h
theorem e88_0(O:Oracle)(R:Jump)(q:Nat)(x0 x1:TVal)(h:Heap):b88_0 O R q x0 x1 h=stepF c88 O R q 0 [x0,x1] h:=by kernel_rfl
def d88:BlkF:=fun O R Q=>[.s fun a => .s fun b => .z (b88_0 O R Q a b)]
theorem o88(O:Oracle)(R:Jump)(q:Nat):HoldsAll c88 O R q 0 (d88 O R q):=⟨e88_0 O R q,trivial⟩
def c98:MFunc:=mkM (compF Tryd.prog (globs2 tabs opq) (fun _=>false) true Tryd.f98) (.s .n (.s .n (.s .n (.s .n (.s .n (.s .n (.s .n (.s .n (.s (.k (.l 1 [0,1,5,6,7,8,9,10] (.s .n (.k (.s .n (.m 2 [0,1,5,6,7,8,9,10] .n)))))) .n)))))))))
def b98_0(O:Oracle)(R:Jump)(q:Nat)(x0 x1:TVal)(h:Heap):Res1 :=
 vlen O 0 x1 h 15 fun x15 h =>
 vbin .eql 0 x15 (kI 0) h fun x18 h =>
 vguard x18 false (fun kk=>kk x1 h) h fun x20 h =>
 vguard x18 false (fun kk=>kk x0 h) h fun x21 h =>
 vguard x18 false (fun kk=>vbin .eql 0 x20 x21 h kk) h fun x22 h =>
 vop O (.pick (.k x18) (.k (kB true)) (.k x22)) h 23 fun x23 h =>
 vif x23 (
 tcomp (kI 0) fun c0=>vfin true q [c0] h)
 (vbin .eql 0 x15 (kI 1) h fun x26 h =>
 vif x26 (
 vindex x1 (kI 0) h fun x29 h =>
 vcall O (.v (.c (.func 126 []))) [x0,x29] h 30 fun x30 h =>
 tcomp x30 fun c0=>vfin true q [c0] h)
 (vlen O 0 x0 h 34 fun x34 h =>
 vbin .geq 0 x15 x34 h fun x35 h =>
 vif x35 (
 tcomp (kI (-1)) fun c0=>vfin true q [c0] h)
 (vload false 1 (.v (.c (.p (.pptr [(.sym .i64 63 (.ofNat 0) (.ofNat 1) (.ofNat 0))] 0)))) h fun x38 h =>
 vbin .leq 0 x15 x38 h fun x39 h =>
 vguard x39 true (fun kk=>kk x0 h) h fun x41 h =>
 vguard x39 true (fun kk=>vlen O 0 x41 h 42 kk) h fun x42 h =>
 vguard x39 true (fun kk=>vbin .leq 0 x42 (kI 64) h kk) h fun x43 h =>
 vop O (.pick (.k x39) (.k x43) (.k (kB false))) h 44 fun x44 h =>
 vif x44 (
 vcall O (.v (.c (.func 127 []))) [x0,x1] h 47 fun x47 h =>
 tcomp x47 fun c0=>vfin true q [c0] h)
 (vindex x1 (kI 0) h fun x49 h =>
 vindex x1 (kI 1) h fun x51 h =>
 vlen O 0 x0 h 53 fun x53 h =>
 vbin .sub 0 x53 x15 h fun x55 h =>
 vbin .add 0 x55 (kI 1) h fun x56 h =>
 R 1 [x0,x1,x15,x49,x51,(kI 0),x56,(kI 0)] h))))
theorem e98_0(O:Oracle)(R:Jump)(q:Nat)(x0 x1:TVal)(h:Heap):b98_0 O R q x0 x1 h=stepF c98 O R q 0 [x0,x1] h:=by kernel_rfl
def b98_1(O:Oracle)(R:Jump)(q:Nat)(x0 x1 x5 x6 x7 x8 x9 x10:TVal)(h:Heap):Res1 :=
 vbin .lss 0 x8 x9 h fun x59 h =>
 vif x59 (
 vindex x0 x8 h fun x62 h =>
 vbin .neq 0 x62 x6 h fun x64 h =>
 vif x64 (
 vbin .add 0 x8 (kI 1) h fun x67 h =>
 vop O (.slice 0 true (.k x0) (some (.k x67)) (some (.k x9)) none) h 69 fun x69 h =>
 vcall O (.v (.c (.func 126 []))) [x69,x6] h 71 fun x71 h =>
 vbin .lss 0 x71 (kI 0) h fun x73 h =>
 vif x73 (
 tcomp (kI (-1)) fun c0=>vfin true q [c0] h)
 (vbin .add 0 x71 (kI 1) h fun x76 h =>
 vbin .add 0 x8 x76 h fun x77 h =>
 R 2 [x0,x1,x5,x6,x7,x77,x9,x10] h))
 (R 2 [x0,x1,x5,x6,x7,x8,x9,x10] h))
 (tcomp (kI (-1)) fun c0=>vfin true q [c0] h)
theorem e98_1(O:Oracle)(R:Jump)(q:Nat)(x0 x1 x5 x6 x7 x8 x9 x10:TVal)(h:Heap):b98_1 O R q x0 x1 x5 x6 x7 x8 x9 x10 h=stepF c98 O R q 1 [x0,x1,x5,x6,x7,x8,x9,x10] h:=by kernel_rfl
def b98_2(O:Oracle)(R:Jump)(q:Nat)(x0 x1 x5 x6 x7 x8 x9 x10:TVal)(h:Heap):Res1 :=
 vbin .add 0 x8 (kI 1) h fun x80 h =>
 vindex x0 x80 h fun x81 h =>
 vbin .eql 0 x81 x7 h fun x83 h =>
 vguard x83 true (fun kk=>kk x0 h) h fun x85 h =>
 vguard x83 true (fun kk=>kk x8 h) h fun x86 h =>
 vguard x83 true (fun kk=>kk x8 h) h fun x87 h =>
 vguard x83 true (fun kk=>kk x5 h) h fun x88 h =>
 vguard x83 true (fun kk=>vbin .add 0 x87 x88 h kk) h fun x89 h =>
 vguard x83 true (fun kk=>vop O (.slice 0 true (.k x85) (some (.k x86)) (some (.k x89)) none) h 90 kk) h fun x90 h =>
 vguard x83 true (fun kk=>kk x1 h) h fun x91 h =>
 vguard x83 true (fun kk=>vbin .eql 0 x90 x91 h kk) h fun x92 h =>
 vop O (.pick (.k x83) (.k x92) (.k (kB false))) h 93 fun x93 h =>
 vif x93 (
 tcomp x8 fun c0=>vfin true q [c0] h)
 (vbin .add 0 x8 (kI 1) h fun x96 h =>
 vbin .add 0 x10 (kI 1) h fun x98 h =>
 vload false 1 (.v (.c (.p (.pptr [(.sym .i64 63 (.ofNat 0) (.ofNat 1) (.ofNat 0))] 0)))) h fun x100 h =>
 vbin .leq 0 x5 x100 h fun x101 h =>
 vguard x101 true (fun kk=>kk x98 h) h fun x103 h =>
 vguard x101 true (fun kk=>kk x96 h) h fun x104 h =>
 vguard x101 true (fun kk=>vcall O (.v (.c (.func 128 []))) [x104] h 105 kk) h fun x105 h =>
 vguard x101 true (fun kk=>vbin .gtr 0 x103 x105 h kk) h fun x106 h =>
 vop O (.pick (.k x101) (.k x106) (.k (kB false))) h 107 fun x107 h =>
 vif x107 (
 vop O (.slice 0 true (.k x0) (some (.k x96)) none none) h 110 fun x110 h =>
 vcall O (.v (.c (.func 127 []))) [x110,x1] h 112 fun x112 h =>
 vbin .geq 0 x112 (kI 0) h fun x114 h =>
 vif x114 (
 vbin .add 0 x112 x96 h fun x117 h =>
 tcomp x117 fun c0=>vfin true q [c0] h)
 (tcomp (kI (-1)) fun c0=>vfin true q [c0] h))
 (vload false 1 (.v (.c (.p (.pptr [(.sym .i64 63 (.ofNat 0) (.ofNat 1) (.ofNat 0))] 0)))) h fun x119 h =>
 vbin .gtr 0 x5 x119 h fun x120 h =>
 vguard x120 true (fun kk=>kk x98 h) h fun x122 h =>
 vguard x120 true (fun kk=>kk x96 h) h fun x123 h =>
 vguard x120 true (fun kk=>vbin .shr 0 x123 (.v (.c (.p (.int .u64 4)))) h kk) h fun x124 h =>
 vguard x120 true (fun kk=>vbin .add 0 (kI 4) x124 h kk) h fun x125 h =>
 vguard x120 true (fun kk=>vbin .geq 0 x122 x125 h kk) h fun x126 h =>
 vop O (.pick (.k x120) (.k x126) (.k (kB false))) h 127 fun x127 h =>
 vguard x127 true (fun kk=>kk x96 h) h fun x129 h =>
 vguard x127 true (fun kk=>kk x9 h) h fun x130 h =>
 vguard x127 true (fun kk=>vbin .lss 0 x129 x130 h kk) h fun x131 h =>
 vop O (.pick (.k x127) (.k x131) (.k (kB false))) h 132 fun x132 h =>
 vif x132 (
 vop O (.slice 0 true (.k x0) (some (.k x96)) none none) h 135 fun x135 h =>
 vcall O (.v (.c (.func 129 []))) [x135,x1] h 137 fun x137 h =>
 vbin .lss 0 x137 (kI 0) h fun x139 h =>
 vif x139 (
 tcomp (kI (-1)) fun c0=>vfin true q [c0] h)
 (vbin .add 0 x96 x137 h fun x142 h =>
 tcomp x142 fun c0=>vfin true q [c0] h))
 (R 1 [x0,x1,x5,x6,x7,x96,x9,x98] h)))
theorem e98_2(O:Oracle)(R:Jump)(q:Nat)(x0 x1 x5 x6 x7 x8 x9 x10:TVal)(h:Heap):b98_2 O R q x0 x1 x5 x6 x7 x8 x9 x10 h=stepF c98 O R q 2 [x0,x1,x5,x6,x7,x8,x9,x10] h:=by kernel_rfl
def d98:BlkF:=fun O R Q=>[.s fun a => .s fun b => .z (b98_0 O R Q a b),.s fun a => .s fun b => .s fun c => .s fun d => .s fun e => .s fun f => .s fun g => .s fun h => .z (b98_1 O R Q a b c d e f g h),.s fun a => .s fun b => .s fun c => .s fun d => .s fun e => .s fun f => .s fun g => .s fun h => .z (b98_2 O R Q a b c d e f g h)]
theorem o98(O:Oracle)(R:Jump)(q:Nat):HoldsAll c98 O R q 0 (d98 O R q):=⟨e98_0 O R q,e98_1 O R q,e98_2 O R q,trivial⟩
def c99:MFunc:=mkM (compF Tryd.prog (globs2 tabs opq) (fun _=>false) true Tryd.f99) .n
def b99_0(O:Oracle)(R:Jump)(q:Nat)(x0 x1:TVal)(h:Heap):Res1 :=
 vcall O (.v (.c (.func 130 []))) [x0,x1] h 7 fun x7 h =>
 tcomp x7 fun c0=>vfin true q [c0] h
theorem e99_0(O:Oracle)(R:Jump)(q:Nat)(x0 x1:TVal)(h:Heap):b99_0 O R q x0 x1 h=stepF c99 O R q 0 [x0,x1] h:=by kernel_rfl
def d99:BlkF:=fun O R Q=>[.s fun a => .s fun b => .z (b99_0 O R Q a b)]
theorem o99(O:Oracle)(R:Jump)(q:Nat):HoldsAll c99 O R q 0 (d99 O R q):=⟨e99_0 O R q,trivial⟩
def c107:MFunc:=mkM (compF Tryd.prog (globs2 tabs opq) (fun _=>false) true Tryd.f107) .n
def b107_0(O:Oracle)(R:Jump)(q:Nat)(x0:TVal)(h:Heap):Res1 :=
 vbin .geq 0 x0 (.v (.c (.p (.int .u8 48)))) h fun x4 h =>
 vguard x4 true (fun kk=>kk x0 h) h fun x6 h =>
 vguard x4 true (fun kk=>vbin .leq 0 x6 (.v (.c (.p (.int .u8 57)))) h kk) h fun x7 h =>
 vop O (.pick (.k x4) (.k x7) (.k (kB false))) h 8 fun x8 h =>
 tcomp x8 fun c0=>vfin true q [c0] h
theorem e107_0(O:Oracle)(R:Jump)(q:Nat)(x0:TVal)(h:Heap):b107_0 O R q x0 h=stepF c107 O R q 0 [x0] h:=by kernel_rfl
def d107:BlkF:=fun O R Q=>[.s fun a => .z (b107_0 O R Q a)]
theorem o107(O:Oracle)(R:Jump)(q:Nat):HoldsAll c107 O R q 0 (d107 O R q):=⟨e107_0 O R q,trivial⟩
def c108:MFunc:=mkM (compF Tryd.prog (globs2 tabs opq) (fun _=>false) true Tryd.f108) .n
def b108_0(O:Oracle)(R:Jump)(q:Nat)(x0:TVal)(h:Heap):Res1 :=
 vcall O (.v (.c (.func 137 []))) [x0,(.v (.c (.func 138 [])))] h 4 fun x4 h =>
 tcomp x4 fun c0=>vfin true q [c0] h
theorem e108_0(O:Oracle)(R:Jump)(q:Nat)(x0:TVal)(h:Heap):b108_0 O R q x0 h=stepF c108 O R q 0 [x0] h:=by kernel_rfl
def d108:BlkF:=fun O R Q=>[.s fun a => .z (b108_0 O R Q a)]
theorem o108(O:Oracle)(R:Jump)(q:Nat):HoldsAll c108 O R q 0 (d108 O R q):=⟨e108_0 O R q,trivial⟩
def c116:MFunc:=mkM (compF Tryd.prog (globs2 tabs opq) (fun _=>false) true Tryd.f116) .n
def b116_0(O:Oracle)(R:Jump)(q:Nat)(x0:TVal)(h:Heap):Res1 :=
 vop O (.nilck (.k x0)) h 3 fun x3 h =>
 vfaddr 0 x3 h fun x4 h =>
 vload false 1 x4 h fun x5 h =>
 vbin .eql 1 x5 (.v (.c (.p .nilptr))) h fun x6 h =>
 vif x6 (
 none)
 (vop O (.nilck (.k x0)) h 15 fun x15 h =>
 vfaddr 0 x15 h fun x16 h =>
 vload false 1 x16 h fun x17 h =>
 vbin .neq 1 x17 x0 h fun x19 h =>
 vif x19 (
 none)
 (vfin true q [] h))
theorem e116_0(O:Oracle)(R:Jump)(q:Nat)(x0:TVal)(h:Heap):b116_0 O R q x0 h=stepF c116 O R q 0 [x0] h:=by kernel_rfl
def d116:BlkF:=fun O R Q=>[.s fun a => .z (b116_0 O R Q a)]
theorem o116(O:Oracle)(R:Jump)(q:Nat):HoldsAll c116 O R q 0 (d116 O R q):=⟨e116_0 O R q,trivial⟩
def c117:MFunc:=mkM (compF Tryd.prog (globs2 tabs opq) (fun _=>false) true Tryd.f117) .n
def b117_0(O:Oracle)(R:Jump)(q:Nat)(x0 x1:TVal)(h:Heap):Res1 :=
 vtouch O (.mv (.k x0)) h 5 fun x5 h t0 =>
 vtouch O (.nilck (.k x5)) h 6 fun x6 h t1 =>
 vtouch O (.faddr 1 (.k x6)) h 7 fun x7 h t2 =>
 vtouch O (.load false 1 (.k x7)) h 8 fun x8 h t3 =>
 vtouch O (.cap (.k x8)) h 9 fun x9 h t4 =>
 vtouch O (.bin .mul 0 (.k (kI 2)) (.k x9)) h 10 fun x10 h t5 =>
 vtouch O (.mv (.k x1)) h 11 fun x11 h t6 =>
 vtouch O (.bin .add 0 (.k x10) (.k x11)) h 12 fun x12 h t7 =>
 vtouch O (.call (.k (.v (.c (.func 144 [])))) [(.k x12)]) h 13 fun x13 h t8 =>
 vtouch O (.mv (.k x0)) h 14 fun x14 h t9 =>
 vtouch O (.nilck (.k x14)) h 15 fun x15 h t10 =>
 vtouch O (.faddr 1 (.k x15)) h 16 fun x16 h t11 =>
 vtouch O (.load false 1 (.k x16)) h 17 fun x17 h t12 =>
 vtouch O (.len 2 (.k x17)) h 18 fun x18 h t13 =>
 vtouch O (.slice 1 false (.k x13) none (some (.k x18)) none) h 19 fun x19 h t14 =>
 vtouch O (.mv (.k x19)) h 4 fun x4 h t15 =>
 bif apartAll [t0,t1,t2,t3,t4,t5,t6,t7,t8,t9,t10,t11,t12,t13,t14,t15] [(8,12),(8,13)] then
 vop O (.nilck (.k x0)) h 22 fun x22 h =>
 vfaddr 1 x22 h fun x23 h =>
 vload false 1 x23 h fun x24 h =>
 vop O (.copy 1 (.k x4) (.k x24)) h 25 fun x25 h =>
 vop O (.nilck (.k x0)) h 28 fun x28 h =>
 vfaddr 1 x28 h fun x29 h =>
 vstore 1 x29 x4 h fun _ h =>
 vfin true q [] h
 else none
theorem e117_0(O:Oracle)(R:Jump)(q:Nat)(x0 x1:TVal)(h:Heap):b117_0 O R q x0 x1 h=stepF c117 O R q 0 [x0,x1] h:=by kernel_rfl
def d117:BlkF:=fun O R Q=>[.s fun a => .s fun b => .z (b117_0 O R Q a b)]
theorem o117(O:Oracle)(R:Jump)(q:Nat):HoldsAll c117 O R q 0 (d117 O R q):=⟨e117_0 O R q,trivial⟩
def c118:MFunc:=mkM (compF Tryd.prog (globs2 tabs opq) (fun _=>false) true Tryd.f118) .n
def b118_0(O:Oracle)(R:Jump)(q:Nat)(x0:TVal)(h:Heap):Res1 :=
 vbin .eql 0 x0 (.v (.c (.p (.int .u8 95)))) h fun x4 h =>
 vguard x4 false (fun kk=>kk x0 h) h fun x6 h =>
 vguard x4 false (fun kk=>vbin .or 0 x6 (.v (.c (.p (.int .u8 32)))) h kk) h fun x7 h =>
 vguard x4 false (fun kk=>vbin .geq 0 x7 (.v (.c (.p (.int .u8 97)))) h kk) h fun x8 h =>
 vguard x4 false (fun kk=>kk x8 h) h fun x9 h =>
 vguard x9 true (fun kk=>kk x0 h) h fun x10 h =>
 vguard x9 true (fun kk=>vbin .or 0 x10 (.v (.c (.p (.int .u8 32)))) h kk) h fun x11 h =>
 vguard x9 true (fun kk=>vbin .leq 0 x11 (.v (.c (.p (.int .u8 122)))) h kk) h fun x12 h =>
 vguard x4 false (fun kk=>vop O (.pick (.k x9) (.k x12) (.k (kB false))) h 13 kk) h fun x13 h =>
 vop O (.pick (.k x4) (.k (kB true)) (.k x13)) h 14 fun x14 h =>
 tcomp x14 fun c0=>vfin true q [c0] h
theorem e118_0(O:Oracle)(R:Jump)(q:Nat)(x0:TVal)(h:Heap):b118_0 O R q x0 h=stepF c118 O R q 0 [x0] h:=by kernel_rfl
def d118:BlkF:=fun O R Q=>[.s fun a => .z (b118_0 O R Q a)]
theorem o118(O:Oracle)(R:Jump)(q:Nat):HoldsAll c118 O R q 0 (d118 O R q):=⟨e118_0 O R q,trivial⟩
def c119:MFunc:=mkM (compF Tryd.prog (globs2 tabs opq) (fun _=>false) true Tryd.f119) .n
def b119_0(O:Oracle)(R:Jump)(q:Nat)(x0:TVal)(h:Heap):Res1 :=
 vop O (.alloc [(.p (.int .i64 0)),(.p (.str [])),(.p (.int .i64 0)),(.p (.int .i64 0))] false) h 2 fun x2 h =>
 vcall O (.v (.c (.func 108 []))) [x0] h 7 fun x7 h =>
 vbin .gtr 0 x7 (kI 16) h fun x9 h =>
 vif x9 (
 vop O (.build [(.p (.int .i64 0)),(.p (.str [])),(.p (.int .i64 0)),(.p (.int .i64 0))] []) h 10 fun x10 h =>
 vstore 4 x2 x10 h fun _ h =>
 vcell true 4 x2 h fun c0=>tcomp (kI 0) fun c1=>tcomp (kI 4) fun c2=>vfin true q [c0,c1,c2] h)
 (vop O (.slice 0 true (.k x0) none (some (.k x7)) none) h 13 fun x13 h =>
 vop O (.build [(.p (.int .i64 0)),(.p (.str [])),(.p (.int .i64 0)),(.p (.int .i64 0))] [(0,1,(.k (kI 1))),(1,1,(.k x13))]) h 14 fun x14 h =>
 vstore 4 x2 x14 h fun _ h =>
 vcell true 4 x2 h fun c0=>tcomp x7 fun c1=>tcomp (kI 0) fun c2=>vfin true q [c0,c1,c2] h)
theorem e119_0(O:Oracle)(R:Jump)(q:Nat)(x0:TVal)(h:Heap):b119_0 O R q x0 h=stepF c119 O R q 0 [x0] h:=by kernel_rfl
def d119:BlkF:=fun O R Q=>[.s fun a => .z (b119_0 O R Q a)]
theorem o119(O:Oracle)(R:Jump)(q:Nat):HoldsAll c119 O R q 0 (d119 O R q):=⟨e119_0 O R q,trivial⟩
def c120:MFunc:=mkM (compF Tryd.prog (globs2 tabs opq) (fun _=>false) true Tryd.f120) (.s .n (.s .n (.s .n (.s .n (.s .n (.s (.s .n (.k (.l 1 [2,5,6,7,29] .n))) (.m 2 [2,5,6,7] .n)))))))
def b120_0(O:Oracle)(R:Jump)(q:Nat)(x0:TVal)(h:Heap):Res1 :=
 vop O (.alloc [(.p (.int .i64 0)),(.p (.str [])),(.p (.int .i64 0)),(.p (.int .i64 0))] false) h 2 fun x2 h =>
 vlen O 0 x0 h 11 fun x11 h =>
 vcall O (.v (.c (.func 145 []))) [x0,(kS [45])] h 13 fun x13 h =>
 vlen O 0 x13 h 14 fun x14 h =>
 vbin .sub 0 x11 x14 h fun x15 h =>
 vop O (.slice 0 true (.k x0) (some (.k x15)) none none) h 18 fun x18 h =>
 vcall O (.v (.c (.func 137 []))) [x18,(.v (.c (.func 107 [])))] h 19 fun x19 h =>
 vbin .gtr 0 x19 (kI 19) h fun x21 h =>
 vif x21 (
 vop O (.build [(.p (.int .i64 0)),(.p (.str [])),(.p (.int .i64 0)),(.p (.int .i64 0))] []) h 22 fun x22 h =>
 vstore 4 x2 x22 h fun _ h =>
 vcell true 4 x2 h fun c0=>tcomp (kI 0) fun c1=>tcomp (kI 4) fun c2=>vfin true q [c0,c1,c2] h)
 (vbin .add 0 x15 x19 h fun x27 h =>
 vop O (.slice 0 true (.k x0) (some (.k x15)) (some (.k x27)) none) h 28 fun x28 h =>
 vop O (.rangeS (.k x28)) h 29 fun x29 h =>
 R 1 [x2,x15,x19,(.v (.c (.p (.int .u64 0)))),x29] h)
theorem e120_0(O:Oracle)(R:Jump)(q:Nat)(x0:TVal)(h:Heap):b120_0 O R q x0 h=stepF c120 O R q 0 [x0] h:=by kernel_rfl
def b120_1(O:Oracle)(R:Jump)(q:Nat)(x2 x5 x6 x7 x29:TVal)(h:Heap):Res1 :=
 vop O (.nextS (.k x29)) h 30 fun x30 h =>
 vext x30 0 h fun x31 h =>
 vif x31 (
 vext x30 2 h fun x32 h =>
 vbin .mul 0 (.v (.c (.p (.int .u64 10)))) x7 h fun x34 h =>
 vbin .sub 0 x32 (.v (.c (.p (.int .i32 48)))) h fun x36 h =>
 vtoInt .u64 x36 h fun x37 h =>
 vbin .add 0 x34 x37 h fun x38 h =>
 R 1 [x2,x5,x6,x38,x29] h)
 (R 2 [x2,x5,x6,x7] h)
theorem e120_1(O:Oracle)(R:Jump)(q:Nat)(x2 x5 x6 x7 x29:TVal)(h:Heap):b120_1 O R q x2 x5 x6 x7 x29 h=stepF c120 O R q 1 [x2,x5,x6,x7,x29] h:=by kernel_rfl
def b120_2(O:Oracle)(R:Jump)(q:Nat)(x2 x5 x6 x7:TVal)(h:Heap):Res1 :=
 vtoInt .u64 x5 h fun x42 h =>
 vbin .add 0 (.v (.c (.p (.int .u64 9223372036854775807)))) x42 h fun x43 h =>
 vbin .gtr 0 x7 x43 h fun x44 h =>
 vif x44 (
 vop O (.build [(.p (.int .i64 0)),(.p (.str [])),(.p (.int .i64 0)),(.p (.int .i64 0))] []) h 45 fun x45 h =>
 vstore 4 x2 x45 h fun _ h =>
 vcell true 4 x2 h fun c0=>tcomp (kI 0) fun c1=>tcomp (kI 11) fun c2=>vfin true q [c0,c1,c2] h)
 (vbin .gtr 0 x5 (kI 0) h fun x48 h =>
 vif x48 (
 vtoInt .i64 x7 h fun x50 h =>
 vop O (.un .neg (.k x50)) h 51 fun x51 h =>
 vop O (.build [(.p (.int .i64 0)),(.p (.str [])),(.p (.int .i64 0)),(.p (.int .i64 0))] [(0,1,(.k (kI 3))),(2,1,(.k x51))]) h 52 fun x52 h =>
 vbin .add 0 x5 x6 h fun x55 h =>
 vstore 4 x2 x52 h fun _ h =>
 vcell true 4 x2 h fun c0=>tcomp x55 fun c1=>tcomp (kI 0) fun c2=>vfin true q [c0,c1,c2] h)
 (vtoInt .i64 x7 h fun x57 h =>
 vop O (.build [(.p (.int .i64 0)),(.p (.str [])),(.p (.int .i64 0)),(.p (.int .i64 0))] [(0,1,(.k (kI 3))),(2,1,(.k x57))]) h 58 fun x58 h =>
 vstore 4 x2 x58 h fun _ h =>
 vcell true 4 x2 h fun c0=>tcomp x6 fun c1=>tcomp (kI 0) fun c2=>vfin true q [c0,c1,c2] h))
theorem e120_2(O:Oracle)(R:Jump)(q:Nat)(x2 x5 x6 x7:TVal)(h:Heap):b120_2 O R q x2 x5 x6 x7 h=stepF c120 O R q 2 [x2,x5,x6,x7] h:=by kernel_rfl
def d120:BlkF:=fun O R Q=>[.s fun a => .z (b120_0 O R Q a),.s fun a => .s fun b => .s fun c => .s fun d => .s fun e => .z (b120_1 O R Q a b c d e),.s fun a => .s fun b => .s fun c => .s fun d => .z (b120_2 O R Q a b c d)]
theorem o120(O:Oracle)(R:Jump)(q:Nat):HoldsAll c120 O R q 0 (d120 O R q):=⟨e120_0 O R q,e120_1 O R q,e120_2 O R q,trivial⟩
def c121:MFunc:=mkM (compF Tryd.prog (globs2 tabs opq) (fun _=>false) true Tryd.f121) (.s .n (.s .n (.s (.s .n (.k (.l 1 [0,2,5,6] (.s .n (.s .n (.m 2 [0,2,5,6] .n)))))) (.m 3 [2] .n))))
def b121_0(O:Oracle)(R:Jump)(q:Nat)(x0:TVal)(h:Heap):Res1 :=
 vop O (.alloc [(.p (.int .i64 0)),(.p (.str [])),(.p (.int .i64 0)),(.p (.int .i64 0))] false) h 2 fun x2 h =>
 R 1 [x0,x2,(.v (.c (.p .nilslice))),(kI 1)] h
theorem e121_0(O:Oracle)(R:Jump)(q:Nat)(x0:TVal)(h:Heap):b121_0 O R q x0 h=stepF c121 O R q 0 [x0] h:=by kernel_rfl
def b121_1(O:Oracle)(R:Jump)(q:Nat)(x0 x2 x5 x6:TVal)(h:Heap):Res1 :=
 vlen O 0 x0 h 12 fun x12 h =>
 vbin .lss 0 x6 x12 h fun x13 h =>
 vif x13 (
 vindex x0 x6 h fun x18 h =>
 vbin .lss 0 x18 (.v (.c (.p (.int .u8 32)))) h fun x25 h =>
 vif x25 (
 vop O (.build [(.p (.int .i64 0)),(.p (.str [])),(.p (.int .i64 0)),(.p (.int .i64 0))] []) h 26 fun x26 h =>
 vstore 4 x2 x26 h fun _ h =>
 vcell true 4 x2 h fun c0=>tcomp (kI 0) fun c1=>tcomp (kI 11) fun c2=>vfin true q [c0,c1,c2] h)
 (vbin .eql 0 x18 (.v (.c (.p (.int .u8 34)))) h fun x29 h =>
 vguard x29 true (fun kk=>kk x5 h) h fun x31 h =>
 vguard x29 true (fun kk=>vlen O 2 x31 h 32 kk) h fun x32 h =>
 vguard x29 true (fun kk=>vbin .gtr 0 x32 (kI 200) h kk) h fun x33 h =>
 vop O (.pick (.k x29) (.k x33) (.k (kB false))) h 34 fun x34 h =>
 vif x34 (
 vop O (.build [(.p (.int .i64 0)),(.p (.str [])),(.p (.int .i64 0)),(.p (.int .i64 0))] []) h 35 fun x35 h =>
 vstore 4 x2 x35 h fun _ h =>
 vcell true 4 x2 h fun c0=>tcomp (kI 0) fun c1=>tcomp (kI 4) fun c2=>vfin true q [c0,c1,c2] h)
 (vbin .eql 0 x18 (.v (.c (.p (.int .u8 34)))) h fun x38 h =>
 vif x38 (
 vop O (.toStr (.k x5)) h 40 fun x40 h =>
 vop O (.build [(.p (.int .i64 0)),(.p (.str [])),(.p (.int .i64 0)),(.p (.int .i64 0))] [(0,1,(.k (kI 2))),(1,1,(.k x40))]) h 41 fun x41 h =>
 vbin .add 0 x6 (kI 1) h fun x43 h =>
 vstore 4 x2 x41 h fun _ h =>
 vcell true 4 x2 h fun c0=>tcomp x43 fun c1=>tcomp (kI 0) fun c2=>vfin true q [c0,c1,c2] h)
 (vbin .eql 0 x18 (.v (.c (.p (.int .u8 92)))) h fun x46 h =>
 vguard x46 true (fun kk=>kk x6 h) h fun x48 h =>
 vguard x46 true (fun kk=>vbin .add 0 x48 (kI 1) h kk) h fun x49 h =>
 vguard x46 true (fun kk=>kk x0 h) h fun x50 h =>
 vguard x46 true (fun kk=>vlen O 0 x50 h 51 kk) h fun x51 h =>
 vguard x46 true (fun kk=>vbin .lss 0 x49 x51 h kk) h fun x52 h =>
 vop O (.pick (.k x46) (.k x52) (.k (kB false))) h 53 fun x53 h =>
 vif x53 (
 vbin .add 0 x6 (kI 1) h fun x57 h =>
 vindex x0 x57 h fun x58 h =>
 vcall O (.v (.c (.func 146 []))) [x58] h 59 fun x59 h =>
 vext x59 0 h fun x60 h =>
 vext x59 1 h fun x61 h =>
 vop O (.un .not (.k x61)) h 63 fun x63 h =>
 vif x63 (
 vop O (.build [(.p (.int .i64 0)),(.p (.str [])),(.p (.int .i64 0)),(.p (.int .i64 0))] []) h 64 fun x64 h =>
 vstore 4 x2 x64 h fun _ h =>
 vcell true 4 x2 h fun c0=>tcomp (kI 0) fun c1=>tcomp (kI 11) fun c2=>vfin true q [c0,c1,c2] h)
 (vop O (.bslice 1 1 [(.p (.int .u8 0))] [(0,(.k x60))] false) h 67 fun x67 h =>
 vop O (.append 1 1 false (.k x5) (.k x67)) h 68 fun x68 h =>
 vbin .add 0 x6 (kI 1) h fun x70 h =>
 R 2 [x0,x2,x68,x70] h))
 (vop O (.bslice 1 1 [(.p (.int .u8 0))] [(0,(.k x18))] false) h 21 fun x21 h =>
 vop O (.append 1 1 false (.k x5) (.k x21)) h 22 fun x22 h =>
 R 2 [x0,x2,x22,x6] h)))))
 (R 3 [x2] h)
theorem e121_1(O:Oracle)(R:Jump)(q:Nat)(x0 x2 x5 x6:TVal)(h:Heap):b121_1 O R q x0 x2 x5 x6 h=stepF c121 O R q 1 [x0,x2,x5,x6] h:=by kernel_rfl
def b121_2(O:Oracle)(R:Jump)(q:Nat)(x0 x2 x5 x6:TVal)(h:Heap):Res1 :=
 vbin .add 0 x6 (kI 1) h fun x15 h =>
 R 1 [x0,x2,x5,x15] h
theorem e121_2(O:Oracle)(R:Jump)(q:Nat)(x0 x2 x5 x6:TVal)(h:Heap):b121_2 O R q x0 x2 x5 x6 h=stepF c121 O R q 2 [x0,x2,x5,x6] h:=by kernel_rfl
def b121_3(O:Oracle)(R:Jump)(q:Nat)(x2:TVal)(h:Heap):Res1 :=
 vop O (.build [(.p (.int .i64 0)),(.p (.str [])),(.p (.int .i64 0)),(.p (.int .i64 0))] []) h 71 fun x71 h =>
 vstore 4 x2 x71 h fun _ h =>
 vcell true 4 x2 h fun c0=>tcomp (kI 0) fun c1=>tcomp (kI 11) fun c2=>vfin true q [c0,c1,c2] h
theorem e121_3(O:Oracle)(R:Jump)(q:Nat)(x2:TVal)(h:Heap):b121_3 O R q x2 h=stepF c121 O R q 3 [x2] h:=by kernel_rfl
def d121:BlkF:=fun O R Q=>[.s fun a => .z (b121_0 O R Q a),.s fun a => .s fun b => .s fun c => .s fun d => .z (b121_1 O R Q a b c d),.s fun a => .s fun b => .s fun c => .s fun d => .z (b121_2 O R Q a b c d),.s fun a => .z (b121_3 O R Q a)]
theorem o121(O:Oracle)(R:Jump)(q:Nat):HoldsAll c121 O R q 0 (d121 O R q):=⟨e121_0 O R q,e121_1 O R q,e121_2 O R q,e121_3 O R q,trivial⟩
def c122:MFunc:=mkM (compF Tryd.prog (globs2 tabs opq) (fun _=>false) true Tryd.f122) (.s .n (.s (.s .n (.k (.l 1 [0,2,7,8,9] .n))) (.m 2 [0,2] .n)))
def b122_0(O:Oracle)(R:Jump)(q:Nat)(x0:TVal)(h:Heap):Res1 :=
 vop O (.alloc [(.p (.int .i64 0)),(.p (.str [])),(.p (.int .i64 0)),(.p (.int .i64 0))] false) h 2 fun x2 h =>
 vcall O (.v (.c (.func 147 []))) [(kS [45,62,32,58,61])] h 7 fun x7 h =>
 vlen O 2 x7 h 8 fun x8 h =>
 R 1 [x0,x2,x7,x8,(kI 0)] h
theorem e122_0(O:Oracle)(R:Jump)(q:Nat)(x0:TVal)(h:Heap):b122_0 O R q x0 h=stepF c122 O R q 0 [x0] h:=by kernel_rfl
def b122_1(O:Oracle)(R:Jump)(q:Nat)(x0 x2 x7 x8 x9:TVal)(h:Heap):Res1 :=
 vbin .lss 0 x9 x8 h fun x10 h =>
 vif x10 (
 viaddr 1 x7 x9 h fun x11 h =>
 vload false 1 x11 h fun x12 h =>
 vcall O (.v (.c (.func 99 []))) [x0,x12] h 15 fun x15 h =>
 vif x15 (
 vop O (.build [(.p (.int .i64 0)),(.p (.str [])),(.p (.int .i64 0)),(.p (.int .i64 0))] [(0,1,(.k (kI 4))),(1,1,(.k x12))]) h 17 fun x17 h =>
 vlen O 0 x12 h 19 fun x19 h =>
 vstore 4 x2 x17 h fun _ h =>
 vcell true 4 x2 h fun c0=>tcomp x19 fun c1=>tcomp (kI 0) fun c2=>vfin true q [c0,c1,c2] h)
 (vbin .add 0 x9 (kI 1) h fun x20 h =>
 R 1 [x0,x2,x7,x8,x20] h))
 (R 2 [x0,x2] h)
theorem e122_1(O:Oracle)(R:Jump)(q:Nat)(x0 x2 x7 x8 x9:TVal)(h:Heap):b122_1 O R q x0 x2 x7 x8 x9 h=stepF c122 O R q 1 [x0,x2,x7,x8,x9] h:=by kernel_rfl
def b122_2(O:Oracle)(R:Jump)(q:Nat)(x0 x2:TVal)(h:Heap):Res1 :=
 vop O (.slice 0 true (.k x0) none (some (.k (kI 1))) none) h 22 fun x22 h =>
 vcall O (.v (.c (.func 84 []))) [(kS [123,125,60,62,44,58,40,41,46,36,124,61,59]),x22] h 23 fun x23 h =>
 vop O (.un .not (.k x23)) h 24 fun x24 h =>
 vif x24 (
 vop O (.build [(.p (.int .i64 0)),(.p (.str [])),(.p (.int .i64 0)),(.p (.int .i64 0))] []) h 25 fun x25 h =>
 vstore 4 x2 x25 h fun _ h =>
 vcell true 4 x2 h fun c0=>tcomp (kI 0) fun c1=>tcomp (kI 11) fun c2=>vfin true q [c0,c1,c2] h)
 (vop O (.slice 0 true (.k x0) none (some (.k (kI 1))) none) h 27 fun x27 h =>
 vop O (.build [(.p (.int .i64 0)),(.p (.str [])),(.p (.int .i64 0)),(.p (.int .i64 0))] [(0,1,(.k (kI 4))),(1,1,(.k x27))]) h 28 fun x28 h =>
 vstore 4 x2 x28 h fun _ h =>
 vcell true 4 x2 h fun c0=>tcomp (kI 1) fun c1=>tcomp (kI 0) fun c2=>vfin true q [c0,c1,c2] h)
theorem e122_2(O:Oracle)(R:Jump)(q:Nat)(x0 x2:TVal)(h:Heap):b122_2 O R q x0 x2 h=stepF c122 O R q 2 [x0,x2] h:=by kernel_rfl
def d122:BlkF:=fun O R Q=>[.s fun a => .z (b122_0 O R Q a),.s fun a => .s fun b => .s fun c => .s fun d => .s fun e => .z (b122_1 O R Q a b c d e),.s fun a => .s fun b => .z (b122_2 O R Q a b)]
theorem o122(O:Oracle)(R:Jump)(q:Nat):HoldsAll c122 O R q 0 (d122 O R q):=⟨e122_0 O R q,e122_1 O R q,e122_2 O R q,trivial⟩
def c123:MFunc:=mkM (compF Tryd.prog (globs2 tabs opq) (fun _=>false) true Tryd.f123) (.s .n (.s .n (.s (.k (.l 1 [0,1,2,6,7,8] .n)) (.m 2 [0,1,2,6,7] (.s .n (.k (.l 3 [0,1,2,6] (.s .n (.k (.s .n (.s (.k (.l 4 [0,1,2,6,7,8] .n)) (.m 5 [0,1,2,6,7] (.s .n (.m 6 [0,1,2,6] .n))))))))))))))
def b123_0(O:Oracle)(R:Jump)(q:Nat)(x0 x1 x2:TVal)(h:Heap):Res1 :=
 R 1 [x0,x1,x2,(kI 20),(kI 0),(kI 20)] h
theorem e123_0(O:Oracle)(R:Jump)(q:Nat)(x0 x1 x2:TVal)(h:Heap):b123_0 O R q x0 x1 x2 h=stepF c123 O R q 0 [x0,x1,x2] h:=by kernel_rfl
def b123_1(O:Oracle)(R:Jump)(q:Nat)(x0 x1 x2 x6 x7 x8:TVal)(h:Heap):Res1 :=
 vbin .leq 0 x8 x1 h fun x13 h =>
 vif x13 (
 vcall O (.v (.c (.func 148 []))) [x0,x7,x8,x2] h 18 fun x18 h =>
 vbin .add 0 x8 x6 h fun x22 h =>
 R 1 [x0,x1,x2,x6,x8,x22] h)
 (R 2 [x0,x1,x2,x6,x7] h)
theorem e123_1(O:Oracle)(R:Jump)(q:Nat)(x0 x1 x2 x6 x7 x8:TVal)(h:Heap):b123_1 O R q x0 x1 x2 x6 x7 x8 h=stepF c123 O R q 1 [x0,x1,x2,x6,x7,x8] h:=by kernel_rfl
def b123_2(O:Oracle)(R:Jump)(q:Nat)(x0 x1 x2 x6 x7:TVal)(h:Heap):Res1 :=
 vcall O (.v (.c (.func 148 []))) [x0,x7,x1,x2] h 27 fun x27 h =>
 R 3 [x0,x1,x2,x6] h
theorem e123_2(O:Oracle)(R:Jump)(q:Nat)(x0 x1 x2 x6 x7:TVal)(h:Heap):b123_2 O R q x0 x1 x2 x6 x7 h=stepF c123 O R q 2 [x0,x1,x2,x6,x7] h:=by kernel_rfl
def b123_3(O:Oracle)(R:Jump)(q:Nat)(x0 x1 x2 x6:TVal)(h:Heap):Res1 :=
 vbin .lss 0 x6 x1 h fun x30 h =>
 vif x30 (
 vbin .mul 0 (kI 2) x6 h fun x32 h =>
 R 4 [x0,x1,x2,x6,(kI 0),x32] h)
 (vfin true q [] h)
theorem e123_3(O:Oracle)(R:Jump)(q:Nat)(x0 x1 x2 x6:TVal)(h:Heap):b123_3 O R q x0 x1 x2 x6 h=stepF c123 O R q 3 [x0,x1,x2,x6] h:=by kernel_rfl
def b123_4(O:Oracle)(R:Jump)(q:Nat)(x0 x1 x2 x6 x7 x8:TVal)(h:Heap):Res1 :=
 vbin .leq 0 x8 x1 h fun x35 h =>
 vif x35 (
 vbin .add 0 x7 x6 h fun x40 h =>
 vcall O (.v (.c (.func 149 []))) [x0,x7,x40,x8,x2] h 43 fun x43 h =>
 vbin .mul 0 (kI 2) x6 h fun x47 h =>
 vbin .add 0 x8 x47 h fun x48 h =>
 R 4 [x0,x1,x2,x6,x8,x48] h)
 (R 5 [x0,x1,x2,x6,x7] h)
theorem e123_4(O:Oracle)(R:Jump)(q:Nat)(x0 x1 x2 x6 x7 x8:TVal)(h:Heap):b123_4 O R q x0 x1 x2 x6 x7 x8 h=stepF c123 O R q 4 [x0,x1,x2,x6,x7,x8] h:=by kernel_rfl
def b123_5(O:Oracle)(R:Jump)(q:Nat)(x0 x1 x2 x6 x7:TVal)(h:Heap):Res1 :=
 vbin .add 0 x7 x6 h fun x51 h =>
 vbin .lss 0 x51 x1 h fun x54 h =>
 vif x54 (
 vcall O (.v (.c (.func 149 []))) [x0,x7,x51,x1,x2] h 60 fun x60 h =>
 R 6 [x0,x1,x2,x6] h)
 (R 6 [x0,x1,x2,x6] h)
theorem e123_5(O:Oracle)(R:Jump)(q:Nat)(x0 x1 x2 x6 x7:TVal)(h:Heap):b123_5 O R q x0 x1 x2 x6 x7 h=stepF c123 O R q 5 [x0,x1,x2,x6,x7] h:=by kernel_rfl
def b123_6(O:Oracle)(R:Jump)(q:Nat)(x0 x1 x2 x6:TVal)(h:Heap):Res1 :=
 vbin .mul 0 x6 (kI 2) h fun x62 h =>
 R 3 [x0,x1,x2,x62] h
theorem e123_6(O:Oracle)(R:Jump)(q:Nat)(x0 x1 x2 x6:TVal)(h:Heap):b123_6 O R q x0 x1 x2 x6 h=stepF c123 O R q 6 [x0,x1,x2,x6] h:=by kernel_rfl
def d123:BlkF:=fun O R Q=>[.s fun a => .s fun b => .s fun c => .z (b123_0 O R Q a b c),.s fun a => .s fun b => .s fun c => .s fun d => .s fun e => .s fun f => .z (b123_1 O R Q a b c d e f),.s fun a => .s fun b => .s fun c => .s fun d => .s fun e => .z (b123_2 O R Q a b c d e),.s fun a => .s fun b => .s fun c => .s fun d => .z (b123_3 O R Q a b c d),.s fun a => .s fun b => .s fun c => .s fun d => .s fun e => .s fun f => .z (b123_4 O R Q a b c d e f),.s fun a => .s fun b => .s fun c => .s fun d => .s fun e => .z (b123_5 O R Q a b c d e),.s fun a => .s fun b => .s fun c => .s fun d => .z (b123_6 O R Q a b c d)]
theorem o123(O:Oracle)(R:Jump)(q:Nat):HoldsAll c123 O R q 0 (d123 O R q):=⟨e123_0 O R q,e123_1 O R q,e123_2 O R q,e123_3 O R q,e123_4 O R q,e123_5 O R q,e123_6 O R q,trivial⟩
def c126:MFunc:=mkM (compF Tryd.prog (globs2 tabs opq) (fun _=>false) true Tryd.f126) .n
def b126_0(O:Oracle)(R:Jump)(q:Nat)(x0 x1:TVal)(h:Heap):Res1 :=
 vcall O (.v (.c (.func 152 []))) [x0,x1] h 7 fun x7 h =>
 tcomp x7 fun c0=>vfin true q [c0] h
theorem e126_0(O:Oracle)(R:Jump)(q:Nat)(x0 x1:TVal)(h:Heap):b126_0 O R q x0 x1 h=stepF c126 O R q 0 [x0,x1] h:=by kernel_rfl
def d126:BlkF:=fun O R Q=>[.s fun a => .s fun b => .z (b126_0 O R Q a b)]
theorem o126(O:Oracle)(R:Jump)(q:Nat):HoldsAll c126 O R q 0 (d126 O R q):=⟨e126_0 O R q,trivial⟩
def c128:MFunc:=mkM (compF Tryd.prog (globs2 tabs opq) (fun _=>false) true Tryd.f128) .n
def b128_0(O:Oracle)(R:Jump)(q:Nat)(x0:TVal)(h:Heap):Res1 :=
 vbin .add 0 x0 (kI 16) h fun x4 h =>
 vbin .quo 0 x4 (kI 8) h fun x5 h =>
 tcomp x5 fun c0=>vfin true q [c0] h
theorem e128_0(O:Oracle)(R:Jump)(q:Nat)(x0:TVal)(h:Heap):b128_0 O R q x0 h=stepF c128 O R q 0 [x0] h:=by kernel_rfl
def d128:BlkF:=fun O R Q=>[.s fun a => .z (b128_0 O R Q a)]
theorem o128(O:Oracle)(R:Jump)(q:Nat):HoldsAll c128 O R q 0 (d128 O R q):=⟨e128_0 O R q,trivial⟩
def c129:MFunc:=mkM (compF Tryd.prog (globs2 tabs opq) (fun _=>false) true Tryd.f129) (.s .n (.s .n (.s .n (.s .n (.s (.s .n (.k (.l 1 [0,1,5,6,7,8,9] .n))) (.m 2 [0,1,5,6,7,8] (.s .n (.s (.s .n (.k (.l 3 [0,1,5,6,7,8,10] .n))) .n))))))))
def b129_0(O:Oracle)(R:Jump)(q:Nat)(x0 x1:TVal)(h:Heap):Res1 :=
 vcall O (.v (.c (.func 153 []))) [x1] h 13 fun x13 h =>
 vext x13 0 h fun x14 h =>
 vext x13 1 h fun x15 h =>
 vlen O 0 x1 h 17 fun x17 h =>
 R 1 [x0,x1,x14,x15,x17,(.v (.c (.p (.int .u32 0)))),(kI 0)] h
theorem e129_0(O:Oracle)(R:Jump)(q:Nat)(x0 x1:TVal)(h:Heap):b129_0 O R q x0 x1 h=stepF c129 O R q 0 [x0,x1] h:=by kernel_rfl
def b129_1(O:Oracle)(R:Jump)(q:Nat)(x0 x1 x5 x6 x7 x8 x9:TVal)(h:Heap):Res1 :=
 vbin .lss 0 x9 x7 h fun x20 h =>
 vif x20 (
 vbin .mul 0 x8 (.v (.c (.p (.int .u32 16777619)))) h fun x24 h =>
 vindex x0 x9 h fun x27 h =>
 vtoInt .u32 x27 h fun x28 h =>
 vbin .add 0 x24 x28 h fun x29 h =>
 vbin .add 0 x9 (kI 1) h fun x22 h =>
 R 1 [x0,x1,x5,x6,x7,x29,x22] h)
 (R 2 [x0,x1,x5,x6,x7,x8] h)
theorem e129_1(O:Oracle)(R:Jump)(q:Nat)(x0 x1 x5 x6 x7 x8 x9:TVal)(h:Heap):b129_1 O R q x0 x1 x5 x6 x7 x8 x9 h=stepF c129 O R q 1 [x0,x1,x5,x6,x7,x8,x9] h:=by kernel_rfl
def b129_2(O:Oracle)(R:Jump)(q:Nat)(x0 x1 x5 x6 x7 x8:TVal)(h:Heap):Res1 :=
 vbin .eql 0 x8 x5 h fun x32 h =>
 vguard x32 true (fun kk=>kk x0 h) h fun x34 h =>
 vguard x32 true (fun kk=>kk x7 h) h fun x35 h =>
 vguard x32 true (fun kk=>vop O (.slice 0 true (.k x34) none (some (.k x35)) none) h 36 kk) h fun x36 h =>
 vguard x32 true (fun kk=>kk x1 h) h fun x37 h =>
 vguard x32 true (fun kk=>vbin .eql 0 x36 x37 h kk) h fun x38 h =>
 vop O (.pick (.k x32) (.k x38) (.k (kB false))) h 39 fun x39 h =>
 vif x39 (
 tcomp (kI 0) fun c0=>vfin true q [c0] h)
 (R 3 [x0,x1,x5,x6,x7,x8,x7] h)
theorem e129_2(O:Oracle)(R:Jump)(q:Nat)(x0 x1 x5 x6 x7 x8:TVal)(h:Heap):b129_2 O R q x0 x1 x5 x6 x7 x8 h=stepF c129 O R q 2 [x0,x1,x5,x6,x7,x8] h:=by kernel_rfl
def b129_3(O:Oracle)(R:Jump)(q:Nat)(x0 x1 x5 x6 x7 x8 x10:TVal)(h:Heap):Res1 :=
 vlen O 0 x0 h 43 fun x43 h =>
 vbin .lss 0 x10 x43 h fun x44 h =>
 vif x44 (
 vbin .mul 0 x8 (.v (.c (.p (.int .u32 16777619)))) h fun x46 h =>
 vindex x0 x10 h fun x50 h =>
 vtoInt .u32 x50 h fun x51 h =>
 vbin .add 0 x46 x51 h fun x52 h =>
 vbin .sub 0 x10 x7 h fun x58 h =>
 vindex x0 x58 h fun x59 h =>
 vtoInt .u32 x59 h fun x60 h =>
 vbin .mul 0 x6 x60 h fun x61 h =>
 vbin .sub 0 x52 x61 h fun x62 h =>
 vbin .add 0 x10 (kI 1) h fun x64 h =>
 vbin .eql 0 x62 x5 h fun x67 h =>
 vguard x67 true (fun kk=>kk x0 h) h fun x69 h =>
 vguard x67 true (fun kk=>kk x64 h) h fun x70 h =>
 vguard x67 true (fun kk=>kk x7 h) h fun x71 h =>
 vguard x67 true (fun kk=>vbin .sub 0 x70 x71 h kk) h fun x72 h =>
 vguard x67 true (fun kk=>kk x64 h) h fun x73 h =>
 vguard x67 true (fun kk=>vop O (.slice 0 true (.k x69) (some (.k x72)) (some (.k x73)) none) h 74 kk) h fun x74 h =>
 vguard x67 true (fun kk=>kk x1 h) h fun x75 h =>
 vguard x67 true (fun kk=>vbin .eql 0 x74 x75 h kk) h fun x76 h =>
 vop O (.pick (.k x67) (.k x76) (.k (kB false))) h 77 fun x77 h =>
 vif x77 (
 vbin .sub 0 x64 x7 h fun x80 h =>
 tcomp x80 fun c0=>vfin true q [c0] h)
 (R 3 [x0,x1,x5,x6,x7,x62,x64] h))
 (tcomp (kI (-1)) fun c0=>vfin true q [c0] h)
theorem e129_3(O:Oracle)(R:Jump)(q:Nat)(x0 x1 x5 x6 x7 x8 x10:TVal)(h:Heap):b129_3 O R q x0 x1 x5 x6 x7 x8 x10 h=stepF c129 O R q 3 [x0,x1,x5,x6,x7,x8,x10] h:=by kernel_rfl
def d129:BlkF:=fun O R Q=>[.s fun a => .s fun b => .z (b129_0 O R Q a b),.s fun a => .s fun b => .s fun c => .s fun d => .s fun e => .s fun f => .s fun g => .z (b129_1 O R Q a b c d e f g),.s fun a => .s fun b => .s fun c => .s fun d => .s fun e => .s fun f => .z (b129_2 O R Q a b c d e f),.s fun a => .s fun b => .s fun c => .s fun d => .s fun e => .s fun f => .s fun g => .z (b129_3 O R Q a b c d e f g)]
theorem o129(O:Oracle)(R:Jump)(q:Nat):HoldsAll c129 O R q 0 (d129 O R q):=⟨e129_0 O R q,e129_1 O R q,e129_2 O R q,e129_3 O R q,trivial⟩
def c130:MFunc:=mkM (compF Tryd.prog (globs2 tabs opq) (fun _=>false) true Tryd.f130) .n
def b130_0(O:Oracle)(R:Jump)(q:Nat)(x0 x1:TVal)(h:Heap):Res1 :=
 vlen O 0 x0 h 6 fun x6 h =>
 vlen O 0 x1 h 8 fun x8 h =>
 vbin .geq 0 x6 x8 h fun x9 h =>
 vguard x9 true (fun kk=>kk x0 h) h fun x11 h =>
 vguard x9 true (fun kk=>kk x1 h) h fun x12 h =>
 vguard x9 true (fun kk=>vlen O 0 x12 h 13 kk) h fun x13 h =>
 vguard x9 true (fun kk=>vop O (.slice 0 true (.k x11) none (some (.k x13)) none) h 14 kk) h fun x14 h =>
 vguard x9 true (fun kk=>kk x1 h) h fun x15 h =>
 vguard x9 true (fun kk=>vbin .eql 0 x14 x15 h kk) h fun x16 h =>
 vop O (.pick (.k x9) (.k x16) (.k (kB false))) h 17 fun x17 h =>
 tcomp x17 fun c0=>vfin true q [c0] h
theorem e130_0(O:Oracle)(R:Jump)(q:Nat)(x0 x1:TVal)(h:Heap):b130_0 O R q x0 x1 h=stepF c130 O R q 0 [x0,x1] h:=by kernel_rfl
def d130:BlkF:=fun O R Q=>[.s fun a => .s fun b => .z (b130_0 O R Q a b)]
theorem o130(O:Oracle)(R:Jump)(q:Nat):HoldsAll c130 O R q 0 (d130 O R q):=⟨e130_0 O R q,trivial⟩
def c137:MFunc:=mkM (compF Tryd.prog (globs2 tabs opq) (fun _=>false) true Tryd.f137) (.s .n (.s (.s .n (.k (.l 1 [0,1,7] .n))) (.m 2 [0] .n)))
def b137_0(O:Oracle)(R:Jump)(q:Nat)(x0 x1:TVal)(h:Heap):Res1 :=
 vop O (.rangeS (.k x0)) h 7 fun x7 h =>
 R 1 [x0,x1,x7] h
theorem e137_0(O:Oracle)(R:Jump)(q:Nat)(x0 x1:TVal)(h:Heap):b137_0 O R q x0 x1 h=stepF c137 O R q 0 [x0,x1] h:=by kernel_rfl
def b137_1(O:Oracle)(R:Jump)(q:Nat)(x0 x1 x7:TVal)(h:Heap):Res1 :=
 vop O (.nextS (.k x7)) h 8 fun x8 h =>
 vext x8 0 h fun x9 h =>
 vif x9 (
 vext x8 1 h fun x10 h =>
 vindex x0 x10 h fun x14 h =>
 vcall O x1 [x14] h 15 fun x15 h =>
 vop O (.un .not (.k x15)) h 16 fun x16 h =>
 vif x16 (
 tcomp x10 fun c0=>vfin true q [c0] h)
 (R 1 [x0,x1,x7] h))
 (R 2 [x0] h)
theorem e137_1(O:Oracle)(R:Jump)(q:Nat)(x0 x1 x7:TVal)(h:Heap):b137_1 O R q x0 x1 x7 h=stepF c137 O R q 1 [x0,x1,x7] h:=by kernel_rfl
def b137_2(O:Oracle)(R:Jump)(q:Nat)(x0:TVal)(h:Heap):Res1 :=
 vlen O 0 x0 h 19 fun x19 h =>
 tcomp x19 fun c0=>vfin true q [c0] h
theorem e137_2(O:Oracle)(R:Jump)(q:Nat)(x0:TVal)(h:Heap):b137_2 O R q x0 h=stepF c137 O R q 2 [x0] h:=by kernel_rfl
def d137:BlkF:=fun O R Q=>[.s fun a => .s fun b => .z (b137_0 O R Q a b),.s fun a => .s fun b => .s fun c => .z (b137_1 O R Q a b c),.s fun a => .z (b137_2 O R Q a)]
theorem o137(O:Oracle)(R:Jump)(q:Nat):HoldsAll c137 O R q 0 (d137 O R q):=⟨e137_0 O R q,e137_1 O R q,e137_2 O R q,trivial⟩
def c138:MFunc:=mkM (compF Tryd.prog (globs2 tabs opq) (fun _=>false) true Tryd.f138) .n
def b138_0(O:Oracle)(R:Jump)(q:Nat)(x0:TVal)(h:Heap):Res1 :=
 vcall O (.v (.c (.func 118 []))) [x0] h 4 fun x4 h =>
 vguard x4 false (fun kk=>kk x0 h) h fun x6 h =>
 vguard x4 false (fun kk=>vcall O (.v (.c (.func 107 []))) [x6] h 7 kk) h fun x7 h =>
 vop O (.pick (.k x4) (.k (kB true)) (.k x7)) h 8 fun x8 h =>
 tcomp x8 fun c0=>vfin true q [c0] h
theorem e138_0(O:Oracle)(R:Jump)(q:Nat)(x0:TVal)(h:Heap):b138_0 O R q x0 h=stepF c138 O R q 0 [x0] h:=by kernel_rfl
def d138:BlkF:=fun O R Q=>[.s fun a => .z (b138_0 O R Q a)]
theorem o138(O:Oracle)(R:Jump)(q:Nat):HoldsAll c138 O R q 0 (d138 O R q):=⟨e138_0 O R q,trivial⟩
def c145:MFunc:=mkM (compF Tryd.prog (globs2 tabs opq) (fun _=>false) true Tryd.f145) .n
def b145_0(O:Oracle)(R:Jump)(q:Nat)(x0 x1:TVal)(h:Heap):Res1 :=
 vcall O (.v (.c (.func 161 []))) [x0,x1] h 7 fun x7 h =>
 tcomp x7 fun c0=>vfin true q [c0] h
theorem e145_0(O:Oracle)(R:Jump)(q:Nat)(x0 x1:TVal)(h:Heap):b145_0 O R q x0 x1 h=stepF c145 O R q 0 [x0,x1] h:=by kernel_rfl
def d145:BlkF:=fun O R Q=>[.s fun a => .s fun b => .z (b145_0 O R Q a b)]
theorem o145(O:Oracle)(R:Jump)(q:Nat):HoldsAll c145 O R q 0 (d145 O R q):=⟨e145_0 O R q,trivial⟩
def c146:MFunc:=mkM (compF Tryd.prog (globs2 tabs opq) (fun _=>false) true Tryd.f146) .n
def b146_0(O:Oracle)(R:Jump)(q:Nat)(x0:TVal)(h:Heap):Res1 :=
 vbin .eql 0 x0 (.v (.c (.p (.int .u8 110)))) h fun x6 h =>
 vif x6 (
 tcomp (.v (.c (.p (.int .u8 10)))) fun c0=>tcomp (kB true) fun c1=>vfin true q [c0,c1] h)
 (vbin .eql 0 x0 (.v (.c (.p (.int .u8 116)))) h fun x8 h =>
 vif x8 (
 tcomp (.v (.c (.p (.int .u8 9)))) fun c0=>tcomp (kB true) fun c1=>vfin true q [c0,c1] h)
 (vbin .eql 0 x0 (.v (.c (.p (.int .u8 34)))) h fun x10 h =>
 vif x10 (
 tcomp x0 fun c0=>tcomp (kB true) fun c1=>vfin true q [c0,c1] h)
 (vbin .eql 0 x0 (.v (.c (.p (.int .u8 92)))) h fun x12 h =>
 vif x12 (
 tcomp x0 fun c0=>tcomp (kB true) fun c1=>vfin true q [c0,c1] h)
 (tcomp (.v (.c (.p (.int .u8 0)))) fun c0=>tcomp (kB false) fun c1=>vfin true q [c0,c1] h))))
theorem e146_0(O:Oracle)(R:Jump)(q:Nat)(x0:TVal)(h:Heap):b146_0 O R q x0 h=stepF c146 O R q 0 [x0] h:=by kernel_rfl
def d146:BlkF:=fun O R Q=>[.s fun a => .z (b146_0 O R Q a)]
theorem o146(O:Oracle)(R:Jump)(q:Nat):HoldsAll c146 O R q 0 (d146 O R q):=⟨e146_0 O R q,trivial⟩
def c147:MFunc:=mkM (compF Tryd.prog (globs2 tabs opq) (fun _=>false) true Tryd.f147) (.s .n (.s .n (.s .n (.s .n (.s (.s .n (.k (.l 1 [0,3,4,5,6] .n))) (.m 2 [0,3,5] (.s .n (.s .n (.s .n (.s .n (.s .n (.s (.k (.l 3 [0,9,10,12] .n)) (.m 4 [0,9,10,12] (.s .n (.s (.k (.l 5 [0,9,10,11,12] (.s .n (.k (.s .n (.s .n (.s .n (.s .n (.s (.k (.l 6 [0,9,10,12] .n)) .n))))))))) (.m 7 [0,9,10,11] .n))))))))))))))))
def b147_0(O:Oracle)(R:Jump)(q:Nat)(x0:TVal)(h:Heap):Res1 :=
 R 1 [x0,(kI 0),(kI 1),(.v (.c (.p (.int .u8 0)))),(kI 0)] h
theorem e147_0(O:Oracle)(R:Jump)(q:Nat)(x0:TVal)(h:Heap):b147_0 O R q x0 h=stepF c147 O R q 0 [x0] h:=by kernel_rfl
def b147_1(O:Oracle)(R:Jump)(q:Nat)(x0 x3 x4 x5 x6:TVal)(h:Heap):Res1 :=
 vlen O 0 x0 h 15 fun x15 h =>
 vbin .lss 0 x6 x15 h fun x16 h =>
 vif x16 (
 vindex x0 x6 h fun x21 h =>
 vbin .or 0 x5 x21 h fun x24 h =>
 vop O (.iaddrA 256 1 (.k (.v (.c (.p (.pptr [(.int .u8 0),(.int .u8 0),(.int .u8 0),(.int .u8 0),(.int .u8 0),(.int .u8 0),(.int .u8 0),(.int .u8 0),(.int .u8 0),(.int .u8 1),(.int .u8 1),(.int .u8 1),(.int .u8 1),(.int .u8 1),(.int .u8 0),(.int .u8 0),(.int .u8 0),(.int .u8 0),(.int .u8 0),(.int .u8 0),(.int .u8 0),(.int .u8 0),(.int .u8 0),(.int .u8 0),(.int .u8 0),(.int .u8 0),(.int .u8 0),(.int .u8 0),(.int .u8 0),(.int .u8 0),(.int .u8 0),(.int .u8 0),(.int .u8 1),(.int .u8 0),(.int .u8 0),(.int .u8 0),(.int .u8 0),(.int .u8 0),(.int .u8 0),(.int .u8 0),(.int .u8 0),(.int .u8 0),(.int .u8 0),(.int .u8 0),(.int .u8 0),(.int .u8 0),(.int .u8 0),(.int .u8 0),(.int .u8 0),(.int .u8 0),(.int .u8 0),(.int .u8 0),(.int .u8 0),(.int .u8 0),(.int .u8 0),(.int .u8 0),(.int .u8 0),(.int .u8 0),(.int .u8 0),(.int .u8 0),(.int .u8 0),(.int .u8 0),(.int .u8 0),(.int .u8 0),(.int .u8 0),(.int .u8 0),(.int .u8 0),(.int .u8 0),(.int .u8 0),(.int .u8 0),(.int .u8 0),(.int .u8 0),(.int .u8 0),(.int .u8 0),(.int .u8 0),(.int .u8 0),(.int .u8 0),(.int .u8 0),(.int .u8 0),(.int .u8 0),(.int .u8 0),(.int .u8 0),(.int .u8 0),(.int .u8 0),(.int .u8 0),(.int .u8 0),(.int .u8 0),(.int .u8 0),(.int .u8 0),(.int .u8 0),(.int .u8 0),(.int .u8 0),(.int .u8 0),(.int .u8 0),(.int .u8 0),(.int .u8 0),(.int .u8 0),(.int .u8 0),(.int .u8 0),(.int .u8 0),(.int .u8 0),(.int .u8 0),(.int .u8 0),(.int .u8 0),(.int .u8 0),(.int .u8 0),(.int .u8 0),(.int .u8 0),(.int .u8 0),(.int .u8 0),(.int .u8 0),(.int .u8 0),(.int .u8 0),(.int .u8 0),(.int .u8 0),(.int .u8 0),(.int .u8 0),(.int .u8 0),(.int .u8 0),(.int .u8 0),(.int .u8 0),(.int .u8 0),(.int .u8 0),(.int .u8 0),(.int .u8 0),(.int .u8 0),(.int .u8 0),(.int .u8 0),(.int .u8 0),(.int .u8 0),(.int .u8 0),(.int .u8 0),(.int .u8 0),(.int .u8 0),(.int .u8 0),(.int .u8 0),(.int .u8 0),(.int .u8 0),(.int .u8 0),(.int .u8 0),(.int .u8 0),(.int .u8 0),(.int .u8 0),(.int .u8 0),(.int .u8 0),(.int .u8 0),(.int .u8 0),(.int .u8 0),(.int .u8 0),(.int .u8 0),(.int .u8 0),(.int .u8 0),(.int .u8 0),(.int .u8 0),(.int .u8 0),(.int .u8 0),(.int .u8 0),(.int .u8 0),(.int .u8 0),(.int .u8 0),(.int .u8 0),(.int .u8 0),(.int .u8 0),(.int .u8 0),(.int .u8 0),(.int .u8 0),(.int .u8 0),(.int .u8 0),(.int .u8 0),(.int .u8 0),(.int .u8 0),(.int .u8 0),(.int .u8 0),(.int .u8 0),(.int .u8 0),(.int .u8 0),(.int .u8 0),(.int .u8 0),(.int .u8 0),(.int .u8 0),(.int .u8 0),(.int .u8 0),(.int .u8 0),(.int .u8 0),(.int .u8 0),(.int .u8 0),(.int .u8 0),(.int .u8 0),(.int .u8 0),(.int .u8 0),(.int .u8 0),(.int .u8 0),(.int .u8 0),(.int .u8 0),(.int .u8 0),(.int .u8 0),(.int .u8 0),(.int .u8 0),(.int .u8 0),(.int .u8 0),(.int .u8 0),(.int .u8 0),(.int .u8 0),(.int .u8 0),(.int .u8 0),(.int .u8 0),(.int .u8 0),(.int .u8 0),(.int .u8 0),(.int .u8 0),(.int .u8 0),(.int .u8 0),(.int .u8 0),(.int .u8 0),(.int .u8 0),(.int .u8 0),(.int .u8 0),(.int .u8 0),(.int .u8 0),(.int .u8 0),(.int .u8 0),(.int .u8 0),(.int .u8 0),(.int .u8 0),(.int .u8 0),(.int .u8 0),(.int .u8 0),(.int .u8 0),(.int .u8 0),(.int .u8 0),(.int .u8 0),(.int .u8 0),(.int .u8 0),(.int .u8 0),(.int .u8 0),(.int .u8 0),(.int .u8 0),(.int .u8 0),(.int .u8 0),(.int .u8 0),(.int .u8 0),(.int .u8 0),(.int .u8 0),(.int .u8 0),(.int .u8 0),(.int .u8 0),(.int .u8 0),(.int .u8 0),(.int .u8 0),(.int .u8 0),(.int .u8 0),(.int .u8 0),(.int .u8 0),(.int .u8 0),(.int .u8 0),(.int .u8 0)] 0))))) (.k x21)) h 26 fun x26 h =>
 vload false 1 x26 h fun x27 h =>
 vtoInt .i64 x27 h fun x28 h =>
 vop O (.un .xor (.k x28)) h 32 fun x32 h =>
 vbin .and 0 x4 x32 h fun x33 h =>
 vbin .add 0 x3 x33 h fun x34 h =>
 vbin .add 0 x6 (kI 1) h fun x18 h =>
 R 1 [x0,x34,x28,x24,x18] h)
 (R 2 [x0,x3,x5] h)
theorem e147_1(O:Oracle)(R:Jump)(q:Nat)(x0 x3 x4 x5 x6:TVal)(h:Heap):b147_1 O R q x0 x3 x4 x5 x6 h=stepF c147 O R q 1 [x0,x3,x4,x5,x6] h:=by kernel_rfl
def b147_2(O:Oracle)(R:Jump)(q:Nat)(x0 x3 x5:TVal)(h:Heap):Res1 :=
 vbin .geq 0 x5 (.v (.c (.p (.int .u8 128)))) h fun x37 h =>
 vif x37 (
 vcall O (.v (.c (.func 162 []))) [x0,(.v (.c (.func 163 [])))] h 39 fun x39 h =>
 tcomp x39 fun c0=>vfin true q [c0] h)
 (vop O (.mkslice 1 16 [(.p (.str []))] (.k x3) (.k x3) false) h 41 fun x41 h =>
 R 3 [x0,x41,(kI 0),(kI 0)] h)
theorem e147_2(O:Oracle)(R:Jump)(q:Nat)(x0 x3 x5:TVal)(h:Heap):b147_2 O R q x0 x3 x5 h=stepF c147 O R q 2 [x0,x3,x5] h:=by kernel_rfl
def b147_3(O:Oracle)(R:Jump)(q:Nat)(x0 x9 x10 x12:TVal)(h:Heap):Res1 :=
 vlen O 0 x0 h 44 fun x44 h =>
 vbin .lss 0 x12 x44 h fun x45 h =>
 vguard x45 true (fun kk=>kk x0 h) h fun x47 h =>
 vguard x45 true (fun kk=>kk x12 h) h fun x48 h =>
 vguard x45 true (fun kk=>vindex x47 x48 h kk) h fun x49 h =>
 vguard x45 true (fun kk=>vop O (.iaddrA 256 1 (.k (.v (.c (.p (.pptr [(.int .u8 0),(.int .u8 0),(.int .u8 0),(.int .u8 0),(.int .u8 0),(.int .u8 0),(.int .u8 0),(.int .u8 0),(.int .u8 0),(.int .u8 1),(.int .u8 1),(.int .u8 1),(.int .u8 1),(.int .u8 1),(.int .u8 0),(.int .u8 0),(.int .u8 0),(.int .u8 0),(.int .u8 0),(.int .u8 0),(.int .u8 0),(.int .u8 0),(.int .u8 0),(.int .u8 0),(.int .u8 0),(.int .u8 0),(.int .u8 0),(.int .u8 0),(.int .u8 0),(.int .u8 0),(.int .u8 0),(.int .u8 0),(.int .u8 1),(.int .u8 0),(.int .u8 0),(.int .u8 0),(.int .u8 0),(.int .u8 0),(.int .u8 0),(.int .u8 0),(.int .u8 0),(.int .u8 0),(.int .u8 0),(.int .u8 0),(.int .u8 0),(.int .u8 0),(.int .u8 0),(.int .u8 0),(.int .u8 0),(.int .u8 0),(.int .u8 0),(.int .u8 0),(.int .u8 0),(.int .u8 0),(.int .u8 0),(.int .u8 0),(.int .u8 0),(.int .u8 0),(.int .u8 0),(.int .u8 0),(.int .u8 0),(.int .u8 0),(.int .u8 0),(.int .u8 0),(.int .u8 0),(.int .u8 0),(.int .u8 0),(.int .u8 0),(.int .u8 0),(.int .u8 0),(.int .u8 0),(.int .u8 0),(.int .u8 0),(.int .u8 0),(.int .u8 0),(.int .u8 0),(.int .u8 0),(.int .u8 0),(.int .u8 0),(.int .u8 0),(.int .u8 0),(.int .u8 0),(.int .u8 0),(.int .u8 0),(.int .u8 0),(.int .u8 0),(.int .u8 0),(.int .u8 0),(.int .u8 0),(.int .u8 0),(.int .u8 0),(.int .u8 0),(.int .u8 0),(.int .u8 0),(.int .u8 0),(.int .u8 0),(.int .u8 0),(.int .u8 0),(.int .u8 0),(.int .u8 0),(.int .u8 0),(.int .u8 0),(.int .u8 0),(.int .u8 0),(.int .u8 0),(.int .u8 0),(.int .u8 0),(.int .u8 0),(.int .u8 0),(.int .u8 0),(.int .u8 0),(.int .u8 0),(.int .u8 0),(.int .u8 0),(.int .u8 0),(.int .u8 0),(.int .u8 0),(.int .u8 0),(.int .u8 0),(.int .u8 0),(.int .u8 0),(.int .u8 0),(.int .u8 0),(.int .u8 0),(.int .u8 0),(.int .u8 0),(.int .u8 0),(.int .u8 0),(.int .u8 0),(.int .u8 0),(.int .u8 0),(.int .u8 0),(.int .u8 0),(.int .u8 0),(.int .u8 0),(.int .u8 0),(.int .u8 0),(.int .u8 0),(.int .u8 0),(.int .u8 0),(.int .u8 0),(.int .u8 0),(.int .u8 0),(.int .u8 0),(.int .u8 0),(.int .u8 0),(.int .u8 0),(.int .u8 0),(.int .u8 0),(.int .u8 0),(.int .u8 0),(.int .u8 0),(.int .u8 0),(.int .u8 0),(.int .u8 0),(.int .u8 0),(.int .u8 0),(.int .u8 0),(.int .u8 0),(.int .u8 0),(.int .u8 0),(.int .u8 0),(.int .u8 0),(.int .u8 0),(.int .u8 0),(.int .u8 0),(.int .u8 0),(.int .u8 0),(.int .u8 0),(.int .u8 0),(.int .u8 0),(.int .u8 0),(.int .u8 0),(.int .u8 0),(.int .u8 0),(.int .u8 0),(.int .u8 0),(.int .u8 0),(.int .u8 0),(.int .u8 0),(.int .u8 0),(.int .u8 0),(.int .u8 0),(.int .u8 0),(.int .u8 0),(.int .u8 0),(.int .u8 0),(.int .u8 0),(.int .u8 0),(.int .u8 0),(.int .u8 0),(.int .u8 0),(.int .u8 0),(.int .u8 0),(.int .u8 0),(.int .u8 0),(.int .u8 0),(.int .u8 0),(.int .u8 0),(.int .u8 0),(.int .u8 0),(.int .u8 0),(.int .u8 0),(.int .u8 0),(.int .u8 0),(.int .u8 0),(.int .u8 0),(.int .u8 0),(.int .u8 0),(.int .u8 0),(.int .u8 0),(.int .u8 0),(.int .u8 0),(.int .u8 0),(.int .u8 0),(.int .u8 0),(.int .u8 0),(.int .u8 0),(.int .u8 0),(.int .u8 0),(.int .u8 0),(.int .u8 0),(.int .u8 0),(.int .u8 0),(.int .u8 0),(.int .u8 0),(.int .u8 0),(.int .u8 0),(.int .u8 0),(.int .u8 0),(.int .u8 0),(.int .u8 0),(.int .u8 0),(.int .u8 0),(.int .u8 0),(.int .u8 0),(.int .u8 0),(.int .u8 0),(.int .u8 0),(.int .u8 0),(.int .u8 0),(.int .u8 0),(.int .u8 0),(.int .u8 0),(.int .u8 0),(.int .u8 0),(.int .u8 0),(.int .u8 0),(.int .u8 0),(.int .u8 0),(.int .u8 0),(.int .u8 0),(.int .u8 0),(.int .u8 0),(.int .u8 0),(.int .u8 0)] 0))))) (.k x49)) h 50 kk) h fun x50 h =>
 vguard x45 true (fun kk=>vload false 1 x50 h kk) h fun x51 h =>
 vguard x45 true (fun kk=>vbin .neq 0 x51 (.v (.c (.p (.int .u8 0)))) h kk) h fun x52 h =>
 vop O (.pick (.k x45) (.k x52) (.k (kB false))) h 53 fun x53 h =>
 vif x53 (
 vbin .add 0 x12 (kI 1) h fun x55 h =>
 R 3 [x0,x9,x10,x55] h)
 (R 4 [x0,x9,x10,x12] h)
theorem e147_3(O:Oracle)(R:Jump)(q:Nat)(x0 x9 x10 x12:TVal)(h:Heap):b147_3 O R q x0 x9 x10 x12 h=stepF c147 O R q 3 [x0,x9,x10,x12] h:=by kernel_rfl
def b147_4(O:Oracle)(R:Jump)(q:Nat)(x0 x9 x10 x12:TVal)(h:Heap):Res1 :=
 R 5 [x0,x9,x10,x12,x12] h
theorem e147_4(O:Oracle)(R:Jump)(q:Nat)(x0 x9 x10 x12:TVal)(h:Heap):b147_4 O R q x0 x9 x10 x12 h=stepF c147 O R q 4 [x0,x9,x10,x12] h:=by kernel_rfl
def b147_5(O:Oracle)(R:Jump)(q:Nat)(x0 x9 x10 x11 x12:TVal)(h:Heap):Res1 :=
 vlen O 0 x0 h 59 fun x59 h =>
 vbin .lss 0 x12 x59 h fun x60 h =>
 vif x60 (
 vindex x0 x12 h fun x63 h =>
 vop O (.iaddrA 256 1 (.k (.v (.c (.p (.pptr [(.int .u8 0),(.int .u8 0),(.int .u8 0),(.int .u8 0),(.int .u8 0),(.int .u8 0),(.int .u8 0),(.int .u8 0),(.int .u8 0),(.int .u8 1),(.int .u8 1),(.int .u8 1),(.int .u8 1),(.int .u8 1),(.int .u8 0),(.int .u8 0),(.int .u8 0),(.int .u8 0),(.int .u8 0),(.int .u8 0),(.int .u8 0),(.int .u8 0),(.int .u8 0),(.int .u8 0),(.int .u8 0),(.int .u8 0),(.int .u8 0),(.int .u8 0),(.int .u8 0),(.int .u8 0),(.int .u8 0),(.int .u8 0),(.int .u8 1),(.int .u8 0),(.int .u8 0),(.int .u8 0),(.int .u8 0),(.int .u8 0),(.int .u8 0),(.int .u8 0),(.int .u8 0),(.int .u8 0),(.int .u8 0),(.int .u8 0),(.int .u8 0),(.int .u8 0),(.int .u8 0),(.int .u8 0),(.int .u8 0),(.int .u8 0),(.int .u8 0),(.int .u8 0),(.int .u8 0),(.int .u8 0),(.int .u8 0),(.int .u8 0),(.int .u8 0),(.int .u8 0),(.int .u8 0),(.int .u8 0),(.int .u8 0),(.int .u8 0),(.int .u8 0),(.int .u8 0),(.int .u8 0),(.int .u8 0),(.int .u8 0),(.int .u8 0),(.int .u8 0),(.int .u8 0),(.int .u8 0),(.int .u8 0),(.int .u8 0),(.int .u8 0),(.int .u8 0),(.int .u8 0),(.int .u8 0),(.int .u8 0),(.int .u8 0),(.int .u8 0),(.int .u8 0),(.int .u8 0),(.int .u8 0),(.int .u8 0),(.int .u8 0),(.int .u8 0),(.int .u8 0),(.int .u8 0),(.int .u8 0),(.int .u8 0),(.int .u8 0),(.int .u8 0),(.int .u8 0),(.int .u8 0),(.int .u8 0),(.int .u8 0),(.int .u8 0),(.int .u8 0),(.int .u8 0),(.int .u8 0),(.int .u8 0),(.int .u8 0),(.int .u8 0),(.int .u8 0),(.int .u8 0),(.int .u8 0),(.int .u8 0),(.int .u8 0),(.int .u8 0),(.int .u8 0),(.int .u8 0),(.int .u8 0),(.int .u8 0),(.int .u8 0),(.int .u8 0),(.int .u8 0),(.int .u8 0),(.int .u8 0),(.int .u8 0),(.int .u8 0),(.int .u8 0),(.int .u8 0),(.int .u8 0),(.int .u8 0),(.int .u8 0),(.int .u8 0),(.int .u8 0),(.int .u8 0),(.int .u8 0),(.int .u8 0),(.int .u8 0),(.int .u8 0),(.int .u8 0),(.int .u8 0),(.int .u8 0),(.int .u8 0),(.int .u8 0),(.int .u8 0),(.int .u8 0),(.int .u8 0),(.int .u8 0),(.int .u8 0),(.int .u8 0),(.int .u8 0),(.int .u8 0),(.int .u8 0),(.int .u8 0),(.int .u8 0),(.int .u8 0),(.int .u8 0),(.int .u8 0),(.int .u8 0),(.int .u8 0),(.int .u8 0),(.int .u8 0),(.int .u8 0),(.int .u8 0),(.int .u8 0),(.int .u8 0),(.int .u8 0),(.int .u8 0),(.int .u8 0),(.int .u8 0),(.int .u8 0),(.int .u8 0),(.int .u8 0),(.int .u8 0),(.int .u8 0),(.int .u8 0),(.int .u8 0),(.int .u8 0),(.int .u8 0),(.int .u8 0),(.int .u8 0),(.int .u8 0),(.int .u8 0),(.int .u8 0),(.int .u8 0),(.int .u8 0),(.int .u8 0),(.int .u8 0),(.int .u8 0),(.int .u8 0),(.int .u8 0),(.int .u8 0),(.int .u8 0),(.int .u8 0),(.int .u8 0),(.int .u8 0),(.int .u8 0),(.int .u8 0),(.int .u8 0),(.int .u8 0),(.int .u8 0),(.int .u8 0),(.int .u8 0),(.int .u8 0),(.int .u8 0),(.int .u8 0),(.int .u8 0),(.int .u8 0),(.int .u8 0),(.int .u8 0),(.int .u8 0),(.int .u8 0),(.int .u8 0),(.int .u8 0),(.int .u8 0),(.int .u8 0),(.int .u8 0),(.int .u8 0),(.int .u8 0),(.int .u8 0),(.int .u8 0),(.int .u8 0),(.int .u8 0),(.int .u8 0),(.int .u8 0),(.int .u8 0),(.int .u8 0),(.int .u8 0),(.int .u8 0),(.int .u8 0),(.int .u8 0),(.int .u8 0),(.int .u8 0),(.int .u8 0),(.int .u8 0),(.int .u8 0),(.int .u8 0),(.int .u8 0),(.int .u8 0),(.int .u8 0),(.int .u8 0),(.int .u8 0),(.int .u8 0),(.int .u8 0),(.int .u8 0),(.int .u8 0),(.int .u8 0),(.int .u8 0),(.int .u8 0),(.int .u8 0),(.int .u8 0),(.int .u8 0),(.int .u8 0),(.int .u8 0),(.int .u8 0),(.int .u8 0),(.int .u8 0),(.int .u8 0),(.int .u8 0),(.int .u8 0),(.int .u8 0),(.int .u8 0),(.int .u8 0)] 0))))) (.k x63)) h 64 fun x64 h =>
 vload false 1 x64 h fun x65 h =>
 vbin .eql 0 x65 (.v (.c (.p (.int .u8 0)))) h fun x66 h =>
 vif x66 (
 vbin .add 0 x12 (kI 1) h fun x68 h =>
 R 5 [x0,x9,x10,x11,x68] h)
 (vop O (.slice 0 true (.k x0) (some (.k x11)) (some (.k x12)) none) h 74 fun x74 h =>
 viaddr 1 x9 x10 h fun x75 h =>
 vstore 1 x75 x74 h fun _ h =>
 vbin .add 0 x10 (kI 1) h fun x77 h =>
 vbin .add 0 x12 (kI 1) h fun x79 h =>
 R 6 [x0,x9,x77,x79] h))
 (R 7 [x0,x9,x10,x11] h)
theorem e147_5(O:Oracle)(R:Jump)(q:Nat)(x0 x9 x10 x11 x12:TVal)(h:Heap):b147_5 O R q x0 x9 x10 x11 x12 h=stepF c147 O R q 5 [x0,x9,x10,x11,x12] h:=by kernel_rfl
def b147_6(O:Oracle)(R:Jump)(q:Nat)(x0 x9 x10 x12:TVal)(h:Heap):Res1 :=
 vlen O 0 x0 h 82 fun x82 h =>
 vbin .lss 0 x12 x82 h fun x83 h =>
 vguard x83 true (fun kk=>kk x0 h) h fun x85 h =>
 vguard x83 true (fun kk=>kk x12 h) h fun x86 h =>
 vguard x83 true (fun kk=>vindex x85 x86 h kk) h fun x87 h =>
 vguard x83 true (fun kk=>vop O (.iaddrA 256 1 (.k (.v (.c (.p (.pptr [(.int .u8 0),(.int .u8 0),(.int .u8 0),(.int .u8 0),(.int .u8 0),(.int .u8 0),(.int .u8 0),(.int .u8 0),(.int .u8 0),(.int .u8 1),(.int .u8 1),(.int .u8 1),(.int .u8 1),(.int .u8 1),(.int .u8 0),(.int .u8 0),(.int .u8 0),(.int .u8 0),(.int .u8 0),(.int .u8 0),(.int .u8 0),(.int .u8 0),(.int .u8 0),(.int .u8 0),(.int .u8 0),(.int .u8 0),(.int .u8 0),(.int .u8 0),(.int .u8 0),(.int .u8 0),(.int .u8 0),(.int .u8 0),(.int .u8 1),(.int .u8 0),(.int .u8 0),(.int .u8 0),(.int .u8 0),(.int .u8 0),(.int .u8 0),(.int .u8 0),(.int .u8 0),(.int .u8 0),(.int .u8 0),(.int .u8 0),(.int .u8 0),(.int .u8 0),(.int .u8 0),(.int .u8 0),(.int .u8 0),(.int .u8 0),(.int .u8 0),(.int .u8 0),(.int .u8 0),(.int .u8 0),(.int .u8 0),(.int .u8 0),(.int .u8 0),(.int .u8 0),(.int .u8 0),(.int .u8 0),(.int .u8 0),(.int .u8 0),(.int .u8 0),(.int .u8 0),(.int .u8 0),(.int .u8 0),(.int .u8 0),(.int .u8 0),(.int .u8 0),(.int .u8 0),(.int .u8 0),(.int .u8 0),(.int .u8 0),(.int .u8 0),(.int .u8 0),(.int .u8 0),(.int .u8 0),(.int .u8 0),(.int .u8 0),(.int .u8 0),(.int .u8 0),(.int .u8 0),(.int .u8 0),(.int .u8 0),(.int .u8 0),(.int .u8 0),(.int .u8 0),(.int .u8 0),(.int .u8 0),(.int .u8 0),(.int .u8 0),(.int .u8 0),(.int .u8 0),(.int .u8 0),(.int .u8 0),(.int .u8 0),(.int .u8 0),(.int .u8 0),(.int .u8 0),(.int .u8 0),(.int .u8 0),(.int .u8 0),(.int .u8 0),(.int .u8 0),(.int .u8 0),(.int .u8 0),(.int .u8 0),(.int .u8 0),(.int .u8 0),(.int .u8 0),(.int .u8 0),(.int .u8 0),(.int .u8 0),(.int .u8 0),(.int .u8 0),(.int .u8 0),(.int .u8 0),(.int .u8 0),(.int .u8 0),(.int .u8 0),(.int .u8 0),(.int .u8 0),(.int .u8 0),(.int .u8 0),(.int .u8 0),(.int .u8 0),(.int .u8 0),(.int .u8 0),(.int .u8 0),(.int .u8 0),(.int .u8 0),(.int .u8 0),(.int .u8 0),(.int .u8 0),(.int .u8 0),(.int .u8 0),(.int .u8 0),(.int .u8 0),(.int .u8 0),(.int .u8 0),(.int .u8 0),(.int .u8 0),(.int .u8 0),(.int .u8 0),(.int .u8 0),(.int .u8 0),(.int .u8 0),(.int .u8 0),(.int .u8 0),(.int .u8 0),(.int .u8 0),(.int .u8 0),(.int .u8 0),(.int .u8 0),(.int .u8 0),(.int .u8 0),(.int .u8 0),(.int .u8 0),(.int .u8 0),(.int .u8 0),(.int .u8 0),(.int .u8 0),(.int .u8 0),(.int .u8 0),(.int .u8 0),(.int .u8 0),(.int .u8 0),(.int .u8 0),(.int .u8 0),(.int .u8 0),(.int .u8 0),(.int .u8 0),(.int .u8 0),(.int .u8 0),(.int .u8 0),(.int .u8 0),(.int .u8 0),(.int .u8 0),(.int .u8 0),(.int .u8 0),(.int .u8 0),(.int .u8 0),(.int .u8 0),(.int .u8 0),(.int .u8 0),(.int .u8 0),(.int .u8 0),(.int .u8 0),(.int .u8 0),(.int .u8 0),(.int .u8 0),(.int .u8 0),(.int .u8 0),(.int .u8 0),(.int .u8 0),(.int .u8 0),(.int .u8 0),(.int .u8 0),(.int .u8 0),(.int .u8 0),(.int .u8 0),(.int .u8 0),(.int .u8 0),(.int .u8 0),(.int .u8 0),(.int .u8 0),(.int .u8 0),(.int .u8 0),(.int .u8 0),(.int .u8 0),(.int .u8 0),(.int .u8 0),(.int .u8 0),(.int .u8 0),(.int .u8 0),(.int .u8 0),(.int .u8 0),(.int .u8 0),(.int .u8 0),(.int .u8 0),(.int .u8 0),(.int .u8 0),(.int .u8 0),(.int .u8 0),(.int .u8 0),(.int .u8 0),(.int .u8 0),(.int .u8 0),(.int .u8 0),(.int .u8 0),(.int .u8 0),(.int .u8 0),(.int .u8 0),(.int .u8 0),(.int .u8 0),(.int .u8 0),(.int .u8 0),(.int .u8 0),(.int .u8 0),(.int .u8 0),(.int .u8 0),(.int .u8 0),(.int .u8 0),(.int .u8 0),(.int .u8 0),(.int .u8 0),(.int .u8 0),(.int .u8 0),(.int .u8 0),(.int .u8 0),(.int .u8 0),(.int .u8 0),(.int .u8 0),(.int .u8 0),(.int .u8 0),(.int .u8 0)] 0))))) (.k x87)) h 88 kk) h fun x88 h =>
 vguard x83 true (fun kk=>vload false 1 x88 h kk) h fun x89 h =>
 vguard x83 true (fun kk=>vbin .neq 0 x89 (.v (.c (.p (.int .u8 0)))) h kk) h fun x90 h =>
 vop O (.pick (.k x83) (.k x90) (.k (kB false))) h 91 fun x91 h =>
 vif x91 (
 vbin .add 0 x12 (kI 1) h fun x93 h =>
 R 6 [x0,x9,x10,x93] h)
 (R 5 [x0,x9,x10,x12,x12] h)
theorem e147_6(O:Oracle)(R:Jump)(q:Nat)(x0 x9 x10 x12:TVal)(h:Heap):b147_6 O R q x0 x9 x10 x12 h=stepF c147 O R q 6 [x0,x9,x10,x12] h:=by kernel_rfl
def b147_7(O:Oracle)(R:Jump)(q:Nat)(x0 x9 x10 x11:TVal)(h:Heap):Res1 :=
 vlen O 0 x0 h 97 fun x97 h =>
 vbin .lss 0 x11 x97 h fun x98 h =>
 vif x98 (
 vop O (.slice 0 true (.k x0) (some (.k x11)) none none) h 103 fun x103 h =>
 viaddr 1 x9 x10 h fun x104 h =>
 vstore 1 x104 x103 h fun _ h =>
 tcomp x9 fun c0=>vfin true q [c0] h)
 (tcomp x9 fun c0=>vfin true q [c0] h)
theorem e147_7(O:Oracle)(R:Jump)(q:Nat)(x0 x9 x10 x11:TVal)(h:Heap):b147_7 O R q x0 x9 x10 x11 h=stepF c147 O R q 7 [x0,x9,x10,x11] h:=by kernel_rfl
def d147:BlkF:=fun O R Q=>[.s fun a => .z (b147_0 O R Q a),.s fun a => .s fun b => .s fun c => .s fun d => .s fun e => .z (b147_1 O R Q a b c d e),.s fun a => .s fun b => .s fun c => .z (b147_2 O R Q a b c),.s fun a => .s fun b => .s fun c => .s fun d => .z (b147_3 O R Q a b c d),.s fun a => .s fun b => .s fun c => .s fun d => .z (b147_4 O R Q a b c d),.s fun a => .s fun b => .s fun c => .s fun d => .s fun e => .z (b147_5 O R Q a b c d e),.s fun a => .s fun b => .s fun c => .s fun d => .z (b147_6 O R Q a b c d),.s fun a => .s fun b => .s fun c => .s fun d => .z (b147_7 O R Q a b c d)]
theorem o147(O:Oracle)(R:Jump)(q:Nat):HoldsAll c147 O R q 0 (d147 O R q):=⟨e147_0 O R q,e147_1 O R q,e147_2 O R q,e147_3 O R q,e147_4 O R q,e147_5 O R q,e147_6 O R q,e147_7 O R q,trivial⟩
def c148:MFunc:=mkM (compF Tryd.prog (globs2 tabs opq) (fun _=>false) true Tryd.f148) (.s .n (.k (.l 1 [0,1,2,3,8] (.s .n (.s (.k (.s .n (.k (.l 2 [0,1,2,3,8,9] .n)))) (.m 3 [0,1,2,3,8] .n))))))
def b148_0(O:Oracle)(R:Jump)(q:Nat)(x0 x1 x2 x3:TVal)(h:Heap):Res1 :=
 vbin .add 0 x1 (kI 1) h fun x11 h =>
 R 1 [x0,x1,x2,x3,x11] h
theorem e148_0(O:Oracle)(R:Jump)(q:Nat)(x0 x1 x2 x3:TVal)(h:Heap):b148_0 O R q x0 x1 x2 x3 h=stepF c148 O R q 0 [x0,x1,x2,x3] h:=by kernel_rfl
def b148_1(O:Oracle)(R:Jump)(q:Nat)(x0 x1 x2 x3 x8:TVal)(h:Heap):Res1 :=
 vbin .lss 0 x8 x2 h fun x14 h =>
 vif x14 (
 R 2 [x0,x1,x2,x3,x8,x8] h)
 (vfin true q [] h)
theorem e148_1(O:Oracle)(R:Jump)(q:Nat)(x0 x1 x2 x3 x8:TVal)(h:Heap):b148_1 O R q x0 x1 x2 x3 x8 h=stepF c148 O R q 1 [x0,x1,x2,x3,x8] h:=by kernel_rfl
def b148_2(O:Oracle)(R:Jump)(q:Nat)(x0 x1 x2 x3 x8 x9:TVal)(h:Heap):Res1 :=
 vbin .gtr 0 x9 x1 h fun x20 h =>
 vguard x20 true (fun kk=>kk x3 h) h fun x22 h =>
 vguard x20 true (fun kk=>kk x0 h) h fun x23 h =>
 vguard x20 true (fun kk=>kk x9 h) h fun x24 h =>
 vguard x20 true (fun kk=>viaddr 5 x23 x24 h kk) h fun x25 h =>
 vguard x20 true (fun kk=>vload true 5 x25 h kk) h fun x26 h =>
 vguard x20 true (fun kk=>kk x0 h) h fun x27 h =>
 vguard x20 true (fun kk=>kk x9 h) h fun x28 h =>
 vguard x20 true (fun kk=>vbin .sub 0 x28 (kI 1) h kk) h fun x29 h =>
 vguard x20 true (fun kk=>viaddr 5 x27 x29 h kk) h fun x30 h =>
 vguard x20 true (fun kk=>vload true 5 x30 h kk) h fun x31 h =>
 vguard x20 true (fun kk=>vcall O x22 [x26,x31] h 32 kk) h fun x32 h =>
 vguard x20 true (fun kk=>vbin .lss 0 x32 (kI 0) h kk) h fun x33 h =>
 vop O (.pick (.k x20) (.k x33) (.k (kB false))) h 34 fun x34 h =>
 vif x34 (
 vbin .sub 0 x9 (kI 1) h fun x41 h =>
 vbin .sub 0 x9 (kI 1) h fun x44 h =>
 viaddr 5 x0 x44 h fun x45 h =>
 vload true 5 x45 h fun x46 h =>
 viaddr 5 x0 x9 h fun x49 h =>
 vload true 5 x49 h fun x50 h =>
 viaddr 5 x0 x9 h fun x51 h =>
 vstore 5 x51 x46 h fun _ h =>
 viaddr 5 x0 x41 h fun x52 h =>
 vstore 5 x52 x50 h fun _ h =>
 vbin .sub 0 x9 (kI 1) h fun x36 h =>
 R 2 [x0,x1,x2,x3,x8,x36] h)
 (R 3 [x0,x1,x2,x3,x8] h)
theorem e148_2(O:Oracle)(R:Jump)(q:Nat)(x0 x1 x2 x3 x8 x9:TVal)(h:Heap):b148_2 O R q x0 x1 x2 x3 x8 x9 h=stepF c148 O R q 2 [x0,x1,x2,x3,x8,x9] h:=by kernel_rfl
def b148_3(O:Oracle)(R:Jump)(q:Nat)(x0 x1 x2 x3 x8:TVal)(h:Heap):Res1 :=
 vbin .add 0 x8 (kI 1) h fun x16 h =>
 R 1 [x0,x1,x2,x3,x16] h
theorem e148_3(O:Oracle)(R:Jump)(q:Nat)(x0 x1 x2 x3 x8:TVal)(h:Heap):b148_3 O R q x0 x1 x2 x3 x8 h=stepF c148 O R q 3 [x0,x1,x2,x3,x8] h:=by kernel_rfl
def d148:BlkF:=fun O R Q=>[.s fun a => .s fun b => .s fun c => .s fun d => .z (b148_0 O R Q a b c d),.s fun a => .s fun b => .s fun c => .s fun d => .s fun e => .z (b148_1 O R Q a b c d e),.s fun a => .s fun b => .s fun c => .s fun d => .s fun e => .s fun f => .z (b148_2 O R Q a b c d e f),.s fun a => .s fun b => .s fun c => .s fun d => .s fun e => .z (b148_3 O R Q a b c d e)]
theorem o148(O:Oracle)(R:Jump)(q:Nat):HoldsAll c148 O R q 0 (d148 O R q):=⟨e148_0 O R q,e148_1 O R q,e148_2 O R q,e148_3 O R q,trivial⟩
def c149:MFunc:=mkM (compF Tryd.prog (globs2 tabs opq) (fun _=>false) true Tryd.f149) (.s (.s .n (.s (.s .n (.s .n (.s (.k (.l 1 [0,1,4,10,11] .n)) (.m 2 [0,1,10] (.s (.s .n (.k (.l 3 [0,10,13] .n))) (.m 4 [] .n)))))) .n)) (.m 5 [0,1,2,3,4] (.s (.s .n (.s (.s .n (.s .n (.s (.k (.l 6 [0,2,4,14,15] .n)) (.m 7 [0,2,14] (.s (.s .n (.k (.l 8 [0,14,17] .n))) (.m 9 [] .n)))))) .n)) (.m 10 [0,1,2,3,4] (.s .n (.s .n (.s .n (.s .n (.m 11 [0,1,2,3,4,18,19,20,21] (.s .n (.s (.k (.l 12 [0,1,2,3,4,18,19,20,21,22] .n)) (.m 13 [0,1,2,3,4,18,19,20] (.s .n (.s .n (.m 14 [0,1,3,4,18,20,24] (.s .n (.m 15 [0,3,4,18,24] .n)))))))))))))))))
def b149_0(O:Oracle)(R:Jump)(q:Nat)(x0 x1 x2 x3 x4:TVal)(h:Heap):Res1 :=
 vbin .sub 0 x2 x1 h fun x27 h =>
 vbin .eql 0 x27 (kI 1) h fun x28 h =>
 vif x28 (
 R 1 [x0,x1,x4,x2,x3] h)
 (R 5 [x0,x1,x2,x3,x4] h)
theorem e149_0(O:Oracle)(R:Jump)(q:Nat)(x0 x1 x2 x3 x4:TVal)(h:Heap):b149_0 O R q x0 x1 x2 x3 x4 h=stepF c149 O R q 0 [x0,x1,x2,x3,x4] h:=by kernel_rfl
def b149_1(O:Oracle)(R:Jump)(q:Nat)(x0 x1 x4 x10 x11:TVal)(h:Heap):Res1 :=
 vbin .lss 0 x10 x11 h fun x33 h =>
 vif x33 (
 vbin .add 0 x10 x11 h fun x36 h =>
 vtoInt .u64 x36 h fun x37 h =>
 vbin .shr 0 x37 (.v (.c (.p (.int .u64 1)))) h fun x38 h =>
 vtoInt .i64 x38 h fun x39 h =>
 viaddr 5 x0 x39 h fun x43 h =>
 vload true 5 x43 h fun x44 h =>
 viaddr 5 x0 x1 h fun x47 h =>
 vload true 5 x47 h fun x48 h =>
 vcall O x4 [x44,x48] h 49 fun x49 h =>
 vbin .lss 0 x49 (kI 0) h fun x50 h =>
 vif x50 (
 vbin .add 0 x39 (kI 1) h fun x52 h =>
 R 1 [x0,x1,x4,x52,x11] h)
 (R 1 [x0,x1,x4,x10,x39] h))
 (R 2 [x0,x1,x10] h)
theorem e149_1(O:Oracle)(R:Jump)(q:Nat)(x0 x1 x4 x10 x11:TVal)(h:Heap):b149_1 O R q x0 x1 x4 x10 x11 h=stepF c149 O R q 1 [x0,x1,x4,x10,x11] h:=by kernel_rfl
def b149_2(O:Oracle)(R:Jump)(q:Nat)(x0 x1 x10:TVal)(h:Heap):Res1 :=
 R 3 [x0,x10,x1] h
theorem e149_2(O:Oracle)(R:Jump)(q:Nat)(x0 x1 x10:TVal)(h:Heap):b149_2 O R q x0 x1 x10 h=stepF c149 O R q 2 [x0,x1,x10] h:=by kernel_rfl
def b149_3(O:Oracle)(R:Jump)(q:Nat)(x0 x10 x13:TVal)(h:Heap):Res1 :=
 vbin .sub 0 x10 (kI 1) h fun x57 h =>
 vbin .lss 0 x13 x57 h fun x58 h =>
 vif x58 (
 vbin .add 0 x13 (kI 1) h fun x65 h =>
 vbin .add 0 x13 (kI 1) h fun x68 h =>
 viaddr 5 x0 x68 h fun x69 h =>
 vload true 5 x69 h fun x70 h =>
 viaddr 5 x0 x13 h fun x73 h =>
 vload true 5 x73 h fun x74 h =>
 viaddr 5 x0 x13 h fun x75 h =>
 vstore 5 x75 x70 h fun _ h =>
 viaddr 5 x0 x65 h fun x76 h =>
 vstore 5 x76 x74 h fun _ h =>
 vbin .add 0 x13 (kI 1) h fun x60 h =>
 R 3 [x0,x10,x60] h)
 (R 4 [] h)
theorem e149_3(O:Oracle)(R:Jump)(q:Nat)(x0 x10 x13:TVal)(h:Heap):b149_3 O R q x0 x10 x13 h=stepF c149 O R q 3 [x0,x10,x13] h:=by kernel_rfl
def b149_4(O:Oracle)(R:Jump)(q:Nat)(h:Heap):Res1 :=
 vfin true q [] h
theorem e149_4(O:Oracle)(R:Jump)(q:Nat)(h:Heap):b149_4 O R q  h=stepF c149 O R q 4 [] h:=by kernel_rfl
def b149_5(O:Oracle)(R:Jump)(q:Nat)(x0 x1 x2 x3 x4:TVal)(h:Heap):Res1 :=
 vbin .sub 0 x3 x2 h fun x79 h =>
 vbin .eql 0 x79 (kI 1) h fun x80 h =>
 vif x80 (
 R 6 [x0,x2,x4,x1,x2] h)
 (R 10 [x0,x1,x2,x3,x4] h)
theorem e149_5(O:Oracle)(R:Jump)(q:Nat)(x0 x1 x2 x3 x4:TVal)(h:Heap):b149_5 O R q x0 x1 x2 x3 x4 h=stepF c149 O R q 5 [x0,x1,x2,x3,x4] h:=by kernel_rfl
def b149_6(O:Oracle)(R:Jump)(q:Nat)(x0 x2 x4 x14 x15:TVal)(h:Heap):Res1 :=
 vbin .lss 0 x14 x15 h fun x85 h =>
 vif x85 (
 vbin .add 0 x14 x15 h fun x88 h =>
 vtoInt .u64 x88 h fun x89 h =>
 vbin .shr 0 x89 (.v (.c (.p (.int .u64 1)))) h fun x90 h =>
 vtoInt .i64 x90 h fun x91 h =>
 viaddr 5 x0 x2 h fun x95 h =>
 vload true 5 x95 h fun x96 h =>
 viaddr 5 x0 x91 h fun x99 h =>
 vload true 5 x99 h fun x100 h =>
 vcall O x4 [x96,x100] h 101 fun x101 h =>
 vbin .lss 0 x101 (kI 0) h fun x102 h =>
 vop O (.un .not (.k x102)) h 103 fun x103 h =>
 vif x103 (
 vbin .add 0 x91 (kI 1) h fun x105 h =>
 R 6 [x0,x2,x4,x105,x15] h)
 (R 6 [x0,x2,x4,x14,x91] h))
 (R 7 [x0,x2,x14] h)
theorem e149_6(O:Oracle)(R:Jump)(q:Nat)(x0 x2 x4 x14 x15:TVal)(h:Heap):b149_6 O R q x0 x2 x4 x14 x15 h=stepF c149 O R q 6 [x0,x2,x4,x14,x15] h:=by kernel_rfl
def b149_7(O:Oracle)(R:Jump)(q:Nat)(x0 x2 x14:TVal)(h:Heap):Res1 :=
 R 8 [x0,x14,x2] h
theorem e149_7(O:Oracle)(R:Jump)(q:Nat)(x0 x2 x14:TVal)(h:Heap):b149_7 O R q x0 x2 x14 h=stepF c149 O R q 7 [x0,x2,x14] h:=by kernel_rfl
def b149_8(O:Oracle)(R:Jump)(q:Nat)(x0 x14 x17:TVal)(h:Heap):Res1 :=
 vbin .gtr 0 x17 x14 h fun x110 h =>
 vif x110 (
 vbin .sub 0 x17 (kI 1) h fun x117 h =>
 vbin .sub 0 x17 (kI 1) h fun x120 h =>
 viaddr 5 x0 x120 h fun x121 h =>
 vload true 5 x121 h fun x122 h =>
 viaddr 5 x0 x17 h fun x125 h =>
 vload true 5 x125 h fun x126 h =>
 viaddr 5 x0 x17 h fun x127 h =>
 vstore 5 x127 x122 h fun _ h =>
 viaddr 5 x0 x117 h fun x128 h =>
 vstore 5 x128 x126 h fun _ h =>
 vbin .sub 0 x17 (kI 1) h fun x112 h =>
 R 8 [x0,x14,x112] h)
 (R 9 [] h)
theorem e149_8(O:Oracle)(R:Jump)(q:Nat)(x0 x14 x17:TVal)(h:Heap):b149_8 O R q x0 x14 x17 h=stepF c149 O R q 8 [x0,x14,x17] h:=by kernel_rfl
def b149_9(O:Oracle)(R:Jump)(q:Nat)(h:Heap):Res1 :=
 vfin true q [] h
theorem e149_9(O:Oracle)(R:Jump)(q:Nat)(h:Heap):b149_9 O R q  h=stepF c149 O R q 9 [] h:=by kernel_rfl
def b149_10(O:Oracle)(R:Jump)(q:Nat)(x0 x1 x2 x3 x4:TVal)(h:Heap):Res1 :=
 vbin .add 0 x1 x3 h fun x131 h =>
 vtoInt .u64 x131 h fun x132 h =>
 vbin .shr 0 x132 (.v (.c (.p (.int .u64 1)))) h fun x133 h =>
 vtoInt .i64 x133 h fun x134 h =>
 vbin .add 0 x134 x2 h fun x137 h =>
 vbin .gtr 0 x2 x134 h fun x140 h =>
 vif x140 (
 vbin .sub 0 x137 x3 h fun x143 h =>
 R 11 [x0,x1,x2,x3,x4,x134,x137,x143,x134] h)
 (R 11 [x0,x1,x2,x3,x4,x134,x137,x1,x2] h)
theorem e149_10(O:Oracle)(R:Jump)(q:Nat)(x0 x1 x2 x3 x4:TVal)(h:Heap):b149_10 O R q x0 x1 x2 x3 x4 h=stepF c149 O R q 10 [x0,x1,x2,x3,x4] h:=by kernel_rfl
def b149_11(O:Oracle)(R:Jump)(q:Nat)(x0 x1 x2 x3 x4 x18 x19 x20 x21:TVal)(h:Heap):Res1 :=
 vbin .sub 0 x19 (kI 1) h fun x148 h =>
 R 12 [x0,x1,x2,x3,x4,x18,x19,x20,x21,x148] h
theorem e149_11(O:Oracle)(R:Jump)(q:Nat)(x0 x1 x2 x3 x4 x18 x19 x20 x21:TVal)(h:Heap):b149_11 O R q x0 x1 x2 x3 x4 x18 x19 x20 x21 h=stepF c149 O R q 11 [x0,x1,x2,x3,x4,x18,x19,x20,x21] h:=by kernel_rfl
def b149_12(O:Oracle)(R:Jump)(q:Nat)(x0 x1 x2 x3 x4 x18 x19 x20 x21 x22:TVal)(h:Heap):Res1 :=
 vbin .lss 0 x20 x21 h fun x151 h =>
 vif x151 (
 vbin .add 0 x20 x21 h fun x154 h =>
 vtoInt .u64 x154 h fun x155 h =>
 vbin .shr 0 x155 (.v (.c (.p (.int .u64 1)))) h fun x156 h =>
 vtoInt .i64 x156 h fun x157 h =>
 vbin .sub 0 x22 x157 h fun x162 h =>
 viaddr 5 x0 x162 h fun x163 h =>
 vload true 5 x163 h fun x164 h =>
 viaddr 5 x0 x157 h fun x167 h =>
 vload true 5 x167 h fun x168 h =>
 vcall O x4 [x164,x168] h 169 fun x169 h =>
 vbin .lss 0 x169 (kI 0) h fun x170 h =>
 vop O (.un .not (.k x170)) h 171 fun x171 h =>
 vif x171 (
 vbin .add 0 x157 (kI 1) h fun x173 h =>
 R 12 [x0,x1,x2,x3,x4,x18,x19,x173,x21,x22] h)
 (R 12 [x0,x1,x2,x3,x4,x18,x19,x20,x157,x22] h))
 (R 13 [x0,x1,x2,x3,x4,x18,x19,x20] h)
theorem e149_12(O:Oracle)(R:Jump)(q:Nat)(x0 x1 x2 x3 x4 x18 x19 x20 x21 x22:TVal)(h:Heap):b149_12 O R q x0 x1 x2 x3 x4 x18 x19 x20 x21 x22 h=stepF c149 O R q 12 [x0,x1,x2,x3,x4,x18,x19,x20,x21,x22] h:=by kernel_rfl
def b149_13(O:Oracle)(R:Jump)(q:Nat)(x0 x1 x2 x3 x4 x18 x19 x20:TVal)(h:Heap):Res1 :=
 vbin .sub 0 x19 x20 h fun x177 h =>
 vbin .lss 0 x20 x2 h fun x180 h =>
 vguard x180 true (fun kk=>kk x2 h) h fun x182 h =>
 vguard x180 true (fun kk=>kk x177 h) h fun x183 h =>
 vguard x180 true (fun kk=>vbin .lss 0 x182 x183 h kk) h fun x184 h =>
 vop O (.pick (.k x180) (.k x184) (.k (kB false))) h 185 fun x185 h =>
 vif x185 (
 vcall O (.v (.c (.func 164 []))) [x0,x20,x2,x177,x4] h 191 fun x191 h =>
 R 14 [x0,x1,x3,x4,x18,x20,x177] h)
 (R 14 [x0,x1,x3,x4,x18,x20,x177] h)
theorem e149_13(O:Oracle)(R:Jump)(q:Nat)(x0 x1 x2 x3 x4 x18 x19 x20:TVal)(h:Heap):b149_13 O R q x0 x1 x2 x3 x4 x18 x19 x20 h=stepF c149 O R q 13 [x0,x1,x2,x3,x4,x18,x19,x20] h:=by kernel_rfl
def b149_14(O:Oracle)(R:Jump)(q:Nat)(x0 x1 x3 x4 x18 x20 x24:TVal)(h:Heap):Res1 :=
 vbin .lss 0 x1 x20 h fun x194 h =>
 vguard x194 true (fun kk=>kk x20 h) h fun x196 h =>
 vguard x194 true (fun kk=>kk x18 h) h fun x197 h =>
 vguard x194 true (fun kk=>vbin .lss 0 x196 x197 h kk) h fun x198 h =>
 vop O (.pick (.k x194) (.k x198) (.k (kB false))) h 199 fun x199 h =>
 vif x199 (
 vcall O (.v (.c (.func 149 []))) [x0,x1,x20,x18,x4] h 205 fun x205 h =>
 R 15 [x0,x3,x4,x18,x24] h)
 (R 15 [x0,x3,x4,x18,x24] h)
theorem e149_14(O:Oracle)(R:Jump)(q:Nat)(x0 x1 x3 x4 x18 x20 x24:TVal)(h:Heap):b149_14 O R q x0 x1 x3 x4 x18 x20 x24 h=stepF c149 O R q 14 [x0,x1,x3,x4,x18,x20,x24] h:=by kernel_rfl
def b149_15(O:Oracle)(R:Jump)(q:Nat)(x0 x3 x4 x18 x24:TVal)(h:Heap):Res1 :=
 vbin .lss 0 x18 x24 h fun x208 h =>
 vguard x208 true (fun kk=>kk x24 h) h fun x210 h =>
 vguard x208 true (fun kk=>kk x3 h) h fun x211 h =>
 vguard x208 true (fun kk=>vbin .lss 0 x210 x211 h kk) h fun x212 h =>
 vop O (.pick (.k x208) (.k x212) (.k (kB false))) h 213 fun x213 h =>
 vif x213 (
 vcall O (.v (.c (.func 149 []))) [x0,x18,x24,x3,x4] h 219 fun x219 h =>
 vfin true q [] h)
 (vfin true q [] h)
theorem e149_15(O:Oracle)(R:Jump)(q:Nat)(x0 x3 x4 x18 x24:TVal)(h:Heap):b149_15 O R q x0 x3 x4 x18 x24 h=stepF c149 O R q 15 [x0,x3,x4,x18,x24] h:=by kernel_rfl
def d149:BlkF:=fun O R Q=>[.s fun a => .s fun b => .s fun c => .s fun d => .s fun e => .z (b149_0 O R Q a b c d e),.s fun a => .s fun b => .s fun c => .s fun d => .s fun e => .z (b149_1 O R Q a b c d e),.s fun a => .s fun b => .s fun c => .z (b149_2 O R Q a b c),.s fun a => .s fun b => .s fun c => .z (b149_3 O R Q a b c),.z (b149_4 O R Q ),.s fun a => .s fun b => .s fun c => .s fun d => .s fun e => .z (b149_5 O R Q a b c d e),.s fun a => .s fun b => .s fun c => .s fun d => .s fun e => .z (b149_6 O R Q a b c d e),.s fun a => .s fun b => .s fun c => .z (b149_7 O R Q a b c),.s fun a => .s fun b => .s fun c => .z (b149_8 O R Q a b c),.z (b149_9 O R Q ),.s fun a => .s fun b => .s fun c => .s fun d => .s fun e => .z (b149_10 O R Q a b c d e),.s fun a => .s fun b => .s fun c => .s fun d => .s fun e => .s fun f => .s fun g => .s fun h => .s fun i => .z (b149_11 O R Q a b c d e f g h i),.s fun a => .s fun b => .s fun c => .s fun d => .s fun e => .s fun f => .s fun g => .s fun h => .s fun i => .s fun j => .z (b149_12 O R Q a b c d e f g h i j),.s fun a => .s fun b => .s fun c => .s fun d => .s fun e => .s fun f => .s fun g => .s fun h => .z (b149_13 O R Q a b c d e f g h),.s fun a => .s fun b => .s fun c => .s fun d => .s fun e => .s fun f => .s fun g => .z (b149_14 O R Q a b c d e f g),.s fun a => .s fun b => .s fun c => .s fun d => .s fun e => .z (b149_15 O R Q a b c d e)]
theorem o149(O:Oracle)(R:Jump)(q:Nat):HoldsAll c149 O R q 0 (d149 O R q):=⟨e149_0 O R q,e149_1 O R q,e149_2 O R q,e149_3 O R q,e149_4 O R q,e149_5 O R q,e149_6 O R q,e149_7 O R q,e149_8 O R q,e149_9 O R q,e149_10 O R q,e149_11 O R q,e149_12 O R q,e149_13 O R q,e149_14 O R q,e149_15 O R q,trivial⟩
def c153:MFunc:=mkM (compF Tryd.prog (globs2 tabs opq) (fun _=>false) true Tryd.f153) (.s .n (.s .n (.s (.s .n (.k (.l 1 [0,4,5] .n))) (.m 2 [0,4] (.s .n (.s (.s .n (.k (.l 3 [4,6,7,8] (.s .n (.s (.k (.s .n (.m 4 [4,6,7,8] .n))) .n))))) .n))))))
def b153_0(O:Oracle)(R:Jump)(q:Nat)(x0:TVal)(h:Heap):Res1 :=
 R 1 [x0,(.v (.c (.p (.int .u32 0)))),(kI 0)] h
theorem e153_0(O:Oracle)(R:Jump)(q:Nat)(x0:TVal)(h:Heap):b153_0 O R q x0 h=stepF c153 O R q 0 [x0] h:=by kernel_rfl
def b153_1(O:Oracle)(R:Jump)(q:Nat)(x0 x4 x5:TVal)(h:Heap):Res1 :=
 vlen O 0 x0 h 11 fun x11 h =>
 vbin .lss 0 x5 x11 h fun x12 h =>
 vif x12 (
 vbin .mul 0 x4 (.v (.c (.p (.int .u32 16777619)))) h fun x16 h =>
 vindex x0 x5 h fun x19 h =>
 vtoInt .u32 x19 h fun x20 h =>
 vbin .add 0 x16 x20 h fun x21 h =>
 vbin .add 0 x5 (kI 1) h fun x14 h =>
 R 1 [x0,x21,x14] h)
 (R 2 [x0,x4] h)
theorem e153_1(O:Oracle)(R:Jump)(q:Nat)(x0 x4 x5:TVal)(h:Heap):b153_1 O R q x0 x4 x5 h=stepF c153 O R q 1 [x0,x4,x5] h:=by kernel_rfl
def b153_2(O:Oracle)(R:Jump)(q:Nat)(x0 x4:TVal)(h:Heap):Res1 :=
 vlen O 0 x0 h 23 fun x23 h =>
 R 3 [x4,(.v (.c (.p (.int .u32 1)))),(.v (.c (.p (.int .u32 16777619)))),x23] h
theorem e153_2(O:Oracle)(R:Jump)(q:Nat)(x0 x4:TVal)(h:Heap):b153_2 O R q x0 x4 h=stepF c153 O R q 2 [x0,x4] h:=by kernel_rfl
def b153_3(O:Oracle)(R:Jump)(q:Nat)(x4 x6 x7 x8:TVal)(h:Heap):Res1 :=
 vbin .gtr 0 x8 (kI 0) h fun x25 h =>
 vif x25 (
 vbin .and 0 x8 (kI 1) h fun x29 h =>
 vbin .neq 0 x29 (kI 0) h fun x30 h =>
 vif x30 (
 vbin .mul 0 x6 x7 h fun x33 h =>
 R 4 [x4,x33,x7,x8] h)
 (R 4 [x4,x6,x7,x8] h))
 (tcomp x4 fun c0=>tcomp x6 fun c1=>vfin true q [c0,c1] h)
theorem e153_3(O:Oracle)(R:Jump)(q:Nat)(x4 x6 x7 x8:TVal)(h:Heap):b153_3 O R q x4 x6 x7 x8 h=stepF c153 O R q 3 [x4,x6,x7,x8] h:=by kernel_rfl
def b153_4(O:Oracle)(R:Jump)(q:Nat)(x4 x6 x7 x8:TVal)(h:Heap):Res1 :=
 vbin .mul 0 x7 x7 h fun x36 h =>
 vbin .shr 0 x8 (.v (.c (.p (.int .u64 1)))) h fun x27 h =>
 R 3 [x4,x6,x36,x27] h
theorem e153_4(O:Oracle)(R:Jump)(q:Nat)(x4 x6 x7 x8:TVal)(h:Heap):b153_4 O R q x4 x6 x7 x8 h=stepF c153 O R q 4 [x4,x6,x7,x8] h:=by kernel_rfl
def d153:BlkF:=fun O R Q=>[.s fun a => .z (b153_0 O R Q a),.s fun a => .s fun b => .s fun c => .z (b153_1 O R Q a b c),.s fun a => .s fun b => .z (b153_2 O R Q a b),.s fun a => .s fun b => .s fun c => .s fun d => .z (b153_3 O R Q a b c d),.s fun a => .s fun b => .s fun c => .s fun d => .z (b153_4 O R Q a b c d)]
theorem o153(O:Oracle)(R:Jump)(q:Nat):HoldsAll c153 O R q 0 (d153 O R q):=⟨e153_0 O R q,e153_1 O R q,e153_2 O R q,e153_3 O R q,e153_4 O R q,trivial⟩
def c161:MFunc:=mkM (compF Tryd.prog (globs2 tabs opq) (fun _=>false) true Tryd.f161) .n
def b161_0(O:Oracle)(R:Jump)(q:Nat)(x0 x1:TVal)(h:Heap):Res1 :=
 vcall O (.v (.c (.func 130 []))) [x0,x1] h 7 fun x7 h =>
 vif x7 (
 vlen O 0 x1 h 10 fun x10 h =>
 vop O (.slice 0 true (.k x0) (some (.k x10)) none none) h 11 fun x11 h =>
 tcomp x11 fun c0=>vfin true q [c0] h)
 (tcomp x0 fun c0=>vfin true q [c0] h)
theorem e161_0(O:Oracle)(R:Jump)(q:Nat)(x0 x1:TVal)(h:Heap):b161_0 O R q x0 x1 h=stepF c161 O R q 0 [x0,x1] h:=by kernel_rfl
def d161:BlkF:=fun O R Q=>[.s fun a => .s fun b => .z (b161_0 O R Q a b)]
theorem o161(O:Oracle)(R:Jump)(q:Nat):HoldsAll c161 O R q 0 (d161 O R q):=⟨e161_0 O R q,trivial⟩
def c162:MFunc:=mkM (compF Tryd.prog (globs2 tabs opq) (fun _=>false) true Tryd.f162) (.s .n (.s .n (.s .n (.s (.s .n (.k (.l 1 [0,1,5,6,14] .n))) (.m 2 [0,5,6] (.s .n (.m 3 [0,5] (.s .n (.s (.s .n (.k (.l 4 [0,9,47,48,49] .n))) .n)))))))))
def b162_0(O:Oracle)(R:Jump)(q:Nat)(x0 x1:TVal)(h:Heap):Res1 :=
 vop O (.mkslice 2 16 [(.p (.int .i64 0)),(.p (.int .i64 0))] (.k (kI 0)) (.k (kI 32)) false) h 12 fun x12 h =>
 vop O (.rangeS (.k x0)) h 14 fun x14 h =>
 R 1 [x0,x1,x12,(kI (-1)),x14] h
theorem e162_0(O:Oracle)(R:Jump)(q:Nat)(x0 x1:TVal)(h:Heap):b162_0 O R q x0 x1 h=stepF c162 O R q 0 [x0,x1] h:=by kernel_rfl
def b162_1(O:Oracle)(R:Jump)(q:Nat)(x0 x1 x5 x6 x14:TVal)(h:Heap):Res1 :=
 vop O (.nextS (.k x14)) h 15 fun x15 h =>
 vext x15 0 h fun x16 h =>
 vif x16 (
 vext x15 1 h fun x17 h =>
 vext x15 2 h fun x18 h =>
 vcall O x1 [x18] h 21 fun x21 h =>
 vif x21 (
 vbin .geq 0 x6 (kI 0) h fun x23 h =>
 vif x23 (
 vop O (.build [(.p (.int .i64 0)),(.p (.int .i64 0))] [(0,1,(.k x6)),(1,1,(.k x17))]) h 27 fun x27 h =>
 vop O (.bslice 2 1 [(.p (.int .i64 0)),(.p (.int .i64 0))] [(0,(.k x27))] false) h 28 fun x28 h =>
 vop O (.append 2 16 false (.k x5) (.k x28)) h 29 fun x29 h =>
 vop O (.un .xor (.k x6)) h 31 fun x31 h =>
 R 1 [x0,x1,x29,x31,x14] h)
 (R 1 [x0,x1,x5,x6,x14] h))
 (vbin .lss 0 x6 (kI 0) h fun x33 h =>
 vif x33 (
 R 1 [x0,x1,x5,x17,x14] h)
 (R 1 [x0,x1,x5,x6,x14] h)))
 (R 2 [x0,x5,x6] h)
theorem e162_1(O:Oracle)(R:Jump)(q:Nat)(x0 x1 x5 x6 x14:TVal)(h:Heap):b162_1 O R q x0 x1 x5 x6 x14 h=stepF c162 O R q 1 [x0,x1,x5,x6,x14] h:=by kernel_rfl
def b162_2(O:Oracle)(R:Jump)(q:Nat)(x0 x5 x6:TVal)(h:Heap):Res1 :=
 vbin .geq 0 x6 (kI 0) h fun x36 h =>
 vif x36 (
 vlen O 0 x0 h 40 fun x40 h =>
 vop O (.build [(.p (.int .i64 0)),(.p (.int .i64 0))] [(0,1,(.k x6)),(1,1,(.k x40))]) h 41 fun x41 h =>
 vop O (.bslice 2 1 [(.p (.int .i64 0)),(.p (.int .i64 0))] [(0,(.k x41))] false) h 42 fun x42 h =>
 vop O (.append 2 16 false (.k x5) (.k x42)) h 43 fun x43 h =>
 R 3 [x0,x43] h)
 (R 3 [x0,x5] h)
theorem e162_2(O:Oracle)(R:Jump)(q:Nat)(x0 x5 x6:TVal)(h:Heap):b162_2 O R q x0 x5 x6 h=stepF c162 O R q 2 [x0,x5,x6] h:=by kernel_rfl
def b162_3(O:Oracle)(R:Jump)(q:Nat)(x0 x5:TVal)(h:Heap):Res1 :=
 vlen O 2 x5 h 45 fun x45 h =>
 vop O (.mkslice 1 16 [(.p (.str []))] (.k x45) (.k x45) false) h 46 fun x46 h =>
 vlen O 2 x5 h 48 fun x48 h =>
 R 4 [x0,x46,x5,x48,(kI 0)] h
theorem e162_3(O:Oracle)(R:Jump)(q:Nat)(x0 x5:TVal)(h:Heap):b162_3 O R q x0 x5 h=stepF c162 O R q 3 [x0,x5] h:=by kernel_rfl
def b162_4(O:Oracle)(R:Jump)(q:Nat)(x0 x9 x47 x48 x49:TVal)(h:Heap):Res1 :=
 vbin .lss 0 x49 x48 h fun x50 h =>
 vif x50 (
 viaddr 2 x47 x49 h fun x52 h =>
 vload true 2 x52 h fun x53 h =>
 vop O (.alloc [(.p (.int .i64 0)),(.p (.int .i64 0))] false) h 11 fun x11 h =>
 vstore 2 x11 x53 h fun _ h =>
 vfaddr 0 x11 h fun x57 h =>
 vload false 1 x57 h fun x58 h =>
 vfaddr 1 x11 h fun x59 h =>
 vload false 1 x59 h fun x60 h =>
 vop O (.slice 0 true (.k x0) (some (.k x58)) (some (.k x60)) none) h 61 fun x61 h =>
 viaddr 1 x9 x49 h fun x62 h =>
 vstore 1 x62 x61 h fun _ h =>
 vbin .add 0 x49 (kI 1) h fun x63 h =>
 R 4 [x0,x9,x47,x48,x63] h)
 (tcomp x9 fun c0=>vfin true q [c0] h)
theorem e162_4(O:Oracle)(R:Jump)(q:Nat)(x0 x9 x47 x48 x49:TVal)(h:Heap):b162_4 O R q x0 x9 x47 x48 x49 h=stepF c162 O R q 4 [x0,x9,x47,x48,x49] h:=by kernel_rfl
def d162:BlkF:=fun O R Q=>[.s fun a => .s fun b => .z (b162_0 O R Q a b),.s fun a => .s fun b => .s fun c => .s fun d => .s fun e => .z (b162_1 O R Q a b c d e),.s fun a => .s fun b => .s fun c => .z (b162_2 O R Q a b c),.s fun a => .s fun b => .z (b162_3 O R Q a b),.s fun a => .s fun b => .s fun c => .s fun d => .s fun e => .z (b162_4 O R Q a b c d e)]
theorem o162(O:Oracle)(R:Jump)(q:Nat):HoldsAll c162 O R q 0 (d162 O R q):=⟨e162_0 O R q,e162_1 O R q,e162_2 O R q,e162_3 O R q,e162_4 O R q,trivial⟩
def c163:MFunc:=mkM (compF Tryd.prog (globs2 tabs opq) (fun _=>false) true Tryd.f163) (.s .n (.s (.s .n (.s (.s (.s .n (.k (.s .n (.m 1 [7] .n)))) .n) .n)) .n))
def b163_0(O:Oracle)(R:Jump)(q:Nat)(x0:TVal)(h:Heap):Res1 :=
 vtoInt .u32 x0 h fun x4 h =>
 vbin .leq 0 x4 (.v (.c (.p (.int .u32 255)))) h fun x5 h =>
 vif x5 (
 vbin .eql 0 x0 (.v (.c (.p (.int .i32 9)))) h fun x8 h =>
 vif x8 (
 R 1 [x8] h)
 (vbin .eql 0 x0 (.v (.c (.p (.int .i32 10)))) h fun x9 h =>
 vif x9 (
 R 1 [x9] h)
 (vbin .eql 0 x0 (.v (.c (.p (.int .i32 11)))) h fun x10 h =>
 vif x10 (
 R 1 [x10] h)
 (vbin .eql 0 x0 (.v (.c (.p (.int .i32 12)))) h fun x11 h =>
 vif x11 (
 R 1 [x11] h)
 (vbin .eql 0 x0 (.v (.c (.p (.int .i32 13)))) h fun x12 h =>
 vif x12 (
 R 1 [x12] h)
 (vbin .eql 0 x0 (.v (.c (.p (.int .i32 32)))) h fun x13 h =>
 vif x13 (
 R 1 [x13] h)
 (vbin .eql 0 x0 (.v (.c (.p (.int .i32 133)))) h fun x14 h =>
 vif x14 (
 R 1 [x14] h)
 (vbin .eql 0 x0 (.v (.c (.p (.int .i32 160)))) h fun x15 h =>
 R 1 [x15] h))))))))
 (none)
theorem e163_0(O:Oracle)(R:Jump)(q:Nat)(x0:TVal)(h:Heap):b163_0 O R q x0 h=stepF c163 O R q 0 [x0] h:=by kernel_rfl
def b163_1(O:Oracle)(R:Jump)(q:Nat)(x7:TVal)(h:Heap):Res1 :=
 vif x7 (
 tcomp (kB true) fun c0=>vfin true q [c0] h)
 (tcomp (kB false) fun c0=>vfin true q [c0] h)
theorem e163_1(O:Oracle)(R:Jump)(q:Nat)(x7:TVal)(h:Heap):b163_1 O R q x7 h=stepF c163 O R q 1 [x7] h:=by kernel_rfl
def d163:BlkF:=fun O R Q=>[.s fun a => .z (b163_0 O R Q a),.s fun a => .z (b163_1 O R Q a)]
theorem o163(O:Oracle)(R:Jump)(q:Nat):HoldsAll c163 O R q 0 (d163 O R q):=⟨e163_0 O R q,e163_1 O R q,trivial⟩
def c164:MFunc:=mkM (compF Tryd.prog (globs2 tabs opq) (fun _=>false) true Tryd.f164) (.s .n (.s .n (.s (.k (.l 1 [0,2,4,10,11] .n)) (.m 2 [0,2,4,10] .n))))
def b164_0(O:Oracle)(R:Jump)(q:Nat)(x0 x1 x2 x3 x4:TVal)(h:Heap):Res1 :=
 vbin .sub 0 x2 x1 h fun x14 h =>
 vbin .sub 0 x3 x2 h fun x17 h =>
 R 1 [x0,x2,x4,x14,x17] h
theorem e164_0(O:Oracle)(R:Jump)(q:Nat)(x0 x1 x2 x3 x4:TVal)(h:Heap):b164_0 O R q x0 x1 x2 x3 x4 h=stepF c164 O R q 0 [x0,x1,x2,x3,x4] h:=by kernel_rfl
def b164_1(O:Oracle)(R:Jump)(q:Nat)(x0 x2 x4 x10 x11:TVal)(h:Heap):Res1 :=
 vbin .neq 0 x10 x11 h fun x20 h =>
 vif x20 (
 vbin .gtr 0 x10 x11 h fun x23 h =>
 vif x23 (
 vbin .sub 0 x2 x10 h fun x27 h =>
 vcall O (.v (.c (.func 170 []))) [x0,x27,x2,x11,x4] h 31 fun x31 h =>
 vbin .sub 0 x10 x11 h fun x34 h =>
 R 1 [x0,x2,x4,x34,x11] h)
 (vbin .sub 0 x2 x10 h fun x38 h =>
 vbin .add 0 x2 x11 h fun x41 h =>
 vbin .sub 0 x41 x10 h fun x43 h =>
 vcall O (.v (.c (.func 170 []))) [x0,x38,x43,x10,x4] h 46 fun x46 h =>
 vbin .sub 0 x11 x10 h fun x49 h =>
 R 1 [x0,x2,x4,x10,x49] h))
 (R 2 [x0,x2,x4,x10] h)
theorem e164_1(O:Oracle)(R:Jump)(q:Nat)(x0 x2 x4 x10 x11:TVal)(h:Heap):b164_1 O R q x0 x2 x4 x10 x11 h=stepF c164 O R q 1 [x0,x2,x4,x10,x11] h:=by kernel_rfl
def b164_2(O:Oracle)(R:Jump)(q:Nat)(x0 x2 x4 x10:TVal)(h:Heap):Res1 :=
 vbin .sub 0 x2 x10 h fun x53 h =>
 vcall O (.v (.c (.func 170 []))) [x0,x53,x2,x10,x4] h 57 fun x57 h =>
 vfin true q [] h
theorem e164_2(O:Oracle)(R:Jump)(q:Nat)(x0 x2 x4 x10:TVal)(h:Heap):b164_2 O R q x0 x2 x4 x10 h=stepF c164 O R q 2 [x0,x2,x4,x10] h:=by kernel_rfl
def d164:BlkF:=fun O R Q=>[.s fun a => .s fun b => .s fun c => .s fun d => .s fun e => .z (b164_0 O R Q a b c d e),.s fun a => .s fun b => .s fun c => .s fun d => .s fun e => .z (b164_1 O R Q a b c d e),.s fun a => .s fun b => .s fun c => .s fun d => .z (b164_2 O R Q a b c d)]
theorem o164(O:Oracle)(R:Jump)(q:Nat):HoldsAll c164 O R q 0 (d164 O R q):=⟨e164_0 O R q,e164_1 O R q,e164_2 O R q,trivial⟩
def c169:MFunc:=mkM (compF Tryd.prog (globs2 tabs opq) (fun _=>false) true Tryd.f169) .n
def b169_0(O:Oracle)(R:Jump)(q:Nat)(x0 x1:TVal)(h:Heap):Res1 :=
 vop O (.nilck (.k x0)) h 9 fun x9 h =>
 vfaddr 0 x9 h fun x10 h =>
 vload false 1 x10 h fun x11 h =>
 vop O (.nilck (.k x0)) h 13 fun x13 h =>
 vfaddr 2 x13 h fun x14 h =>
 vload false 1 x14 h fun x15 h =>
 vlen O 2 x11 h 17 fun x17 h =>
 vbin .gtr 0 x17 x15 h fun x19 h =>
 vguard x19 true (fun kk=>kk x1 h) h fun x21 h =>
 vguard x19 true (fun kk=>vtoInt .u32 x21 h kk) h fun x22 h =>
 vguard x19 true (fun kk=>kk x11 h) h fun x23 h =>
 vguard x19 true (fun kk=>kk x11 h) h fun x24 h =>
 vguard x19 true (fun kk=>vlen O 2 x24 h 25 kk) h fun x25 h =>
 vguard x19 true (fun kk=>vbin .sub 0 x25 (kI 1) h kk) h fun x26 h =>
 vguard x19 true (fun kk=>viaddr 3 x23 x26 h kk) h fun x27 h =>
 vguard x19 true (fun kk=>vfaddr 1 x27 h kk) h fun x28 h =>
 vguard x19 true (fun kk=>vload false 1 x28 h kk) h fun x29 h =>
 vguard x19 true (fun kk=>vtoInt .u32 x29 h kk) h fun x30 h =>
 vguard x19 true (fun kk=>vbin .leq 0 x22 x30 h kk) h fun x31 h =>
 vop O (.pick (.k x19) (.k x31) (.k (kB false))) h 32 fun x32 h =>
 vif x32 (
 vop O (.slice 3 false (.k x11) (some (.k x15)) none none) h 35 fun x35 h =>
 vtoInt .u16 x1 h fun x37 h =>
 vcall O (.v (.c (.func 171 []))) [x35,x37] h 38 fun x38 h =>
 tcomp x38 fun c0=>vfin true q [c0] h)
 (vop O (.nilck (.k x0)) h 40 fun x40 h =>
 vfaddr 1 x40 h fun x41 h =>
 vload false 1 x41 h fun x42 h =>
 vlen O 2 x42 h 44 fun x44 h =>
 vbin .gtr 0 x44 (kI 0) h fun x45 h =>
 vguard x45 true (fun kk=>kk x1 h) h fun x47 h =>
 vguard x45 true (fun kk=>kk x42 h) h fun x48 h =>
 vguard x45 true (fun kk=>viaddr 3 x48 (kI 0) h kk) h fun x49 h =>
 vguard x45 true (fun kk=>vfaddr 0 x49 h kk) h fun x50 h =>
 vguard x45 true (fun kk=>vload false 1 x50 h kk) h fun x51 h =>
 vguard x45 true (fun kk=>vtoInt .i32 x51 h kk) h fun x52 h =>
 vguard x45 true (fun kk=>vbin .geq 0 x47 x52 h kk) h fun x53 h =>
 vop O (.pick (.k x45) (.k x53) (.k (kB false))) h 54 fun x54 h =>
 vif x54 (
 vtoInt .u32 x1 h fun x57 h =>
 vcall O (.v (.c (.func 172 []))) [x42,x57] h 58 fun x58 h =>
 tcomp x58 fun c0=>vfin true q [c0] h)
 (tcomp (kB false) fun c0=>vfin true q [c0] h))
theorem e169_0(O:Oracle)(R:Jump)(q:Nat)(x0 x1:TVal)(h:Heap):b169_0 O R q x0 x1 h=stepF c169 O R q 0 [x0,x1] h:=by kernel_rfl
def d169:BlkF:=fun O R Q=>[.s fun a => .s fun b => .z (b169_0 O R Q a b)]
theorem o169(O:Oracle)(R:Jump)(q:Nat):HoldsAll c169 O R q 0 (d169 O R q):=⟨e169_0 O R q,trivial⟩
def c170:MFunc:=mkM (compF Tryd.prog (globs2 tabs opq) (fun _=>false) true Tryd.f170) (.s .n (.k (.l 1 [0,1,2,3,10] .n)))
def b170_0(O:Oracle)(R:Jump)(q:Nat)(x0 x1 x2 x3 x4:TVal)(h:Heap):Res1 :=
 R 1 [x0,x1,x2,x3,(kI 0)] h
theorem e170_0(O:Oracle)(R:Jump)(q:Nat)(x0 x1 x2 x3 x4:TVal)(h:Heap):b170_0 O R q x0 x1 x2 x3 x4 h=stepF c170 O R q 0 [x0,x1,x2,x3,x4] h:=by kernel_rfl
def b170_1(O:Oracle)(R:Jump)(q:Nat)(x0 x1 x2 x3 x10:TVal)(h:Heap):Res1 :=
 vbin .lss 0 x10 x3 h fun x13 h =>
 vif x13 (
 vbin .add 0 x1 x10 h fun x19 h =>
 vbin .add 0 x2 x10 h fun x23 h =>
 vbin .add 0 x2 x10 h fun x27 h =>
 viaddr 5 x0 x27 h fun x28 h =>
 vload true 5 x28 h fun x29 h =>
 vbin .add 0 x1 x10 h fun x33 h =>
 viaddr 5 x0 x33 h fun x34 h =>
 vload true 5 x34 h fun x35 h =>
 viaddr 5 x0 x19 h fun x36 h =>
 vstore 5 x36 x29 h fun _ h =>
 viaddr 5 x0 x23 h fun x37 h =>
 vstore 5 x37 x35 h fun _ h =>
 vbin .add 0 x10 (kI 1) h fun x15 h =>
 R 1 [x0,x1,x2,x3,x15] h)
 (vfin true q [] h)
theorem e170_1(O:Oracle)(R:Jump)(q:Nat)(x0 x1 x2 x3 x10:TVal)(h:Heap):b170_1 O R q x0 x1 x2 x3 x10 h=stepF c170 O R q 1 [x0,x1,x2,x3,x10] h:=by kernel_rfl
def d170:BlkF:=fun O R Q=>[.s fun a => .s fun b => .s fun c => .s fun d => .s fun e => .z (b170_0 O R Q a b c d e),.s fun a => .s fun b => .s fun c => .s fun d => .s fun e => .z (b170_1 O R Q a b c d e)]
theorem o170(O:Oracle)(R:Jump)(q:Nat):HoldsAll c170 O R q 0 (d170 O R q):=⟨e170_0 O R q,e170_1 O R q,trivial⟩
def c171:MFunc:=mkM (compF Tryd.prog (globs2 tabs opq) (fun _=>false) true Tryd.f171) (.s .n (.s (.s .n (.s (.s (.s .n (.k (.l 1 [0,1,19,20] .n))) (.m 2 [] .n)) .n)) (.m 3 [0,1] (.s .n (.s .n (.s (.k (.l 4 [0,1,7,8] .n)) .n))))))
def b171_0(O:Oracle)(R:Jump)(q:Nat)(x0 x1:TVal)(h:Heap):Res1 :=
 vlen O 2 x0 h 12 fun x12 h =>
 vbin .leq 0 x12 (kI 18) h fun x13 h =>
 vguard x13 false (fun kk=>kk x1 h) h fun x15 h =>
 vguard x13 false (fun kk=>vbin .leq 0 x15 (.v (.c (.p (.int .u16 255)))) h kk) h fun x16 h =>
 vop O (.pick (.k x13) (.k (kB true)) (.k x16)) h 17 fun x17 h =>
 vif x17 (
 vlen O 2 x0 h 19 fun x19 h =>
 R 1 [x0,x1,x19,(kI 0)] h)
 (R 3 [x0,x1] h)
theorem e171_0(O:Oracle)(R:Jump)(q:Nat)(x0 x1:TVal)(h:Heap):b171_0 O R q x0 x1 h=stepF c171 O R q 0 [x0,x1] h:=by kernel_rfl
def b171_1(O:Oracle)(R:Jump)(q:Nat)(x0 x1 x19 x20:TVal)(h:Heap):Res1 :=
 vbin .lss 0 x20 x19 h fun x21 h =>
 vif x21 (
 viaddr 3 x0 x20 h fun x25 h =>
 vop O (.nilck (.k x25)) h 28 fun x28 h =>
 vfaddr 0 x28 h fun x29 h =>
 vload false 1 x29 h fun x30 h =>
 vbin .lss 0 x1 x30 h fun x31 h =>
 vif x31 (
 tcomp (kB false) fun c0=>vfin true q [c0] h)
 (vop O (.nilck (.k x25)) h 34 fun x34 h =>
 vfaddr 1 x34 h fun x35 h =>
 vload false 1 x35 h fun x36 h =>
 vbin .leq 0 x1 x36 h fun x37 h =>
 vif x37 (
 vop O (.nilck (.k x25)) h 39 fun x39 h =>
 vfaddr 2 x39 h fun x40 h =>
 vload false 1 x40 h fun x41 h =>
 vbin .eql 0 x41 (.v (.c (.p (.int .u16 1)))) h fun x42 h =>
 vguard x42 false (fun kk=>kk x1 h) h fun x44 h =>
 vguard x42 false (fun kk=>kk x25 h) h fun x45 h =>
 vguard x42 false (fun kk=>vop O (.nilck (.k x45)) h 46 kk) h fun x46 h =>
 vguard x42 false (fun kk=>vfaddr 0 x46 h kk) h fun x47 h =>
 vguard x42 false (fun kk=>vload false 1 x47 h kk) h fun x48 h =>
 vguard x42 false (fun kk=>vbin .sub 0 x44 x48 h kk) h fun x49 h =>
 vguard x42 false (fun kk=>kk x25 h) h fun x50 h =>
 vguard x42 false (fun kk=>vop O (.nilck (.k x50)) h 51 kk) h fun x51 h =>
 vguard x42 false (fun kk=>vfaddr 2 x51 h kk) h fun x52 h =>
 vguard x42 false (fun kk=>vload false 1 x52 h kk) h fun x53 h =>
 vguard x42 false (fun kk=>vbin .rem 0 x49 x53 h kk) h fun x54 h =>
 vguard x42 false (fun kk=>vbin .eql 0 x54 (.v (.c (.p (.int .u16 0)))) h kk) h fun x55 h =>
 vop O (.pick (.k x42) (.k (kB true)) (.k x55)) h 56 fun x56 h =>
 tcomp x56 fun c0=>vfin true q [c0] h)
 (vbin .add 0 x20 (kI 1) h fun x57 h =>
 R 1 [x0,x1,x19,x57] h)))
 (R 2 [] h)
theorem e171_1(O:Oracle)(R:Jump)(q:Nat)(x0 x1 x19 x20:TVal)(h:Heap):b171_1 O R q x0 x1 x19 x20 h=stepF c171 O R q 1 [x0,x1,x19,x20] h:=by kernel_rfl
def b171_2(O:Oracle)(R:Jump)(q:Nat)(h:Heap):Res1 :=
 tcomp (kB false) fun c0=>vfin true q [c0] h
theorem e171_2(O:Oracle)(R:Jump)(q:Nat)(h:Heap):b171_2 O R q  h=stepF c171 O R q 2 [] h:=by kernel_rfl
def b171_3(O:Oracle)(R:Jump)(q:Nat)(x0 x1:TVal)(h:Heap):Res1 :=
 vlen O 2 x0 h 59 fun x59 h =>
 R 4 [x0,x1,(kI 0),x59] h
theorem e171_3(O:Oracle)(R:Jump)(q:Nat)(x0 x1:TVal)(h:Heap):b171_3 O R q x0 x1 h=stepF c171 O R q 3 [x0,x1] h:=by kernel_rfl
def b171_4(O:Oracle)(R:Jump)(q:Nat)(x0 x1 x7 x8:TVal)(h:Heap):Res1 :=
 vbin .lss 0 x7 x8 h fun x62 h =>
 vif x62 (
 vbin .add 0 x7 x8 h fun x65 h =>
 vtoInt .u64 x65 h fun x66 h =>
 vbin .shr 0 x66 (.v (.c (.p (.int .u64 1)))) h fun x67 h =>
 vtoInt .i64 x67 h fun x68 h =>
 viaddr 3 x0 x68 h fun x71 h =>
 vop O (.nilck (.k x71)) h 73 fun x73 h =>
 vfaddr 0 x73 h fun x74 h =>
 vload false 1 x74 h fun x75 h =>
 vbin .leq 0 x75 x1 h fun x77 h =>
 vguard x77 true (fun kk=>kk x1 h) h fun x79 h =>
 vguard x77 true (fun kk=>kk x71 h) h fun x80 h =>
 vguard x77 true (fun kk=>vop O (.nilck (.k x80)) h 81 kk) h fun x81 h =>
 vguard x77 true (fun kk=>vfaddr 1 x81 h kk) h fun x82 h =>
 vguard x77 true (fun kk=>vload false 1 x82 h kk) h fun x83 h =>
 vguard x77 true (fun kk=>vbin .leq 0 x79 x83 h kk) h fun x84 h =>
 vop O (.pick (.k x77) (.k x84) (.k (kB false))) h 85 fun x85 h =>
 vif x85 (
 vop O (.nilck (.k x71)) h 87 fun x87 h =>
 vfaddr 2 x87 h fun x88 h =>
 vload false 1 x88 h fun x89 h =>
 vbin .eql 0 x89 (.v (.c (.p (.int .u16 1)))) h fun x90 h =>
 vguard x90 false (fun kk=>kk x1 h) h fun x92 h =>
 vguard x90 false (fun kk=>kk x71 h) h fun x93 h =>
 vguard x90 false (fun kk=>vop O (.nilck (.k x93)) h 94 kk) h fun x94 h =>
 vguard x90 false (fun kk=>vfaddr 0 x94 h kk) h fun x95 h =>
 vguard x90 false (fun kk=>vload false 1 x95 h kk) h fun x96 h =>
 vguard x90 false (fun kk=>vbin .sub 0 x92 x96 h kk) h fun x97 h =>
 vguard x90 false (fun kk=>kk x71 h) h fun x98 h =>
 vguard x90 false (fun kk=>vop O (.nilck (.k x98)) h 99 kk) h fun x99 h =>
 vguard x90 false (fun kk=>vfaddr 2 x99 h kk) h fun x100 h =>
 vguard x90 false (fun kk=>vload false 1 x100 h kk) h fun x101 h =>
 vguard x90 false (fun kk=>vbin .rem 0 x97 x101 h kk) h fun x102 h =>
 vguard x90 false (fun kk=>vbin .eql 0 x102 (.v (.c (.p (.int .u16 0)))) h kk) h fun x103 h =>
 vop O (.pick (.k x90) (.k (kB true)) (.k x103)) h 104 fun x104 h =>
 tcomp x104 fun c0=>vfin true q [c0] h)
 (vop O (.nilck (.k x71)) h 107 fun x107 h =>
 vfaddr 0 x107 h fun x108 h =>
 vload false 1 x108 h fun x109 h =>
 vbin .lss 0 x1 x109 h fun x110 h =>
 vif x110 (
 R 4 [x0,x1,x7,x68] h)
 (vbin .add 0 x68 (kI 1) h fun x113 h =>
 R 4 [x0,x1,x113,x8] h)))
 (tcomp (kB false) fun c0=>vfin true q [c0] h)
theorem e171_4(O:Oracle)(R:Jump)(q:Nat)(x0 x1 x7 x8:TVal)(h:Heap):b171_4 O R q x0 x1 x7 x8 h=stepF c171 O R q 4 [x0,x1,x7,x8] h:=by kernel_rfl
def d171:BlkF:=fun O R Q=>[.s fun a => .s fun b => .z (b171_0 O R Q a b),.s fun a => .s fun b => .s fun c => .s fun d => .z (b171_1 O R Q a b c d),.z (b171_2 O R Q ),.s fun a => .s fun b => .z (b171_3 O R Q a b),.s fun a => .s fun b => .s fun c => .s fun d => .z (b171_4 O R Q a b c d)]
theorem o171(O:Oracle)(R:Jump)(q:Nat):HoldsAll c171 O R q 0 (d171 O R q):=⟨e171_0 O R q,e171_1 O R q,e171_2 O R q,e171_3 O R q,e171_4 O R q,trivial⟩
def c172:MFunc:=mkM (compF Tryd.prog (globs2 tabs opq) (fun _=>false) true Tryd.f172) (.s .n (.s (.s .n (.s (.s (.s .n (.k (.l 1 [0,1,15,16] .n))) (.m 2 [] .n)) .n)) (.m 3 [0,1] (.s .n (.s .n (.s (.k (.l 4 [0,1,7,8] .n)) .n))))))
def b172_0(O:Oracle)(R:Jump)(q:Nat)(x0 x1:TVal)(h:Heap):Res1 :=
 vlen O 2 x0 h 12 fun x12 h =>
 vbin .leq 0 x12 (kI 18) h fun x13 h =>
 vif x13 (
 vlen O 2 x0 h 15 fun x15 h =>
 R 1 [x0,x1,x15,(kI 0)] h)
 (R 3 [x0,x1] h)
theorem e172_0(O:Oracle)(R:Jump)(q:Nat)(x0 x1:TVal)(h:Heap):b172_0 O R q x0 x1 h=stepF c172 O R q 0 [x0,x1] h:=by kernel_rfl
def b172_1(O:Oracle)(R:Jump)(q:Nat)(x0 x1 x15 x16:TVal)(h:Heap):Res1 :=
 vbin .lss 0 x16 x15 h fun x17 h =>
 vif x17 (
 viaddr 3 x0 x16 h fun x21 h =>
 vop O (.nilck (.k x21)) h 24 fun x24 h =>
 vfaddr 0 x24 h fun x25 h =>
 vload false 1 x25 h fun x26 h =>
 vbin .lss 0 x1 x26 h fun x27 h =>
 vif x27 (
 tcomp (kB false) fun c0=>vfin true q [c0] h)
 (vop O (.nilck (.k x21)) h 30 fun x30 h =>
 vfaddr 1 x30 h fun x31 h =>
 vload false 1 x31 h fun x32 h =>
 vbin .leq 0 x1 x32 h fun x33 h =>
 vif x33 (
 vop O (.nilck (.k x21)) h 35 fun x35 h =>
 vfaddr 2 x35 h fun x36 h =>
 vload false 1 x36 h fun x37 h =>
 vbin .eql 0 x37 (.v (.c (.p (.int .u32 1)))) h fun x38 h =>
 vguard x38 false (fun kk=>kk x1 h) h fun x40 h =>
 vguard x38 false (fun kk=>kk x21 h) h fun x41 h =>
 vguard x38 false (fun kk=>vop O (.nilck (.k x41)) h 42 kk) h fun x42 h =>
 vguard x38 false (fun kk=>vfaddr 0 x42 h kk) h fun x43 h =>
 vguard x38 false (fun kk=>vload false 1 x43 h kk) h fun x44 h =>
 vguard x38 false (fun kk=>vbin .sub 0 x40 x44 h kk) h fun x45 h =>
 vguard x38 false (fun kk=>kk x21 h) h fun x46 h =>
 vguard x38 false (fun kk=>vop O (.nilck (.k x46)) h 47 kk) h fun x47 h =>
 vguard x38 false (fun kk=>vfaddr 2 x47 h kk) h fun x48 h =>
 vguard x38 false (fun kk=>vload false 1 x48 h kk) h fun x49 h =>
 vguard x38 false (fun kk=>vbin .rem 0 x45 x49 h kk) h fun x50 h =>
 vguard x38 false (fun kk=>vbin .eql 0 x50 (.v (.c (.p (.int .u32 0)))) h kk) h fun x51 h =>
 vop O (.pick (.k x38) (.k (kB true)) (.k x51)) h 52 fun x52 h =>
 tcomp x52 fun c0=>vfin true q [c0] h)
 (vbin .add 0 x16 (kI 1) h fun x53 h =>
 R 1 [x0,x1,x15,x53] h)))
 (R 2 [] h)
theorem e172_1(O:Oracle)(R:Jump)(q:Nat)(x0 x1 x15 x16:TVal)(h:Heap):b172_1 O R q x0 x1 x15 x16 h=stepF c172 O R q 1 [x0,x1,x15,x16] h:=by kernel_rfl
def b172_2(O:Oracle)(R:Jump)(q:Nat)(h:Heap):Res1 :=
 tcomp (kB false) fun c0=>vfin true q [c0] h
theorem e172_2(O:Oracle)(R:Jump)(q:Nat)(h:Heap):b172_2 O R q  h=stepF c172 O R q 2 [] h:=by kernel_rfl
def b172_3(O:Oracle)(R:Jump)(q:Nat)(x0 x1:TVal)(h:Heap):Res1 :=
 vlen O 2 x0 h 55 fun x55 h =>
 R 4 [x0,x1,(kI 0),x55] h
theorem e172_3(O:Oracle)(R:Jump)(q:Nat)(x0 x1:TVal)(h:Heap):b172_3 O R q x0 x1 h=stepF c172 O R q 3 [x0,x1] h:=by kernel_rfl
def b172_4(O:Oracle)(R:Jump)(q:Nat)(x0 x1 x7 x8:TVal)(h:Heap):Res1 :=
 vbin .lss 0 x7 x8 h fun x58 h =>
 vif x58 (
 vbin .add 0 x7 x8 h fun x61 h =>
 vtoInt .u64 x61 h fun x62 h =>
 vbin .shr 0 x62 (.v (.c (.p (.int .u64 1)))) h fun x63 h =>
 vtoInt .i64 x63 h fun x64 h =>
 viaddr 3 x0 x64 h fun x67 h =>
 vload true 3 x67 h fun x68 h =>
 vop O (.alloc [(.p (.int .u32 0)),(.p (.int .u32 0)),(.p (.int .u32 0))] false) h 10 fun x10 h =>
 vstore 3 x10 x68 h fun _ h =>
 vfaddr 0 x10 h fun x69 h =>
 vload false 1 x69 h fun x70 h =>
 vbin .leq 0 x70 x1 h fun x72 h =>
 vguard x72 true (fun kk=>kk x1 h) h fun x74 h =>
 vguard x72 true (fun kk=>vfaddr 1 x10 h kk) h fun x75 h =>
 vguard x72 true (fun kk=>vload false 1 x75 h kk) h fun x76 h =>
 vguard x72 true (fun kk=>vbin .leq 0 x74 x76 h kk) h fun x77 h =>
 vop O (.pick (.k x72) (.k x77) (.k (kB false))) h 78 fun x78 h =>
 vif x78 (
 vfaddr 2 x10 h fun x79 h =>
 vload false 1 x79 h fun x80 h =>
 vbin .eql 0 x80 (.v (.c (.p (.int .u32 1)))) h fun x81 h =>
 vguard x81 false (fun kk=>kk x1 h) h fun x83 h =>
 vguard x81 false (fun kk=>vfaddr 0 x10 h kk) h fun x84 h =>
 vguard x81 false (fun kk=>vload false 1 x84 h kk) h fun x85 h =>
 vguard x81 false (fun kk=>vbin .sub 0 x83 x85 h kk) h fun x86 h =>
 vguard x81 false (fun kk=>vfaddr 2 x10 h kk) h fun x87 h =>
 vguard x81 false (fun kk=>vload false 1 x87 h kk) h fun x88 h =>
 vguard x81 false (fun kk=>vbin .rem 0 x86 x88 h kk) h fun x89 h =>
 vguard x81 false (fun kk=>vbin .eql 0 x89 (.v (.c (.p (.int .u32 0)))) h kk) h fun x90 h =>
 vop O (.pick (.k x81) (.k (kB true)) (.k x90)) h 91 fun x91 h =>
 tcomp x91 fun c0=>vfin true q [c0] h)
 (vfaddr 0 x10 h fun x93 h =>
 vload false 1 x93 h fun x94 h =>
 vbin .lss 0 x1 x94 h fun x95 h =>
 vif x95 (
 R 4 [x0,x1,x7,x64] h)
 (vbin .add 0 x64 (kI 1) h fun x98 h =>
 R 4 [x0,x1,x98,x8] h)))
 (tcomp (kB false) fun c0=>vfin true q [c0] h)
theorem e172_4(O:Oracle)(R:Jump)(q:Nat)(x0 x1 x7 x8:TVal)(h:Heap):b172_4 O R q x0 x1 x7 x8 h=stepF c172 O R q 4 [x0,x1,x7,x8] h:=by kernel_rfl
def d172:BlkF:=fun O R Q=>[.s fun a => .s fun b => .z (b172_0 O R Q a b),.s fun a => .s fun b => .s fun c => .s fun d => .z (b172_1 O R Q a b c d),.z (b172_2 O R Q ),.s fun a => .s fun b => .z (b172_3 O R Q a b),.s fun a => .s fun b => .s fun c => .s fun d => .z (b172_4 O R Q a b c d)]
theorem o172(O:Oracle)(R:Jump)(q:Nat):HoldsAll c172 O R q 0 (d172 O R q):=⟨e172_0 O R q,e172_1 O R q,e172_2 O R q,e172_3 O R q,e172_4 O R q,trivial⟩
end
end Go.Proofs.YtnlmlcfipbnpgaaDoor.Ab
