/- Functions of the given program as the abstract interpreter has them (part 1),printed by a program of our own; each is shown to be what 'compF' makes of the given program's. No condition. -/
import Derived.Test.YtnlmlcfipbnpgaaGreatDoorTabV0
namespace Go.Proofs.YtnlmlcfipbnpgaaGreatDoor.Ab
open Go Go.AI
noncomputable section
set_option linter.all false
set_option linter.unusedVariables false
set_option maxRecDepth 100000
def c191:MFunc:=mkM (compF Tryz.prog (globs2 tabs opq) (λn=>Nat.blt n 1000000||Nat.ble 3000000 n) true Tryz.f191) .n
def b191_0(O:Oracle)(R:Jump)(q:Nat)(x0 x1 x2 x3 x4:TVal)(h:Heap):Res1 :=
 vop O (.box (.k x2) true) h 7 λx7 h =>
 vbin .neq 0 x1 (kS [100,101,102,105,110,101]) h λx12 h =>
 vguard x12 true (λkk=>kk x0 h) h λx14 h =>
 vguard x12 true (λkk=>vop O (.nilck (.k x14)) h 15 kk) h λx15 h =>
 vguard x12 true (λkk=>vfaddr 0 x15 h kk) h λx16 h =>
 vguard x12 true (λkk=>vload false 1 x16 h kk) h λx17 h =>
 vguard x12 true (λkk=>vlen O 2 x17 h 18 kk) h λx18 h =>
 vguard x12 true (λkk=>vbin .gtr 0 x18 (kI 0) h kk) h λx19 h =>
 vop O (.pick (.k x12) (.k x19) (.k (kB false))) h 20 λx20 h =>
 vguard x20 true (λkk=>kk x0 h) h λx22 h =>
 vguard x20 true (λkk=>vop O (.nilck (.k x22)) h 23 kk) h λx23 h =>
 vguard x20 true (λkk=>vfaddr 0 x23 h kk) h λx24 h =>
 vguard x20 true (λkk=>vload false 1 x24 h kk) h λx25 h =>
 vguard x20 true (λkk=>kk x0 h) h λx26 h =>
 vguard x20 true (λkk=>vop O (.nilck (.k x26)) h 27 kk) h λx27 h =>
 vguard x20 true (λkk=>vfaddr 0 x27 h kk) h λx28 h =>
 vguard x20 true (λkk=>vload false 1 x28 h kk) h λx29 h =>
 vguard x20 true (λkk=>vlen O 2 x29 h 30 kk) h λx30 h =>
 vguard x20 true (λkk=>vbin .sub 0 x30 (kI 1) h kk) h λx31 h =>
 vguard x20 true (λkk=>viaddr 12 x25 x31 h kk) h λx32 h =>
 vguard x20 true (λkk=>vfaddr 10 x32 h kk) h λx33 h =>
 vguard x20 true (λkk=>vload false 1 x33 h kk) h λx34 h =>
 vguard x20 true (λkk=>vbin .eql 0 x34 (kI 3) h kk) h λx35 h =>
 vop O (.pick (.k x20) (.k x35) (.k (kB false))) h 36 λx36 h =>
 vif x36 (
 tcomp (kI 12) λc0=>vfin true q [c0] h)
 (vop O (.nilck (.k x0)) h 38 λx38 h =>
 vfaddr 0 x38 h λx39 h =>
 vload false 1 x39 h λx40 h =>
 vlen O 2 x40 h 41 λx41 h =>
 vbin .geq 0 x41 (kI 12) h λx42 h =>
 vif x42 (
 tcomp (kI 13) λc0=>vfin true q [c0] h)
 (vtouch O (.mv (.k x0)) h 43 λx43 h t0 =>
 vtouch O (.mv (.k x0)) h 44 λx44 h t1 =>
 vtouch O (.nilck (.k x44)) h 45 λx45 h t2 =>
 vtouch O (.faddr 0 (.k x45)) h 46 λx46 h t3 =>
 vtouch O (.load false 1 (.k x46)) h 47 λx47 h t4 =>
 vtouch O (.mv (.k x1)) h 48 λx48 h t5 =>
 vtouch O (.load true 9 (.k x7)) h 49 λx49 h t6 =>
 vtouch O (.mv (.k x3)) h 50 λx50 h t7 =>
 vtouch O (.mv (.k x4)) h 51 λx51 h t8 =>
 vtouch O (.build [(.p (.str [])),(.p (.int .i64 0)),(.p (.int .i64 0)),(.p (.str [])),(.p (.str [])),(.p .nilslice),(.p .nilslice),(.p .nilslice),(.p (.bool false)),(.p .nilslice),(.p (.int .i64 0)),(.p (.str []))] [(0,1,(.k x48)),(1,9,(.k x49)),(10,1,(.k x50)),(11,1,(.k x51))]) h 52 λx52 h t9 =>
 vtouch O (.bslice 12 1 [(.p (.str [])),(.p (.int .i64 0)),(.p (.int .i64 0)),(.p (.str [])),(.p (.str [])),(.p .nilslice),(.p .nilslice),(.p .nilslice),(.p (.bool false)),(.p .nilslice),(.p (.int .i64 0)),(.p (.str []))] [(0,(.k x52))] true) h 53 λx53 h t10 =>
 vtouch O (.append 12 192 true (.k x47) (.k x53)) h 54 λx54 h t11 =>
 vtouch O (.nilck (.k x43)) h 55 λx55 h t12 =>
 vtouch O (.faddr 0 (.k x55)) h 56 λx56 h t13 =>
 vtouch O (.store 1 (.k x56) (.k x54)) h 1000000 λ_ h t14 =>
 bif apartAll [t0,t1,t2,t3,t4,t5,t6,t7,t8,t9,t10,t11,t12,t13,t14] [(4,10)] then
 tcomp (kI 0) λc0=>vfin true q [c0] h
 else none))
theorem e191_0(O R q x0 x1 x2 x3 x4 h):b191_0 O R q x0 x1 x2 x3 x4 h=stepF c191 O R q 0 [x0,x1,x2,x3,x4] h:=by kernel_rfl
def d191:BlkF:=λO R Q=>[.s λa => .s λb => .s λc => .s λd => .s λe => .z (b191_0 O R Q a b c d e)]
theorem o191(O:Oracle)(R:Jump)(q:Nat):HoldsAll c191 O R q 0 (d191 O R q):=⟨e191_0 O R q,trivial⟩
def c192:MFunc:=mkM (compF Tryz.prog (globs2 tabs opq) (λn=>Nat.blt n 1000000||Nat.ble 3000000 n) true Tryz.f192) .n
def b192_0(O:Oracle)(R:Jump)(q:Nat)(x0 x1 x2:TVal)(h:Heap):Res1 :=
 vop O (.nilck (.k x0)) h 9 λx9 h =>
 vfaddr 0 x9 h λx10 h =>
 vload false 1 x10 h λx11 h =>
 vlen O 2 x11 h 12 λx12 h =>
 vbin .eql 0 x12 (kI 0) h λx13 h =>
 vif x13 (
 tcomp (kI 12) λc0=>vfin true q [c0] h)
 (vop O (.nilck (.k x0)) h 15 λx15 h =>
 vfaddr 0 x15 h λx16 h =>
 vload false 1 x16 h λx17 h =>
 vop O (.nilck (.k x0)) h 19 λx19 h =>
 vfaddr 0 x19 h λx20 h =>
 vload false 1 x20 h λx21 h =>
 vlen O 2 x21 h 22 λx22 h =>
 vbin .sub 0 x22 (kI 1) h λx23 h =>
 viaddr 12 x17 x23 h λx24 h =>
 vop O (.nilck (.k x24)) h 26 λx26 h =>
 vfaddr 0 x26 h λx27 h =>
 vload false 1 x27 h λx28 h =>
 vbin .eql 0 x28 (kS [100,101,102,105,110,101]) h λx29 h =>
 vguard x29 false (λkk=>kk x24 h) h λx31 h =>
 vguard x29 false (λkk=>vop O (.nilck (.k x31)) h 32 kk) h λx32 h =>
 vguard x29 false (λkk=>vfaddr 1 x32 h kk) h λx33 h =>
 vguard x29 false (λkk=>vfaddr 7 x33 h kk) h λx34 h =>
 vguard x29 false (λkk=>vload false 1 x34 h kk) h λx35 h =>
 vop O (.pick (.k x29) (.k (kB true)) (.k x35)) h 36 λx36 h =>
 vguard x36 false (λkk=>kk x1 h) h λx38 h =>
 vguard x36 false (λkk=>vbin .eql 0 x38 (kS [99,97,115,101]) h kk) h λx39 h =>
 vguard x36 false (λkk=>kk x39 h) h λx40 h =>
 vguard x40 true (λkk=>kk x24 h) h λx41 h =>
 vguard x40 true (λkk=>vop O (.nilck (.k x41)) h 42 kk) h λx42 h =>
 vguard x40 true (λkk=>vfaddr 0 x42 h kk) h λx43 h =>
 vguard x40 true (λkk=>vload false 1 x43 h kk) h λx44 h =>
 vguard x40 true (λkk=>vbin .neq 0 x44 (kS [109,97,116,99,104]) h kk) h λx45 h =>
 vguard x36 false (λkk=>vop O (.pick (.k x40) (.k x45) (.k (kB false))) h 46 kk) h λx46 h =>
 vop O (.pick (.k x36) (.k (kB true)) (.k x46)) h 47 λx47 h =>
 vif x47 (
 tcomp (kI 12) λc0=>vfin true q [c0] h)
 (vbin .eql 0 x1 (kS [101,108,115,101]) h λx49 h =>
 vif x49 (
 vop O (.nilck (.k x24)) h 51 λx51 h =>
 vfaddr 1 x51 h λx52 h =>
 vfaddr 7 x52 h λx53 h =>
 vstore 1 x53 (kB true) h λ_ h =>
 vop O (.nilck (.k x24)) h 55 λx55 h =>
 vfaddr 10 x55 h λx56 h =>
 vstore 1 x56 (kI 1) h λ_ h =>
 tcomp (kI 0) λc0=>vfin true q [c0] h)
 (vop O (.nilck (.k x24)) h 59 λx59 h =>
 vfaddr 1 x59 h λx60 h =>
 vfaddr 8 x60 h λx61 h =>
 vload false 1 x61 h λx62 h =>
 vop O (.build [(.p (.str [])),(.p .nilslice)] [(0,1,(.k x2))]) h 64 λx64 h =>
 vop O (.bslice 2 1 [(.p (.str [])),(.p .nilslice)] [(0,(.k x64))] true) h 65 λx65 h =>
 vop O (.append 2 40 true (.k x62) (.k x65)) h 66 λx66 h =>
 vop O (.nilck (.k x24)) h 67 λx67 h =>
 vfaddr 1 x67 h λx68 h =>
 vfaddr 8 x68 h λx69 h =>
 vstore 1 x69 x66 h λ_ h =>
 vop O (.nilck (.k x24)) h 71 λx71 h =>
 vfaddr 10 x71 h λx72 h =>
 vstore 1 x72 (kI 2) h λ_ h =>
 tcomp (kI 0) λc0=>vfin true q [c0] h)))
theorem e192_0(O R q x0 x1 x2 h):b192_0 O R q x0 x1 x2 h=stepF c192 O R q 0 [x0,x1,x2] h:=by kernel_rfl
def d192:BlkF:=λO R Q=>[.s λa => .s λb => .s λc => .z (b192_0 O R Q a b c)]
theorem o192(O:Oracle)(R:Jump)(q:Nat):HoldsAll c192 O R q 0 (d192 O R q):=⟨e192_0 O R q,trivial⟩
def c193:MFunc:=mkM (compF Tryz.prog (globs2 tabs opq) (λn=>Nat.blt n 1000000||Nat.ble 3000000 n) true Tryz.f193) .n
def b193_0(O:Oracle)(R:Jump)(q:Nat)(x0:TVal)(h:Heap):Res1 :=
 vop O (.nilck (.k x0)) h 5 λx5 h =>
 vfaddr 0 x5 h λx6 h =>
 vload false 1 x6 h λx7 h =>
 vlen O 2 x7 h 8 λx8 h =>
 vbin .eql 0 x8 (kI 0) h λx9 h =>
 vif x9 (
 tcomp (kI 12) λc0=>vfin true q [c0] h)
 (vtouch O (.mv (.k x0)) h 10 λx10 h t0 =>
 vtouch O (.nilck (.k x10)) h 11 λx11 h t1 =>
 vtouch O (.faddr 0 (.k x11)) h 12 λx12 h t2 =>
 vtouch O (.load false 1 (.k x12)) h 13 λx13 h t3 =>
 vtouch O (.mv (.k x0)) h 14 λx14 h t4 =>
 vtouch O (.nilck (.k x14)) h 15 λx15 h t5 =>
 vtouch O (.faddr 0 (.k x15)) h 16 λx16 h t6 =>
 vtouch O (.load false 1 (.k x16)) h 17 λx17 h t7 =>
 vtouch O (.len 2 (.k x17)) h 18 λx18 h t8 =>
 vtouch O (.bin .sub 0 (.k x18) (.k (kI 1))) h 19 λx19 h t9 =>
 vtouch O (.iaddr 12 (.k x13) (.k x19)) h 20 λx20 h t10 =>
 vtouch O (.load true 12 (.k x20)) h 21 λx21 h t11 =>
 vtouch O (.alloc [(.p (.str [])),(.p (.int .i64 0)),(.p (.int .i64 0)),(.p (.str [])),(.p (.str [])),(.p .nilslice),(.p .nilslice),(.p .nilslice),(.p (.bool false)),(.p .nilslice),(.p (.int .i64 0)),(.p (.str []))] true) h 3 λx3 h t12 =>
 vtouch O (.store 12 (.k x3) (.k x21)) h 1000000 λ_ h t13 =>
 bif apartAll [t0,t1,t2,t3,t4,t5,t6,t7,t8,t9,t10,t11,t12,t13] [(3,12),(7,12),(8,12),(11,12)] then
 vop O (.nilck (.k x0)) h 24 λx24 h =>
 vfaddr 0 x24 h λx25 h =>
 vload false 1 x25 h λx26 h =>
 vop O (.nilck (.k x0)) h 28 λx28 h =>
 vfaddr 0 x28 h λx29 h =>
 vload false 1 x29 h λx30 h =>
 vlen O 2 x30 h 31 λx31 h =>
 vbin .sub 0 x31 (kI 1) h λx32 h =>
 vop O (.slice 12 false (.k x26) none (some (.k x32)) none) h 33 λx33 h =>
 vop O (.nilck (.k x0)) h 34 λx34 h =>
 vfaddr 0 x34 h λx35 h =>
 vstore 1 x35 x33 h λ_ h =>
 vfaddr 0 x3 h λx36 h =>
 vload false 1 x36 h λx37 h =>
 vbin .eql 0 x37 (kS [100,101,102,105,110,101]) h λx38 h =>
 vif x38 (
 vtouch O (.mv (.k x0)) h 39 λx39 h t0 =>
 vtouch O (.mv (.k x0)) h 40 λx40 h t1 =>
 vtouch O (.nilck (.k x40)) h 41 λx41 h t2 =>
 vtouch O (.faddr 2 (.k x41)) h 42 λx42 h t3 =>
 vtouch O (.load false 1 (.k x42)) h 43 λx43 h t4 =>
 vtouch O (.faddr 11 (.k x3)) h 44 λx44 h t5 =>
 vtouch O (.load false 1 (.k x44)) h 45 λx45 h t6 =>
 vtouch O (.faddr 1 (.k x3)) h 46 λx46 h t7 =>
 vtouch O (.faddr 5 (.k x46)) h 47 λx47 h t8 =>
 vtouch O (.load false 1 (.k x47)) h 48 λx48 h t9 =>
 vtouch O (.build [(.p (.str [])),(.p .nilslice)] [(0,1,(.k x45)),(1,1,(.k x48))]) h 49 λx49 h t10 =>
 vtouch O (.bslice 2 1 [(.p (.str [])),(.p .nilslice)] [(0,(.k x49))] true) h 50 λx50 h t11 =>
 vtouch O (.append 2 40 true (.k x43) (.k x50)) h 51 λx51 h t12 =>
 vtouch O (.nilck (.k x39)) h 52 λx52 h t13 =>
 vtouch O (.faddr 2 (.k x52)) h 53 λx53 h t14 =>
 vtouch O (.store 1 (.k x53) (.k x51)) h 1000000 λ_ h t15 =>
 bif apartAll [t0,t1,t2,t3,t4,t5,t6,t7,t8,t9,t10,t11,t12,t13,t14,t15] [(4,11)] then
 tcomp (kI 0) λc0=>vfin true q [c0] h
 else none)
 (vfaddr 1 x3 h λx55 h =>
 vload true 9 x55 h λx56 h =>
 vcall O (.v (.c (.func 132 []))) [x0,x56] h 57 λx57 h =>
 tcomp (kI 0) λc0=>vfin true q [c0] h)
 else none)
theorem e193_0(O R q x0 h):b193_0 O R q x0 h=stepF c193 O R q 0 [x0] h:=by kernel_rfl
def d193:BlkF:=λO R Q=>[.s λa => .z (b193_0 O R Q a)]
theorem o193(O:Oracle)(R:Jump)(q:Nat):HoldsAll c193 O R q 0 (d193 O R q):=⟨e193_0 O R q,trivial⟩
def c194:MFunc:=mkM (compF Tryz.prog (globs2 tabs opq) (λn=>Nat.blt n 1000000||Nat.ble 3000000 n) true Tryz.f194) (.s .n (.s .n (.s .n (.s (.s .n (.k (.l 1 [0,1,5] .n))) (.m 2 [0,1] .n)))))
def b194_0(O:Oracle)(R:Jump)(q:Nat)(x0 x1:TVal)(h:Heap):Res1 :=
 vop O (.nilck (.k x0)) h 7 λx7 h =>
 vfaddr 0 x7 h λx8 h =>
 vload false 1 x8 h λx9 h =>
 vlen O 2 x9 h 10 λx10 h =>
 vbin .gtr 0 x10 (kI 0) h λx11 h =>
 vif x11 (
 tcomp (kI 12) λc0=>vfin true q [c0] h)
 (vcall O (.v (.c (.func 195 []))) [x1] h 13 λx13 h =>
 vop O (.un .not (.k x13)) h 14 λx14 h =>
 vif x14 (
 tcomp (kI 15) λc0=>vfin true q [c0] h)
 (R 1 [x0,x1,(kI 0)] h))
theorem e194_0(O R q x0 x1 h):b194_0 O R q x0 x1 h=stepF c194 O R q 0 [x0,x1] h:=by kernel_rfl
def b194_1(O:Oracle)(R:Jump)(q:Nat)(x0 x1 x5:TVal)(h:Heap):Res1 :=
 vop O (.nilck (.k x0)) h 17 λx17 h =>
 vfaddr 2 x17 h λx18 h =>
 vload false 1 x18 h λx19 h =>
 vlen O 2 x19 h 20 λx20 h =>
 vbin .lss 0 x5 x20 h λx21 h =>
 vif x21 (
 vop O (.nilck (.k x0)) h 25 λx25 h =>
 vfaddr 2 x25 h λx26 h =>
 vload false 1 x26 h λx27 h =>
 viaddr 2 x27 x5 h λx29 h =>
 vfaddr 0 x29 h λx30 h =>
 vload false 1 x30 h λx31 h =>
 vbin .eql 0 x31 x1 h λx33 h =>
 vif x33 (
 tcomp (kI 6) λc0=>vfin true q [c0] h)
 (vbin .add 0 x5 (kI 1) h λx23 h =>
 R 1 [x0,x1,x23] h))
 (R 2 [x0,x1] h)
theorem e194_1(O R q x0 x1 x5 h):b194_1 O R q x0 x1 x5 h=stepF c194 O R q 1 [x0,x1,x5] h:=by kernel_rfl
def b194_2(O:Oracle)(R:Jump)(q:Nat)(x0 x1:TVal)(h:Heap):Res1 :=
 vop O (.nilck (.k x0)) h 35 λx35 h =>
 vfaddr 2 x35 h λx36 h =>
 vload false 1 x36 h λx37 h =>
 vlen O 2 x37 h 38 λx38 h =>
 vbin .geq 0 x38 (kI 12) h λx39 h =>
 vif x39 (
 tcomp (kI 3) λc0=>vfin true q [c0] h)
 (vop O (.build [(.p (.int .i64 0)),(.p (.int .i64 0)),(.p (.str [])),(.p (.str [])),(.p .nilslice),(.p .nilslice),(.p .nilslice),(.p (.bool false)),(.p .nilslice)] []) h 41 λx41 h =>
 vcall O (.v (.c (.func 191 []))) [x0,(kS [100,101,102,105,110,101]),x41,(kI 0),x1] h 43 λx43 h =>
 tcomp x43 λc0=>vfin true q [c0] h)
theorem e194_2(O R q x0 x1 h):b194_2 O R q x0 x1 h=stepF c194 O R q 2 [x0,x1] h:=by kernel_rfl
def d194:BlkF:=λO R Q=>[.s λa => .s λb => .z (b194_0 O R Q a b),.s λa => .s λb => .s λc => .z (b194_1 O R Q a b c),.s λa => .s λb => .z (b194_2 O R Q a b)]
theorem o194(O:Oracle)(R:Jump)(q:Nat):HoldsAll c194 O R q 0 (d194 O R q):=⟨e194_0 O R q,e194_1 O R q,e194_2 O R q,trivial⟩
def c195:MFunc:=mkM (compF Tryz.prog (globs2 tabs opq) (λ_=>false) true Tryz.f195) (.s .n (.s .n (.s (.s .n (.k (.l 1 [0,3] .n))) .n)))
def b195_0(O:Oracle)(R:Jump)(q:Nat)(x0:TVal)(h:Heap):Res1 :=
 vlen O 0 x0 h 5 λx5 h =>
 vbin .eql 0 x5 (kI 0) h λx6 h =>
 vguard x6 false (λkk=>kk x0 h) h λx8 h =>
 vguard x6 false (λkk=>vlen O 0 x8 h 9 kk) h λx9 h =>
 vguard x6 false (λkk=>vbin .gtr 0 x9 (kI 16) h kk) h λx10 h =>
 vop O (.pick (.k x6) (.k (kB true)) (.k x10)) h 11 λx11 h =>
 vguard x11 false (λkk=>kk x0 h) h λx13 h =>
 vguard x11 false (λkk=>vindex x13 (kI 0) h kk) h λx14 h =>
 vguard x11 false (λkk=>vcall O (.v (.c (.func 184 []))) [x14] h 15 kk) h λx15 h =>
 vguard x11 false (λkk=>vop O (.un .not (.k x15)) h 16 kk) h λx16 h =>
 vop O (.pick (.k x11) (.k (kB true)) (.k x16)) h 17 λx17 h =>
 vif x17 (
 tcomp (kB false) λc0=>vfin true q [c0] h)
 (R 1 [x0,(kI 0)] h)
theorem e195_0(O R q x0 h):b195_0 O R q x0 h=stepF c195 O R q 0 [x0] h:=by kernel_rfl
def b195_1(O:Oracle)(R:Jump)(q:Nat)(x0 x3:TVal)(h:Heap):Res1 :=
 vlen O 0 x0 h 20 λx20 h =>
 vbin .lss 0 x3 x20 h λx21 h =>
 vif x21 (
 vindex x0 x3 h λx26 h =>
 vcall O (.v (.c (.func 184 []))) [x26] h 27 λx27 h =>
 vop O (.un .not (.k x27)) h 28 λx28 h =>
 vguard x28 true (λkk=>kk x0 h) h λx30 h =>
 vguard x28 true (λkk=>kk x3 h) h λx31 h =>
 vguard x28 true (λkk=>vindex x30 x31 h kk) h λx32 h =>
 vguard x28 true (λkk=>vcall O (.v (.c (.func 185 []))) [x32] h 33 kk) h λx33 h =>
 vguard x28 true (λkk=>vop O (.un .not (.k x33)) h 34 kk) h λx34 h =>
 vop O (.pick (.k x28) (.k x34) (.k (kB false))) h 35 λx35 h =>
 vif x35 (
 tcomp (kB false) λc0=>vfin true q [c0] h)
 (vbin .add 0 x3 (kI 1) h λx23 h =>
 R 1 [x0,x23] h))
 (tcomp (kB true) λc0=>vfin true q [c0] h)
theorem e195_1(O R q x0 x3 h):b195_1 O R q x0 x3 h=stepF c195 O R q 1 [x0,x3] h:=by kernel_rfl
def d195:BlkF:=λO R Q=>[.s λa => .z (b195_0 O R Q a),.s λa => .s λb => .z (b195_1 O R Q a b)]
theorem o195(O:Oracle)(R:Jump)(q:Nat):HoldsAll c195 O R q 0 (d195 O R q):=⟨e195_0 O R q,e195_1 O R q,trivial⟩
def c196:MFunc:=mkM (compF Tryz.prog (globs2 tabs opq) (λ_=>false) true Tryz.f196) .n
def b196_0(O:Oracle)(R:Jump)(q:Nat)(x0 x1 x2 x3:TVal)(h:Heap):Res1 :=
 vop O (.box (.k x1) false) h 5 λx5 h =>
 vop O (.box (.k x2) false) h 6 λx6 h =>
 vop O (.alloc [(.p (.int .i64 0)),(.p (.bool false)),(.p (.int .i64 0)),(.p (.str [])),(.p .nilslice),(.p .nilslice)] false) h 8 λx8 h =>
 vcall O (.v (.c (.func 134 []))) [x0] h 14 λx14 h =>
 vbin .neq 0 x14 (kI 0) h λx16 h =>
 vif x16 (
 vop O (.build [(.p (.int .i64 0)),(.p (.bool false)),(.p (.int .i64 0)),(.p (.str [])),(.p .nilslice),(.p .nilslice)] []) h 17 λx17 h =>
 vstore 6 x8 x17 h λ_ h =>
 vcell true 6 x8 h λc0=>tcomp x14 λc1=>vfin true q [c0,c1] h)
 (vfaddr 0 x6 h λx19 h =>
 vload false 1 x19 h λx20 h =>
 vlen O 2 x20 h 21 λx21 h =>
 vbin .eql 0 x21 (kI 0) h λx22 h =>
 vif x22 (
 vop O (.build [(.p (.int .i64 0)),(.p (.bool false)),(.p (.int .i64 0)),(.p (.str [])),(.p .nilslice),(.p .nilslice)] []) h 23 λx23 h =>
 vstore 6 x8 x23 h λ_ h =>
 vcell true 6 x8 h λc0=>tcomp (kI 12) λc1=>vfin true q [c0,c1] h)
 (vfaddr 0 x6 h λx24 h =>
 vload false 1 x24 h λx25 h =>
 viaddr 7 x25 (kI 0) h λx26 h =>
 vfaddr 0 x26 h λx27 h =>
 vload false 1 x27 h λx28 h =>
 vbin .eql 0 x28 (kI 6) h λx29 h =>
 vif x29 (
 vload true 8 x5 h λx31 h =>
 vload true 1 x6 h λx32 h =>
 vcall O (.v (.c (.func 248 []))) [x0,x31,x32,x3] h 34 λx34 h =>
 vext x34 0 h λx35 h =>
 vext x34 1 h λx36 h =>
 vstore 6 x8 x35 h λ_ h =>
 vcell true 6 x8 h λc0=>tcomp x36 λc1=>vfin true q [c0,c1] h)
 (vtouch O (.mv (.k x0)) h 38 λx38 h t0 =>
 vtouch O (.load true 8 (.k x5)) h 39 λx39 h t1 =>
 vtouch O (.faddr 0 (.k x6)) h 40 λx40 h t2 =>
 vtouch O (.load false 1 (.k x40)) h 41 λx41 h t3 =>
 vtouch O (.iaddr 7 (.k x41) (.k (kI 0))) h 42 λx42 h t4 =>
 vtouch O (.load true 7 (.k x42)) h 43 λx43 h t5 =>
 vtouch O (.call (.k (.v (.c (.func 249 [])))) [(.k x38),(.k x39),(.k x43)]) h 44 λx44 h t6 =>
 vtouch O (.mv (.k x44)) h 37 λx37 h t7 =>
 vtouch O (.extract (.k x37) 0) h 45 λx45 h t8 =>
 vtouch O (.extract (.k x37) 1) h 46 λx46 h t9 =>
 vtouch O (.alloc [(.p (.int .i64 0)),(.p (.bool false)),(.p (.int .i64 0)),(.p (.str [])),(.p .nilslice),(.p .nilslice)] false) h 11 λx11 h t10 =>
 vtouch O (.store 6 (.k x11) (.k x45)) h 1000000 λ_ h t11 =>
 vtouch O (.mv (.k x46)) h 12 λx12 h t12 =>
 bif apartAll [t0,t1,t2,t3,t4,t5,t6,t7,t8,t9,t10,t11,t12] [(1,10),(3,10),(5,10),(6,10)] then
 vbin .eql 0 x12 (kI 0) h λx48 h =>
 vguard x48 true (λkk=>kk x3 h) h λx50 h =>
 vguard x48 true (λkk=>vlen O 2 x50 h 51 kk) h λx51 h =>
 vguard x48 true (λkk=>vbin .gtr 0 x51 (kI 0) h kk) h λx52 h =>
 vop O (.pick (.k x48) (.k x52) (.k (kB false))) h 53 λx53 h =>
 vif x53 (
 vop O (.build [(.p (.int .i64 0)),(.p (.bool false)),(.p (.int .i64 0)),(.p (.str [])),(.p .nilslice),(.p .nilslice)] []) h 54 λx54 h =>
 vstore 6 x8 x54 h λ_ h =>
 vcell true 6 x8 h λc0=>tcomp (kI 18) λc1=>vfin true q [c0,c1] h)
 (vload true 6 x11 h λx55 h =>
 vstore 6 x8 x55 h λ_ h =>
 vcell true 6 x8 h λc0=>tcomp x12 λc1=>vfin true q [c0,c1] h)
 else none)))
theorem e196_0(O R q x0 x1 x2 x3 h):b196_0 O R q x0 x1 x2 x3 h=stepF c196 O R q 0 [x0,x1,x2,x3] h:=by kernel_rfl
def d196:BlkF:=λO R Q=>[.s λa => .s λb => .s λc => .s λd => .z (b196_0 O R Q a b c d)]
theorem o196(O:Oracle)(R:Jump)(q:Nat):HoldsAll c196 O R q 0 (d196 O R q):=⟨e196_0 O R q,trivial⟩
def c197:MFunc:=mkM (compF Tryz.prog (globs2 tabs opq) (λ_=>false) true Tryz.f197) .n
def b197_0(O:Oracle)(R:Jump)(q:Nat)(x0 x1:TVal)(h:Heap):Res1 :=
 vop O (.box (.k x1) false) h 3 λx3 h =>
 vfaddr 0 x3 h λx5 h =>
 vload false 1 x5 h λx6 h =>
 vbin .eql 0 x6 (kI 1) h λx8 h =>
 vif x8 (
 vfaddr 1 x3 h λx10 h =>
 vload false 1 x10 h λx11 h =>
 vcall O (.v (.c (.func 168 []))) [x11] h 12 λx12 h =>
 vcall O (.v (.c (.func 135 []))) [x0,x12] h 13 λx13 h =>
 tcomp x13 λc0=>vfin true q [c0] h)
 (vbin .eql 0 x6 (kI 2) h λx15 h =>
 vif x15 (
 vfaddr 2 x3 h λx17 h =>
 vload false 1 x17 h λx18 h =>
 vcall O (.v (.c (.func 167 []))) [x18,(kI 10)] h 19 λx19 h =>
 vcall O (.v (.c (.func 135 []))) [x0,x19] h 20 λx20 h =>
 tcomp x20 λc0=>vfin true q [c0] h)
 (vbin .eql 0 x6 (kI 3) h λx22 h =>
 vif x22 (
 vfaddr 3 x3 h λx24 h =>
 vload false 1 x24 h λx25 h =>
 vcall O (.v (.c (.func 135 []))) [x0,x25] h 26 λx26 h =>
 tcomp x26 λc0=>vfin true q [c0] h)
 (tcomp (kI 17) λc0=>vfin true q [c0] h)))
theorem e197_0(O R q x0 x1 h):b197_0 O R q x0 x1 h=stepF c197 O R q 0 [x0,x1] h:=by kernel_rfl
def d197:BlkF:=λO R Q=>[.s λa => .s λb => .z (b197_0 O R Q a b)]
theorem o197(O:Oracle)(R:Jump)(q:Nat):HoldsAll c197 O R q 0 (d197 O R q):=⟨e197_0 O R q,trivial⟩
def c198:MFunc:=mkM (compF Tryz.prog (globs2 tabs opq) (λ_=>false) false Tryz.f198) .n
def b198_0(O:Oracle)(R:Jump)(q:Nat)(x0 x1:TVal)(h:Heap):Res1 :=
 vop O (.box (.k x0) false) h 2 λx2 h =>
 vop O (.box (.k x1) false) h 3 λx3 h =>
 vop O (.alloc [(.p .nilptr)] false) h 4 λx4 h =>
 vfaddr 6 x2 h λx7 h =>
 vload false 1 x7 h λx8 h =>
 vcall O (.v (.c (.func 250 []))) [x8] h 9 λx9 h =>
 none
theorem e198_0(O R q x0 x1 h):b198_0 O R q x0 x1 h=stepF c198 O R q 0 [x0,x1] h:=by kernel_rfl
def d198:BlkF:=λO R Q=>[.s λa => .s λb => .z (b198_0 O R Q a b)]
theorem o198(O:Oracle)(R:Jump)(q:Nat):HoldsAll c198 O R q 0 (d198 O R q):=⟨e198_0 O R q,trivial⟩
def c199:MFunc:=mkM (compF Tryz.prog (globs2 tabs opq) (λ_=>false) false Tryz.f199) .n
def b199_0(O:Oracle)(R:Jump)(q:Nat)(x0 x1:TVal)(h:Heap):Res1 :=
 vop O (.box (.k x0) false) h 2 λx2 h =>
 vop O (.box (.k x1) false) h 3 λx3 h =>
 vop O (.alloc [(.p (.int .i64 0)),(.p (.bool false)),(.p (.int .i64 0)),(.p (.str [])),(.p .nilslice),(.p .nilslice),(.p .nilslice),(.p (.int .i64 0))] false) h 4 λx4 h =>
 vload true 6 x3 h λx5 h =>
 vfaddr 0 x2 h λx6 h =>
 vstore 6 x6 x5 h λ_ h =>
 vload true 8 x2 h λx7 h =>
 vstore 8 x4 x7 h λ_ h =>
 vcell true 8 x4 h λc0=>vfin false q [c0] h
theorem e199_0(O R q x0 x1 h):b199_0 O R q x0 x1 h=stepF c199 O R q 0 [x0,x1] h:=by kernel_rfl
def d199:BlkF:=λO R Q=>[.s λa => .s λb => .z (b199_0 O R Q a b)]
theorem o199(O:Oracle)(R:Jump)(q:Nat):HoldsAll c199 O R q 0 (d199 O R q):=⟨e199_0 O R q,trivial⟩
def c200:MFunc:=mkM (compF Tryz.prog (globs2 tabs opq) (λ_=>false) true Tryz.f200) (.s .n (.s (.s .n (.k (.s .n (.m 1 [0,5,6,7,15] .n)))) (.s (.s .n (.k (.l 2 [0,5,6,28,29,30] .n))) .n)))
def b200_0(O:Oracle)(R:Jump)(q:Nat)(x0 x1 x2 x3:TVal)(h:Heap):Res1 :=
 vop O (.box (.k x1) false) h 5 λx5 h =>
 vop O (.box (.k x2) false) h 6 λx6 h =>
 vop O (.box (.k x3) false) h 7 λx7 h =>
 vfaddr 0 x7 h λx13 h =>
 vload false 1 x13 h λx14 h =>
 vbin .eql 0 x14 (kI 4) h λx16 h =>
 vif x16 (
 R 1 [x0,x5,x6,x7,x16] h)
 (vbin .eql 0 x14 (kI 5) h λx17 h =>
 R 1 [x0,x5,x6,x7,x17] h)
theorem e200_0(O R q x0 x1 x2 x3 h):b200_0 O R q x0 x1 x2 x3 h=stepF c200 O R q 0 [x0,x1,x2,x3] h:=by kernel_rfl
def b200_1(O:Oracle)(R:Jump)(q:Nat)(x0 x5 x6 x7 x15:TVal)(h:Heap):Res1 :=
 vif x15 (
 vfaddr 5 x7 h λx18 h =>
 vload false 1 x18 h λx19 h =>
 vlen O 2 x19 h 20 λx20 h =>
 vbin .eql 0 x20 (kI 0) h λx21 h =>
 vif x21 (
 vload true 8 x5 h λx23 h =>
 vfaddr 6 x6 h λx24 h =>
 vload false 1 x24 h λx25 h =>
 vcall O (.v (.c (.func 68 []))) [x0,x23,x25] h 26 λx26 h =>
 tcomp x26 λc0=>vfin true q [c0] h)
 (vfaddr 5 x7 h λx27 h =>
 vload false 1 x27 h λx28 h =>
 vlen O 2 x28 h 29 λx29 h =>
 R 2 [x0,x5,x6,x28,x29,(kI 0)] h))
 (tcomp (kI 17) λc0=>vfin true q [c0] h)
theorem e200_1(O R q x0 x5 x6 x7 x15 h):b200_1 O R q x0 x5 x6 x7 x15 h=stepF c200 O R q 1 [x0,x5,x6,x7,x15] h:=by kernel_rfl
def b200_2(O:Oracle)(R:Jump)(q:Nat)(x0 x5 x6 x28 x29 x30:TVal)(h:Heap):Res1 :=
 vbin .lss 0 x30 x29 h λx31 h =>
 vif x31 (
 viaddr 6 x28 x30 h λx32 h =>
 vload true 6 x32 h λx33 h =>
 vop O (.alloc [(.p (.int .i64 0)),(.p (.bool false)),(.p (.int .i64 0)),(.p (.str [])),(.p .nilslice),(.p .nilslice)] false) h 10 λx10 h =>
 vstore 6 x10 x33 h λ_ h =>
 vcall O (.v (.c (.func 134 []))) [x0] h 35 λx35 h =>
 vbin .neq 0 x35 (kI 0) h λx37 h =>
 vif x37 (
 tcomp x35 λc0=>vfin true q [c0] h)
 (vtouch O (.mv (.k x0)) h 39 λx39 h t0 =>
 vtouch O (.load true 8 (.k x5)) h 40 λx40 h t1 =>
 vtouch O (.load true 6 (.k x10)) h 41 λx41 h t2 =>
 vtouch O (.call (.k (.v (.c (.func 199 [])))) [(.k x40),(.k x41)]) h 42 λx42 h t3 =>
 vtouch O (.faddr 5 (.k x6)) h 43 λx43 h t4 =>
 vtouch O (.load false 1 (.k x43)) h 44 λx44 h t5 =>
 vtouch O (.call (.k (.v (.c (.func 68 [])))) [(.k x39),(.k x42),(.k x44)]) h 45 λx45 h t6 =>
 vtouch O (.mv (.k x45)) h 12 λx12 h t7 =>
 bif apartAll [t0,t1,t2,t3,t4,t5,t6,t7] [(3,5)] then
 vbin .neq 0 x12 (kI 0) h λx47 h =>
 vif x47 (
 tcomp x12 λc0=>vfin true q [c0] h)
 (vbin .add 0 x30 (kI 1) h λx49 h =>
 R 2 [x0,x5,x6,x28,x29,x49] h)
 else none))
 (tcomp (kI 0) λc0=>vfin true q [c0] h)
theorem e200_2(O R q x0 x5 x6 x28 x29 x30 h):b200_2 O R q x0 x5 x6 x28 x29 x30 h=stepF c200 O R q 2 [x0,x5,x6,x28,x29,x30] h:=by kernel_rfl
def d200:BlkF:=λO R Q=>[.s λa => .s λb => .s λc => .s λd => .z (b200_0 O R Q a b c d),.s λa => .s λb => .s λc => .s λd => .s λe => .z (b200_1 O R Q a b c d e),.s λa => .s λb => .s λc => .s λd => .s λe => .s λf => .z (b200_2 O R Q a b c d e f)]
theorem o200(O:Oracle)(R:Jump)(q:Nat):HoldsAll c200 O R q 0 (d200 O R q):=⟨e200_0 O R q,e200_1 O R q,e200_2 O R q,trivial⟩
def c201:MFunc:=mkM (compF Tryz.prog (globs2 tabs opq) (λ_=>false) true Tryz.f201) (.s .n (.s .n (.s (.s .n (.k (.l 1 [0,5,6,7,27,28,29] .n))) (.m 2 [0,5,6] .n))))
def b201_0(O:Oracle)(R:Jump)(q:Nat)(x0 x1 x2 x3:TVal)(h:Heap):Res1 :=
 vop O (.box (.k x1) false) h 5 λx5 h =>
 vop O (.box (.k x2) false) h 6 λx6 h =>
 vop O (.box (.k x3) false) h 7 λx7 h =>
 vfaddr 0 x7 h λx11 h =>
 vload false 1 x11 h λx12 h =>
 vbin .neq 0 x12 (kI 5) h λx13 h =>
 vguard x13 false (λkk=>vfaddr 4 x7 h kk) h λx15 h =>
 vguard x13 false (λkk=>vload false 1 x15 h kk) h λx16 h =>
 vguard x13 false (λkk=>vlen O 2 x16 h 17 kk) h λx17 h =>
 vguard x13 false (λkk=>vbin .neq 0 x17 (kI 1) h kk) h λx18 h =>
 vop O (.pick (.k x13) (.k (kB true)) (.k x18)) h 19 λx19 h =>
 vguard x19 false (λkk=>vfaddr 5 x7 h kk) h λx21 h =>
 vguard x19 false (λkk=>vload false 1 x21 h kk) h λx22 h =>
 vguard x19 false (λkk=>vlen O 2 x22 h 23 kk) h λx23 h =>
 vguard x19 false (λkk=>vbin .neq 0 x23 (kI 1) h kk) h λx24 h =>
 vop O (.pick (.k x19) (.k (kB true)) (.k x24)) h 25 λx25 h =>
 vif x25 (
 tcomp (kI 17) λc0=>vfin true q [c0] h)
 (vfaddr 8 x6 h λx26 h =>
 vload false 1 x26 h λx27 h =>
 vlen O 2 x27 h 28 λx28 h =>
 R 1 [x0,x5,x6,x7,x27,x28,(kI 0)] h)
theorem e201_0(O R q x0 x1 x2 x3 h):b201_0 O R q x0 x1 x2 x3 h=stepF c201 O R q 0 [x0,x1,x2,x3] h:=by kernel_rfl
def b201_1(O:Oracle)(R:Jump)(q:Nat)(x0 x5 x6 x7 x27 x28 x29:TVal)(h:Heap):Res1 :=
 vbin .lss 0 x29 x28 h λx30 h =>
 vif x30 (
 viaddr 2 x27 x29 h λx31 h =>
 vload true 2 x31 h λx32 h =>
 vop O (.alloc [(.p (.str [])),(.p .nilslice)] false) h 10 λx10 h =>
 vstore 2 x10 x32 h λ_ h =>
 vfaddr 0 x10 h λx33 h =>
 vload false 1 x33 h λx34 h =>
 vfaddr 4 x7 h λx35 h =>
 vload false 1 x35 h λx36 h =>
 viaddr 1 x36 (kI 0) h λx37 h =>
 vload false 1 x37 h λx38 h =>
 vbin .eql 0 x34 x38 h λx39 h =>
 vif x39 (
 vtouch O (.mv (.k x0)) h 40 λx40 h t0 =>
 vtouch O (.load true 8 (.k x5)) h 41 λx41 h t1 =>
 vtouch O (.faddr 5 (.k x7)) h 42 λx42 h t2 =>
 vtouch O (.load false 1 (.k x42)) h 43 λx43 h t3 =>
 vtouch O (.iaddr 6 (.k x43) (.k (kI 0))) h 44 λx44 h t4 =>
 vtouch O (.load true 6 (.k x44)) h 45 λx45 h t5 =>
 vtouch O (.call (.k (.v (.c (.func 199 [])))) [(.k x41),(.k x45)]) h 46 λx46 h t6 =>
 vtouch O (.faddr 1 (.k x10)) h 47 λx47 h t7 =>
 vtouch O (.load false 1 (.k x47)) h 48 λx48 h t8 =>
 vtouch O (.call (.k (.v (.c (.func 68 [])))) [(.k x40),(.k x46),(.k x48)]) h 49 λx49 h t9 =>
 vtouch O (.mv (.k x49)) h 8 λx8 h t10 =>
 bif apartAll [t0,t1,t2,t3,t4,t5,t6,t7,t8,t9,t10] [(6,8)] then
 tcomp x8 λc0=>vfin true q [c0] h
 else none)
 (vbin .add 0 x29 (kI 1) h λx50 h =>
 R 1 [x0,x5,x6,x7,x27,x28,x50] h))
 (R 2 [x0,x5,x6] h)
theorem e201_1(O R q x0 x5 x6 x7 x27 x28 x29 h):b201_1 O R q x0 x5 x6 x7 x27 x28 x29 h=stepF c201 O R q 1 [x0,x5,x6,x7,x27,x28,x29] h:=by kernel_rfl
def b201_2(O:Oracle)(R:Jump)(q:Nat)(x0 x5 x6:TVal)(h:Heap):Res1 :=
 vfaddr 7 x6 h λx51 h =>
 vload false 1 x51 h λx52 h =>
 vif x52 (
 vload true 8 x5 h λx54 h =>
 vfaddr 6 x6 h λx55 h =>
 vload false 1 x55 h λx56 h =>
 vcall O (.v (.c (.func 68 []))) [x0,x54,x56] h 57 λx57 h =>
 tcomp x57 λc0=>vfin true q [c0] h)
 (tcomp (kI 19) λc0=>vfin true q [c0] h)
theorem e201_2(O R q x0 x5 x6 h):b201_2 O R q x0 x5 x6 h=stepF c201 O R q 2 [x0,x5,x6] h:=by kernel_rfl
def d201:BlkF:=λO R Q=>[.s λa => .s λb => .s λc => .s λd => .z (b201_0 O R Q a b c d),.s λa => .s λb => .s λc => .s λd => .s λe => .s λf => .s λg => .z (b201_1 O R Q a b c d e f g),.s λa => .s λb => .s λc => .z (b201_2 O R Q a b c)]
theorem o201(O:Oracle)(R:Jump)(q:Nat):HoldsAll c201 O R q 0 (d201 O R q):=⟨e201_0 O R q,e201_1 O R q,e201_2 O R q,trivial⟩
def c202:MFunc:=mkM (compF Tryz.prog (globs2 tabs opq) (λ_=>false) true Tryz.f202) .n
def b202_0(O:Oracle)(R:Jump)(q:Nat)(x0 x1 x2 x3:TVal)(h:Heap):Res1 :=
 vop O (.box (.k x1) false) h 5 λx5 h =>
 vop O (.box (.k x2) false) h 6 λx6 h =>
 vop O (.box (.k x3) false) h 7 λx7 h =>
 vop O (.nilck (.k x0)) h 11 λx11 h =>
 vfaddr 3 x11 h λx12 h =>
 vload false 1 x12 h λx13 h =>
 vop O (.mkfn 252 [(.k x6)]) h 14 λx14 h =>
 vcall O (.v (.c (.func 251 []))) [x13,x14] h 15 λx15 h =>
 vbin .lss 0 x15 (kI 0) h λx18 h =>
 vguard x18 false (λkk=>vload false 1 x6 h kk) h λx20 h =>
 vguard x18 false (λkk=>vbin .eql 0 x20 (kS []) h kk) h λx21 h =>
 vop O (.pick (.k x18) (.k (kB true)) (.k x21)) h 22 λx22 h =>
 vif x22 (
 tcomp (kI 15) λc0=>vfin true q [c0] h)
 (vfaddr 7 x5 h λx24 h =>
 vload false 1 x24 h λx25 h =>
 vop O (.nilck (.k x0)) h 27 λx27 h =>
 vfaddr 0 x27 h λx28 h =>
 vfaddr 1 x28 h λx29 h =>
 vload false 1 x29 h λx30 h =>
 vbin .geq 0 x25 x30 h λx31 h =>
 vif x31 (
 tcomp (kI 35) λc0=>vfin true q [c0] h)
 (vload true 6 x7 h λx33 h =>
 vfaddr 7 x5 h λx34 h =>
 vload false 1 x34 h λx35 h =>
 vbin .add 0 x35 (kI 1) h λx36 h =>
 vop O (.build [(.p (.int .i64 0)),(.p (.bool false)),(.p (.int .i64 0)),(.p (.str [])),(.p .nilslice),(.p .nilslice),(.p .nilslice),(.p (.int .i64 0))] [(0,6,(.k x33)),(7,1,(.k x36))]) h 37 λx37 h =>
 vop O (.nilck (.k x0)) h 39 λx39 h =>
 vfaddr 3 x39 h λx40 h =>
 vload false 1 x40 h λx41 h =>
 viaddr 2 x41 x15 h λx43 h =>
 vfaddr 1 x43 h λx44 h =>
 vload false 1 x44 h λx45 h =>
 vcall O (.v (.c (.func 68 []))) [x0,x37,x45] h 46 λx46 h =>
 tcomp x46 λc0=>vfin true q [c0] h))
theorem e202_0(O R q x0 x1 x2 x3 h):b202_0 O R q x0 x1 x2 x3 h=stepF c202 O R q 0 [x0,x1,x2,x3] h:=by kernel_rfl
def d202:BlkF:=λO R Q=>[.s λa => .s λb => .s λc => .s λd => .z (b202_0 O R Q a b c d)]
theorem o202(O:Oracle)(R:Jump)(q:Nat):HoldsAll c202 O R q 0 (d202 O R q):=⟨e202_0 O R q,trivial⟩
def c228:MFunc:=mkM (compF Tryz.prog (globs2 tabs opq) (λ_=>false) true Tryz.f228) .n
def b228_0(O:Oracle)(R:Jump)(q:Nat)(x0:TVal)(h:Heap):Res1 :=
 vbin .geq 0 x0 (.v (.c (.p (.int .u8 48)))) h λx4 h =>
 vguard x4 true (λkk=>kk x0 h) h λx6 h =>
 vguard x4 true (λkk=>vbin .leq 0 x6 (.v (.c (.p (.int .u8 57)))) h kk) h λx7 h =>
 vop O (.pick (.k x4) (.k x7) (.k (kB false))) h 8 λx8 h =>
 tcomp x8 λc0=>vfin true q [c0] h
theorem e228_0(O R q x0 h):b228_0 O R q x0 h=stepF c228 O R q 0 [x0] h:=by kernel_rfl
def d228:BlkF:=λO R Q=>[.s λa => .z (b228_0 O R Q a)]
theorem o228(O:Oracle)(R:Jump)(q:Nat):HoldsAll c228 O R q 0 (d228 O R q):=⟨e228_0 O R q,trivial⟩
def c229:MFunc:=mkM (compF Tryz.prog (globs2 tabs opq) (λ_=>false) true Tryz.f229) .n
def b229_0(O:Oracle)(R:Jump)(q:Nat)(x0:TVal)(h:Heap):Res1 :=
 vcall O (.v (.c (.func 262 []))) [x0,(.v (.c (.func 263 [])))] h 4 λx4 h =>
 tcomp x4 λc0=>vfin true q [c0] h
theorem e229_0(O R q x0 h):b229_0 O R q x0 h=stepF c229 O R q 0 [x0] h:=by kernel_rfl
def d229:BlkF:=λO R Q=>[.s λa => .z (b229_0 O R Q a)]
theorem o229(O:Oracle)(R:Jump)(q:Nat):HoldsAll c229 O R q 0 (d229 O R q):=⟨e229_0 O R q,trivial⟩
def c230:MFunc:=mkM (compF Tryz.prog (globs2 tabs opq) (λ_=>false) true Tryz.f230) .n
def b230_0(O:Oracle)(R:Jump)(q:Nat)(x0 x1:TVal)(h:Heap):Res1 :=
 vcall O (.v (.c (.func 264 []))) [x0,x1] h 7 λx7 h =>
 tcomp x7 λc0=>vfin true q [c0] h
theorem e230_0(O R q x0 x1 h):b230_0 O R q x0 x1 h=stepF c230 O R q 0 [x0,x1] h:=by kernel_rfl
def d230:BlkF:=λO R Q=>[.s λa => .s λb => .z (b230_0 O R Q a b)]
theorem o230(O:Oracle)(R:Jump)(q:Nat):HoldsAll c230 O R q 0 (d230 O R q):=⟨e230_0 O R q,trivial⟩
def c231:MFunc:=mkM (compF Tryz.prog (globs2 tabs opq) (λ_=>false) true Tryz.f231) (.s .n (.s (.s .n (.k (.l 1 [0,1,7,8] .n))) .n))
def b231_0(O:Oracle)(R:Jump)(q:Nat)(x0 x1:TVal)(h:Heap):Res1 :=
 vlen O 2 x0 h 7 λx7 h =>
 R 1 [x0,x1,x7,(kI 0)] h
theorem e231_0(O R q x0 x1 h):b231_0 O R q x0 x1 h=stepF c231 O R q 0 [x0,x1] h:=by kernel_rfl
def b231_1(O:Oracle)(R:Jump)(q:Nat)(x0 x1 x7 x8:TVal)(h:Heap):Res1 :=
 vbin .lss 0 x8 x7 h λx9 h =>
 vif x9 (
 viaddr 6 x0 x8 h λx14 h =>
 vload true 6 x14 h λx15 h =>
 vcall O x1 [x15] h 16 λx16 h =>
 vif x16 (
 tcomp x8 λc0=>vfin true q [c0] h)
 (vbin .add 0 x8 (kI 1) h λx18 h =>
 R 1 [x0,x1,x7,x18] h))
 (tcomp (kI (-1)) λc0=>vfin true q [c0] h)
theorem e231_1(O R q x0 x1 x7 x8 h):b231_1 O R q x0 x1 x7 x8 h=stepF c231 O R q 1 [x0,x1,x7,x8] h:=by kernel_rfl
def d231:BlkF:=λO R Q=>[.s λa => .s λb => .z (b231_0 O R Q a b),.s λa => .s λb => .s λc => .s λd => .z (b231_1 O R Q a b c d)]
theorem o231(O:Oracle)(R:Jump)(q:Nat):HoldsAll c231 O R q 0 (d231 O R q):=⟨e231_0 O R q,e231_1 O R q,trivial⟩
def c232:MFunc:=mkM (compF Tryz.prog (globs2 tabs opq) (λ_=>false) true Tryz.f232) (.s .n (.s (.s .n (.s (.s .n (.s .n (.s .n (.s .n (.m 1 [0,5,6] .n))))) .n)) .n))
def b232_0(O:Oracle)(R:Jump)(q:Nat)(x0 x1:TVal)(h:Heap):Res1 :=
 vbin .eql 0 x1 (kI 10) h λx11 h =>
 vif x11 (
 vbin .leq 0 (kI 0) x0 h λx13 h =>
 vguard x13 true (λkk=>kk x0 h) h λx15 h =>
 vguard x13 true (λkk=>vbin .lss 0 x15 (kI 100) h kk) h λx16 h =>
 vop O (.pick (.k x13) (.k x16) (.k (kB false))) h 17 λx17 h =>
 vif x17 (
 vcall O (.v (.c (.func 265 []))) [x0] h 19 λx19 h =>
 tcomp x19 λc0=>vfin true q [c0] h)
 (vop O (.alloc [(.p (.int .u8 0)),(.p (.int .u8 0)),(.p (.int .u8 0)),(.p (.int .u8 0)),(.p (.int .u8 0)),(.p (.int .u8 0)),(.p (.int .u8 0)),(.p (.int .u8 0)),(.p (.int .u8 0)),(.p (.int .u8 0)),(.p (.int .u8 0)),(.p (.int .u8 0)),(.p (.int .u8 0)),(.p (.int .u8 0)),(.p (.int .u8 0)),(.p (.int .u8 0)),(.p (.int .u8 0)),(.p (.int .u8 0)),(.p (.int .u8 0)),(.p (.int .u8 0)),(.p (.int .u8 0)),(.p (.int .u8 0)),(.p (.int .u8 0)),(.p (.int .u8 0))] false) h 5 λx5 h =>
 vtoInt .u64 x0 h λx21 h =>
 vbin .lss 0 x0 (kI 0) h λx23 h =>
 vif x23 (
 vop O (.un .neg (.k x21)) h 25 λx25 h =>
 R 1 [x0,x5,x25] h)
 (R 1 [x0,x5,x21] h)))
 (vtoInt .u64 x0 h λx46 h =>
 vbin .lss 0 x0 (kI 0) h λx49 h =>
 vcall O (.v (.c (.func 268 []))) [(.v (.c (.p .nilslice))),x46,x1,x49,(kB false)] h 50 λx50 h =>
 vext x50 0 h λx51 h =>
 vext x50 1 h λx52 h =>
 tcomp x52 λc0=>vfin true q [c0] h)
theorem e232_0(O R q x0 x1 h):b232_0 O R q x0 x1 h=stepF c232 O R q 0 [x0,x1] h:=by kernel_rfl
def b232_1(O:Oracle)(R:Jump)(q:Nat)(x0 x5 x6:TVal)(h:Heap):Res1 :=
 vcall O (.v (.c (.func 266 []))) [x6] h 27 λx27 h =>
 vbin .add 0 (kI 1) x27 h λx29 h =>
 vop O (.sliceA 24 1 (.k x5) (some (.k (kI 1))) (some (.k x29))) h 30 λx30 h =>
 vcall O (.v (.c (.func 267 []))) [x30,x6] h 32 λx32 h =>
 vbin .lss 0 x0 (kI 0) h λx34 h =>
 vif x34 (
 vop O (.iaddrA 24 1 (.k x5) (.k (kI 0))) h 35 λx35 h =>
 vstore 1 x35 (.v (.c (.p (.int .u8 45)))) h λ_ h =>
 vbin .add 0 (kI 1) x27 h λx37 h =>
 vop O (.sliceA 24 1 (.k x5) none (some (.k x37))) h 38 λx38 h =>
 vop O (.toStr (.k x38)) h 39 λx39 h =>
 tcomp x39 λc0=>vfin true q [c0] h)
 (vbin .add 0 (kI 1) x27 h λx41 h =>
 vop O (.sliceA 24 1 (.k x5) (some (.k (kI 1))) (some (.k x41))) h 42 λx42 h =>
 vop O (.toStr (.k x42)) h 43 λx43 h =>
 tcomp x43 λc0=>vfin true q [c0] h)
theorem e232_1(O R q x0 x5 x6 h):b232_1 O R q x0 x5 x6 h=stepF c232 O R q 1 [x0,x5,x6] h:=by kernel_rfl
def d232:BlkF:=λO R Q=>[.s λa => .s λb => .z (b232_0 O R Q a b),.s λa => .s λb => .s λc => .z (b232_1 O R Q a b c)]
theorem o232(O:Oracle)(R:Jump)(q:Nat):HoldsAll c232 O R q 0 (d232 O R q):=⟨e232_0 O R q,e232_1 O R q,trivial⟩
def c233:MFunc:=mkM (compF Tryz.prog (globs2 tabs opq) (λ_=>false) true Tryz.f233) .n
def b233_0(O:Oracle)(R:Jump)(q:Nat)(x0:TVal)(h:Heap):Res1 :=
 vif x0 (
 tcomp (kS [116,114,117,101]) λc0=>vfin true q [c0] h)
 (tcomp (kS [102,97,108,115,101]) λc0=>vfin true q [c0] h)
theorem e233_0(O R q x0 h):b233_0 O R q x0 h=stepF c233 O R q 0 [x0] h:=by kernel_rfl
def d233:BlkF:=λO R Q=>[.s λa => .z (b233_0 O R Q a)]
theorem o233(O:Oracle)(R:Jump)(q:Nat):HoldsAll c233 O R q 0 (d233 O R q):=⟨e233_0 O R q,trivial⟩
def c234:MFunc:=mkM (compF Tryz.prog (globs2 tabs opq) (λ_=>false) true Tryz.f234) .n
def b234_0(O:Oracle)(R:Jump)(q:Nat)(x0:TVal)(h:Heap):Res1 :=
 vbin .eql 2 x0 (.v (.c (.p .nilslice))) h λx4 h =>
 vif x4 (
 tcomp (.v (.c (.p .nilslice))) λc0=>vfin true q [c0] h)
 (vop O (.bslice 1 0 [(.p (.str []))] [] false) h 5 λx5 h =>
 vop O (.append 1 16 false (.k x5) (.k x0)) h 7 λx7 h =>
 tcomp x7 λc0=>vfin true q [c0] h)
theorem e234_0(O R q x0 h):b234_0 O R q x0 h=stepF c234 O R q 0 [x0] h:=by kernel_rfl
def d234:BlkF:=λO R Q=>[.s λa => .z (b234_0 O R Q a)]
theorem o234(O:Oracle)(R:Jump)(q:Nat):HoldsAll c234 O R q 0 (d234 O R q):=⟨e234_0 O R q,trivial⟩
def c237:MFunc:=mkM (compF Tryz.prog (globs2 tabs opq) (λ_=>false) true Tryz.f237) .n
def b237_0(O:Oracle)(R:Jump)(q:Nat)(x0:TVal)(h:Heap):Res1 :=
 vbin .eql 0 x0 (.v (.c (.p (.int .u8 95)))) h λx4 h =>
 vguard x4 false (λkk=>kk x0 h) h λx6 h =>
 vguard x4 false (λkk=>vbin .or 0 x6 (.v (.c (.p (.int .u8 32)))) h kk) h λx7 h =>
 vguard x4 false (λkk=>vbin .geq 0 x7 (.v (.c (.p (.int .u8 97)))) h kk) h λx8 h =>
 vguard x4 false (λkk=>kk x8 h) h λx9 h =>
 vguard x9 true (λkk=>kk x0 h) h λx10 h =>
 vguard x9 true (λkk=>vbin .or 0 x10 (.v (.c (.p (.int .u8 32)))) h kk) h λx11 h =>
 vguard x9 true (λkk=>vbin .leq 0 x11 (.v (.c (.p (.int .u8 122)))) h kk) h λx12 h =>
 vguard x4 false (λkk=>vop O (.pick (.k x9) (.k x12) (.k (kB false))) h 13 kk) h λx13 h =>
 vop O (.pick (.k x4) (.k (kB true)) (.k x13)) h 14 λx14 h =>
 tcomp x14 λc0=>vfin true q [c0] h
theorem e237_0(O R q x0 h):b237_0 O R q x0 h=stepF c237 O R q 0 [x0] h:=by kernel_rfl
def d237:BlkF:=λO R Q=>[.s λa => .z (b237_0 O R Q a)]
theorem o237(O:Oracle)(R:Jump)(q:Nat):HoldsAll c237 O R q 0 (d237 O R q):=⟨e237_0 O R q,trivial⟩
def c245:MFunc:=mkM (compF Tryz.prog (globs2 tabs opq) (λ_=>false) true Tryz.f245) .n
def b245_0(O:Oracle)(R:Jump)(q:Nat)(x0:TVal)(h:Heap):Res1 :=
 vbin .lss 0 x0 (kI 0) h λx4 h =>
 vif x4 (
 vbin .eql 0 x0 (kI (-9223372036854775808)) h λx6 h =>
 vif x6 (
 tcomp (kS [45,57,50,50,51,51,55,50,48,51,54,56,53,52,55,55,53,56,48,56]) λc0=>vfin true q [c0] h)
 (vbin .sub 0 (kI 0) x0 h λx8 h =>
 vcall O (.v (.c (.func 245 []))) [x8] h 9 λx9 h =>
 vbin .add 0 (kS [45]) x9 h λx10 h =>
 tcomp x10 λc0=>vfin true q [c0] h))
 (vbin .geq 0 x0 (kI 10) h λx12 h =>
 vif x12 (
 vbin .quo 0 x0 (kI 10) h λx14 h =>
 vcall O (.v (.c (.func 245 []))) [x14] h 15 λx15 h =>
 vbin .rem 0 x0 (kI 10) h λx17 h =>
 vcall O (.v (.c (.func 245 []))) [x17] h 18 λx18 h =>
 vbin .add 0 x15 x18 h λx19 h =>
 tcomp x19 λc0=>vfin true q [c0] h)
 (vbin .add 0 (kI 48) x0 h λx21 h =>
 vtoInt .u8 x21 h λx22 h =>
 vop O (.bslice 1 1 [(.p (.int .u8 0))] [(0,(.k x22))] false) h 23 λx23 h =>
 vop O (.toStr (.k x23)) h 24 λx24 h =>
 tcomp x24 λc0=>vfin true q [c0] h))
theorem e245_0(O R q x0 h):b245_0 O R q x0 h=stepF c245 O R q 0 [x0] h:=by kernel_rfl
def d245:BlkF:=λO R Q=>[.s λa => .z (b245_0 O R Q a)]
theorem o245(O:Oracle)(R:Jump)(q:Nat):HoldsAll c245 O R q 0 (d245 O R q):=⟨e245_0 O R q,trivial⟩
def c246:MFunc:=mkM (compF Tryz.prog (globs2 tabs opq) (λ_=>false) true Tryz.f246) (.s .n (.s .n (.s .n (.s .n (.s .n (.s .n (.m 1 [4,8] .n)))))))
def b246_0(O:Oracle)(R:Jump)(q:Nat)(x0 x1:TVal)(h:Heap):Res1 :=
 vop O (.alloc [(.p (.int .i64 0)),(.p (.str [])),(.p .nilslice),(.p (.str [])),(.p (.int .i64 0)),(.p (.bool false)),(.p .nilslice)] false) h 4 λx4 h =>
 vcall O (.v (.c (.func 247 []))) [x0] h 10 λx10 h =>
 vop O (.un .not (.k x10)) h 11 λx11 h =>
 vif x11 (
 vcall O (.v (.c (.func 190 []))) [x0,(kI 12)] h 13 λx13 h =>
 vop O (.build [(.p (.int .i64 0)),(.p (.str [])),(.p .nilslice),(.p (.str [])),(.p (.int .i64 0)),(.p (.bool false)),(.p .nilslice)] []) h 14 λx14 h =>
 vstore 7 x4 x14 h λ_ h =>
 vcell true 7 x4 h λc0=>vfin true q [c0] h)
 (vtouch O (.mv (.k x0)) h 15 λx15 h t0 =>
 vtouch O (.nilck (.k x15)) h 16 λx16 h t1 =>
 vtouch O (.faddr 0 (.k x16)) h 17 λx17 h t2 =>
 vtouch O (.load false 1 (.k x17)) h 18 λx18 h t3 =>
 vtouch O (.mv (.k x0)) h 19 λx19 h t4 =>
 vtouch O (.nilck (.k x19)) h 20 λx20 h t5 =>
 vtouch O (.faddr 1 (.k x20)) h 21 λx21 h t6 =>
 vtouch O (.load false 1 (.k x21)) h 22 λx22 h t7 =>
 vtouch O (.iaddr 4 (.k x18) (.k x22)) h 23 λx23 h t8 =>
 vtouch O (.load true 4 (.k x23)) h 24 λx24 h t9 =>
 vtouch O (.alloc [(.p (.int .i64 0)),(.p (.str [])),(.p (.int .i64 0)),(.p (.int .i64 0))] false) h 5 λx5 h t10 =>
 vtouch O (.store 4 (.k x5) (.k x24)) h 1000000 λ_ h t11 =>
 bif apartAll [t0,t1,t2,t3,t4,t5,t6,t7,t8,t9,t10,t11] [(3,10),(7,10),(9,10)] then
 vfaddr 0 x5 h λx26 h =>
 vload false 1 x26 h λx27 h =>
 vbin .eql 0 x27 (kI 2) h λx28 h =>
 vif x28 (
 vop O (.nilck (.k x0)) h 30 λx30 h =>
 vfaddr 1 x30 h λx31 h =>
 vload false 1 x31 h λx32 h =>
 vbin .add 0 x32 (kI 1) h λx33 h =>
 vop O (.nilck (.k x0)) h 34 λx34 h =>
 vfaddr 1 x34 h λx35 h =>
 vstore 1 x35 x33 h λ_ h =>
 vfaddr 1 x5 h λx36 h =>
 vload false 1 x36 h λx37 h =>
 vop O (.build [(.p (.int .i64 0)),(.p (.str [])),(.p .nilslice),(.p (.str [])),(.p (.int .i64 0)),(.p (.bool false)),(.p .nilslice)] [(0,1,(.k (kI 2))),(3,1,(.k x37))]) h 38 λx38 h =>
 vstore 7 x4 x38 h λ_ h =>
 vcell true 7 x4 h λc0=>vfin true q [c0] h)
 (vfaddr 0 x5 h λx40 h =>
 vload false 1 x40 h λx41 h =>
 vbin .eql 0 x41 (kI 3) h λx42 h =>
 vif x42 (
 vop O (.nilck (.k x0)) h 44 λx44 h =>
 vfaddr 1 x44 h λx45 h =>
 vload false 1 x45 h λx46 h =>
 vbin .add 0 x46 (kI 1) h λx47 h =>
 vop O (.nilck (.k x0)) h 48 λx48 h =>
 vfaddr 1 x48 h λx49 h =>
 vstore 1 x49 x47 h λ_ h =>
 vfaddr 2 x5 h λx50 h =>
 vload false 1 x50 h λx51 h =>
 vop O (.build [(.p (.int .i64 0)),(.p (.str [])),(.p .nilslice),(.p (.str [])),(.p (.int .i64 0)),(.p (.bool false)),(.p .nilslice)] [(0,1,(.k (kI 3))),(4,1,(.k x51))]) h 52 λx52 h =>
 vstore 7 x4 x52 h λ_ h =>
 vcell true 7 x4 h λc0=>vfin true q [c0] h)
 (vfaddr 0 x5 h λx54 h =>
 vload false 1 x54 h λx55 h =>
 vbin .eql 0 x55 (kI 1) h λx56 h =>
 vif x56 (
 vop O (.nilck (.k x0)) h 58 λx58 h =>
 vfaddr 1 x58 h λx59 h =>
 vload false 1 x59 h λx60 h =>
 vbin .add 0 x60 (kI 1) h λx61 h =>
 vop O (.nilck (.k x0)) h 62 λx62 h =>
 vfaddr 1 x62 h λx63 h =>
 vstore 1 x63 x61 h λ_ h =>
 vfaddr 1 x5 h λx64 h =>
 vload false 1 x64 h λx65 h =>
 vbin .eql 0 x65 (kS [116,114,117,101]) h λx66 h =>
 vop O (.build [(.p (.int .i64 0)),(.p (.str [])),(.p .nilslice),(.p (.str [])),(.p (.int .i64 0)),(.p (.bool false)),(.p .nilslice)] [(0,1,(.k (kI 4))),(5,1,(.k x66))]) h 67 λx67 h =>
 vstore 7 x4 x67 h λ_ h =>
 vcell true 7 x4 h λc0=>vfin true q [c0] h)
 (vfaddr 1 x5 h λx69 h =>
 vload false 1 x69 h λx70 h =>
 vbin .eql 0 x70 (kS [36]) h λx71 h =>
 vif x71 (
 vop O (.nilck (.k x0)) h 73 λx73 h =>
 vfaddr 1 x73 h λx74 h =>
 vload false 1 x74 h λx75 h =>
 vbin .add 0 x75 (kI 1) h λx76 h =>
 vop O (.nilck (.k x0)) h 77 λx77 h =>
 vfaddr 1 x77 h λx78 h =>
 vstore 1 x78 x76 h λ_ h =>
 vcall O (.v (.c (.func 128 []))) [x0,(kI 1)] h 80 λx80 h =>
 vop O (.alloc [(.p (.int .i64 0)),(.p (.str [])),(.p (.int .i64 0)),(.p (.int .i64 0))] false) h 6 λx6 h =>
 vstore 4 x6 x80 h λ_ h =>
 vtouch O (.faddr 1 (.k x6)) h 81 λx81 h t0 =>
 vtouch O (.load false 1 (.k x81)) h 82 λx82 h t1 =>
 vtouch O (.mv (.k x0)) h 83 λx83 h t2 =>
 vtouch O (.faddr 3 (.k x6)) h 84 λx84 h t3 =>
 vtouch O (.load false 1 (.k x84)) h 85 λx85 h t4 =>
 vtouch O (.faddr 1 (.k x6)) h 86 λx86 h t5 =>
 vtouch O (.load false 1 (.k x86)) h 87 λx87 h t6 =>
 vtouch O (.len 0 (.k x87)) h 88 λx88 h t7 =>
 vtouch O (.bin .add 0 (.k x85) (.k x88)) h 89 λx89 h t8 =>
 vtouch O (.call (.k (.v (.c (.func 277 [])))) [(.k x83),(.k x89)]) h 90 λx90 h t9 =>
 vtouch O (.build [(.p (.int .i64 0)),(.p (.str [])),(.p .nilslice),(.p (.str [])),(.p (.int .i64 0)),(.p (.bool false)),(.p .nilslice)] [(0,1,(.k (kI 1))),(1,1,(.k x82)),(2,1,(.k x90))]) h 91 λx91 h t10 =>
 vtouch O (.store 7 (.k x4) (.k x91)) h 1000000 λ_ h t11 =>
 bif apartAll [t0,t1,t2,t3,t4,t5,t6,t7,t8,t9,t10,t11] [(1,9)] then
 vcell true 7 x4 h λc0=>vfin true q [c0] h
 else none)
 (vfaddr 1 x5 h λx93 h =>
 vload false 1 x93 h λx94 h =>
 vbin .eql 0 x94 (kS [40]) h λx95 h =>
 vif x95 (
 vbin .add 0 x1 (kI 1) h λx97 h =>
 vbin .gtr 0 x97 (kI 12) h λx98 h =>
 vif x98 (
 vcall O (.v (.c (.func 190 []))) [x0,(kI 13)] h 100 λx100 h =>
 vop O (.build [(.p (.int .i64 0)),(.p (.str [])),(.p .nilslice),(.p (.str [])),(.p (.int .i64 0)),(.p (.bool false)),(.p .nilslice)] []) h 101 λx101 h =>
 vstore 7 x4 x101 h λ_ h =>
 vcell true 7 x4 h λc0=>vfin true q [c0] h)
 (vop O (.nilck (.k x0)) h 103 λx103 h =>
 vfaddr 1 x103 h λx104 h =>
 vload false 1 x104 h λx105 h =>
 vbin .add 0 x105 (kI 1) h λx106 h =>
 vop O (.nilck (.k x0)) h 107 λx107 h =>
 vfaddr 1 x107 h λx108 h =>
 vstore 1 x108 x106 h λ_ h =>
 vbin .add 0 x1 (kI 1) h λx111 h =>
 vcall O (.v (.c (.func 127 []))) [x0,x111] h 112 λx112 h =>
 vcall O (.v (.c (.func 278 []))) [x0,(kS [41])] h 114 λx114 h =>
 vop O (.build [(.p (.int .i64 0)),(.p (.str [])),(.p .nilslice),(.p (.str [])),(.p (.int .i64 0)),(.p (.bool false)),(.p .nilslice)] [(0,1,(.k (kI 5))),(6,1,(.k x112))]) h 116 λx116 h =>
 vstore 7 x4 x116 h λ_ h =>
 vcell true 7 x4 h λc0=>vfin true q [c0] h))
 (vcall O (.v (.c (.func 277 []))) [x0,(kI (-1))] h 118 λx118 h =>
 vlen O 2 x118 h 120 λx120 h =>
 vbin .eql 0 x120 (kI 0) h λx121 h =>
 vif x121 (
 vop O (.nilck (.k x0)) h 123 λx123 h =>
 vfaddr 1 x123 h λx124 h =>
 vload false 1 x124 h λx125 h =>
 vbin .add 0 x125 (kI 1) h λx126 h =>
 vop O (.nilck (.k x0)) h 127 λx127 h =>
 vfaddr 1 x127 h λx128 h =>
 vstore 1 x128 x126 h λ_ h =>
 R 1 [x4,x118] h)
 (R 1 [x4,x118] h))))))
 else none)
theorem e246_0(O R q x0 x1 h):b246_0 O R q x0 x1 h=stepF c246 O R q 0 [x0,x1] h:=by kernel_rfl
def b246_1(O:Oracle)(R:Jump)(q:Nat)(x4 x8:TVal)(h:Heap):Res1 :=
 vop O (.build [(.p (.int .i64 0)),(.p (.str [])),(.p .nilslice),(.p (.str [])),(.p (.int .i64 0)),(.p (.bool false)),(.p .nilslice)] [(0,1,(.k (kI 1))),(2,1,(.k x8))]) h 130 λx130 h =>
 vstore 7 x4 x130 h λ_ h =>
 vcell true 7 x4 h λc0=>vfin true q [c0] h
theorem e246_1(O R q x4 x8 h):b246_1 O R q x4 x8 h=stepF c246 O R q 1 [x4,x8] h:=by kernel_rfl
def d246:BlkF:=λO R Q=>[.s λa => .s λb => .z (b246_0 O R Q a b),.s λa => .s λb => .z (b246_1 O R Q a b)]
theorem o246(O:Oracle)(R:Jump)(q:Nat):HoldsAll c246 O R q 0 (d246 O R q):=⟨e246_0 O R q,e246_1 O R q,trivial⟩
def c247:MFunc:=mkM (compF Tryz.prog (globs2 tabs opq) (λ_=>false) true Tryz.f247) .n
def b247_0(O:Oracle)(R:Jump)(q:Nat)(x0:TVal)(h:Heap):Res1 :=
 vcall O (.v (.c (.func 124 []))) [x0,(kI 2)] h 4 λx4 h =>
 vguard x4 false (λkk=>kk x0 h) h λx6 h =>
 vguard x4 false (λkk=>vcall O (.v (.c (.func 124 []))) [x6,(kI 3)] h 7 kk) h λx7 h =>
 vop O (.pick (.k x4) (.k (kB true)) (.k x7)) h 8 λx8 h =>
 vguard x8 false (λkk=>kk x0 h) h λx10 h =>
 vguard x8 false (λkk=>vcall O (.v (.c (.func 129 []))) [x10,(kS [46])] h 11 kk) h λx11 h =>
 vop O (.pick (.k x8) (.k (kB true)) (.k x11)) h 12 λx12 h =>
 vguard x12 false (λkk=>kk x0 h) h λx14 h =>
 vguard x12 false (λkk=>vcall O (.v (.c (.func 129 []))) [x14,(kS [36])] h 15 kk) h λx15 h =>
 vop O (.pick (.k x12) (.k (kB true)) (.k x15)) h 16 λx16 h =>
 vguard x16 false (λkk=>kk x0 h) h λx18 h =>
 vguard x16 false (λkk=>vcall O (.v (.c (.func 129 []))) [x18,(kS [40])] h 19 kk) h λx19 h =>
 vop O (.pick (.k x16) (.k (kB true)) (.k x19)) h 20 λx20 h =>
 vguard x20 false (λkk=>kk x0 h) h λx22 h =>
 vguard x20 false (λkk=>vcall O (.v (.c (.func 124 []))) [x22,(kI 1)] h 23 kk) h λx23 h =>
 vguard x20 false (λkk=>kk x23 h) h λx24 h =>
 vguard x24 true (λkk=>kk x0 h) h λx25 h =>
 vguard x24 true (λkk=>vop O (.nilck (.k x25)) h 26 kk) h λx26 h =>
 vguard x24 true (λkk=>vfaddr 0 x26 h kk) h λx27 h =>
 vguard x24 true (λkk=>vload false 1 x27 h kk) h λx28 h =>
 vguard x24 true (λkk=>kk x0 h) h λx29 h =>
 vguard x24 true (λkk=>vop O (.nilck (.k x29)) h 30 kk) h λx30 h =>
 vguard x24 true (λkk=>vfaddr 1 x30 h kk) h λx31 h =>
 vguard x24 true (λkk=>vload false 1 x31 h kk) h λx32 h =>
 vguard x24 true (λkk=>viaddr 4 x28 x32 h kk) h λx33 h =>
 vguard x24 true (λkk=>vfaddr 1 x33 h kk) h λx34 h =>
 vguard x24 true (λkk=>vload false 1 x34 h kk) h λx35 h =>
 vguard x24 true (λkk=>vbin .eql 0 x35 (kS [116,114,117,101]) h kk) h λx36 h =>
 vguard x24 true (λkk=>kk x36 h) h λx37 h =>
 vguard x37 false (λkk=>kk x0 h) h λx38 h =>
 vguard x37 false (λkk=>vop O (.nilck (.k x38)) h 39 kk) h λx39 h =>
 vguard x37 false (λkk=>vfaddr 0 x39 h kk) h λx40 h =>
 vguard x37 false (λkk=>vload false 1 x40 h kk) h λx41 h =>
 vguard x37 false (λkk=>kk x0 h) h λx42 h =>
 vguard x37 false (λkk=>vop O (.nilck (.k x42)) h 43 kk) h λx43 h =>
 vguard x37 false (λkk=>vfaddr 1 x43 h kk) h λx44 h =>
 vguard x37 false (λkk=>vload false 1 x44 h kk) h λx45 h =>
 vguard x37 false (λkk=>viaddr 4 x41 x45 h kk) h λx46 h =>
 vguard x37 false (λkk=>vfaddr 1 x46 h kk) h λx47 h =>
 vguard x37 false (λkk=>vload false 1 x47 h kk) h λx48 h =>
 vguard x37 false (λkk=>vbin .eql 0 x48 (kS [102,97,108,115,101]) h kk) h λx49 h =>
 vguard x24 true (λkk=>vop O (.pick (.k x37) (.k (kB true)) (.k x49)) h 50 kk) h λx50 h =>
 vguard x20 false (λkk=>vop O (.pick (.k x24) (.k x50) (.k (kB false))) h 51 kk) h λx51 h =>
 vop O (.pick (.k x20) (.k (kB true)) (.k x51)) h 52 λx52 h =>
 tcomp x52 λc0=>vfin true q [c0] h
theorem e247_0(O R q x0 h):b247_0 O R q x0 h=stepF c247 O R q 0 [x0] h:=by kernel_rfl
def d247:BlkF:=λO R Q=>[.s λa => .z (b247_0 O R Q a)]
theorem o247(O:Oracle)(R:Jump)(q:Nat):HoldsAll c247 O R q 0 (d247 O R q):=⟨e247_0 O R q,trivial⟩
def c248:MFunc:=mkM (compF Tryz.prog (globs2 tabs opq) (λ_=>false) true Tryz.f248) (.s .n (.s .n (.s (.s .n (.k (.l 1 [0,3,5,6,8,10,17,18,19] .n))) (.m 2 [0,3,6,8,10] .n))))
def b248_0(O:Oracle)(R:Jump)(q:Nat)(x0 x1 x2 x3:TVal)(h:Heap):Res1 :=
 vop O (.box (.k x1) false) h 5 λx5 h =>
 vop O (.box (.k x2) false) h 6 λx6 h =>
 vop O (.alloc [(.p (.int .i64 0)),(.p (.bool false)),(.p (.int .i64 0)),(.p (.str [])),(.p .nilslice),(.p .nilslice)] false) h 8 λx8 h =>
 vfaddr 0 x6 h λx15 h =>
 vload false 1 x15 h λx16 h =>
 vop O (.slice 7 false (.k x16) (some (.k (kI 1))) none none) h 17 λx17 h =>
 vlen O 2 x17 h 18 λx18 h =>
 R 1 [x0,x3,x5,x6,x8,(.v (.c (.p .nilslice))),x17,x18,(kI 0)] h
theorem e248_0(O R q x0 x1 x2 x3 h):b248_0 O R q x0 x1 x2 x3 h=stepF c248 O R q 0 [x0,x1,x2,x3] h:=by kernel_rfl
def b248_1(O:Oracle)(R:Jump)(q:Nat)(x0 x3 x5 x6 x8 x10 x17 x18 x19:TVal)(h:Heap):Res1 :=
 vbin .lss 0 x19 x18 h λx20 h =>
 vif x20 (
 viaddr 7 x17 x19 h λx21 h =>
 vload true 7 x21 h λx22 h =>
 vop O (.alloc [(.p (.int .i64 0)),(.p (.str [])),(.p .nilslice),(.p (.str [])),(.p (.int .i64 0)),(.p (.bool false)),(.p .nilslice)] false) h 12 λx12 h =>
 vstore 7 x12 x22 h λ_ h =>
 vload true 8 x5 h λx25 h =>
 vload true 7 x12 h λx26 h =>
 vcall O (.v (.c (.func 249 []))) [x0,x25,x26] h 27 λx27 h =>
 vext x27 0 h λx28 h =>
 vext x27 1 h λx29 h =>
 vop O (.alloc [(.p (.int .i64 0)),(.p (.bool false)),(.p (.int .i64 0)),(.p (.str [])),(.p .nilslice),(.p .nilslice)] false) h 13 λx13 h =>
 vstore 6 x13 x28 h λ_ h =>
 vbin .neq 0 x29 (kI 0) h λx31 h =>
 vif x31 (
 vop O (.build [(.p (.int .i64 0)),(.p (.bool false)),(.p (.int .i64 0)),(.p (.str [])),(.p .nilslice),(.p .nilslice)] []) h 32 λx32 h =>
 vstore 6 x8 x32 h λ_ h =>
 vcell true 6 x8 h λc0=>tcomp x29 λc1=>vfin true q [c0,c1] h)
 (vload true 6 x13 h λx35 h =>
 vop O (.bslice 6 1 [(.p (.int .i64 0)),(.p (.bool false)),(.p (.int .i64 0)),(.p (.str [])),(.p .nilslice),(.p .nilslice)] [(0,(.k x35))] false) h 36 λx36 h =>
 vop O (.append 6 88 false (.k x10) (.k x36)) h 37 λx37 h =>
 vbin .add 0 x19 (kI 1) h λx38 h =>
 R 1 [x0,x3,x5,x6,x8,x37,x17,x18,x38] h))
 (R 2 [x0,x3,x6,x8,x10] h)
theorem e248_1(O R q x0 x3 x5 x6 x8 x10 x17 x18 x19 h):b248_1 O R q x0 x3 x5 x6 x8 x10 x17 x18 x19 h=stepF c248 O R q 1 [x0,x3,x5,x6,x8,x10,x17,x18,x19] h:=by kernel_rfl
def b248_2(O:Oracle)(R:Jump)(q:Nat)(x0 x3 x6 x8 x10:TVal)(h:Heap):Res1 :=
 vop O (.append 6 88 false (.k x10) (.k x3)) h 41 λx41 h =>
 vfaddr 0 x6 h λx42 h =>
 vload false 1 x42 h λx43 h =>
 viaddr 7 x43 (kI 0) h λx44 h =>
 vfaddr 3 x44 h λx45 h =>
 vload false 1 x45 h λx46 h =>
 vcall O (.v (.c (.func 86 []))) [x46] h 47 λx47 h =>
 vif x47 (
 vfaddr 0 x6 h λx48 h =>
 vload false 1 x48 h λx49 h =>
 viaddr 7 x49 (kI 0) h λx50 h =>
 vfaddr 3 x50 h λx51 h =>
 vload false 1 x51 h λx52 h =>
 vcall O (.v (.c (.func 34 []))) [x52,x41] h 54 λx54 h =>
 vext x54 0 h λx55 h =>
 vext x54 1 h λx56 h =>
 vstore 6 x8 x55 h λ_ h =>
 vcell true 6 x8 h λc0=>tcomp x56 λc1=>vfin true q [c0,c1] h)
 (vop O (.nilck (.k x0)) h 58 λx58 h =>
 vfaddr 4 x58 h λx59 h =>
 vload false 1 x59 h λx60 h =>
 vfaddr 0 x6 h λx61 h =>
 vload false 1 x61 h λx62 h =>
 viaddr 7 x62 (kI 0) h λx63 h =>
 vfaddr 3 x63 h λx64 h =>
 vload false 1 x64 h λx65 h =>
 vcall O (.v (.c (.func 279 []))) [x60,x65] h 66 λx66 h =>
 vext x66 0 h λx67 h =>
 vext x66 1 h λx68 h =>
 vstore 6 x8 x67 h λ_ h =>
 vcell true 6 x8 h λc0=>tcomp x68 λc1=>vfin true q [c0,c1] h)
theorem e248_2(O R q x0 x3 x6 x8 x10 h):b248_2 O R q x0 x3 x6 x8 x10 h=stepF c248 O R q 2 [x0,x3,x6,x8,x10] h:=by kernel_rfl
def d248:BlkF:=λO R Q=>[.s λa => .s λb => .s λc => .s λd => .z (b248_0 O R Q a b c d),.s λa => .s λb => .s λc => .s λd => .s λe => .s λf => .s λg => .s λh => .s λi => .z (b248_1 O R Q a b c d e f g h i),.s λa => .s λb => .s λc => .s λd => .s λe => .z (b248_2 O R Q a b c d e)]
theorem o248(O:Oracle)(R:Jump)(q:Nat):HoldsAll c248 O R q 0 (d248 O R q):=⟨e248_0 O R q,e248_1 O R q,e248_2 O R q,trivial⟩
def c249:MFunc:=mkM (compF Tryz.prog (globs2 tabs opq) (λ_=>false) true Tryz.f249) .n
def b249_0(O:Oracle)(R:Jump)(q:Nat)(x0 x1 x2:TVal)(h:Heap):Res1 :=
 vop O (.box (.k x1) false) h 4 λx4 h =>
 vop O (.box (.k x2) false) h 5 λx5 h =>
 vop O (.alloc [(.p (.int .i64 0)),(.p (.bool false)),(.p (.int .i64 0)),(.p (.str [])),(.p .nilslice),(.p .nilslice)] false) h 6 λx6 h =>
 vfaddr 0 x5 h λx8 h =>
 vload false 1 x8 h λx9 h =>
 vbin .eql 0 x9 (kI 2) h λx11 h =>
 vif x11 (
 vfaddr 3 x5 h λx12 h =>
 vload false 1 x12 h λx13 h =>
 vop O (.build [(.p (.int .i64 0)),(.p (.bool false)),(.p (.int .i64 0)),(.p (.str [])),(.p .nilslice),(.p .nilslice)] [(0,1,(.k (kI 3))),(3,1,(.k x13))]) h 14 λx14 h =>
 vstore 6 x6 x14 h λ_ h =>
 vcell true 6 x6 h λc0=>tcomp (kI 0) λc1=>vfin true q [c0,c1] h)
 (vbin .eql 0 x9 (kI 3) h λx16 h =>
 vif x16 (
 vfaddr 4 x5 h λx17 h =>
 vload false 1 x17 h λx18 h =>
 vop O (.build [(.p (.int .i64 0)),(.p (.bool false)),(.p (.int .i64 0)),(.p (.str [])),(.p .nilslice),(.p .nilslice)] [(0,1,(.k (kI 2))),(2,1,(.k x18))]) h 19 λx19 h =>
 vstore 6 x6 x19 h λ_ h =>
 vcell true 6 x6 h λc0=>tcomp (kI 0) λc1=>vfin true q [c0,c1] h)
 (vbin .eql 0 x9 (kI 4) h λx21 h =>
 vif x21 (
 vfaddr 5 x5 h λx22 h =>
 vload false 1 x22 h λx23 h =>
 vop O (.build [(.p (.int .i64 0)),(.p (.bool false)),(.p (.int .i64 0)),(.p (.str [])),(.p .nilslice),(.p .nilslice)] [(0,1,(.k (kI 1))),(1,1,(.k x23))]) h 24 λx24 h =>
 vstore 6 x6 x24 h λ_ h =>
 vcell true 6 x6 h λc0=>tcomp (kI 0) λc1=>vfin true q [c0,c1] h)
 (vbin .eql 0 x9 (kI 5) h λx26 h =>
 vif x26 (
 vload true 8 x4 h λx28 h =>
 vfaddr 6 x5 h λx29 h =>
 vload false 1 x29 h λx30 h =>
 vcall O (.v (.c (.func 136 []))) [x0,x28,x30] h 31 λx31 h =>
 vext x31 0 h λx32 h =>
 vext x31 1 h λx33 h =>
 vstore 6 x6 x32 h λ_ h =>
 vcell true 6 x6 h λc0=>tcomp x33 λc1=>vfin true q [c0,c1] h)
 (vload true 8 x4 h λx34 h =>
 vload true 7 x5 h λx35 h =>
 vcall O (.v (.c (.func 280 []))) [x34,x35] h 36 λx36 h =>
 vext x36 0 h λx37 h =>
 vext x36 1 h λx38 h =>
 vstore 6 x6 x37 h λ_ h =>
 vcell true 6 x6 h λc0=>tcomp x38 λc1=>vfin true q [c0,c1] h))))
theorem e249_0(O R q x0 x1 x2 h):b249_0 O R q x0 x1 x2 h=stepF c249 O R q 0 [x0,x1,x2] h:=by kernel_rfl
def d249:BlkF:=λO R Q=>[.s λa => .s λb => .s λc => .z (b249_0 O R Q a b c)]
theorem o249(O:Oracle)(R:Jump)(q:Nat):HoldsAll c249 O R q 0 (d249 O R q):=⟨e249_0 O R q,trivial⟩
def c250:MFunc:=mkM (compF Tryz.prog (globs2 tabs opq) (λ_=>false) false Tryz.f250) .n
def b250_0(O:Oracle)(R:Jump)(q:Nat)(x0:TVal)(h:Heap):Res1 :=
 vop O (.box (.k x0) false) h 1 λx1 h =>
 vop O (.mkfn 281 [(.k x1)]) h 3 λx3 h =>
 tcomp x3 λc0=>vfin false q [c0] h
theorem e250_0(O R q x0 h):b250_0 O R q x0 h=stepF c250 O R q 0 [x0] h:=by kernel_rfl
def d250:BlkF:=λO R Q=>[.s λa => .z (b250_0 O R Q a)]
theorem o250(O:Oracle)(R:Jump)(q:Nat):HoldsAll c250 O R q 0 (d250 O R q):=⟨e250_0 O R q,trivial⟩
def c251:MFunc:=mkM (compF Tryz.prog (globs2 tabs opq) (λ_=>false) true Tryz.f251) (.s .n (.s (.s .n (.k (.l 1 [0,1,7,8] .n))) .n))
def b251_0(O:Oracle)(R:Jump)(q:Nat)(x0 x1:TVal)(h:Heap):Res1 :=
 vlen O 2 x0 h 7 λx7 h =>
 R 1 [x0,x1,x7,(kI 0)] h
theorem e251_0(O R q x0 x1 h):b251_0 O R q x0 x1 h=stepF c251 O R q 0 [x0,x1] h:=by kernel_rfl
def b251_1(O:Oracle)(R:Jump)(q:Nat)(x0 x1 x7 x8:TVal)(h:Heap):Res1 :=
 vbin .lss 0 x8 x7 h λx9 h =>
 vif x9 (
 viaddr 2 x0 x8 h λx14 h =>
 vload true 2 x14 h λx15 h =>
 vcall O x1 [x15] h 16 λx16 h =>
 vif x16 (
 tcomp x8 λc0=>vfin true q [c0] h)
 (vbin .add 0 x8 (kI 1) h λx18 h =>
 R 1 [x0,x1,x7,x18] h))
 (tcomp (kI (-1)) λc0=>vfin true q [c0] h)
theorem e251_1(O R q x0 x1 x7 x8 h):b251_1 O R q x0 x1 x7 x8 h=stepF c251 O R q 1 [x0,x1,x7,x8] h:=by kernel_rfl
def d251:BlkF:=λO R Q=>[.s λa => .s λb => .z (b251_0 O R Q a b),.s λa => .s λb => .s λc => .s λd => .z (b251_1 O R Q a b c d)]
theorem o251(O:Oracle)(R:Jump)(q:Nat):HoldsAll c251 O R q 0 (d251 O R q):=⟨e251_0 O R q,e251_1 O R q,trivial⟩
def c252:MFunc:=mkM (compF Tryz.prog (globs2 tabs opq) (λ_=>false) true Tryz.f252) .n
def b252_0(O:Oracle)(R:Jump)(q:Nat)(x0 x1:TVal)(h:Heap):Res1 :=
 vop O (.box (.k x0) false) h 2 λx2 h =>
 vfaddr 0 x2 h λx4 h =>
 vload false 1 x4 h λx5 h =>
 vload false 1 x1 h λx6 h =>
 vbin .eql 0 x5 x6 h λx7 h =>
 tcomp x7 λc0=>vfin true q [c0] h
theorem e252_0(O R q x0 x1 h):b252_0 O R q x0 x1 h=stepF c252 O R q 0 [x0,x1] h:=by kernel_rfl
def d252:BlkF:=λO R Q=>[.s λa => .s λb => .z (b252_0 O R Q a b)]
theorem o252(O:Oracle)(R:Jump)(q:Nat):HoldsAll c252 O R q 0 (d252 O R q):=⟨e252_0 O R q,trivial⟩
def c262:MFunc:=mkM (compF Tryz.prog (globs2 tabs opq) (λ_=>false) true Tryz.f262) (.s .n (.s (.s .n (.k (.l 1 [0,1,7] .n))) (.m 2 [0] .n)))
def b262_0(O:Oracle)(R:Jump)(q:Nat)(x0 x1:TVal)(h:Heap):Res1 :=
 vop O (.rangeS (.k x0)) h 7 λx7 h =>
 R 1 [x0,x1,x7] h
theorem e262_0(O R q x0 x1 h):b262_0 O R q x0 x1 h=stepF c262 O R q 0 [x0,x1] h:=by kernel_rfl
def b262_1(O:Oracle)(R:Jump)(q:Nat)(x0 x1 x7:TVal)(h:Heap):Res1 :=
 vop O (.nextS (.k x7)) h 8 λx8 h =>
 vext x8 0 h λx9 h =>
 vif x9 (
 vext x8 1 h λx10 h =>
 vindex x0 x10 h λx14 h =>
 vcall O x1 [x14] h 15 λx15 h =>
 vop O (.un .not (.k x15)) h 16 λx16 h =>
 vif x16 (
 tcomp x10 λc0=>vfin true q [c0] h)
 (R 1 [x0,x1,x7] h))
 (R 2 [x0] h)
theorem e262_1(O R q x0 x1 x7 h):b262_1 O R q x0 x1 x7 h=stepF c262 O R q 1 [x0,x1,x7] h:=by kernel_rfl
def b262_2(O:Oracle)(R:Jump)(q:Nat)(x0:TVal)(h:Heap):Res1 :=
 vlen O 0 x0 h 19 λx19 h =>
 tcomp x19 λc0=>vfin true q [c0] h
theorem e262_2(O R q x0 h):b262_2 O R q x0 h=stepF c262 O R q 2 [x0] h:=by kernel_rfl
def d262:BlkF:=λO R Q=>[.s λa => .s λb => .z (b262_0 O R Q a b),.s λa => .s λb => .s λc => .z (b262_1 O R Q a b c),.s λa => .z (b262_2 O R Q a)]
theorem o262(O:Oracle)(R:Jump)(q:Nat):HoldsAll c262 O R q 0 (d262 O R q):=⟨e262_0 O R q,e262_1 O R q,e262_2 O R q,trivial⟩
def c263:MFunc:=mkM (compF Tryz.prog (globs2 tabs opq) (λ_=>false) true Tryz.f263) .n
def b263_0(O:Oracle)(R:Jump)(q:Nat)(x0:TVal)(h:Heap):Res1 :=
 vcall O (.v (.c (.func 237 []))) [x0] h 4 λx4 h =>
 vguard x4 false (λkk=>kk x0 h) h λx6 h =>
 vguard x4 false (λkk=>vcall O (.v (.c (.func 228 []))) [x6] h 7 kk) h λx7 h =>
 vop O (.pick (.k x4) (.k (kB true)) (.k x7)) h 8 λx8 h =>
 tcomp x8 λc0=>vfin true q [c0] h
theorem e263_0(O R q x0 h):b263_0 O R q x0 h=stepF c263 O R q 0 [x0] h:=by kernel_rfl
def d263:BlkF:=λO R Q=>[.s λa => .z (b263_0 O R Q a)]
theorem o263(O:Oracle)(R:Jump)(q:Nat):HoldsAll c263 O R q 0 (d263 O R q):=⟨e263_0 O R q,trivial⟩
def c264:MFunc:=mkM (compF Tryz.prog (globs2 tabs opq) (λ_=>false) true Tryz.f264) (.s .n (.s .n (.s .n (.s .n (.s .n (.s .n (.s .n (.s .n (.s (.k (.l 1 [0,1,5,6,7,8,9,10] (.s .n (.k (.s .n (.m 2 [0,1,5,6,7,8,9,10] .n)))))) .n)))))))))
def b264_0(O:Oracle)(R:Jump)(q:Nat)(x0 x1:TVal)(h:Heap):Res1 :=
 vlen O 0 x1 h 15 λx15 h =>
 vbin .eql 0 x15 (kI 0) h λx18 h =>
 vguard x18 false (λkk=>kk x1 h) h λx20 h =>
 vguard x18 false (λkk=>kk x0 h) h λx21 h =>
 vguard x18 false (λkk=>vbin .eql 0 x20 x21 h kk) h λx22 h =>
 vop O (.pick (.k x18) (.k (kB true)) (.k x22)) h 23 λx23 h =>
 vif x23 (
 tcomp (kI 0) λc0=>vfin true q [c0] h)
 (vbin .eql 0 x15 (kI 1) h λx26 h =>
 vif x26 (
 vindex x1 (kI 0) h λx29 h =>
 vcall O (.v (.c (.func 287 []))) [x0,x29] h 30 λx30 h =>
 tcomp x30 λc0=>vfin true q [c0] h)
 (vlen O 0 x0 h 34 λx34 h =>
 vbin .geq 0 x15 x34 h λx35 h =>
 vif x35 (
 tcomp (kI (-1)) λc0=>vfin true q [c0] h)
 (vload false 1 (.v (.c (.p (.pptr [(.sym .i64 63 (.ofNat 0) (.ofNat 1) (.ofNat 0))] 0)))) h λx38 h =>
 vbin .leq 0 x15 x38 h λx39 h =>
 vguard x39 true (λkk=>kk x0 h) h λx41 h =>
 vguard x39 true (λkk=>vlen O 0 x41 h 42 kk) h λx42 h =>
 vguard x39 true (λkk=>vbin .leq 0 x42 (kI 64) h kk) h λx43 h =>
 vop O (.pick (.k x39) (.k x43) (.k (kB false))) h 44 λx44 h =>
 vif x44 (
 vcall O (.v (.c (.func 288 []))) [x0,x1] h 47 λx47 h =>
 tcomp x47 λc0=>vfin true q [c0] h)
 (vindex x1 (kI 0) h λx49 h =>
 vindex x1 (kI 1) h λx51 h =>
 vlen O 0 x0 h 53 λx53 h =>
 vbin .sub 0 x53 x15 h λx55 h =>
 vbin .add 0 x55 (kI 1) h λx56 h =>
 R 1 [x0,x1,x15,x49,x51,(kI 0),x56,(kI 0)] h))))
theorem e264_0(O R q x0 x1 h):b264_0 O R q x0 x1 h=stepF c264 O R q 0 [x0,x1] h:=by kernel_rfl
def b264_1(O:Oracle)(R:Jump)(q:Nat)(x0 x1 x5 x6 x7 x8 x9 x10:TVal)(h:Heap):Res1 :=
 vbin .lss 0 x8 x9 h λx59 h =>
 vif x59 (
 vindex x0 x8 h λx62 h =>
 vbin .neq 0 x62 x6 h λx64 h =>
 vif x64 (
 vbin .add 0 x8 (kI 1) h λx67 h =>
 vop O (.slice 0 true (.k x0) (some (.k x67)) (some (.k x9)) none) h 69 λx69 h =>
 vcall O (.v (.c (.func 287 []))) [x69,x6] h 71 λx71 h =>
 vbin .lss 0 x71 (kI 0) h λx73 h =>
 vif x73 (
 tcomp (kI (-1)) λc0=>vfin true q [c0] h)
 (vbin .add 0 x71 (kI 1) h λx76 h =>
 vbin .add 0 x8 x76 h λx77 h =>
 R 2 [x0,x1,x5,x6,x7,x77,x9,x10] h))
 (R 2 [x0,x1,x5,x6,x7,x8,x9,x10] h))
 (tcomp (kI (-1)) λc0=>vfin true q [c0] h)
theorem e264_1(O R q x0 x1 x5 x6 x7 x8 x9 x10 h):b264_1 O R q x0 x1 x5 x6 x7 x8 x9 x10 h=stepF c264 O R q 1 [x0,x1,x5,x6,x7,x8,x9,x10] h:=by kernel_rfl
def b264_2(O:Oracle)(R:Jump)(q:Nat)(x0 x1 x5 x6 x7 x8 x9 x10:TVal)(h:Heap):Res1 :=
 vbin .add 0 x8 (kI 1) h λx80 h =>
 vindex x0 x80 h λx81 h =>
 vbin .eql 0 x81 x7 h λx83 h =>
 vguard x83 true (λkk=>kk x0 h) h λx85 h =>
 vguard x83 true (λkk=>kk x8 h) h λx86 h =>
 vguard x83 true (λkk=>kk x8 h) h λx87 h =>
 vguard x83 true (λkk=>kk x5 h) h λx88 h =>
 vguard x83 true (λkk=>vbin .add 0 x87 x88 h kk) h λx89 h =>
 vguard x83 true (λkk=>vop O (.slice 0 true (.k x85) (some (.k x86)) (some (.k x89)) none) h 90 kk) h λx90 h =>
 vguard x83 true (λkk=>kk x1 h) h λx91 h =>
 vguard x83 true (λkk=>vbin .eql 0 x90 x91 h kk) h λx92 h =>
 vop O (.pick (.k x83) (.k x92) (.k (kB false))) h 93 λx93 h =>
 vif x93 (
 tcomp x8 λc0=>vfin true q [c0] h)
 (vbin .add 0 x8 (kI 1) h λx96 h =>
 vbin .add 0 x10 (kI 1) h λx98 h =>
 vload false 1 (.v (.c (.p (.pptr [(.sym .i64 63 (.ofNat 0) (.ofNat 1) (.ofNat 0))] 0)))) h λx100 h =>
 vbin .leq 0 x5 x100 h λx101 h =>
 vguard x101 true (λkk=>kk x98 h) h λx103 h =>
 vguard x101 true (λkk=>kk x96 h) h λx104 h =>
 vguard x101 true (λkk=>vcall O (.v (.c (.func 289 []))) [x104] h 105 kk) h λx105 h =>
 vguard x101 true (λkk=>vbin .gtr 0 x103 x105 h kk) h λx106 h =>
 vop O (.pick (.k x101) (.k x106) (.k (kB false))) h 107 λx107 h =>
 vif x107 (
 vop O (.slice 0 true (.k x0) (some (.k x96)) none none) h 110 λx110 h =>
 vcall O (.v (.c (.func 288 []))) [x110,x1] h 112 λx112 h =>
 vbin .geq 0 x112 (kI 0) h λx114 h =>
 vif x114 (
 vbin .add 0 x112 x96 h λx117 h =>
 tcomp x117 λc0=>vfin true q [c0] h)
 (tcomp (kI (-1)) λc0=>vfin true q [c0] h))
 (vload false 1 (.v (.c (.p (.pptr [(.sym .i64 63 (.ofNat 0) (.ofNat 1) (.ofNat 0))] 0)))) h λx119 h =>
 vbin .gtr 0 x5 x119 h λx120 h =>
 vguard x120 true (λkk=>kk x98 h) h λx122 h =>
 vguard x120 true (λkk=>kk x96 h) h λx123 h =>
 vguard x120 true (λkk=>vbin .shr 0 x123 (.v (.c (.p (.int .u64 4)))) h kk) h λx124 h =>
 vguard x120 true (λkk=>vbin .add 0 (kI 4) x124 h kk) h λx125 h =>
 vguard x120 true (λkk=>vbin .geq 0 x122 x125 h kk) h λx126 h =>
 vop O (.pick (.k x120) (.k x126) (.k (kB false))) h 127 λx127 h =>
 vguard x127 true (λkk=>kk x96 h) h λx129 h =>
 vguard x127 true (λkk=>kk x9 h) h λx130 h =>
 vguard x127 true (λkk=>vbin .lss 0 x129 x130 h kk) h λx131 h =>
 vop O (.pick (.k x127) (.k x131) (.k (kB false))) h 132 λx132 h =>
 vif x132 (
 vop O (.slice 0 true (.k x0) (some (.k x96)) none none) h 135 λx135 h =>
 vcall O (.v (.c (.func 290 []))) [x135,x1] h 137 λx137 h =>
 vbin .lss 0 x137 (kI 0) h λx139 h =>
 vif x139 (
 tcomp (kI (-1)) λc0=>vfin true q [c0] h)
 (vbin .add 0 x96 x137 h λx142 h =>
 tcomp x142 λc0=>vfin true q [c0] h))
 (R 1 [x0,x1,x5,x6,x7,x96,x9,x98] h)))
theorem e264_2(O R q x0 x1 x5 x6 x7 x8 x9 x10 h):b264_2 O R q x0 x1 x5 x6 x7 x8 x9 x10 h=stepF c264 O R q 2 [x0,x1,x5,x6,x7,x8,x9,x10] h:=by kernel_rfl
def d264:BlkF:=λO R Q=>[.s λa => .s λb => .z (b264_0 O R Q a b),.s λa => .s λb => .s λc => .s λd => .s λe => .s λf => .s λg => .s λh => .z (b264_1 O R Q a b c d e f g h),.s λa => .s λb => .s λc => .s λd => .s λe => .s λf => .s λg => .s λh => .z (b264_2 O R Q a b c d e f g h)]
theorem o264(O:Oracle)(R:Jump)(q:Nat):HoldsAll c264 O R q 0 (d264 O R q):=⟨e264_0 O R q,e264_1 O R q,e264_2 O R q,trivial⟩
def c265:MFunc:=mkM (compF Tryz.prog (globs2 tabs opq) (λ_=>false) true Tryz.f265) .n
def b265_0(O:Oracle)(R:Jump)(q:Nat)(x0:TVal)(h:Heap):Res1 :=
 vbin .lss 0 x0 (kI 10) h λx4 h =>
 vif x4 (
 vbin .add 0 x0 (kI 1) h λx7 h =>
 vop O (.slice 0 true (.k (kS [48,49,50,51,52,53,54,55,56,57,97,98,99,100,101,102,103,104,105,106,107,108,109,110,111,112,113,114,115,116,117,118,119,120,121,122])) (some (.k x0)) (some (.k x7)) none) h 8 λx8 h =>
 tcomp x8 λc0=>vfin true q [c0] h)
 (vbin .mul 0 x0 (kI 2) h λx10 h =>
 vbin .mul 0 x0 (kI 2) h λx12 h =>
 vbin .add 0 x12 (kI 2) h λx13 h =>
 vop O (.slice 0 true (.k (kS z53fdd7c2)) (some (.k x10)) (some (.k x13)) none) h 14 λx14 h =>
 tcomp x14 λc0=>vfin true q [c0] h)
theorem e265_0(O R q x0 h):b265_0 O R q x0 h=stepF c265 O R q 0 [x0] h:=by kernel_rfl
def d265:BlkF:=λO R Q=>[.s λa => .z (b265_0 O R Q a)]
theorem o265(O:Oracle)(R:Jump)(q:Nat):HoldsAll c265 O R q 0 (d265 O R q):=⟨e265_0 O R q,trivial⟩
def c266:MFunc:=mkM (compF Tryz.prog (globs2 tabs opq) (λ_=>false) true Tryz.f266) .n
def b266_0(O:Oracle)(R:Jump)(q:Nat)(x0:TVal)(h:Heap):Res1 :=
 vcall O (.v (.c (.func 292 []))) [x0] h 5 λx5 h =>
 vcall O (.v (.c (.func 291 []))) [x5] h 6 λx6 h =>
 vop O (.iaddrA 20 1 (.k (.v (.c (.p (.pptr [(.int .u64 1),(.int .u64 10),(.int .u64 100),(.int .u64 1000),(.int .u64 10000),(.int .u64 100000),(.int .u64 1000000),(.int .u64 10000000),(.int .u64 100000000),(.int .u64 1000000000),(.int .u64 10000000000),(.int .u64 100000000000),(.int .u64 1000000000000),(.int .u64 10000000000000),(.int .u64 100000000000000),(.int .u64 1000000000000000),(.int .u64 10000000000000000),(.int .u64 100000000000000000),(.int .u64 1000000000000000000),(.int .u64 10000000000000000000)] 0))))) (.k x6)) h 10 λx10 h =>
 vload false 1 x10 h λx11 h =>
 vbin .geq 0 x0 x11 h λx12 h =>
 vcall O (.v (.c (.func 293 []))) [x12] h 13 λx13 h =>
 vbin .add 0 x6 x13 h λx14 h =>
 tcomp x14 λc0=>vfin true q [c0] h
theorem e266_0(O R q x0 h):b266_0 O R q x0 h=stepF c266 O R q 0 [x0] h:=by kernel_rfl
def d266:BlkF:=λO R Q=>[.s λa => .z (b266_0 O R Q a)]
theorem o266(O:Oracle)(R:Jump)(q:Nat):HoldsAll c266 O R q 0 (d266 O R q):=⟨e266_0 O R q,trivial⟩
def c267:MFunc:=mkM (compF Tryz.prog (globs2 tabs opq) (λ_=>false) true Tryz.f267) (.s .n (.s (.k (.l 1 [0,1,4] .n)) (.m 2 [0,1,4] (.s .n (.s .n (.m 3 [0,4,12] (.s .n (.m 4 [0,4,12] .n))))))))
def b267_0(O:Oracle)(R:Jump)(q:Nat)(x0 x1:TVal)(h:Heap):Res1 :=
 vlen O 2 x0 h 18 λx18 h =>
 R 1 [x0,x1,x18] h
theorem e267_0(O R q x0 x1 h):b267_0 O R q x0 x1 h=stepF c267 O R q 0 [x0,x1] h:=by kernel_rfl
def b267_1(O:Oracle)(R:Jump)(q:Nat)(x0 x1 x4:TVal)(h:Heap):Res1 :=
 vbin .geq 0 x4 (kI 8) h λx20 h =>
 vif x20 (
 vbin .rem 0 x1 (.v (.c (.p (.int .u64 100000000)))) h λx22 h =>
 vtoInt .u32 x22 h λx23 h =>
 vbin .quo 0 x1 (.v (.c (.p (.int .u64 100000000)))) h λx25 h =>
 vbin .quo 0 x23 (.v (.c (.p (.int .u32 10000)))) h λx27 h =>
 vbin .rem 0 x23 (.v (.c (.p (.int .u32 10000)))) h λx29 h =>
 vbin .quo 0 x29 (.v (.c (.p (.int .u32 100)))) h λx31 h =>
 vbin .mul 0 x31 (.v (.c (.p (.int .u32 2)))) h λx32 h =>
 vbin .rem 0 x29 (.v (.c (.p (.int .u32 100)))) h λx34 h =>
 vbin .mul 0 x34 (.v (.c (.p (.int .u32 2)))) h λx35 h =>
 vbin .quo 0 x27 (.v (.c (.p (.int .u32 100)))) h λx37 h =>
 vbin .mul 0 x37 (.v (.c (.p (.int .u32 2)))) h λx38 h =>
 vbin .rem 0 x27 (.v (.c (.p (.int .u32 100)))) h λx40 h =>
 vbin .mul 0 x40 (.v (.c (.p (.int .u32 2)))) h λx41 h =>
 vbin .sub 0 x4 (kI 1) h λx44 h =>
 vbin .sub 0 x4 (kI 2) h λx47 h =>
 vbin .add 0 x35 (.v (.c (.p (.int .u32 1)))) h λx49 h =>
 vindex (kS z53fdd7c2) x49 h λx50 h =>
 vindex (kS z53fdd7c2) x35 h λx52 h =>
 viaddr 1 x0 x44 h λx53 h =>
 vstore 1 x53 x50 h λ_ h =>
 viaddr 1 x0 x47 h λx54 h =>
 vstore 1 x54 x52 h λ_ h =>
 vbin .sub 0 x4 (kI 3) h λx57 h =>
 vbin .sub 0 x4 (kI 4) h λx60 h =>
 vbin .add 0 x32 (.v (.c (.p (.int .u32 1)))) h λx62 h =>
 vindex (kS z53fdd7c2) x62 h λx63 h =>
 vindex (kS z53fdd7c2) x32 h λx65 h =>
 viaddr 1 x0 x57 h λx66 h =>
 vstore 1 x66 x63 h λ_ h =>
 viaddr 1 x0 x60 h λx67 h =>
 vstore 1 x67 x65 h λ_ h =>
 vbin .sub 0 x4 (kI 5) h λx70 h =>
 vbin .sub 0 x4 (kI 6) h λx73 h =>
 vbin .add 0 x41 (.v (.c (.p (.int .u32 1)))) h λx75 h =>
 vindex (kS z53fdd7c2) x75 h λx76 h =>
 vindex (kS z53fdd7c2) x41 h λx78 h =>
 viaddr 1 x0 x70 h λx79 h =>
 vstore 1 x79 x76 h λ_ h =>
 viaddr 1 x0 x73 h λx80 h =>
 vstore 1 x80 x78 h λ_ h =>
 vbin .sub 0 x4 (kI 7) h λx83 h =>
 vbin .sub 0 x4 (kI 8) h λx86 h =>
 vbin .add 0 x38 (.v (.c (.p (.int .u32 1)))) h λx88 h =>
 vindex (kS z53fdd7c2) x88 h λx89 h =>
 vindex (kS z53fdd7c2) x38 h λx91 h =>
 viaddr 1 x0 x83 h λx92 h =>
 vstore 1 x92 x89 h λ_ h =>
 viaddr 1 x0 x86 h λx93 h =>
 vstore 1 x93 x91 h λ_ h =>
 vbin .sub 0 x4 (kI 8) h λx95 h =>
 R 1 [x0,x25,x95] h)
 (R 2 [x0,x1,x4] h)
theorem e267_1(O R q x0 x1 x4 h):b267_1 O R q x0 x1 x4 h=stepF c267 O R q 1 [x0,x1,x4] h:=by kernel_rfl
def b267_2(O:Oracle)(R:Jump)(q:Nat)(x0 x1 x4:TVal)(h:Heap):Res1 :=
 vtoInt .u32 x1 h λx97 h =>
 vbin .geq 0 x4 (kI 4) h λx99 h =>
 vif x99 (
 vbin .rem 0 x97 (.v (.c (.p (.int .u32 10000)))) h λx101 h =>
 vbin .quo 0 x97 (.v (.c (.p (.int .u32 10000)))) h λx103 h =>
 vbin .quo 0 x101 (.v (.c (.p (.int .u32 100)))) h λx105 h =>
 vbin .mul 0 x105 (.v (.c (.p (.int .u32 2)))) h λx106 h =>
 vbin .rem 0 x101 (.v (.c (.p (.int .u32 100)))) h λx108 h =>
 vbin .mul 0 x108 (.v (.c (.p (.int .u32 2)))) h λx109 h =>
 vbin .sub 0 x4 (kI 1) h λx112 h =>
 vbin .sub 0 x4 (kI 2) h λx115 h =>
 vbin .add 0 x109 (.v (.c (.p (.int .u32 1)))) h λx117 h =>
 vindex (kS z53fdd7c2) x117 h λx118 h =>
 vindex (kS z53fdd7c2) x109 h λx120 h =>
 viaddr 1 x0 x112 h λx121 h =>
 vstore 1 x121 x118 h λ_ h =>
 viaddr 1 x0 x115 h λx122 h =>
 vstore 1 x122 x120 h λ_ h =>
 vbin .sub 0 x4 (kI 3) h λx125 h =>
 vbin .sub 0 x4 (kI 4) h λx128 h =>
 vbin .add 0 x106 (.v (.c (.p (.int .u32 1)))) h λx130 h =>
 vindex (kS z53fdd7c2) x130 h λx131 h =>
 vindex (kS z53fdd7c2) x106 h λx133 h =>
 viaddr 1 x0 x125 h λx134 h =>
 vstore 1 x134 x131 h λ_ h =>
 viaddr 1 x0 x128 h λx135 h =>
 vstore 1 x135 x133 h λ_ h =>
 vbin .sub 0 x4 (kI 4) h λx137 h =>
 R 3 [x0,x137,x103] h)
 (R 3 [x0,x4,x97] h)
theorem e267_2(O R q x0 x1 x4 h):b267_2 O R q x0 x1 x4 h=stepF c267 O R q 2 [x0,x1,x4] h:=by kernel_rfl
def b267_3(O:Oracle)(R:Jump)(q:Nat)(x0 x4 x12:TVal)(h:Heap):Res1 :=
 vbin .geq 0 x4 (kI 2) h λx139 h =>
 vif x139 (
 vbin .rem 0 x12 (.v (.c (.p (.int .u32 100)))) h λx141 h =>
 vbin .mul 0 x141 (.v (.c (.p (.int .u32 2)))) h λx142 h =>
 vbin .quo 0 x12 (.v (.c (.p (.int .u32 100)))) h λx144 h =>
 vbin .sub 0 x4 (kI 1) h λx147 h =>
 vbin .sub 0 x4 (kI 2) h λx150 h =>
 vbin .add 0 x142 (.v (.c (.p (.int .u32 1)))) h λx152 h =>
 vindex (kS z53fdd7c2) x152 h λx153 h =>
 vindex (kS z53fdd7c2) x142 h λx155 h =>
 viaddr 1 x0 x147 h λx156 h =>
 vstore 1 x156 x153 h λ_ h =>
 viaddr 1 x0 x150 h λx157 h =>
 vstore 1 x157 x155 h λ_ h =>
 vbin .sub 0 x4 (kI 2) h λx159 h =>
 R 4 [x0,x159,x144] h)
 (R 4 [x0,x4,x12] h)
theorem e267_3(O R q x0 x4 x12 h):b267_3 O R q x0 x4 x12 h=stepF c267 O R q 3 [x0,x4,x12] h:=by kernel_rfl
def b267_4(O:Oracle)(R:Jump)(q:Nat)(x0 x4 x12:TVal)(h:Heap):Res1 :=
 vbin .gtr 0 x4 (kI 0) h λx161 h =>
 vif x161 (
 vbin .add 0 (.v (.c (.p (.int .u32 48)))) x12 h λx164 h =>
 vtoInt .u8 x164 h λx165 h =>
 viaddr 1 x0 (kI 0) h λx166 h =>
 vstore 1 x166 x165 h λ_ h =>
 vfin true q [] h)
 (vfin true q [] h)
theorem e267_4(O R q x0 x4 x12 h):b267_4 O R q x0 x4 x12 h=stepF c267 O R q 4 [x0,x4,x12] h:=by kernel_rfl
def d267:BlkF:=λO R Q=>[.s λa => .s λb => .z (b267_0 O R Q a b),.s λa => .s λb => .s λc => .z (b267_1 O R Q a b c),.s λa => .s λb => .s λc => .z (b267_2 O R Q a b c),.s λa => .s λb => .s λc => .z (b267_3 O R Q a b c),.s λa => .s λb => .s λc => .z (b267_4 O R Q a b c)]
theorem o267(O:Oracle)(R:Jump)(q:Nat):HoldsAll c267 O R q 0 (d267 O R q):=⟨e267_0 O R q,e267_1 O R q,e267_2 O R q,e267_3 O R q,e267_4 O R q,trivial⟩
def c268:MFunc:=mkM (compF Tryz.prog (globs2 tabs opq) (λ_=>false) true Tryz.f268) (.s .n (.s .n (.m 1 [0,1,2,3,4,10,11] (.s .n (.s .n (.s .n (.m 2 [0,1,2,3,4,10,11,12,13] (.s (.s .n (.s (.s .n (.s .n (.s .n (.s (.k (.l 3 [0,1,3,4,10,11,12,13,14,15,16] .n)) (.m 4 [0,1,3,4,10,11,12,13] .n))))) (.s .n (.s (.k (.l 5 [0,1,3,4,10,11,12,13,17] .n)) (.m 6 [0,1,3,4,10,11,12,13] .n))))) (.m 7 [0,3,4,10,11,12,13] (.s .n (.m 8 [0,4,10,11,12,13] .n)))))))))))
def b268_0(O:Oracle)(R:Jump)(q:Nat)(x0 x1 x2 x3 x4:TVal)(h:Heap):Res1 :=
 vbin .lss 0 x2 (kI 2) h λx20 h =>
 vguard x20 false (λkk=>kk x2 h) h λx22 h =>
 vguard x20 false (λkk=>vbin .eql 0 x22 (kI 10) h kk) h λx23 h =>
 vop O (.pick (.k x20) (.k (kB true)) (.k x23)) h 24 λx24 h =>
 vguard x24 false (λkk=>kk x2 h) h λx26 h =>
 vguard x24 false (λkk=>vbin .gtr 0 x26 (kI 36) h kk) h λx27 h =>
 vop O (.pick (.k x24) (.k (kB true)) (.k x27)) h 28 λx28 h =>
 vif x28 (
 none)
 (R 1 [x0,x1,x2,x3,x4,(.v (.c (.p .nilslice))),(kS [])] h)
theorem e268_0(O R q x0 x1 x2 x3 x4 h):b268_0 O R q x0 x1 x2 x3 x4 h=stepF c268 O R q 0 [x0,x1,x2,x3,x4] h:=by kernel_rfl
def b268_1(O:Oracle)(R:Jump)(q:Nat)(x0 x1 x2 x3 x4 x10 x11:TVal)(h:Heap):Res1 :=
 vop O (.alloc [(.p (.int .u8 0)),(.p (.int .u8 0)),(.p (.int .u8 0)),(.p (.int .u8 0)),(.p (.int .u8 0)),(.p (.int .u8 0)),(.p (.int .u8 0)),(.p (.int .u8 0)),(.p (.int .u8 0)),(.p (.int .u8 0)),(.p (.int .u8 0)),(.p (.int .u8 0)),(.p (.int .u8 0)),(.p (.int .u8 0)),(.p (.int .u8 0)),(.p (.int .u8 0)),(.p (.int .u8 0)),(.p (.int .u8 0)),(.p (.int .u8 0)),(.p (.int .u8 0)),(.p (.int .u8 0)),(.p (.int .u8 0)),(.p (.int .u8 0)),(.p (.int .u8 0)),(.p (.int .u8 0)),(.p (.int .u8 0)),(.p (.int .u8 0)),(.p (.int .u8 0)),(.p (.int .u8 0)),(.p (.int .u8 0)),(.p (.int .u8 0)),(.p (.int .u8 0)),(.p (.int .u8 0)),(.p (.int .u8 0)),(.p (.int .u8 0)),(.p (.int .u8 0)),(.p (.int .u8 0)),(.p (.int .u8 0)),(.p (.int .u8 0)),(.p (.int .u8 0)),(.p (.int .u8 0)),(.p (.int .u8 0)),(.p (.int .u8 0)),(.p (.int .u8 0)),(.p (.int .u8 0)),(.p (.int .u8 0)),(.p (.int .u8 0)),(.p (.int .u8 0)),(.p (.int .u8 0)),(.p (.int .u8 0)),(.p (.int .u8 0)),(.p (.int .u8 0)),(.p (.int .u8 0)),(.p (.int .u8 0)),(.p (.int .u8 0)),(.p (.int .u8 0)),(.p (.int .u8 0)),(.p (.int .u8 0)),(.p (.int .u8 0)),(.p (.int .u8 0)),(.p (.int .u8 0)),(.p (.int .u8 0)),(.p (.int .u8 0)),(.p (.int .u8 0)),(.p (.int .u8 0))] false) h 12 λx12 h =>
 vif x3 (
 vop O (.un .neg (.k x1)) h 32 λx32 h =>
 R 2 [x0,x32,x2,x3,x4,x10,x11,x12,(kI 65)] h)
 (R 2 [x0,x1,x2,x3,x4,x10,x11,x12,(kI 65)] h)
theorem e268_1(O R q x0 x1 x2 x3 x4 x10 x11 h):b268_1 O R q x0 x1 x2 x3 x4 x10 x11 h=stepF c268 O R q 1 [x0,x1,x2,x3,x4,x10,x11] h:=by kernel_rfl
def b268_2(O:Oracle)(R:Jump)(q:Nat)(x0 x1 x2 x3 x4 x10 x11 x12 x13:TVal)(h:Heap):Res1 :=
 vcall O (.v (.c (.func 294 []))) [x2] h 34 λx34 h =>
 vif x34 (
 vtoInt .u64 x2 h λx36 h =>
 vcall O (.v (.c (.func 295 []))) [x36] h 37 λx37 h =>
 vtoInt .u64 x37 h λx38 h =>
 vtoInt .u64 x2 h λx40 h =>
 vtoInt .u64 x2 h λx42 h =>
 vbin .sub 0 x42 (.v (.c (.p (.int .u64 1)))) h λx43 h =>
 R 3 [x0,x1,x3,x4,x10,x11,x12,x13,x38,x40,x43] h)
 (vtoInt .u64 x2 h λx65 h =>
 R 5 [x0,x1,x3,x4,x10,x11,x12,x13,x65] h)
theorem e268_2(O R q x0 x1 x2 x3 x4 x10 x11 x12 x13 h):b268_2 O R q x0 x1 x2 x3 x4 x10 x11 x12 x13 h=stepF c268 O R q 2 [x0,x1,x2,x3,x4,x10,x11,x12,x13] h:=by kernel_rfl
def b268_3(O:Oracle)(R:Jump)(q:Nat)(x0 x1 x3 x4 x10 x11 x12 x13 x14 x15 x16:TVal)(h:Heap):Res1 :=
 vbin .geq 0 x1 x15 h λx46 h =>
 vif x46 (
 vbin .sub 0 x13 (kI 1) h λx48 h =>
 vbin .and 0 x1 x16 h λx52 h =>
 vindex (kS [48,49,50,51,52,53,54,55,56,57,97,98,99,100,101,102,103,104,105,106,107,108,109,110,111,112,113,114,115,116,117,118,119,120,121,122]) x52 h λx53 h =>
 vop O (.iaddrA 65 1 (.k x12) (.k x48)) h 54 λx54 h =>
 vstore 1 x54 x53 h λ_ h =>
 vbin .shr 0 x1 x14 h λx57 h =>
 R 3 [x0,x57,x3,x4,x10,x11,x12,x48,x14,x15,x16] h)
 (R 4 [x0,x1,x3,x4,x10,x11,x12,x13] h)
theorem e268_3(O R q x0 x1 x3 x4 x10 x11 x12 x13 x14 x15 x16 h):b268_3 O R q x0 x1 x3 x4 x10 x11 x12 x13 x14 x15 x16 h=stepF c268 O R q 3 [x0,x1,x3,x4,x10,x11,x12,x13,x14,x15,x16] h:=by kernel_rfl
def b268_4(O:Oracle)(R:Jump)(q:Nat)(x0 x1 x3 x4 x10 x11 x12 x13:TVal)(h:Heap):Res1 :=
 vbin .sub 0 x13 (kI 1) h λx59 h =>
 vindex (kS [48,49,50,51,52,53,54,55,56,57,97,98,99,100,101,102,103,104,105,106,107,108,109,110,111,112,113,114,115,116,117,118,119,120,121,122]) x1 h λx62 h =>
 vop O (.iaddrA 65 1 (.k x12) (.k x59)) h 63 λx63 h =>
 vstore 1 x63 x62 h λ_ h =>
 R 7 [x0,x3,x4,x10,x11,x12,x59] h
theorem e268_4(O R q x0 x1 x3 x4 x10 x11 x12 x13 h):b268_4 O R q x0 x1 x3 x4 x10 x11 x12 x13 h=stepF c268 O R q 4 [x0,x1,x3,x4,x10,x11,x12,x13] h:=by kernel_rfl
def b268_5(O:Oracle)(R:Jump)(q:Nat)(x0 x1 x3 x4 x10 x11 x12 x13 x17:TVal)(h:Heap):Res1 :=
 vbin .geq 0 x1 x17 h λx68 h =>
 vif x68 (
 vbin .sub 0 x13 (kI 1) h λx70 h =>
 vbin .quo 0 x1 x17 h λx73 h =>
 vbin .mul 0 x73 x17 h λx78 h =>
 vbin .sub 0 x1 x78 h λx79 h =>
 vindex (kS [48,49,50,51,52,53,54,55,56,57,97,98,99,100,101,102,103,104,105,106,107,108,109,110,111,112,113,114,115,116,117,118,119,120,121,122]) x79 h λx80 h =>
 vop O (.iaddrA 65 1 (.k x12) (.k x70)) h 81 λx81 h =>
 vstore 1 x81 x80 h λ_ h =>
 R 5 [x0,x73,x3,x4,x10,x11,x12,x70,x17] h)
 (R 6 [x0,x1,x3,x4,x10,x11,x12,x13] h)
theorem e268_5(O R q x0 x1 x3 x4 x10 x11 x12 x13 x17 h):b268_5 O R q x0 x1 x3 x4 x10 x11 x12 x13 x17 h=stepF c268 O R q 5 [x0,x1,x3,x4,x10,x11,x12,x13,x17] h:=by kernel_rfl
def b268_6(O:Oracle)(R:Jump)(q:Nat)(x0 x1 x3 x4 x10 x11 x12 x13:TVal)(h:Heap):Res1 :=
 vbin .sub 0 x13 (kI 1) h λx84 h =>
 vindex (kS [48,49,50,51,52,53,54,55,56,57,97,98,99,100,101,102,103,104,105,106,107,108,109,110,111,112,113,114,115,116,117,118,119,120,121,122]) x1 h λx87 h =>
 vop O (.iaddrA 65 1 (.k x12) (.k x84)) h 88 λx88 h =>
 vstore 1 x88 x87 h λ_ h =>
 R 7 [x0,x3,x4,x10,x11,x12,x84] h
theorem e268_6(O R q x0 x1 x3 x4 x10 x11 x12 x13 h):b268_6 O R q x0 x1 x3 x4 x10 x11 x12 x13 h=stepF c268 O R q 6 [x0,x1,x3,x4,x10,x11,x12,x13] h:=by kernel_rfl
def b268_7(O:Oracle)(R:Jump)(q:Nat)(x0 x3 x4 x10 x11 x12 x13:TVal)(h:Heap):Res1 :=
 vif x3 (
 vbin .sub 0 x13 (kI 1) h λx91 h =>
 vop O (.iaddrA 65 1 (.k x12) (.k x91)) h 93 λx93 h =>
 vstore 1 x93 (.v (.c (.p (.int .u8 45)))) h λ_ h =>
 R 8 [x0,x4,x10,x11,x12,x91] h)
 (R 8 [x0,x4,x10,x11,x12,x13] h)
theorem e268_7(O R q x0 x3 x4 x10 x11 x12 x13 h):b268_7 O R q x0 x3 x4 x10 x11 x12 x13 h=stepF c268 O R q 7 [x0,x3,x4,x10,x11,x12,x13] h:=by kernel_rfl
def b268_8(O:Oracle)(R:Jump)(q:Nat)(x0 x4 x10 x11 x12 x13:TVal)(h:Heap):Res1 :=
 vif x4 (
 vop O (.sliceA 65 1 (.k x12) (some (.k x13)) none) h 97 λx97 h =>
 vop O (.append 1 1 false (.k x0) (.k x97)) h 98 λx98 h =>
 tcomp x98 λc0=>tcomp x11 λc1=>vfin true q [c0,c1] h)
 (vop O (.sliceA 65 1 (.k x12) (some (.k x13)) none) h 100 λx100 h =>
 vop O (.toStr (.k x100)) h 101 λx101 h =>
 tcomp x10 λc0=>tcomp x101 λc1=>vfin true q [c0,c1] h)
theorem e268_8(O R q x0 x4 x10 x11 x12 x13 h):b268_8 O R q x0 x4 x10 x11 x12 x13 h=stepF c268 O R q 8 [x0,x4,x10,x11,x12,x13] h:=by kernel_rfl
def d268:BlkF:=λO R Q=>[.s λa => .s λb => .s λc => .s λd => .s λe => .z (b268_0 O R Q a b c d e),.s λa => .s λb => .s λc => .s λd => .s λe => .s λf => .s λg => .z (b268_1 O R Q a b c d e f g),.s λa => .s λb => .s λc => .s λd => .s λe => .s λf => .s λg => .s λh => .s λi => .z (b268_2 O R Q a b c d e f g h i),.s λa => .s λb => .s λc => .s λd => .s λe => .s λf => .s λg => .s λh => .s λi => .s λj => .s λk => .z (b268_3 O R Q a b c d e f g h i j k),.s λa => .s λb => .s λc => .s λd => .s λe => .s λf => .s λg => .s λh => .z (b268_4 O R Q a b c d e f g h),.s λa => .s λb => .s λc => .s λd => .s λe => .s λf => .s λg => .s λh => .s λi => .z (b268_5 O R Q a b c d e f g h i),.s λa => .s λb => .s λc => .s λd => .s λe => .s λf => .s λg => .s λh => .z (b268_6 O R Q a b c d e f g h),.s λa => .s λb => .s λc => .s λd => .s λe => .s λf => .s λg => .z (b268_7 O R Q a b c d e f g),.s λa => .s λb => .s λc => .s λd => .s λe => .s λf => .z (b268_8 O R Q a b c d e f)]
theorem o268(O:Oracle)(R:Jump)(q:Nat):HoldsAll c268 O R q 0 (d268 O R q):=⟨e268_0 O R q,e268_1 O R q,e268_2 O R q,e268_3 O R q,e268_4 O R q,e268_5 O R q,e268_6 O R q,e268_7 O R q,e268_8 O R q,trivial⟩
def c277:MFunc:=mkM (compF Tryz.prog (globs2 tabs opq) (λ_=>false) true Tryz.f277) (.s .n (.s .n (.s (.k (.l 1 [0,1,5] .n)) .n)))
def b277_0(O:Oracle)(R:Jump)(q:Nat)(x0 x1:TVal)(h:Heap):Res1 :=
 R 1 [x0,x1,(.v (.c (.p .nilslice)))] h
theorem e277_0(O R q x0 x1 h):b277_0 O R q x0 x1 h=stepF c277 O R q 0 [x0,x1] h:=by kernel_rfl
def b277_1(O:Oracle)(R:Jump)(q:Nat)(x0 x1 x5:TVal)(h:Heap):Res1 :=
 vcall O (.v (.c (.func 129 []))) [x0,(kS [46])] h 7 λx7 h =>
 vguard x7 true (λkk=>kk x0 h) h λx9 h =>
 vguard x7 true (λkk=>vop O (.nilck (.k x9)) h 10 kk) h λx10 h =>
 vguard x7 true (λkk=>vfaddr 1 x10 h kk) h λx11 h =>
 vguard x7 true (λkk=>vload false 1 x11 h kk) h λx12 h =>
 vguard x7 true (λkk=>vbin .add 0 x12 (kI 1) h kk) h λx13 h =>
 vguard x7 true (λkk=>kk x0 h) h λx14 h =>
 vguard x7 true (λkk=>vop O (.nilck (.k x14)) h 15 kk) h λx15 h =>
 vguard x7 true (λkk=>vfaddr 0 x15 h kk) h λx16 h =>
 vguard x7 true (λkk=>vload false 1 x16 h kk) h λx17 h =>
 vguard x7 true (λkk=>vlen O 2 x17 h 18 kk) h λx18 h =>
 vguard x7 true (λkk=>vbin .lss 0 x13 x18 h kk) h λx19 h =>
 vop O (.pick (.k x7) (.k x19) (.k (kB false))) h 20 λx20 h =>
 vguard x20 true (λkk=>kk x0 h) h λx22 h =>
 vguard x20 true (λkk=>vop O (.nilck (.k x22)) h 23 kk) h λx23 h =>
 vguard x20 true (λkk=>vfaddr 0 x23 h kk) h λx24 h =>
 vguard x20 true (λkk=>vload false 1 x24 h kk) h λx25 h =>
 vguard x20 true (λkk=>kk x0 h) h λx26 h =>
 vguard x20 true (λkk=>vop O (.nilck (.k x26)) h 27 kk) h λx27 h =>
 vguard x20 true (λkk=>vfaddr 1 x27 h kk) h λx28 h =>
 vguard x20 true (λkk=>vload false 1 x28 h kk) h λx29 h =>
 vguard x20 true (λkk=>vbin .add 0 x29 (kI 1) h kk) h λx30 h =>
 vguard x20 true (λkk=>viaddr 4 x25 x30 h kk) h λx31 h =>
 vguard x20 true (λkk=>vfaddr 0 x31 h kk) h λx32 h =>
 vguard x20 true (λkk=>vload false 1 x32 h kk) h λx33 h =>
 vguard x20 true (λkk=>vbin .eql 0 x33 (kI 1) h kk) h λx34 h =>
 vop O (.pick (.k x20) (.k x34) (.k (kB false))) h 35 λx35 h =>
 vguard x35 true (λkk=>kk x0 h) h λx37 h =>
 vguard x35 true (λkk=>vop O (.nilck (.k x37)) h 38 kk) h λx38 h =>
 vguard x35 true (λkk=>vfaddr 0 x38 h kk) h λx39 h =>
 vguard x35 true (λkk=>vload false 1 x39 h kk) h λx40 h =>
 vguard x35 true (λkk=>kk x0 h) h λx41 h =>
 vguard x35 true (λkk=>vop O (.nilck (.k x41)) h 42 kk) h λx42 h =>
 vguard x35 true (λkk=>vfaddr 1 x42 h kk) h λx43 h =>
 vguard x35 true (λkk=>vload false 1 x43 h kk) h λx44 h =>
 vguard x35 true (λkk=>vbin .add 0 x44 (kI 1) h kk) h λx45 h =>
 vguard x35 true (λkk=>viaddr 4 x40 x45 h kk) h λx46 h =>
 vguard x35 true (λkk=>vfaddr 3 x46 h kk) h λx47 h =>
 vguard x35 true (λkk=>vload false 1 x47 h kk) h λx48 h =>
 vguard x35 true (λkk=>kk x0 h) h λx49 h =>
 vguard x35 true (λkk=>vop O (.nilck (.k x49)) h 50 kk) h λx50 h =>
 vguard x35 true (λkk=>vfaddr 0 x50 h kk) h λx51 h =>
 vguard x35 true (λkk=>vload false 1 x51 h kk) h λx52 h =>
 vguard x35 true (λkk=>kk x0 h) h λx53 h =>
 vguard x35 true (λkk=>vop O (.nilck (.k x53)) h 54 kk) h λx54 h =>
 vguard x35 true (λkk=>vfaddr 1 x54 h kk) h λx55 h =>
 vguard x35 true (λkk=>vload false 1 x55 h kk) h λx56 h =>
 vguard x35 true (λkk=>viaddr 4 x52 x56 h kk) h λx57 h =>
 vguard x35 true (λkk=>vfaddr 3 x57 h kk) h λx58 h =>
 vguard x35 true (λkk=>vload false 1 x58 h kk) h λx59 h =>
 vguard x35 true (λkk=>vbin .add 0 x59 (kI 1) h kk) h λx60 h =>
 vguard x35 true (λkk=>vbin .eql 0 x48 x60 h kk) h λx61 h =>
 vop O (.pick (.k x35) (.k x61) (.k (kB false))) h 62 λx62 h =>
 vguard x62 true (λkk=>kk x1 h) h λx64 h =>
 vguard x62 true (λkk=>vbin .lss 0 x64 (kI 0) h kk) h λx65 h =>
 vguard x62 true (λkk=>kk x65 h) h λx66 h =>
 vguard x66 false (λkk=>kk x0 h) h λx67 h =>
 vguard x66 false (λkk=>vop O (.nilck (.k x67)) h 68 kk) h λx68 h =>
 vguard x66 false (λkk=>vfaddr 0 x68 h kk) h λx69 h =>
 vguard x66 false (λkk=>vload false 1 x69 h kk) h λx70 h =>
 vguard x66 false (λkk=>kk x0 h) h λx71 h =>
 vguard x66 false (λkk=>vop O (.nilck (.k x71)) h 72 kk) h λx72 h =>
 vguard x66 false (λkk=>vfaddr 1 x72 h kk) h λx73 h =>
 vguard x66 false (λkk=>vload false 1 x73 h kk) h λx74 h =>
 vguard x66 false (λkk=>viaddr 4 x70 x74 h kk) h λx75 h =>
 vguard x66 false (λkk=>vfaddr 3 x75 h kk) h λx76 h =>
 vguard x66 false (λkk=>vload false 1 x76 h kk) h λx77 h =>
 vguard x66 false (λkk=>kk x1 h) h λx78 h =>
 vguard x66 false (λkk=>vbin .eql 0 x77 x78 h kk) h λx79 h =>
 vguard x62 true (λkk=>vop O (.pick (.k x66) (.k (kB true)) (.k x79)) h 80 kk) h λx80 h =>
 vop O (.pick (.k x62) (.k x80) (.k (kB false))) h 81 λx81 h =>
 vif x81 (
 vop O (.nilck (.k x0)) h 84 λx84 h =>
 vfaddr 0 x84 h λx85 h =>
 vload false 1 x85 h λx86 h =>
 vop O (.nilck (.k x0)) h 88 λx88 h =>
 vfaddr 1 x88 h λx89 h =>
 vload false 1 x89 h λx90 h =>
 vbin .add 0 x90 (kI 1) h λx91 h =>
 viaddr 4 x86 x91 h λx92 h =>
 vfaddr 1 x92 h λx93 h =>
 vload false 1 x93 h λx94 h =>
 vop O (.bslice 1 1 [(.p (.str []))] [(0,(.k x94))] false) h 95 λx95 h =>
 vop O (.append 1 16 false (.k x5) (.k x95)) h 96 λx96 h =>
 vop O (.nilck (.k x0)) h 98 λx98 h =>
 vfaddr 0 x98 h λx99 h =>
 vload false 1 x99 h λx100 h =>
 vop O (.nilck (.k x0)) h 102 λx102 h =>
 vfaddr 1 x102 h λx103 h =>
 vload false 1 x103 h λx104 h =>
 vbin .add 0 x104 (kI 1) h λx105 h =>
 viaddr 4 x100 x105 h λx106 h =>
 vfaddr 3 x106 h λx107 h =>
 vload false 1 x107 h λx108 h =>
 vop O (.nilck (.k x0)) h 110 λx110 h =>
 vfaddr 0 x110 h λx111 h =>
 vload false 1 x111 h λx112 h =>
 vop O (.nilck (.k x0)) h 114 λx114 h =>
 vfaddr 1 x114 h λx115 h =>
 vload false 1 x115 h λx116 h =>
 vbin .add 0 x116 (kI 1) h λx117 h =>
 viaddr 4 x112 x117 h λx118 h =>
 vfaddr 1 x118 h λx119 h =>
 vload false 1 x119 h λx120 h =>
 vlen O 0 x120 h 121 λx121 h =>
 vbin .add 0 x108 x121 h λx122 h =>
 vop O (.nilck (.k x0)) h 125 λx125 h =>
 vfaddr 1 x125 h λx126 h =>
 vload false 1 x126 h λx127 h =>
 vbin .add 0 x127 (kI 2) h λx128 h =>
 vop O (.nilck (.k x0)) h 129 λx129 h =>
 vfaddr 1 x129 h λx130 h =>
 vstore 1 x130 x128 h λ_ h =>
 R 1 [x0,x122,x96] h)
 (tcomp x5 λc0=>vfin true q [c0] h)
theorem e277_1(O R q x0 x1 x5 h):b277_1 O R q x0 x1 x5 h=stepF c277 O R q 1 [x0,x1,x5] h:=by kernel_rfl
def d277:BlkF:=λO R Q=>[.s λa => .s λb => .z (b277_0 O R Q a b),.s λa => .s λb => .s λc => .z (b277_1 O R Q a b c)]
theorem o277(O:Oracle)(R:Jump)(q:Nat):HoldsAll c277 O R q 0 (d277 O R q):=⟨e277_0 O R q,e277_1 O R q,trivial⟩
def c278:MFunc:=mkM (compF Tryz.prog (globs2 tabs opq) (λ_=>false) true Tryz.f278) .n
def b278_0(O:Oracle)(R:Jump)(q:Nat)(x0 x1:TVal)(h:Heap):Res1 :=
 vcall O (.v (.c (.func 129 []))) [x0,x1] h 6 λx6 h =>
 vif x6 (
 vop O (.nilck (.k x0)) h 8 λx8 h =>
 vfaddr 1 x8 h λx9 h =>
 vload false 1 x9 h λx10 h =>
 vbin .add 0 x10 (kI 1) h λx11 h =>
 vop O (.nilck (.k x0)) h 12 λx12 h =>
 vfaddr 1 x12 h λx13 h =>
 vstore 1 x13 x11 h λ_ h =>
 vfin true q [] h)
 (vcall O (.v (.c (.func 190 []))) [x0,(kI 12)] h 15 λx15 h =>
 vfin true q [] h)
theorem e278_0(O R q x0 x1 h):b278_0 O R q x0 x1 h=stepF c278 O R q 0 [x0,x1] h:=by kernel_rfl
def d278:BlkF:=λO R Q=>[.s λa => .s λb => .z (b278_0 O R Q a b)]
theorem o278(O:Oracle)(R:Jump)(q:Nat):HoldsAll c278 O R q 0 (d278 O R q):=⟨e278_0 O R q,trivial⟩
def c279:MFunc:=mkM (compF Tryz.prog (globs2 tabs opq) (λ_=>false) true Tryz.f279) .n
def b279_0(O:Oracle)(R:Jump)(q:Nat)(x0 x1:TVal)(h:Heap):Res1 :=
 vop O (.alloc [(.p (.int .i64 0)),(.p (.bool false)),(.p (.int .i64 0)),(.p (.str [])),(.p .nilslice),(.p .nilslice)] false) h 4 λx4 h =>
 vop O (.nilck (.k x0)) h 11 λx11 h =>
 vfaddr 0 x11 h λx12 h =>
 vload false 1 x12 h λx13 h =>
 vop O (.lookup 2 (.agg [(.p (.str [])),(.p .nilslice),(.p (.int .i64 0))]) (.k x13) (.k x1) true) h 15 λx15 h =>
 vext x15 0 h λx16 h =>
 vext x15 1 h λx17 h =>
 vop O (.alloc [(.p (.str [])),(.p .nilslice),(.p (.int .i64 0))] false) h 6 λx6 h =>
 vstore 3 x6 x16 h λ_ h =>
 vop O (.un .not (.k x17)) h 19 λx19 h =>
 vif x19 (
 vop O (.build [(.p (.int .i64 0)),(.p (.bool false)),(.p (.int .i64 0)),(.p (.str [])),(.p .nilslice),(.p .nilslice)] []) h 20 λx20 h =>
 vstore 6 x4 x20 h λ_ h =>
 vcell true 6 x4 h λc0=>tcomp (kI 15) λc1=>vfin true q [c0,c1] h)
 (vop O (.nilck (.k x0)) h 22 λx22 h =>
 vfaddr 1 x22 h λx23 h =>
 vload false 1 x23 h λx24 h =>
 vop O (.lookup 2 (.c (.p (.int .i64 0))) (.k x24) (.k x1) false) h 26 λx26 h =>
 vop O (.nilck (.k x0)) h 28 λx28 h =>
 vfaddr 1 x28 h λx29 h =>
 vload false 1 x29 h λx30 h =>
 vop O (.lookup 2 (.c (.p (.int .i64 0))) (.k x30) (.k x1) false) h 32 λx32 h =>
 vbin .add 0 x32 (kI 1) h λx33 h =>
 vop O (.mapup 2 (.k x30) (.k x1) (.k x33)) h 1000000 λ_ h =>
 vfaddr 2 x6 h λx35 h =>
 vload false 1 x35 h λx36 h =>
 vbin .eql 0 x26 x36 h λx37 h =>
 vguard x37 false (λkk=>vfaddr 1 x6 h kk) h λx39 h =>
 vguard x37 false (λkk=>vload false 1 x39 h kk) h λx40 h =>
 vguard x37 false (λkk=>vlen O 2 x40 h 41 kk) h λx41 h =>
 vguard x37 false (λkk=>vbin .eql 0 x41 (kI 0) h kk) h λx42 h =>
 vop O (.pick (.k x37) (.k (kB true)) (.k x42)) h 43 λx43 h =>
 vif x43 (
 vop O (.build [(.p (.int .i64 0)),(.p (.bool false)),(.p (.int .i64 0)),(.p (.str [])),(.p .nilslice),(.p .nilslice)] []) h 44 λx44 h =>
 vstore 6 x4 x44 h λ_ h =>
 vcell true 6 x4 h λc0=>tcomp (kI 33) λc1=>vfin true q [c0,c1] h)
 (vfaddr 1 x6 h λx45 h =>
 vload false 1 x45 h λx46 h =>
 vfaddr 1 x6 h λx48 h =>
 vload false 1 x48 h λx49 h =>
 vlen O 2 x49 h 50 λx50 h =>
 vbin .rem 0 x26 x50 h λx51 h =>
 viaddr 6 x46 x51 h λx52 h =>
 vload true 6 x52 h λx53 h =>
 vcall O (.v (.c (.func 71 []))) [x53] h 54 λx54 h =>
 vstore 6 x4 x54 h λ_ h =>
 vcell true 6 x4 h λc0=>tcomp (kI 0) λc1=>vfin true q [c0,c1] h))
theorem e279_0(O R q x0 x1 h):b279_0 O R q x0 x1 h=stepF c279 O R q 0 [x0,x1] h:=by kernel_rfl
def d279:BlkF:=λO R Q=>[.s λa => .s λb => .z (b279_0 O R Q a b)]
theorem o279(O:Oracle)(R:Jump)(q:Nat):HoldsAll c279 O R q 0 (d279 O R q):=⟨e279_0 O R q,trivial⟩
def c280:MFunc:=mkM (compF Tryz.prog (globs2 tabs opq) (λ_=>false) true Tryz.f280) (.s .n (.s .n (.s .n (.m 1 [3,4,6] (.s (.s .n (.k (.l 2 [4,6,28,29,30] .n))) (.m 3 [4,6] .n))))))
def b280_0(O:Oracle)(R:Jump)(q:Nat)(x0 x1:TVal)(h:Heap):Res1 :=
 vop O (.box (.k x0) false) h 2 λx2 h =>
 vop O (.box (.k x1) false) h 3 λx3 h =>
 vop O (.alloc [(.p (.int .i64 0)),(.p (.bool false)),(.p (.int .i64 0)),(.p (.str [])),(.p .nilslice),(.p .nilslice)] false) h 4 λx4 h =>
 vfaddr 0 x2 h λx11 h =>
 vload true 6 x11 h λx12 h =>
 vop O (.alloc [(.p (.int .i64 0)),(.p (.bool false)),(.p (.int .i64 0)),(.p (.str [])),(.p .nilslice),(.p .nilslice)] false) h 6 λx6 h =>
 vstore 6 x6 x12 h λ_ h =>
 vfaddr 1 x3 h λx13 h =>
 vload false 1 x13 h λx14 h =>
 vbin .neq 0 x14 (kS []) h λx15 h =>
 vif x15 (
 vload true 8 x2 h λx16 h =>
 vfaddr 1 x3 h λx17 h =>
 vload false 1 x17 h λx18 h =>
 vcall O (.v (.c (.func 198 []))) [x16,x18] h 19 λx19 h =>
 vbin .eql 1 x19 (.v (.c (.p .nilptr))) h λx21 h =>
 vif x21 (
 vop O (.build [(.p (.int .i64 0)),(.p (.bool false)),(.p (.int .i64 0)),(.p (.str [])),(.p .nilslice),(.p .nilslice)] []) h 22 λx22 h =>
 vstore 6 x4 x22 h λ_ h =>
 vcell true 6 x4 h λc0=>tcomp (kI 15) λc1=>vfin true q [c0,c1] h)
 (vop O (.nilck (.k x19)) h 24 λx24 h =>
 vfaddr 1 x24 h λx25 h =>
 vload true 6 x25 h λx26 h =>
 vstore 6 x6 x26 h λ_ h =>
 R 1 [x3,x4,x6] h))
 (R 1 [x3,x4,x6] h)
theorem e280_0(O R q x0 x1 h):b280_0 O R q x0 x1 h=stepF c280 O R q 0 [x0,x1] h:=by kernel_rfl
def b280_1(O:Oracle)(R:Jump)(q:Nat)(x3 x4 x6:TVal)(h:Heap):Res1 :=
 vfaddr 2 x3 h λx27 h =>
 vload false 1 x27 h λx28 h =>
 vlen O 2 x28 h 29 λx29 h =>
 R 2 [x4,x6,x28,x29,(kI 0)] h
theorem e280_1(O R q x3 x4 x6 h):b280_1 O R q x3 x4 x6 h=stepF c280 O R q 1 [x3,x4,x6] h:=by kernel_rfl
def b280_2(O:Oracle)(R:Jump)(q:Nat)(x4 x6 x28 x29 x30:TVal)(h:Heap):Res1 :=
 vbin .lss 0 x30 x29 h λx31 h =>
 vif x31 (
 viaddr 1 x28 x30 h λx32 h =>
 vload false 1 x32 h λx33 h =>
 vfaddr 4 x6 h λx34 h =>
 vload false 1 x34 h λx35 h =>
 vcall O (.v (.c (.func 169 []))) [x35,x33] h 37 λx37 h =>
 vfaddr 0 x6 h λx38 h =>
 vload false 1 x38 h λx39 h =>
 vbin .neq 0 x39 (kI 5) h λx40 h =>
 vguard x40 false (λkk=>kk x37 h) h λx42 h =>
 vguard x40 false (λkk=>vbin .lss 0 x42 (kI 0) h kk) h λx43 h =>
 vop O (.pick (.k x40) (.k (kB true)) (.k x43)) h 44 λx44 h =>
 vguard x44 false (λkk=>kk x37 h) h λx46 h =>
 vguard x44 false (λkk=>vfaddr 5 x6 h kk) h λx47 h =>
 vguard x44 false (λkk=>vload false 1 x47 h kk) h λx48 h =>
 vguard x44 false (λkk=>vlen O 2 x48 h 49 kk) h λx49 h =>
 vguard x44 false (λkk=>vbin .geq 0 x46 x49 h kk) h λx50 h =>
 vop O (.pick (.k x44) (.k (kB true)) (.k x50)) h 51 λx51 h =>
 vif x51 (
 vop O (.build [(.p (.int .i64 0)),(.p (.bool false)),(.p (.int .i64 0)),(.p (.str [])),(.p .nilslice),(.p .nilslice)] []) h 52 λx52 h =>
 vstore 6 x4 x52 h λ_ h =>
 vcell true 6 x4 h λc0=>tcomp (kI 16) λc1=>vfin true q [c0,c1] h)
 (vfaddr 5 x6 h λx53 h =>
 vload false 1 x53 h λx54 h =>
 viaddr 6 x54 x37 h λx56 h =>
 vload true 6 x56 h λx57 h =>
 vstore 6 x6 x57 h λ_ h =>
 vbin .add 0 x30 (kI 1) h λx58 h =>
 R 2 [x4,x6,x28,x29,x58] h))
 (R 3 [x4,x6] h)
theorem e280_2(O R q x4 x6 x28 x29 x30 h):b280_2 O R q x4 x6 x28 x29 x30 h=stepF c280 O R q 2 [x4,x6,x28,x29,x30] h:=by kernel_rfl
def b280_3(O:Oracle)(R:Jump)(q:Nat)(x4 x6:TVal)(h:Heap):Res1 :=
 vload true 6 x6 h λx59 h =>
 vstore 6 x4 x59 h λ_ h =>
 vcell true 6 x4 h λc0=>tcomp (kI 0) λc1=>vfin true q [c0,c1] h
theorem e280_3(O R q x4 x6 h):b280_3 O R q x4 x6 h=stepF c280 O R q 3 [x4,x6] h:=by kernel_rfl
def d280:BlkF:=λO R Q=>[.s λa => .s λb => .z (b280_0 O R Q a b),.s λa => .s λb => .s λc => .z (b280_1 O R Q a b c),.s λa => .s λb => .s λc => .s λd => .s λe => .z (b280_2 O R Q a b c d e),.s λa => .s λb => .z (b280_3 O R Q a b)]
theorem o280(O:Oracle)(R:Jump)(q:Nat):HoldsAll c280 O R q 0 (d280 O R q):=⟨e280_0 O R q,e280_1 O R q,e280_2 O R q,e280_3 O R q,trivial⟩
def c281:MFunc:=mkM (compF Tryz.prog (globs2 tabs opq) (λ_=>false) true Tryz.f281) (.s .n (.k (.l 1 [0,1,3] .n)))
def b281_0(O:Oracle)(R:Jump)(q:Nat)(x0 x1:TVal)(h:Heap):Res1 :=
 vload false 1 x1 h λx4 h =>
 vlen O 2 x4 h 5 λx5 h =>
 vbin .sub 0 x5 (kI 1) h λx6 h =>
 R 1 [x0,x1,x6] h
theorem e281_0(O R q x0 x1 h):b281_0 O R q x0 x1 h=stepF c281 O R q 0 [x0,x1] h:=by kernel_rfl
def b281_1(O:Oracle)(R:Jump)(q:Nat)(x0 x1 x3:TVal)(h:Heap):Res1 :=
 vbin .geq 0 x3 (kI 0) h λx8 h =>
 vif x8 (
 vload false 1 x1 h λx13 h =>
 viaddr 1 x13 x3 h λx15 h =>
 vload false 1 x15 h λx16 h =>
 vcall O x0 [x3,x16] h 17 λx17 h =>
 vop O (.un .not (.k x17)) h 18 λx18 h =>
 vif x18 (
 vfin true q [] h)
 (vbin .sub 0 x3 (kI 1) h λx10 h =>
 R 1 [x0,x1,x10] h))
 (vfin true q [] h)
theorem e281_1(O R q x0 x1 x3 h):b281_1 O R q x0 x1 x3 h=stepF c281 O R q 1 [x0,x1,x3] h:=by kernel_rfl
def d281:BlkF:=λO R Q=>[.s λa => .s λb => .z (b281_0 O R Q a b),.s λa => .s λb => .s λc => .z (b281_1 O R Q a b c)]
theorem o281(O:Oracle)(R:Jump)(q:Nat):HoldsAll c281 O R q 0 (d281 O R q):=⟨e281_0 O R q,e281_1 O R q,trivial⟩
def c287:MFunc:=mkM (compF Tryz.prog (globs2 tabs opq) (λ_=>false) true Tryz.f287) .n
def b287_0(O:Oracle)(R:Jump)(q:Nat)(x0 x1:TVal)(h:Heap):Res1 :=
 vcall O (.v (.c (.func 301 []))) [x0,x1] h 7 λx7 h =>
 tcomp x7 λc0=>vfin true q [c0] h
theorem e287_0(O R q x0 x1 h):b287_0 O R q x0 x1 h=stepF c287 O R q 0 [x0,x1] h:=by kernel_rfl
def d287:BlkF:=λO R Q=>[.s λa => .s λb => .z (b287_0 O R Q a b)]
theorem o287(O:Oracle)(R:Jump)(q:Nat):HoldsAll c287 O R q 0 (d287 O R q):=⟨e287_0 O R q,trivial⟩
def c289:MFunc:=mkM (compF Tryz.prog (globs2 tabs opq) (λ_=>false) true Tryz.f289) .n
def b289_0(O:Oracle)(R:Jump)(q:Nat)(x0:TVal)(h:Heap):Res1 :=
 vbin .add 0 x0 (kI 16) h λx4 h =>
 vbin .quo 0 x4 (kI 8) h λx5 h =>
 tcomp x5 λc0=>vfin true q [c0] h
theorem e289_0(O R q x0 h):b289_0 O R q x0 h=stepF c289 O R q 0 [x0] h:=by kernel_rfl
def d289:BlkF:=λO R Q=>[.s λa => .z (b289_0 O R Q a)]
theorem o289(O:Oracle)(R:Jump)(q:Nat):HoldsAll c289 O R q 0 (d289 O R q):=⟨e289_0 O R q,trivial⟩
def c290:MFunc:=mkM (compF Tryz.prog (globs2 tabs opq) (λ_=>false) true Tryz.f290) (.s .n (.s .n (.s .n (.s .n (.s (.s .n (.k (.l 1 [0,1,5,6,7,8,9] .n))) (.m 2 [0,1,5,6,7,8] (.s .n (.s (.s .n (.k (.l 3 [0,1,5,6,7,8,10] .n))) .n))))))))
def b290_0(O:Oracle)(R:Jump)(q:Nat)(x0 x1:TVal)(h:Heap):Res1 :=
 vcall O (.v (.c (.func 302 []))) [x1] h 13 λx13 h =>
 vext x13 0 h λx14 h =>
 vext x13 1 h λx15 h =>
 vlen O 0 x1 h 17 λx17 h =>
 R 1 [x0,x1,x14,x15,x17,(.v (.c (.p (.int .u32 0)))),(kI 0)] h
theorem e290_0(O R q x0 x1 h):b290_0 O R q x0 x1 h=stepF c290 O R q 0 [x0,x1] h:=by kernel_rfl
def b290_1(O:Oracle)(R:Jump)(q:Nat)(x0 x1 x5 x6 x7 x8 x9:TVal)(h:Heap):Res1 :=
 vbin .lss 0 x9 x7 h λx20 h =>
 vif x20 (
 vbin .mul 0 x8 (.v (.c (.p (.int .u32 16777619)))) h λx24 h =>
 vindex x0 x9 h λx27 h =>
 vtoInt .u32 x27 h λx28 h =>
 vbin .add 0 x24 x28 h λx29 h =>
 vbin .add 0 x9 (kI 1) h λx22 h =>
 R 1 [x0,x1,x5,x6,x7,x29,x22] h)
 (R 2 [x0,x1,x5,x6,x7,x8] h)
theorem e290_1(O R q x0 x1 x5 x6 x7 x8 x9 h):b290_1 O R q x0 x1 x5 x6 x7 x8 x9 h=stepF c290 O R q 1 [x0,x1,x5,x6,x7,x8,x9] h:=by kernel_rfl
def b290_2(O:Oracle)(R:Jump)(q:Nat)(x0 x1 x5 x6 x7 x8:TVal)(h:Heap):Res1 :=
 vbin .eql 0 x8 x5 h λx32 h =>
 vguard x32 true (λkk=>kk x0 h) h λx34 h =>
 vguard x32 true (λkk=>kk x7 h) h λx35 h =>
 vguard x32 true (λkk=>vop O (.slice 0 true (.k x34) none (some (.k x35)) none) h 36 kk) h λx36 h =>
 vguard x32 true (λkk=>kk x1 h) h λx37 h =>
 vguard x32 true (λkk=>vbin .eql 0 x36 x37 h kk) h λx38 h =>
 vop O (.pick (.k x32) (.k x38) (.k (kB false))) h 39 λx39 h =>
 vif x39 (
 tcomp (kI 0) λc0=>vfin true q [c0] h)
 (R 3 [x0,x1,x5,x6,x7,x8,x7] h)
theorem e290_2(O R q x0 x1 x5 x6 x7 x8 h):b290_2 O R q x0 x1 x5 x6 x7 x8 h=stepF c290 O R q 2 [x0,x1,x5,x6,x7,x8] h:=by kernel_rfl
def b290_3(O:Oracle)(R:Jump)(q:Nat)(x0 x1 x5 x6 x7 x8 x10:TVal)(h:Heap):Res1 :=
 vlen O 0 x0 h 43 λx43 h =>
 vbin .lss 0 x10 x43 h λx44 h =>
 vif x44 (
 vbin .mul 0 x8 (.v (.c (.p (.int .u32 16777619)))) h λx46 h =>
 vindex x0 x10 h λx50 h =>
 vtoInt .u32 x50 h λx51 h =>
 vbin .add 0 x46 x51 h λx52 h =>
 vbin .sub 0 x10 x7 h λx58 h =>
 vindex x0 x58 h λx59 h =>
 vtoInt .u32 x59 h λx60 h =>
 vbin .mul 0 x6 x60 h λx61 h =>
 vbin .sub 0 x52 x61 h λx62 h =>
 vbin .add 0 x10 (kI 1) h λx64 h =>
 vbin .eql 0 x62 x5 h λx67 h =>
 vguard x67 true (λkk=>kk x0 h) h λx69 h =>
 vguard x67 true (λkk=>kk x64 h) h λx70 h =>
 vguard x67 true (λkk=>kk x7 h) h λx71 h =>
 vguard x67 true (λkk=>vbin .sub 0 x70 x71 h kk) h λx72 h =>
 vguard x67 true (λkk=>kk x64 h) h λx73 h =>
 vguard x67 true (λkk=>vop O (.slice 0 true (.k x69) (some (.k x72)) (some (.k x73)) none) h 74 kk) h λx74 h =>
 vguard x67 true (λkk=>kk x1 h) h λx75 h =>
 vguard x67 true (λkk=>vbin .eql 0 x74 x75 h kk) h λx76 h =>
 vop O (.pick (.k x67) (.k x76) (.k (kB false))) h 77 λx77 h =>
 vif x77 (
 vbin .sub 0 x64 x7 h λx80 h =>
 tcomp x80 λc0=>vfin true q [c0] h)
 (R 3 [x0,x1,x5,x6,x7,x62,x64] h))
 (tcomp (kI (-1)) λc0=>vfin true q [c0] h)
theorem e290_3(O R q x0 x1 x5 x6 x7 x8 x10 h):b290_3 O R q x0 x1 x5 x6 x7 x8 x10 h=stepF c290 O R q 3 [x0,x1,x5,x6,x7,x8,x10] h:=by kernel_rfl
def d290:BlkF:=λO R Q=>[.s λa => .s λb => .z (b290_0 O R Q a b),.s λa => .s λb => .s λc => .s λd => .s λe => .s λf => .s λg => .z (b290_1 O R Q a b c d e f g),.s λa => .s λb => .s λc => .s λd => .s λe => .s λf => .z (b290_2 O R Q a b c d e f),.s λa => .s λb => .s λc => .s λd => .s λe => .s λf => .s λg => .z (b290_3 O R Q a b c d e f g)]
theorem o290(O:Oracle)(R:Jump)(q:Nat):HoldsAll c290 O R q 0 (d290 O R q):=⟨e290_0 O R q,e290_1 O R q,e290_2 O R q,e290_3 O R q,trivial⟩
def c291:MFunc:=mkM (compF Tryz.prog (globs2 tabs opq) (λ_=>false) true Tryz.f291) .n
def b291_0(O:Oracle)(R:Jump)(q:Nat)(x0:TVal)(h:Heap):Res1 :=
 vbin .mul 0 x0 (kI 78913) h λx4 h =>
 vbin .shr 0 x4 (.v (.c (.p (.int .u64 18)))) h λx5 h =>
 tcomp x5 λc0=>vfin true q [c0] h
theorem e291_0(O R q x0 h):b291_0 O R q x0 h=stepF c291 O R q 0 [x0] h:=by kernel_rfl
def d291:BlkF:=λO R Q=>[.s λa => .z (b291_0 O R Q a)]
theorem o291(O:Oracle)(R:Jump)(q:Nat):HoldsAll c291 O R q 0 (d291 O R q):=⟨e291_0 O R q,trivial⟩
def c292:MFunc:=mkM (compF Tryz.prog (globs2 tabs opq) (λ_=>false) true Tryz.f292) (.s .n (.s .n (.m 1 [0,2] (.s .n (.m 2 [0,2] (.s .n (.m 3 [0,2] .n)))))))
def b292_0(O:Oracle)(R:Jump)(q:Nat)(x0:TVal)(h:Heap):Res1 :=
 vbin .geq 0 x0 (.v (.c (.p (.int .u64 4294967296)))) h λx4 h =>
 vif x4 (
 vbin .shr 0 x0 (.v (.c (.p (.int .u64 32)))) h λx6 h =>
 R 1 [x6,(kI 32)] h)
 (R 1 [x0,(kI 0)] h)
theorem e292_0(O R q x0 h):b292_0 O R q x0 h=stepF c292 O R q 0 [x0] h:=by kernel_rfl
def b292_1(O:Oracle)(R:Jump)(q:Nat)(x0 x2:TVal)(h:Heap):Res1 :=
 vbin .geq 0 x0 (.v (.c (.p (.int .u64 65536)))) h λx8 h =>
 vif x8 (
 vbin .shr 0 x0 (.v (.c (.p (.int .u64 16)))) h λx10 h =>
 vbin .add 0 x2 (kI 16) h λx12 h =>
 R 2 [x10,x12] h)
 (R 2 [x0,x2] h)
theorem e292_1(O R q x0 x2 h):b292_1 O R q x0 x2 h=stepF c292 O R q 1 [x0,x2] h:=by kernel_rfl
def b292_2(O:Oracle)(R:Jump)(q:Nat)(x0 x2:TVal)(h:Heap):Res1 :=
 vbin .geq 0 x0 (.v (.c (.p (.int .u64 256)))) h λx14 h =>
 vif x14 (
 vbin .shr 0 x0 (.v (.c (.p (.int .u64 8)))) h λx16 h =>
 vbin .add 0 x2 (kI 8) h λx18 h =>
 R 3 [x16,x18] h)
 (R 3 [x0,x2] h)
theorem e292_2(O R q x0 x2 h):b292_2 O R q x0 x2 h=stepF c292 O R q 2 [x0,x2] h:=by kernel_rfl
def b292_3(O:Oracle)(R:Jump)(q:Nat)(x0 x2:TVal)(h:Heap):Res1 :=
 vtoInt .u8 x0 h λx21 h =>
 vindex (kS z0a4518d3) x21 h λx22 h =>
 vtoInt .i64 x22 h λx23 h =>
 vbin .add 0 x2 x23 h λx24 h =>
 tcomp x24 λc0=>vfin true q [c0] h
theorem e292_3(O R q x0 x2 h):b292_3 O R q x0 x2 h=stepF c292 O R q 3 [x0,x2] h:=by kernel_rfl
def d292:BlkF:=λO R Q=>[.s λa => .z (b292_0 O R Q a),.s λa => .s λb => .z (b292_1 O R Q a b),.s λa => .s λb => .z (b292_2 O R Q a b),.s λa => .s λb => .z (b292_3 O R Q a b)]
theorem o292(O:Oracle)(R:Jump)(q:Nat):HoldsAll c292 O R q 0 (d292 O R q):=⟨e292_0 O R q,e292_1 O R q,e292_2 O R q,e292_3 O R q,trivial⟩
def c293:MFunc:=mkM (compF Tryz.prog (globs2 tabs opq) (λ_=>false) true Tryz.f293) .n
def b293_0(O:Oracle)(R:Jump)(q:Nat)(x0:TVal)(h:Heap):Res1 :=
 vif x0 (
 tcomp (kI 1) λc0=>vfin true q [c0] h)
 (tcomp (kI 0) λc0=>vfin true q [c0] h)
theorem e293_0(O R q x0 h):b293_0 O R q x0 h=stepF c293 O R q 0 [x0] h:=by kernel_rfl
def d293:BlkF:=λO R Q=>[.s λa => .z (b293_0 O R Q a)]
theorem o293(O:Oracle)(R:Jump)(q:Nat):HoldsAll c293 O R q 0 (d293 O R q):=⟨e293_0 O R q,trivial⟩
def c294:MFunc:=mkM (compF Tryz.prog (globs2 tabs opq) (λ_=>false) true Tryz.f294) .n
def b294_0(O:Oracle)(R:Jump)(q:Nat)(x0:TVal)(h:Heap):Res1 :=
 vbin .sub 0 x0 (kI 1) h λx5 h =>
 vbin .and 0 x0 x5 h λx6 h =>
 vbin .eql 0 x6 (kI 0) h λx7 h =>
 tcomp x7 λc0=>vfin true q [c0] h
theorem e294_0(O R q x0 h):b294_0 O R q x0 h=stepF c294 O R q 0 [x0] h:=by kernel_rfl
def d294:BlkF:=λO R Q=>[.s λa => .z (b294_0 O R Q a)]
theorem o294(O:Oracle)(R:Jump)(q:Nat):HoldsAll c294 O R q 0 (d294 O R q):=⟨e294_0 O R q,trivial⟩
def c295:MFunc:=mkM (compF Tryz.prog (globs2 tabs opq) (λ_=>false) true Tryz.f295) .n
def b295_0(O:Oracle)(R:Jump)(q:Nat)(x0:TVal)(h:Heap):Res1 :=
 vif (kB false) (
 vtoInt .u32 x0 h λx4 h =>
 vcall O (.v (.c (.func 303 []))) [x4] h 5 λx5 h =>
 tcomp x5 λc0=>vfin true q [c0] h)
 (vcall O (.v (.c (.func 304 []))) [x0] h 7 λx7 h =>
 tcomp x7 λc0=>vfin true q [c0] h)
theorem e295_0(O R q x0 h):b295_0 O R q x0 h=stepF c295 O R q 0 [x0] h:=by kernel_rfl
def d295:BlkF:=λO R Q=>[.s λa => .z (b295_0 O R Q a)]
theorem o295(O:Oracle)(R:Jump)(q:Nat):HoldsAll c295 O R q 0 (d295 O R q):=⟨e295_0 O R q,trivial⟩
def c302:MFunc:=mkM (compF Tryz.prog (globs2 tabs opq) (λ_=>false) true Tryz.f302) (.s .n (.s .n (.s (.s .n (.k (.l 1 [0,4,5] .n))) (.m 2 [0,4] (.s .n (.s (.s .n (.k (.l 3 [4,6,7,8] (.s .n (.s (.k (.s .n (.m 4 [4,6,7,8] .n))) .n))))) .n))))))
def b302_0(O:Oracle)(R:Jump)(q:Nat)(x0:TVal)(h:Heap):Res1 :=
 R 1 [x0,(.v (.c (.p (.int .u32 0)))),(kI 0)] h
theorem e302_0(O R q x0 h):b302_0 O R q x0 h=stepF c302 O R q 0 [x0] h:=by kernel_rfl
def b302_1(O:Oracle)(R:Jump)(q:Nat)(x0 x4 x5:TVal)(h:Heap):Res1 :=
 vlen O 0 x0 h 11 λx11 h =>
 vbin .lss 0 x5 x11 h λx12 h =>
 vif x12 (
 vbin .mul 0 x4 (.v (.c (.p (.int .u32 16777619)))) h λx16 h =>
 vindex x0 x5 h λx19 h =>
 vtoInt .u32 x19 h λx20 h =>
 vbin .add 0 x16 x20 h λx21 h =>
 vbin .add 0 x5 (kI 1) h λx14 h =>
 R 1 [x0,x21,x14] h)
 (R 2 [x0,x4] h)
theorem e302_1(O R q x0 x4 x5 h):b302_1 O R q x0 x4 x5 h=stepF c302 O R q 1 [x0,x4,x5] h:=by kernel_rfl
def b302_2(O:Oracle)(R:Jump)(q:Nat)(x0 x4:TVal)(h:Heap):Res1 :=
 vlen O 0 x0 h 23 λx23 h =>
 R 3 [x4,(.v (.c (.p (.int .u32 1)))),(.v (.c (.p (.int .u32 16777619)))),x23] h
theorem e302_2(O R q x0 x4 h):b302_2 O R q x0 x4 h=stepF c302 O R q 2 [x0,x4] h:=by kernel_rfl
def b302_3(O:Oracle)(R:Jump)(q:Nat)(x4 x6 x7 x8:TVal)(h:Heap):Res1 :=
 vbin .gtr 0 x8 (kI 0) h λx25 h =>
 vif x25 (
 vbin .and 0 x8 (kI 1) h λx29 h =>
 vbin .neq 0 x29 (kI 0) h λx30 h =>
 vif x30 (
 vbin .mul 0 x6 x7 h λx33 h =>
 R 4 [x4,x33,x7,x8] h)
 (R 4 [x4,x6,x7,x8] h))
 (tcomp x4 λc0=>tcomp x6 λc1=>vfin true q [c0,c1] h)
theorem e302_3(O R q x4 x6 x7 x8 h):b302_3 O R q x4 x6 x7 x8 h=stepF c302 O R q 3 [x4,x6,x7,x8] h:=by kernel_rfl
def b302_4(O:Oracle)(R:Jump)(q:Nat)(x4 x6 x7 x8:TVal)(h:Heap):Res1 :=
 vbin .mul 0 x7 x7 h λx36 h =>
 vbin .shr 0 x8 (.v (.c (.p (.int .u64 1)))) h λx27 h =>
 R 3 [x4,x6,x36,x27] h
theorem e302_4(O R q x4 x6 x7 x8 h):b302_4 O R q x4 x6 x7 x8 h=stepF c302 O R q 4 [x4,x6,x7,x8] h:=by kernel_rfl
def d302:BlkF:=λO R Q=>[.s λa => .z (b302_0 O R Q a),.s λa => .s λb => .s λc => .z (b302_1 O R Q a b c),.s λa => .s λb => .z (b302_2 O R Q a b),.s λa => .s λb => .s λc => .s λd => .z (b302_3 O R Q a b c d),.s λa => .s λb => .s λc => .s λd => .z (b302_4 O R Q a b c d)]
theorem o302(O:Oracle)(R:Jump)(q:Nat):HoldsAll c302 O R q 0 (d302 O R q):=⟨e302_0 O R q,e302_1 O R q,e302_2 O R q,e302_3 O R q,e302_4 O R q,trivial⟩
def c303:MFunc:=mkM (compF Tryz.prog (globs2 tabs opq) (λ_=>false) true Tryz.f303) .n
def b303_0(O:Oracle)(R:Jump)(q:Nat)(x0:TVal)(h:Heap):Res1 :=
 vbin .eql 0 x0 (.v (.c (.p (.int .u32 0)))) h λx4 h =>
 vif x4 (
 tcomp (kI 32) λc0=>vfin true q [c0] h)
 (vop O (.un .neg (.k x0)) h 7 λx7 h =>
 vbin .and 0 x0 x7 h λx8 h =>
 vbin .mul 0 x8 (.v (.c (.p (.int .u32 125613361)))) h λx9 h =>
 vbin .shr 0 x9 (.v (.c (.p (.int .u64 27)))) h λx10 h =>
 vop O (.iaddrA 32 1 (.k (.v (.c (.p (.pptr [(.int .u8 0),(.int .u8 1),(.int .u8 28),(.int .u8 2),(.int .u8 29),(.int .u8 14),(.int .u8 24),(.int .u8 3),(.int .u8 30),(.int .u8 22),(.int .u8 20),(.int .u8 15),(.int .u8 25),(.int .u8 17),(.int .u8 4),(.int .u8 8),(.int .u8 31),(.int .u8 27),(.int .u8 13),(.int .u8 23),(.int .u8 21),(.int .u8 19),(.int .u8 16),(.int .u8 7),(.int .u8 26),(.int .u8 12),(.int .u8 18),(.int .u8 6),(.int .u8 11),(.int .u8 5),(.int .u8 10),(.int .u8 9)] 0))))) (.k x10)) h 11 λx11 h =>
 vload false 1 x11 h λx12 h =>
 vtoInt .i64 x12 h λx13 h =>
 tcomp x13 λc0=>vfin true q [c0] h)
theorem e303_0(O R q x0 h):b303_0 O R q x0 h=stepF c303 O R q 0 [x0] h:=by kernel_rfl
def d303:BlkF:=λO R Q=>[.s λa => .z (b303_0 O R Q a)]
theorem o303(O:Oracle)(R:Jump)(q:Nat):HoldsAll c303 O R q 0 (d303 O R q):=⟨e303_0 O R q,trivial⟩
def c304:MFunc:=mkM (compF Tryz.prog (globs2 tabs opq) (λ_=>false) true Tryz.f304) .n
def b304_0(O:Oracle)(R:Jump)(q:Nat)(x0:TVal)(h:Heap):Res1 :=
 vbin .eql 0 x0 (.v (.c (.p (.int .u64 0)))) h λx4 h =>
 vif x4 (
 tcomp (kI 64) λc0=>vfin true q [c0] h)
 (vop O (.un .neg (.k x0)) h 7 λx7 h =>
 vbin .and 0 x0 x7 h λx8 h =>
 vbin .mul 0 x8 (.v (.c (.p (.int .u64 285870213051353865)))) h λx9 h =>
 vbin .shr 0 x9 (.v (.c (.p (.int .u64 58)))) h λx10 h =>
 vop O (.iaddrA 64 1 (.k (.v (.c (.p (.pptr [(.int .u8 0),(.int .u8 1),(.int .u8 56),(.int .u8 2),(.int .u8 57),(.int .u8 49),(.int .u8 28),(.int .u8 3),(.int .u8 61),(.int .u8 58),(.int .u8 42),(.int .u8 50),(.int .u8 38),(.int .u8 29),(.int .u8 17),(.int .u8 4),(.int .u8 62),(.int .u8 47),(.int .u8 59),(.int .u8 36),(.int .u8 45),(.int .u8 43),(.int .u8 51),(.int .u8 22),(.int .u8 53),(.int .u8 39),(.int .u8 33),(.int .u8 30),(.int .u8 24),(.int .u8 18),(.int .u8 12),(.int .u8 5),(.int .u8 63),(.int .u8 55),(.int .u8 48),(.int .u8 27),(.int .u8 60),(.int .u8 41),(.int .u8 37),(.int .u8 16),(.int .u8 46),(.int .u8 35),(.int .u8 44),(.int .u8 21),(.int .u8 52),(.int .u8 32),(.int .u8 23),(.int .u8 11),(.int .u8 54),(.int .u8 26),(.int .u8 40),(.int .u8 15),(.int .u8 34),(.int .u8 20),(.int .u8 31),(.int .u8 10),(.int .u8 25),(.int .u8 14),(.int .u8 19),(.int .u8 9),(.int .u8 13),(.int .u8 8),(.int .u8 7),(.int .u8 6)] 0))))) (.k x10)) h 11 λx11 h =>
 vload false 1 x11 h λx12 h =>
 vtoInt .i64 x12 h λx13 h =>
 tcomp x13 λc0=>vfin true q [c0] h)
theorem e304_0(O R q x0 h):b304_0 O R q x0 h=stepF c304 O R q 0 [x0] h:=by kernel_rfl
def d304:BlkF:=λO R Q=>[.s λa => .z (b304_0 O R Q a)]
theorem o304(O:Oracle)(R:Jump)(q:Nat):HoldsAll c304 O R q 0 (d304 O R q):=⟨e304_0 O R q,trivial⟩
end
end Go.Proofs.YtnlmlcfipbnpgaaGreatDoor.Ab
