/- Functions of the given program as the abstract interpreter has them (part 1),printed by a program of our own; each is shown to be what 'compF' makes of the given program's. No condition. -/
import Derived.Test.YtlkejchbcchecaaGreatDoorTabN0
namespace Go.Proofs.YtlkejchbcchecaaGreatDoor.Ab
open Go Go.AI
noncomputable section
set_option linter.all false
set_option linter.unusedVariables false
set_option maxRecDepth 100000
def c76:MFunc:=mkM (compF Tryz.prog (globs2 tabs opq) (fun _=>false) true Tryz.f76) (.s .n (.s .n (.s .n (.s (.k (.l 1 [0,1,6] (.s .n (.k (.s .n (.s .n (.s .n (.s (.s .n (.k (.s .n (.m 2 [0,1,6,46,47] .n)))) (.m 3 [0,1,6] .n))))))))) .n))))
def b76_0(O:Oracle)(R:Jump)(q:Nat)(x0 x1:TVal)(h:Heap):Res1 :=
 vbin .add 0 x1 (kI 1) h fun x9 h =>
 R 1 [x0,x9,(kS [])] h
theorem e76_0(O:Oracle)(R:Jump)(q:Nat)(x0 x1:TVal)(h:Heap):b76_0 O R q x0 x1 h=stepF c76 O R q 0 [x0,x1] h:=by kernel_rfl
def b76_1(O:Oracle)(R:Jump)(q:Nat)(x0 x1 x6:TVal)(h:Heap):Res1 :=
 vlen O 0 x0 h 12 fun x12 h =>
 vbin .lss 0 x1 x12 h fun x13 h =>
 vif x13 (
 vindex x0 x1 h fun x16 h =>
 vbin .eql 0 x16 (.v (.c (.p (.int .u8 34)))) h fun x19 h =>
 vif x19 (
 vbin .add 0 x1 (kI 1) h fun x22 h =>
 tcomp x6 fun c0=>tcomp x22 fun c1=>vfin true q [c0,c1] h)
 (vbin .lss 0 x16 (.v (.c (.p (.int .u8 32)))) h fun x25 h =>
 vif x25 (
 tcomp (kS []) fun c0=>tcomp (kI (-1)) fun c1=>vfin true q [c0,c1] h)
 (vbin .neq 0 x16 (.v (.c (.p (.int .u8 92)))) h fun x28 h =>
 vif x28 (
 vbin .add 0 x1 (kI 1) h fun x33 h =>
 vop O (.slice 0 true (.k x0) (some (.k x1)) (some (.k x33)) none) h 34 fun x34 h =>
 vbin .add 0 x6 x34 h fun x35 h =>
 vbin .add 0 x1 (kI 1) h fun x37 h =>
 R 1 [x0,x37,x35] h)
 (vbin .add 0 x1 (kI 1) h fun x39 h =>
 vlen O 0 x0 h 41 fun x41 h =>
 vbin .geq 0 x39 x41 h fun x42 h =>
 vif x42 (
 tcomp (kS []) fun c0=>tcomp (kI (-1)) fun c1=>vfin true q [c0,c1] h)
 (vbin .add 0 x1 (kI 1) h fun x45 h =>
 vindex x0 x45 h fun x46 h =>
 vbin .eql 0 x46 (.v (.c (.p (.int .u8 92)))) h fun x48 h =>
 vif x48 (
 R 2 [x0,x1,x6,x46,x48] h)
 (vbin .eql 0 x46 (.v (.c (.p (.int .u8 34)))) h fun x49 h =>
 R 2 [x0,x1,x6,x46,x49] h))))))
 (tcomp (kS []) fun c0=>tcomp (kI (-1)) fun c1=>vfin true q [c0,c1] h)
theorem e76_1(O:Oracle)(R:Jump)(q:Nat)(x0 x1 x6:TVal)(h:Heap):b76_1 O R q x0 x1 x6 h=stepF c76 O R q 1 [x0,x1,x6] h:=by kernel_rfl
def b76_2(O:Oracle)(R:Jump)(q:Nat)(x0 x1 x6 x46 x47:TVal)(h:Heap):Res1 :=
 vif x47 (
 vbin .add 0 x1 (kI 1) h fun x53 h =>
 vbin .add 0 x1 (kI 2) h fun x55 h =>
 vop O (.slice 0 true (.k x0) (some (.k x53)) (some (.k x55)) none) h 56 fun x56 h =>
 vbin .add 0 x6 x56 h fun x57 h =>
 R 3 [x0,x1,x57] h)
 (vbin .eql 0 x46 (.v (.c (.p (.int .u8 110)))) h fun x59 h =>
 vif x59 (
 vbin .add 0 x6 (kS [10]) h fun x61 h =>
 R 3 [x0,x1,x61] h)
 (vbin .eql 0 x46 (.v (.c (.p (.int .u8 116)))) h fun x63 h =>
 vif x63 (
 vbin .add 0 x6 (kS [9]) h fun x65 h =>
 R 3 [x0,x1,x65] h)
 (tcomp (kS []) fun c0=>tcomp (kI (-1)) fun c1=>vfin true q [c0,c1] h)))
theorem e76_2(O:Oracle)(R:Jump)(q:Nat)(x0 x1 x6 x46 x47:TVal)(h:Heap):b76_2 O R q x0 x1 x6 x46 x47 h=stepF c76 O R q 2 [x0,x1,x6,x46,x47] h:=by kernel_rfl
def b76_3(O:Oracle)(R:Jump)(q:Nat)(x0 x1 x6:TVal)(h:Heap):Res1 :=
 vbin .add 0 x1 (kI 2) h fun x67 h =>
 R 1 [x0,x67,x6] h
theorem e76_3(O:Oracle)(R:Jump)(q:Nat)(x0 x1 x6:TVal)(h:Heap):b76_3 O R q x0 x1 x6 h=stepF c76 O R q 3 [x0,x1,x6] h:=by kernel_rfl
def d76:BlkF:=fun O R Q=>[.s fun a => .s fun b => .z (b76_0 O R Q a b),.s fun a => .s fun b => .s fun c => .z (b76_1 O R Q a b c),.s fun a => .s fun b => .s fun c => .s fun d => .s fun e => .z (b76_2 O R Q a b c d e),.s fun a => .s fun b => .s fun c => .z (b76_3 O R Q a b c)]
theorem o76(O:Oracle)(R:Jump)(q:Nat):HoldsAll c76 O R q 0 (d76 O R q):=⟨e76_0 O R q,e76_1 O R q,e76_2 O R q,e76_3 O R q,trivial⟩
def c77:MFunc:=mkM (compF Tryz.prog (globs2 tabs opq) (fun _=>false) true Tryz.f77) (.s .n (.s .n (.s .n (.s .n (.s .n (.s .n (.m 1 [4,8] .n)))))))
def b77_0(O:Oracle)(R:Jump)(q:Nat)(x0 x1:TVal)(h:Heap):Res1 :=
 vop O (.alloc [(.p (.int .i64 0)),(.p (.str [])),(.p .nilslice),(.p (.str [])),(.p (.int .i64 0)),(.p (.bool false)),(.p .nilslice)] false) h 4 fun x4 h =>
 vcall O (.v (.c (.func 78 []))) [x0] h 10 fun x10 h =>
 vop O (.un .not (.k x10)) h 11 fun x11 h =>
 vif x11 (
 vcall O (.v (.c (.func 50 []))) [x0,(kI 12)] h 13 fun x13 h =>
 vop O (.build [(.p (.int .i64 0)),(.p (.str [])),(.p .nilslice),(.p (.str [])),(.p (.int .i64 0)),(.p (.bool false)),(.p .nilslice)] []) h 14 fun x14 h =>
 vstore 7 x4 x14 h fun _ h =>
 vcell true 7 x4 h fun c0=>vfin true q [c0] h)
 (vtouch O (.mv (.k x0)) h 15 fun x15 h t0 =>
 vtouch O (.nilck (.k x15)) h 16 fun x16 h t1 =>
 vtouch O (.faddr 0 (.k x16)) h 17 fun x17 h t2 =>
 vtouch O (.load false 1 (.k x17)) h 18 fun x18 h t3 =>
 vtouch O (.mv (.k x0)) h 19 fun x19 h t4 =>
 vtouch O (.nilck (.k x19)) h 20 fun x20 h t5 =>
 vtouch O (.faddr 1 (.k x20)) h 21 fun x21 h t6 =>
 vtouch O (.load false 1 (.k x21)) h 22 fun x22 h t7 =>
 vtouch O (.iaddr 4 (.k x18) (.k x22)) h 23 fun x23 h t8 =>
 vtouch O (.load true 4 (.k x23)) h 24 fun x24 h t9 =>
 vtouch O (.alloc [(.p (.int .i64 0)),(.p (.str [])),(.p (.int .i64 0)),(.p (.int .i64 0))] false) h 5 fun x5 h t10 =>
 vtouch O (.store 4 (.k x5) (.k x24)) h 1000000 fun _ h t11 =>
 bif apartAll [t0,t1,t2,t3,t4,t5,t6,t7,t8,t9,t10,t11] [(3,10),(7,10),(9,10)] then
 vfaddr 0 x5 h fun x26 h =>
 vload false 1 x26 h fun x27 h =>
 vbin .eql 0 x27 (kI 2) h fun x28 h =>
 vif x28 (
 vop O (.nilck (.k x0)) h 30 fun x30 h =>
 vfaddr 1 x30 h fun x31 h =>
 vload false 1 x31 h fun x32 h =>
 vbin .add 0 x32 (kI 1) h fun x33 h =>
 vop O (.nilck (.k x0)) h 34 fun x34 h =>
 vfaddr 1 x34 h fun x35 h =>
 vstore 1 x35 x33 h fun _ h =>
 vfaddr 1 x5 h fun x36 h =>
 vload false 1 x36 h fun x37 h =>
 vop O (.build [(.p (.int .i64 0)),(.p (.str [])),(.p .nilslice),(.p (.str [])),(.p (.int .i64 0)),(.p (.bool false)),(.p .nilslice)] [(0,1,(.k (kI 2))),(3,1,(.k x37))]) h 38 fun x38 h =>
 vstore 7 x4 x38 h fun _ h =>
 vcell true 7 x4 h fun c0=>vfin true q [c0] h)
 (vfaddr 0 x5 h fun x40 h =>
 vload false 1 x40 h fun x41 h =>
 vbin .eql 0 x41 (kI 3) h fun x42 h =>
 vif x42 (
 vop O (.nilck (.k x0)) h 44 fun x44 h =>
 vfaddr 1 x44 h fun x45 h =>
 vload false 1 x45 h fun x46 h =>
 vbin .add 0 x46 (kI 1) h fun x47 h =>
 vop O (.nilck (.k x0)) h 48 fun x48 h =>
 vfaddr 1 x48 h fun x49 h =>
 vstore 1 x49 x47 h fun _ h =>
 vfaddr 2 x5 h fun x50 h =>
 vload false 1 x50 h fun x51 h =>
 vop O (.build [(.p (.int .i64 0)),(.p (.str [])),(.p .nilslice),(.p (.str [])),(.p (.int .i64 0)),(.p (.bool false)),(.p .nilslice)] [(0,1,(.k (kI 3))),(4,1,(.k x51))]) h 52 fun x52 h =>
 vstore 7 x4 x52 h fun _ h =>
 vcell true 7 x4 h fun c0=>vfin true q [c0] h)
 (vfaddr 0 x5 h fun x54 h =>
 vload false 1 x54 h fun x55 h =>
 vbin .eql 0 x55 (kI 1) h fun x56 h =>
 vif x56 (
 vop O (.nilck (.k x0)) h 58 fun x58 h =>
 vfaddr 1 x58 h fun x59 h =>
 vload false 1 x59 h fun x60 h =>
 vbin .add 0 x60 (kI 1) h fun x61 h =>
 vop O (.nilck (.k x0)) h 62 fun x62 h =>
 vfaddr 1 x62 h fun x63 h =>
 vstore 1 x63 x61 h fun _ h =>
 vfaddr 1 x5 h fun x64 h =>
 vload false 1 x64 h fun x65 h =>
 vbin .eql 0 x65 (kS [116,114,117,101]) h fun x66 h =>
 vop O (.build [(.p (.int .i64 0)),(.p (.str [])),(.p .nilslice),(.p (.str [])),(.p (.int .i64 0)),(.p (.bool false)),(.p .nilslice)] [(0,1,(.k (kI 4))),(5,1,(.k x66))]) h 67 fun x67 h =>
 vstore 7 x4 x67 h fun _ h =>
 vcell true 7 x4 h fun c0=>vfin true q [c0] h)
 (vfaddr 1 x5 h fun x69 h =>
 vload false 1 x69 h fun x70 h =>
 vbin .eql 0 x70 (kS [36]) h fun x71 h =>
 vif x71 (
 vop O (.nilck (.k x0)) h 73 fun x73 h =>
 vfaddr 1 x73 h fun x74 h =>
 vload false 1 x74 h fun x75 h =>
 vbin .add 0 x75 (kI 1) h fun x76 h =>
 vop O (.nilck (.k x0)) h 77 fun x77 h =>
 vfaddr 1 x77 h fun x78 h =>
 vstore 1 x78 x76 h fun _ h =>
 vcall O (.v (.c (.func 30 []))) [x0,(kI 1)] h 80 fun x80 h =>
 vop O (.alloc [(.p (.int .i64 0)),(.p (.str [])),(.p (.int .i64 0)),(.p (.int .i64 0))] false) h 6 fun x6 h =>
 vstore 4 x6 x80 h fun _ h =>
 vtouch O (.faddr 1 (.k x6)) h 81 fun x81 h t0 =>
 vtouch O (.load false 1 (.k x81)) h 82 fun x82 h t1 =>
 vtouch O (.mv (.k x0)) h 83 fun x83 h t2 =>
 vtouch O (.faddr 3 (.k x6)) h 84 fun x84 h t3 =>
 vtouch O (.load false 1 (.k x84)) h 85 fun x85 h t4 =>
 vtouch O (.faddr 1 (.k x6)) h 86 fun x86 h t5 =>
 vtouch O (.load false 1 (.k x86)) h 87 fun x87 h t6 =>
 vtouch O (.len 0 (.k x87)) h 88 fun x88 h t7 =>
 vtouch O (.bin .add 0 (.k x85) (.k x88)) h 89 fun x89 h t8 =>
 vtouch O (.call (.k (.v (.c (.func 89 [])))) [(.k x83),(.k x89)]) h 90 fun x90 h t9 =>
 vtouch O (.build [(.p (.int .i64 0)),(.p (.str [])),(.p .nilslice),(.p (.str [])),(.p (.int .i64 0)),(.p (.bool false)),(.p .nilslice)] [(0,1,(.k (kI 1))),(1,1,(.k x82)),(2,1,(.k x90))]) h 91 fun x91 h t10 =>
 vtouch O (.store 7 (.k x4) (.k x91)) h 1000000 fun _ h t11 =>
 bif apartAll [t0,t1,t2,t3,t4,t5,t6,t7,t8,t9,t10,t11] [(1,9)] then
 vcell true 7 x4 h fun c0=>vfin true q [c0] h
 else none)
 (vfaddr 1 x5 h fun x93 h =>
 vload false 1 x93 h fun x94 h =>
 vbin .eql 0 x94 (kS [40]) h fun x95 h =>
 vif x95 (
 vbin .add 0 x1 (kI 1) h fun x97 h =>
 vbin .gtr 0 x97 (kI 12) h fun x98 h =>
 vif x98 (
 vcall O (.v (.c (.func 50 []))) [x0,(kI 13)] h 100 fun x100 h =>
 vop O (.build [(.p (.int .i64 0)),(.p (.str [])),(.p .nilslice),(.p (.str [])),(.p (.int .i64 0)),(.p (.bool false)),(.p .nilslice)] []) h 101 fun x101 h =>
 vstore 7 x4 x101 h fun _ h =>
 vcell true 7 x4 h fun c0=>vfin true q [c0] h)
 (vop O (.nilck (.k x0)) h 103 fun x103 h =>
 vfaddr 1 x103 h fun x104 h =>
 vload false 1 x104 h fun x105 h =>
 vbin .add 0 x105 (kI 1) h fun x106 h =>
 vop O (.nilck (.k x0)) h 107 fun x107 h =>
 vfaddr 1 x107 h fun x108 h =>
 vstore 1 x108 x106 h fun _ h =>
 vbin .add 0 x1 (kI 1) h fun x111 h =>
 vcall O (.v (.c (.func 29 []))) [x0,x111] h 112 fun x112 h =>
 vcall O (.v (.c (.func 90 []))) [x0,(kS [41])] h 114 fun x114 h =>
 vop O (.build [(.p (.int .i64 0)),(.p (.str [])),(.p .nilslice),(.p (.str [])),(.p (.int .i64 0)),(.p (.bool false)),(.p .nilslice)] [(0,1,(.k (kI 5))),(6,1,(.k x112))]) h 116 fun x116 h =>
 vstore 7 x4 x116 h fun _ h =>
 vcell true 7 x4 h fun c0=>vfin true q [c0] h))
 (vcall O (.v (.c (.func 89 []))) [x0,(kI (-1))] h 118 fun x118 h =>
 vlen O 2 x118 h 120 fun x120 h =>
 vbin .eql 0 x120 (kI 0) h fun x121 h =>
 vif x121 (
 vop O (.nilck (.k x0)) h 123 fun x123 h =>
 vfaddr 1 x123 h fun x124 h =>
 vload false 1 x124 h fun x125 h =>
 vbin .add 0 x125 (kI 1) h fun x126 h =>
 vop O (.nilck (.k x0)) h 127 fun x127 h =>
 vfaddr 1 x127 h fun x128 h =>
 vstore 1 x128 x126 h fun _ h =>
 R 1 [x4,x118] h)
 (R 1 [x4,x118] h))))))
 else none)
theorem e77_0(O:Oracle)(R:Jump)(q:Nat)(x0 x1:TVal)(h:Heap):b77_0 O R q x0 x1 h=stepF c77 O R q 0 [x0,x1] h:=by kernel_rfl
def b77_1(O:Oracle)(R:Jump)(q:Nat)(x4 x8:TVal)(h:Heap):Res1 :=
 vop O (.build [(.p (.int .i64 0)),(.p (.str [])),(.p .nilslice),(.p (.str [])),(.p (.int .i64 0)),(.p (.bool false)),(.p .nilslice)] [(0,1,(.k (kI 1))),(2,1,(.k x8))]) h 130 fun x130 h =>
 vstore 7 x4 x130 h fun _ h =>
 vcell true 7 x4 h fun c0=>vfin true q [c0] h
theorem e77_1(O:Oracle)(R:Jump)(q:Nat)(x4 x8:TVal)(h:Heap):b77_1 O R q x4 x8 h=stepF c77 O R q 1 [x4,x8] h:=by kernel_rfl
def d77:BlkF:=fun O R Q=>[.s fun a => .s fun b => .z (b77_0 O R Q a b),.s fun a => .s fun b => .z (b77_1 O R Q a b)]
theorem o77(O:Oracle)(R:Jump)(q:Nat):HoldsAll c77 O R q 0 (d77 O R q):=⟨e77_0 O R q,e77_1 O R q,trivial⟩
def c78:MFunc:=mkM (compF Tryz.prog (globs2 tabs opq) (fun _=>false) true Tryz.f78) .n
def b78_0(O:Oracle)(R:Jump)(q:Nat)(x0:TVal)(h:Heap):Res1 :=
 vcall O (.v (.c (.func 26 []))) [x0,(kI 2)] h 4 fun x4 h =>
 vguard x4 false (fun kk=>kk x0 h) h fun x6 h =>
 vguard x4 false (fun kk=>vcall O (.v (.c (.func 26 []))) [x6,(kI 3)] h 7 kk) h fun x7 h =>
 vop O (.pick (.k x4) (.k (kB true)) (.k x7)) h 8 fun x8 h =>
 vguard x8 false (fun kk=>kk x0 h) h fun x10 h =>
 vguard x8 false (fun kk=>vcall O (.v (.c (.func 31 []))) [x10,(kS [46])] h 11 kk) h fun x11 h =>
 vop O (.pick (.k x8) (.k (kB true)) (.k x11)) h 12 fun x12 h =>
 vguard x12 false (fun kk=>kk x0 h) h fun x14 h =>
 vguard x12 false (fun kk=>vcall O (.v (.c (.func 31 []))) [x14,(kS [36])] h 15 kk) h fun x15 h =>
 vop O (.pick (.k x12) (.k (kB true)) (.k x15)) h 16 fun x16 h =>
 vguard x16 false (fun kk=>kk x0 h) h fun x18 h =>
 vguard x16 false (fun kk=>vcall O (.v (.c (.func 31 []))) [x18,(kS [40])] h 19 kk) h fun x19 h =>
 vop O (.pick (.k x16) (.k (kB true)) (.k x19)) h 20 fun x20 h =>
 vguard x20 false (fun kk=>kk x0 h) h fun x22 h =>
 vguard x20 false (fun kk=>vcall O (.v (.c (.func 26 []))) [x22,(kI 1)] h 23 kk) h fun x23 h =>
 vguard x20 false (fun kk=>kk x23 h) h fun x24 h =>
 vguard x24 true (fun kk=>kk x0 h) h fun x25 h =>
 vguard x24 true (fun kk=>vop O (.nilck (.k x25)) h 26 kk) h fun x26 h =>
 vguard x24 true (fun kk=>vfaddr 0 x26 h kk) h fun x27 h =>
 vguard x24 true (fun kk=>vload false 1 x27 h kk) h fun x28 h =>
 vguard x24 true (fun kk=>kk x0 h) h fun x29 h =>
 vguard x24 true (fun kk=>vop O (.nilck (.k x29)) h 30 kk) h fun x30 h =>
 vguard x24 true (fun kk=>vfaddr 1 x30 h kk) h fun x31 h =>
 vguard x24 true (fun kk=>vload false 1 x31 h kk) h fun x32 h =>
 vguard x24 true (fun kk=>viaddr 4 x28 x32 h kk) h fun x33 h =>
 vguard x24 true (fun kk=>vfaddr 1 x33 h kk) h fun x34 h =>
 vguard x24 true (fun kk=>vload false 1 x34 h kk) h fun x35 h =>
 vguard x24 true (fun kk=>vbin .eql 0 x35 (kS [116,114,117,101]) h kk) h fun x36 h =>
 vguard x24 true (fun kk=>kk x36 h) h fun x37 h =>
 vguard x37 false (fun kk=>kk x0 h) h fun x38 h =>
 vguard x37 false (fun kk=>vop O (.nilck (.k x38)) h 39 kk) h fun x39 h =>
 vguard x37 false (fun kk=>vfaddr 0 x39 h kk) h fun x40 h =>
 vguard x37 false (fun kk=>vload false 1 x40 h kk) h fun x41 h =>
 vguard x37 false (fun kk=>kk x0 h) h fun x42 h =>
 vguard x37 false (fun kk=>vop O (.nilck (.k x42)) h 43 kk) h fun x43 h =>
 vguard x37 false (fun kk=>vfaddr 1 x43 h kk) h fun x44 h =>
 vguard x37 false (fun kk=>vload false 1 x44 h kk) h fun x45 h =>
 vguard x37 false (fun kk=>viaddr 4 x41 x45 h kk) h fun x46 h =>
 vguard x37 false (fun kk=>vfaddr 1 x46 h kk) h fun x47 h =>
 vguard x37 false (fun kk=>vload false 1 x47 h kk) h fun x48 h =>
 vguard x37 false (fun kk=>vbin .eql 0 x48 (kS [102,97,108,115,101]) h kk) h fun x49 h =>
 vguard x24 true (fun kk=>vop O (.pick (.k x37) (.k (kB true)) (.k x49)) h 50 kk) h fun x50 h =>
 vguard x20 false (fun kk=>vop O (.pick (.k x24) (.k x50) (.k (kB false))) h 51 kk) h fun x51 h =>
 vop O (.pick (.k x20) (.k (kB true)) (.k x51)) h 52 fun x52 h =>
 tcomp x52 fun c0=>vfin true q [c0] h
theorem e78_0(O:Oracle)(R:Jump)(q:Nat)(x0:TVal)(h:Heap):b78_0 O R q x0 h=stepF c78 O R q 0 [x0] h:=by kernel_rfl
def d78:BlkF:=fun O R Q=>[.s fun a => .z (b78_0 O R Q a)]
theorem o78(O:Oracle)(R:Jump)(q:Nat):HoldsAll c78 O R q 0 (d78 O R q):=⟨e78_0 O R q,trivial⟩
def c79:MFunc:=mkM (compF Tryz.prog (globs2 tabs opq) (fun _=>false) true Tryz.f79) (.s .n (.s .n (.s (.s .n (.k (.l 1 [0,3,5,6,8,10,17,18,19] .n))) (.m 2 [0,3,6,8,10] .n))))
def b79_0(O:Oracle)(R:Jump)(q:Nat)(x0 x1 x2 x3:TVal)(h:Heap):Res1 :=
 vop O (.box (.k x1) false) h 5 fun x5 h =>
 vop O (.box (.k x2) false) h 6 fun x6 h =>
 vop O (.alloc [(.p (.int .i64 0)),(.p (.bool false)),(.p (.int .i64 0)),(.p (.str [])),(.p .nilslice),(.p .nilslice)] false) h 8 fun x8 h =>
 vfaddr 0 x6 h fun x15 h =>
 vload false 1 x15 h fun x16 h =>
 vop O (.slice 7 false (.k x16) (some (.k (kI 1))) none none) h 17 fun x17 h =>
 vlen O 2 x17 h 18 fun x18 h =>
 R 1 [x0,x3,x5,x6,x8,(.v (.c (.p .nilslice))),x17,x18,(kI 0)] h
theorem e79_0(O:Oracle)(R:Jump)(q:Nat)(x0 x1 x2 x3:TVal)(h:Heap):b79_0 O R q x0 x1 x2 x3 h=stepF c79 O R q 0 [x0,x1,x2,x3] h:=by kernel_rfl
def b79_1(O:Oracle)(R:Jump)(q:Nat)(x0 x3 x5 x6 x8 x10 x17 x18 x19:TVal)(h:Heap):Res1 :=
 vbin .lss 0 x19 x18 h fun x20 h =>
 vif x20 (
 viaddr 7 x17 x19 h fun x21 h =>
 vload true 7 x21 h fun x22 h =>
 vop O (.alloc [(.p (.int .i64 0)),(.p (.str [])),(.p .nilslice),(.p (.str [])),(.p (.int .i64 0)),(.p (.bool false)),(.p .nilslice)] false) h 12 fun x12 h =>
 vstore 7 x12 x22 h fun _ h =>
 vload true 8 x5 h fun x25 h =>
 vload true 7 x12 h fun x26 h =>
 vcall O (.v (.c (.func 80 []))) [x0,x25,x26] h 27 fun x27 h =>
 vext x27 0 h fun x28 h =>
 vext x27 1 h fun x29 h =>
 vop O (.alloc [(.p (.int .i64 0)),(.p (.bool false)),(.p (.int .i64 0)),(.p (.str [])),(.p .nilslice),(.p .nilslice)] false) h 13 fun x13 h =>
 vstore 6 x13 x28 h fun _ h =>
 vbin .neq 0 x29 (kI 0) h fun x31 h =>
 vif x31 (
 vop O (.build [(.p (.int .i64 0)),(.p (.bool false)),(.p (.int .i64 0)),(.p (.str [])),(.p .nilslice),(.p .nilslice)] []) h 32 fun x32 h =>
 vstore 6 x8 x32 h fun _ h =>
 vcell true 6 x8 h fun c0=>tcomp x29 fun c1=>vfin true q [c0,c1] h)
 (vload true 6 x13 h fun x35 h =>
 vop O (.bslice 6 1 [(.p (.int .i64 0)),(.p (.bool false)),(.p (.int .i64 0)),(.p (.str [])),(.p .nilslice),(.p .nilslice)] [(0,(.k x35))] false) h 36 fun x36 h =>
 vop O (.append 6 88 false (.k x10) (.k x36)) h 37 fun x37 h =>
 vbin .add 0 x19 (kI 1) h fun x38 h =>
 R 1 [x0,x3,x5,x6,x8,x37,x17,x18,x38] h))
 (R 2 [x0,x3,x6,x8,x10] h)
theorem e79_1(O:Oracle)(R:Jump)(q:Nat)(x0 x3 x5 x6 x8 x10 x17 x18 x19:TVal)(h:Heap):b79_1 O R q x0 x3 x5 x6 x8 x10 x17 x18 x19 h=stepF c79 O R q 1 [x0,x3,x5,x6,x8,x10,x17,x18,x19] h:=by kernel_rfl
def b79_2(O:Oracle)(R:Jump)(q:Nat)(x0 x3 x6 x8 x10:TVal)(h:Heap):Res1 :=
 vop O (.append 6 88 false (.k x10) (.k x3)) h 41 fun x41 h =>
 vfaddr 0 x6 h fun x42 h =>
 vload false 1 x42 h fun x43 h =>
 viaddr 7 x43 (kI 0) h fun x44 h =>
 vfaddr 3 x44 h fun x45 h =>
 vload false 1 x45 h fun x46 h =>
 vcall O (.v (.c (.func 91 []))) [x46] h 47 fun x47 h =>
 vif x47 (
 vfaddr 0 x6 h fun x48 h =>
 vload false 1 x48 h fun x49 h =>
 viaddr 7 x49 (kI 0) h fun x50 h =>
 vfaddr 3 x50 h fun x51 h =>
 vload false 1 x51 h fun x52 h =>
 vcall O (.v (.c (.func 92 []))) [x52,x41] h 54 fun x54 h =>
 vext x54 0 h fun x55 h =>
 vext x54 1 h fun x56 h =>
 vstore 6 x8 x55 h fun _ h =>
 vcell true 6 x8 h fun c0=>tcomp x56 fun c1=>vfin true q [c0,c1] h)
 (vop O (.nilck (.k x0)) h 58 fun x58 h =>
 vfaddr 4 x58 h fun x59 h =>
 vload false 1 x59 h fun x60 h =>
 vfaddr 0 x6 h fun x61 h =>
 vload false 1 x61 h fun x62 h =>
 viaddr 7 x62 (kI 0) h fun x63 h =>
 vfaddr 3 x63 h fun x64 h =>
 vload false 1 x64 h fun x65 h =>
 vcall O (.v (.c (.func 93 []))) [x60,x65] h 66 fun x66 h =>
 vext x66 0 h fun x67 h =>
 vext x66 1 h fun x68 h =>
 vstore 6 x8 x67 h fun _ h =>
 vcell true 6 x8 h fun c0=>tcomp x68 fun c1=>vfin true q [c0,c1] h)
theorem e79_2(O:Oracle)(R:Jump)(q:Nat)(x0 x3 x6 x8 x10:TVal)(h:Heap):b79_2 O R q x0 x3 x6 x8 x10 h=stepF c79 O R q 2 [x0,x3,x6,x8,x10] h:=by kernel_rfl
def d79:BlkF:=fun O R Q=>[.s fun a => .s fun b => .s fun c => .s fun d => .z (b79_0 O R Q a b c d),.s fun a => .s fun b => .s fun c => .s fun d => .s fun e => .s fun f => .s fun g => .s fun h => .s fun i => .z (b79_1 O R Q a b c d e f g h i),.s fun a => .s fun b => .s fun c => .s fun d => .s fun e => .z (b79_2 O R Q a b c d e)]
theorem o79(O:Oracle)(R:Jump)(q:Nat):HoldsAll c79 O R q 0 (d79 O R q):=⟨e79_0 O R q,e79_1 O R q,e79_2 O R q,trivial⟩
def c80:MFunc:=mkM (compF Tryz.prog (globs2 tabs opq) (fun _=>false) true Tryz.f80) .n
def b80_0(O:Oracle)(R:Jump)(q:Nat)(x0 x1 x2:TVal)(h:Heap):Res1 :=
 vop O (.box (.k x1) false) h 4 fun x4 h =>
 vop O (.box (.k x2) false) h 5 fun x5 h =>
 vop O (.alloc [(.p (.int .i64 0)),(.p (.bool false)),(.p (.int .i64 0)),(.p (.str [])),(.p .nilslice),(.p .nilslice)] false) h 6 fun x6 h =>
 vfaddr 0 x5 h fun x8 h =>
 vload false 1 x8 h fun x9 h =>
 vbin .eql 0 x9 (kI 2) h fun x11 h =>
 vif x11 (
 vfaddr 3 x5 h fun x12 h =>
 vload false 1 x12 h fun x13 h =>
 vop O (.build [(.p (.int .i64 0)),(.p (.bool false)),(.p (.int .i64 0)),(.p (.str [])),(.p .nilslice),(.p .nilslice)] [(0,1,(.k (kI 3))),(3,1,(.k x13))]) h 14 fun x14 h =>
 vstore 6 x6 x14 h fun _ h =>
 vcell true 6 x6 h fun c0=>tcomp (kI 0) fun c1=>vfin true q [c0,c1] h)
 (vbin .eql 0 x9 (kI 3) h fun x16 h =>
 vif x16 (
 vfaddr 4 x5 h fun x17 h =>
 vload false 1 x17 h fun x18 h =>
 vop O (.build [(.p (.int .i64 0)),(.p (.bool false)),(.p (.int .i64 0)),(.p (.str [])),(.p .nilslice),(.p .nilslice)] [(0,1,(.k (kI 2))),(2,1,(.k x18))]) h 19 fun x19 h =>
 vstore 6 x6 x19 h fun _ h =>
 vcell true 6 x6 h fun c0=>tcomp (kI 0) fun c1=>vfin true q [c0,c1] h)
 (vbin .eql 0 x9 (kI 4) h fun x21 h =>
 vif x21 (
 vfaddr 5 x5 h fun x22 h =>
 vload false 1 x22 h fun x23 h =>
 vop O (.build [(.p (.int .i64 0)),(.p (.bool false)),(.p (.int .i64 0)),(.p (.str [])),(.p .nilslice),(.p .nilslice)] [(0,1,(.k (kI 1))),(1,1,(.k x23))]) h 24 fun x24 h =>
 vstore 6 x6 x24 h fun _ h =>
 vcell true 6 x6 h fun c0=>tcomp (kI 0) fun c1=>vfin true q [c0,c1] h)
 (vbin .eql 0 x9 (kI 5) h fun x26 h =>
 vif x26 (
 vload true 8 x4 h fun x28 h =>
 vfaddr 6 x5 h fun x29 h =>
 vload false 1 x29 h fun x30 h =>
 vcall O (.v (.c (.func 38 []))) [x0,x28,x30] h 31 fun x31 h =>
 vext x31 0 h fun x32 h =>
 vext x31 1 h fun x33 h =>
 vstore 6 x6 x32 h fun _ h =>
 vcell true 6 x6 h fun c0=>tcomp x33 fun c1=>vfin true q [c0,c1] h)
 (vload true 8 x4 h fun x34 h =>
 vload true 7 x5 h fun x35 h =>
 vcall O (.v (.c (.func 94 []))) [x34,x35] h 36 fun x36 h =>
 vext x36 0 h fun x37 h =>
 vext x36 1 h fun x38 h =>
 vstore 6 x6 x37 h fun _ h =>
 vcell true 6 x6 h fun c0=>tcomp x38 fun c1=>vfin true q [c0,c1] h))))
theorem e80_0(O:Oracle)(R:Jump)(q:Nat)(x0 x1 x2:TVal)(h:Heap):b80_0 O R q x0 x1 x2 h=stepF c80 O R q 0 [x0,x1,x2] h:=by kernel_rfl
def d80:BlkF:=fun O R Q=>[.s fun a => .s fun b => .s fun c => .z (b80_0 O R Q a b c)]
theorem o80(O:Oracle)(R:Jump)(q:Nat):HoldsAll c80 O R q 0 (d80 O R q):=⟨e80_0 O R q,trivial⟩
def c82:MFunc:=mkM (compF Tryz.prog (globs2 tabs opq) (fun _=>false) true Tryz.f82) .n
def b82_0(O:Oracle)(R:Jump)(q:Nat)(x0 x1:TVal)(h:Heap):Res1 :=
 vcall O (.v (.c (.func 96 []))) [x0,x1] h 7 fun x7 h =>
 tcomp x7 fun c0=>vfin true q [c0] h
theorem e82_0(O:Oracle)(R:Jump)(q:Nat)(x0 x1:TVal)(h:Heap):b82_0 O R q x0 x1 h=stepF c82 O R q 0 [x0,x1] h:=by kernel_rfl
def d82:BlkF:=fun O R Q=>[.s fun a => .s fun b => .z (b82_0 O R Q a b)]
theorem o82(O:Oracle)(R:Jump)(q:Nat):HoldsAll c82 O R q 0 (d82 O R q):=⟨e82_0 O R q,trivial⟩
def c84:MFunc:=mkM (compF Tryz.prog (globs2 tabs opq) (fun _=>false) true Tryz.f84) (.s .n (.s (.s .n (.k (.l 1 [0,1,7,8] .n))) .n))
def b84_0(O:Oracle)(R:Jump)(q:Nat)(x0 x1:TVal)(h:Heap):Res1 :=
 vlen O 2 x0 h 7 fun x7 h =>
 R 1 [x0,x1,x7,(kI 0)] h
theorem e84_0(O:Oracle)(R:Jump)(q:Nat)(x0 x1:TVal)(h:Heap):b84_0 O R q x0 x1 h=stepF c84 O R q 0 [x0,x1] h:=by kernel_rfl
def b84_1(O:Oracle)(R:Jump)(q:Nat)(x0 x1 x7 x8:TVal)(h:Heap):Res1 :=
 vbin .lss 0 x8 x7 h fun x9 h =>
 vif x9 (
 viaddr 2 x0 x8 h fun x14 h =>
 vload true 2 x14 h fun x15 h =>
 vcall O x1 [x15] h 16 fun x16 h =>
 vif x16 (
 tcomp x8 fun c0=>vfin true q [c0] h)
 (vbin .add 0 x8 (kI 1) h fun x18 h =>
 R 1 [x0,x1,x7,x18] h))
 (tcomp (kI (-1)) fun c0=>vfin true q [c0] h)
theorem e84_1(O:Oracle)(R:Jump)(q:Nat)(x0 x1 x7 x8:TVal)(h:Heap):b84_1 O R q x0 x1 x7 x8 h=stepF c84 O R q 1 [x0,x1,x7,x8] h:=by kernel_rfl
def d84:BlkF:=fun O R Q=>[.s fun a => .s fun b => .z (b84_0 O R Q a b),.s fun a => .s fun b => .s fun c => .s fun d => .z (b84_1 O R Q a b c d)]
theorem o84(O:Oracle)(R:Jump)(q:Nat):HoldsAll c84 O R q 0 (d84 O R q):=⟨e84_0 O R q,e84_1 O R q,trivial⟩
def c85:MFunc:=mkM (compF Tryz.prog (globs2 tabs opq) (fun _=>false) true Tryz.f85) .n
def b85_0(O:Oracle)(R:Jump)(q:Nat)(x0 x1:TVal)(h:Heap):Res1 :=
 vop O (.box (.k x0) false) h 2 fun x2 h =>
 vfaddr 0 x2 h fun x4 h =>
 vload false 1 x4 h fun x5 h =>
 vload false 1 x1 h fun x6 h =>
 vbin .eql 0 x5 x6 h fun x7 h =>
 tcomp x7 fun c0=>vfin true q [c0] h
theorem e85_0(O:Oracle)(R:Jump)(q:Nat)(x0 x1:TVal)(h:Heap):b85_0 O R q x0 x1 h=stepF c85 O R q 0 [x0,x1] h:=by kernel_rfl
def d85:BlkF:=fun O R Q=>[.s fun a => .s fun b => .z (b85_0 O R Q a b)]
theorem o85(O:Oracle)(R:Jump)(q:Nat):HoldsAll c85 O R q 0 (d85 O R q):=⟨e85_0 O R q,trivial⟩
def c86:MFunc:=mkM (compF Tryz.prog (globs2 tabs opq) (fun _=>false) true Tryz.f86) .n
def b86_0(O:Oracle)(R:Jump)(q:Nat)(x0:TVal)(h:Heap):Res1 :=
 vbin .eql 2 x0 (.v (.c (.p .nilslice))) h fun x4 h =>
 vif x4 (
 tcomp (.v (.c (.p .nilslice))) fun c0=>vfin true q [c0] h)
 (vop O (.bslice 1 0 [(.p (.str []))] [] false) h 5 fun x5 h =>
 vop O (.append 1 16 false (.k x5) (.k x0)) h 7 fun x7 h =>
 tcomp x7 fun c0=>vfin true q [c0] h)
theorem e86_0(O:Oracle)(R:Jump)(q:Nat)(x0:TVal)(h:Heap):b86_0 O R q x0 h=stepF c86 O R q 0 [x0] h:=by kernel_rfl
def d86:BlkF:=fun O R Q=>[.s fun a => .z (b86_0 O R Q a)]
theorem o86(O:Oracle)(R:Jump)(q:Nat):HoldsAll c86 O R q 0 (d86 O R q):=⟨e86_0 O R q,trivial⟩
def c88:MFunc:=mkM (compF Tryz.prog (globs2 tabs opq) (fun _=>false) true Tryz.f88) .n
def b88_0(O:Oracle)(R:Jump)(q:Nat)(x0:TVal)(h:Heap):Res1 :=
 vop O (.box (.k x0) false) h 1 fun x1 h =>
 vfaddr 0 x1 h fun x4 h =>
 vload false 1 x4 h fun x5 h =>
 vbin .lss 0 x5 (kI 0) h fun x7 h =>
 vguard x7 false (fun kk=>kk x5 h) h fun x9 h =>
 vguard x7 false (fun kk=>vbin .gtr 0 x9 (kI 5) h kk) h fun x10 h =>
 vop O (.pick (.k x7) (.k (kB true)) (.k x10)) h 11 fun x11 h =>
 vif x11 (
 tcomp (kB false) fun c0=>vfin true q [c0] h)
 (vbin .eql 0 x5 (kI 1) h fun x13 h =>
 vguard x13 false (fun kk=>vfaddr 1 x1 h kk) h fun x15 h =>
 vguard x13 false (fun kk=>vload false 1 x15 h kk) h fun x16 h =>
 vguard x13 false (fun kk=>vop O (.un .not (.k x16)) h 17 kk) h fun x17 h =>
 vop O (.pick (.k x13) (.k (kB true)) (.k x17)) h 18 fun x18 h =>
 vguard x18 true (fun kk=>kk x5 h) h fun x20 h =>
 vguard x18 true (fun kk=>vbin .eql 0 x20 (kI 2) h kk) h fun x21 h =>
 vguard x18 true (fun kk=>kk x21 h) h fun x22 h =>
 vguard x22 false (fun kk=>vfaddr 2 x1 h kk) h fun x23 h =>
 vguard x22 false (fun kk=>vload false 1 x23 h kk) h fun x24 h =>
 vguard x22 false (fun kk=>vbin .eql 0 x24 (kI 0) h kk) h fun x25 h =>
 vguard x18 true (fun kk=>vop O (.pick (.k x22) (.k (kB true)) (.k x25)) h 26 kk) h fun x26 h =>
 vop O (.pick (.k x18) (.k x26) (.k (kB false))) h 27 fun x27 h =>
 vguard x27 true (fun kk=>kk x5 h) h fun x29 h =>
 vguard x27 true (fun kk=>vbin .eql 0 x29 (kI 3) h kk) h fun x30 h =>
 vguard x27 true (fun kk=>kk x30 h) h fun x31 h =>
 vguard x31 false (fun kk=>vfaddr 3 x1 h kk) h fun x32 h =>
 vguard x31 false (fun kk=>vload false 1 x32 h kk) h fun x33 h =>
 vguard x31 false (fun kk=>vbin .eql 0 x33 (kS []) h kk) h fun x34 h =>
 vguard x27 true (fun kk=>vop O (.pick (.k x31) (.k (kB true)) (.k x34)) h 35 kk) h fun x35 h =>
 vop O (.pick (.k x27) (.k x35) (.k (kB false))) h 36 fun x36 h =>
 vguard x36 true (fun kk=>kk x5 h) h fun x38 h =>
 vguard x36 true (fun kk=>vbin .geq 0 x38 (kI 4) h kk) h fun x39 h =>
 vguard x36 true (fun kk=>kk x39 h) h fun x40 h =>
 vguard x40 false (fun kk=>vfaddr 5 x1 h kk) h fun x41 h =>
 vguard x40 false (fun kk=>vload false 1 x41 h kk) h fun x42 h =>
 vguard x40 false (fun kk=>vlen O 2 x42 h 43 kk) h fun x43 h =>
 vguard x40 false (fun kk=>vbin .eql 0 x43 (kI 0) h kk) h fun x44 h =>
 vguard x36 true (fun kk=>vop O (.pick (.k x40) (.k (kB true)) (.k x44)) h 45 kk) h fun x45 h =>
 vop O (.pick (.k x36) (.k x45) (.k (kB false))) h 46 fun x46 h =>
 vguard x46 true (fun kk=>kk x5 h) h fun x48 h =>
 vguard x46 true (fun kk=>vbin .eql 0 x48 (kI 5) h kk) h fun x49 h =>
 vguard x46 true (fun kk=>kk x49 h) h fun x50 h =>
 vguard x50 true (fun kk=>vfaddr 4 x1 h kk) h fun x51 h =>
 vguard x50 true (fun kk=>vload false 1 x51 h kk) h fun x52 h =>
 vguard x50 true (fun kk=>vlen O 2 x52 h 53 kk) h fun x53 h =>
 vguard x50 true (fun kk=>vfaddr 5 x1 h kk) h fun x54 h =>
 vguard x50 true (fun kk=>vload false 1 x54 h kk) h fun x55 h =>
 vguard x50 true (fun kk=>vlen O 2 x55 h 56 kk) h fun x56 h =>
 vguard x50 true (fun kk=>vbin .eql 0 x53 x56 h kk) h fun x57 h =>
 vguard x46 true (fun kk=>vop O (.pick (.k x50) (.k x57) (.k (kB false))) h 58 kk) h fun x58 h =>
 vguard x46 true (fun kk=>kk x58 h) h fun x59 h =>
 vguard x59 false (fun kk=>kk x5 h) h fun x60 h =>
 vguard x59 false (fun kk=>vbin .neq 0 x60 (kI 5) h kk) h fun x61 h =>
 vguard x59 false (fun kk=>kk x61 h) h fun x62 h =>
 vguard x62 true (fun kk=>vfaddr 4 x1 h kk) h fun x63 h =>
 vguard x62 true (fun kk=>vload false 1 x63 h kk) h fun x64 h =>
 vguard x62 true (fun kk=>vlen O 2 x64 h 65 kk) h fun x65 h =>
 vguard x62 true (fun kk=>vbin .eql 0 x65 (kI 0) h kk) h fun x66 h =>
 vguard x59 false (fun kk=>vop O (.pick (.k x62) (.k x66) (.k (kB false))) h 67 kk) h fun x67 h =>
 vguard x46 true (fun kk=>vop O (.pick (.k x59) (.k (kB true)) (.k x67)) h 68 kk) h fun x68 h =>
 vop O (.pick (.k x46) (.k x68) (.k (kB false))) h 69 fun x69 h =>
 tcomp x69 fun c0=>vfin true q [c0] h)
theorem e88_0(O:Oracle)(R:Jump)(q:Nat)(x0:TVal)(h:Heap):b88_0 O R q x0 h=stepF c88 O R q 0 [x0] h:=by kernel_rfl
def d88:BlkF:=fun O R Q=>[.s fun a => .z (b88_0 O R Q a)]
theorem o88(O:Oracle)(R:Jump)(q:Nat):HoldsAll c88 O R q 0 (d88 O R q):=⟨e88_0 O R q,trivial⟩
def c89:MFunc:=mkM (compF Tryz.prog (globs2 tabs opq) (fun _=>false) true Tryz.f89) (.s .n (.s .n (.s (.k (.l 1 [0,1,5] .n)) .n)))
def b89_0(O:Oracle)(R:Jump)(q:Nat)(x0 x1:TVal)(h:Heap):Res1 :=
 R 1 [x0,x1,(.v (.c (.p .nilslice)))] h
theorem e89_0(O:Oracle)(R:Jump)(q:Nat)(x0 x1:TVal)(h:Heap):b89_0 O R q x0 x1 h=stepF c89 O R q 0 [x0,x1] h:=by kernel_rfl
def b89_1(O:Oracle)(R:Jump)(q:Nat)(x0 x1 x5:TVal)(h:Heap):Res1 :=
 vcall O (.v (.c (.func 31 []))) [x0,(kS [46])] h 7 fun x7 h =>
 vguard x7 true (fun kk=>kk x0 h) h fun x9 h =>
 vguard x7 true (fun kk=>vop O (.nilck (.k x9)) h 10 kk) h fun x10 h =>
 vguard x7 true (fun kk=>vfaddr 1 x10 h kk) h fun x11 h =>
 vguard x7 true (fun kk=>vload false 1 x11 h kk) h fun x12 h =>
 vguard x7 true (fun kk=>vbin .add 0 x12 (kI 1) h kk) h fun x13 h =>
 vguard x7 true (fun kk=>kk x0 h) h fun x14 h =>
 vguard x7 true (fun kk=>vop O (.nilck (.k x14)) h 15 kk) h fun x15 h =>
 vguard x7 true (fun kk=>vfaddr 0 x15 h kk) h fun x16 h =>
 vguard x7 true (fun kk=>vload false 1 x16 h kk) h fun x17 h =>
 vguard x7 true (fun kk=>vlen O 2 x17 h 18 kk) h fun x18 h =>
 vguard x7 true (fun kk=>vbin .lss 0 x13 x18 h kk) h fun x19 h =>
 vop O (.pick (.k x7) (.k x19) (.k (kB false))) h 20 fun x20 h =>
 vguard x20 true (fun kk=>kk x0 h) h fun x22 h =>
 vguard x20 true (fun kk=>vop O (.nilck (.k x22)) h 23 kk) h fun x23 h =>
 vguard x20 true (fun kk=>vfaddr 0 x23 h kk) h fun x24 h =>
 vguard x20 true (fun kk=>vload false 1 x24 h kk) h fun x25 h =>
 vguard x20 true (fun kk=>kk x0 h) h fun x26 h =>
 vguard x20 true (fun kk=>vop O (.nilck (.k x26)) h 27 kk) h fun x27 h =>
 vguard x20 true (fun kk=>vfaddr 1 x27 h kk) h fun x28 h =>
 vguard x20 true (fun kk=>vload false 1 x28 h kk) h fun x29 h =>
 vguard x20 true (fun kk=>vbin .add 0 x29 (kI 1) h kk) h fun x30 h =>
 vguard x20 true (fun kk=>viaddr 4 x25 x30 h kk) h fun x31 h =>
 vguard x20 true (fun kk=>vfaddr 0 x31 h kk) h fun x32 h =>
 vguard x20 true (fun kk=>vload false 1 x32 h kk) h fun x33 h =>
 vguard x20 true (fun kk=>vbin .eql 0 x33 (kI 1) h kk) h fun x34 h =>
 vop O (.pick (.k x20) (.k x34) (.k (kB false))) h 35 fun x35 h =>
 vguard x35 true (fun kk=>kk x0 h) h fun x37 h =>
 vguard x35 true (fun kk=>vop O (.nilck (.k x37)) h 38 kk) h fun x38 h =>
 vguard x35 true (fun kk=>vfaddr 0 x38 h kk) h fun x39 h =>
 vguard x35 true (fun kk=>vload false 1 x39 h kk) h fun x40 h =>
 vguard x35 true (fun kk=>kk x0 h) h fun x41 h =>
 vguard x35 true (fun kk=>vop O (.nilck (.k x41)) h 42 kk) h fun x42 h =>
 vguard x35 true (fun kk=>vfaddr 1 x42 h kk) h fun x43 h =>
 vguard x35 true (fun kk=>vload false 1 x43 h kk) h fun x44 h =>
 vguard x35 true (fun kk=>vbin .add 0 x44 (kI 1) h kk) h fun x45 h =>
 vguard x35 true (fun kk=>viaddr 4 x40 x45 h kk) h fun x46 h =>
 vguard x35 true (fun kk=>vfaddr 3 x46 h kk) h fun x47 h =>
 vguard x35 true (fun kk=>vload false 1 x47 h kk) h fun x48 h =>
 vguard x35 true (fun kk=>kk x0 h) h fun x49 h =>
 vguard x35 true (fun kk=>vop O (.nilck (.k x49)) h 50 kk) h fun x50 h =>
 vguard x35 true (fun kk=>vfaddr 0 x50 h kk) h fun x51 h =>
 vguard x35 true (fun kk=>vload false 1 x51 h kk) h fun x52 h =>
 vguard x35 true (fun kk=>kk x0 h) h fun x53 h =>
 vguard x35 true (fun kk=>vop O (.nilck (.k x53)) h 54 kk) h fun x54 h =>
 vguard x35 true (fun kk=>vfaddr 1 x54 h kk) h fun x55 h =>
 vguard x35 true (fun kk=>vload false 1 x55 h kk) h fun x56 h =>
 vguard x35 true (fun kk=>viaddr 4 x52 x56 h kk) h fun x57 h =>
 vguard x35 true (fun kk=>vfaddr 3 x57 h kk) h fun x58 h =>
 vguard x35 true (fun kk=>vload false 1 x58 h kk) h fun x59 h =>
 vguard x35 true (fun kk=>vbin .add 0 x59 (kI 1) h kk) h fun x60 h =>
 vguard x35 true (fun kk=>vbin .eql 0 x48 x60 h kk) h fun x61 h =>
 vop O (.pick (.k x35) (.k x61) (.k (kB false))) h 62 fun x62 h =>
 vguard x62 true (fun kk=>kk x1 h) h fun x64 h =>
 vguard x62 true (fun kk=>vbin .lss 0 x64 (kI 0) h kk) h fun x65 h =>
 vguard x62 true (fun kk=>kk x65 h) h fun x66 h =>
 vguard x66 false (fun kk=>kk x0 h) h fun x67 h =>
 vguard x66 false (fun kk=>vop O (.nilck (.k x67)) h 68 kk) h fun x68 h =>
 vguard x66 false (fun kk=>vfaddr 0 x68 h kk) h fun x69 h =>
 vguard x66 false (fun kk=>vload false 1 x69 h kk) h fun x70 h =>
 vguard x66 false (fun kk=>kk x0 h) h fun x71 h =>
 vguard x66 false (fun kk=>vop O (.nilck (.k x71)) h 72 kk) h fun x72 h =>
 vguard x66 false (fun kk=>vfaddr 1 x72 h kk) h fun x73 h =>
 vguard x66 false (fun kk=>vload false 1 x73 h kk) h fun x74 h =>
 vguard x66 false (fun kk=>viaddr 4 x70 x74 h kk) h fun x75 h =>
 vguard x66 false (fun kk=>vfaddr 3 x75 h kk) h fun x76 h =>
 vguard x66 false (fun kk=>vload false 1 x76 h kk) h fun x77 h =>
 vguard x66 false (fun kk=>kk x1 h) h fun x78 h =>
 vguard x66 false (fun kk=>vbin .eql 0 x77 x78 h kk) h fun x79 h =>
 vguard x62 true (fun kk=>vop O (.pick (.k x66) (.k (kB true)) (.k x79)) h 80 kk) h fun x80 h =>
 vop O (.pick (.k x62) (.k x80) (.k (kB false))) h 81 fun x81 h =>
 vif x81 (
 vop O (.nilck (.k x0)) h 84 fun x84 h =>
 vfaddr 0 x84 h fun x85 h =>
 vload false 1 x85 h fun x86 h =>
 vop O (.nilck (.k x0)) h 88 fun x88 h =>
 vfaddr 1 x88 h fun x89 h =>
 vload false 1 x89 h fun x90 h =>
 vbin .add 0 x90 (kI 1) h fun x91 h =>
 viaddr 4 x86 x91 h fun x92 h =>
 vfaddr 1 x92 h fun x93 h =>
 vload false 1 x93 h fun x94 h =>
 vop O (.bslice 1 1 [(.p (.str []))] [(0,(.k x94))] false) h 95 fun x95 h =>
 vop O (.append 1 16 false (.k x5) (.k x95)) h 96 fun x96 h =>
 vop O (.nilck (.k x0)) h 98 fun x98 h =>
 vfaddr 0 x98 h fun x99 h =>
 vload false 1 x99 h fun x100 h =>
 vop O (.nilck (.k x0)) h 102 fun x102 h =>
 vfaddr 1 x102 h fun x103 h =>
 vload false 1 x103 h fun x104 h =>
 vbin .add 0 x104 (kI 1) h fun x105 h =>
 viaddr 4 x100 x105 h fun x106 h =>
 vfaddr 3 x106 h fun x107 h =>
 vload false 1 x107 h fun x108 h =>
 vop O (.nilck (.k x0)) h 110 fun x110 h =>
 vfaddr 0 x110 h fun x111 h =>
 vload false 1 x111 h fun x112 h =>
 vop O (.nilck (.k x0)) h 114 fun x114 h =>
 vfaddr 1 x114 h fun x115 h =>
 vload false 1 x115 h fun x116 h =>
 vbin .add 0 x116 (kI 1) h fun x117 h =>
 viaddr 4 x112 x117 h fun x118 h =>
 vfaddr 1 x118 h fun x119 h =>
 vload false 1 x119 h fun x120 h =>
 vlen O 0 x120 h 121 fun x121 h =>
 vbin .add 0 x108 x121 h fun x122 h =>
 vop O (.nilck (.k x0)) h 125 fun x125 h =>
 vfaddr 1 x125 h fun x126 h =>
 vload false 1 x126 h fun x127 h =>
 vbin .add 0 x127 (kI 2) h fun x128 h =>
 vop O (.nilck (.k x0)) h 129 fun x129 h =>
 vfaddr 1 x129 h fun x130 h =>
 vstore 1 x130 x128 h fun _ h =>
 R 1 [x0,x122,x96] h)
 (tcomp x5 fun c0=>vfin true q [c0] h)
theorem e89_1(O:Oracle)(R:Jump)(q:Nat)(x0 x1 x5:TVal)(h:Heap):b89_1 O R q x0 x1 x5 h=stepF c89 O R q 1 [x0,x1,x5] h:=by kernel_rfl
def d89:BlkF:=fun O R Q=>[.s fun a => .s fun b => .z (b89_0 O R Q a b),.s fun a => .s fun b => .s fun c => .z (b89_1 O R Q a b c)]
theorem o89(O:Oracle)(R:Jump)(q:Nat):HoldsAll c89 O R q 0 (d89 O R q):=⟨e89_0 O R q,e89_1 O R q,trivial⟩
def c90:MFunc:=mkM (compF Tryz.prog (globs2 tabs opq) (fun _=>false) true Tryz.f90) .n
def b90_0(O:Oracle)(R:Jump)(q:Nat)(x0 x1:TVal)(h:Heap):Res1 :=
 vcall O (.v (.c (.func 31 []))) [x0,x1] h 6 fun x6 h =>
 vif x6 (
 vop O (.nilck (.k x0)) h 8 fun x8 h =>
 vfaddr 1 x8 h fun x9 h =>
 vload false 1 x9 h fun x10 h =>
 vbin .add 0 x10 (kI 1) h fun x11 h =>
 vop O (.nilck (.k x0)) h 12 fun x12 h =>
 vfaddr 1 x12 h fun x13 h =>
 vstore 1 x13 x11 h fun _ h =>
 vfin true q [] h)
 (vcall O (.v (.c (.func 50 []))) [x0,(kI 12)] h 15 fun x15 h =>
 vfin true q [] h)
theorem e90_0(O:Oracle)(R:Jump)(q:Nat)(x0 x1:TVal)(h:Heap):b90_0 O R q x0 x1 h=stepF c90 O R q 0 [x0,x1] h:=by kernel_rfl
def d90:BlkF:=fun O R Q=>[.s fun a => .s fun b => .z (b90_0 O R Q a b)]
theorem o90(O:Oracle)(R:Jump)(q:Nat):HoldsAll c90 O R q 0 (d90 O R q):=⟨e90_0 O R q,trivial⟩
def c91:MFunc:=mkM (compF Tryz.prog (globs2 tabs opq) (fun _=>false) true Tryz.f91) .n
def b91_0(O:Oracle)(R:Jump)(q:Nat)(x0:TVal)(h:Heap):Res1 :=
 vcall O (.v (.c (.func 98 []))) [x0] h 4 fun x4 h =>
 vguard x4 true (fun kk=>kk x0 h) h fun x6 h =>
 vguard x4 true (fun kk=>vbin .add 0 (kS [32]) x6 h kk) h fun x7 h =>
 vguard x4 true (fun kk=>vbin .add 0 x7 (kS [32]) h kk) h fun x8 h =>
 vguard x4 true (fun kk=>vcall O (.v (.c (.func 99 []))) [(kS z6c995b20),x8] h 9 kk) h fun x9 h =>
 vop O (.pick (.k x4) (.k x9) (.k (kB false))) h 10 fun x10 h =>
 tcomp x10 fun c0=>vfin true q [c0] h
theorem e91_0(O:Oracle)(R:Jump)(q:Nat)(x0:TVal)(h:Heap):b91_0 O R q x0 h=stepF c91 O R q 0 [x0] h:=by kernel_rfl
def d91:BlkF:=fun O R Q=>[.s fun a => .z (b91_0 O R Q a)]
theorem o91(O:Oracle)(R:Jump)(q:Nat):HoldsAll c91 O R q 0 (d91 O R q):=⟨e91_0 O R q,trivial⟩
def c92:MFunc:=mkM (compF Tryz.prog (globs2 tabs opq) (fun _=>false) true Tryz.f92) (.s .n (.s .n (.s (.s .n (.k (.s .n (.s .n (.s .n (.m 1 [0,1,4,20,29] .n)))))) .n)))
def b92_0(O:Oracle)(R:Jump)(q:Nat)(x0 x1:TVal)(h:Heap):Res1 :=
 vop O (.alloc [(.p (.int .i64 0)),(.p (.bool false)),(.p (.int .i64 0)),(.p (.str [])),(.p .nilslice),(.p .nilslice)] false) h 4 fun x4 h =>
 vcall O (.v (.c (.func 91 []))) [x0] h 10 fun x10 h =>
 vop O (.un .not (.k x10)) h 11 fun x11 h =>
 vif x11 (
 vop O (.build [(.p (.int .i64 0)),(.p (.bool false)),(.p (.int .i64 0)),(.p (.str [])),(.p .nilslice),(.p .nilslice)] []) h 12 fun x12 h =>
 vstore 6 x4 x12 h fun _ h =>
 vcell true 6 x4 h fun c0=>tcomp (kI 15) fun c1=>vfin true q [c0,c1] h)
 (vlen O 2 x1 h 15 fun x15 h =>
 vcall O (.v (.c (.func 100 []))) [x0] h 17 fun x17 h =>
 vbin .neq 0 x15 x17 h fun x18 h =>
 vif x18 (
 vop O (.build [(.p (.int .i64 0)),(.p (.bool false)),(.p (.int .i64 0)),(.p (.str [])),(.p .nilslice),(.p .nilslice)] []) h 19 fun x19 h =>
 vstore 6 x4 x19 h fun _ h =>
 vcell true 6 x4 h fun c0=>tcomp (kI 18) fun c1=>vfin true q [c0,c1] h)
 (vbin .eql 0 x0 (kS [108,101,110]) h fun x22 h =>
 vif x22 (
 viaddr 6 x1 (kI 0) h fun x24 h =>
 vload true 6 x24 h fun x25 h =>
 vcall O (.v (.c (.func 101 []))) [x25] h 26 fun x26 h =>
 vext x26 0 h fun x27 h =>
 vext x26 1 h fun x28 h =>
 vstore 6 x4 x27 h fun _ h =>
 vcell true 6 x4 h fun c0=>tcomp x28 fun c1=>vfin true q [c0,c1] h)
 (vbin .eql 0 x0 (kS [110,111,116]) h fun x30 h =>
 vif x30 (
 R 1 [x0,x1,x4,x0,x30] h)
 (vbin .eql 0 x0 (kS [97,110,100]) h fun x31 h =>
 vif x31 (
 R 1 [x0,x1,x4,x0,x31] h)
 (vbin .eql 0 x0 (kS [111,114]) h fun x32 h =>
 R 1 [x0,x1,x4,x0,x32] h)))))
theorem e92_0(O:Oracle)(R:Jump)(q:Nat)(x0 x1:TVal)(h:Heap):b92_0 O R q x0 x1 h=stepF c92 O R q 0 [x0,x1] h:=by kernel_rfl
def b92_1(O:Oracle)(R:Jump)(q:Nat)(x0 x1 x4 x20 x29:TVal)(h:Heap):Res1 :=
 vif x29 (
 vcall O (.v (.c (.func 102 []))) [x0,x1] h 35 fun x35 h =>
 vext x35 0 h fun x36 h =>
 vext x35 1 h fun x37 h =>
 vstore 6 x4 x36 h fun _ h =>
 vcell true 6 x4 h fun c0=>tcomp x37 fun c1=>vfin true q [c0,c1] h)
 (vbin .eql 0 x20 (kS [101,113]) h fun x39 h =>
 vif x39 (
 vcall O (.v (.c (.func 103 []))) [x1] h 41 fun x41 h =>
 vext x41 0 h fun x42 h =>
 vext x41 1 h fun x43 h =>
 vstore 6 x4 x42 h fun _ h =>
 vcell true 6 x4 h fun c0=>tcomp x43 fun c1=>vfin true q [c0,c1] h)
 (vbin .eql 0 x20 (kS [99,97,116]) h fun x45 h =>
 vif x45 (
 vcall O (.v (.c (.func 104 []))) [x1] h 47 fun x47 h =>
 vext x47 0 h fun x48 h =>
 vext x47 1 h fun x49 h =>
 vstore 6 x4 x48 h fun _ h =>
 vcell true 6 x4 h fun c0=>tcomp x49 fun c1=>vfin true q [c0,c1] h)
 (vbin .eql 0 x20 (kS [116,101,120,116]) h fun x51 h =>
 vif x51 (
 viaddr 6 x1 (kI 0) h fun x53 h =>
 vload true 6 x53 h fun x54 h =>
 vcall O (.v (.c (.func 105 []))) [x54] h 55 fun x55 h =>
 vext x55 0 h fun x56 h =>
 vext x55 1 h fun x57 h =>
 vstore 6 x4 x56 h fun _ h =>
 vcell true 6 x4 h fun c0=>tcomp x57 fun c1=>vfin true q [c0,c1] h)
 (vbin .eql 0 x20 (kS [97,116]) h fun x59 h =>
 vif x59 (
 vcall O (.v (.c (.func 106 []))) [x1] h 61 fun x61 h =>
 vext x61 0 h fun x62 h =>
 vext x61 1 h fun x63 h =>
 vstore 6 x4 x62 h fun _ h =>
 vcell true 6 x4 h fun c0=>tcomp x63 fun c1=>vfin true q [c0,c1] h)
 (vbin .eql 0 x20 (kS [103,101,116]) h fun x65 h =>
 vif x65 (
 vop O (.bslice 1 2 [(.p (.int .i64 0))] [(0,(.k (kI 5))),(1,(.k (kI 3)))] false) h 67 fun x67 h =>
 vcall O (.v (.c (.func 107 []))) [x1,x67] h 68 fun x68 h =>
 vop O (.un .not (.k x68)) h 69 fun x69 h =>
 vif x69 (
 vop O (.build [(.p (.int .i64 0)),(.p (.bool false)),(.p (.int .i64 0)),(.p (.str [])),(.p .nilslice),(.p .nilslice)] []) h 70 fun x70 h =>
 vstore 6 x4 x70 h fun _ h =>
 vcell true 6 x4 h fun c0=>tcomp (kI 17) fun c1=>vfin true q [c0,c1] h)
 (vtouch O (.mv (.k x1)) h 72 fun x72 h t0 =>
 vtouch O (.iaddr 6 (.k x72) (.k (kI 0))) h 73 fun x73 h t1 =>
 vtouch O (.load true 6 (.k x73)) h 74 fun x74 h t2 =>
 vtouch O (.mv (.k x1)) h 75 fun x75 h t3 =>
 vtouch O (.iaddr 6 (.k x75) (.k (kI 1))) h 76 fun x76 h t4 =>
 vtouch O (.faddr 3 (.k x76)) h 77 fun x77 h t5 =>
 vtouch O (.load false 1 (.k x77)) h 78 fun x78 h t6 =>
 vtouch O (.call (.k (.v (.c (.func 41 [])))) [(.k x74),(.k x78)]) h 79 fun x79 h t7 =>
 vtouch O (.mv (.k x79)) h 71 fun x71 h t8 =>
 vtouch O (.extract (.k x71) 0) h 80 fun x80 h t9 =>
 vtouch O (.extract (.k x71) 1) h 81 fun x81 h t10 =>
 vtouch O (.alloc [(.p (.int .i64 0)),(.p (.bool false)),(.p (.int .i64 0)),(.p (.str [])),(.p .nilslice),(.p .nilslice)] false) h 6 fun x6 h t11 =>
 vtouch O (.store 6 (.k x6) (.k x80)) h 1000000 fun _ h t12 =>
 vtouch O (.mv (.k x81)) h 7 fun x7 h t13 =>
 bif apartAll [t0,t1,t2,t3,t4,t5,t6,t7,t8,t9,t10,t11,t12,t13] [(2,11),(6,11),(7,11)] then
 vload true 6 x6 h fun x82 h =>
 vstore 6 x4 x82 h fun _ h =>
 vcell true 6 x4 h fun c0=>tcomp (kI 0) fun c1=>vfin true q [c0,c1] h
 else none))
 (vbin .eql 0 x20 (kS [104,97,115]) h fun x84 h =>
 vif x84 (
 viaddr 6 x1 (kI 0) h fun x86 h =>
 vfaddr 0 x86 h fun x87 h =>
 vload false 1 x87 h fun x88 h =>
 vbin .neq 0 x88 (kI 0) h fun x89 h =>
 vcall O (.v (.c (.func 108 []))) [x89] h 90 fun x90 h =>
 vstore 6 x4 x90 h fun _ h =>
 vcell true 6 x4 h fun c0=>tcomp (kI 0) fun c1=>vfin true q [c0,c1] h)
 (vbin .eql 0 x20 (kS [111,114,101,108,115,101]) h fun x92 h =>
 vif x92 (
 viaddr 6 x1 (kI 0) h fun x94 h =>
 vfaddr 0 x94 h fun x95 h =>
 vload false 1 x95 h fun x96 h =>
 vbin .neq 0 x96 (kI 0) h fun x97 h =>
 vif x97 (
 viaddr 6 x1 (kI 0) h fun x99 h =>
 vload true 6 x99 h fun x100 h =>
 vcall O (.v (.c (.func 20 []))) [x100] h 101 fun x101 h =>
 vstore 6 x4 x101 h fun _ h =>
 vcell true 6 x4 h fun c0=>tcomp (kI 0) fun c1=>vfin true q [c0,c1] h)
 (viaddr 6 x1 (kI 1) h fun x103 h =>
 vload true 6 x103 h fun x104 h =>
 vcall O (.v (.c (.func 20 []))) [x104] h 105 fun x105 h =>
 vstore 6 x4 x105 h fun _ h =>
 vcell true 6 x4 h fun c0=>tcomp (kI 0) fun c1=>vfin true q [c0,c1] h))
 (vcall O (.v (.c (.func 109 []))) [x0,x1] h 108 fun x108 h =>
 vext x108 0 h fun x109 h =>
 vext x108 1 h fun x110 h =>
 vstore 6 x4 x109 h fun _ h =>
 vcell true 6 x4 h fun c0=>tcomp x110 fun c1=>vfin true q [c0,c1] h))))))))
theorem e92_1(O:Oracle)(R:Jump)(q:Nat)(x0 x1 x4 x20 x29:TVal)(h:Heap):b92_1 O R q x0 x1 x4 x20 x29 h=stepF c92 O R q 1 [x0,x1,x4,x20,x29] h:=by kernel_rfl
def d92:BlkF:=fun O R Q=>[.s fun a => .s fun b => .z (b92_0 O R Q a b),.s fun a => .s fun b => .s fun c => .s fun d => .s fun e => .z (b92_1 O R Q a b c d e)]
theorem o92(O:Oracle)(R:Jump)(q:Nat):HoldsAll c92 O R q 0 (d92 O R q):=⟨e92_0 O R q,e92_1 O R q,trivial⟩
def c94:MFunc:=mkM (compF Tryz.prog (globs2 tabs opq) (fun _=>false) true Tryz.f94) (.s .n (.s .n (.s .n (.m 1 [3,4,6] (.s (.s .n (.k (.l 2 [4,6,28,29,30] .n))) (.m 3 [4,6] .n))))))
def b94_0(O:Oracle)(R:Jump)(q:Nat)(x0 x1:TVal)(h:Heap):Res1 :=
 vop O (.box (.k x0) false) h 2 fun x2 h =>
 vop O (.box (.k x1) false) h 3 fun x3 h =>
 vop O (.alloc [(.p (.int .i64 0)),(.p (.bool false)),(.p (.int .i64 0)),(.p (.str [])),(.p .nilslice),(.p .nilslice)] false) h 4 fun x4 h =>
 vfaddr 0 x2 h fun x11 h =>
 vload true 6 x11 h fun x12 h =>
 vop O (.alloc [(.p (.int .i64 0)),(.p (.bool false)),(.p (.int .i64 0)),(.p (.str [])),(.p .nilslice),(.p .nilslice)] false) h 6 fun x6 h =>
 vstore 6 x6 x12 h fun _ h =>
 vfaddr 1 x3 h fun x13 h =>
 vload false 1 x13 h fun x14 h =>
 vbin .neq 0 x14 (kS []) h fun x15 h =>
 vif x15 (
 vload true 8 x2 h fun x16 h =>
 vfaddr 1 x3 h fun x17 h =>
 vload false 1 x17 h fun x18 h =>
 vcall O (.v (.c (.func 58 []))) [x16,x18] h 19 fun x19 h =>
 vbin .eql 1 x19 (.v (.c (.p .nilptr))) h fun x21 h =>
 vif x21 (
 vop O (.build [(.p (.int .i64 0)),(.p (.bool false)),(.p (.int .i64 0)),(.p (.str [])),(.p .nilslice),(.p .nilslice)] []) h 22 fun x22 h =>
 vstore 6 x4 x22 h fun _ h =>
 vcell true 6 x4 h fun c0=>tcomp (kI 15) fun c1=>vfin true q [c0,c1] h)
 (vop O (.nilck (.k x19)) h 24 fun x24 h =>
 vfaddr 1 x24 h fun x25 h =>
 vload true 6 x25 h fun x26 h =>
 vstore 6 x6 x26 h fun _ h =>
 R 1 [x3,x4,x6] h))
 (R 1 [x3,x4,x6] h)
theorem e94_0(O:Oracle)(R:Jump)(q:Nat)(x0 x1:TVal)(h:Heap):b94_0 O R q x0 x1 h=stepF c94 O R q 0 [x0,x1] h:=by kernel_rfl
def b94_1(O:Oracle)(R:Jump)(q:Nat)(x3 x4 x6:TVal)(h:Heap):Res1 :=
 vfaddr 2 x3 h fun x27 h =>
 vload false 1 x27 h fun x28 h =>
 vlen O 2 x28 h 29 fun x29 h =>
 R 2 [x4,x6,x28,x29,(kI 0)] h
theorem e94_1(O:Oracle)(R:Jump)(q:Nat)(x3 x4 x6:TVal)(h:Heap):b94_1 O R q x3 x4 x6 h=stepF c94 O R q 1 [x3,x4,x6] h:=by kernel_rfl
def b94_2(O:Oracle)(R:Jump)(q:Nat)(x4 x6 x28 x29 x30:TVal)(h:Heap):Res1 :=
 vbin .lss 0 x30 x29 h fun x31 h =>
 vif x31 (
 viaddr 1 x28 x30 h fun x32 h =>
 vload false 1 x32 h fun x33 h =>
 vfaddr 4 x6 h fun x34 h =>
 vload false 1 x34 h fun x35 h =>
 vcall O (.v (.c (.func 63 []))) [x35,x33] h 37 fun x37 h =>
 vfaddr 0 x6 h fun x38 h =>
 vload false 1 x38 h fun x39 h =>
 vbin .neq 0 x39 (kI 5) h fun x40 h =>
 vguard x40 false (fun kk=>kk x37 h) h fun x42 h =>
 vguard x40 false (fun kk=>vbin .lss 0 x42 (kI 0) h kk) h fun x43 h =>
 vop O (.pick (.k x40) (.k (kB true)) (.k x43)) h 44 fun x44 h =>
 vguard x44 false (fun kk=>kk x37 h) h fun x46 h =>
 vguard x44 false (fun kk=>vfaddr 5 x6 h kk) h fun x47 h =>
 vguard x44 false (fun kk=>vload false 1 x47 h kk) h fun x48 h =>
 vguard x44 false (fun kk=>vlen O 2 x48 h 49 kk) h fun x49 h =>
 vguard x44 false (fun kk=>vbin .geq 0 x46 x49 h kk) h fun x50 h =>
 vop O (.pick (.k x44) (.k (kB true)) (.k x50)) h 51 fun x51 h =>
 vif x51 (
 vop O (.build [(.p (.int .i64 0)),(.p (.bool false)),(.p (.int .i64 0)),(.p (.str [])),(.p .nilslice),(.p .nilslice)] []) h 52 fun x52 h =>
 vstore 6 x4 x52 h fun _ h =>
 vcell true 6 x4 h fun c0=>tcomp (kI 16) fun c1=>vfin true q [c0,c1] h)
 (vfaddr 5 x6 h fun x53 h =>
 vload false 1 x53 h fun x54 h =>
 viaddr 6 x54 x37 h fun x56 h =>
 vload true 6 x56 h fun x57 h =>
 vstore 6 x6 x57 h fun _ h =>
 vbin .add 0 x30 (kI 1) h fun x58 h =>
 R 2 [x4,x6,x28,x29,x58] h))
 (R 3 [x4,x6] h)
theorem e94_2(O:Oracle)(R:Jump)(q:Nat)(x4 x6 x28 x29 x30:TVal)(h:Heap):b94_2 O R q x4 x6 x28 x29 x30 h=stepF c94 O R q 2 [x4,x6,x28,x29,x30] h:=by kernel_rfl
def b94_3(O:Oracle)(R:Jump)(q:Nat)(x4 x6:TVal)(h:Heap):Res1 :=
 vload true 6 x6 h fun x59 h =>
 vstore 6 x4 x59 h fun _ h =>
 vcell true 6 x4 h fun c0=>tcomp (kI 0) fun c1=>vfin true q [c0,c1] h
theorem e94_3(O:Oracle)(R:Jump)(q:Nat)(x4 x6:TVal)(h:Heap):b94_3 O R q x4 x6 h=stepF c94 O R q 3 [x4,x6] h:=by kernel_rfl
def d94:BlkF:=fun O R Q=>[.s fun a => .s fun b => .z (b94_0 O R Q a b),.s fun a => .s fun b => .s fun c => .z (b94_1 O R Q a b c),.s fun a => .s fun b => .s fun c => .s fun d => .s fun e => .z (b94_2 O R Q a b c d e),.s fun a => .s fun b => .z (b94_3 O R Q a b)]
theorem o94(O:Oracle)(R:Jump)(q:Nat):HoldsAll c94 O R q 0 (d94 O R q):=⟨e94_0 O R q,e94_1 O R q,e94_2 O R q,e94_3 O R q,trivial⟩
def c96:MFunc:=mkM (compF Tryz.prog (globs2 tabs opq) (fun _=>false) true Tryz.f96) (.s .n (.s (.s .n (.s (.s .n (.s .n (.s .n (.s .n (.m 1 [0,5,6] .n))))) .n)) .n))
def b96_0(O:Oracle)(R:Jump)(q:Nat)(x0 x1:TVal)(h:Heap):Res1 :=
 vbin .eql 0 x1 (kI 10) h fun x11 h =>
 vif x11 (
 vbin .leq 0 (kI 0) x0 h fun x13 h =>
 vguard x13 true (fun kk=>kk x0 h) h fun x15 h =>
 vguard x13 true (fun kk=>vbin .lss 0 x15 (kI 100) h kk) h fun x16 h =>
 vop O (.pick (.k x13) (.k x16) (.k (kB false))) h 17 fun x17 h =>
 vif x17 (
 vcall O (.v (.c (.func 110 []))) [x0] h 19 fun x19 h =>
 tcomp x19 fun c0=>vfin true q [c0] h)
 (vop O (.alloc [(.p (.int .u8 0)),(.p (.int .u8 0)),(.p (.int .u8 0)),(.p (.int .u8 0)),(.p (.int .u8 0)),(.p (.int .u8 0)),(.p (.int .u8 0)),(.p (.int .u8 0)),(.p (.int .u8 0)),(.p (.int .u8 0)),(.p (.int .u8 0)),(.p (.int .u8 0)),(.p (.int .u8 0)),(.p (.int .u8 0)),(.p (.int .u8 0)),(.p (.int .u8 0)),(.p (.int .u8 0)),(.p (.int .u8 0)),(.p (.int .u8 0)),(.p (.int .u8 0)),(.p (.int .u8 0)),(.p (.int .u8 0)),(.p (.int .u8 0)),(.p (.int .u8 0))] false) h 5 fun x5 h =>
 vtoInt .u64 x0 h fun x21 h =>
 vbin .lss 0 x0 (kI 0) h fun x23 h =>
 vif x23 (
 vop O (.un .neg (.k x21)) h 25 fun x25 h =>
 R 1 [x0,x5,x25] h)
 (R 1 [x0,x5,x21] h)))
 (vtoInt .u64 x0 h fun x46 h =>
 vbin .lss 0 x0 (kI 0) h fun x49 h =>
 vcall O (.v (.c (.func 113 []))) [(.v (.c (.p .nilslice))),x46,x1,x49,(kB false)] h 50 fun x50 h =>
 vext x50 0 h fun x51 h =>
 vext x50 1 h fun x52 h =>
 tcomp x52 fun c0=>vfin true q [c0] h)
theorem e96_0(O:Oracle)(R:Jump)(q:Nat)(x0 x1:TVal)(h:Heap):b96_0 O R q x0 x1 h=stepF c96 O R q 0 [x0,x1] h:=by kernel_rfl
def b96_1(O:Oracle)(R:Jump)(q:Nat)(x0 x5 x6:TVal)(h:Heap):Res1 :=
 vcall O (.v (.c (.func 111 []))) [x6] h 27 fun x27 h =>
 vbin .add 0 (kI 1) x27 h fun x29 h =>
 vop O (.sliceA 24 1 (.k x5) (some (.k (kI 1))) (some (.k x29))) h 30 fun x30 h =>
 vcall O (.v (.c (.func 112 []))) [x30,x6] h 32 fun x32 h =>
 vbin .lss 0 x0 (kI 0) h fun x34 h =>
 vif x34 (
 vop O (.iaddrA 24 1 (.k x5) (.k (kI 0))) h 35 fun x35 h =>
 vstore 1 x35 (.v (.c (.p (.int .u8 45)))) h fun _ h =>
 vbin .add 0 (kI 1) x27 h fun x37 h =>
 vop O (.sliceA 24 1 (.k x5) none (some (.k x37))) h 38 fun x38 h =>
 vop O (.toStr (.k x38)) h 39 fun x39 h =>
 tcomp x39 fun c0=>vfin true q [c0] h)
 (vbin .add 0 (kI 1) x27 h fun x41 h =>
 vop O (.sliceA 24 1 (.k x5) (some (.k (kI 1))) (some (.k x41))) h 42 fun x42 h =>
 vop O (.toStr (.k x42)) h 43 fun x43 h =>
 tcomp x43 fun c0=>vfin true q [c0] h)
theorem e96_1(O:Oracle)(R:Jump)(q:Nat)(x0 x5 x6:TVal)(h:Heap):b96_1 O R q x0 x5 x6 h=stepF c96 O R q 1 [x0,x5,x6] h:=by kernel_rfl
def d96:BlkF:=fun O R Q=>[.s fun a => .s fun b => .z (b96_0 O R Q a b),.s fun a => .s fun b => .s fun c => .z (b96_1 O R Q a b c)]
theorem o96(O:Oracle)(R:Jump)(q:Nat):HoldsAll c96 O R q 0 (d96 O R q):=⟨e96_0 O R q,e96_1 O R q,trivial⟩
def c98:MFunc:=mkM (compF Tryz.prog (globs2 tabs opq) (fun _=>false) true Tryz.f98) .n
def b98_0(O:Oracle)(R:Jump)(q:Nat)(x0:TVal)(h:Heap):Res1 :=
 vbin .neq 0 x0 (kS []) h fun x4 h =>
 vguard x4 true (fun kk=>kk x0 h) h fun x6 h =>
 vguard x4 true (fun kk=>vlen O 0 x6 h 7 kk) h fun x7 h =>
 vguard x4 true (fun kk=>vbin .leq 0 x7 (kI 16) h kk) h fun x8 h =>
 vop O (.pick (.k x4) (.k x8) (.k (kB false))) h 9 fun x9 h =>
 vguard x9 true (fun kk=>kk x0 h) h fun x11 h =>
 vguard x9 true (fun kk=>vindex x11 (kI 0) h kk) h fun x12 h =>
 vguard x9 true (fun kk=>vcall O (.v (.c (.func 114 []))) [x12] h 13 kk) h fun x13 h =>
 vguard x9 true (fun kk=>vop O (.un .not (.k x13)) h 14 kk) h fun x14 h =>
 vop O (.pick (.k x9) (.k x14) (.k (kB false))) h 15 fun x15 h =>
 vguard x15 true (fun kk=>kk x0 h) h fun x17 h =>
 vguard x15 true (fun kk=>vcall O (.v (.c (.func 115 []))) [x17] h 18 kk) h fun x18 h =>
 vguard x15 true (fun kk=>kk x0 h) h fun x19 h =>
 vguard x15 true (fun kk=>vlen O 0 x19 h 20 kk) h fun x20 h =>
 vguard x15 true (fun kk=>vbin .eql 0 x18 x20 h kk) h fun x21 h =>
 vop O (.pick (.k x15) (.k x21) (.k (kB false))) h 22 fun x22 h =>
 tcomp x22 fun c0=>vfin true q [c0] h
theorem e98_0(O:Oracle)(R:Jump)(q:Nat)(x0:TVal)(h:Heap):b98_0 O R q x0 h=stepF c98 O R q 0 [x0] h:=by kernel_rfl
def d98:BlkF:=fun O R Q=>[.s fun a => .z (b98_0 O R Q a)]
theorem o98(O:Oracle)(R:Jump)(q:Nat):HoldsAll c98 O R q 0 (d98 O R q):=⟨e98_0 O R q,trivial⟩
def c99:MFunc:=mkM (compF Tryz.prog (globs2 tabs opq) (fun _=>false) true Tryz.f99) .n
def b99_0(O:Oracle)(R:Jump)(q:Nat)(x0 x1:TVal)(h:Heap):Res1 :=
 vcall O (.v (.c (.func 116 []))) [x0,x1] h 7 fun x7 h =>
 vbin .geq 0 x7 (kI 0) h fun x8 h =>
 tcomp x8 fun c0=>vfin true q [c0] h
theorem e99_0(O:Oracle)(R:Jump)(q:Nat)(x0 x1:TVal)(h:Heap):b99_0 O R q x0 x1 h=stepF c99 O R q 0 [x0,x1] h:=by kernel_rfl
def d99:BlkF:=fun O R Q=>[.s fun a => .s fun b => .z (b99_0 O R Q a b)]
theorem o99(O:Oracle)(R:Jump)(q:Nat):HoldsAll c99 O R q 0 (d99 O R q):=⟨e99_0 O R q,trivial⟩
def c100:MFunc:=mkM (compF Tryz.prog (globs2 tabs opq) (fun _=>false) true Tryz.f100) (.s .n (.s (.s .n (.k (.s (.k (.k (.s (.s (.s .n (.m 1 [3,4] .n)) (.s .n (.m 2 [9] .n))) .n))) .n))) .n))
def b100_0(O:Oracle)(R:Jump)(q:Nat)(x0:TVal)(h:Heap):Res1 :=
 vbin .eql 0 x0 (kS [108,101,110]) h fun x5 h =>
 vif x5 (
 R 1 [x0,x5] h)
 (vbin .eql 0 x0 (kS [110,111,116]) h fun x6 h =>
 vif x6 (
 R 1 [x0,x6] h)
 (vbin .eql 0 x0 (kS [116,101,120,116]) h fun x7 h =>
 vif x7 (
 R 1 [x0,x7] h)
 (vbin .eql 0 x0 (kS [104,97,115]) h fun x8 h =>
 R 1 [x0,x8] h)))
theorem e100_0(O:Oracle)(R:Jump)(q:Nat)(x0:TVal)(h:Heap):b100_0 O R q x0 h=stepF c100 O R q 0 [x0] h:=by kernel_rfl
def b100_1(O:Oracle)(R:Jump)(q:Nat)(x3 x4:TVal)(h:Heap):Res1 :=
 vif x4 (
 tcomp (kI 1) fun c0=>vfin true q [c0] h)
 (vbin .eql 0 x3 (kS [105,56]) h fun x10 h =>
 vif x10 (
 R 2 [x10] h)
 (vbin .eql 0 x3 (kS [105,49,54]) h fun x11 h =>
 vif x11 (
 R 2 [x11] h)
 (vbin .eql 0 x3 (kS [105,51,50]) h fun x12 h =>
 vif x12 (
 R 2 [x12] h)
 (vbin .eql 0 x3 (kS [117,56]) h fun x13 h =>
 vif x13 (
 R 2 [x13] h)
 (vbin .eql 0 x3 (kS [117,49,54]) h fun x14 h =>
 vif x14 (
 R 2 [x14] h)
 (vbin .eql 0 x3 (kS [117,51,50]) h fun x15 h =>
 R 2 [x15] h))))))
theorem e100_1(O:Oracle)(R:Jump)(q:Nat)(x3 x4:TVal)(h:Heap):b100_1 O R q x3 x4 h=stepF c100 O R q 1 [x3,x4] h:=by kernel_rfl
def b100_2(O:Oracle)(R:Jump)(q:Nat)(x9:TVal)(h:Heap):Res1 :=
 vif x9 (
 tcomp (kI 1) fun c0=>vfin true q [c0] h)
 (tcomp (kI 2) fun c0=>vfin true q [c0] h)
theorem e100_2(O:Oracle)(R:Jump)(q:Nat)(x9:TVal)(h:Heap):b100_2 O R q x9 h=stepF c100 O R q 2 [x9] h:=by kernel_rfl
def d100:BlkF:=fun O R Q=>[.s fun a => .z (b100_0 O R Q a),.s fun a => .s fun b => .z (b100_1 O R Q a b),.s fun a => .z (b100_2 O R Q a)]
theorem o100(O:Oracle)(R:Jump)(q:Nat):HoldsAll c100 O R q 0 (d100 O R q):=⟨e100_0 O R q,e100_1 O R q,e100_2 O R q,trivial⟩
def c109:MFunc:=mkM (compF Tryz.prog (globs2 tabs opq) (fun _=>false) true Tryz.f109) .n
def b109_0(O:Oracle)(R:Jump)(q:Nat)(x0 x1:TVal)(h:Heap):Res1 :=
 vop O (.alloc [(.p (.int .i64 0)),(.p (.bool false)),(.p (.int .i64 0)),(.p (.str [])),(.p .nilslice),(.p .nilslice)] false) h 4 fun x4 h =>
 vcall O (.v (.c (.func 118 []))) [x1,(.v (.c (.func 121 [])))] h 7 fun x7 h =>
 vif x7 (
 vop O (.build [(.p (.int .i64 0)),(.p (.bool false)),(.p (.int .i64 0)),(.p (.str [])),(.p .nilslice),(.p .nilslice)] []) h 8 fun x8 h =>
 vstore 6 x4 x8 h fun _ h =>
 vcell true 6 x4 h fun c0=>tcomp (kI 17) fun c1=>vfin true q [c0,c1] h)
 (vlen O 2 x1 h 11 fun x11 h =>
 vbin .eql 0 x11 (kI 1) h fun x12 h =>
 vif x12 (
 viaddr 6 x1 (kI 0) h fun x15 h =>
 vfaddr 2 x15 h fun x16 h =>
 vload false 1 x16 h fun x17 h =>
 vcall O (.v (.c (.func 122 []))) [x0,x17] h 18 fun x18 h =>
 vcall O (.v (.c (.func 117 []))) [x18] h 19 fun x19 h =>
 vstore 6 x4 x19 h fun _ h =>
 vcell true 6 x4 h fun c0=>tcomp (kI 0) fun c1=>vfin true q [c0,c1] h)
 (vbin .eql 0 x0 (kS [108,116]) h fun x22 h =>
 vif x22 (
 viaddr 6 x1 (kI 0) h fun x24 h =>
 vfaddr 2 x24 h fun x25 h =>
 vload false 1 x25 h fun x26 h =>
 viaddr 6 x1 (kI 1) h fun x28 h =>
 vfaddr 2 x28 h fun x29 h =>
 vload false 1 x29 h fun x30 h =>
 vbin .lss 0 x26 x30 h fun x31 h =>
 vcall O (.v (.c (.func 108 []))) [x31] h 32 fun x32 h =>
 vstore 6 x4 x32 h fun _ h =>
 vcell true 6 x4 h fun c0=>tcomp (kI 0) fun c1=>vfin true q [c0,c1] h)
 (viaddr 6 x1 (kI 0) h fun x35 h =>
 vfaddr 2 x35 h fun x36 h =>
 vload false 1 x36 h fun x37 h =>
 viaddr 6 x1 (kI 1) h fun x39 h =>
 vfaddr 2 x39 h fun x40 h =>
 vload false 1 x40 h fun x41 h =>
 vcall O (.v (.c (.func 123 []))) [x0,x37,x41] h 42 fun x42 h =>
 vcall O (.v (.c (.func 117 []))) [x42] h 43 fun x43 h =>
 vstore 6 x4 x43 h fun _ h =>
 vcell true 6 x4 h fun c0=>tcomp (kI 0) fun c1=>vfin true q [c0,c1] h)))
theorem e109_0(O:Oracle)(R:Jump)(q:Nat)(x0 x1:TVal)(h:Heap):b109_0 O R q x0 x1 h=stepF c109 O R q 0 [x0,x1] h:=by kernel_rfl
def d109:BlkF:=fun O R Q=>[.s fun a => .s fun b => .z (b109_0 O R Q a b)]
theorem o109(O:Oracle)(R:Jump)(q:Nat):HoldsAll c109 O R q 0 (d109 O R q):=⟨e109_0 O R q,trivial⟩
def c110:MFunc:=mkM (compF Tryz.prog (globs2 tabs opq) (fun _=>false) true Tryz.f110) .n
def b110_0(O:Oracle)(R:Jump)(q:Nat)(x0:TVal)(h:Heap):Res1 :=
 vbin .lss 0 x0 (kI 10) h fun x4 h =>
 vif x4 (
 vbin .add 0 x0 (kI 1) h fun x7 h =>
 vop O (.slice 0 true (.k (kS [48,49,50,51,52,53,54,55,56,57,97,98,99,100,101,102,103,104,105,106,107,108,109,110,111,112,113,114,115,116,117,118,119,120,121,122])) (some (.k x0)) (some (.k x7)) none) h 8 fun x8 h =>
 tcomp x8 fun c0=>vfin true q [c0] h)
 (vbin .mul 0 x0 (kI 2) h fun x10 h =>
 vbin .mul 0 x0 (kI 2) h fun x12 h =>
 vbin .add 0 x12 (kI 2) h fun x13 h =>
 vop O (.slice 0 true (.k (kS z53fdd7c2)) (some (.k x10)) (some (.k x13)) none) h 14 fun x14 h =>
 tcomp x14 fun c0=>vfin true q [c0] h)
theorem e110_0(O:Oracle)(R:Jump)(q:Nat)(x0:TVal)(h:Heap):b110_0 O R q x0 h=stepF c110 O R q 0 [x0] h:=by kernel_rfl
def d110:BlkF:=fun O R Q=>[.s fun a => .z (b110_0 O R Q a)]
theorem o110(O:Oracle)(R:Jump)(q:Nat):HoldsAll c110 O R q 0 (d110 O R q):=⟨e110_0 O R q,trivial⟩
def c111:MFunc:=mkM (compF Tryz.prog (globs2 tabs opq) (fun _=>false) true Tryz.f111) .n
def b111_0(O:Oracle)(R:Jump)(q:Nat)(x0:TVal)(h:Heap):Res1 :=
 vcall O (.v (.c (.func 125 []))) [x0] h 5 fun x5 h =>
 vcall O (.v (.c (.func 124 []))) [x5] h 6 fun x6 h =>
 vop O (.iaddrA 20 1 (.k (.v (.c (.p (.pptr [(.int .u64 1),(.int .u64 10),(.int .u64 100),(.int .u64 1000),(.int .u64 10000),(.int .u64 100000),(.int .u64 1000000),(.int .u64 10000000),(.int .u64 100000000),(.int .u64 1000000000),(.int .u64 10000000000),(.int .u64 100000000000),(.int .u64 1000000000000),(.int .u64 10000000000000),(.int .u64 100000000000000),(.int .u64 1000000000000000),(.int .u64 10000000000000000),(.int .u64 100000000000000000),(.int .u64 1000000000000000000),(.int .u64 10000000000000000000)] 0))))) (.k x6)) h 10 fun x10 h =>
 vload false 1 x10 h fun x11 h =>
 vbin .geq 0 x0 x11 h fun x12 h =>
 vcall O (.v (.c (.func 126 []))) [x12] h 13 fun x13 h =>
 vbin .add 0 x6 x13 h fun x14 h =>
 tcomp x14 fun c0=>vfin true q [c0] h
theorem e111_0(O:Oracle)(R:Jump)(q:Nat)(x0:TVal)(h:Heap):b111_0 O R q x0 h=stepF c111 O R q 0 [x0] h:=by kernel_rfl
def d111:BlkF:=fun O R Q=>[.s fun a => .z (b111_0 O R Q a)]
theorem o111(O:Oracle)(R:Jump)(q:Nat):HoldsAll c111 O R q 0 (d111 O R q):=⟨e111_0 O R q,trivial⟩
def c112:MFunc:=mkM (compF Tryz.prog (globs2 tabs opq) (fun _=>false) true Tryz.f112) (.s .n (.s (.k (.l 1 [0,1,4] .n)) (.m 2 [0,1,4] (.s .n (.s .n (.m 3 [0,4,12] (.s .n (.m 4 [0,4,12] .n))))))))
def b112_0(O:Oracle)(R:Jump)(q:Nat)(x0 x1:TVal)(h:Heap):Res1 :=
 vlen O 2 x0 h 18 fun x18 h =>
 R 1 [x0,x1,x18] h
theorem e112_0(O:Oracle)(R:Jump)(q:Nat)(x0 x1:TVal)(h:Heap):b112_0 O R q x0 x1 h=stepF c112 O R q 0 [x0,x1] h:=by kernel_rfl
def b112_1(O:Oracle)(R:Jump)(q:Nat)(x0 x1 x4:TVal)(h:Heap):Res1 :=
 vbin .geq 0 x4 (kI 8) h fun x20 h =>
 vif x20 (
 vbin .rem 0 x1 (.v (.c (.p (.int .u64 100000000)))) h fun x22 h =>
 vtoInt .u32 x22 h fun x23 h =>
 vbin .quo 0 x1 (.v (.c (.p (.int .u64 100000000)))) h fun x25 h =>
 vbin .quo 0 x23 (.v (.c (.p (.int .u32 10000)))) h fun x27 h =>
 vbin .rem 0 x23 (.v (.c (.p (.int .u32 10000)))) h fun x29 h =>
 vbin .quo 0 x29 (.v (.c (.p (.int .u32 100)))) h fun x31 h =>
 vbin .mul 0 x31 (.v (.c (.p (.int .u32 2)))) h fun x32 h =>
 vbin .rem 0 x29 (.v (.c (.p (.int .u32 100)))) h fun x34 h =>
 vbin .mul 0 x34 (.v (.c (.p (.int .u32 2)))) h fun x35 h =>
 vbin .quo 0 x27 (.v (.c (.p (.int .u32 100)))) h fun x37 h =>
 vbin .mul 0 x37 (.v (.c (.p (.int .u32 2)))) h fun x38 h =>
 vbin .rem 0 x27 (.v (.c (.p (.int .u32 100)))) h fun x40 h =>
 vbin .mul 0 x40 (.v (.c (.p (.int .u32 2)))) h fun x41 h =>
 vbin .sub 0 x4 (kI 1) h fun x44 h =>
 vbin .sub 0 x4 (kI 2) h fun x47 h =>
 vbin .add 0 x35 (.v (.c (.p (.int .u32 1)))) h fun x49 h =>
 vindex (kS z53fdd7c2) x49 h fun x50 h =>
 vindex (kS z53fdd7c2) x35 h fun x52 h =>
 viaddr 1 x0 x44 h fun x53 h =>
 vstore 1 x53 x50 h fun _ h =>
 viaddr 1 x0 x47 h fun x54 h =>
 vstore 1 x54 x52 h fun _ h =>
 vbin .sub 0 x4 (kI 3) h fun x57 h =>
 vbin .sub 0 x4 (kI 4) h fun x60 h =>
 vbin .add 0 x32 (.v (.c (.p (.int .u32 1)))) h fun x62 h =>
 vindex (kS z53fdd7c2) x62 h fun x63 h =>
 vindex (kS z53fdd7c2) x32 h fun x65 h =>
 viaddr 1 x0 x57 h fun x66 h =>
 vstore 1 x66 x63 h fun _ h =>
 viaddr 1 x0 x60 h fun x67 h =>
 vstore 1 x67 x65 h fun _ h =>
 vbin .sub 0 x4 (kI 5) h fun x70 h =>
 vbin .sub 0 x4 (kI 6) h fun x73 h =>
 vbin .add 0 x41 (.v (.c (.p (.int .u32 1)))) h fun x75 h =>
 vindex (kS z53fdd7c2) x75 h fun x76 h =>
 vindex (kS z53fdd7c2) x41 h fun x78 h =>
 viaddr 1 x0 x70 h fun x79 h =>
 vstore 1 x79 x76 h fun _ h =>
 viaddr 1 x0 x73 h fun x80 h =>
 vstore 1 x80 x78 h fun _ h =>
 vbin .sub 0 x4 (kI 7) h fun x83 h =>
 vbin .sub 0 x4 (kI 8) h fun x86 h =>
 vbin .add 0 x38 (.v (.c (.p (.int .u32 1)))) h fun x88 h =>
 vindex (kS z53fdd7c2) x88 h fun x89 h =>
 vindex (kS z53fdd7c2) x38 h fun x91 h =>
 viaddr 1 x0 x83 h fun x92 h =>
 vstore 1 x92 x89 h fun _ h =>
 viaddr 1 x0 x86 h fun x93 h =>
 vstore 1 x93 x91 h fun _ h =>
 vbin .sub 0 x4 (kI 8) h fun x95 h =>
 R 1 [x0,x25,x95] h)
 (R 2 [x0,x1,x4] h)
theorem e112_1(O:Oracle)(R:Jump)(q:Nat)(x0 x1 x4:TVal)(h:Heap):b112_1 O R q x0 x1 x4 h=stepF c112 O R q 1 [x0,x1,x4] h:=by kernel_rfl
def b112_2(O:Oracle)(R:Jump)(q:Nat)(x0 x1 x4:TVal)(h:Heap):Res1 :=
 vtoInt .u32 x1 h fun x97 h =>
 vbin .geq 0 x4 (kI 4) h fun x99 h =>
 vif x99 (
 vbin .rem 0 x97 (.v (.c (.p (.int .u32 10000)))) h fun x101 h =>
 vbin .quo 0 x97 (.v (.c (.p (.int .u32 10000)))) h fun x103 h =>
 vbin .quo 0 x101 (.v (.c (.p (.int .u32 100)))) h fun x105 h =>
 vbin .mul 0 x105 (.v (.c (.p (.int .u32 2)))) h fun x106 h =>
 vbin .rem 0 x101 (.v (.c (.p (.int .u32 100)))) h fun x108 h =>
 vbin .mul 0 x108 (.v (.c (.p (.int .u32 2)))) h fun x109 h =>
 vbin .sub 0 x4 (kI 1) h fun x112 h =>
 vbin .sub 0 x4 (kI 2) h fun x115 h =>
 vbin .add 0 x109 (.v (.c (.p (.int .u32 1)))) h fun x117 h =>
 vindex (kS z53fdd7c2) x117 h fun x118 h =>
 vindex (kS z53fdd7c2) x109 h fun x120 h =>
 viaddr 1 x0 x112 h fun x121 h =>
 vstore 1 x121 x118 h fun _ h =>
 viaddr 1 x0 x115 h fun x122 h =>
 vstore 1 x122 x120 h fun _ h =>
 vbin .sub 0 x4 (kI 3) h fun x125 h =>
 vbin .sub 0 x4 (kI 4) h fun x128 h =>
 vbin .add 0 x106 (.v (.c (.p (.int .u32 1)))) h fun x130 h =>
 vindex (kS z53fdd7c2) x130 h fun x131 h =>
 vindex (kS z53fdd7c2) x106 h fun x133 h =>
 viaddr 1 x0 x125 h fun x134 h =>
 vstore 1 x134 x131 h fun _ h =>
 viaddr 1 x0 x128 h fun x135 h =>
 vstore 1 x135 x133 h fun _ h =>
 vbin .sub 0 x4 (kI 4) h fun x137 h =>
 R 3 [x0,x137,x103] h)
 (R 3 [x0,x4,x97] h)
theorem e112_2(O:Oracle)(R:Jump)(q:Nat)(x0 x1 x4:TVal)(h:Heap):b112_2 O R q x0 x1 x4 h=stepF c112 O R q 2 [x0,x1,x4] h:=by kernel_rfl
def b112_3(O:Oracle)(R:Jump)(q:Nat)(x0 x4 x12:TVal)(h:Heap):Res1 :=
 vbin .geq 0 x4 (kI 2) h fun x139 h =>
 vif x139 (
 vbin .rem 0 x12 (.v (.c (.p (.int .u32 100)))) h fun x141 h =>
 vbin .mul 0 x141 (.v (.c (.p (.int .u32 2)))) h fun x142 h =>
 vbin .quo 0 x12 (.v (.c (.p (.int .u32 100)))) h fun x144 h =>
 vbin .sub 0 x4 (kI 1) h fun x147 h =>
 vbin .sub 0 x4 (kI 2) h fun x150 h =>
 vbin .add 0 x142 (.v (.c (.p (.int .u32 1)))) h fun x152 h =>
 vindex (kS z53fdd7c2) x152 h fun x153 h =>
 vindex (kS z53fdd7c2) x142 h fun x155 h =>
 viaddr 1 x0 x147 h fun x156 h =>
 vstore 1 x156 x153 h fun _ h =>
 viaddr 1 x0 x150 h fun x157 h =>
 vstore 1 x157 x155 h fun _ h =>
 vbin .sub 0 x4 (kI 2) h fun x159 h =>
 R 4 [x0,x159,x144] h)
 (R 4 [x0,x4,x12] h)
theorem e112_3(O:Oracle)(R:Jump)(q:Nat)(x0 x4 x12:TVal)(h:Heap):b112_3 O R q x0 x4 x12 h=stepF c112 O R q 3 [x0,x4,x12] h:=by kernel_rfl
def b112_4(O:Oracle)(R:Jump)(q:Nat)(x0 x4 x12:TVal)(h:Heap):Res1 :=
 vbin .gtr 0 x4 (kI 0) h fun x161 h =>
 vif x161 (
 vbin .add 0 (.v (.c (.p (.int .u32 48)))) x12 h fun x164 h =>
 vtoInt .u8 x164 h fun x165 h =>
 viaddr 1 x0 (kI 0) h fun x166 h =>
 vstore 1 x166 x165 h fun _ h =>
 vfin true q [] h)
 (vfin true q [] h)
theorem e112_4(O:Oracle)(R:Jump)(q:Nat)(x0 x4 x12:TVal)(h:Heap):b112_4 O R q x0 x4 x12 h=stepF c112 O R q 4 [x0,x4,x12] h:=by kernel_rfl
def d112:BlkF:=fun O R Q=>[.s fun a => .s fun b => .z (b112_0 O R Q a b),.s fun a => .s fun b => .s fun c => .z (b112_1 O R Q a b c),.s fun a => .s fun b => .s fun c => .z (b112_2 O R Q a b c),.s fun a => .s fun b => .s fun c => .z (b112_3 O R Q a b c),.s fun a => .s fun b => .s fun c => .z (b112_4 O R Q a b c)]
theorem o112(O:Oracle)(R:Jump)(q:Nat):HoldsAll c112 O R q 0 (d112 O R q):=⟨e112_0 O R q,e112_1 O R q,e112_2 O R q,e112_3 O R q,e112_4 O R q,trivial⟩
def c114:MFunc:=mkM (compF Tryz.prog (globs2 tabs opq) (fun _=>false) true Tryz.f114) .n
def b114_0(O:Oracle)(R:Jump)(q:Nat)(x0:TVal)(h:Heap):Res1 :=
 vbin .geq 0 x0 (.v (.c (.p (.int .u8 48)))) h fun x4 h =>
 vguard x4 true (fun kk=>kk x0 h) h fun x6 h =>
 vguard x4 true (fun kk=>vbin .leq 0 x6 (.v (.c (.p (.int .u8 57)))) h kk) h fun x7 h =>
 vop O (.pick (.k x4) (.k x7) (.k (kB false))) h 8 fun x8 h =>
 tcomp x8 fun c0=>vfin true q [c0] h
theorem e114_0(O:Oracle)(R:Jump)(q:Nat)(x0:TVal)(h:Heap):b114_0 O R q x0 h=stepF c114 O R q 0 [x0] h:=by kernel_rfl
def d114:BlkF:=fun O R Q=>[.s fun a => .z (b114_0 O R Q a)]
theorem o114(O:Oracle)(R:Jump)(q:Nat):HoldsAll c114 O R q 0 (d114 O R q):=⟨e114_0 O R q,trivial⟩
def c115:MFunc:=mkM (compF Tryz.prog (globs2 tabs opq) (fun _=>false) true Tryz.f115) .n
def b115_0(O:Oracle)(R:Jump)(q:Nat)(x0:TVal)(h:Heap):Res1 :=
 vcall O (.v (.c (.func 129 []))) [x0,(.v (.c (.func 130 [])))] h 4 fun x4 h =>
 tcomp x4 fun c0=>vfin true q [c0] h
theorem e115_0(O:Oracle)(R:Jump)(q:Nat)(x0:TVal)(h:Heap):b115_0 O R q x0 h=stepF c115 O R q 0 [x0] h:=by kernel_rfl
def d115:BlkF:=fun O R Q=>[.s fun a => .z (b115_0 O R Q a)]
theorem o115(O:Oracle)(R:Jump)(q:Nat):HoldsAll c115 O R q 0 (d115 O R q):=⟨e115_0 O R q,trivial⟩
def c116:MFunc:=mkM (compF Tryz.prog (globs2 tabs opq) (fun _=>false) true Tryz.f116) .n
def b116_0(O:Oracle)(R:Jump)(q:Nat)(x0 x1:TVal)(h:Heap):Res1 :=
 vcall O (.v (.c (.func 132 []))) [x0,x1] h 7 fun x7 h =>
 tcomp x7 fun c0=>vfin true q [c0] h
theorem e116_0(O:Oracle)(R:Jump)(q:Nat)(x0 x1:TVal)(h:Heap):b116_0 O R q x0 x1 h=stepF c116 O R q 0 [x0,x1] h:=by kernel_rfl
def d116:BlkF:=fun O R Q=>[.s fun a => .s fun b => .z (b116_0 O R Q a b)]
theorem o116(O:Oracle)(R:Jump)(q:Nat):HoldsAll c116 O R q 0 (d116 O R q):=⟨e116_0 O R q,trivial⟩
def c117:MFunc:=mkM (compF Tryz.prog (globs2 tabs opq) (fun _=>false) true Tryz.f117) .n
def b117_0(O:Oracle)(R:Jump)(q:Nat)(x0:TVal)(h:Heap):Res1 :=
 vop O (.alloc [(.p (.int .i64 0)),(.p (.bool false)),(.p (.int .i64 0)),(.p (.str [])),(.p .nilslice),(.p .nilslice)] false) h 2 fun x2 h =>
 vop O (.build [(.p (.int .i64 0)),(.p (.bool false)),(.p (.int .i64 0)),(.p (.str [])),(.p .nilslice),(.p .nilslice)] [(0,1,(.k (kI 2))),(2,1,(.k x0))]) h 4 fun x4 h =>
 vstore 6 x2 x4 h fun _ h =>
 vcell true 6 x2 h fun c0=>vfin true q [c0] h
theorem e117_0(O:Oracle)(R:Jump)(q:Nat)(x0:TVal)(h:Heap):b117_0 O R q x0 h=stepF c117 O R q 0 [x0] h:=by kernel_rfl
def d117:BlkF:=fun O R Q=>[.s fun a => .z (b117_0 O R Q a)]
theorem o117(O:Oracle)(R:Jump)(q:Nat):HoldsAll c117 O R q 0 (d117 O R q):=⟨e117_0 O R q,trivial⟩
def c118:MFunc:=mkM (compF Tryz.prog (globs2 tabs opq) (fun _=>false) true Tryz.f118) .n
def b118_0(O:Oracle)(R:Jump)(q:Nat)(x0 x1:TVal)(h:Heap):Res1 :=
 vcall O (.v (.c (.func 133 []))) [x0,x1] h 7 fun x7 h =>
 vbin .geq 0 x7 (kI 0) h fun x8 h =>
 tcomp x8 fun c0=>vfin true q [c0] h
theorem e118_0(O:Oracle)(R:Jump)(q:Nat)(x0 x1:TVal)(h:Heap):b118_0 O R q x0 x1 h=stepF c118 O R q 0 [x0,x1] h:=by kernel_rfl
def d118:BlkF:=fun O R Q=>[.s fun a => .s fun b => .z (b118_0 O R Q a b)]
theorem o118(O:Oracle)(R:Jump)(q:Nat):HoldsAll c118 O R q 0 (d118 O R q):=⟨e118_0 O R q,trivial⟩
def c121:MFunc:=mkM (compF Tryz.prog (globs2 tabs opq) (fun _=>false) true Tryz.f121) .n
def b121_0(O:Oracle)(R:Jump)(q:Nat)(x0:TVal)(h:Heap):Res1 :=
 vop O (.box (.k x0) false) h 1 fun x1 h =>
 vfaddr 0 x1 h fun x3 h =>
 vload false 1 x3 h fun x4 h =>
 vbin .neq 0 x4 (kI 2) h fun x5 h =>
 tcomp x5 fun c0=>vfin true q [c0] h
theorem e121_0(O:Oracle)(R:Jump)(q:Nat)(x0:TVal)(h:Heap):b121_0 O R q x0 h=stepF c121 O R q 0 [x0] h:=by kernel_rfl
def d121:BlkF:=fun O R Q=>[.s fun a => .z (b121_0 O R Q a)]
theorem o121(O:Oracle)(R:Jump)(q:Nat):HoldsAll c121 O R q 0 (d121 O R q):=⟨e121_0 O R q,trivial⟩
def c123:MFunc:=mkM (compF Tryz.prog (globs2 tabs opq) (fun _=>false) true Tryz.f123) .n
def b123_0(O:Oracle)(R:Jump)(q:Nat)(x0 x1 x2:TVal)(h:Heap):Res1 :=
 vbin .eql 0 x0 (kS [97,100,100]) h fun x9 h =>
 vif x9 (
 vbin .add 0 x1 x2 h fun x12 h =>
 tcomp x12 fun c0=>vfin true q [c0] h)
 (vbin .eql 0 x0 (kS [115,117,98]) h fun x14 h =>
 vif x14 (
 vbin .sub 0 x1 x2 h fun x17 h =>
 tcomp x17 fun c0=>vfin true q [c0] h)
 (vbin .eql 0 x0 (kS [109,117,108]) h fun x19 h =>
 vif x19 (
 vbin .mul 0 x1 x2 h fun x22 h =>
 tcomp x22 fun c0=>vfin true q [c0] h)
 (vbin .eql 0 x0 (kS [115,104,108]) h fun x24 h =>
 vif x24 (
 vtoInt .u64 x2 h fun x27 h =>
 vbin .rem 0 x27 (.v (.c (.p (.int .u64 64)))) h fun x28 h =>
 vbin .shl 0 x1 x28 h fun x29 h =>
 tcomp x29 fun c0=>vfin true q [c0] h)
 (vtoInt .u64 x2 h fun x32 h =>
 vbin .rem 0 x32 (.v (.c (.p (.int .u64 64)))) h fun x33 h =>
 vbin .shr 0 x1 x33 h fun x34 h =>
 tcomp x34 fun c0=>vfin true q [c0] h))))
theorem e123_0(O:Oracle)(R:Jump)(q:Nat)(x0 x1 x2:TVal)(h:Heap):b123_0 O R q x0 x1 x2 h=stepF c123 O R q 0 [x0,x1,x2] h:=by kernel_rfl
def d123:BlkF:=fun O R Q=>[.s fun a => .s fun b => .s fun c => .z (b123_0 O R Q a b c)]
theorem o123(O:Oracle)(R:Jump)(q:Nat):HoldsAll c123 O R q 0 (d123 O R q):=⟨e123_0 O R q,trivial⟩
def c124:MFunc:=mkM (compF Tryz.prog (globs2 tabs opq) (fun _=>false) true Tryz.f124) .n
def b124_0(O:Oracle)(R:Jump)(q:Nat)(x0:TVal)(h:Heap):Res1 :=
 vbin .mul 0 x0 (kI 78913) h fun x4 h =>
 vbin .shr 0 x4 (.v (.c (.p (.int .u64 18)))) h fun x5 h =>
 tcomp x5 fun c0=>vfin true q [c0] h
theorem e124_0(O:Oracle)(R:Jump)(q:Nat)(x0:TVal)(h:Heap):b124_0 O R q x0 h=stepF c124 O R q 0 [x0] h:=by kernel_rfl
def d124:BlkF:=fun O R Q=>[.s fun a => .z (b124_0 O R Q a)]
theorem o124(O:Oracle)(R:Jump)(q:Nat):HoldsAll c124 O R q 0 (d124 O R q):=⟨e124_0 O R q,trivial⟩
def c125:MFunc:=mkM (compF Tryz.prog (globs2 tabs opq) (fun _=>false) true Tryz.f125) (.s .n (.s .n (.m 1 [0,2] (.s .n (.m 2 [0,2] (.s .n (.m 3 [0,2] .n)))))))
def b125_0(O:Oracle)(R:Jump)(q:Nat)(x0:TVal)(h:Heap):Res1 :=
 vbin .geq 0 x0 (.v (.c (.p (.int .u64 4294967296)))) h fun x4 h =>
 vif x4 (
 vbin .shr 0 x0 (.v (.c (.p (.int .u64 32)))) h fun x6 h =>
 R 1 [x6,(kI 32)] h)
 (R 1 [x0,(kI 0)] h)
theorem e125_0(O:Oracle)(R:Jump)(q:Nat)(x0:TVal)(h:Heap):b125_0 O R q x0 h=stepF c125 O R q 0 [x0] h:=by kernel_rfl
def b125_1(O:Oracle)(R:Jump)(q:Nat)(x0 x2:TVal)(h:Heap):Res1 :=
 vbin .geq 0 x0 (.v (.c (.p (.int .u64 65536)))) h fun x8 h =>
 vif x8 (
 vbin .shr 0 x0 (.v (.c (.p (.int .u64 16)))) h fun x10 h =>
 vbin .add 0 x2 (kI 16) h fun x12 h =>
 R 2 [x10,x12] h)
 (R 2 [x0,x2] h)
theorem e125_1(O:Oracle)(R:Jump)(q:Nat)(x0 x2:TVal)(h:Heap):b125_1 O R q x0 x2 h=stepF c125 O R q 1 [x0,x2] h:=by kernel_rfl
def b125_2(O:Oracle)(R:Jump)(q:Nat)(x0 x2:TVal)(h:Heap):Res1 :=
 vbin .geq 0 x0 (.v (.c (.p (.int .u64 256)))) h fun x14 h =>
 vif x14 (
 vbin .shr 0 x0 (.v (.c (.p (.int .u64 8)))) h fun x16 h =>
 vbin .add 0 x2 (kI 8) h fun x18 h =>
 R 3 [x16,x18] h)
 (R 3 [x0,x2] h)
theorem e125_2(O:Oracle)(R:Jump)(q:Nat)(x0 x2:TVal)(h:Heap):b125_2 O R q x0 x2 h=stepF c125 O R q 2 [x0,x2] h:=by kernel_rfl
def b125_3(O:Oracle)(R:Jump)(q:Nat)(x0 x2:TVal)(h:Heap):Res1 :=
 vtoInt .u8 x0 h fun x21 h =>
 vindex (kS z0a4518d3) x21 h fun x22 h =>
 vtoInt .i64 x22 h fun x23 h =>
 vbin .add 0 x2 x23 h fun x24 h =>
 tcomp x24 fun c0=>vfin true q [c0] h
theorem e125_3(O:Oracle)(R:Jump)(q:Nat)(x0 x2:TVal)(h:Heap):b125_3 O R q x0 x2 h=stepF c125 O R q 3 [x0,x2] h:=by kernel_rfl
def d125:BlkF:=fun O R Q=>[.s fun a => .z (b125_0 O R Q a),.s fun a => .s fun b => .z (b125_1 O R Q a b),.s fun a => .s fun b => .z (b125_2 O R Q a b),.s fun a => .s fun b => .z (b125_3 O R Q a b)]
theorem o125(O:Oracle)(R:Jump)(q:Nat):HoldsAll c125 O R q 0 (d125 O R q):=⟨e125_0 O R q,e125_1 O R q,e125_2 O R q,e125_3 O R q,trivial⟩
def c126:MFunc:=mkM (compF Tryz.prog (globs2 tabs opq) (fun _=>false) true Tryz.f126) .n
def b126_0(O:Oracle)(R:Jump)(q:Nat)(x0:TVal)(h:Heap):Res1 :=
 vif x0 (
 tcomp (kI 1) fun c0=>vfin true q [c0] h)
 (tcomp (kI 0) fun c0=>vfin true q [c0] h)
theorem e126_0(O:Oracle)(R:Jump)(q:Nat)(x0:TVal)(h:Heap):b126_0 O R q x0 h=stepF c126 O R q 0 [x0] h:=by kernel_rfl
def d126:BlkF:=fun O R Q=>[.s fun a => .z (b126_0 O R Q a)]
theorem o126(O:Oracle)(R:Jump)(q:Nat):HoldsAll c126 O R q 0 (d126 O R q):=⟨e126_0 O R q,trivial⟩
def c129:MFunc:=mkM (compF Tryz.prog (globs2 tabs opq) (fun _=>false) true Tryz.f129) (.s .n (.s (.s .n (.k (.l 1 [0,1,7] .n))) (.m 2 [0] .n)))
def b129_0(O:Oracle)(R:Jump)(q:Nat)(x0 x1:TVal)(h:Heap):Res1 :=
 vop O (.rangeS (.k x0)) h 7 fun x7 h =>
 R 1 [x0,x1,x7] h
theorem e129_0(O:Oracle)(R:Jump)(q:Nat)(x0 x1:TVal)(h:Heap):b129_0 O R q x0 x1 h=stepF c129 O R q 0 [x0,x1] h:=by kernel_rfl
def b129_1(O:Oracle)(R:Jump)(q:Nat)(x0 x1 x7:TVal)(h:Heap):Res1 :=
 vop O (.nextS (.k x7)) h 8 fun x8 h =>
 vext x8 0 h fun x9 h =>
 vif x9 (
 vext x8 1 h fun x10 h =>
 vindex x0 x10 h fun x14 h =>
 vcall O x1 [x14] h 15 fun x15 h =>
 vop O (.un .not (.k x15)) h 16 fun x16 h =>
 vif x16 (
 tcomp x10 fun c0=>vfin true q [c0] h)
 (R 1 [x0,x1,x7] h))
 (R 2 [x0] h)
theorem e129_1(O:Oracle)(R:Jump)(q:Nat)(x0 x1 x7:TVal)(h:Heap):b129_1 O R q x0 x1 x7 h=stepF c129 O R q 1 [x0,x1,x7] h:=by kernel_rfl
def b129_2(O:Oracle)(R:Jump)(q:Nat)(x0:TVal)(h:Heap):Res1 :=
 vlen O 0 x0 h 19 fun x19 h =>
 tcomp x19 fun c0=>vfin true q [c0] h
theorem e129_2(O:Oracle)(R:Jump)(q:Nat)(x0:TVal)(h:Heap):b129_2 O R q x0 h=stepF c129 O R q 2 [x0] h:=by kernel_rfl
def d129:BlkF:=fun O R Q=>[.s fun a => .s fun b => .z (b129_0 O R Q a b),.s fun a => .s fun b => .s fun c => .z (b129_1 O R Q a b c),.s fun a => .z (b129_2 O R Q a)]
theorem o129(O:Oracle)(R:Jump)(q:Nat):HoldsAll c129 O R q 0 (d129 O R q):=⟨e129_0 O R q,e129_1 O R q,e129_2 O R q,trivial⟩
def c130:MFunc:=mkM (compF Tryz.prog (globs2 tabs opq) (fun _=>false) true Tryz.f130) .n
def b130_0(O:Oracle)(R:Jump)(q:Nat)(x0:TVal)(h:Heap):Res1 :=
 vcall O (.v (.c (.func 131 []))) [x0] h 4 fun x4 h =>
 vguard x4 false (fun kk=>kk x0 h) h fun x6 h =>
 vguard x4 false (fun kk=>vcall O (.v (.c (.func 114 []))) [x6] h 7 kk) h fun x7 h =>
 vop O (.pick (.k x4) (.k (kB true)) (.k x7)) h 8 fun x8 h =>
 tcomp x8 fun c0=>vfin true q [c0] h
theorem e130_0(O:Oracle)(R:Jump)(q:Nat)(x0:TVal)(h:Heap):b130_0 O R q x0 h=stepF c130 O R q 0 [x0] h:=by kernel_rfl
def d130:BlkF:=fun O R Q=>[.s fun a => .z (b130_0 O R Q a)]
theorem o130(O:Oracle)(R:Jump)(q:Nat):HoldsAll c130 O R q 0 (d130 O R q):=⟨e130_0 O R q,trivial⟩
def c131:MFunc:=mkM (compF Tryz.prog (globs2 tabs opq) (fun _=>false) true Tryz.f131) .n
def b131_0(O:Oracle)(R:Jump)(q:Nat)(x0:TVal)(h:Heap):Res1 :=
 vbin .eql 0 x0 (.v (.c (.p (.int .u8 95)))) h fun x4 h =>
 vguard x4 false (fun kk=>kk x0 h) h fun x6 h =>
 vguard x4 false (fun kk=>vbin .or 0 x6 (.v (.c (.p (.int .u8 32)))) h kk) h fun x7 h =>
 vguard x4 false (fun kk=>vbin .geq 0 x7 (.v (.c (.p (.int .u8 97)))) h kk) h fun x8 h =>
 vguard x4 false (fun kk=>kk x8 h) h fun x9 h =>
 vguard x9 true (fun kk=>kk x0 h) h fun x10 h =>
 vguard x9 true (fun kk=>vbin .or 0 x10 (.v (.c (.p (.int .u8 32)))) h kk) h fun x11 h =>
 vguard x9 true (fun kk=>vbin .leq 0 x11 (.v (.c (.p (.int .u8 122)))) h kk) h fun x12 h =>
 vguard x4 false (fun kk=>vop O (.pick (.k x9) (.k x12) (.k (kB false))) h 13 kk) h fun x13 h =>
 vop O (.pick (.k x4) (.k (kB true)) (.k x13)) h 14 fun x14 h =>
 tcomp x14 fun c0=>vfin true q [c0] h
theorem e131_0(O:Oracle)(R:Jump)(q:Nat)(x0:TVal)(h:Heap):b131_0 O R q x0 h=stepF c131 O R q 0 [x0] h:=by kernel_rfl
def d131:BlkF:=fun O R Q=>[.s fun a => .z (b131_0 O R Q a)]
theorem o131(O:Oracle)(R:Jump)(q:Nat):HoldsAll c131 O R q 0 (d131 O R q):=⟨e131_0 O R q,trivial⟩
def c133:MFunc:=mkM (compF Tryz.prog (globs2 tabs opq) (fun _=>false) true Tryz.f133) (.s .n (.s (.s .n (.k (.l 1 [0,1,7,8] .n))) .n))
def b133_0(O:Oracle)(R:Jump)(q:Nat)(x0 x1:TVal)(h:Heap):Res1 :=
 vlen O 2 x0 h 7 fun x7 h =>
 R 1 [x0,x1,x7,(kI 0)] h
theorem e133_0(O:Oracle)(R:Jump)(q:Nat)(x0 x1:TVal)(h:Heap):b133_0 O R q x0 x1 h=stepF c133 O R q 0 [x0,x1] h:=by kernel_rfl
def b133_1(O:Oracle)(R:Jump)(q:Nat)(x0 x1 x7 x8:TVal)(h:Heap):Res1 :=
 vbin .lss 0 x8 x7 h fun x9 h =>
 vif x9 (
 viaddr 6 x0 x8 h fun x14 h =>
 vload true 6 x14 h fun x15 h =>
 vcall O x1 [x15] h 16 fun x16 h =>
 vif x16 (
 tcomp x8 fun c0=>vfin true q [c0] h)
 (vbin .add 0 x8 (kI 1) h fun x18 h =>
 R 1 [x0,x1,x7,x18] h))
 (tcomp (kI (-1)) fun c0=>vfin true q [c0] h)
theorem e133_1(O:Oracle)(R:Jump)(q:Nat)(x0 x1 x7 x8:TVal)(h:Heap):b133_1 O R q x0 x1 x7 x8 h=stepF c133 O R q 1 [x0,x1,x7,x8] h:=by kernel_rfl
def d133:BlkF:=fun O R Q=>[.s fun a => .s fun b => .z (b133_0 O R Q a b),.s fun a => .s fun b => .s fun c => .s fun d => .z (b133_1 O R Q a b c d)]
theorem o133(O:Oracle)(R:Jump)(q:Nat):HoldsAll c133 O R q 0 (d133 O R q):=⟨e133_0 O R q,e133_1 O R q,trivial⟩
end
end Go.Proofs.YtlkejchbcchecaaGreatDoor.Ab
