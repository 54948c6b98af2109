/- Functions of the given program as the abstract interpreter has them (part 0), printed by a program of our own; each is shown to be what 'compF' makes of the given program's. No condition. -/
import Derived.Test.YtlkejchbcchecaaDoorChecked
import Derived.Test.YtlkejchbcchecaaDoorAd
namespace Go.Proofs.YtlkejchbcchecaaDoor.Ab
open Go Go.AI
noncomputable section
set_option linter.all false
set_option linter.unusedVariables false
set_option maxRecDepth 100000
def z0a4518d3 : List UInt8 := [0, 1, 2, 2, 3, 3, 3, 3, 4, 4, 4, 4, 4, 4, 4, 4, 5, 5, 5, 5, 5, 5, 5, 5, 5, 5, 5, 5, 5, 5, 5, 5, 6, 6, 6, 6, 6, 6, 6, 6, 6, 6, 6, 6, 6, 6, 6, 6, 6, 6, 6, 6, 6, 6, 6, 6, 6, 6, 6, 6, 6, 6, 6, 6, 7, 7, 7, 7, 7, 7, 7, 7, 7, 7, 7, 7, 7, 7, 7, 7, 7, 7, 7, 7, 7, 7, 7, 7, 7, 7, 7, 7, 7, 7, 7, 7, 7, 7, 7, 7, 7, 7, 7, 7, 7, 7, 7, 7, 7, 7, 7, 7, 7, 7, 7, 7, 7, 7, 7, 7, 7, 7, 7, 7, 7, 7, 7, 7, 8, 8, 8, 8, 8, 8, 8, 8, 8, 8, 8, 8, 8, 8, 8, 8, 8, 8, 8, 8, 8, 8, 8, 8, 8, 8, 8, 8, 8, 8, 8, 8, 8, 8, 8, 8, 8, 8, 8, 8, 8, 8, 8, 8, 8, 8, 8, 8, 8, 8, 8, 8, 8, 8, 8, 8, 8, 8, 8, 8, 8, 8, 8, 8, 8, 8, 8, 8, 8, 8, 8, 8, 8, 8, 8, 8, 8, 8, 8, 8, 8, 8, 8, 8, 8, 8, 8, 8, 8, 8, 8, 8, 8, 8, 8, 8, 8, 8, 8, 8, 8, 8, 8, 8, 8, 8, 8, 8, 8, 8, 8, 8, 8, 8, 8, 8, 8, 8, 8, 8, 8, 8, 8, 8, 8, 8, 8, 8]
def z53fdd7c2 : List UInt8 := [48, 48, 48, 49, 48, 50, 48, 51, 48, 52, 48, 53, 48, 54, 48, 55, 48, 56, 48, 57, 49, 48, 49, 49, 49, 50, 49, 51, 49, 52, 49, 53, 49, 54, 49, 55, 49, 56, 49, 57, 50, 48, 50, 49, 50, 50, 50, 51, 50, 52, 50, 53, 50, 54, 50, 55, 50, 56, 50, 57, 51, 48, 51, 49, 51, 50, 51, 51, 51, 52, 51, 53, 51, 54, 51, 55, 51, 56, 51, 57, 52, 48, 52, 49, 52, 50, 52, 51, 52, 52, 52, 53, 52, 54, 52, 55, 52, 56, 52, 57, 53, 48, 53, 49, 53, 50, 53, 51, 53, 52, 53, 53, 53, 54, 53, 55, 53, 56, 53, 57, 54, 48, 54, 49, 54, 50, 54, 51, 54, 52, 54, 53, 54, 54, 54, 55, 54, 56, 54, 57, 55, 48, 55, 49, 55, 50, 55, 51, 55, 52, 55, 53, 55, 54, 55, 55, 55, 56, 55, 57, 56, 48, 56, 49, 56, 50, 56, 51, 56, 52, 56, 53, 56, 54, 56, 55, 56, 56, 56, 57, 57, 48, 57, 49, 57, 50, 57, 51, 57, 52, 57, 53, 57, 54, 57, 55, 57, 56, 57, 57]
def tabs : List Tabl := []
def opq : Option Nat := some 0
def c5 : MFunc := mkM (compF Tryd.prog (globs2 tabs opq) (fun n => Nat.beq n 6) true Tryd.f5) (.s .n (.s .n (.s .n (.s .n (.s .n (.s .n (.s (.s .n (.k (.l 1 [0, 2, 3, 10, 11, 12] (.s .n (.s .n (.m 2 [0, 2, 3, 10, 11, 12] .n)))))) (.m 3 [0, 3, 10, 11] (.s (.s .n (.k (.l 4 [0, 3, 10, 11, 13] (.s .n (.s (.k (.s .n (.s .n (.m 5 [0, 3, 10, 11, 13, 14] .n)))) (.m 6 [0, 3, 10, 11, 13] .n)))))) (.m 7 [10, 11] .n))))))))))
def b5_0 (O : Oracle) (R : Jump) (q : Nat) (x0 x1 x2 x3 : TVal) (h : Heap) : Res1 :=
 vcall O (.v (.c (.func 22 []))) [] h 18 fun x18 h =>
 vop O (.un .not (.k x18)) h 19 fun x19 h =>
 vif x19 (
 tcomp (kB false) fun c0 => vfin true q [c0] h)
 (vlen O 2 x0 h 21 fun x21 h =>
 vbin .gtr 0 x21 (kI 30) h fun x22 h =>
 vguard x22 false (fun kk => kk x1 h) h fun x24 h =>
 vguard x22 false (fun kk => vlen O 2 x24 h 25 kk) h fun x25 h =>
 vguard x22 false (fun kk => vbin .gtr 0 x25 (kI 150) h kk) h fun x26 h =>
 vop O (.pick (.k x22) (.k (kB true)) (.k x26)) h 27 fun x27 h =>
 vguard x27 false (fun kk => kk x2 h) h fun x29 h =>
 vguard x27 false (fun kk => vlen O 2 x29 h 30 kk) h fun x30 h =>
 vguard x27 false (fun kk => vbin .gtr 0 x30 (kI 30) h kk) h fun x31 h =>
 vop O (.pick (.k x27) (.k (kB true)) (.k x31)) h 32 fun x32 h =>
 vif x32 (
 tcomp (kB true) fun c0 => vfin true q [c0] h)
 (vop O (.build [(.p (.int .i64 0)), (.p (.str [])), (.p .nilslice), (.p .nilslice)] [(0, 1, (.k (kI 2)))]) h 33 fun x33 h =>
 vop O (.bslice 4 1 [(.p (.int .i64 0)), (.p (.str [])), (.p .nilslice), (.p .nilslice)] [(0, (.k x33))] false) h 34 fun x34 h =>
 vop O (.build [(.p (.int .i64 0)), (.p (.str [])), (.p .nilslice), (.p .nilslice)] [(0, 1, (.k (kI 6))), (3, 1, (.k x34))]) h 35 fun x35 h =>
 vop O (.alloc [(.p (.int .i64 0)), (.p (.str [])), (.p .nilslice), (.p .nilslice)] false) h 9 fun x9 h =>
 vstore 4 x9 x35 h fun _ h =>
 vop O (.bslice 1 3 [(.p (.str []))] [(0, (.k (kS [98]))), (1, (.k (kS [110]))), (2, (.k (kS [115])))] false) h 36 fun x36 h =>
 vop O (.build [(.p (.int .i64 0)), (.p (.str [])), (.p .nilslice), (.p .nilslice)] [(0, 1, (.k (kI 1)))]) h 37 fun x37 h =>
 vop O (.bslice 4 1 [(.p (.int .i64 0)), (.p (.str [])), (.p .nilslice), (.p .nilslice)] [(0, (.k x37))] false) h 38 fun x38 h =>
 vop O (.build [(.p (.int .i64 0)), (.p (.str [])), (.p .nilslice), (.p .nilslice)] [(0, 1, (.k (kI 4))), (3, 1, (.k x38))]) h 39 fun x39 h =>
 vload true 4 x9 h fun x40 h =>
 vop O (.bslice 4 1 [(.p (.int .i64 0)), (.p (.str [])), (.p .nilslice), (.p .nilslice)] [(0, (.k x40))] false) h 41 fun x41 h =>
 vop O (.build [(.p (.int .i64 0)), (.p (.str [])), (.p .nilslice), (.p .nilslice)] [(0, 1, (.k (kI 4))), (3, 1, (.k x41))]) h 42 fun x42 h =>
 vop O (.build [(.p (.int .i64 0)), (.p (.str [])), (.p .nilslice), (.p .nilslice)] [(0, 1, (.k (kI 3)))]) h 43 fun x43 h =>
 vop O (.bslice 4 3 [(.p (.int .i64 0)), (.p (.str [])), (.p .nilslice), (.p .nilslice)] [(0, (.k x39)), (1, (.k x42)), (2, (.k x43))] false) h 44 fun x44 h =>
 vop O (.build [(.p (.int .i64 0)), (.p (.str [])), (.p .nilslice), (.p .nilslice)] [(0, 1, (.k (kI 7))), (2, 1, (.k x36)), (3, 1, (.k x44))]) h 45 fun x45 h =>
 vop O (.alloc [(.p (.int .i64 0)), (.p (.str [])), (.p .nilslice), (.p .nilslice)] false) h 10 fun x10 h =>
 vstore 4 x10 x45 h fun _ h =>
 vop O (.bslice 1 3 [(.p (.str []))] [(0, (.k (kS [98]))), (1, (.k (kS [110]))), (2, (.k (kS [115])))] false) h 46 fun x46 h =>
 vop O (.build [(.p (.int .i64 0)), (.p (.bool false)), (.p (.int .i64 0)), (.p (.str [])), (.p .nilslice), (.p .nilslice)] [(0, 1, (.k (kI 4)))]) h 47 fun x47 h =>
 vop O (.build [(.p (.int .i64 0)), (.p (.bool false)), (.p (.int .i64 0)), (.p (.str [])), (.p .nilslice), (.p .nilslice)] [(0, 1, (.k (kI 4)))]) h 48 fun x48 h =>
 vop O (.toStr (.k x1)) h 50 fun x50 h =>
 vop O (.build [(.p (.int .i64 0)), (.p (.bool false)), (.p (.int .i64 0)), (.p (.str [])), (.p .nilslice), (.p .nilslice)] [(0, 1, (.k (kI 3))), (3, 1, (.k x50))]) h 51 fun x51 h =>
 vop O (.bslice 6 3 [(.p (.int .i64 0)), (.p (.bool false)), (.p (.int .i64 0)), (.p (.str [])), (.p .nilslice), (.p .nilslice)] [(0, (.k x47)), (1, (.k x48)), (2, (.k x51))] true) h 52 fun x52 h =>
 vop O (.build [(.p (.int .i64 0)), (.p (.bool false)), (.p (.int .i64 0)), (.p (.str [])), (.p .nilslice), (.p .nilslice)] [(0, 1, (.k (kI 5))), (4, 1, (.k x46)), (5, 1, (.k x52))]) h 53 fun x53 h =>
 vop O (.alloc [(.p (.int .i64 0)), (.p (.bool false)), (.p (.int .i64 0)), (.p (.str [])), (.p .nilslice), (.p .nilslice)] false) h 11 fun x11 h =>
 vstore 6 x11 x53 h fun _ h =>
 R 1 [x0, x2, x3, x10, x11, (kI 0)] h))
theorem e5_0 (O : Oracle) (R : Jump) (q : Nat) (x0 x1 x2 x3 : TVal) (h : Heap) : b5_0 O R q x0 x1 x2 x3 h = stepF c5 O R q 0 [x0, x1, x2, x3] h := by kernel_rfl
def b5_1 (O : Oracle) (R : Jump) (q : Nat) (x0 x2 x3 x10 x11 x12 : TVal) (h : Heap) : Res1 :=
 vlen O 2 x2 h 56 fun x56 h =>
 vbin .lss 0 x12 x56 h fun x57 h =>
 vif x57 (
 vop O (.alloc [(.p (.bool false))] false) h 60 fun x60 h =>
 vboth (
 vstore 1 x60 (kB true) h fun _ h =>
 vstore 1 x60 (kB false) h fun _ h =>
 vload false 1 x60 h fun x61 h =>
 vif x61 (
 vtouch O (.faddr 5 (.k x11)) h 62 fun x62 h t0 =>
 vtouch O (.load false 1 (.k x62)) h 63 fun x63 h t1 =>
 vtouch O (.iaddr 6 (.k x63) (.k (kI 0))) h 64 fun x64 h t2 =>
 vtouch O (.faddr 5 (.k x64)) h 65 fun x65 h t3 =>
 vtouch O (.load false 1 (.k x65)) h 66 fun x66 h t4 =>
 vtouch O (.mv (.k x2)) h 67 fun x67 h t5 =>
 vtouch O (.mv (.k x12)) h 68 fun x68 h t6 =>
 vtouch O (.iaddr 1 (.k x67) (.k x68)) h 69 fun x69 h t7 =>
 vtouch O (.load false 1 (.k x69)) h 70 fun x70 h t8 =>
 vtouch O (.build [(.p (.int .i64 0)), (.p (.bool false)), (.p (.int .i64 0)), (.p (.str [])), (.p .nilslice), (.p .nilslice)] [(0, 1, (.k (kI 1))), (1, 1, (.k x70))]) h 71 fun x71 h t9 =>
 vtouch O (.len 2 (.k x66)) h 72 fun x72 h t10 =>
 vtouch O (.bslice 6 1 [(.p (.int .i64 0)), (.p (.bool false)), (.p (.int .i64 0)), (.p (.str [])), (.p .nilslice), (.p .nilslice)] [(0, (.k (.v (.agg [(.p (.int .i64 0)), (.p (.bool false)), (.p (.int .i64 0)), (.p (.str [])), (.p .nilslice), (.p .nilslice)]))))] true) h 73 fun x73 h t11 =>
 vtouch O (.append 6 88 true (.k x66) (.k x73)) h 74 fun x74 h t12 =>
 vtouch O (.iaddr 6 (.k x63) (.k (kI 0))) h 75 fun x75 h t13 =>
 vtouch O (.faddr 5 (.k x75)) h 76 fun x76 h t14 =>
 vtouch O (.store 1 (.k x76) (.k x74)) h 1000000 fun _ h t15 =>
 bif apartAll [t0, t1, t2, t3, t4, t5, t6, t7, t8, t9, t10, t11, t12, t13, t14, t15] [(1, 11), (4, 11), (8, 11), (10, 11)] then
 viaddr 6 x74 x72 h fun x77 h =>
 vstore 6 x77 x71 h fun _ h =>
 R 2 [x0, x2, x3, x10, x11, x12] h
 else none)
 (vtouch O (.faddr 5 (.k x11)) h 78 fun x78 h t0 =>
 vtouch O (.load false 1 (.k x78)) h 79 fun x79 h t1 =>
 vtouch O (.faddr 5 (.k x11)) h 80 fun x80 h t2 =>
 vtouch O (.load false 1 (.k x80)) h 81 fun x81 h t3 =>
 vtouch O (.iaddr 6 (.k x81) (.k (kI 0))) h 82 fun x82 h t4 =>
 vtouch O (.faddr 5 (.k x82)) h 83 fun x83 h t5 =>
 vtouch O (.load false 1 (.k x83)) h 84 fun x84 h t6 =>
 vtouch O (.mv (.k x2)) h 85 fun x85 h t7 =>
 vtouch O (.mv (.k x12)) h 86 fun x86 h t8 =>
 vtouch O (.iaddr 1 (.k x85) (.k x86)) h 87 fun x87 h t9 =>
 vtouch O (.load false 1 (.k x87)) h 88 fun x88 h t10 =>
 vtouch O (.build [(.p (.int .i64 0)), (.p (.bool false)), (.p (.int .i64 0)), (.p (.str [])), (.p .nilslice), (.p .nilslice)] [(0, 1, (.k (kI 1))), (1, 1, (.k x88))]) h 89 fun x89 h t11 =>
 vtouch O (.bslice 6 1 [(.p (.int .i64 0)), (.p (.bool false)), (.p (.int .i64 0)), (.p (.str [])), (.p .nilslice), (.p .nilslice)] [(0, (.k x89))] true) h 90 fun x90 h t12 =>
 vtouch O (.append 6 88 true (.k x84) (.k x90)) h 91 fun x91 h t13 =>
 vtouch O (.iaddr 6 (.k x79) (.k (kI 0))) h 92 fun x92 h t14 =>
 vtouch O (.faddr 5 (.k x92)) h 93 fun x93 h t15 =>
 vtouch O (.store 1 (.k x93) (.k x91)) h 1000000 fun _ h t16 =>
 bif apartAll [t0, t1, t2, t3, t4, t5, t6, t7, t8, t9, t10, t11, t12, t13, t14, t15, t16] [(1, 12), (3, 12), (6, 12), (1, 13)] then
 R 2 [x0, x2, x3, x10, x11, x12] h
 else none))
 (vstore 1 x60 (kB false) h fun _ h =>
 vstore 1 x60 (kB true) h fun _ h =>
 vload false 1 x60 h fun x61 h =>
 vif x61 (
 vtouch O (.faddr 5 (.k x11)) h 62 fun x62 h t0 =>
 vtouch O (.load false 1 (.k x62)) h 63 fun x63 h t1 =>
 vtouch O (.iaddr 6 (.k x63) (.k (kI 0))) h 64 fun x64 h t2 =>
 vtouch O (.faddr 5 (.k x64)) h 65 fun x65 h t3 =>
 vtouch O (.load false 1 (.k x65)) h 66 fun x66 h t4 =>
 vtouch O (.mv (.k x2)) h 67 fun x67 h t5 =>
 vtouch O (.mv (.k x12)) h 68 fun x68 h t6 =>
 vtouch O (.iaddr 1 (.k x67) (.k x68)) h 69 fun x69 h t7 =>
 vtouch O (.load false 1 (.k x69)) h 70 fun x70 h t8 =>
 vtouch O (.build [(.p (.int .i64 0)), (.p (.bool false)), (.p (.int .i64 0)), (.p (.str [])), (.p .nilslice), (.p .nilslice)] [(0, 1, (.k (kI 1))), (1, 1, (.k x70))]) h 71 fun x71 h t9 =>
 vtouch O (.len 2 (.k x66)) h 72 fun x72 h t10 =>
 vtouch O (.bslice 6 1 [(.p (.int .i64 0)), (.p (.bool false)), (.p (.int .i64 0)), (.p (.str [])), (.p .nilslice), (.p .nilslice)] [(0, (.k (.v (.agg [(.p (.int .i64 0)), (.p (.bool false)), (.p (.int .i64 0)), (.p (.str [])), (.p .nilslice), (.p .nilslice)]))))] true) h 73 fun x73 h t11 =>
 vtouch O (.append 6 88 true (.k x66) (.k x73)) h 74 fun x74 h t12 =>
 vtouch O (.iaddr 6 (.k x63) (.k (kI 0))) h 75 fun x75 h t13 =>
 vtouch O (.faddr 5 (.k x75)) h 76 fun x76 h t14 =>
 vtouch O (.store 1 (.k x76) (.k x74)) h 1000000 fun _ h t15 =>
 bif apartAll [t0, t1, t2, t3, t4, t5, t6, t7, t8, t9, t10, t11, t12, t13, t14, t15] [(1, 11), (4, 11), (8, 11), (10, 11)] then
 viaddr 6 x74 x72 h fun x77 h =>
 vstore 6 x77 x71 h fun _ h =>
 R 2 [x0, x2, x3, x10, x11, x12] h
 else none)
 (vtouch O (.faddr 5 (.k x11)) h 78 fun x78 h t0 =>
 vtouch O (.load false 1 (.k x78)) h 79 fun x79 h t1 =>
 vtouch O (.faddr 5 (.k x11)) h 80 fun x80 h t2 =>
 vtouch O (.load false 1 (.k x80)) h 81 fun x81 h t3 =>
 vtouch O (.iaddr 6 (.k x81) (.k (kI 0))) h 82 fun x82 h t4 =>
 vtouch O (.faddr 5 (.k x82)) h 83 fun x83 h t5 =>
 vtouch O (.load false 1 (.k x83)) h 84 fun x84 h t6 =>
 vtouch O (.mv (.k x2)) h 85 fun x85 h t7 =>
 vtouch O (.mv (.k x12)) h 86 fun x86 h t8 =>
 vtouch O (.iaddr 1 (.k x85) (.k x86)) h 87 fun x87 h t9 =>
 vtouch O (.load false 1 (.k x87)) h 88 fun x88 h t10 =>
 vtouch O (.build [(.p (.int .i64 0)), (.p (.bool false)), (.p (.int .i64 0)), (.p (.str [])), (.p .nilslice), (.p .nilslice)] [(0, 1, (.k (kI 1))), (1, 1, (.k x88))]) h 89 fun x89 h t11 =>
 vtouch O (.bslice 6 1 [(.p (.int .i64 0)), (.p (.bool false)), (.p (.int .i64 0)), (.p (.str [])), (.p .nilslice), (.p .nilslice)] [(0, (.k x89))] true) h 90 fun x90 h t12 =>
 vtouch O (.append 6 88 true (.k x84) (.k x90)) h 91 fun x91 h t13 =>
 vtouch O (.iaddr 6 (.k x79) (.k (kI 0))) h 92 fun x92 h t14 =>
 vtouch O (.faddr 5 (.k x92)) h 93 fun x93 h t15 =>
 vtouch O (.store 1 (.k x93) (.k x91)) h 1000000 fun _ h t16 =>
 bif apartAll [t0, t1, t2, t3, t4, t5, t6, t7, t8, t9, t10, t11, t12, t13, t14, t15, t16] [(1, 12), (3, 12), (6, 12), (1, 13)] then
 R 2 [x0, x2, x3, x10, x11, x12] h
 else none)))
 (R 3 [x0, x3, x10, x11] h)
theorem e5_1 (O : Oracle) (R : Jump) (q : Nat) (x0 x2 x3 x10 x11 x12 : TVal) (h : Heap) : b5_1 O R q x0 x2 x3 x10 x11 x12 h = stepF c5 O R q 1 [x0, x2, x3, x10, x11, x12] h := by kernel_rfl
def b5_2 (O : Oracle) (R : Jump) (q : Nat) (x0 x2 x3 x10 x11 x12 : TVal) (h : Heap) : Res1 :=
 vbin .add 0 x12 (kI 1) h fun x59 h =>
 R 1 [x0, x2, x3, x10, x11, x59] h
theorem e5_2 (O : Oracle) (R : Jump) (q : Nat) (x0 x2 x3 x10 x11 x12 : TVal) (h : Heap) : b5_2 O R q x0 x2 x3 x10 x11 x12 h = stepF c5 O R q 2 [x0, x2, x3, x10, x11, x12] h := by kernel_rfl
def b5_3 (O : Oracle) (R : Jump) (q : Nat) (x0 x3 x10 x11 : TVal) (h : Heap) : Res1 :=
 R 4 [x0, x3, x10, x11, (kI 0)] h
theorem e5_3 (O : Oracle) (R : Jump) (q : Nat) (x0 x3 x10 x11 : TVal) (h : Heap) : b5_3 O R q x0 x3 x10 x11 h = stepF c5 O R q 3 [x0, x3, x10, x11] h := by kernel_rfl
def b5_4 (O : Oracle) (R : Jump) (q : Nat) (x0 x3 x10 x11 x13 : TVal) (h : Heap) : Res1 :=
 vlen O 2 x0 h 96 fun x96 h =>
 vbin .lss 0 x13 x96 h fun x97 h =>
 vif x97 (
 viaddr 1 x0 x13 h fun x102 h =>
 vload false 1 x102 h fun x103 h =>
 vop O (.build [(.p (.int .i64 0)), (.p (.bool false)), (.p (.int .i64 0)), (.p (.str [])), (.p .nilslice), (.p .nilslice)] [(0, 1, (.k (kI 2))), (2, 1, (.k x103))]) h 104 fun x104 h =>
 vop O (.alloc [(.p (.int .i64 0)), (.p (.bool false)), (.p (.int .i64 0)), (.p (.str [])), (.p .nilslice), (.p .nilslice)] false) h 14 fun x14 h =>
 vstore 6 x14 x104 h fun _ h =>
 vbin .eql 0 x13 x3 h fun x107 h =>
 vif x107 (
 vop O (.build [(.p (.int .i64 0)), (.p (.bool false)), (.p (.int .i64 0)), (.p (.str [])), (.p .nilslice), (.p .nilslice)] []) h 108 fun x108 h =>
 vstore 6 x14 x108 h fun _ h =>
 R 5 [x0, x3, x10, x11, x13, x14] h)
 (R 5 [x0, x3, x10, x11, x13, x14] h))
 (R 7 [x10, x11] h)
theorem e5_4 (O : Oracle) (R : Jump) (q : Nat) (x0 x3 x10 x11 x13 : TVal) (h : Heap) : b5_4 O R q x0 x3 x10 x11 x13 h = stepF c5 O R q 4 [x0, x3, x10, x11, x13] h := by kernel_rfl
def b5_5 (O : Oracle) (R : Jump) (q : Nat) (x0 x3 x10 x11 x13 x14 : TVal) (h : Heap) : Res1 :=
 vop O (.alloc [(.p (.bool false))] false) h 109 fun x109 h =>
 vboth (
 vstore 1 x109 (kB true) h fun _ h =>
 vstore 1 x109 (kB false) h fun _ h =>
 vload false 1 x109 h fun x110 h =>
 vif x110 (
 vtouch O (.faddr 5 (.k x11)) h 111 fun x111 h t0 =>
 vtouch O (.load false 1 (.k x111)) h 112 fun x112 h t1 =>
 vtouch O (.iaddr 6 (.k x112) (.k (kI 1))) h 113 fun x113 h t2 =>
 vtouch O (.faddr 5 (.k x113)) h 114 fun x114 h t3 =>
 vtouch O (.load false 1 (.k x114)) h 115 fun x115 h t4 =>
 vtouch O (.load true 6 (.k x14)) h 116 fun x116 h t5 =>
 vtouch O (.len 2 (.k x115)) h 117 fun x117 h t6 =>
 vtouch O (.bslice 6 1 [(.p (.int .i64 0)), (.p (.bool false)), (.p (.int .i64 0)), (.p (.str [])), (.p .nilslice), (.p .nilslice)] [(0, (.k (.v (.agg [(.p (.int .i64 0)), (.p (.bool false)), (.p (.int .i64 0)), (.p (.str [])), (.p .nilslice), (.p .nilslice)]))))] true) h 118 fun x118 h t7 =>
 vtouch O (.append 6 88 true (.k x115) (.k x118)) h 119 fun x119 h t8 =>
 vtouch O (.iaddr 6 (.k x112) (.k (kI 1))) h 120 fun x120 h t9 =>
 vtouch O (.faddr 5 (.k x120)) h 121 fun x121 h t10 =>
 vtouch O (.store 1 (.k x121) (.k x119)) h 1000000 fun _ h t11 =>
 bif apartAll [t0, t1, t2, t3, t4, t5, t6, t7, t8, t9, t10, t11] [(1, 7), (4, 7), (5, 7), (6, 7)] then
 viaddr 6 x119 x117 h fun x122 h =>
 vstore 6 x122 x116 h fun _ h =>
 R 6 [x0, x3, x10, x11, x13] h
 else none)
 (vtouch O (.faddr 5 (.k x11)) h 123 fun x123 h t0 =>
 vtouch O (.load false 1 (.k x123)) h 124 fun x124 h t1 =>
 vtouch O (.faddr 5 (.k x11)) h 125 fun x125 h t2 =>
 vtouch O (.load false 1 (.k x125)) h 126 fun x126 h t3 =>
 vtouch O (.iaddr 6 (.k x126) (.k (kI 1))) h 127 fun x127 h t4 =>
 vtouch O (.faddr 5 (.k x127)) h 128 fun x128 h t5 =>
 vtouch O (.load false 1 (.k x128)) h 129 fun x129 h t6 =>
 vtouch O (.load true 6 (.k x14)) h 130 fun x130 h t7 =>
 vtouch O (.bslice 6 1 [(.p (.int .i64 0)), (.p (.bool false)), (.p (.int .i64 0)), (.p (.str [])), (.p .nilslice), (.p .nilslice)] [(0, (.k x130))] true) h 131 fun x131 h t8 =>
 vtouch O (.append 6 88 true (.k x129) (.k x131)) h 132 fun x132 h t9 =>
 vtouch O (.iaddr 6 (.k x124) (.k (kI 1))) h 133 fun x133 h t10 =>
 vtouch O (.faddr 5 (.k x133)) h 134 fun x134 h t11 =>
 vtouch O (.store 1 (.k x134) (.k x132)) h 1000000 fun _ h t12 =>
 bif apartAll [t0, t1, t2, t3, t4, t5, t6, t7, t8, t9, t10, t11, t12] [(1, 8), (3, 8), (6, 8), (1, 9)] then
 R 6 [x0, x3, x10, x11, x13] h
 else none))
 (vstore 1 x109 (kB false) h fun _ h =>
 vstore 1 x109 (kB true) h fun _ h =>
 vload false 1 x109 h fun x110 h =>
 vif x110 (
 vtouch O (.faddr 5 (.k x11)) h 111 fun x111 h t0 =>
 vtouch O (.load false 1 (.k x111)) h 112 fun x112 h t1 =>
 vtouch O (.iaddr 6 (.k x112) (.k (kI 1))) h 113 fun x113 h t2 =>
 vtouch O (.faddr 5 (.k x113)) h 114 fun x114 h t3 =>
 vtouch O (.load false 1 (.k x114)) h 115 fun x115 h t4 =>
 vtouch O (.load true 6 (.k x14)) h 116 fun x116 h t5 =>
 vtouch O (.len 2 (.k x115)) h 117 fun x117 h t6 =>
 vtouch O (.bslice 6 1 [(.p (.int .i64 0)), (.p (.bool false)), (.p (.int .i64 0)), (.p (.str [])), (.p .nilslice), (.p .nilslice)] [(0, (.k (.v (.agg [(.p (.int .i64 0)), (.p (.bool false)), (.p (.int .i64 0)), (.p (.str [])), (.p .nilslice), (.p .nilslice)]))))] true) h 118 fun x118 h t7 =>
 vtouch O (.append 6 88 true (.k x115) (.k x118)) h 119 fun x119 h t8 =>
 vtouch O (.iaddr 6 (.k x112) (.k (kI 1))) h 120 fun x120 h t9 =>
 vtouch O (.faddr 5 (.k x120)) h 121 fun x121 h t10 =>
 vtouch O (.store 1 (.k x121) (.k x119)) h 1000000 fun _ h t11 =>
 bif apartAll [t0, t1, t2, t3, t4, t5, t6, t7, t8, t9, t10, t11] [(1, 7), (4, 7), (5, 7), (6, 7)] then
 viaddr 6 x119 x117 h fun x122 h =>
 vstore 6 x122 x116 h fun _ h =>
 R 6 [x0, x3, x10, x11, x13] h
 else none)
 (vtouch O (.faddr 5 (.k x11)) h 123 fun x123 h t0 =>
 vtouch O (.load false 1 (.k x123)) h 124 fun x124 h t1 =>
 vtouch O (.faddr 5 (.k x11)) h 125 fun x125 h t2 =>
 vtouch O (.load false 1 (.k x125)) h 126 fun x126 h t3 =>
 vtouch O (.iaddr 6 (.k x126) (.k (kI 1))) h 127 fun x127 h t4 =>
 vtouch O (.faddr 5 (.k x127)) h 128 fun x128 h t5 =>
 vtouch O (.load false 1 (.k x128)) h 129 fun x129 h t6 =>
 vtouch O (.load true 6 (.k x14)) h 130 fun x130 h t7 =>
 vtouch O (.bslice 6 1 [(.p (.int .i64 0)), (.p (.bool false)), (.p (.int .i64 0)), (.p (.str [])), (.p .nilslice), (.p .nilslice)] [(0, (.k x130))] true) h 131 fun x131 h t8 =>
 vtouch O (.append 6 88 true (.k x129) (.k x131)) h 132 fun x132 h t9 =>
 vtouch O (.iaddr 6 (.k x124) (.k (kI 1))) h 133 fun x133 h t10 =>
 vtouch O (.faddr 5 (.k x133)) h 134 fun x134 h t11 =>
 vtouch O (.store 1 (.k x134) (.k x132)) h 1000000 fun _ h t12 =>
 bif apartAll [t0, t1, t2, t3, t4, t5, t6, t7, t8, t9, t10, t11, t12] [(1, 8), (3, 8), (6, 8), (1, 9)] then
 R 6 [x0, x3, x10, x11, x13] h
 else none))
theorem e5_5 (O : Oracle) (R : Jump) (q : Nat) (x0 x3 x10 x11 x13 x14 : TVal) (h : Heap) : b5_5 O R q x0 x3 x10 x11 x13 x14 h = stepF c5 O R q 5 [x0, x3, x10, x11, x13, x14] h := by kernel_rfl
def b5_6 (O : Oracle) (R : Jump) (q : Nat) (x0 x3 x10 x11 x13 : TVal) (h : Heap) : Res1 :=
 vbin .add 0 x13 (kI 1) h fun x99 h =>
 R 4 [x0, x3, x10, x11, x99] h
theorem e5_6 (O : Oracle) (R : Jump) (q : Nat) (x0 x3 x10 x11 x13 : TVal) (h : Heap) : b5_6 O R q x0 x3 x10 x11 x13 h = stepF c5 O R q 6 [x0, x3, x10, x11, x13] h := by kernel_rfl
def b5_7 (O : Oracle) (R : Jump) (q : Nat) (x10 x11 : TVal) (h : Heap) : Res1 :=
 vload true 4 x10 h fun x136 h =>
 vop O (.build [(.p (.int .i64 0)), (.p (.str [])), (.p .nilslice), (.p .nilslice), (.p .nilslice), (.p .nilslice)] [(0, 4, (.k x136))]) h 137 fun x137 h =>
 vload true 4 x10 h fun x138 h =>
 vload true 6 x11 h fun x139 h =>
 vcall O (.v (.c (.func 23 []))) [x137, x138, x139] h 140 fun x140 h =>
 vext x140 0 h fun x141 h =>
 vext x140 1 h fun x142 h =>
 vext x140 2 h fun x143 h =>
 vtouch O (.mv (.k x143)) h 144 fun x144 h t0 =>
 vtouch O (.bin .eql 0 (.k x144) (.k (kI 0))) h 145 fun x145 h t1 =>
 vtouch O (.mv (.k x145)) h 146 fun x146 h t2 =>
 vguardT x146 true (fun kk => vtouch O (.mv (.k x142)) h 147 kk) h fun x147 h t3 =>
 vguardT x146 true (fun kk => vtouch O (.bin .eql 0 (.k x147) (.k (kS []))) h 148 kk) h fun x148 h t4 =>
 vtouch O (.pick (.k x146) (.k x148) (.k (kB false))) h 149 fun x149 h t5 =>
 vtouch O (.mv (.k x149)) h 150 fun x150 h t6 =>
 vguardT x150 true (fun kk => vtouch O (.mv (.k x141)) h 151 kk) h fun x151 h t7 =>
 vguardT x150 true (fun kk => vtouch O (.call (.k (.v (.c (.func 25 [])))) [(.k x151)]) h 152 kk) h fun x152 h t8 =>
 vguardT x150 true (fun kk => vtouch O (.load true 6 (.k x11)) h 153 kk) h fun x153 h t9 =>
 vguardT x150 true (fun kk => vtouch O (.call (.k (.v (.c (.func 24 [])))) [(.k x152), (.k x153)]) h 154 kk) h fun x154 h t10 =>
 vtouch O (.pick (.k x150) (.k x154) (.k (kB false))) h 155 fun x155 h t11 =>
 vtouch O (.mv (.k x155)) h 8 fun x8 h t12 =>
 bif apartAll [t0, t1, t2, t3, t4, t5, t6, t7, t8, t9, t10, t11, t12] [(8, 9)] then
 tcomp x8 fun c0 => vfin true q [c0] h
 else none
theorem e5_7 (O : Oracle) (R : Jump) (q : Nat) (x10 x11 : TVal) (h : Heap) : b5_7 O R q x10 x11 h = stepF c5 O R q 7 [x10, x11] h := by kernel_rfl
def d5 : BlkF := fun O R Q => [.s fun a => .s fun b => .s fun c => .s fun d => .z (b5_0 O R Q a b c d), .s fun a => .s fun b => .s fun c => .s fun d => .s fun e => .s fun f => .z (b5_1 O R Q a b c d e f), .s fun a => .s fun b => .s fun c => .s fun d => .s fun e => .s fun f => .z (b5_2 O R Q a b c d e f), .s fun a => .s fun b => .s fun c => .s fun d => .z (b5_3 O R Q a b c d), .s fun a => .s fun b => .s fun c => .s fun d => .s fun e => .z (b5_4 O R Q a b c d e), .s fun a => .s fun b => .s fun c => .s fun d => .s fun e => .s fun f => .z (b5_5 O R Q a b c d e f), .s fun a => .s fun b => .s fun c => .s fun d => .s fun e => .z (b5_6 O R Q a b c d e), .s fun a => .s fun b => .z (b5_7 O R Q a b)]
theorem o5 (O : Oracle) (R : Jump) (q : Nat) : HoldsAll c5 O R q 0 (d5 O R q) := ⟨e5_0 O R q, e5_1 O R q, e5_2 O R q, e5_3 O R q, e5_4 O R q, e5_5 O R q, e5_6 O R q, e5_7 O R q, trivial⟩
def c17 : MFunc := mkM (compF Tryd.prog (globs2 tabs opq) (fun _ => false) true Tryd.f17) .n
def b17_0 (O : Oracle) (R : Jump) (q : Nat) (x0 x1 x2 : TVal) (h : Heap) : Res1 :=
 vop O (.box (.k x0) false) h 3 fun x3 h =>
 vop O (.box (.k x1) false) h 4 fun x4 h =>
 vop O (.box (.k x2) false) h 5 fun x5 h =>
 vtouch O (.load true 6 (.k x3)) h 11 fun x11 h t0 =>
 vtouch O (.call (.k (.v (.c (.func 57 [])))) [(.k x11)]) h 12 fun x12 h t1 =>
 vtouch O (.load true 4 (.k x4)) h 13 fun x13 h t2 =>
 vtouch O (.load true 6 (.k x5)) h 14 fun x14 h t3 =>
 vtouch O (.call (.k (.v (.c (.func 58 [])))) [(.k x12), (.k x13), (.k x14)]) h 15 fun x15 h t4 =>
 vtouch O (.mv (.k x15)) h 10 fun x10 h t5 =>
 vtouch O (.extract (.k x10) 0) h 16 fun x16 h t6 =>
 vtouch O (.extract (.k x10) 1) h 17 fun x17 h t7 =>
 vtouch O (.mv (.k x16)) h 8 fun x8 h t8 =>
 vtouch O (.mv (.k x17)) h 9 fun x9 h t9 =>
 bif apartAll [t0, t1, t2, t3, t4, t5, t6, t7, t8, t9] [(1, 2), (1, 3)] then
 vop O (.un .not (.k x9)) h 19 fun x19 h =>
 vif x19 (
 tcomp x8 fun c0 => tcomp (kI 31) fun c1 => vfin true q [c0, c1] h)
 (tcomp (kS []) fun c0 => tcomp (kI 0) fun c1 => vfin true q [c0, c1] h)
 else none
theorem e17_0 (O : Oracle) (R : Jump) (q : Nat) (x0 x1 x2 : TVal) (h : Heap) : b17_0 O R q x0 x1 x2 h = stepF c17 O R q 0 [x0, x1, x2] h := by kernel_rfl
def d17 : BlkF := fun O R Q => [.s fun a => .s fun b => .s fun c => .z (b17_0 O R Q a b c)]
theorem o17 (O : Oracle) (R : Jump) (q : Nat) : HoldsAll c17 O R q 0 (d17 O R q) := ⟨e17_0 O R q, trivial⟩
def c22 : MFunc := mkM (compF Tryd.prog (globs2 tabs opq) (fun _ => false) true Tryd.f22) .n
def b22_0 (O : Oracle) (R : Jump) (q : Nat) (h : Heap) : Res1 :=
 vop O (.build [(.p (.int .i64 0)), (.p (.str [])), (.p .nilslice), (.p .nilslice)] [(0, 1, (.k (kI 2)))]) h 5 fun x5 h =>
 vop O (.build [(.p (.int .i64 0)), (.p (.str [])), (.p .nilslice), (.p .nilslice), (.p .nilslice), (.p .nilslice)] [(0, 4, (.k x5))]) h 6 fun x6 h =>
 vop O (.alloc [(.p (.int .i64 0)), (.p (.str [])), (.p .nilslice), (.p .nilslice), (.p .nilslice), (.p .nilslice)] false) h 1 fun x1 h =>
 vstore 6 x1 x6 h fun _ h =>
 vload true 6 x1 h fun x8 h =>
 vfaddr 0 x1 h fun x9 h =>
 vload true 4 x9 h fun x10 h =>
 vop O (.build [(.p (.int .i64 0)), (.p (.bool false)), (.p (.int .i64 0)), (.p (.str [])), (.p .nilslice), (.p .nilslice)] [(0, 1, (.k (kI 2))), (2, 1, (.k (kI 5)))]) h 11 fun x11 h =>
 vcall O (.v (.c (.func 23 []))) [x8, x10, x11] h 12 fun x12 h =>
 vext x12 0 h fun x13 h =>
 vext x12 1 h fun x14 h =>
 vext x12 2 h fun x15 h =>
 vbin .eql 0 x15 (kI 0) h fun x17 h =>
 vguard x17 true (fun kk => kk x14 h) h fun x19 h =>
 vguard x17 true (fun kk => vbin .eql 0 x19 (kS []) h kk) h fun x20 h =>
 vop O (.pick (.k x17) (.k x20) (.k (kB false))) h 21 fun x21 h =>
 vguard x21 true (fun kk => kk x13 h) h fun x23 h =>
 vguard x21 true (fun kk => vbin .neq 1 x23 (.v (.c (.p .nilptr))) h kk) h fun x24 h =>
 vop O (.pick (.k x21) (.k x24) (.k (kB false))) h 25 fun x25 h =>
 vguard x25 true (fun kk => kk x13 h) h fun x27 h =>
 vguard x25 true (fun kk => vcall O (.v (.c (.func 25 []))) [x27] h 28 kk) h fun x28 h =>
 vguard x25 true (fun kk => vfield 2 1 false x28 h kk) h fun x29 h =>
 vguard x25 true (fun kk => vbin .eql 0 x29 (kI 5) h kk) h fun x30 h =>
 vop O (.pick (.k x25) (.k x30) (.k (kB false))) h 31 fun x31 h =>
 vguard x31 true (fun kk => kk x13 h) h fun x33 h =>
 vguard x31 true (fun kk => vcall O (.v (.c (.func 35 []))) [x33] h 34 kk) h fun x34 h =>
 vguard x31 true (fun kk => vbin .geq 0 x34 (kI 1) h kk) h fun x35 h =>
 vop O (.pick (.k x31) (.k x35) (.k (kB false))) h 36 fun x36 h =>
 tcomp x36 fun c0 => vfin true q [c0] h
theorem e22_0 (O : Oracle) (R : Jump) (q : Nat) (h : Heap) : b22_0 O R q  h = stepF c22 O R q 0 [] h := by kernel_rfl
def d22 : BlkF := fun O R Q => [.z (b22_0 O R Q )]
theorem o22 (O : Oracle) (R : Jump) (q : Nat) : HoldsAll c22 O R q 0 (d22 O R q) := ⟨e22_0 O R q, trivial⟩
def c23 : MFunc := mkM (compF Tryd.prog (globs2 tabs opq) (fun _ => false) false Tryd.f23) .n
def b23_0 (O : Oracle) (R : Jump) (q : Nat) (x0 x1 x2 : TVal) (h : Heap) : Res1 :=
 vop O (.box (.k x0) false) h 3 fun x3 h =>
 vop O (.box (.k x1) false) h 4 fun x4 h =>
 vop O (.box (.k x2) false) h 5 fun x5 h =>
 vload true 6 x3 h fun x14 h =>
 vload true 4 x4 h fun x15 h =>
 vload true 6 x5 h fun x16 h =>
 vcall O (.v (.c (.func 17 []))) [x14, x15, x16] h 17 fun x17 h =>
 vext x17 0 h fun x18 h =>
 vext x17 1 h fun x19 h =>
 vbin .neq 0 x19 (kI 0) h fun x21 h =>
 vif x21 (
 tcomp (.v (.c (.p .nilptr))) fun c0 => tcomp x18 fun c1 => tcomp x19 fun c2 => vfin false q [c0, c1, c2] h)
 (vload true 6 x3 h fun x24 h =>
 vcall O (.v (.c (.func 72 []))) [x24] h 25 fun x25 h =>
 vload true 4 x4 h fun x27 h =>
 vload true 6 x5 h fun x28 h =>
 vcall O (.v (.c (.func 73 []))) [x25, x27, x28] h 29 fun x29 h =>
 vop O (.bslice 1 1 [(.p (.int .u64 0))] [(0, (.k x29))] false) h 32 fun x32 h =>
 vcall O (.v (.c (.func 74 []))) [x25, x32] h 33 fun x33 h =>
 vload true 4 x4 h fun x35 h =>
 vop O (.build [(.p .nilptr), (.p (.int .i64 0)), (.p (.str [])), (.p .nilslice), (.p .nilslice), (.p (.int .u64 0))] [(0, 1, (.k x25)), (1, 4, (.k x35)), (5, 1, (.k x29))]) h 37 fun x37 h =>
 vop O (.box (.k x37) false) h 38 fun x38 h =>
 tcomp x38 fun c0 => tcomp (kS []) fun c1 => tcomp (kI 0) fun c2 => vfin false q [c0, c1, c2] h)
theorem e23_0 (O : Oracle) (R : Jump) (q : Nat) (x0 x1 x2 : TVal) (h : Heap) : b23_0 O R q x0 x1 x2 h = stepF c23 O R q 0 [x0, x1, x2] h := by kernel_rfl
def d23 : BlkF := fun O R Q => [.s fun a => .s fun b => .s fun c => .z (b23_0 O R Q a b c)]
theorem o23 (O : Oracle) (R : Jump) (q : Nat) : HoldsAll c23 O R q 0 (d23 O R q) := ⟨e23_0 O R q, trivial⟩
def c24 : MFunc := mkM (compF Tryd.prog (globs2 tabs opq) (fun _ => false) true Tryd.f24) (.s .n (.s .n (.s (.s .n (.k (.l 1 [2, 3, 5] .n))) (.m 2 [2, 3] (.s (.s .n (.k (.l 3 [2, 3, 6] .n))) .n)))))
def b24_0 (O : Oracle) (R : Jump) (q : Nat) (x0 x1 : TVal) (h : Heap) : Res1 :=
 vop O (.box (.k x0) false) h 2 fun x2 h =>
 vop O (.box (.k x1) false) h 3 fun x3 h =>
 vfaddr 0 x2 h fun x7 h =>
 vload false 1 x7 h fun x8 h =>
 vfaddr 0 x3 h fun x9 h =>
 vload false 1 x9 h fun x10 h =>
 vbin .neq 0 x8 x10 h fun x11 h =>
 vguard x11 false (fun kk => vfaddr 1 x2 h kk) h fun x13 h =>
 vguard x11 false (fun kk => vload false 1 x13 h kk) h fun x14 h =>
 vguard x11 false (fun kk => vfaddr 1 x3 h kk) h fun x15 h =>
 vguard x11 false (fun kk => vload false 1 x15 h kk) h fun x16 h =>
 vguard x11 false (fun kk => vbin .neq 5 x14 x16 h kk) h fun x17 h =>
 vop O (.pick (.k x11) (.k (kB true)) (.k x17)) h 18 fun x18 h =>
 vguard x18 false (fun kk => vfaddr 2 x2 h kk) h fun x20 h =>
 vguard x18 false (fun kk => vload false 1 x20 h kk) h fun x21 h =>
 vguard x18 false (fun kk => vfaddr 2 x3 h kk) h fun x22 h =>
 vguard x18 false (fun kk => vload false 1 x22 h kk) h fun x23 h =>
 vguard x18 false (fun kk => vbin .neq 0 x21 x23 h kk) h fun x24 h =>
 vop O (.pick (.k x18) (.k (kB true)) (.k x24)) h 25 fun x25 h =>
 vguard x25 false (fun kk => vfaddr 3 x2 h kk) h fun x27 h =>
 vguard x25 false (fun kk => vload false 1 x27 h kk) h fun x28 h =>
 vguard x25 false (fun kk => vfaddr 3 x3 h kk) h fun x29 h =>
 vguard x25 false (fun kk => vload false 1 x29 h kk) h fun x30 h =>
 vguard x25 false (fun kk => vbin .neq 0 x28 x30 h kk) h fun x31 h =>
 vop O (.pick (.k x25) (.k (kB true)) (.k x31)) h 32 fun x32 h =>
 vguard x32 false (fun kk => vfaddr 4 x2 h kk) h fun x34 h =>
 vguard x32 false (fun kk => vload false 1 x34 h kk) h fun x35 h =>
 vguard x32 false (fun kk => vlen O 2 x35 h 36 kk) h fun x36 h =>
 vguard x32 false (fun kk => vfaddr 4 x3 h kk) h fun x37 h =>
 vguard x32 false (fun kk => vload false 1 x37 h kk) h fun x38 h =>
 vguard x32 false (fun kk => vlen O 2 x38 h 39 kk) h fun x39 h =>
 vguard x32 false (fun kk => vbin .neq 0 x36 x39 h kk) h fun x40 h =>
 vop O (.pick (.k x32) (.k (kB true)) (.k x40)) h 41 fun x41 h =>
 vguard x41 false (fun kk => vfaddr 5 x2 h kk) h fun x43 h =>
 vguard x41 false (fun kk => vload false 1 x43 h kk) h fun x44 h =>
 vguard x41 false (fun kk => vlen O 2 x44 h 45 kk) h fun x45 h =>
 vguard x41 false (fun kk => vfaddr 5 x3 h kk) h fun x46 h =>
 vguard x41 false (fun kk => vload false 1 x46 h kk) h fun x47 h =>
 vguard x41 false (fun kk => vlen O 2 x47 h 48 kk) h fun x48 h =>
 vguard x41 false (fun kk => vbin .neq 0 x45 x48 h kk) h fun x49 h =>
 vop O (.pick (.k x41) (.k (kB true)) (.k x49)) h 50 fun x50 h =>
 vif x50 (
 tcomp (kB false) fun c0 => vfin true q [c0] h)
 (R 1 [x2, x3, (kI 0)] h)
theorem e24_0 (O : Oracle) (R : Jump) (q : Nat) (x0 x1 : TVal) (h : Heap) : b24_0 O R q x0 x1 h = stepF c24 O R q 0 [x0, x1] h := by kernel_rfl
def b24_1 (O : Oracle) (R : Jump) (q : Nat) (x2 x3 x5 : TVal) (h : Heap) : Res1 :=
 vfaddr 4 x2 h fun x52 h =>
 vload false 1 x52 h fun x53 h =>
 vlen O 2 x53 h 54 fun x54 h =>
 vbin .lss 0 x5 x54 h fun x55 h =>
 vif x55 (
 vfaddr 4 x2 h fun x58 h =>
 vload false 1 x58 h fun x59 h =>
 viaddr 1 x59 x5 h fun x61 h =>
 vload false 1 x61 h fun x62 h =>
 vfaddr 4 x3 h fun x63 h =>
 vload false 1 x63 h fun x64 h =>
 viaddr 1 x64 x5 h fun x66 h =>
 vload false 1 x66 h fun x67 h =>
 vbin .neq 0 x62 x67 h fun x68 h =>
 vif x68 (
 tcomp (kB false) fun c0 => vfin true q [c0] h)
 (vbin .add 0 x5 (kI 1) h fun x57 h =>
 R 1 [x2, x3, x57] h))
 (R 2 [x2, x3] h)
theorem e24_1 (O : Oracle) (R : Jump) (q : Nat) (x2 x3 x5 : TVal) (h : Heap) : b24_1 O R q x2 x3 x5 h = stepF c24 O R q 1 [x2, x3, x5] h := by kernel_rfl
def b24_2 (O : Oracle) (R : Jump) (q : Nat) (x2 x3 : TVal) (h : Heap) : Res1 :=
 R 3 [x2, x3, (kI 0)] h
theorem e24_2 (O : Oracle) (R : Jump) (q : Nat) (x2 x3 : TVal) (h : Heap) : b24_2 O R q x2 x3 h = stepF c24 O R q 2 [x2, x3] h := by kernel_rfl
def b24_3 (O : Oracle) (R : Jump) (q : Nat) (x2 x3 x6 : TVal) (h : Heap) : Res1 :=
 vfaddr 5 x2 h fun x70 h =>
 vload false 1 x70 h fun x71 h =>
 vlen O 2 x71 h 72 fun x72 h =>
 vbin .lss 0 x6 x72 h fun x73 h =>
 vif x73 (
 vfaddr 5 x2 h fun x76 h =>
 vload false 1 x76 h fun x77 h =>
 viaddr 6 x77 x6 h fun x79 h =>
 vload true 6 x79 h fun x80 h =>
 vfaddr 5 x3 h fun x81 h =>
 vload false 1 x81 h fun x82 h =>
 viaddr 6 x82 x6 h fun x84 h =>
 vload true 6 x84 h fun x85 h =>
 vcall O (.v (.c (.func 24 []))) [x80, x85] h 86 fun x86 h =>
 vop O (.un .not (.k x86)) h 87 fun x87 h =>
 vif x87 (
 tcomp (kB false) fun c0 => vfin true q [c0] h)
 (vbin .add 0 x6 (kI 1) h fun x75 h =>
 R 3 [x2, x3, x75] h))
 (tcomp (kB true) fun c0 => vfin true q [c0] h)
theorem e24_3 (O : Oracle) (R : Jump) (q : Nat) (x2 x3 x6 : TVal) (h : Heap) : b24_3 O R q x2 x3 x6 h = stepF c24 O R q 3 [x2, x3, x6] h := by kernel_rfl
def d24 : BlkF := fun O R Q => [.s fun a => .s fun b => .z (b24_0 O R Q a b), .s fun a => .s fun b => .s fun c => .z (b24_1 O R Q a b c), .s fun a => .s fun b => .z (b24_2 O R Q a b), .s fun a => .s fun b => .s fun c => .z (b24_3 O R Q a b c)]
theorem o24 (O : Oracle) (R : Jump) (q : Nat) : HoldsAll c24 O R q 0 (d24 O R q) := ⟨e24_0 O R q, e24_1 O R q, e24_2 O R q, e24_3 O R q, trivial⟩
def c25 : MFunc := mkM (compF Tryd.prog (globs2 tabs opq) (fun _ => false) true Tryd.f25) .n
def b25_0 (O : Oracle) (R : Jump) (q : Nat) (x0 : TVal) (h : Heap) : Res1 :=
 vop O (.alloc [(.p (.int .i64 0)), (.p (.bool false)), (.p (.int .i64 0)), (.p (.str [])), (.p .nilslice), (.p .nilslice)] false) h 2 fun x2 h =>
 vop O (.nilck (.k x0)) h 4 fun x4 h =>
 vfaddr 0 x4 h fun x5 h =>
 vload false 1 x5 h fun x6 h =>
 vop O (.nilck (.k x0)) h 8 fun x8 h =>
 vfaddr 1 x8 h fun x9 h =>
 vload true 4 x9 h fun x10 h =>
 vop O (.nilck (.k x0)) h 12 fun x12 h =>
 vfaddr 5 x12 h fun x13 h =>
 vload false 1 x13 h fun x14 h =>
 vcall O (.v (.c (.func 75 []))) [x6, x10, x14] h 15 fun x15 h =>
 vstore 6 x2 x15 h fun _ h =>
 vcell true 6 x2 h fun c0 => vfin true q [c0] h
theorem e25_0 (O : Oracle) (R : Jump) (q : Nat) (x0 : TVal) (h : Heap) : b25_0 O R q x0 h = stepF c25 O R q 0 [x0] h := by kernel_rfl
def d25 : BlkF := fun O R Q => [.s fun a => .z (b25_0 O R Q a)]
theorem o25 (O : Oracle) (R : Jump) (q : Nat) : HoldsAll c25 O R q 0 (d25 O R q) := ⟨e25_0 O R q, trivial⟩
def c35 : MFunc := mkM (compF Tryd.prog (globs2 tabs opq) (fun _ => false) true Tryd.f35) .n
def b35_0 (O : Oracle) (R : Jump) (q : Nat) (x0 : TVal) (h : Heap) : Res1 :=
 vop O (.nilck (.k x0)) h 4 fun x4 h =>
 vfaddr 0 x4 h fun x5 h =>
 vload false 1 x5 h fun x6 h =>
 vop O (.nilck (.k x6)) h 7 fun x7 h =>
 vfaddr 0 x7 h fun x8 h =>
 vload false 1 x8 h fun x9 h =>
 vlen O 2 x9 h 10 fun x10 h =>
 tcomp x10 fun c0 => vfin true q [c0] h
theorem e35_0 (O : Oracle) (R : Jump) (q : Nat) (x0 : TVal) (h : Heap) : b35_0 O R q x0 h = stepF c35 O R q 0 [x0] h := by kernel_rfl
def d35 : BlkF := fun O R Q => [.s fun a => .z (b35_0 O R Q a)]
theorem o35 (O : Oracle) (R : Jump) (q : Nat) : HoldsAll c35 O R q 0 (d35 O R q) := ⟨e35_0 O R q, trivial⟩
def c57 : MFunc := mkM (compF Tryd.prog (globs2 tabs opq) (fun _ => false) true Tryd.f57) (.s .n (.s .n (.s (.s .n (.k (.l 1 [3, 8, 9, 10] .n))) .n)))
def b57_0 (O : Oracle) (R : Jump) (q : Nat) (x0 : TVal) (h : Heap) : Res1 :=
 vop O (.box (.k x0) false) h 1 fun x1 h =>
 vop O .mkmap h 6 fun x6 h =>
 vfaddr 4 x1 h fun x7 h =>
 vload false 1 x7 h fun x8 h =>
 vlen O 2 x8 h 9 fun x9 h =>
 R 1 [x6, x8, x9, (kI 0)] h
theorem e57_0 (O : Oracle) (R : Jump) (q : Nat) (x0 : TVal) (h : Heap) : b57_0 O R q x0 h = stepF c57 O R q 0 [x0] h := by kernel_rfl
def b57_1 (O : Oracle) (R : Jump) (q : Nat) (x3 x8 x9 x10 : TVal) (h : Heap) : Res1 :=
 vbin .lss 0 x10 x9 h fun x11 h =>
 vif x11 (
 viaddr 5 x8 x10 h fun x12 h =>
 vload true 5 x12 h fun x13 h =>
 vop O (.alloc [(.p (.str [])), (.p (.int .i64 0)), (.p (.str [])), (.p .nilslice), (.p .nilslice)] false) h 5 fun x5 h =>
 vstore 5 x5 x13 h fun _ h =>
 vfaddr 0 x5 h fun x15 h =>
 vload false 1 x15 h fun x16 h =>
 vfaddr 1 x5 h fun x17 h =>
 vload true 4 x17 h fun x18 h =>
 vop O (.mapup 2 (.k x3) (.k x16) (.k x18)) h 1000000 fun _ h =>
 vbin .add 0 x10 (kI 1) h fun x19 h =>
 R 1 [x3, x8, x9, x19] h)
 (tcomp x3 fun c0 => vfin true q [c0] h)
theorem e57_1 (O : Oracle) (R : Jump) (q : Nat) (x3 x8 x9 x10 : TVal) (h : Heap) : b57_1 O R q x3 x8 x9 x10 h = stepF c57 O R q 1 [x3, x8, x9, x10] h := by kernel_rfl
def d57 : BlkF := fun O R Q => [.s fun a => .z (b57_0 O R Q a), .s fun a => .s fun b => .s fun c => .s fun d => .z (b57_1 O R Q a b c d)]
theorem o57 (O : Oracle) (R : Jump) (q : Nat) : HoldsAll c57 O R q 0 (d57 O R q) := ⟨e57_0 O R q, e57_1 O R q, trivial⟩
def c58 : MFunc := mkM (compF Tryd.prog (globs2 tabs opq) (fun _ => false) true Tryd.f58) .n
def b58_0 (O : Oracle) (R : Jump) (q : Nat) (x0 x1 x2 : TVal) (h : Heap) : Res1 :=
 vop O (.box (.k x1) false) h 4 fun x4 h =>
 vop O (.box (.k x2) false) h 5 fun x5 h =>
 vload true 4 x4 h fun x9 h =>
 vcall O (.v (.c (.func 113 []))) [x0, x9] h 10 fun x10 h =>
 vstore 4 x4 x10 h fun _ h =>
 vfaddr 0 x4 h fun x11 h =>
 vload false 1 x11 h fun x12 h =>
 vbin .eql 0 x12 (kI 1) h fun x14 h =>
 vif x14 (
 vfaddr 0 x5 h fun x15 h =>
 vload false 1 x15 h fun x16 h =>
 vbin .eql 0 x16 (kI 1) h fun x17 h =>
 tcomp (kS []) fun c0 => tcomp x17 fun c1 => vfin true q [c0, c1] h)
 (vbin .eql 0 x12 (kI 2) h fun x19 h =>
 vif x19 (
 vfaddr 0 x5 h fun x20 h =>
 vload false 1 x20 h fun x21 h =>
 vbin .eql 0 x21 (kI 2) h fun x22 h =>
 tcomp (kS []) fun c0 => tcomp x22 fun c1 => vfin true q [c0, c1] h)
 (vbin .eql 0 x12 (kI 3) h fun x24 h =>
 vif x24 (
 vfaddr 0 x5 h fun x25 h =>
 vload false 1 x25 h fun x26 h =>
 vbin .eql 0 x26 (kI 3) h fun x27 h =>
 tcomp (kS []) fun c0 => tcomp x27 fun c1 => vfin true q [c0, c1] h)
 (vbin .eql 0 x12 (kI 4) h fun x29 h =>
 vif x29 (
 vload true 4 x4 h fun x31 h =>
 vload true 6 x5 h fun x32 h =>
 vcall O (.v (.c (.func 114 []))) [x0, x31, x32, (kI 4), (.v (.c (.func 115 [])))] h 33 fun x33 h =>
 vext x33 0 h fun x34 h =>
 vext x33 1 h fun x35 h =>
 tcomp x34 fun c0 => tcomp x35 fun c1 => vfin true q [c0, c1] h)
 (vbin .eql 0 x12 (kI 5) h fun x37 h =>
 vif x37 (
 vload true 4 x4 h fun x39 h =>
 vload true 6 x5 h fun x40 h =>
 vop O (.mkfn 117 [(.k x5)]) h 41 fun x41 h =>
 vcall O (.v (.c (.func 114 []))) [x0, x39, x40, (kI 5), x41] h 42 fun x42 h =>
 vext x42 0 h fun x43 h =>
 vext x42 1 h fun x44 h =>
 tcomp x43 fun c0 => tcomp x44 fun c1 => vfin true q [c0, c1] h)
 (vbin .eql 0 x12 (kI 6) h fun x46 h =>
 vif x46 (
 vfaddr 0 x5 h fun x47 h =>
 vload false 1 x47 h fun x48 h =>
 vbin .eql 0 x48 (kI 0) h fun x49 h =>
 vguard x49 false (fun kk => vfaddr 3 x4 h kk) h fun x51 h =>
 vguard x49 false (fun kk => vload false 1 x51 h kk) h fun x52 h =>
 vguard x49 false (fun kk => vlen O 2 x52 h 53 kk) h fun x53 h =>
 vguard x49 false (fun kk => vbin .neq 0 x53 (kI 1) h kk) h fun x54 h =>
 vop O (.pick (.k x49) (.k (kB true)) (.k x54)) h 55 fun x55 h =>
 vif x55 (
 vfaddr 0 x5 h fun x56 h =>
 vload false 1 x56 h fun x57 h =>
 vbin .eql 0 x57 (kI 0) h fun x58 h =>
 tcomp (kS []) fun c0 => tcomp x58 fun c1 => vfin true q [c0, c1] h)
 (vfaddr 3 x4 h fun x60 h =>
 vload false 1 x60 h fun x61 h =>
 viaddr 4 x61 (kI 0) h fun x62 h =>
 vload true 4 x62 h fun x63 h =>
 vload true 6 x5 h fun x64 h =>
 vcall O (.v (.c (.func 58 []))) [x0, x63, x64] h 65 fun x65 h =>
 vext x65 0 h fun x66 h =>
 vext x65 1 h fun x67 h =>
 tcomp x66 fun c0 => tcomp x67 fun c1 => vfin true q [c0, c1] h))
 (vbin .eql 0 x12 (kI 7) h fun x69 h =>
 vif x69 (
 vload true 4 x4 h fun x71 h =>
 vload true 6 x5 h fun x72 h =>
 vcall O (.v (.c (.func 118 []))) [x0, x71, x72] h 73 fun x73 h =>
 vext x73 0 h fun x74 h =>
 vext x73 1 h fun x75 h =>
 tcomp x74 fun c0 => tcomp x75 fun c1 => vfin true q [c0, c1] h)
 (vbin .eql 0 x12 (kI 8) h fun x77 h =>
 vif x77 (
 vload true 4 x4 h fun x79 h =>
 vload true 6 x5 h fun x80 h =>
 vcall O (.v (.c (.func 119 []))) [x0, x79, x80] h 81 fun x81 h =>
 vext x81 0 h fun x82 h =>
 vext x81 1 h fun x83 h =>
 tcomp x82 fun c0 => tcomp x83 fun c1 => vfin true q [c0, c1] h)
 (tcomp (kS []) fun c0 => tcomp (kB false) fun c1 => vfin true q [c0, c1] h))))))))
theorem e58_0 (O : Oracle) (R : Jump) (q : Nat) (x0 x1 x2 : TVal) (h : Heap) : b58_0 O R q x0 x1 x2 h = stepF c58 O R q 0 [x0, x1, x2] h := by kernel_rfl
def d58 : BlkF := fun O R Q => [.s fun a => .s fun b => .s fun c => .z (b58_0 O R Q a b c)]
theorem o58 (O : Oracle) (R : Jump) (q : Nat) : HoldsAll c58 O R q 0 (d58 O R q) := ⟨e58_0 O R q, trivial⟩
def c72 : MFunc := mkM (compF Tryd.prog (globs2 tabs opq) (fun _ => false) false Tryd.f72) (.s .n (.s .n (.s (.s .n (.k (.l 1 [3, 11, 12, 13] .n))) .n)))
def b72_0 (O : Oracle) (R : Jump) (q : Nat) (x0 : TVal) (h : Heap) : Res1 :=
 vop O (.box (.k x0) false) h 1 fun x1 h =>
 vop O .mkmap h 6 fun x6 h =>
 vop O .mkmap h 7 fun x7 h =>
 vop O (.build [(.p .nilslice), (.p .nilslice), (.p .nilmap), (.p .nilmap)] [(2, 1, (.k x6)), (3, 1, (.k x7))]) h 8 fun x8 h =>
 vop O (.box (.k x8) false) h 9 fun x9 h =>
 vfaddr 4 x1 h fun x10 h =>
 vload false 1 x10 h fun x11 h =>
 vlen O 2 x11 h 12 fun x12 h =>
 R 1 [x9, x11, x12, (kI 0)] h
theorem e72_0 (O : Oracle) (R : Jump) (q : Nat) (x0 : TVal) (h : Heap) : b72_0 O R q x0 h = stepF c72 O R q 0 [x0] h := by kernel_rfl
def b72_1 (O : Oracle) (R : Jump) (q : Nat) (x3 x11 x12 x13 : TVal) (h : Heap) : Res1 :=
 vbin .lss 0 x13 x12 h fun x14 h =>
 vif x14 (
 viaddr 5 x11 x13 h fun x15 h =>
 vload true 5 x15 h fun x16 h =>
 vop O (.alloc [(.p (.str [])), (.p (.int .i64 0)), (.p (.str [])), (.p .nilslice), (.p .nilslice)] false) h 5 fun x5 h =>
 vstore 5 x5 x16 h fun _ h =>
 vop O (.nilck (.k x3)) h 18 fun x18 h =>
 vfaddr 3 x18 h fun x19 h =>
 vload false 1 x19 h fun x20 h =>
 vfaddr 0 x5 h fun x21 h =>
 vload false 1 x21 h fun x22 h =>
 vfaddr 1 x5 h fun x23 h =>
 vload true 4 x23 h fun x24 h =>
 vop O (.mapup 2 (.k x20) (.k x22) (.k x24)) h 1000000 fun _ h =>
 vbin .add 0 x13 (kI 1) h fun x25 h =>
 R 1 [x3, x11, x12, x25] h)
 (tcomp x3 fun c0 => vfin false q [c0] h)
theorem e72_1 (O : Oracle) (R : Jump) (q : Nat) (x3 x11 x12 x13 : TVal) (h : Heap) : b72_1 O R q x3 x11 x12 x13 h = stepF c72 O R q 1 [x3, x11, x12, x13] h := by kernel_rfl
def d72 : BlkF := fun O R Q => [.s fun a => .z (b72_0 O R Q a), .s fun a => .s fun b => .s fun c => .s fun d => .z (b72_1 O R Q a b c d)]
theorem o72 (O : Oracle) (R : Jump) (q : Nat) : HoldsAll c72 O R q 0 (d72 O R q) := ⟨e72_0 O R q, e72_1 O R q, trivial⟩
def c73 : MFunc := mkM (compF Tryd.prog (globs2 tabs opq) (fun _ => false) true Tryd.f73) (.s .n (.s .n (.s (.s .n (.k (.s .n (.s .n (.s .n (.s .n (.s .n (.s .n (.s .n (.m 1 [0, 4, 5, 16, 32] (.s .n (.s .n (.s .n (.s .n (.s (.s .n (.s (.s .n (.k (.l 2 [0, 4, 5, 7, 56, 57, 58] .n))) (.m 3 [0, 7] .n))) (.s .n (.s (.s .n (.k (.l 4 [0, 4, 5, 81, 82, 83] .n))) .n))))))))))))))))) .n)))
def b73_0 (O : Oracle) (R : Jump) (q : Nat) (x0 x1 x2 : TVal) (h : Heap) : Res1 :=
 vop O (.box (.k x1) false) h 4 fun x4 h =>
 vop O (.box (.k x2) false) h 5 fun x5 h =>
 vload true 4 x4 h fun x13 h =>
 vcall O (.v (.c (.func 134 []))) [x0, x13] h 14 fun x14 h =>
 vstore 4 x4 x14 h fun _ h =>
 vfaddr 0 x4 h fun x15 h =>
 vload false 1 x15 h fun x16 h =>
 vbin .eql 0 x16 (kI 1) h fun x18 h =>
 vif x18 (
 vfaddr 1 x5 h fun x19 h =>
 vload false 1 x19 h fun x20 h =>
 vif x20 (
 tcomp (.v (.c (.p (.int .u64 1)))) fun c0 => vfin true q [c0] h)
 (tcomp (.v (.c (.p (.int .u64 0)))) fun c0 => vfin true q [c0] h))
 (vbin .eql 0 x16 (kI 2) h fun x22 h =>
 vif x22 (
 vfaddr 2 x5 h fun x23 h =>
 vload false 1 x23 h fun x24 h =>
 vtoInt .u64 x24 h fun x25 h =>
 tcomp x25 fun c0 => vfin true q [c0] h)
 (vbin .eql 0 x16 (kI 3) h fun x27 h =>
 vif x27 (
 vfaddr 3 x5 h fun x29 h =>
 vload false 1 x29 h fun x30 h =>
 vcall O (.v (.c (.func 135 []))) [x0, x30] h 31 fun x31 h =>
 tcomp x31 fun c0 => vfin true q [c0] h)
 (vbin .eql 0 x16 (kI 4) h fun x33 h =>
 vif x33 (
 R 1 [x0, x4, x5, x16, x33] h)
 (vbin .eql 0 x16 (kI 5) h fun x34 h =>
 R 1 [x0, x4, x5, x16, x34] h))))
theorem e73_0 (O : Oracle) (R : Jump) (q : Nat) (x0 x1 x2 : TVal) (h : Heap) : b73_0 O R q x0 x1 x2 h = stepF c73 O R q 0 [x0, x1, x2] h := by kernel_rfl
def b73_1 (O : Oracle) (R : Jump) (q : Nat) (x0 x4 x5 x16 x32 : TVal) (h : Heap) : Res1 :=
 vif x32 (
 vload true 4 x4 h fun x36 h =>
 vload true 6 x5 h fun x37 h =>
 vcall O (.v (.c (.func 136 []))) [x0, x36, x37] h 38 fun x38 h =>
 tcomp x38 fun c0 => vfin true q [c0] h)
 (vbin .eql 0 x16 (kI 6) h fun x40 h =>
 vif x40 (
 vfaddr 0 x5 h fun x41 h =>
 vload false 1 x41 h fun x42 h =>
 vbin .eql 0 x42 (kI 0) h fun x43 h =>
 vif x43 (
 tcomp (.v (.c (.p (.int .u64 0)))) fun c0 => vfin true q [c0] h)
 (vtouch O (.mv (.k x0)) h 44 fun x44 h t0 =>
 vtouch O (.mv (.k x0)) h 45 fun x45 h t1 =>
 vtouch O (.load true 4 (.k x4)) h 46 fun x46 h t2 =>
 vtouch O (.call (.k (.v (.c (.func 137 [])))) [(.k x46), (.k (kI 0))]) h 47 fun x47 h t3 =>
 vtouch O (.load true 6 (.k x5)) h 48 fun x48 h t4 =>
 vtouch O (.call (.k (.v (.c (.func 73 [])))) [(.k x45), (.k x47), (.k x48)]) h 49 fun x49 h t5 =>
 vtouch O (.bslice 1 1 [(.p (.int .u64 0))] [(0, (.k x49))] false) h 50 fun x50 h t6 =>
 vtouch O (.call (.k (.v (.c (.func 74 [])))) [(.k x44), (.k x50)]) h 51 fun x51 h t7 =>
 vtouch O (.bin .add 0 (.k x51) (.k (.v (.c (.p (.int .u64 1)))))) h 52 fun x52 h t8 =>
 vtouch O (.mv (.k x52)) h 6 fun x6 h t9 =>
 bif apartAll [t0, t1, t2, t3, t4, t5, t6, t7, t8, t9] [(3, 4)] then
 tcomp x6 fun c0 => vfin true q [c0] h
 else none))
 (vbin .eql 0 x16 (kI 7) h fun x54 h =>
 vif x54 (
 vfaddr 2 x4 h fun x55 h =>
 vload false 1 x55 h fun x56 h =>
 vlen O 2 x56 h 57 fun x57 h =>
 R 2 [x0, x4, x5, (.v (.c (.p .nilslice))), x56, x57, (kI 0)] h)
 (vbin .eql 0 x16 (kI 8) h fun x79 h =>
 vif x79 (
 vfaddr 2 x4 h fun x80 h =>
 vload false 1 x80 h fun x81 h =>
 vlen O 2 x81 h 82 fun x82 h =>
 R 4 [x0, x4, x5, x81, x82, (kI 0)] h)
 (tcomp (.v (.c (.p (.int .u64 0)))) fun c0 => vfin true q [c0] h))))
theorem e73_1 (O : Oracle) (R : Jump) (q : Nat) (x0 x4 x5 x16 x32 : TVal) (h : Heap) : b73_1 O R q x0 x4 x5 x16 x32 h = stepF c73 O R q 1 [x0, x4, x5, x16, x32] h := by kernel_rfl
def b73_2 (O : Oracle) (R : Jump) (q : Nat) (x0 x4 x5 x7 x56 x57 x58 : TVal) (h : Heap) : Res1 :=
 vbin .lss 0 x58 x57 h fun x59 h =>
 vif x59 (
 viaddr 1 x56 x58 h fun x61 h =>
 vload false 1 x61 h fun x62 h =>
 vtouch O (.mv (.k x7)) h 63 fun x63 h t0 =>
 vtouch O (.mv (.k x0)) h 64 fun x64 h t1 =>
 vtouch O (.load true 4 (.k x4)) h 65 fun x65 h t2 =>
 vtouch O (.mv (.k x58)) h 66 fun x66 h t3 =>
 vtouch O (.call (.k (.v (.c (.func 137 [])))) [(.k x65), (.k x66)]) h 67 fun x67 h t4 =>
 vtouch O (.load true 6 (.k x5)) h 68 fun x68 h t5 =>
 vtouch O (.mv (.k x62)) h 69 fun x69 h t6 =>
 vtouch O (.call (.k (.v (.c (.func 138 [])))) [(.k x68), (.k x69)]) h 70 fun x70 h t7 =>
 vtouch O (.call (.k (.v (.c (.func 73 [])))) [(.k x64), (.k x67), (.k x70)]) h 71 fun x71 h t8 =>
 vtouch O (.bslice 1 1 [(.p (.int .u64 0))] [(0, (.k x71))] false) h 72 fun x72 h t9 =>
 vtouch O (.append 1 8 false (.k x63) (.k x72)) h 73 fun x73 h t10 =>
 vtouch O (.mv (.k x73)) h 7 fun x7_1 h t11 =>
 bif apartAll [t0, t1, t2, t3, t4, t5, t6, t7, t8, t9, t10, t11] [(4, 5)] then
 vbin .add 0 x58 (kI 1) h fun x74 h =>
 R 2 [x0, x4, x5, x7_1, x56, x57, x74] h
 else none)
 (R 3 [x0, x7] h)
theorem e73_2 (O : Oracle) (R : Jump) (q : Nat) (x0 x4 x5 x7 x56 x57 x58 : TVal) (h : Heap) : b73_2 O R q x0 x4 x5 x7 x56 x57 x58 h = stepF c73 O R q 2 [x0, x4, x5, x7, x56, x57, x58] h := by kernel_rfl
def b73_3 (O : Oracle) (R : Jump) (q : Nat) (x0 x7 : TVal) (h : Heap) : Res1 :=
 vcall O (.v (.c (.func 74 []))) [x0, x7] h 77 fun x77 h =>
 tcomp x77 fun c0 => vfin true q [c0] h
theorem e73_3 (O : Oracle) (R : Jump) (q : Nat) (x0 x7 : TVal) (h : Heap) : b73_3 O R q x0 x7 h = stepF c73 O R q 3 [x0, x7] h := by kernel_rfl
def b73_4 (O : Oracle) (R : Jump) (q : Nat) (x0 x4 x5 x81 x82 x83 : TVal) (h : Heap) : Res1 :=
 vbin .lss 0 x83 x82 h fun x84 h =>
 vif x84 (
 viaddr 1 x81 x83 h fun x86 h =>
 vload false 1 x86 h fun x87 h =>
 vfaddr 4 x5 h fun x88 h =>
 vload false 1 x88 h fun x89 h =>
 vcall O (.v (.c (.func 139 []))) [x89, x87] h 91 fun x91 h =>
 vif x91 (
 vtouch O (.mv (.k x0)) h 92 fun x92 h t0 =>
 vtouch O (.mv (.k x83)) h 93 fun x93 h t1 =>
 vtouch O (.toInt .u64 (.k x93)) h 94 fun x94 h t2 =>
 vtouch O (.mv (.k x0)) h 95 fun x95 h t3 =>
 vtouch O (.load true 4 (.k x4)) h 96 fun x96 h t4 =>
 vtouch O (.mv (.k x83)) h 97 fun x97 h t5 =>
 vtouch O (.call (.k (.v (.c (.func 137 [])))) [(.k x96), (.k x97)]) h 98 fun x98 h t6 =>
 vtouch O (.load true 6 (.k x5)) h 99 fun x99 h t7 =>
 vtouch O (.mv (.k x87)) h 100 fun x100 h t8 =>
 vtouch O (.call (.k (.v (.c (.func 138 [])))) [(.k x99), (.k x100)]) h 101 fun x101 h t9 =>
 vtouch O (.call (.k (.v (.c (.func 73 [])))) [(.k x95), (.k x98), (.k x101)]) h 102 fun x102 h t10 =>
 vtouch O (.bslice 1 2 [(.p (.int .u64 0))] [(0, (.k x94)), (1, (.k x102))] false) h 103 fun x103 h t11 =>
 vtouch O (.call (.k (.v (.c (.func 74 [])))) [(.k x92), (.k x103)]) h 104 fun x104 h t12 =>
 vtouch O (.mv (.k x104)) h 6 fun x6 h t13 =>
 bif apartAll [t0, t1, t2, t3, t4, t5, t6, t7, t8, t9, t10, t11, t12, t13] [(6, 7)] then
 tcomp x6 fun c0 => vfin true q [c0] h
 else none)
 (vbin .add 0 x83 (kI 1) h fun x105 h =>
 R 4 [x0, x4, x5, x81, x82, x105] h))
 (tcomp (.v (.c (.p (.int .u64 0)))) fun c0 => vfin true q [c0] h)
theorem e73_4 (O : Oracle) (R : Jump) (q : Nat) (x0 x4 x5 x81 x82 x83 : TVal) (h : Heap) : b73_4 O R q x0 x4 x5 x81 x82 x83 h = stepF c73 O R q 4 [x0, x4, x5, x81, x82, x83] h := by kernel_rfl
def d73 : BlkF := fun O R Q => [.s fun a => .s fun b => .s fun c => .z (b73_0 O R Q a b c), .s fun a => .s fun b => .s fun c => .s fun d => .s fun e => .z (b73_1 O R Q a b c d e), .s fun a => .s fun b => .s fun c => .s fun d => .s fun e => .s fun f => .s fun g => .z (b73_2 O R Q a b c d e f g), .s fun a => .s fun b => .z (b73_3 O R Q a b), .s fun a => .s fun b => .s fun c => .s fun d => .s fun e => .s fun f => .z (b73_4 O R Q a b c d e f)]
theorem o73 (O : Oracle) (R : Jump) (q : Nat) : HoldsAll c73 O R q 0 (d73 O R q) := ⟨e73_0 O R q, e73_1 O R q, e73_2 O R q, e73_3 O R q, e73_4 O R q, trivial⟩
def c74 : MFunc := mkM (compF Tryd.prog (globs2 tabs opq) (fun n => Nat.beq n 1) true Tryd.f74) .n
def b74_0 (O : Oracle) (R : Jump) (q : Nat) (x0 x1 : TVal) (h : Heap) : Res1 :=
 vop O (.nilck (.k x0)) h 7 fun x7 h =>
 vfaddr 0 x7 h fun x8 h =>
 vload false 1 x8 h fun x9 h =>
 vlen O 2 x9 h 10 fun x10 h =>
 vtoInt .u64 x10 h fun x11 h =>
 vop O (.nilck (.k x0)) h 14 fun x14 h =>
 vfaddr 0 x14 h fun x15 h =>
 vload false 1 x15 h fun x16 h =>
 vop O (.append 1 8 true (.k x16) (.k x1)) h 18 fun x18 h =>
 vop O (.nilck (.k x0)) h 19 fun x19 h =>
 vfaddr 0 x19 h fun x20 h =>
 vstore 1 x20 x18 h fun _ h =>
 tcomp x11 fun c0 => vfin true q [c0] h
theorem e74_0 (O : Oracle) (R : Jump) (q : Nat) (x0 x1 : TVal) (h : Heap) : b74_0 O R q x0 x1 h = stepF c74 O R q 0 [x0, x1] h := by kernel_rfl
def d74 : BlkF := fun O R Q => [.s fun a => .s fun b => .z (b74_0 O R Q a b)]
theorem o74 (O : Oracle) (R : Jump) (q : Nat) : HoldsAll c74 O R q 0 (d74 O R q) := ⟨e74_0 O R q, trivial⟩
def c75 : MFunc := mkM (compF Tryd.prog (globs2 tabs opq) (fun _ => false) true Tryd.f75) (.s .n (.s .n (.s (.s .n (.k (.s .n (.s .n (.s .n (.s .n (.s .n (.s .n (.s .n (.s .n (.s .n (.m 1 [0, 2, 4, 6, 15, 45] (.s .n (.s .n (.s (.s .n (.s (.s .n (.k (.l 2 [0, 2, 4, 6, 7, 57, 58] .n))) (.m 3 [6, 7] .n))) (.s .n (.s (.s .n (.s (.s .n (.k (.l 4 [0, 2, 4, 6, 9, 83, 84] .n))) (.m 5 [6, 9] .n))) .n))))))))))))))))) (.m 6 [6] .n))))
def b75_0 (O : Oracle) (R : Jump) (q : Nat) (x0 x1 x2 : TVal) (h : Heap) : Res1 :=
 vop O (.box (.k x1) false) h 4 fun x4 h =>
 vop O (.alloc [(.p (.int .i64 0)), (.p (.bool false)), (.p (.int .i64 0)), (.p (.str [])), (.p .nilslice), (.p .nilslice)] false) h 6 fun x6 h =>
 vload true 4 x4 h fun x12 h =>
 vcall O (.v (.c (.func 134 []))) [x0, x12] h 13 fun x13 h =>
 vstore 4 x4 x13 h fun _ h =>
 vfaddr 0 x4 h fun x14 h =>
 vload false 1 x14 h fun x15 h =>
 vbin .eql 0 x15 (kI 1) h fun x17 h =>
 vif x17 (
 vbin .neq 0 x2 (.v (.c (.p (.int .u64 0)))) h fun x19 h =>
 vop O (.build [(.p (.int .i64 0)), (.p (.bool false)), (.p (.int .i64 0)), (.p (.str [])), (.p .nilslice), (.p .nilslice)] [(0, 1, (.k (kI 1))), (1, 1, (.k x19))]) h 20 fun x20 h =>
 vstore 6 x6 x20 h fun _ h =>
 vcell true 6 x6 h fun c0 => vfin true q [c0] h)
 (vbin .eql 0 x15 (kI 2) h fun x22 h =>
 vif x22 (
 vtoInt .i64 x2 h fun x24 h =>
 vop O (.build [(.p (.int .i64 0)), (.p (.bool false)), (.p (.int .i64 0)), (.p (.str [])), (.p .nilslice), (.p .nilslice)] [(0, 1, (.k (kI 2))), (2, 1, (.k x24))]) h 25 fun x25 h =>
 vstore 6 x6 x25 h fun _ h =>
 vcell true 6 x6 h fun c0 => vfin true q [c0] h)
 (vbin .eql 0 x15 (kI 3) h fun x27 h =>
 vif x27 (
 vcall O (.v (.c (.func 140 []))) [x0, x2] h 30 fun x30 h =>
 vop O (.build [(.p (.int .i64 0)), (.p (.bool false)), (.p (.int .i64 0)), (.p (.str [])), (.p .nilslice), (.p .nilslice)] [(0, 1, (.k (kI 3))), (3, 1, (.k x30))]) h 31 fun x31 h =>
 vstore 6 x6 x31 h fun _ h =>
 vcell true 6 x6 h fun c0 => vfin true q [c0] h)
 (vbin .eql 0 x15 (kI 6) h fun x33 h =>
 vif x33 (
 vbin .eql 0 x2 (.v (.c (.p (.int .u64 0)))) h fun x35 h =>
 vif x35 (
 vop O (.build [(.p (.int .i64 0)), (.p (.bool false)), (.p (.int .i64 0)), (.p (.str [])), (.p .nilslice), (.p .nilslice)] []) h 36 fun x36 h =>
 vstore 6 x6 x36 h fun _ h =>
 vcell true 6 x6 h fun c0 => vfin true q [c0] h)
 (vload true 4 x4 h fun x38 h =>
 vcall O (.v (.c (.func 137 []))) [x38, (kI 0)] h 39 fun x39 h =>
 vbin .sub 0 x2 (.v (.c (.p (.int .u64 1)))) h fun x42 h =>
 vcall O (.v (.c (.func 141 []))) [x0, x42] h 43 fun x43 h =>
 vcall O (.v (.c (.func 75 []))) [x0, x39, x43] h 44 fun x44 h =>
 vstore 6 x6 x44 h fun _ h =>
 vcell true 6 x6 h fun c0 => vfin true q [c0] h))
 (vbin .eql 0 x15 (kI 7) h fun x46 h =>
 vif x46 (
 R 1 [x0, x2, x4, x6, x15, x46] h)
 (vbin .eql 0 x15 (kI 8) h fun x47 h =>
 R 1 [x0, x2, x4, x6, x15, x47] h)))))
theorem e75_0 (O : Oracle) (R : Jump) (q : Nat) (x0 x1 x2 : TVal) (h : Heap) : b75_0 O R q x0 x1 x2 h = stepF c75 O R q 0 [x0, x1, x2] h := by kernel_rfl
def b75_1 (O : Oracle) (R : Jump) (q : Nat) (x0 x2 x4 x6 x15 x45 : TVal) (h : Heap) : Res1 :=
 vif x45 (
 vload true 4 x4 h fun x49 h =>
 vcall O (.v (.c (.func 142 []))) [x0, x49, x2] h 51 fun x51 h =>
 vstore 6 x6 x51 h fun _ h =>
 vcell true 6 x6 h fun c0 => vfin true q [c0] h)
 (vbin .eql 0 x15 (kI 4) h fun x53 h =>
 vif x53 (
 vop O (.build [(.p (.int .i64 0)), (.p (.bool false)), (.p (.int .i64 0)), (.p (.str [])), (.p .nilslice), (.p .nilslice)] [(0, 1, (.k (kI 4)))]) h 54 fun x54 h =>
 vop O (.alloc [(.p (.int .i64 0)), (.p (.bool false)), (.p (.int .i64 0)), (.p (.str [])), (.p .nilslice), (.p .nilslice)] false) h 7 fun x7 h =>
 vstore 6 x7 x54 h fun _ h =>
 vcall O (.v (.c (.func 141 []))) [x0, x2] h 57 fun x57 h =>
 R 2 [x0, x2, x4, x6, x7, x57, (.v (.c (.p (.int .u64 0))))] h)
 (vbin .eql 0 x15 (kI 5) h fun x79 h =>
 vif x79 (
 vop O (.build [(.p (.int .i64 0)), (.p (.bool false)), (.p (.int .i64 0)), (.p (.str [])), (.p .nilslice), (.p .nilslice)] [(0, 1, (.k (kI 5)))]) h 80 fun x80 h =>
 vop O (.alloc [(.p (.int .i64 0)), (.p (.bool false)), (.p (.int .i64 0)), (.p (.str [])), (.p .nilslice), (.p .nilslice)] false) h 9 fun x9 h =>
 vstore 6 x9 x80 h fun _ h =>
 vcall O (.v (.c (.func 141 []))) [x0, x2] h 83 fun x83 h =>
 R 4 [x0, x2, x4, x6, x9, x83, (.v (.c (.p (.int .u64 0))))] h)
 (R 6 [x6] h)))
theorem e75_1 (O : Oracle) (R : Jump) (q : Nat) (x0 x2 x4 x6 x15 x45 : TVal) (h : Heap) : b75_1 O R q x0 x2 x4 x6 x15 x45 h = stepF c75 O R q 1 [x0, x2, x4, x6, x15, x45] h := by kernel_rfl
def b75_2 (O : Oracle) (R : Jump) (q : Nat) (x0 x2 x4 x6 x7 x57 x58 : TVal) (h : Heap) : Res1 :=
 vbin .lss 0 x58 x57 h fun x59 h =>
 vif x59 (
 vtouch O (.faddr 5 (.k x7)) h 61 fun x61 h t0 =>
 vtouch O (.load false 1 (.k x61)) h 62 fun x62 h t1 =>
 vtouch O (.mv (.k x0)) h 63 fun x63 h t2 =>
 vtouch O (.load true 4 (.k x4)) h 64 fun x64 h t3 =>
 vtouch O (.call (.k (.v (.c (.func 137 [])))) [(.k x64), (.k (kI 0))]) h 65 fun x65 h t4 =>
 vtouch O (.mv (.k x0)) h 66 fun x66 h t5 =>
 vtouch O (.mv (.k x2)) h 67 fun x67 h t6 =>
 vtouch O (.bin .add 0 (.k x67) (.k (.v (.c (.p (.int .u64 1)))))) h 68 fun x68 h t7 =>
 vtouch O (.mv (.k x58)) h 69 fun x69 h t8 =>
 vtouch O (.bin .add 0 (.k x68) (.k x69)) h 70 fun x70 h t9 =>
 vtouch O (.call (.k (.v (.c (.func 141 [])))) [(.k x66), (.k x70)]) h 71 fun x71 h t10 =>
 vtouch O (.call (.k (.v (.c (.func 75 [])))) [(.k x63), (.k x65), (.k x71)]) h 72 fun x72 h t11 =>
 vtouch O (.bslice 6 1 [(.p (.int .i64 0)), (.p (.bool false)), (.p (.int .i64 0)), (.p (.str [])), (.p .nilslice), (.p .nilslice)] [(0, (.k x72))] false) h 73 fun x73 h t12 =>
 vtouch O (.append 6 88 false (.k x62) (.k x73)) h 74 fun x74 h t13 =>
 vtouch O (.faddr 5 (.k x7)) h 75 fun x75 h t14 =>
 vtouch O (.store 1 (.k x75) (.k x74)) h 1000000 fun _ h t15 =>
 bif apartAll [t0, t1, t2, t3, t4, t5, t6, t7, t8, t9, t10, t11, t12, t13, t14, t15] [(1, 4), (1, 10), (1, 11), (1, 12)] then
 vbin .add 0 x58 (.v (.c (.p (.int .u64 1)))) h fun x76 h =>
 R 2 [x0, x2, x4, x6, x7, x57, x76] h
 else none)
 (R 3 [x6, x7] h)
theorem e75_2 (O : Oracle) (R : Jump) (q : Nat) (x0 x2 x4 x6 x7 x57 x58 : TVal) (h : Heap) : b75_2 O R q x0 x2 x4 x6 x7 x57 x58 h = stepF c75 O R q 2 [x0, x2, x4, x6, x7, x57, x58] h := by kernel_rfl
def b75_3 (O : Oracle) (R : Jump) (q : Nat) (x6 x7 : TVal) (h : Heap) : Res1 :=
 vload true 6 x7 h fun x77 h =>
 vstore 6 x6 x77 h fun _ h =>
 vcell true 6 x6 h fun c0 => vfin true q [c0] h
theorem e75_3 (O : Oracle) (R : Jump) (q : Nat) (x6 x7 : TVal) (h : Heap) : b75_3 O R q x6 x7 h = stepF c75 O R q 3 [x6, x7] h := by kernel_rfl
def b75_4 (O : Oracle) (R : Jump) (q : Nat) (x0 x2 x4 x6 x9 x83 x84 : TVal) (h : Heap) : Res1 :=
 vbin .lss 0 x84 x83 h fun x85 h =>
 vif x85 (
 vtouch O (.faddr 4 (.k x9)) h 87 fun x87 h t0 =>
 vtouch O (.load false 1 (.k x87)) h 88 fun x88 h t1 =>
 vtouch O (.mv (.k x0)) h 89 fun x89 h t2 =>
 vtouch O (.mv (.k x0)) h 90 fun x90 h t3 =>
 vtouch O (.mv (.k x2)) h 91 fun x91 h t4 =>
 vtouch O (.bin .add 0 (.k x91) (.k (.v (.c (.p (.int .u64 1)))))) h 92 fun x92 h t5 =>
 vtouch O (.mv (.k x84)) h 93 fun x93 h t6 =>
 vtouch O (.bin .mul 0 (.k (.v (.c (.p (.int .u64 2))))) (.k x93)) h 94 fun x94 h t7 =>
 vtouch O (.bin .add 0 (.k x92) (.k x94)) h 95 fun x95 h t8 =>
 vtouch O (.call (.k (.v (.c (.func 141 [])))) [(.k x90), (.k x95)]) h 96 fun x96 h t9 =>
 vtouch O (.call (.k (.v (.c (.func 140 [])))) [(.k x89), (.k x96)]) h 97 fun x97 h t10 =>
 vtouch O (.bslice 1 1 [(.p (.str []))] [(0, (.k x97))] false) h 98 fun x98 h t11 =>
 vtouch O (.append 1 16 false (.k x88) (.k x98)) h 99 fun x99 h t12 =>
 vtouch O (.faddr 5 (.k x9)) h 100 fun x100 h t13 =>
 vtouch O (.load false 1 (.k x100)) h 101 fun x101 h t14 =>
 vtouch O (.mv (.k x0)) h 102 fun x102 h t15 =>
 vtouch O (.load true 4 (.k x4)) h 103 fun x103 h t16 =>
 vtouch O (.call (.k (.v (.c (.func 137 [])))) [(.k x103), (.k (kI 0))]) h 104 fun x104 h t17 =>
 vtouch O (.mv (.k x0)) h 105 fun x105 h t18 =>
 vtouch O (.mv (.k x2)) h 106 fun x106 h t19 =>
 vtouch O (.bin .add 0 (.k x106) (.k (.v (.c (.p (.int .u64 2)))))) h 107 fun x107 h t20 =>
 vtouch O (.mv (.k x84)) h 108 fun x108 h t21 =>
 vtouch O (.bin .mul 0 (.k (.v (.c (.p (.int .u64 2))))) (.k x108)) h 109 fun x109 h t22 =>
 vtouch O (.bin .add 0 (.k x107) (.k x109)) h 110 fun x110 h t23 =>
 vtouch O (.call (.k (.v (.c (.func 141 [])))) [(.k x105), (.k x110)]) h 111 fun x111 h t24 =>
 vtouch O (.call (.k (.v (.c (.func 75 [])))) [(.k x102), (.k x104), (.k x111)]) h 112 fun x112 h t25 =>
 vtouch O (.bslice 6 1 [(.p (.int .i64 0)), (.p (.bool false)), (.p (.int .i64 0)), (.p (.str [])), (.p .nilslice), (.p .nilslice)] [(0, (.k x112))] false) h 113 fun x113 h t26 =>
 vtouch O (.append 6 88 false (.k x101) (.k x113)) h 114 fun x114 h t27 =>
 vtouch O (.faddr 4 (.k x9)) h 115 fun x115 h t28 =>
 vtouch O (.store 1 (.k x115) (.k x99)) h 1000000 fun _ h t29 =>
 vtouch O (.faddr 5 (.k x9)) h 116 fun x116 h t30 =>
 vtouch O (.store 1 (.k x116) (.k x114)) h 1000000 fun _ h t31 =>
 bif apartAll [t0, t1, t2, t3, t4, t5, t6, t7, t8, t9, t10, t11, t12, t13, t14, t15, t16, t17, t18, t19, t20, t21, t22, t23, t24, t25, t26, t27, t28, t29, t30, t31] [(1, 9), (1, 10), (1, 11), (9, 14), (10, 14), (11, 14), (12, 14), (9, 16), (10, 16), (11, 16), (12, 16), (14, 17), (14, 24), (14, 25), (14, 26)] then
 vbin .add 0 x84 (.v (.c (.p (.int .u64 1)))) h fun x117 h =>
 R 4 [x0, x2, x4, x6, x9, x83, x117] h
 else none)
 (R 5 [x6, x9] h)
theorem e75_4 (O : Oracle) (R : Jump) (q : Nat) (x0 x2 x4 x6 x9 x83 x84 : TVal) (h : Heap) : b75_4 O R q x0 x2 x4 x6 x9 x83 x84 h = stepF c75 O R q 4 [x0, x2, x4, x6, x9, x83, x84] h := by kernel_rfl
def b75_5 (O : Oracle) (R : Jump) (q : Nat) (x6 x9 : TVal) (h : Heap) : Res1 :=
 vload true 6 x9 h fun x118 h =>
 vstore 6 x6 x118 h fun _ h =>
 vcell true 6 x6 h fun c0 => vfin true q [c0] h
theorem e75_5 (O : Oracle) (R : Jump) (q : Nat) (x6 x9 : TVal) (h : Heap) : b75_5 O R q x6 x9 h = stepF c75 O R q 5 [x6, x9] h := by kernel_rfl
def b75_6 (O : Oracle) (R : Jump) (q : Nat) (x6 : TVal) (h : Heap) : Res1 :=
 vop O (.build [(.p (.int .i64 0)), (.p (.bool false)), (.p (.int .i64 0)), (.p (.str [])), (.p .nilslice), (.p .nilslice)] []) h 119 fun x119 h =>
 vstore 6 x6 x119 h fun _ h =>
 vcell true 6 x6 h fun c0 => vfin true q [c0] h
theorem e75_6 (O : Oracle) (R : Jump) (q : Nat) (x6 : TVal) (h : Heap) : b75_6 O R q x6 h = stepF c75 O R q 6 [x6] h := by kernel_rfl
def d75 : BlkF := fun O R Q => [.s fun a => .s fun b => .s fun c => .z (b75_0 O R Q a b c), .s fun a => .s fun b => .s fun c => .s fun d => .s fun e => .s fun f => .z (b75_1 O R Q a b c d e f), .s fun a => .s fun b => .s fun c => .s fun d => .s fun e => .s fun f => .s fun g => .z (b75_2 O R Q a b c d e f g), .s fun a => .s fun b => .z (b75_3 O R Q a b), .s fun a => .s fun b => .s fun c => .s fun d => .s fun e => .s fun f => .s fun g => .z (b75_4 O R Q a b c d e f g), .s fun a => .s fun b => .z (b75_5 O R Q a b), .s fun a => .z (b75_6 O R Q a)]
theorem o75 (O : Oracle) (R : Jump) (q : Nat) : HoldsAll c75 O R q 0 (d75 O R q) := ⟨e75_0 O R q, e75_1 O R q, e75_2 O R q, e75_3 O R q, e75_4 O R q, e75_5 O R q, e75_6 O R q, trivial⟩
def c113 : MFunc := mkM (compF Tryd.prog (globs2 tabs opq) (fun _ => false) true Tryd.f113) (.s .n (.s (.s .n (.k (.l 1 [0, 3, 4, 6, 7] (.s .n (.s .n (.s .n (.m 2 [0, 3, 4, 6, 7] .n))))))) (.m 3 [3, 4] .n)))
def b113_0 (O : Oracle) (R : Jump) (q : Nat) (x0 x1 : TVal) (h : Heap) : Res1 :=
 vop O (.box (.k x1) false) h 3 fun x3 h =>
 vop O (.alloc [(.p (.int .i64 0)), (.p (.str [])), (.p .nilslice), (.p .nilslice)] false) h 4 fun x4 h =>
 vlen O 3 x0 h 6 fun x6 h =>
 R 1 [x0, x3, x4, x6, (kI 0)] h
theorem e113_0 (O : Oracle) (R : Jump) (q : Nat) (x0 x1 : TVal) (h : Heap) : b113_0 O R q x0 x1 h = stepF c113 O R q 0 [x0, x1] h := by kernel_rfl
def b113_1 (O : Oracle) (R : Jump) (q : Nat) (x0 x3 x4 x6 x7 : TVal) (h : Heap) : Res1 :=
 vbin .lss 0 x7 x6 h fun x8 h =>
 vif x8 (
 vfaddr 0 x3 h fun x9 h =>
 vload false 1 x9 h fun x10 h =>
 vbin .eql 0 x10 (kI 9) h fun x11 h =>
 vif x11 (
 vfaddr 1 x3 h fun x13 h =>
 vload false 1 x13 h fun x14 h =>
 vop O (.lookup 2 (.agg [(.p (.int .i64 0)), (.p (.str [])), (.p .nilslice), (.p .nilslice)]) (.k x0) (.k x14) false) h 15 fun x15 h =>
 vstore 4 x3 x15 h fun _ h =>
 R 2 [x0, x3, x4, x6, x7] h)
 (R 2 [x0, x3, x4, x6, x7] h))
 (R 3 [x3, x4] h)
theorem e113_1 (O : Oracle) (R : Jump) (q : Nat) (x0 x3 x4 x6 x7 : TVal) (h : Heap) : b113_1 O R q x0 x3 x4 x6 x7 h = stepF c113 O R q 1 [x0, x3, x4, x6, x7] h := by kernel_rfl
def b113_2 (O : Oracle) (R : Jump) (q : Nat) (x0 x3 x4 x6 x7 : TVal) (h : Heap) : Res1 :=
 vbin .add 0 x7 (kI 1) h fun x16 h =>
 R 1 [x0, x3, x4, x6, x16] h
theorem e113_2 (O : Oracle) (R : Jump) (q : Nat) (x0 x3 x4 x6 x7 : TVal) (h : Heap) : b113_2 O R q x0 x3 x4 x6 x7 h = stepF c113 O R q 2 [x0, x3, x4, x6, x7] h := by kernel_rfl
def b113_3 (O : Oracle) (R : Jump) (q : Nat) (x3 x4 : TVal) (h : Heap) : Res1 :=
 vload true 4 x3 h fun x17 h =>
 vstore 4 x4 x17 h fun _ h =>
 vcell true 4 x4 h fun c0 => vfin true q [c0] h
theorem e113_3 (O : Oracle) (R : Jump) (q : Nat) (x3 x4 : TVal) (h : Heap) : b113_3 O R q x3 x4 h = stepF c113 O R q 3 [x3, x4] h := by kernel_rfl
def d113 : BlkF := fun O R Q => [.s fun a => .s fun b => .z (b113_0 O R Q a b), .s fun a => .s fun b => .s fun c => .s fun d => .s fun e => .z (b113_1 O R Q a b c d e), .s fun a => .s fun b => .s fun c => .s fun d => .s fun e => .z (b113_2 O R Q a b c d e), .s fun a => .s fun b => .z (b113_3 O R Q a b)]
theorem o113 (O : Oracle) (R : Jump) (q : Nat) : HoldsAll c113 O R q 0 (d113 O R q) := ⟨e113_0 O R q, e113_1 O R q, e113_2 O R q, e113_3 O R q, trivial⟩
def c114 : MFunc := mkM (compF Tryd.prog (globs2 tabs opq) (fun _ => false) true Tryd.f114) (.s .n (.s .n (.s (.s .n (.k (.l 1 [0, 4, 6, 27, 28, 29] .n))) .n)))
def b114_0 (O : Oracle) (R : Jump) (q : Nat) (x0 x1 x2 x3 x4 : TVal) (h : Heap) : Res1 :=
 vop O (.box (.k x1) false) h 6 fun x6 h =>
 vop O (.box (.k x2) false) h 7 fun x7 h =>
 vfaddr 0 x7 h fun x16 h =>
 vload false 1 x16 h fun x17 h =>
 vbin .neq 0 x17 x3 h fun x19 h =>
 vguard x19 false (fun kk => vfaddr 3 x6 h kk) h fun x21 h =>
 vguard x19 false (fun kk => vload false 1 x21 h kk) h fun x22 h =>
 vguard x19 false (fun kk => vlen O 2 x22 h 23 kk) h fun x23 h =>
 vguard x19 false (fun kk => vbin .neq 0 x23 (kI 1) h kk) h fun x24 h =>
 vop O (.pick (.k x19) (.k (kB true)) (.k x24)) h 25 fun x25 h =>
 vif x25 (
 tcomp (kS []) fun c0 => tcomp (kB false) fun c1 => vfin true q [c0, c1] h)
 (vfaddr 5 x7 h fun x26 h =>
 vload false 1 x26 h fun x27 h =>
 vlen O 2 x27 h 28 fun x28 h =>
 R 1 [x0, x4, x6, x27, x28, (kI 0)] h)
theorem e114_0 (O : Oracle) (R : Jump) (q : Nat) (x0 x1 x2 x3 x4 : TVal) (h : Heap) : b114_0 O R q x0 x1 x2 x3 x4 h = stepF c114 O R q 0 [x0, x1, x2, x3, x4] h := by kernel_rfl
def b114_1 (O : Oracle) (R : Jump) (q : Nat) (x0 x4 x6 x27 x28 x29 : TVal) (h : Heap) : Res1 :=
 vbin .lss 0 x29 x28 h fun x30 h =>
 vif x30 (
 viaddr 6 x27 x29 h fun x32 h =>
 vload true 6 x32 h fun x33 h =>
 vop O (.alloc [(.p (.int .i64 0)), (.p (.bool false)), (.p (.int .i64 0)), (.p (.str [])), (.p .nilslice), (.p .nilslice)] false) h 13 fun x13 h =>
 vstore 6 x13 x33 h fun _ h =>
 vfaddr 3 x6 h fun x36 h =>
 vload false 1 x36 h fun x37 h =>
 viaddr 4 x37 (kI 0) h fun x38 h =>
 vload true 4 x38 h fun x39 h =>
 vload true 6 x13 h fun x40 h =>
 vcall O (.v (.c (.func 58 []))) [x0, x39, x40] h 41 fun x41 h =>
 vext x41 0 h fun x42 h =>
 vext x41 1 h fun x43 h =>
 vop O (.un .not (.k x43)) h 45 fun x45 h =>
 vif x45 (
 vcall O x4 [x29] h 48 fun x48 h =>
 vbin .add 0 x48 x42 h fun x50 h =>
 tcomp x50 fun c0 => tcomp (kB false) fun c1 => vfin true q [c0, c1] h)
 (vbin .add 0 x29 (kI 1) h fun x51 h =>
 R 1 [x0, x4, x6, x27, x28, x51] h))
 (tcomp (kS []) fun c0 => tcomp (kB true) fun c1 => vfin true q [c0, c1] h)
theorem e114_1 (O : Oracle) (R : Jump) (q : Nat) (x0 x4 x6 x27 x28 x29 : TVal) (h : Heap) : b114_1 O R q x0 x4 x6 x27 x28 x29 h = stepF c114 O R q 1 [x0, x4, x6, x27, x28, x29] h := by kernel_rfl
def d114 : BlkF := fun O R Q => [.s fun a => .s fun b => .s fun c => .s fun d => .s fun e => .z (b114_0 O R Q a b c d e), .s fun a => .s fun b => .s fun c => .s fun d => .s fun e => .s fun f => .z (b114_1 O R Q a b c d e f)]
theorem o114 (O : Oracle) (R : Jump) (q : Nat) : HoldsAll c114 O R q 0 (d114 O R q) := ⟨e114_0 O R q, e114_1 O R q, trivial⟩
def c115 : MFunc := mkM (compF Tryd.prog (globs2 tabs opq) (fun _ => false) true Tryd.f115) .n
def b115_0 (O : Oracle) (R : Jump) (q : Nat) (x0 : TVal) (h : Heap) : Res1 :=
 vcall O (.v (.c (.func 116 []))) [x0] h 4 fun x4 h =>
 vbin .add 0 (kS [91]) x4 h fun x5 h =>
 vbin .add 0 x5 (kS [93]) h fun x6 h =>
 tcomp x6 fun c0 => vfin true q [c0] h
theorem e115_0 (O : Oracle) (R : Jump) (q : Nat) (x0 : TVal) (h : Heap) : b115_0 O R q x0 h = stepF c115 O R q 0 [x0] h := by kernel_rfl
def d115 : BlkF := fun O R Q => [.s fun a => .z (b115_0 O R Q a)]
theorem o115 (O : Oracle) (R : Jump) (q : Nat) : HoldsAll c115 O R q 0 (d115 O R q) := ⟨e115_0 O R q, trivial⟩
def c116 : MFunc := mkM (compF Tryd.prog (globs2 tabs opq) (fun _ => false) true Tryd.f116) .n
def b116_0 (O : Oracle) (R : Jump) (q : Nat) (x0 : TVal) (h : Heap) : Res1 :=
 vcall O (.v (.c (.func 164 []))) [x0] h 4 fun x4 h =>
 tcomp x4 fun c0 => vfin true q [c0] h
theorem e116_0 (O : Oracle) (R : Jump) (q : Nat) (x0 : TVal) (h : Heap) : b116_0 O R q x0 h = stepF c116 O R q 0 [x0] h := by kernel_rfl
def d116 : BlkF := fun O R Q => [.s fun a => .z (b116_0 O R Q a)]
theorem o116 (O : Oracle) (R : Jump) (q : Nat) : HoldsAll c116 O R q 0 (d116 O R q) := ⟨e116_0 O R q, trivial⟩
def c117 : MFunc := mkM (compF Tryd.prog (globs2 tabs opq) (fun _ => false) true Tryd.f117) .n
def b117_0 (O : Oracle) (R : Jump) (q : Nat) (x0 x1 : TVal) (h : Heap) : Res1 :=
 vfaddr 4 x1 h fun x5 h =>
 vload false 1 x5 h fun x6 h =>
 vlen O 2 x6 h 7 fun x7 h =>
 vbin .geq 0 x0 x7 h fun x8 h =>
 vif x8 (
 tcomp (kS []) fun c0 => vfin true q [c0] h)
 (vfaddr 4 x1 h fun x9 h =>
 vload false 1 x9 h fun x10 h =>
 viaddr 1 x10 x0 h fun x12 h =>
 vload false 1 x12 h fun x13 h =>
 vbin .add 0 (kS [91, 34]) x13 h fun x14 h =>
 vbin .add 0 x14 (kS [34, 93]) h fun x15 h =>
 tcomp x15 fun c0 => vfin true q [c0] h)
theorem e117_0 (O : Oracle) (R : Jump) (q : Nat) (x0 x1 : TVal) (h : Heap) : b117_0 O R q x0 x1 h = stepF c117 O R q 0 [x0, x1] h := by kernel_rfl
def d117 : BlkF := fun O R Q => [.s fun a => .s fun b => .z (b117_0 O R Q a b)]
theorem o117 (O : Oracle) (R : Jump) (q : Nat) : HoldsAll c117 O R q 0 (d117 O R q) := ⟨e117_0 O R q, trivial⟩
def c118 : MFunc := mkM (compF Tryd.prog (globs2 tabs opq) (fun _ => false) true Tryd.f118) (.s .n (.s .n (.s (.s .n (.k (.l 1 [0, 4, 5, 19, 20, 21] (.s .n (.s .n (.s .n (.m 2 [0, 4, 5, 19, 20, 21] .n))))))) (.m 3 [4, 5] (.s (.s .n (.k (.l 4 [4, 80, 81, 82] .n))) .n)))))
def b118_0 (O : Oracle) (R : Jump) (q : Nat) (x0 x1 x2 : TVal) (h : Heap) : Res1 :=
 vop O (.box (.k x1) false) h 4 fun x4 h =>
 vop O (.box (.k x2) false) h 5 fun x5 h =>
 vfaddr 0 x5 h fun x15 h =>
 vload false 1 x15 h fun x16 h =>
 vbin .neq 0 x16 (kI 5) h fun x17 h =>
 vif x17 (
 tcomp (kS []) fun c0 => tcomp (kB false) fun c1 => vfin true q [c0, c1] h)
 (vfaddr 2 x4 h fun x18 h =>
 vload false 1 x18 h fun x19 h =>
 vlen O 2 x19 h 20 fun x20 h =>
 R 1 [x0, x4, x5, x19, x20, (kI 0)] h)
theorem e118_0 (O : Oracle) (R : Jump) (q : Nat) (x0 x1 x2 : TVal) (h : Heap) : b118_0 O R q x0 x1 x2 h = stepF c118 O R q 0 [x0, x1, x2] h := by kernel_rfl
def b118_1 (O : Oracle) (R : Jump) (q : Nat) (x0 x4 x5 x19 x20 x21 : TVal) (h : Heap) : Res1 :=
 vbin .lss 0 x21 x20 h fun x22 h =>
 vif x22 (
 viaddr 1 x19 x21 h fun x24 h =>
 vload false 1 x24 h fun x25 h =>
 vfaddr 3 x4 h fun x27 h =>
 vload false 1 x27 h fun x28 h =>
 vlen O 2 x28 h 29 fun x29 h =>
 vbin .geq 0 x21 x29 h fun x30 h =>
 vif x30 (
 vbin .add 0 (kS [46]) x25 h fun x32 h =>
 tcomp x32 fun c0 => tcomp (kB false) fun c1 => vfin true q [c0, c1] h)
 (vfaddr 4 x5 h fun x33 h =>
 vload false 1 x33 h fun x34 h =>
 vcall O (.v (.c (.func 131 []))) [x34, x25] h 36 fun x36 h =>
 vbin .lss 0 x36 (kI 0) h fun x38 h =>
 vguard x38 false (fun kk => kk x36 h) h fun x40 h =>
 vguard x38 false (fun kk => vfaddr 5 x5 h kk) h fun x41 h =>
 vguard x38 false (fun kk => vload false 1 x41 h kk) h fun x42 h =>
 vguard x38 false (fun kk => vlen O 2 x42 h 43 kk) h fun x43 h =>
 vguard x38 false (fun kk => vbin .geq 0 x40 x43 h kk) h fun x44 h =>
 vop O (.pick (.k x38) (.k (kB true)) (.k x44)) h 45 fun x45 h =>
 vif x45 (
 vfaddr 3 x4 h fun x47 h =>
 vload false 1 x47 h fun x48 h =>
 viaddr 4 x48 x21 h fun x50 h =>
 vload true 4 x50 h fun x51 h =>
 vcall O (.v (.c (.func 113 []))) [x0, x51] h 52 fun x52 h =>
 vfield 0 1 false x52 h fun x53 h =>
 vbin .neq 0 x53 (kI 6) h fun x54 h =>
 vif x54 (
 vbin .add 0 (kS [46]) x25 h fun x56 h =>
 tcomp x56 fun c0 => tcomp (kB false) fun c1 => vfin true q [c0, c1] h)
 (R 2 [x0, x4, x5, x19, x20, x21] h))
 (vfaddr 3 x4 h fun x59 h =>
 vload false 1 x59 h fun x60 h =>
 viaddr 4 x60 x21 h fun x62 h =>
 vload true 4 x62 h fun x63 h =>
 vfaddr 5 x5 h fun x64 h =>
 vload false 1 x64 h fun x65 h =>
 viaddr 6 x65 x36 h fun x67 h =>
 vload true 6 x67 h fun x68 h =>
 vcall O (.v (.c (.func 58 []))) [x0, x63, x68] h 69 fun x69 h =>
 vext x69 0 h fun x70 h =>
 vext x69 1 h fun x71 h =>
 vop O (.un .not (.k x71)) h 73 fun x73 h =>
 vif x73 (
 vbin .add 0 (kS [46]) x25 h fun x75 h =>
 vbin .add 0 x75 x70 h fun x77 h =>
 tcomp x77 fun c0 => tcomp (kB false) fun c1 => vfin true q [c0, c1] h)
 (R 2 [x0, x4, x5, x19, x20, x21] h))))
 (R 3 [x4, x5] h)
theorem e118_1 (O : Oracle) (R : Jump) (q : Nat) (x0 x4 x5 x19 x20 x21 : TVal) (h : Heap) : b118_1 O R q x0 x4 x5 x19 x20 x21 h = stepF c118 O R q 1 [x0, x4, x5, x19, x20, x21] h := by kernel_rfl
def b118_2 (O : Oracle) (R : Jump) (q : Nat) (x0 x4 x5 x19 x20 x21 : TVal) (h : Heap) : Res1 :=
 vbin .add 0 x21 (kI 1) h fun x78 h =>
 R 1 [x0, x4, x5, x19, x20, x78] h
theorem e118_2 (O : Oracle) (R : Jump) (q : Nat) (x0 x4 x5 x19 x20 x21 : TVal) (h : Heap) : b118_2 O R q x0 x4 x5 x19 x20 x21 h = stepF c118 O R q 2 [x0, x4, x5, x19, x20, x21] h := by kernel_rfl
def b118_3 (O : Oracle) (R : Jump) (q : Nat) (x4 x5 : TVal) (h : Heap) : Res1 :=
 vfaddr 4 x5 h fun x79 h =>
 vload false 1 x79 h fun x80 h =>
 vlen O 2 x80 h 81 fun x81 h =>
 R 4 [x4, x80, x81, (kI 0)] h
theorem e118_3 (O : Oracle) (R : Jump) (q : Nat) (x4 x5 : TVal) (h : Heap) : b118_3 O R q x4 x5 h = stepF c118 O R q 3 [x4, x5] h := by kernel_rfl
def b118_4 (O : Oracle) (R : Jump) (q : Nat) (x4 x80 x81 x82 : TVal) (h : Heap) : Res1 :=
 vbin .lss 0 x82 x81 h fun x83 h =>
 vif x83 (
 viaddr 1 x80 x82 h fun x84 h =>
 vload false 1 x84 h fun x85 h =>
 vfaddr 2 x4 h fun x86 h =>
 vload false 1 x86 h fun x87 h =>
 vcall O (.v (.c (.func 139 []))) [x87, x85] h 89 fun x89 h =>
 vop O (.un .not (.k x89)) h 90 fun x90 h =>
 vif x90 (
 vbin .add 0 (kS [46]) x85 h fun x92 h =>
 tcomp x92 fun c0 => tcomp (kB false) fun c1 => vfin true q [c0, c1] h)
 (vbin .add 0 x82 (kI 1) h fun x93 h =>
 R 4 [x4, x80, x81, x93] h))
 (tcomp (kS []) fun c0 => tcomp (kB true) fun c1 => vfin true q [c0, c1] h)
theorem e118_4 (O : Oracle) (R : Jump) (q : Nat) (x4 x80 x81 x82 : TVal) (h : Heap) : b118_4 O R q x4 x80 x81 x82 h = stepF c118 O R q 4 [x4, x80, x81, x82] h := by kernel_rfl
def d118 : BlkF := fun O R Q => [.s fun a => .s fun b => .s fun c => .z (b118_0 O R Q a b c), .s fun a => .s fun b => .s fun c => .s fun d => .s fun e => .s fun f => .z (b118_1 O R Q a b c d e f), .s fun a => .s fun b => .s fun c => .s fun d => .s fun e => .s fun f => .z (b118_2 O R Q a b c d e f), .s fun a => .s fun b => .z (b118_3 O R Q a b), .s fun a => .s fun b => .s fun c => .s fun d => .z (b118_4 O R Q a b c d)]
theorem o118 (O : Oracle) (R : Jump) (q : Nat) : HoldsAll c118 O R q 0 (d118 O R q) := ⟨e118_0 O R q, e118_1 O R q, e118_2 O R q, e118_3 O R q, e118_4 O R q, trivial⟩
def c119 : MFunc := mkM (compF Tryd.prog (globs2 tabs opq) (fun _ => false) true Tryd.f119) .n
def b119_0 (O : Oracle) (R : Jump) (q : Nat) (x0 x1 x2 : TVal) (h : Heap) : Res1 :=
 vop O (.box (.k x1) false) h 4 fun x4 h =>
 vop O (.box (.k x2) false) h 5 fun x5 h =>
 vfaddr 0 x5 h fun x11 h =>
 vload false 1 x11 h fun x12 h =>
 vbin .neq 0 x12 (kI 5) h fun x13 h =>
 vguard x13 false (fun kk => vfaddr 4 x5 h kk) h fun x15 h =>
 vguard x13 false (fun kk => vload false 1 x15 h kk) h fun x16 h =>
 vguard x13 false (fun kk => vlen O 2 x16 h 17 kk) h fun x17 h =>
 vguard x13 false (fun kk => vbin .neq 0 x17 (kI 1) h kk) h fun x18 h =>
 vop O (.pick (.k x13) (.k (kB true)) (.k x18)) h 19 fun x19 h =>
 vguard x19 false (fun kk => vfaddr 5 x5 h kk) h fun x21 h =>
 vguard x19 false (fun kk => vload false 1 x21 h kk) h fun x22 h =>
 vguard x19 false (fun kk => vlen O 2 x22 h 23 kk) h fun x23 h =>
 vguard x19 false (fun kk => vbin .neq 0 x23 (kI 1) h kk) h fun x24 h =>
 vop O (.pick (.k x19) (.k (kB true)) (.k x24)) h 25 fun x25 h =>
 vif x25 (
 tcomp (kS []) fun c0 => tcomp (kB false) fun c1 => vfin true q [c0, c1] h)
 (vfaddr 2 x4 h fun x26 h =>
 vload false 1 x26 h fun x27 h =>
 vfaddr 4 x5 h fun x28 h =>
 vload false 1 x28 h fun x29 h =>
 viaddr 1 x29 (kI 0) h fun x30 h =>
 vload false 1 x30 h fun x31 h =>
 vcall O (.v (.c (.func 131 []))) [x27, x31] h 32 fun x32 h =>
 vbin .lss 0 x32 (kI 0) h fun x34 h =>
 vguard x34 false (fun kk => kk x32 h) h fun x36 h =>
 vguard x34 false (fun kk => vfaddr 3 x4 h kk) h fun x37 h =>
 vguard x34 false (fun kk => vload false 1 x37 h kk) h fun x38 h =>
 vguard x34 false (fun kk => vlen O 2 x38 h 39 kk) h fun x39 h =>
 vguard x34 false (fun kk => vbin .geq 0 x36 x39 h kk) h fun x40 h =>
 vop O (.pick (.k x34) (.k (kB true)) (.k x40)) h 41 fun x41 h =>
 vif x41 (
 tcomp (kS []) fun c0 => tcomp (kB false) fun c1 => vfin true q [c0, c1] h)
 (vfaddr 3 x4 h fun x44 h =>
 vload false 1 x44 h fun x45 h =>
 viaddr 4 x45 x32 h fun x47 h =>
 vload true 4 x47 h fun x48 h =>
 vfaddr 5 x5 h fun x49 h =>
 vload false 1 x49 h fun x50 h =>
 viaddr 6 x50 (kI 0) h fun x51 h =>
 vload true 6 x51 h fun x52 h =>
 vcall O (.v (.c (.func 58 []))) [x0, x48, x52] h 53 fun x53 h =>
 vext x53 0 h fun x54 h =>
 vext x53 1 h fun x55 h =>
 vop O (.un .not (.k x55)) h 57 fun x57 h =>
 vif x57 (
 vfaddr 4 x5 h fun x58 h =>
 vload false 1 x58 h fun x59 h =>
 viaddr 1 x59 (kI 0) h fun x60 h =>
 vload false 1 x60 h fun x61 h =>
 vbin .add 0 (kS [46]) x61 h fun x62 h =>
 vbin .add 0 x62 x54 h fun x64 h =>
 tcomp x64 fun c0 => tcomp x55 fun c1 => vfin true q [c0, c1] h)
 (tcomp x54 fun c0 => tcomp x55 fun c1 => vfin true q [c0, c1] h)))
theorem e119_0 (O : Oracle) (R : Jump) (q : Nat) (x0 x1 x2 : TVal) (h : Heap) : b119_0 O R q x0 x1 x2 h = stepF c119 O R q 0 [x0, x1, x2] h := by kernel_rfl
def d119 : BlkF := fun O R Q => [.s fun a => .s fun b => .s fun c => .z (b119_0 O R Q a b c)]
theorem o119 (O : Oracle) (R : Jump) (q : Nat) : HoldsAll c119 O R q 0 (d119 O R q) := ⟨e119_0 O R q, trivial⟩
def c131 : MFunc := mkM (compF Tryd.prog (globs2 tabs opq) (fun _ => false) true Tryd.f131) (.s .n (.s (.s .n (.k (.l 1 [0, 1, 7, 8] .n))) .n))
def b131_0 (O : Oracle) (R : Jump) (q : Nat) (x0 x1 : TVal) (h : Heap) : Res1 :=
 vlen O 2 x0 h 7 fun x7 h =>
 R 1 [x0, x1, x7, (kI 0)] h
theorem e131_0 (O : Oracle) (R : Jump) (q : Nat) (x0 x1 : TVal) (h : Heap) : b131_0 O R q x0 x1 h = stepF c131 O R q 0 [x0, x1] h := by kernel_rfl
def b131_1 (O : Oracle) (R : Jump) (q : Nat) (x0 x1 x7 x8 : TVal) (h : Heap) : Res1 :=
 vbin .lss 0 x8 x7 h fun x9 h =>
 vif x9 (
 viaddr 1 x0 x8 h fun x14 h =>
 vload false 1 x14 h fun x15 h =>
 vbin .eql 0 x1 x15 h fun x16 h =>
 vif x16 (
 tcomp x8 fun c0 => vfin true q [c0] h)
 (vbin .add 0 x8 (kI 1) h fun x18 h =>
 R 1 [x0, x1, x7, x18] h))
 (tcomp (kI (-1)) fun c0 => vfin true q [c0] h)
theorem e131_1 (O : Oracle) (R : Jump) (q : Nat) (x0 x1 x7 x8 : TVal) (h : Heap) : b131_1 O R q x0 x1 x7 x8 h = stepF c131 O R q 1 [x0, x1, x7, x8] h := by kernel_rfl
def d131 : BlkF := fun O R Q => [.s fun a => .s fun b => .z (b131_0 O R Q a b), .s fun a => .s fun b => .s fun c => .s fun d => .z (b131_1 O R Q a b c d)]
theorem o131 (O : Oracle) (R : Jump) (q : Nat) : HoldsAll c131 O R q 0 (d131 O R q) := ⟨e131_0 O R q, e131_1 O R q, trivial⟩
def c134 : MFunc := mkM (compF Tryd.prog (globs2 tabs opq) (fun _ => false) true Tryd.f134) (.s .n (.s (.s .n (.k (.l 1 [0, 3, 4, 9, 10] (.s .n (.s .n (.s .n (.m 2 [0, 3, 4, 9, 10] .n))))))) (.m 3 [3, 4] .n)))
def b134_0 (O : Oracle) (R : Jump) (q : Nat) (x0 x1 : TVal) (h : Heap) : Res1 :=
 vop O (.box (.k x1) false) h 3 fun x3 h =>
 vop O (.alloc [(.p (.int .i64 0)), (.p (.str [])), (.p .nilslice), (.p .nilslice)] false) h 4 fun x4 h =>
 vop O (.nilck (.k x0)) h 6 fun x6 h =>
 vfaddr 3 x6 h fun x7 h =>
 vload false 1 x7 h fun x8 h =>
 vlen O 3 x8 h 9 fun x9 h =>
 R 1 [x0, x3, x4, x9, (kI 0)] h
theorem e134_0 (O : Oracle) (R : Jump) (q : Nat) (x0 x1 : TVal) (h : Heap) : b134_0 O R q x0 x1 h = stepF c134 O R q 0 [x0, x1] h := by kernel_rfl
def b134_1 (O : Oracle) (R : Jump) (q : Nat) (x0 x3 x4 x9 x10 : TVal) (h : Heap) : Res1 :=
 vbin .lss 0 x10 x9 h fun x11 h =>
 vif x11 (
 vfaddr 0 x3 h fun x12 h =>
 vload false 1 x12 h fun x13 h =>
 vbin .eql 0 x13 (kI 9) h fun x14 h =>
 vif x14 (
 vop O (.nilck (.k x0)) h 16 fun x16 h =>
 vfaddr 3 x16 h fun x17 h =>
 vload false 1 x17 h fun x18 h =>
 vfaddr 1 x3 h fun x19 h =>
 vload false 1 x19 h fun x20 h =>
 vop O (.lookup 2 (.agg [(.p (.int .i64 0)), (.p (.str [])), (.p .nilslice), (.p .nilslice)]) (.k x18) (.k x20) false) h 21 fun x21 h =>
 vstore 4 x3 x21 h fun _ h =>
 R 2 [x0, x3, x4, x9, x10] h)
 (R 2 [x0, x3, x4, x9, x10] h))
 (R 3 [x3, x4] h)
theorem e134_1 (O : Oracle) (R : Jump) (q : Nat) (x0 x3 x4 x9 x10 : TVal) (h : Heap) : b134_1 O R q x0 x3 x4 x9 x10 h = stepF c134 O R q 1 [x0, x3, x4, x9, x10] h := by kernel_rfl
def b134_2 (O : Oracle) (R : Jump) (q : Nat) (x0 x3 x4 x9 x10 : TVal) (h : Heap) : Res1 :=
 vbin .add 0 x10 (kI 1) h fun x22 h =>
 R 1 [x0, x3, x4, x9, x22] h
theorem e134_2 (O : Oracle) (R : Jump) (q : Nat) (x0 x3 x4 x9 x10 : TVal) (h : Heap) : b134_2 O R q x0 x3 x4 x9 x10 h = stepF c134 O R q 2 [x0, x3, x4, x9, x10] h := by kernel_rfl
def b134_3 (O : Oracle) (R : Jump) (q : Nat) (x3 x4 : TVal) (h : Heap) : Res1 :=
 vload true 4 x3 h fun x23 h =>
 vstore 4 x4 x23 h fun _ h =>
 vcell true 4 x4 h fun c0 => vfin true q [c0] h
theorem e134_3 (O : Oracle) (R : Jump) (q : Nat) (x3 x4 : TVal) (h : Heap) : b134_3 O R q x3 x4 h = stepF c134 O R q 3 [x3, x4] h := by kernel_rfl
def d134 : BlkF := fun O R Q => [.s fun a => .s fun b => .z (b134_0 O R Q a b), .s fun a => .s fun b => .s fun c => .s fun d => .s fun e => .z (b134_1 O R Q a b c d e), .s fun a => .s fun b => .s fun c => .s fun d => .s fun e => .z (b134_2 O R Q a b c d e), .s fun a => .s fun b => .z (b134_3 O R Q a b)]
theorem o134 (O : Oracle) (R : Jump) (q : Nat) : HoldsAll c134 O R q 0 (d134 O R q) := ⟨e134_0 O R q, e134_1 O R q, e134_2 O R q, e134_3 O R q, trivial⟩
def c135 : MFunc := mkM (compF Tryd.prog (globs2 tabs opq) (fun n => Nat.beq n 1) true Tryd.f135) .n
def b135_0 (O : Oracle) (R : Jump) (q : Nat) (x0 x1 : TVal) (h : Heap) : Res1 :=
 vop O (.nilck (.k x0)) h 9 fun x9 h =>
 vfaddr 2 x9 h fun x10 h =>
 vload false 1 x10 h fun x11 h =>
 vop O (.lookup 2 (.c (.p (.int .u64 0))) (.k x11) (.k x1) true) h 13 fun x13 h =>
 vext x13 0 h fun x14 h =>
 vext x13 1 h fun x15 h =>
 vop O (.un .not (.k x15)) h 17 fun x17 h =>
 vif x17 (
 vop O (.nilck (.k x0)) h 19 fun x19 h =>
 vfaddr 1 x19 h fun x20 h =>
 vload false 1 x20 h fun x21 h =>
 vlen O 2 x21 h 22 fun x22 h =>
 vtoInt .u64 x22 h fun x23 h =>
 vop O (.nilck (.k x0)) h 25 fun x25 h =>
 vfaddr 2 x25 h fun x26 h =>
 vload false 1 x26 h fun x27 h =>
 vop O (.mapup 2 (.k x27) (.k x1) (.k x23)) h 1000000 fun _ h =>
 vop O (.nilck (.k x0)) h 32 fun x32 h =>
 vfaddr 1 x32 h fun x33 h =>
 vload false 1 x33 h fun x34 h =>
 vop O (.bslice 1 1 [(.p (.str []))] [(0, (.k x1))] true) h 36 fun x36 h =>
 vop O (.append 1 16 true (.k x34) (.k x36)) h 37 fun x37 h =>
 vop O (.nilck (.k x0)) h 38 fun x38 h =>
 vfaddr 1 x38 h fun x39 h =>
 vstore 1 x39 x37 h fun _ h =>
 tcomp x23 fun c0 => vfin true q [c0] h)
 (tcomp x14 fun c0 => vfin true q [c0] h)
theorem e135_0 (O : Oracle) (R : Jump) (q : Nat) (x0 x1 : TVal) (h : Heap) : b135_0 O R q x0 x1 h = stepF c135 O R q 0 [x0, x1] h := by kernel_rfl
def d135 : BlkF := fun O R Q => [.s fun a => .s fun b => .z (b135_0 O R Q a b)]
theorem o135 (O : Oracle) (R : Jump) (q : Nat) : HoldsAll c135 O R q 0 (d135 O R q) := ⟨e135_0 O R q, trivial⟩
def c136 : MFunc := mkM (compF Tryd.prog (globs2 tabs opq) (fun _ => false) true Tryd.f136) (.s .n (.s .n (.s (.s .n (.k (.l 1 [0, 4, 5, 7, 17, 18, 19] (.s .n (.s .n (.s (.k (.s .n (.s (.s .n (.s (.s .n (.s .n (.m 2 [0, 4, 5, 7, 9, 10, 17, 18, 19] .n))) .n)) (.m 3 [0, 4, 5, 7, 9, 17, 18, 19] .n)))) .n)))))) (.m 4 [0, 7] .n))))
def b136_0 (O : Oracle) (R : Jump) (q : Nat) (x0 x1 x2 : TVal) (h : Heap) : Res1 :=
 vop O (.box (.k x1) false) h 4 fun x4 h =>
 vop O (.box (.k x2) false) h 5 fun x5 h =>
 vfaddr 5 x5 h fun x11 h =>
 vload false 1 x11 h fun x12 h =>
 vlen O 2 x12 h 13 fun x13 h =>
 vtoInt .u64 x13 h fun x14 h =>
 vop O (.bslice 1 1 [(.p (.int .u64 0))] [(0, (.k x14))] false) h 15 fun x15 h =>
 vfaddr 5 x5 h fun x16 h =>
 vload false 1 x16 h fun x17 h =>
 vlen O 2 x17 h 18 fun x18 h =>
 R 1 [x0, x4, x5, x15, x17, x18, (kI 0)] h
theorem e136_0 (O : Oracle) (R : Jump) (q : Nat) (x0 x1 x2 : TVal) (h : Heap) : b136_0 O R q x0 x1 x2 h = stepF c136 O R q 0 [x0, x1, x2] h := by kernel_rfl
def b136_1 (O : Oracle) (R : Jump) (q : Nat) (x0 x4 x5 x7 x17 x18 x19 : TVal) (h : Heap) : Res1 :=
 vbin .lss 0 x19 x18 h fun x20 h =>
 vif x20 (
 viaddr 6 x17 x19 h fun x22 h =>
 vload true 6 x22 h fun x23 h =>
 vop O (.alloc [(.p (.int .i64 0)), (.p (.bool false)), (.p (.int .i64 0)), (.p (.str [])), (.p .nilslice), (.p .nilslice)] false) h 9 fun x9 h =>
 vstore 6 x9 x23 h fun _ h =>
 vfaddr 0 x4 h fun x24 h =>
 vload false 1 x24 h fun x25 h =>
 vbin .eql 0 x25 (kI 5) h fun x26 h =>
 vif x26 (
 vfaddr 4 x5 h fun x28 h =>
 vload false 1 x28 h fun x29 h =>
 vlen O 2 x29 h 30 fun x30 h =>
 vbin .lss 0 x19 x30 h fun x31 h =>
 vif x31 (
 vfaddr 4 x5 h fun x32 h =>
 vload false 1 x32 h fun x33 h =>
 viaddr 1 x33 x19 h fun x35 h =>
 vload false 1 x35 h fun x36 h =>
 R 2 [x0, x4, x5, x7, x9, x36, x17, x18, x19] h)
 (R 2 [x0, x4, x5, x7, x9, (kS []), x17, x18, x19] h))
 (R 3 [x0, x4, x5, x7, x9, x17, x18, x19] h))
 (R 4 [x0, x7] h)
theorem e136_1 (O : Oracle) (R : Jump) (q : Nat) (x0 x4 x5 x7 x17 x18 x19 : TVal) (h : Heap) : b136_1 O R q x0 x4 x5 x7 x17 x18 x19 h = stepF c136 O R q 1 [x0, x4, x5, x7, x17, x18, x19] h := by kernel_rfl
def b136_2 (O : Oracle) (R : Jump) (q : Nat) (x0 x4 x5 x7 x9 x10 x17 x18 x19 : TVal) (h : Heap) : Res1 :=
 vcall O (.v (.c (.func 135 []))) [x0, x10] h 40 fun x40 h =>
 vop O (.bslice 1 1 [(.p (.int .u64 0))] [(0, (.k x40))] false) h 41 fun x41 h =>
 vop O (.append 1 8 false (.k x7) (.k x41)) h 42 fun x42 h =>
 R 3 [x0, x4, x5, x42, x9, x17, x18, x19] h
theorem e136_2 (O : Oracle) (R : Jump) (q : Nat) (x0 x4 x5 x7 x9 x10 x17 x18 x19 : TVal) (h : Heap) : b136_2 O R q x0 x4 x5 x7 x9 x10 x17 x18 x19 h = stepF c136 O R q 2 [x0, x4, x5, x7, x9, x10, x17, x18, x19] h := by kernel_rfl
def b136_3 (O : Oracle) (R : Jump) (q : Nat) (x0 x4 x5 x7 x9 x17 x18 x19 : TVal) (h : Heap) : Res1 :=
 vtouch O (.mv (.k x7)) h 43 fun x43 h t0 =>
 vtouch O (.mv (.k x0)) h 44 fun x44 h t1 =>
 vtouch O (.load true 4 (.k x4)) h 45 fun x45 h t2 =>
 vtouch O (.call (.k (.v (.c (.func 137 [])))) [(.k x45), (.k (kI 0))]) h 46 fun x46 h t3 =>
 vtouch O (.load true 6 (.k x9)) h 47 fun x47 h t4 =>
 vtouch O (.call (.k (.v (.c (.func 73 [])))) [(.k x44), (.k x46), (.k x47)]) h 48 fun x48 h t5 =>
 vtouch O (.bslice 1 1 [(.p (.int .u64 0))] [(0, (.k x48))] false) h 49 fun x49 h t6 =>
 vtouch O (.append 1 8 false (.k x43) (.k x49)) h 50 fun x50 h t7 =>
 vtouch O (.mv (.k x50)) h 7 fun x7_1 h t8 =>
 bif apartAll [t0, t1, t2, t3, t4, t5, t6, t7, t8] [(3, 4)] then
 vbin .add 0 x19 (kI 1) h fun x51 h =>
 R 1 [x0, x4, x5, x7_1, x17, x18, x51] h
 else none
theorem e136_3 (O : Oracle) (R : Jump) (q : Nat) (x0 x4 x5 x7 x9 x17 x18 x19 : TVal) (h : Heap) : b136_3 O R q x0 x4 x5 x7 x9 x17 x18 x19 h = stepF c136 O R q 3 [x0, x4, x5, x7, x9, x17, x18, x19] h := by kernel_rfl
def b136_4 (O : Oracle) (R : Jump) (q : Nat) (x0 x7 : TVal) (h : Heap) : Res1 :=
 vcall O (.v (.c (.func 74 []))) [x0, x7] h 54 fun x54 h =>
 tcomp x54 fun c0 => vfin true q [c0] h
theorem e136_4 (O : Oracle) (R : Jump) (q : Nat) (x0 x7 : TVal) (h : Heap) : b136_4 O R q x0 x7 h = stepF c136 O R q 4 [x0, x7] h := by kernel_rfl
def d136 : BlkF := fun O R Q => [.s fun a => .s fun b => .s fun c => .z (b136_0 O R Q a b c), .s fun a => .s fun b => .s fun c => .s fun d => .s fun e => .s fun f => .s fun g => .z (b136_1 O R Q a b c d e f g), .s fun a => .s fun b => .s fun c => .s fun d => .s fun e => .s fun f => .s fun g => .s fun h => .s fun i => .z (b136_2 O R Q a b c d e f g h i), .s fun a => .s fun b => .s fun c => .s fun d => .s fun e => .s fun f => .s fun g => .s fun h => .z (b136_3 O R Q a b c d e f g h), .s fun a => .s fun b => .z (b136_4 O R Q a b)]
theorem o136 (O : Oracle) (R : Jump) (q : Nat) : HoldsAll c136 O R q 0 (d136 O R q) := ⟨e136_0 O R q, e136_1 O R q, e136_2 O R q, e136_3 O R q, e136_4 O R q, trivial⟩
def c137 : MFunc := mkM (compF Tryd.prog (globs2 tabs opq) (fun _ => false) true Tryd.f137) .n
def b137_0 (O : Oracle) (R : Jump) (q : Nat) (x0 x1 : TVal) (h : Heap) : Res1 :=
 vop O (.box (.k x0) false) h 2 fun x2 h =>
 vop O (.alloc [(.p (.int .i64 0)), (.p (.str [])), (.p .nilslice), (.p .nilslice)] false) h 4 fun x4 h =>
 vfaddr 3 x2 h fun x6 h =>
 vload false 1 x6 h fun x7 h =>
 vlen O 2 x7 h 8 fun x8 h =>
 vbin .geq 0 x1 x8 h fun x9 h =>
 vif x9 (
 vop O (.build [(.p (.int .i64 0)), (.p (.str [])), (.p .nilslice), (.p .nilslice)] []) h 10 fun x10 h =>
 vstore 4 x4 x10 h fun _ h =>
 vcell true 4 x4 h fun c0 => vfin true q [c0] h)
 (vfaddr 3 x2 h fun x11 h =>
 vload false 1 x11 h fun x12 h =>
 viaddr 4 x12 x1 h fun x14 h =>
 vload true 4 x14 h fun x15 h =>
 vstore 4 x4 x15 h fun _ h =>
 vcell true 4 x4 h fun c0 => vfin true q [c0] h)
theorem e137_0 (O : Oracle) (R : Jump) (q : Nat) (x0 x1 : TVal) (h : Heap) : b137_0 O R q x0 x1 h = stepF c137 O R q 0 [x0, x1] h := by kernel_rfl
def d137 : BlkF := fun O R Q => [.s fun a => .s fun b => .z (b137_0 O R Q a b)]
theorem o137 (O : Oracle) (R : Jump) (q : Nat) : HoldsAll c137 O R q 0 (d137 O R q) := ⟨e137_0 O R q, trivial⟩
def c138 : MFunc := mkM (compF Tryd.prog (globs2 tabs opq) (fun _ => false) true Tryd.f138) .n
def b138_0 (O : Oracle) (R : Jump) (q : Nat) (x0 x1 : TVal) (h : Heap) : Res1 :=
 vop O (.box (.k x0) false) h 2 fun x2 h =>
 vop O (.alloc [(.p (.int .i64 0)), (.p (.bool false)), (.p (.int .i64 0)), (.p (.str [])), (.p .nilslice), (.p .nilslice)] false) h 4 fun x4 h =>
 vfaddr 4 x2 h fun x6 h =>
 vload false 1 x6 h fun x7 h =>
 vcall O (.v (.c (.func 131 []))) [x7, x1] h 9 fun x9 h =>
 vbin .lss 0 x9 (kI 0) h fun x11 h =>
 vguard x11 false (fun kk => kk x9 h) h fun x13 h =>
 vguard x11 false (fun kk => vfaddr 5 x2 h kk) h fun x14 h =>
 vguard x11 false (fun kk => vload false 1 x14 h kk) h fun x15 h =>
 vguard x11 false (fun kk => vlen O 2 x15 h 16 kk) h fun x16 h =>
 vguard x11 false (fun kk => vbin .geq 0 x13 x16 h kk) h fun x17 h =>
 vop O (.pick (.k x11) (.k (kB true)) (.k x17)) h 18 fun x18 h =>
 vif x18 (
 vop O (.build [(.p (.int .i64 0)), (.p (.bool false)), (.p (.int .i64 0)), (.p (.str [])), (.p .nilslice), (.p .nilslice)] []) h 19 fun x19 h =>
 vstore 6 x4 x19 h fun _ h =>
 vcell true 6 x4 h fun c0 => vfin true q [c0] h)
 (vfaddr 5 x2 h fun x20 h =>
 vload false 1 x20 h fun x21 h =>
 viaddr 6 x21 x9 h fun x23 h =>
 vload true 6 x23 h fun x24 h =>
 vstore 6 x4 x24 h fun _ h =>
 vcell true 6 x4 h fun c0 => vfin true q [c0] h)
theorem e138_0 (O : Oracle) (R : Jump) (q : Nat) (x0 x1 : TVal) (h : Heap) : b138_0 O R q x0 x1 h = stepF c138 O R q 0 [x0, x1] h := by kernel_rfl
def d138 : BlkF := fun O R Q => [.s fun a => .s fun b => .z (b138_0 O R Q a b)]
theorem o138 (O : Oracle) (R : Jump) (q : Nat) : HoldsAll c138 O R q 0 (d138 O R q) := ⟨e138_0 O R q, trivial⟩
def c139 : MFunc := mkM (compF Tryd.prog (globs2 tabs opq) (fun _ => false) true Tryd.f139) .n
def b139_0 (O : Oracle) (R : Jump) (q : Nat) (x0 x1 : TVal) (h : Heap) : Res1 :=
 vcall O (.v (.c (.func 131 []))) [x0, x1] h 7 fun x7 h =>
 vbin .geq 0 x7 (kI 0) h fun x8 h =>
 tcomp x8 fun c0 => vfin true q [c0] h
theorem e139_0 (O : Oracle) (R : Jump) (q : Nat) (x0 x1 : TVal) (h : Heap) : b139_0 O R q x0 x1 h = stepF c139 O R q 0 [x0, x1] h := by kernel_rfl
def d139 : BlkF := fun O R Q => [.s fun a => .s fun b => .z (b139_0 O R Q a b)]
theorem o139 (O : Oracle) (R : Jump) (q : Nat) : HoldsAll c139 O R q 0 (d139 O R q) := ⟨e139_0 O R q, trivial⟩
def c140 : MFunc := mkM (compF Tryd.prog (globs2 tabs opq) (fun _ => false) true Tryd.f140) .n
def b140_0 (O : Oracle) (R : Jump) (q : Nat) (x0 x1 : TVal) (h : Heap) : Res1 :=
 vop O (.nilck (.k x0)) h 7 fun x7 h =>
 vfaddr 1 x7 h fun x8 h =>
 vload false 1 x8 h fun x9 h =>
 vlen O 2 x9 h 10 fun x10 h =>
 vtoInt .u64 x10 h fun x11 h =>
 vbin .geq 0 x1 x11 h fun x12 h =>
 vif x12 (
 tcomp (kS []) fun c0 => vfin true q [c0] h)
 (vop O (.nilck (.k x0)) h 14 fun x14 h =>
 vfaddr 1 x14 h fun x15 h =>
 vload false 1 x15 h fun x16 h =>
 viaddr 1 x16 x1 h fun x18 h =>
 vload false 1 x18 h fun x19 h =>
 tcomp x19 fun c0 => vfin true q [c0] h)
theorem e140_0 (O : Oracle) (R : Jump) (q : Nat) (x0 x1 : TVal) (h : Heap) : b140_0 O R q x0 x1 h = stepF c140 O R q 0 [x0, x1] h := by kernel_rfl
def d140 : BlkF := fun O R Q => [.s fun a => .s fun b => .z (b140_0 O R Q a b)]
theorem o140 (O : Oracle) (R : Jump) (q : Nat) : HoldsAll c140 O R q 0 (d140 O R q) := ⟨e140_0 O R q, trivial⟩
def c141 : MFunc := mkM (compF Tryd.prog (globs2 tabs opq) (fun _ => false) true Tryd.f141) .n
def b141_0 (O : Oracle) (R : Jump) (q : Nat) (x0 x1 : TVal) (h : Heap) : Res1 :=
 vop O (.nilck (.k x0)) h 7 fun x7 h =>
 vfaddr 0 x7 h fun x8 h =>
 vload false 1 x8 h fun x9 h =>
 vlen O 2 x9 h 10 fun x10 h =>
 vtoInt .u64 x10 h fun x11 h =>
 vbin .geq 0 x1 x11 h fun x12 h =>
 vif x12 (
 tcomp (.v (.c (.p (.int .u64 0)))) fun c0 => vfin true q [c0] h)
 (vop O (.nilck (.k x0)) h 14 fun x14 h =>
 vfaddr 0 x14 h fun x15 h =>
 vload false 1 x15 h fun x16 h =>
 viaddr 1 x16 x1 h fun x18 h =>
 vload false 1 x18 h fun x19 h =>
 tcomp x19 fun c0 => vfin true q [c0] h)
theorem e141_0 (O : Oracle) (R : Jump) (q : Nat) (x0 x1 : TVal) (h : Heap) : b141_0 O R q x0 x1 h = stepF c141 O R q 0 [x0, x1] h := by kernel_rfl
def d141 : BlkF := fun O R Q => [.s fun a => .s fun b => .z (b141_0 O R Q a b)]
theorem o141 (O : Oracle) (R : Jump) (q : Nat) : HoldsAll c141 O R q 0 (d141 O R q) := ⟨e141_0 O R q, trivial⟩
def c142 : MFunc := mkM (compF Tryd.prog (globs2 tabs opq) (fun _ => false) true Tryd.f142) (.s .n (.s .n (.s (.s .n (.s (.s .n (.s .n (.m 1 [6, 7] .n))) .n)) (.s (.s .n (.k (.l 2 [0, 2, 4, 6, 7, 49, 50, 51] .n))) (.m 3 [6, 7] .n)))))
def b142_0 (O : Oracle) (R : Jump) (q : Nat) (x0 x1 x2 : TVal) (h : Heap) : Res1 :=
 vop O (.box (.k x1) false) h 4 fun x4 h =>
 vop O (.alloc [(.p (.int .i64 0)), (.p (.bool false)), (.p (.int .i64 0)), (.p (.str [])), (.p .nilslice), (.p .nilslice)] false) h 6 fun x6 h =>
 vop O (.build [(.p (.int .i64 0)), (.p (.bool false)), (.p (.int .i64 0)), (.p (.str [])), (.p .nilslice), (.p .nilslice)] [(0, 1, (.k (kI 5)))]) h 11 fun x11 h =>
 vop O (.alloc [(.p (.int .i64 0)), (.p (.bool false)), (.p (.int .i64 0)), (.p (.str [])), (.p .nilslice), (.p .nilslice)] false) h 7 fun x7 h =>
 vstore 6 x7 x11 h fun _ h =>
 vfaddr 0 x4 h fun x12 h =>
 vload false 1 x12 h fun x13 h =>
 vbin .eql 0 x13 (kI 8) h fun x14 h =>
 vif x14 (
 vtouch O (.mv (.k x0)) h 15 fun x15 h t0 =>
 vtouch O (.mv (.k x2)) h 16 fun x16 h t1 =>
 vtouch O (.call (.k (.v (.c (.func 141 [])))) [(.k x15), (.k x16)]) h 17 fun x17 h t2 =>
 vtouch O (.faddr 2 (.k x4)) h 18 fun x18 h t3 =>
 vtouch O (.load false 1 (.k x18)) h 19 fun x19 h t4 =>
 vtouch O (.len 2 (.k x19)) h 20 fun x20 h t5 =>
 vtouch O (.minmax true [(.k x20), (.k (kI 1))]) h 21 fun x21 h t6 =>
 vtouch O (.toInt .u64 (.k x21)) h 22 fun x22 h t7 =>
 vtouch O (.bin .rem 0 (.k x17) (.k x22)) h 23 fun x23 h t8 =>
 vtouch O (.toInt .i64 (.k x23)) h 24 fun x24 h t9 =>
 vtouch O (.mv (.k x24)) h 8 fun x8 h t10 =>
 bif apartAll [t0, t1, t2, t3, t4, t5, t6, t7, t8, t9, t10] [(2, 4), (2, 5)] then
 vfaddr 2 x4 h fun x25 h =>
 vload false 1 x25 h fun x26 h =>
 vlen O 2 x26 h 27 fun x27 h =>
 vbin .gtr 0 x27 (kI 0) h fun x28 h =>
 vif x28 (
 vtouch O (.faddr 2 (.k x4)) h 29 fun x29 h t0 =>
 vtouch O (.load false 1 (.k x29)) h 30 fun x30 h t1 =>
 vtouch O (.mv (.k x8)) h 31 fun x31 h t2 =>
 vtouch O (.iaddr 1 (.k x30) (.k x31)) h 32 fun x32 h t3 =>
 vtouch O (.load false 1 (.k x32)) h 33 fun x33 h t4 =>
 vtouch O (.bslice 1 1 [(.p (.str []))] [(0, (.k x33))] false) h 34 fun x34 h t5 =>
 vtouch O (.mv (.k x0)) h 35 fun x35 h t6 =>
 vtouch O (.load true 4 (.k x4)) h 36 fun x36 h t7 =>
 vtouch O (.mv (.k x8)) h 37 fun x37 h t8 =>
 vtouch O (.call (.k (.v (.c (.func 137 [])))) [(.k x36), (.k x37)]) h 38 fun x38 h t9 =>
 vtouch O (.mv (.k x0)) h 39 fun x39 h t10 =>
 vtouch O (.mv (.k x2)) h 40 fun x40 h t11 =>
 vtouch O (.bin .add 0 (.k x40) (.k (.v (.c (.p (.int .u64 1)))))) h 41 fun x41 h t12 =>
 vtouch O (.call (.k (.v (.c (.func 141 [])))) [(.k x39), (.k x41)]) h 42 fun x42 h t13 =>
 vtouch O (.call (.k (.v (.c (.func 75 [])))) [(.k x35), (.k x38), (.k x42)]) h 43 fun x43 h t14 =>
 vtouch O (.bslice 6 1 [(.p (.int .i64 0)), (.p (.bool false)), (.p (.int .i64 0)), (.p (.str [])), (.p .nilslice), (.p .nilslice)] [(0, (.k x43))] false) h 44 fun x44 h t15 =>
 vtouch O (.faddr 4 (.k x7)) h 45 fun x45 h t16 =>
 vtouch O (.store 1 (.k x45) (.k x34)) h 1000000 fun _ h t17 =>
 vtouch O (.faddr 5 (.k x7)) h 46 fun x46 h t18 =>
 vtouch O (.store 1 (.k x46) (.k x44)) h 1000000 fun _ h t19 =>
 bif apartAll [t0, t1, t2, t3, t4, t5, t6, t7, t8, t9, t10, t11, t12, t13, t14, t15, t16, t17, t18, t19] [(5, 7), (1, 9), (4, 9), (5, 9), (1, 13), (4, 13), (5, 13), (1, 14), (4, 14), (5, 14), (1, 15), (4, 15), (5, 15), (15, 17)] then
 R 1 [x6, x7] h
 else none)
 (R 1 [x6, x7] h)
 else none)
 (vfaddr 2 x4 h fun x48 h =>
 vload false 1 x48 h fun x49 h =>
 vlen O 2 x49 h 50 fun x50 h =>
 R 2 [x0, x2, x4, x6, x7, x49, x50, (kI 0)] h)
theorem e142_0 (O : Oracle) (R : Jump) (q : Nat) (x0 x1 x2 : TVal) (h : Heap) : b142_0 O R q x0 x1 x2 h = stepF c142 O R q 0 [x0, x1, x2] h := by kernel_rfl
def b142_1 (O : Oracle) (R : Jump) (q : Nat) (x6 x7 : TVal) (h : Heap) : Res1 :=
 vload true 6 x7 h fun x47 h =>
 vstore 6 x6 x47 h fun _ h =>
 vcell true 6 x6 h fun c0 => vfin true q [c0] h
theorem e142_1 (O : Oracle) (R : Jump) (q : Nat) (x6 x7 : TVal) (h : Heap) : b142_1 O R q x6 x7 h = stepF c142 O R q 1 [x6, x7] h := by kernel_rfl
def b142_2 (O : Oracle) (R : Jump) (q : Nat) (x0 x2 x4 x6 x7 x49 x50 x51 : TVal) (h : Heap) : Res1 :=
 vbin .lss 0 x51 x50 h fun x52 h =>
 vif x52 (
 viaddr 1 x49 x51 h fun x54 h =>
 vload false 1 x54 h fun x55 h =>
 vtouch O (.faddr 4 (.k x7)) h 56 fun x56 h t0 =>
 vtouch O (.load false 1 (.k x56)) h 57 fun x57 h t1 =>
 vtouch O (.mv (.k x55)) h 58 fun x58 h t2 =>
 vtouch O (.bslice 1 1 [(.p (.str []))] [(0, (.k x58))] false) h 59 fun x59 h t3 =>
 vtouch O (.append 1 16 false (.k x57) (.k x59)) h 60 fun x60 h t4 =>
 vtouch O (.faddr 5 (.k x7)) h 61 fun x61 h t5 =>
 vtouch O (.load false 1 (.k x61)) h 62 fun x62 h t6 =>
 vtouch O (.mv (.k x0)) h 63 fun x63 h t7 =>
 vtouch O (.load true 4 (.k x4)) h 64 fun x64 h t8 =>
 vtouch O (.mv (.k x51)) h 65 fun x65 h t9 =>
 vtouch O (.call (.k (.v (.c (.func 137 [])))) [(.k x64), (.k x65)]) h 66 fun x66 h t10 =>
 vtouch O (.mv (.k x0)) h 67 fun x67 h t11 =>
 vtouch O (.mv (.k x2)) h 68 fun x68 h t12 =>
 vtouch O (.mv (.k x51)) h 69 fun x69 h t13 =>
 vtouch O (.toInt .u64 (.k x69)) h 70 fun x70 h t14 =>
 vtouch O (.bin .add 0 (.k x68) (.k x70)) h 71 fun x71 h t15 =>
 vtouch O (.call (.k (.v (.c (.func 141 [])))) [(.k x67), (.k x71)]) h 72 fun x72 h t16 =>
 vtouch O (.call (.k (.v (.c (.func 75 [])))) [(.k x63), (.k x66), (.k x72)]) h 73 fun x73 h t17 =>
 vtouch O (.bslice 6 1 [(.p (.int .i64 0)), (.p (.bool false)), (.p (.int .i64 0)), (.p (.str [])), (.p .nilslice), (.p .nilslice)] [(0, (.k x73))] false) h 74 fun x74 h t18 =>
 vtouch O (.append 6 88 false (.k x62) (.k x74)) h 75 fun x75 h t19 =>
 vtouch O (.faddr 4 (.k x7)) h 76 fun x76 h t20 =>
 vtouch O (.store 1 (.k x76) (.k x60)) h 1000000 fun _ h t21 =>
 vtouch O (.faddr 5 (.k x7)) h 77 fun x77 h t22 =>
 vtouch O (.store 1 (.k x77) (.k x75)) h 1000000 fun _ h t23 =>
 bif apartAll [t0, t1, t2, t3, t4, t5, t6, t7, t8, t9, t10, t11, t12, t13, t14, t15, t16, t17, t18, t19, t20, t21, t22, t23] [(1, 3), (3, 6), (4, 6), (3, 8), (4, 8), (6, 10), (6, 16), (6, 17), (6, 18)] then
 vbin .add 0 x51 (kI 1) h fun x78 h =>
 R 2 [x0, x2, x4, x6, x7, x49, x50, x78] h
 else none)
 (R 3 [x6, x7] h)
theorem e142_2 (O : Oracle) (R : Jump) (q : Nat) (x0 x2 x4 x6 x7 x49 x50 x51 : TVal) (h : Heap) : b142_2 O R q x0 x2 x4 x6 x7 x49 x50 x51 h = stepF c142 O R q 2 [x0, x2, x4, x6, x7, x49, x50, x51] h := by kernel_rfl
def b142_3 (O : Oracle) (R : Jump) (q : Nat) (x6 x7 : TVal) (h : Heap) : Res1 :=
 vload true 6 x7 h fun x79 h =>
 vstore 6 x6 x79 h fun _ h =>
 vcell true 6 x6 h fun c0 => vfin true q [c0] h
theorem e142_3 (O : Oracle) (R : Jump) (q : Nat) (x6 x7 : TVal) (h : Heap) : b142_3 O R q x6 x7 h = stepF c142 O R q 3 [x6, x7] h := by kernel_rfl
def d142 : BlkF := fun O R Q => [.s fun a => .s fun b => .s fun c => .z (b142_0 O R Q a b c), .s fun a => .s fun b => .z (b142_1 O R Q a b), .s fun a => .s fun b => .s fun c => .s fun d => .s fun e => .s fun f => .s fun g => .s fun h => .z (b142_2 O R Q a b c d e f g h), .s fun a => .s fun b => .z (b142_3 O R Q a b)]
theorem o142 (O : Oracle) (R : Jump) (q : Nat) : HoldsAll c142 O R q 0 (d142 O R q) := ⟨e142_0 O R q, e142_1 O R q, e142_2 O R q, e142_3 O R q, trivial⟩
def c164 : MFunc := mkM (compF Tryd.prog (globs2 tabs opq) (fun _ => false) true Tryd.f164) .n
def b164_0 (O : Oracle) (R : Jump) (q : Nat) (x0 : TVal) (h : Heap) : Res1 :=
 vcall O (.v (.c (.func 178 []))) [x0, (kI 10)] h 4 fun x4 h =>
 tcomp x4 fun c0 => vfin true q [c0] h
theorem e164_0 (O : Oracle) (R : Jump) (q : Nat) (x0 : TVal) (h : Heap) : b164_0 O R q x0 h = stepF c164 O R q 0 [x0] h := by kernel_rfl
def d164 : BlkF := fun O R Q => [.s fun a => .z (b164_0 O R Q a)]
theorem o164 (O : Oracle) (R : Jump) (q : Nat) : HoldsAll c164 O R q 0 (d164 O R q) := ⟨e164_0 O R q, trivial⟩
def c178 : MFunc := mkM (compF Tryd.prog (globs2 tabs opq) (fun _ => false) true Tryd.f178) (.s .n (.s (.s .n (.s (.s .n (.s .n (.s .n (.s .n (.m 1 [0, 5, 6] .n))))) .n)) .n))
def b178_0 (O : Oracle) (R : Jump) (q : Nat) (x0 x1 : TVal) (h : Heap) : Res1 :=
 vbin .eql 0 x1 (kI 10) h fun x11 h =>
 vif x11 (
 vbin .leq 0 (kI 0) x0 h fun x13 h =>
 vguard x13 true (fun kk => kk x0 h) h fun x15 h =>
 vguard x13 true (fun kk => vbin .lss 0 x15 (kI 100) h kk) h fun x16 h =>
 vop O (.pick (.k x13) (.k x16) (.k (kB false))) h 17 fun x17 h =>
 vif x17 (
 vcall O (.v (.c (.func 184 []))) [x0] h 19 fun x19 h =>
 tcomp x19 fun c0 => vfin true q [c0] h)
 (vop O (.alloc [(.p (.int .u8 0)), (.p (.int .u8 0)), (.p (.int .u8 0)), (.p (.int .u8 0)), (.p (.int .u8 0)), (.p (.int .u8 0)), (.p (.int .u8 0)), (.p (.int .u8 0)), (.p (.int .u8 0)), (.p (.int .u8 0)), (.p (.int .u8 0)), (.p (.int .u8 0)), (.p (.int .u8 0)), (.p (.int .u8 0)), (.p (.int .u8 0)), (.p (.int .u8 0)), (.p (.int .u8 0)), (.p (.int .u8 0)), (.p (.int .u8 0)), (.p (.int .u8 0)), (.p (.int .u8 0)), (.p (.int .u8 0)), (.p (.int .u8 0)), (.p (.int .u8 0))] false) h 5 fun x5 h =>
 vtoInt .u64 x0 h fun x21 h =>
 vbin .lss 0 x0 (kI 0) h fun x23 h =>
 vif x23 (
 vop O (.un .neg (.k x21)) h 25 fun x25 h =>
 R 1 [x0, x5, x25] h)
 (R 1 [x0, x5, x21] h)))
 (vtoInt .u64 x0 h fun x46 h =>
 vbin .lss 0 x0 (kI 0) h fun x49 h =>
 vcall O (.v (.c (.func 187 []))) [(.v (.c (.p .nilslice))), x46, x1, x49, (kB false)] h 50 fun x50 h =>
 vext x50 0 h fun x51 h =>
 vext x50 1 h fun x52 h =>
 tcomp x52 fun c0 => vfin true q [c0] h)
theorem e178_0 (O : Oracle) (R : Jump) (q : Nat) (x0 x1 : TVal) (h : Heap) : b178_0 O R q x0 x1 h = stepF c178 O R q 0 [x0, x1] h := by kernel_rfl
def b178_1 (O : Oracle) (R : Jump) (q : Nat) (x0 x5 x6 : TVal) (h : Heap) : Res1 :=
 vcall O (.v (.c (.func 185 []))) [x6] h 27 fun x27 h =>
 vbin .add 0 (kI 1) x27 h fun x29 h =>
 vop O (.sliceA 24 1 (.k x5) (some (.k (kI 1))) (some (.k x29))) h 30 fun x30 h =>
 vcall O (.v (.c (.func 186 []))) [x30, x6] h 32 fun x32 h =>
 vbin .lss 0 x0 (kI 0) h fun x34 h =>
 vif x34 (
 vop O (.iaddrA 24 1 (.k x5) (.k (kI 0))) h 35 fun x35 h =>
 vstore 1 x35 (.v (.c (.p (.int .u8 45)))) h fun _ h =>
 vbin .add 0 (kI 1) x27 h fun x37 h =>
 vop O (.sliceA 24 1 (.k x5) none (some (.k x37))) h 38 fun x38 h =>
 vop O (.toStr (.k x38)) h 39 fun x39 h =>
 tcomp x39 fun c0 => vfin true q [c0] h)
 (vbin .add 0 (kI 1) x27 h fun x41 h =>
 vop O (.sliceA 24 1 (.k x5) (some (.k (kI 1))) (some (.k x41))) h 42 fun x42 h =>
 vop O (.toStr (.k x42)) h 43 fun x43 h =>
 tcomp x43 fun c0 => vfin true q [c0] h)
theorem e178_1 (O : Oracle) (R : Jump) (q : Nat) (x0 x5 x6 : TVal) (h : Heap) : b178_1 O R q x0 x5 x6 h = stepF c178 O R q 1 [x0, x5, x6] h := by kernel_rfl
def d178 : BlkF := fun O R Q => [.s fun a => .s fun b => .z (b178_0 O R Q a b), .s fun a => .s fun b => .s fun c => .z (b178_1 O R Q a b c)]
theorem o178 (O : Oracle) (R : Jump) (q : Nat) : HoldsAll c178 O R q 0 (d178 O R q) := ⟨e178_0 O R q, e178_1 O R q, trivial⟩
def c184 : MFunc := mkM (compF Tryd.prog (globs2 tabs opq) (fun _ => false) true Tryd.f184) .n
def b184_0 (O : Oracle) (R : Jump) (q : Nat) (x0 : TVal) (h : Heap) : Res1 :=
 vbin .lss 0 x0 (kI 10) h fun x4 h =>
 vif x4 (
 vbin .add 0 x0 (kI 1) h fun x7 h =>
 vop O (.slice 0 true (.k (kS [48, 49, 50, 51, 52, 53, 54, 55, 56, 57, 97, 98, 99, 100, 101, 102, 103, 104, 105, 106, 107, 108, 109, 110, 111, 112, 113, 114, 115, 116, 117, 118, 119, 120, 121, 122])) (some (.k x0)) (some (.k x7)) none) h 8 fun x8 h =>
 tcomp x8 fun c0 => vfin true q [c0] h)
 (vbin .mul 0 x0 (kI 2) h fun x10 h =>
 vbin .mul 0 x0 (kI 2) h fun x12 h =>
 vbin .add 0 x12 (kI 2) h fun x13 h =>
 vop O (.slice 0 true (.k (kS z53fdd7c2)) (some (.k x10)) (some (.k x13)) none) h 14 fun x14 h =>
 tcomp x14 fun c0 => vfin true q [c0] h)
theorem e184_0 (O : Oracle) (R : Jump) (q : Nat) (x0 : TVal) (h : Heap) : b184_0 O R q x0 h = stepF c184 O R q 0 [x0] h := by kernel_rfl
def d184 : BlkF := fun O R Q => [.s fun a => .z (b184_0 O R Q a)]
theorem o184 (O : Oracle) (R : Jump) (q : Nat) : HoldsAll c184 O R q 0 (d184 O R q) := ⟨e184_0 O R q, trivial⟩
def c185 : MFunc := mkM (compF Tryd.prog (globs2 tabs opq) (fun _ => false) true Tryd.f185) .n
def b185_0 (O : Oracle) (R : Jump) (q : Nat) (x0 : TVal) (h : Heap) : Res1 :=
 vcall O (.v (.c (.func 193 []))) [x0] h 5 fun x5 h =>
 vcall O (.v (.c (.func 192 []))) [x5] h 6 fun x6 h =>
 none
theorem e185_0 (O : Oracle) (R : Jump) (q : Nat) (x0 : TVal) (h : Heap) : b185_0 O R q x0 h = stepF c185 O R q 0 [x0] h := by kernel_rfl
def d185 : BlkF := fun O R Q => [.s fun a => .z (b185_0 O R Q a)]
theorem o185 (O : Oracle) (R : Jump) (q : Nat) : HoldsAll c185 O R q 0 (d185 O R q) := ⟨e185_0 O R q, trivial⟩
def c186 : MFunc := mkM (compF Tryd.prog (globs2 tabs opq) (fun _ => false) true Tryd.f186) (.s .n (.s (.k (.l 1 [0, 1, 4] .n)) (.m 2 [0, 1, 4] (.s .n (.s .n (.m 3 [0, 4, 12] (.s .n (.m 4 [0, 4, 12] .n))))))))
def b186_0 (O : Oracle) (R : Jump) (q : Nat) (x0 x1 : TVal) (h : Heap) : Res1 :=
 vlen O 2 x0 h 18 fun x18 h =>
 R 1 [x0, x1, x18] h
theorem e186_0 (O : Oracle) (R : Jump) (q : Nat) (x0 x1 : TVal) (h : Heap) : b186_0 O R q x0 x1 h = stepF c186 O R q 0 [x0, x1] h := by kernel_rfl
def b186_1 (O : Oracle) (R : Jump) (q : Nat) (x0 x1 x4 : TVal) (h : Heap) : Res1 :=
 vbin .geq 0 x4 (kI 8) h fun x20 h =>
 vif x20 (
 vbin .rem 0 x1 (.v (.c (.p (.int .u64 100000000)))) h fun x22 h =>
 vtoInt .u32 x22 h fun x23 h =>
 vbin .quo 0 x1 (.v (.c (.p (.int .u64 100000000)))) h fun x25 h =>
 vbin .quo 0 x23 (.v (.c (.p (.int .u32 10000)))) h fun x27 h =>
 vbin .rem 0 x23 (.v (.c (.p (.int .u32 10000)))) h fun x29 h =>
 vbin .quo 0 x29 (.v (.c (.p (.int .u32 100)))) h fun x31 h =>
 vbin .mul 0 x31 (.v (.c (.p (.int .u32 2)))) h fun x32 h =>
 vbin .rem 0 x29 (.v (.c (.p (.int .u32 100)))) h fun x34 h =>
 vbin .mul 0 x34 (.v (.c (.p (.int .u32 2)))) h fun x35 h =>
 vbin .quo 0 x27 (.v (.c (.p (.int .u32 100)))) h fun x37 h =>
 vbin .mul 0 x37 (.v (.c (.p (.int .u32 2)))) h fun x38 h =>
 vbin .rem 0 x27 (.v (.c (.p (.int .u32 100)))) h fun x40 h =>
 vbin .mul 0 x40 (.v (.c (.p (.int .u32 2)))) h fun x41 h =>
 vbin .sub 0 x4 (kI 1) h fun x44 h =>
 vbin .sub 0 x4 (kI 2) h fun x47 h =>
 vbin .add 0 x35 (.v (.c (.p (.int .u32 1)))) h fun x49 h =>
 vindex (kS z53fdd7c2) x49 h fun x50 h =>
 vindex (kS z53fdd7c2) x35 h fun x52 h =>
 viaddr 1 x0 x44 h fun x53 h =>
 vstore 1 x53 x50 h fun _ h =>
 viaddr 1 x0 x47 h fun x54 h =>
 vstore 1 x54 x52 h fun _ h =>
 vbin .sub 0 x4 (kI 3) h fun x57 h =>
 vbin .sub 0 x4 (kI 4) h fun x60 h =>
 vbin .add 0 x32 (.v (.c (.p (.int .u32 1)))) h fun x62 h =>
 vindex (kS z53fdd7c2) x62 h fun x63 h =>
 vindex (kS z53fdd7c2) x32 h fun x65 h =>
 viaddr 1 x0 x57 h fun x66 h =>
 vstore 1 x66 x63 h fun _ h =>
 viaddr 1 x0 x60 h fun x67 h =>
 vstore 1 x67 x65 h fun _ h =>
 vbin .sub 0 x4 (kI 5) h fun x70 h =>
 vbin .sub 0 x4 (kI 6) h fun x73 h =>
 vbin .add 0 x41 (.v (.c (.p (.int .u32 1)))) h fun x75 h =>
 vindex (kS z53fdd7c2) x75 h fun x76 h =>
 vindex (kS z53fdd7c2) x41 h fun x78 h =>
 viaddr 1 x0 x70 h fun x79 h =>
 vstore 1 x79 x76 h fun _ h =>
 viaddr 1 x0 x73 h fun x80 h =>
 vstore 1 x80 x78 h fun _ h =>
 vbin .sub 0 x4 (kI 7) h fun x83 h =>
 vbin .sub 0 x4 (kI 8) h fun x86 h =>
 vbin .add 0 x38 (.v (.c (.p (.int .u32 1)))) h fun x88 h =>
 vindex (kS z53fdd7c2) x88 h fun x89 h =>
 vindex (kS z53fdd7c2) x38 h fun x91 h =>
 viaddr 1 x0 x83 h fun x92 h =>
 vstore 1 x92 x89 h fun _ h =>
 viaddr 1 x0 x86 h fun x93 h =>
 vstore 1 x93 x91 h fun _ h =>
 vbin .sub 0 x4 (kI 8) h fun x95 h =>
 R 1 [x0, x25, x95] h)
 (R 2 [x0, x1, x4] h)
theorem e186_1 (O : Oracle) (R : Jump) (q : Nat) (x0 x1 x4 : TVal) (h : Heap) : b186_1 O R q x0 x1 x4 h = stepF c186 O R q 1 [x0, x1, x4] h := by kernel_rfl
def b186_2 (O : Oracle) (R : Jump) (q : Nat) (x0 x1 x4 : TVal) (h : Heap) : Res1 :=
 vtoInt .u32 x1 h fun x97 h =>
 vbin .geq 0 x4 (kI 4) h fun x99 h =>
 vif x99 (
 vbin .rem 0 x97 (.v (.c (.p (.int .u32 10000)))) h fun x101 h =>
 vbin .quo 0 x97 (.v (.c (.p (.int .u32 10000)))) h fun x103 h =>
 vbin .quo 0 x101 (.v (.c (.p (.int .u32 100)))) h fun x105 h =>
 vbin .mul 0 x105 (.v (.c (.p (.int .u32 2)))) h fun x106 h =>
 vbin .rem 0 x101 (.v (.c (.p (.int .u32 100)))) h fun x108 h =>
 vbin .mul 0 x108 (.v (.c (.p (.int .u32 2)))) h fun x109 h =>
 vbin .sub 0 x4 (kI 1) h fun x112 h =>
 vbin .sub 0 x4 (kI 2) h fun x115 h =>
 vbin .add 0 x109 (.v (.c (.p (.int .u32 1)))) h fun x117 h =>
 vindex (kS z53fdd7c2) x117 h fun x118 h =>
 vindex (kS z53fdd7c2) x109 h fun x120 h =>
 viaddr 1 x0 x112 h fun x121 h =>
 vstore 1 x121 x118 h fun _ h =>
 viaddr 1 x0 x115 h fun x122 h =>
 vstore 1 x122 x120 h fun _ h =>
 vbin .sub 0 x4 (kI 3) h fun x125 h =>
 vbin .sub 0 x4 (kI 4) h fun x128 h =>
 vbin .add 0 x106 (.v (.c (.p (.int .u32 1)))) h fun x130 h =>
 vindex (kS z53fdd7c2) x130 h fun x131 h =>
 vindex (kS z53fdd7c2) x106 h fun x133 h =>
 viaddr 1 x0 x125 h fun x134 h =>
 vstore 1 x134 x131 h fun _ h =>
 viaddr 1 x0 x128 h fun x135 h =>
 vstore 1 x135 x133 h fun _ h =>
 vbin .sub 0 x4 (kI 4) h fun x137 h =>
 R 3 [x0, x137, x103] h)
 (R 3 [x0, x4, x97] h)
theorem e186_2 (O : Oracle) (R : Jump) (q : Nat) (x0 x1 x4 : TVal) (h : Heap) : b186_2 O R q x0 x1 x4 h = stepF c186 O R q 2 [x0, x1, x4] h := by kernel_rfl
def b186_3 (O : Oracle) (R : Jump) (q : Nat) (x0 x4 x12 : TVal) (h : Heap) : Res1 :=
 vbin .geq 0 x4 (kI 2) h fun x139 h =>
 vif x139 (
 vbin .rem 0 x12 (.v (.c (.p (.int .u32 100)))) h fun x141 h =>
 vbin .mul 0 x141 (.v (.c (.p (.int .u32 2)))) h fun x142 h =>
 vbin .quo 0 x12 (.v (.c (.p (.int .u32 100)))) h fun x144 h =>
 vbin .sub 0 x4 (kI 1) h fun x147 h =>
 vbin .sub 0 x4 (kI 2) h fun x150 h =>
 vbin .add 0 x142 (.v (.c (.p (.int .u32 1)))) h fun x152 h =>
 vindex (kS z53fdd7c2) x152 h fun x153 h =>
 vindex (kS z53fdd7c2) x142 h fun x155 h =>
 viaddr 1 x0 x147 h fun x156 h =>
 vstore 1 x156 x153 h fun _ h =>
 viaddr 1 x0 x150 h fun x157 h =>
 vstore 1 x157 x155 h fun _ h =>
 vbin .sub 0 x4 (kI 2) h fun x159 h =>
 R 4 [x0, x159, x144] h)
 (R 4 [x0, x4, x12] h)
theorem e186_3 (O : Oracle) (R : Jump) (q : Nat) (x0 x4 x12 : TVal) (h : Heap) : b186_3 O R q x0 x4 x12 h = stepF c186 O R q 3 [x0, x4, x12] h := by kernel_rfl
def b186_4 (O : Oracle) (R : Jump) (q : Nat) (x0 x4 x12 : TVal) (h : Heap) : Res1 :=
 vbin .gtr 0 x4 (kI 0) h fun x161 h =>
 vif x161 (
 vbin .add 0 (.v (.c (.p (.int .u32 48)))) x12 h fun x164 h =>
 vtoInt .u8 x164 h fun x165 h =>
 viaddr 1 x0 (kI 0) h fun x166 h =>
 vstore 1 x166 x165 h fun _ h =>
 vfin true q [] h)
 (vfin true q [] h)
theorem e186_4 (O : Oracle) (R : Jump) (q : Nat) (x0 x4 x12 : TVal) (h : Heap) : b186_4 O R q x0 x4 x12 h = stepF c186 O R q 4 [x0, x4, x12] h := by kernel_rfl
def d186 : BlkF := fun O R Q => [.s fun a => .s fun b => .z (b186_0 O R Q a b), .s fun a => .s fun b => .s fun c => .z (b186_1 O R Q a b c), .s fun a => .s fun b => .s fun c => .z (b186_2 O R Q a b c), .s fun a => .s fun b => .s fun c => .z (b186_3 O R Q a b c), .s fun a => .s fun b => .s fun c => .z (b186_4 O R Q a b c)]
theorem o186 (O : Oracle) (R : Jump) (q : Nat) : HoldsAll c186 O R q 0 (d186 O R q) := ⟨e186_0 O R q, e186_1 O R q, e186_2 O R q, e186_3 O R q, e186_4 O R q, trivial⟩
def c187 : MFunc := mkM (compF Tryd.prog (globs2 tabs opq) (fun _ => false) true Tryd.f187) (.s .n (.s .n (.m 1 [0, 1, 2, 3, 4, 10, 11] (.s .n (.s .n (.s .n (.m 2 [0, 1, 2, 3, 4, 10, 11, 12, 13] (.s (.s .n (.s (.s .n (.s .n (.s .n (.s (.k (.l 3 [0, 1, 3, 4, 10, 11, 12, 13, 14, 15, 16] .n)) (.m 4 [0, 1, 3, 4, 10, 11, 12, 13] .n))))) (.s .n (.s (.k (.l 5 [0, 1, 3, 4, 10, 11, 12, 13, 17] .n)) (.m 6 [0, 1, 3, 4, 10, 11, 12, 13] .n))))) (.m 7 [0, 3, 4, 10, 11, 12, 13] (.s .n (.m 8 [0, 4, 10, 11, 12, 13] .n)))))))))))
def b187_0 (O : Oracle) (R : Jump) (q : Nat) (x0 x1 x2 x3 x4 : TVal) (h : Heap) : Res1 :=
 vbin .lss 0 x2 (kI 2) h fun x20 h =>
 vguard x20 false (fun kk => kk x2 h) h fun x22 h =>
 vguard x20 false (fun kk => vbin .eql 0 x22 (kI 10) h kk) h fun x23 h =>
 vop O (.pick (.k x20) (.k (kB true)) (.k x23)) h 24 fun x24 h =>
 vguard x24 false (fun kk => kk x2 h) h fun x26 h =>
 vguard x24 false (fun kk => vbin .gtr 0 x26 (kI 36) h kk) h fun x27 h =>
 vop O (.pick (.k x24) (.k (kB true)) (.k x27)) h 28 fun x28 h =>
 vif x28 (
 none)
 (R 1 [x0, x1, x2, x3, x4, (.v (.c (.p .nilslice))), (kS [])] h)
theorem e187_0 (O : Oracle) (R : Jump) (q : Nat) (x0 x1 x2 x3 x4 : TVal) (h : Heap) : b187_0 O R q x0 x1 x2 x3 x4 h = stepF c187 O R q 0 [x0, x1, x2, x3, x4] h := by kernel_rfl
def b187_1 (O : Oracle) (R : Jump) (q : Nat) (x0 x1 x2 x3 x4 x10 x11 : TVal) (h : Heap) : Res1 :=
 vop O (.alloc [(.p (.int .u8 0)), (.p (.int .u8 0)), (.p (.int .u8 0)), (.p (.int .u8 0)), (.p (.int .u8 0)), (.p (.int .u8 0)), (.p (.int .u8 0)), (.p (.int .u8 0)), (.p (.int .u8 0)), (.p (.int .u8 0)), (.p (.int .u8 0)), (.p (.int .u8 0)), (.p (.int .u8 0)), (.p (.int .u8 0)), (.p (.int .u8 0)), (.p (.int .u8 0)), (.p (.int .u8 0)), (.p (.int .u8 0)), (.p (.int .u8 0)), (.p (.int .u8 0)), (.p (.int .u8 0)), (.p (.int .u8 0)), (.p (.int .u8 0)), (.p (.int .u8 0)), (.p (.int .u8 0)), (.p (.int .u8 0)), (.p (.int .u8 0)), (.p (.int .u8 0)), (.p (.int .u8 0)), (.p (.int .u8 0)), (.p (.int .u8 0)), (.p (.int .u8 0)), (.p (.int .u8 0)), (.p (.int .u8 0)), (.p (.int .u8 0)), (.p (.int .u8 0)), (.p (.int .u8 0)), (.p (.int .u8 0)), (.p (.int .u8 0)), (.p (.int .u8 0)), (.p (.int .u8 0)), (.p (.int .u8 0)), (.p (.int .u8 0)), (.p (.int .u8 0)), (.p (.int .u8 0)), (.p (.int .u8 0)), (.p (.int .u8 0)), (.p (.int .u8 0)), (.p (.int .u8 0)), (.p (.int .u8 0)), (.p (.int .u8 0)), (.p (.int .u8 0)), (.p (.int .u8 0)), (.p (.int .u8 0)), (.p (.int .u8 0)), (.p (.int .u8 0)), (.p (.int .u8 0)), (.p (.int .u8 0)), (.p (.int .u8 0)), (.p (.int .u8 0)), (.p (.int .u8 0)), (.p (.int .u8 0)), (.p (.int .u8 0)), (.p (.int .u8 0)), (.p (.int .u8 0))] false) h 12 fun x12 h =>
 vif x3 (
 vop O (.un .neg (.k x1)) h 32 fun x32 h =>
 R 2 [x0, x32, x2, x3, x4, x10, x11, x12, (kI 65)] h)
 (R 2 [x0, x1, x2, x3, x4, x10, x11, x12, (kI 65)] h)
theorem e187_1 (O : Oracle) (R : Jump) (q : Nat) (x0 x1 x2 x3 x4 x10 x11 : TVal) (h : Heap) : b187_1 O R q x0 x1 x2 x3 x4 x10 x11 h = stepF c187 O R q 1 [x0, x1, x2, x3, x4, x10, x11] h := by kernel_rfl
def b187_2 (O : Oracle) (R : Jump) (q : Nat) (x0 x1 x2 x3 x4 x10 x11 x12 x13 : TVal) (h : Heap) : Res1 :=
 vcall O (.v (.c (.func 195 []))) [x2] h 34 fun x34 h =>
 vif x34 (
 vtoInt .u64 x2 h fun x36 h =>
 vcall O (.v (.c (.func 196 []))) [x36] h 37 fun x37 h =>
 vtoInt .u64 x37 h fun x38 h =>
 vtoInt .u64 x2 h fun x40 h =>
 vtoInt .u64 x2 h fun x42 h =>
 vbin .sub 0 x42 (.v (.c (.p (.int .u64 1)))) h fun x43 h =>
 R 3 [x0, x1, x3, x4, x10, x11, x12, x13, x38, x40, x43] h)
 (vtoInt .u64 x2 h fun x65 h =>
 R 5 [x0, x1, x3, x4, x10, x11, x12, x13, x65] h)
theorem e187_2 (O : Oracle) (R : Jump) (q : Nat) (x0 x1 x2 x3 x4 x10 x11 x12 x13 : TVal) (h : Heap) : b187_2 O R q x0 x1 x2 x3 x4 x10 x11 x12 x13 h = stepF c187 O R q 2 [x0, x1, x2, x3, x4, x10, x11, x12, x13] h := by kernel_rfl
def b187_3 (O : Oracle) (R : Jump) (q : Nat) (x0 x1 x3 x4 x10 x11 x12 x13 x14 x15 x16 : TVal) (h : Heap) : Res1 :=
 vbin .geq 0 x1 x15 h fun x46 h =>
 vif x46 (
 vbin .sub 0 x13 (kI 1) h fun x48 h =>
 vbin .and 0 x1 x16 h fun x52 h =>
 vindex (kS [48, 49, 50, 51, 52, 53, 54, 55, 56, 57, 97, 98, 99, 100, 101, 102, 103, 104, 105, 106, 107, 108, 109, 110, 111, 112, 113, 114, 115, 116, 117, 118, 119, 120, 121, 122]) x52 h fun x53 h =>
 vop O (.iaddrA 65 1 (.k x12) (.k x48)) h 54 fun x54 h =>
 vstore 1 x54 x53 h fun _ h =>
 vbin .shr 0 x1 x14 h fun x57 h =>
 R 3 [x0, x57, x3, x4, x10, x11, x12, x48, x14, x15, x16] h)
 (R 4 [x0, x1, x3, x4, x10, x11, x12, x13] h)
theorem e187_3 (O : Oracle) (R : Jump) (q : Nat) (x0 x1 x3 x4 x10 x11 x12 x13 x14 x15 x16 : TVal) (h : Heap) : b187_3 O R q x0 x1 x3 x4 x10 x11 x12 x13 x14 x15 x16 h = stepF c187 O R q 3 [x0, x1, x3, x4, x10, x11, x12, x13, x14, x15, x16] h := by kernel_rfl
def b187_4 (O : Oracle) (R : Jump) (q : Nat) (x0 x1 x3 x4 x10 x11 x12 x13 : TVal) (h : Heap) : Res1 :=
 vbin .sub 0 x13 (kI 1) h fun x59 h =>
 vindex (kS [48, 49, 50, 51, 52, 53, 54, 55, 56, 57, 97, 98, 99, 100, 101, 102, 103, 104, 105, 106, 107, 108, 109, 110, 111, 112, 113, 114, 115, 116, 117, 118, 119, 120, 121, 122]) x1 h fun x62 h =>
 vop O (.iaddrA 65 1 (.k x12) (.k x59)) h 63 fun x63 h =>
 vstore 1 x63 x62 h fun _ h =>
 R 7 [x0, x3, x4, x10, x11, x12, x59] h
theorem e187_4 (O : Oracle) (R : Jump) (q : Nat) (x0 x1 x3 x4 x10 x11 x12 x13 : TVal) (h : Heap) : b187_4 O R q x0 x1 x3 x4 x10 x11 x12 x13 h = stepF c187 O R q 4 [x0, x1, x3, x4, x10, x11, x12, x13] h := by kernel_rfl
def b187_5 (O : Oracle) (R : Jump) (q : Nat) (x0 x1 x3 x4 x10 x11 x12 x13 x17 : TVal) (h : Heap) : Res1 :=
 vbin .geq 0 x1 x17 h fun x68 h =>
 vif x68 (
 vbin .sub 0 x13 (kI 1) h fun x70 h =>
 vbin .quo 0 x1 x17 h fun x73 h =>
 vbin .mul 0 x73 x17 h fun x78 h =>
 vbin .sub 0 x1 x78 h fun x79 h =>
 vindex (kS [48, 49, 50, 51, 52, 53, 54, 55, 56, 57, 97, 98, 99, 100, 101, 102, 103, 104, 105, 106, 107, 108, 109, 110, 111, 112, 113, 114, 115, 116, 117, 118, 119, 120, 121, 122]) x79 h fun x80 h =>
 vop O (.iaddrA 65 1 (.k x12) (.k x70)) h 81 fun x81 h =>
 vstore 1 x81 x80 h fun _ h =>
 R 5 [x0, x73, x3, x4, x10, x11, x12, x70, x17] h)
 (R 6 [x0, x1, x3, x4, x10, x11, x12, x13] h)
theorem e187_5 (O : Oracle) (R : Jump) (q : Nat) (x0 x1 x3 x4 x10 x11 x12 x13 x17 : TVal) (h : Heap) : b187_5 O R q x0 x1 x3 x4 x10 x11 x12 x13 x17 h = stepF c187 O R q 5 [x0, x1, x3, x4, x10, x11, x12, x13, x17] h := by kernel_rfl
def b187_6 (O : Oracle) (R : Jump) (q : Nat) (x0 x1 x3 x4 x10 x11 x12 x13 : TVal) (h : Heap) : Res1 :=
 vbin .sub 0 x13 (kI 1) h fun x84 h =>
 vindex (kS [48, 49, 50, 51, 52, 53, 54, 55, 56, 57, 97, 98, 99, 100, 101, 102, 103, 104, 105, 106, 107, 108, 109, 110, 111, 112, 113, 114, 115, 116, 117, 118, 119, 120, 121, 122]) x1 h fun x87 h =>
 vop O (.iaddrA 65 1 (.k x12) (.k x84)) h 88 fun x88 h =>
 vstore 1 x88 x87 h fun _ h =>
 R 7 [x0, x3, x4, x10, x11, x12, x84] h
theorem e187_6 (O : Oracle) (R : Jump) (q : Nat) (x0 x1 x3 x4 x10 x11 x12 x13 : TVal) (h : Heap) : b187_6 O R q x0 x1 x3 x4 x10 x11 x12 x13 h = stepF c187 O R q 6 [x0, x1, x3, x4, x10, x11, x12, x13] h := by kernel_rfl
def b187_7 (O : Oracle) (R : Jump) (q : Nat) (x0 x3 x4 x10 x11 x12 x13 : TVal) (h : Heap) : Res1 :=
 vif x3 (
 vbin .sub 0 x13 (kI 1) h fun x91 h =>
 vop O (.iaddrA 65 1 (.k x12) (.k x91)) h 93 fun x93 h =>
 vstore 1 x93 (.v (.c (.p (.int .u8 45)))) h fun _ h =>
 R 8 [x0, x4, x10, x11, x12, x91] h)
 (R 8 [x0, x4, x10, x11, x12, x13] h)
theorem e187_7 (O : Oracle) (R : Jump) (q : Nat) (x0 x3 x4 x10 x11 x12 x13 : TVal) (h : Heap) : b187_7 O R q x0 x3 x4 x10 x11 x12 x13 h = stepF c187 O R q 7 [x0, x3, x4, x10, x11, x12, x13] h := by kernel_rfl
def b187_8 (O : Oracle) (R : Jump) (q : Nat) (x0 x4 x10 x11 x12 x13 : TVal) (h : Heap) : Res1 :=
 vif x4 (
 vop O (.sliceA 65 1 (.k x12) (some (.k x13)) none) h 97 fun x97 h =>
 vop O (.append 1 1 false (.k x0) (.k x97)) h 98 fun x98 h =>
 tcomp x98 fun c0 => tcomp x11 fun c1 => vfin true q [c0, c1] h)
 (vop O (.sliceA 65 1 (.k x12) (some (.k x13)) none) h 100 fun x100 h =>
 vop O (.toStr (.k x100)) h 101 fun x101 h =>
 tcomp x10 fun c0 => tcomp x101 fun c1 => vfin true q [c0, c1] h)
theorem e187_8 (O : Oracle) (R : Jump) (q : Nat) (x0 x4 x10 x11 x12 x13 : TVal) (h : Heap) : b187_8 O R q x0 x4 x10 x11 x12 x13 h = stepF c187 O R q 8 [x0, x4, x10, x11, x12, x13] h := by kernel_rfl
def d187 : BlkF := fun O R Q => [.s fun a => .s fun b => .s fun c => .s fun d => .s fun e => .z (b187_0 O R Q a b c d e), .s fun a => .s fun b => .s fun c => .s fun d => .s fun e => .s fun f => .s fun g => .z (b187_1 O R Q a b c d e f g), .s fun a => .s fun b => .s fun c => .s fun d => .s fun e => .s fun f => .s fun g => .s fun h => .s fun i => .z (b187_2 O R Q a b c d e f g h i), .s fun a => .s fun b => .s fun c => .s fun d => .s fun e => .s fun f => .s fun g => .s fun h => .s fun i => .s fun j => .s fun k => .z (b187_3 O R Q a b c d e f g h i j k), .s fun a => .s fun b => .s fun c => .s fun d => .s fun e => .s fun f => .s fun g => .s fun h => .z (b187_4 O R Q a b c d e f g h), .s fun a => .s fun b => .s fun c => .s fun d => .s fun e => .s fun f => .s fun g => .s fun h => .s fun i => .z (b187_5 O R Q a b c d e f g h i), .s fun a => .s fun b => .s fun c => .s fun d => .s fun e => .s fun f => .s fun g => .s fun h => .z (b187_6 O R Q a b c d e f g h), .s fun a => .s fun b => .s fun c => .s fun d => .s fun e => .s fun f => .s fun g => .z (b187_7 O R Q a b c d e f g), .s fun a => .s fun b => .s fun c => .s fun d => .s fun e => .s fun f => .z (b187_8 O R Q a b c d e f)]
theorem o187 (O : Oracle) (R : Jump) (q : Nat) : HoldsAll c187 O R q 0 (d187 O R q) := ⟨e187_0 O R q, e187_1 O R q, e187_2 O R q, e187_3 O R q, e187_4 O R q, e187_5 O R q, e187_6 O R q, e187_7 O R q, e187_8 O R q, trivial⟩
def c192 : MFunc := mkM (compF Tryd.prog (globs2 tabs opq) (fun _ => false) true Tryd.f192) .n
def b192_0 (O : Oracle) (R : Jump) (q : Nat) (x0 : TVal) (h : Heap) : Res1 :=
 vbin .mul 0 x0 (kI 78913) h fun x4 h =>
 vbin .shr 0 x4 (.v (.c (.p (.int .u64 18)))) h fun x5 h =>
 tcomp x5 fun c0 => vfin true q [c0] h
theorem e192_0 (O : Oracle) (R : Jump) (q : Nat) (x0 : TVal) (h : Heap) : b192_0 O R q x0 h = stepF c192 O R q 0 [x0] h := by kernel_rfl
def d192 : BlkF := fun O R Q => [.s fun a => .z (b192_0 O R Q a)]
theorem o192 (O : Oracle) (R : Jump) (q : Nat) : HoldsAll c192 O R q 0 (d192 O R q) := ⟨e192_0 O R q, trivial⟩
def c193 : MFunc := mkM (compF Tryd.prog (globs2 tabs opq) (fun _ => false) true Tryd.f193) (.s .n (.s .n (.m 1 [0, 2] (.s .n (.m 2 [0, 2] (.s .n (.m 3 [0, 2] .n)))))))
def b193_0 (O : Oracle) (R : Jump) (q : Nat) (x0 : TVal) (h : Heap) : Res1 :=
 vbin .geq 0 x0 (.v (.c (.p (.int .u64 4294967296)))) h fun x4 h =>
 vif x4 (
 vbin .shr 0 x0 (.v (.c (.p (.int .u64 32)))) h fun x6 h =>
 R 1 [x6, (kI 32)] h)
 (R 1 [x0, (kI 0)] h)
theorem e193_0 (O : Oracle) (R : Jump) (q : Nat) (x0 : TVal) (h : Heap) : b193_0 O R q x0 h = stepF c193 O R q 0 [x0] h := by kernel_rfl
def b193_1 (O : Oracle) (R : Jump) (q : Nat) (x0 x2 : TVal) (h : Heap) : Res1 :=
 vbin .geq 0 x0 (.v (.c (.p (.int .u64 65536)))) h fun x8 h =>
 vif x8 (
 vbin .shr 0 x0 (.v (.c (.p (.int .u64 16)))) h fun x10 h =>
 vbin .add 0 x2 (kI 16) h fun x12 h =>
 R 2 [x10, x12] h)
 (R 2 [x0, x2] h)
theorem e193_1 (O : Oracle) (R : Jump) (q : Nat) (x0 x2 : TVal) (h : Heap) : b193_1 O R q x0 x2 h = stepF c193 O R q 1 [x0, x2] h := by kernel_rfl
def b193_2 (O : Oracle) (R : Jump) (q : Nat) (x0 x2 : TVal) (h : Heap) : Res1 :=
 vbin .geq 0 x0 (.v (.c (.p (.int .u64 256)))) h fun x14 h =>
 vif x14 (
 vbin .shr 0 x0 (.v (.c (.p (.int .u64 8)))) h fun x16 h =>
 vbin .add 0 x2 (kI 8) h fun x18 h =>
 R 3 [x16, x18] h)
 (R 3 [x0, x2] h)
theorem e193_2 (O : Oracle) (R : Jump) (q : Nat) (x0 x2 : TVal) (h : Heap) : b193_2 O R q x0 x2 h = stepF c193 O R q 2 [x0, x2] h := by kernel_rfl
def b193_3 (O : Oracle) (R : Jump) (q : Nat) (x0 x2 : TVal) (h : Heap) : Res1 :=
 vtoInt .u8 x0 h fun x21 h =>
 vindex (kS z0a4518d3) x21 h fun x22 h =>
 vtoInt .i64 x22 h fun x23 h =>
 vbin .add 0 x2 x23 h fun x24 h =>
 tcomp x24 fun c0 => vfin true q [c0] h
theorem e193_3 (O : Oracle) (R : Jump) (q : Nat) (x0 x2 : TVal) (h : Heap) : b193_3 O R q x0 x2 h = stepF c193 O R q 3 [x0, x2] h := by kernel_rfl
def d193 : BlkF := fun O R Q => [.s fun a => .z (b193_0 O R Q a), .s fun a => .s fun b => .z (b193_1 O R Q a b), .s fun a => .s fun b => .z (b193_2 O R Q a b), .s fun a => .s fun b => .z (b193_3 O R Q a b)]
theorem o193 (O : Oracle) (R : Jump) (q : Nat) : HoldsAll c193 O R q 0 (d193 O R q) := ⟨e193_0 O R q, e193_1 O R q, e193_2 O R q, e193_3 O R q, trivial⟩
def c194 : MFunc := mkM (compF Tryd.prog (globs2 tabs opq) (fun _ => false) true Tryd.f194) .n
def b194_0 (O : Oracle) (R : Jump) (q : Nat) (x0 : TVal) (h : Heap) : Res1 :=
 vif x0 (
 tcomp (kI 1) fun c0 => vfin true q [c0] h)
 (tcomp (kI 0) fun c0 => vfin true q [c0] h)
theorem e194_0 (O : Oracle) (R : Jump) (q : Nat) (x0 : TVal) (h : Heap) : b194_0 O R q x0 h = stepF c194 O R q 0 [x0] h := by kernel_rfl
def d194 : BlkF := fun O R Q => [.s fun a => .z (b194_0 O R Q a)]
theorem o194 (O : Oracle) (R : Jump) (q : Nat) : HoldsAll c194 O R q 0 (d194 O R q) := ⟨e194_0 O R q, trivial⟩
def c195 : MFunc := mkM (compF Tryd.prog (globs2 tabs opq) (fun _ => false) true Tryd.f195) .n
def b195_0 (O : Oracle) (R : Jump) (q : Nat) (x0 : TVal) (h : Heap) : Res1 :=
 vbin .sub 0 x0 (kI 1) h fun x5 h =>
 vbin .and 0 x0 x5 h fun x6 h =>
 vbin .eql 0 x6 (kI 0) h fun x7 h =>
 tcomp x7 fun c0 => vfin true q [c0] h
theorem e195_0 (O : Oracle) (R : Jump) (q : Nat) (x0 : TVal) (h : Heap) : b195_0 O R q x0 h = stepF c195 O R q 0 [x0] h := by kernel_rfl
def d195 : BlkF := fun O R Q => [.s fun a => .z (b195_0 O R Q a)]
theorem o195 (O : Oracle) (R : Jump) (q : Nat) : HoldsAll c195 O R q 0 (d195 O R q) := ⟨e195_0 O R q, trivial⟩
def c196 : MFunc := mkM (compF Tryd.prog (globs2 tabs opq) (fun _ => false) true Tryd.f196) .n
def b196_0 (O : Oracle) (R : Jump) (q : Nat) (x0 : TVal) (h : Heap) : Res1 :=
 vif (kB false) (
 vtoInt .u32 x0 h fun x4 h =>
 vcall O (.v (.c (.func 199 []))) [x4] h 5 fun x5 h =>
 tcomp x5 fun c0 => vfin true q [c0] h)
 (vcall O (.v (.c (.func 200 []))) [x0] h 7 fun x7 h =>
 tcomp x7 fun c0 => vfin true q [c0] h)
theorem e196_0 (O : Oracle) (R : Jump) (q : Nat) (x0 : TVal) (h : Heap) : b196_0 O R q x0 h = stepF c196 O R q 0 [x0] h := by kernel_rfl
def d196 : BlkF := fun O R Q => [.s fun a => .z (b196_0 O R Q a)]
theorem o196 (O : Oracle) (R : Jump) (q : Nat) : HoldsAll c196 O R q 0 (d196 O R q) := ⟨e196_0 O R q, trivial⟩
def c199 : MFunc := mkM (compF Tryd.prog (globs2 tabs opq) (fun _ => false) true Tryd.f199) .n
def b199_0 (O : Oracle) (R : Jump) (q : Nat) (x0 : TVal) (h : Heap) : Res1 :=
 vbin .eql 0 x0 (.v (.c (.p (.int .u32 0)))) h fun x4 h =>
 vif x4 (
 tcomp (kI 32) fun c0 => vfin true q [c0] h)
 (vop O (.un .neg (.k x0)) h 7 fun x7 h =>
 vbin .and 0 x0 x7 h fun x8 h =>
 vbin .mul 0 x8 (.v (.c (.p (.int .u32 125613361)))) h fun x9 h =>
 vbin .shr 0 x9 (.v (.c (.p (.int .u64 27)))) h fun x10 h =>
 none)
theorem e199_0 (O : Oracle) (R : Jump) (q : Nat) (x0 : TVal) (h : Heap) : b199_0 O R q x0 h = stepF c199 O R q 0 [x0] h := by kernel_rfl
def d199 : BlkF := fun O R Q => [.s fun a => .z (b199_0 O R Q a)]
theorem o199 (O : Oracle) (R : Jump) (q : Nat) : HoldsAll c199 O R q 0 (d199 O R q) := ⟨e199_0 O R q, trivial⟩
def c200 : MFunc := mkM (compF Tryd.prog (globs2 tabs opq) (fun _ => false) true Tryd.f200) .n
def b200_0 (O : Oracle) (R : Jump) (q : Nat) (x0 : TVal) (h : Heap) : Res1 :=
 vbin .eql 0 x0 (.v (.c (.p (.int .u64 0)))) h fun x4 h =>
 vif x4 (
 tcomp (kI 64) fun c0 => vfin true q [c0] h)
 (vop O (.un .neg (.k x0)) h 7 fun x7 h =>
 vbin .and 0 x0 x7 h fun x8 h =>
 vbin .mul 0 x8 (.v (.c (.p (.int .u64 285870213051353865)))) h fun x9 h =>
 vbin .shr 0 x9 (.v (.c (.p (.int .u64 58)))) h fun x10 h =>
 none)
theorem e200_0 (O : Oracle) (R : Jump) (q : Nat) (x0 : TVal) (h : Heap) : b200_0 O R q x0 h = stepF c200 O R q 0 [x0] h := by kernel_rfl
def d200 : BlkF := fun O R Q => [.s fun a => .z (b200_0 O R Q a)]
theorem o200 (O : Oracle) (R : Jump) (q : Nat) : HoldsAll c200 O R q 0 (d200 O R q) := ⟨e200_0 O R q, trivial⟩
end
end Go.Proofs.YtlkejchbcchecaaDoor.Ab
