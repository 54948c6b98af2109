/- Functions of the given program as the abstract interpreter has them (part 0), printed by a program of our own; each is shown to be what 'compF' makes of the given program's. No condition. -/
import Derived.Test.YtlkejchbcchecaaDoorChecked
import Derived.Test.YtlkejchbcchecaaDoorAd
namespace Go.Proofs.YtlkejchbcchecaaDoor.Ab
open Go Go.AI
noncomputable section
set_option linter.all false
set_option linter.unusedVariables false
set_option maxRecDepth 100000
def z0a4518d3 : List UInt8 := [0, 1, 2, 2, 3, 3, 3, 3, 4, 4, 4, 4, 4, 4, 4, 4, 5, 5, 5, 5, 5, 5, 5, 5, 5, 5, 5, 5, 5, 5, 5, 5, 6, 6, 6, 6, 6, 6, 6, 6, 6, 6, 6, 6, 6, 6, 6, 6, 6, 6, 6, 6, 6, 6, 6, 6, 6, 6, 6, 6, 6, 6, 6, 6, 7, 7, 7, 7, 7, 7, 7, 7, 7, 7, 7, 7, 7, 7, 7, 7, 7, 7, 7, 7, 7, 7, 7, 7, 7, 7, 7, 7, 7, 7, 7, 7, 7, 7, 7, 7, 7, 7, 7, 7, 7, 7, 7, 7, 7, 7, 7, 7, 7, 7, 7, 7, 7, 7, 7, 7, 7, 7, 7, 7, 7, 7, 7, 7, 8, 8, 8, 8, 8, 8, 8, 8, 8, 8, 8, 8, 8, 8, 8, 8, 8, 8, 8, 8, 8, 8, 8, 8, 8, 8, 8, 8, 8, 8, 8, 8, 8, 8, 8, 8, 8, 8, 8, 8, 8, 8, 8, 8, 8, 8, 8, 8, 8, 8, 8, 8, 8, 8, 8, 8, 8, 8, 8, 8, 8, 8, 8, 8, 8, 8, 8, 8, 8, 8, 8, 8, 8, 8, 8, 8, 8, 8, 8, 8, 8, 8, 8, 8, 8, 8, 8, 8, 8, 8, 8, 8, 8, 8, 8, 8, 8, 8, 8, 8, 8, 8, 8, 8, 8, 8, 8, 8, 8, 8, 8, 8, 8, 8, 8, 8, 8, 8, 8, 8, 8, 8, 8, 8, 8, 8, 8, 8]
def z53fdd7c2 : List UInt8 := [48, 48, 48, 49, 48, 50, 48, 51, 48, 52, 48, 53, 48, 54, 48, 55, 48, 56, 48, 57, 49, 48, 49, 49, 49, 50, 49, 51, 49, 52, 49, 53, 49, 54, 49, 55, 49, 56, 49, 57, 50, 48, 50, 49, 50, 50, 50, 51, 50, 52, 50, 53, 50, 54, 50, 55, 50, 56, 50, 57, 51, 48, 51, 49, 51, 50, 51, 51, 51, 52, 51, 53, 51, 54, 51, 55, 51, 56, 51, 57, 52, 48, 52, 49, 52, 50, 52, 51, 52, 52, 52, 53, 52, 54, 52, 55, 52, 56, 52, 57, 53, 48, 53, 49, 53, 50, 53, 51, 53, 52, 53, 53, 53, 54, 53, 55, 53, 56, 53, 57, 54, 48, 54, 49, 54, 50, 54, 51, 54, 52, 54, 53, 54, 54, 54, 55, 54, 56, 54, 57, 55, 48, 55, 49, 55, 50, 55, 51, 55, 52, 55, 53, 55, 54, 55, 55, 55, 56, 55, 57, 56, 48, 56, 49, 56, 50, 56, 51, 56, 52, 56, 53, 56, 54, 56, 55, 56, 56, 56, 57, 57, 48, 57, 49, 57, 50, 57, 51, 57, 52, 57, 53, 57, 54, 57, 55, 57, 56, 57, 57]
def z6c995b20 : List UInt8 := [32, 108, 101, 110, 32, 110, 111, 116, 32, 97, 110, 100, 32, 111, 114, 32, 101, 113, 32, 108, 116, 32, 97, 100, 100, 32, 115, 117, 98, 32, 109, 117, 108, 32, 115, 104, 108, 32, 115, 104, 114, 32, 105, 56, 32, 105, 49, 54, 32, 105, 51, 50, 32, 117, 56, 32, 117, 49, 54, 32, 117, 51, 50, 32, 99, 97, 116, 32, 116, 101, 120, 116, 32, 97, 116, 32, 103, 101, 116, 32, 104, 97, 115, 32, 111, 114, 101, 108, 115, 101, 32]
def vals0 : List Int := [0, 1, 28, 2, 29, 14, 24, 3, 30, 22, 20, 15, 25, 17, 4, 8, 31, 27, 13, 23, 21, 19, 16, 7, 26, 12, 18, 6, 11, 5, 10, 9]
def tabs : List Tabl := [Tabl.mk "math/bits.deBruijn32tab" 2 .u8 [0, 1, 28, 2, 29, 14, 24, 3, 30, 22, 20, 15, 25, 17, 4, 8, 31, 27, 13, 23, 21, 19, 16, 7, 26, 12, 18, 6, 11, 5, 10, 9], Tabl.mk "math/bits.deBruijn64tab" 3 .u8 [0, 1, 56, 2, 57, 49, 28, 3, 61, 58, 42, 50, 38, 29, 17, 4, 62, 47, 59, 36, 45, 43, 51, 22, 53, 39, 33, 30, 24, 18, 12, 5, 63, 55, 48, 27, 60, 41, 37, 16, 46, 35, 44, 21, 52, 32, 23, 11, 54, 26, 40, 15, 34, 20, 31, 10, 25, 14, 19, 9, 13, 8, 7, 6], Tabl.mk "internal/strconv.uint64pow10" 1 .u64 [1, 10, 100, 1000, 10000, 100000, 1000000, 10000000, 100000000, 1000000000, 10000000000, 100000000000, 1000000000000, 10000000000000, 100000000000000, 1000000000000000, 10000000000000000, 100000000000000000, 1000000000000000000, 10000000000000000000]]
def opq : Option Nat := some 0
def c10 : MFunc := mkM (compF Tryd.prog (globs2 tabs opq) (fun _ => false) true Tryd.f10) .n
def b10_0 (O : Oracle) (R : Jump) (q : Nat) (x0 x1 x2 : TVal) (h : Heap) : Res1 :=
 vcall O (.v (.c (.func 36 []))) [] h 15 fun x15 h =>
 vop O (.un .not (.k x15)) h 16 fun x16 h =>
 vif x16 (
 tcomp (kB false) fun c0 => vfin true q [c0] h)
 (vlen O 2 x1 h 18 fun x18 h =>
 vlen O 2 x2 h 20 fun x20 h =>
 vbin .add 0 x18 x20 h fun x21 h =>
 vbin .gtr 0 x21 (kI 500) h fun x22 h =>
 vif x22 (
 tcomp (kB true) fun c0 => vfin true q [c0] h)
 (vop O (.build [(.p (.int .i64 0)), (.p (.bool false)), (.p (.int .i64 0)), (.p (.str [])), (.p .nilslice), (.p .nilslice)] [(0, 1, (.k (kI 2))), (2, 1, (.k x0))]) h 25 fun x25 h =>
 vop O (.bslice 6 1 [(.p (.int .i64 0)), (.p (.bool false)), (.p (.int .i64 0)), (.p (.str [])), (.p .nilslice), (.p .nilslice)] [(0, (.k x25))] false) h 26 fun x26 h =>
 vcall O (.v (.c (.func 38 []))) [(kS [116, 101, 120, 116]), x26] h 27 fun x27 h =>
 vext x27 0 h fun x28 h =>
 vext x27 1 h fun x29 h =>
 vop O (.alloc [(.p (.int .i64 0)), (.p (.bool false)), (.p (.int .i64 0)), (.p (.str [])), (.p .nilslice), (.p .nilslice)] false) h 7 fun x7 h =>
 vstore 6 x7 x28 h fun _ h =>
 vfaddr 3 x7 h fun x31 h =>
 vload false 1 x31 h fun x32 h =>
 vcall O (.v (.c (.func 19 []))) [x32] h 33 fun x33 h =>
 vext x33 0 h fun x34 h =>
 vext x33 1 h fun x35 h =>
 vop O (.alloc [(.p (.int .i64 0)), (.p (.bool false)), (.p (.int .i64 0)), (.p (.str [])), (.p .nilslice), (.p .nilslice)] false) h 9 fun x9 h =>
 vstore 6 x9 x34 h fun _ h =>
 vop O (.toStr (.k x1)) h 38 fun x38 h =>
 vop O (.build [(.p (.int .i64 0)), (.p (.bool false)), (.p (.int .i64 0)), (.p (.str [])), (.p .nilslice), (.p .nilslice)] [(0, 1, (.k (kI 3))), (3, 1, (.k x38))]) h 39 fun x39 h =>
 vop O (.toStr (.k x2)) h 41 fun x41 h =>
 vop O (.build [(.p (.int .i64 0)), (.p (.bool false)), (.p (.int .i64 0)), (.p (.str [])), (.p .nilslice), (.p .nilslice)] [(0, 1, (.k (kI 3))), (3, 1, (.k x41))]) h 42 fun x42 h =>
 vop O (.bslice 6 2 [(.p (.int .i64 0)), (.p (.bool false)), (.p (.int .i64 0)), (.p (.str [])), (.p .nilslice), (.p .nilslice)] [(0, (.k x39)), (1, (.k x42))] false) h 43 fun x43 h =>
 vcall O (.v (.c (.func 38 []))) [(kS [99, 97, 116]), x43] h 44 fun x44 h =>
 vext x44 0 h fun x45 h =>
 vext x44 1 h fun x46 h =>
 vop O (.alloc [(.p (.int .i64 0)), (.p (.bool false)), (.p (.int .i64 0)), (.p (.str [])), (.p .nilslice), (.p .nilslice)] false) h 11 fun x11 h =>
 vstore 6 x11 x45 h fun _ h =>
 vload true 6 x11 h fun x48 h =>
 vop O (.bslice 6 1 [(.p (.int .i64 0)), (.p (.bool false)), (.p (.int .i64 0)), (.p (.str [])), (.p .nilslice), (.p .nilslice)] [(0, (.k x48))] false) h 49 fun x49 h =>
 vcall O (.v (.c (.func 38 []))) [(kS [108, 101, 110]), x49] h 50 fun x50 h =>
 vext x50 0 h fun x51 h =>
 vext x50 1 h fun x52 h =>
 vop O (.alloc [(.p (.int .i64 0)), (.p (.bool false)), (.p (.int .i64 0)), (.p (.str [])), (.p .nilslice), (.p .nilslice)] false) h 13 fun x13 h =>
 vstore 6 x13 x51 h fun _ h =>
 vbin .eql 0 x29 (kI 0) h fun x54 h =>
 vguard x54 true (fun kk => kk x35 h) h fun x56 h =>
 vguard x54 true (fun kk => vbin .eql 0 x56 (kI 0) h kk) h fun x57 h =>
 vop O (.pick (.k x54) (.k x57) (.k (kB false))) h 58 fun x58 h =>
 vguard x58 true (fun kk => vfaddr 0 x9 h kk) h fun x60 h =>
 vguard x58 true (fun kk => vload false 1 x60 h kk) h fun x61 h =>
 vguard x58 true (fun kk => vbin .eql 0 x61 (kI 2) h kk) h fun x62 h =>
 vop O (.pick (.k x58) (.k x62) (.k (kB false))) h 63 fun x63 h =>
 vguard x63 true (fun kk => vfaddr 2 x9 h kk) h fun x65 h =>
 vguard x63 true (fun kk => vload false 1 x65 h kk) h fun x66 h =>
 vguard x63 true (fun kk => kk x0 h) h fun x67 h =>
 vguard x63 true (fun kk => vbin .eql 0 x66 x67 h kk) h fun x68 h =>
 vop O (.pick (.k x63) (.k x68) (.k (kB false))) h 69 fun x69 h =>
 vguard x69 true (fun kk => kk x46 h) h fun x71 h =>
 vguard x69 true (fun kk => vbin .eql 0 x71 (kI 0) h kk) h fun x72 h =>
 vop O (.pick (.k x69) (.k x72) (.k (kB false))) h 73 fun x73 h =>
 vguard x73 true (fun kk => vfaddr 3 x11 h kk) h fun x75 h =>
 vguard x73 true (fun kk => vload false 1 x75 h kk) h fun x76 h =>
 vguard x73 true (fun kk => kk x1 h) h fun x77 h =>
 vguard x73 true (fun kk => vop O (.toStr (.k x77)) h 78 kk) h fun x78 h =>
 vguard x73 true (fun kk => kk x2 h) h fun x79 h =>
 vguard x73 true (fun kk => vop O (.toStr (.k x79)) h 80 kk) h fun x80 h =>
 vguard x73 true (fun kk => vbin .add 0 x78 x80 h kk) h fun x81 h =>
 vguard x73 true (fun kk => vbin .eql 0 x76 x81 h kk) h fun x82 h =>
 vop O (.pick (.k x73) (.k x82) (.k (kB false))) h 83 fun x83 h =>
 vguard x83 true (fun kk => kk x52 h) h fun x85 h =>
 vguard x83 true (fun kk => vbin .eql 0 x85 (kI 0) h kk) h fun x86 h =>
 vop O (.pick (.k x83) (.k x86) (.k (kB false))) h 87 fun x87 h =>
 vguard x87 true (fun kk => vfaddr 2 x13 h kk) h fun x89 h =>
 vguard x87 true (fun kk => vload false 1 x89 h kk) h fun x90 h =>
 vguard x87 true (fun kk => kk x1 h) h fun x91 h =>
 vguard x87 true (fun kk => vlen O 2 x91 h 92 kk) h fun x92 h =>
 vguard x87 true (fun kk => kk x2 h) h fun x93 h =>
 vguard x87 true (fun kk => vlen O 2 x93 h 94 kk) h fun x94 h =>
 vguard x87 true (fun kk => vbin .add 0 x92 x94 h kk) h fun x95 h =>
 vguard x87 true (fun kk => vbin .eql 0 x90 x95 h kk) h fun x96 h =>
 vop O (.pick (.k x87) (.k x96) (.k (kB false))) h 97 fun x97 h =>
 tcomp x97 fun c0 => vfin true q [c0] h))
theorem e10_0 (O : Oracle) (R : Jump) (q : Nat) (x0 x1 x2 : TVal) (h : Heap) : b10_0 O R q x0 x1 x2 h = stepF c10 O R q 0 [x0, x1, x2] h := by kernel_rfl
def d10 : BlkF := fun O R Q => [.s fun a => .s fun b => .s fun c => .z (b10_0 O R Q a b c)]
theorem o10 (O : Oracle) (R : Jump) (q : Nat) : HoldsAll c10 O R q 0 (d10 O R q) := ⟨e10_0 O R q, trivial⟩
def c16 : MFunc := mkM (compF Tryd.prog (globs2 tabs opq) (fun _ => false) true Tryd.f16) .n
def b16_0 (O : Oracle) (R : Jump) (q : Nat) (x0 : TVal) (h : Heap) : Res1 :=
 vop O (.box (.k x0) false) h 1 fun x1 h =>
 vop O (.build [(.p (.int .i64 0))] []) h 4 fun x4 h =>
 vop O (.box (.k x4) false) h 5 fun x5 h =>
 vload true 6 x1 h fun x7 h =>
 vcall O (.v (.c (.func 56 []))) [x5, x7, (kI 1)] h 8 fun x8 h =>
 tcomp x8 fun c0 => vfin true q [c0] h
theorem e16_0 (O : Oracle) (R : Jump) (q : Nat) (x0 : TVal) (h : Heap) : b16_0 O R q x0 h = stepF c16 O R q 0 [x0] h := by kernel_rfl
def d16 : BlkF := fun O R Q => [.s fun a => .z (b16_0 O R Q a)]
theorem o16 (O : Oracle) (R : Jump) (q : Nat) : HoldsAll c16 O R q 0 (d16 O R q) := ⟨e16_0 O R q, trivial⟩
def c19 : MFunc := mkM (compF Tryd.prog (globs2 tabs opq) (fun _ => false) true Tryd.f19) (.s .n (.s .n (.s .n (.s .n (.s .n (.s .n (.m 1 [2, 4, 5] (.s .n (.m 2 [2, 4, 5] .n)))))))))
def b19_0 (O : Oracle) (R : Jump) (q : Nat) (x0 : TVal) (h : Heap) : Res1 :=
 vop O (.alloc [(.p (.int .i64 0)), (.p (.bool false)), (.p (.int .i64 0)), (.p (.str [])), (.p .nilslice), (.p .nilslice)] false) h 2 fun x2 h =>
 vlen O 0 x0 h 7 fun x7 h =>
 vbin .gtr 0 x7 (kI 20000) h fun x8 h =>
 vif x8 (
 vop O (.build [(.p (.int .i64 0)), (.p (.bool false)), (.p (.int .i64 0)), (.p (.str [])), (.p .nilslice), (.p .nilslice)] []) h 9 fun x9 h =>
 vstore 6 x2 x9 h fun _ h =>
 vcell true 6 x2 h fun c0 => tcomp (kI 4) fun c1 => vfin true q [c0, c1] h)
 (vop O (.build [(.p (.str [])), (.p (.int .i64 0)), (.p (.int .i64 0))] [(0, 1, (.k x0))]) h 11 fun x11 h =>
 vop O (.box (.k x11) false) h 12 fun x12 h =>
 vcall O (.v (.c (.func 66 []))) [x12, (kI 1)] h 14 fun x14 h =>
 vop O (.alloc [(.p (.int .i64 0)), (.p (.bool false)), (.p (.int .i64 0)), (.p (.str [])), (.p .nilslice), (.p .nilslice)] false) h 5 fun x5 h =>
 vstore 6 x5 x14 h fun _ h =>
 vcall O (.v (.c (.func 67 []))) [x12] h 16 fun x16 h =>
 vop O (.nilck (.k x12)) h 18 fun x18 h =>
 vfaddr 1 x18 h fun x19 h =>
 vload false 1 x19 h fun x20 h =>
 vlen O 0 x0 h 22 fun x22 h =>
 vbin .lss 0 x20 x22 h fun x23 h =>
 vif x23 (
 vcall O (.v (.c (.func 68 []))) [x12, (kI 12)] h 25 fun x25 h =>
 R 1 [x2, x12, x5] h)
 (R 1 [x2, x12, x5] h))
theorem e19_0 (O : Oracle) (R : Jump) (q : Nat) (x0 : TVal) (h : Heap) : b19_0 O R q x0 h = stepF c19 O R q 0 [x0] h := by kernel_rfl
def b19_1 (O : Oracle) (R : Jump) (q : Nat) (x2 x4 x5 : TVal) (h : Heap) : Res1 :=
 vop O (.nilck (.k x4)) h 27 fun x27 h =>
 vfaddr 2 x27 h fun x28 h =>
 vload false 1 x28 h fun x29 h =>
 vbin .eql 0 x29 (kI 0) h fun x30 h =>
 vif x30 (
 vload true 6 x5 h fun x32 h =>
 vcall O (.v (.c (.func 16 []))) [x32] h 33 fun x33 h =>
 vop O (.nilck (.k x4)) h 34 fun x34 h =>
 vfaddr 2 x34 h fun x35 h =>
 vstore 1 x35 x33 h fun _ h =>
 R 2 [x2, x4, x5] h)
 (R 2 [x2, x4, x5] h)
theorem e19_1 (O : Oracle) (R : Jump) (q : Nat) (x2 x4 x5 : TVal) (h : Heap) : b19_1 O R q x2 x4 x5 h = stepF c19 O R q 1 [x2, x4, x5] h := by kernel_rfl
def b19_2 (O : Oracle) (R : Jump) (q : Nat) (x2 x4 x5 : TVal) (h : Heap) : Res1 :=
 vop O (.nilck (.k x4)) h 37 fun x37 h =>
 vfaddr 2 x37 h fun x38 h =>
 vload false 1 x38 h fun x39 h =>
 vbin .neq 0 x39 (kI 0) h fun x40 h =>
 vif x40 (
 vtouch O (.build [(.p (.int .i64 0)), (.p (.bool false)), (.p (.int .i64 0)), (.p (.str [])), (.p .nilslice), (.p .nilslice)] []) h 41 fun x41 h t0 =>
 vtouch O (.mv (.k x4)) h 42 fun x42 h t1 =>
 vtouch O (.nilck (.k x42)) h 43 fun x43 h t2 =>
 vtouch O (.faddr 2 (.k x43)) h 44 fun x44 h t3 =>
 vtouch O (.load false 1 (.k x44)) h 45 fun x45 h t4 =>
 vtouch O (.store 6 (.k x2) (.k x41)) h 1000000 fun _ h t5 =>
 vtouch O (.mv (.k x45)) h 3 fun x3 h t6 =>
 bif apartAll [t0, t1, t2, t3, t4, t5, t6] [(4, 5)] then
 vcell true 6 x2 h fun c0 => tcomp x3 fun c1 => vfin true q [c0, c1] h
 else none)
 (vload true 6 x5 h fun x46 h =>
 vstore 6 x2 x46 h fun _ h =>
 vcell true 6 x2 h fun c0 => tcomp (kI 0) fun c1 => vfin true q [c0, c1] h)
theorem e19_2 (O : Oracle) (R : Jump) (q : Nat) (x2 x4 x5 : TVal) (h : Heap) : b19_2 O R q x2 x4 x5 h = stepF c19 O R q 2 [x2, x4, x5] h := by kernel_rfl
def d19 : BlkF := fun O R Q => [.s fun a => .z (b19_0 O R Q a), .s fun a => .s fun b => .s fun c => .z (b19_1 O R Q a b c), .s fun a => .s fun b => .s fun c => .z (b19_2 O R Q a b c)]
theorem o19 (O : Oracle) (R : Jump) (q : Nat) : HoldsAll c19 O R q 0 (d19 O R q) := ⟨e19_0 O R q, e19_1 O R q, e19_2 O R q, trivial⟩
def c36 : MFunc := mkM (compF Tryd.prog (globs2 tabs opq) (fun _ => false) true Tryd.f36) .n
def b36_0 (O : Oracle) (R : Jump) (q : Nat) (h : Heap) : Res1 :=
 vop O (.build [(.p (.int .i64 0)), (.p (.bool false)), (.p (.int .i64 0)), (.p (.str [])), (.p .nilslice), (.p .nilslice)] [(0, 1, (.k (kI 2))), (2, 1, (.k (kI 200)))]) h 4 fun x4 h =>
 vop O (.bslice 6 1 [(.p (.int .i64 0)), (.p (.bool false)), (.p (.int .i64 0)), (.p (.str [])), (.p .nilslice), (.p .nilslice)] [(0, (.k x4))] false) h 5 fun x5 h =>
 vcall O (.v (.c (.func 38 []))) [(kS [105, 56]), x5] h 6 fun x6 h =>
 vext x6 0 h fun x7 h =>
 vext x6 1 h fun x8 h =>
 vop O (.alloc [(.p (.int .i64 0)), (.p (.bool false)), (.p (.int .i64 0)), (.p (.str [])), (.p .nilslice), (.p .nilslice)] false) h 1 fun x1 h =>
 vstore 6 x1 x7 h fun _ h =>
 vbin .eql 0 x8 (kI 0) h fun x10 h =>
 vguard x10 true (fun kk => vfaddr 0 x1 h kk) h fun x12 h =>
 vguard x10 true (fun kk => vload false 1 x12 h kk) h fun x13 h =>
 vguard x10 true (fun kk => vbin .eql 0 x13 (kI 2) h kk) h fun x14 h =>
 vop O (.pick (.k x10) (.k x14) (.k (kB false))) h 15 fun x15 h =>
 vguard x15 true (fun kk => vfaddr 2 x1 h kk) h fun x17 h =>
 vguard x15 true (fun kk => vload false 1 x17 h kk) h fun x18 h =>
 vguard x15 true (fun kk => vbin .eql 0 x18 (kI (-56)) h kk) h fun x19 h =>
 vop O (.pick (.k x15) (.k x19) (.k (kB false))) h 20 fun x20 h =>
 tcomp x20 fun c0 => vfin true q [c0] h
theorem e36_0 (O : Oracle) (R : Jump) (q : Nat) (h : Heap) : b36_0 O R q  h = stepF c36 O R q 0 [] h := by kernel_rfl
def d36 : BlkF := fun O R Q => [.z (b36_0 O R Q )]
theorem o36 (O : Oracle) (R : Jump) (q : Nat) : HoldsAll c36 O R q 0 (d36 O R q) := ⟨e36_0 O R q, trivial⟩
def c38 : MFunc := mkM (compF Tryd.prog (globs2 tabs opq) (fun _ => false) true Tryd.f38) (.s .n (.s .n (.s (.s .n (.k (.s .n (.s .n (.s .n (.m 1 [0, 1, 4, 20, 29] .n)))))) .n)))
def b38_0 (O : Oracle) (R : Jump) (q : Nat) (x0 x1 : TVal) (h : Heap) : Res1 :=
 vop O (.alloc [(.p (.int .i64 0)), (.p (.bool false)), (.p (.int .i64 0)), (.p (.str [])), (.p .nilslice), (.p .nilslice)] false) h 4 fun x4 h =>
 vcall O (.v (.c (.func 84 []))) [x0] h 10 fun x10 h =>
 vop O (.un .not (.k x10)) h 11 fun x11 h =>
 vif x11 (
 vop O (.build [(.p (.int .i64 0)), (.p (.bool false)), (.p (.int .i64 0)), (.p (.str [])), (.p .nilslice), (.p .nilslice)] []) h 12 fun x12 h =>
 vstore 6 x4 x12 h fun _ h =>
 vcell true 6 x4 h fun c0 => tcomp (kI 15) fun c1 => vfin true q [c0, c1] h)
 (vlen O 2 x1 h 15 fun x15 h =>
 vcall O (.v (.c (.func 85 []))) [x0] h 17 fun x17 h =>
 vbin .neq 0 x15 x17 h fun x18 h =>
 vif x18 (
 vop O (.build [(.p (.int .i64 0)), (.p (.bool false)), (.p (.int .i64 0)), (.p (.str [])), (.p .nilslice), (.p .nilslice)] []) h 19 fun x19 h =>
 vstore 6 x4 x19 h fun _ h =>
 vcell true 6 x4 h fun c0 => tcomp (kI 18) fun c1 => vfin true q [c0, c1] h)
 (vbin .eql 0 x0 (kS [108, 101, 110]) h fun x22 h =>
 vif x22 (
 viaddr 6 x1 (kI 0) h fun x24 h =>
 vload true 6 x24 h fun x25 h =>
 vcall O (.v (.c (.func 86 []))) [x25] h 26 fun x26 h =>
 vext x26 0 h fun x27 h =>
 vext x26 1 h fun x28 h =>
 vstore 6 x4 x27 h fun _ h =>
 vcell true 6 x4 h fun c0 => tcomp x28 fun c1 => vfin true q [c0, c1] h)
 (vbin .eql 0 x0 (kS [110, 111, 116]) h fun x30 h =>
 vif x30 (
 R 1 [x0, x1, x4, x0, x30] h)
 (vbin .eql 0 x0 (kS [97, 110, 100]) h fun x31 h =>
 vif x31 (
 R 1 [x0, x1, x4, x0, x31] h)
 (vbin .eql 0 x0 (kS [111, 114]) h fun x32 h =>
 R 1 [x0, x1, x4, x0, x32] h)))))
theorem e38_0 (O : Oracle) (R : Jump) (q : Nat) (x0 x1 : TVal) (h : Heap) : b38_0 O R q x0 x1 h = stepF c38 O R q 0 [x0, x1] h := by kernel_rfl
def b38_1 (O : Oracle) (R : Jump) (q : Nat) (x0 x1 x4 x20 x29 : TVal) (h : Heap) : Res1 :=
 vif x29 (
 vcall O (.v (.c (.func 87 []))) [x0, x1] h 35 fun x35 h =>
 vext x35 0 h fun x36 h =>
 vext x35 1 h fun x37 h =>
 vstore 6 x4 x36 h fun _ h =>
 vcell true 6 x4 h fun c0 => tcomp x37 fun c1 => vfin true q [c0, c1] h)
 (vbin .eql 0 x20 (kS [101, 113]) h fun x39 h =>
 vif x39 (
 vcall O (.v (.c (.func 88 []))) [x1] h 41 fun x41 h =>
 vext x41 0 h fun x42 h =>
 vext x41 1 h fun x43 h =>
 vstore 6 x4 x42 h fun _ h =>
 vcell true 6 x4 h fun c0 => tcomp x43 fun c1 => vfin true q [c0, c1] h)
 (vbin .eql 0 x20 (kS [99, 97, 116]) h fun x45 h =>
 vif x45 (
 vcall O (.v (.c (.func 89 []))) [x1] h 47 fun x47 h =>
 vext x47 0 h fun x48 h =>
 vext x47 1 h fun x49 h =>
 vstore 6 x4 x48 h fun _ h =>
 vcell true 6 x4 h fun c0 => tcomp x49 fun c1 => vfin true q [c0, c1] h)
 (vbin .eql 0 x20 (kS [116, 101, 120, 116]) h fun x51 h =>
 vif x51 (
 viaddr 6 x1 (kI 0) h fun x53 h =>
 vload true 6 x53 h fun x54 h =>
 vcall O (.v (.c (.func 90 []))) [x54] h 55 fun x55 h =>
 vext x55 0 h fun x56 h =>
 vext x55 1 h fun x57 h =>
 vstore 6 x4 x56 h fun _ h =>
 vcell true 6 x4 h fun c0 => tcomp x57 fun c1 => vfin true q [c0, c1] h)
 (vbin .eql 0 x20 (kS [97, 116]) h fun x59 h =>
 vif x59 (
 vcall O (.v (.c (.func 91 []))) [x1] h 61 fun x61 h =>
 vext x61 0 h fun x62 h =>
 vext x61 1 h fun x63 h =>
 vstore 6 x4 x62 h fun _ h =>
 vcell true 6 x4 h fun c0 => tcomp x63 fun c1 => vfin true q [c0, c1] h)
 (vbin .eql 0 x20 (kS [103, 101, 116]) h fun x65 h =>
 vif x65 (
 vop O (.bslice 1 2 [(.p (.int .i64 0))] [(0, (.k (kI 5))), (1, (.k (kI 3)))] false) h 67 fun x67 h =>
 vcall O (.v (.c (.func 92 []))) [x1, x67] h 68 fun x68 h =>
 vop O (.un .not (.k x68)) h 69 fun x69 h =>
 vif x69 (
 vop O (.build [(.p (.int .i64 0)), (.p (.bool false)), (.p (.int .i64 0)), (.p (.str [])), (.p .nilslice), (.p .nilslice)] []) h 70 fun x70 h =>
 vstore 6 x4 x70 h fun _ h =>
 vcell true 6 x4 h fun c0 => tcomp (kI 17) fun c1 => vfin true q [c0, c1] h)
 (vtouch O (.mv (.k x1)) h 72 fun x72 h t0 =>
 vtouch O (.iaddr 6 (.k x72) (.k (kI 0))) h 73 fun x73 h t1 =>
 vtouch O (.load true 6 (.k x73)) h 74 fun x74 h t2 =>
 vtouch O (.mv (.k x1)) h 75 fun x75 h t3 =>
 vtouch O (.iaddr 6 (.k x75) (.k (kI 1))) h 76 fun x76 h t4 =>
 vtouch O (.faddr 3 (.k x76)) h 77 fun x77 h t5 =>
 vtouch O (.load false 1 (.k x77)) h 78 fun x78 h t6 =>
 vtouch O (.call (.k (.v (.c (.func 93 [])))) [(.k x74), (.k x78)]) h 79 fun x79 h t7 =>
 vtouch O (.mv (.k x79)) h 71 fun x71 h t8 =>
 vtouch O (.extract (.k x71) 0) h 80 fun x80 h t9 =>
 vtouch O (.extract (.k x71) 1) h 81 fun x81 h t10 =>
 vtouch O (.alloc [(.p (.int .i64 0)), (.p (.bool false)), (.p (.int .i64 0)), (.p (.str [])), (.p .nilslice), (.p .nilslice)] false) h 6 fun x6 h t11 =>
 vtouch O (.store 6 (.k x6) (.k x80)) h 1000000 fun _ h t12 =>
 vtouch O (.mv (.k x81)) h 7 fun x7 h t13 =>
 bif apartAll [t0, t1, t2, t3, t4, t5, t6, t7, t8, t9, t10, t11, t12, t13] [(2, 11), (6, 11), (7, 11)] then
 vload true 6 x6 h fun x82 h =>
 vstore 6 x4 x82 h fun _ h =>
 vcell true 6 x4 h fun c0 => tcomp (kI 0) fun c1 => vfin true q [c0, c1] h
 else none))
 (vbin .eql 0 x20 (kS [104, 97, 115]) h fun x84 h =>
 vif x84 (
 viaddr 6 x1 (kI 0) h fun x86 h =>
 vfaddr 0 x86 h fun x87 h =>
 vload false 1 x87 h fun x88 h =>
 vbin .neq 0 x88 (kI 0) h fun x89 h =>
 vcall O (.v (.c (.func 94 []))) [x89] h 90 fun x90 h =>
 vstore 6 x4 x90 h fun _ h =>
 vcell true 6 x4 h fun c0 => tcomp (kI 0) fun c1 => vfin true q [c0, c1] h)
 (vbin .eql 0 x20 (kS [111, 114, 101, 108, 115, 101]) h fun x92 h =>
 vif x92 (
 viaddr 6 x1 (kI 0) h fun x94 h =>
 vfaddr 0 x94 h fun x95 h =>
 vload false 1 x95 h fun x96 h =>
 vbin .neq 0 x96 (kI 0) h fun x97 h =>
 vif x97 (
 viaddr 6 x1 (kI 0) h fun x99 h =>
 vload true 6 x99 h fun x100 h =>
 vcall O (.v (.c (.func 95 []))) [x100] h 101 fun x101 h =>
 vstore 6 x4 x101 h fun _ h =>
 vcell true 6 x4 h fun c0 => tcomp (kI 0) fun c1 => vfin true q [c0, c1] h)
 (viaddr 6 x1 (kI 1) h fun x103 h =>
 vload true 6 x103 h fun x104 h =>
 vcall O (.v (.c (.func 95 []))) [x104] h 105 fun x105 h =>
 vstore 6 x4 x105 h fun _ h =>
 vcell true 6 x4 h fun c0 => tcomp (kI 0) fun c1 => vfin true q [c0, c1] h))
 (vcall O (.v (.c (.func 96 []))) [x0, x1] h 108 fun x108 h =>
 vext x108 0 h fun x109 h =>
 vext x108 1 h fun x110 h =>
 vstore 6 x4 x109 h fun _ h =>
 vcell true 6 x4 h fun c0 => tcomp x110 fun c1 => vfin true q [c0, c1] h))))))))
theorem e38_1 (O : Oracle) (R : Jump) (q : Nat) (x0 x1 x4 x20 x29 : TVal) (h : Heap) : b38_1 O R q x0 x1 x4 x20 x29 h = stepF c38 O R q 1 [x0, x1, x4, x20, x29] h := by kernel_rfl
def d38 : BlkF := fun O R Q => [.s fun a => .s fun b => .z (b38_0 O R Q a b), .s fun a => .s fun b => .s fun c => .s fun d => .s fun e => .z (b38_1 O R Q a b c d e)]
theorem o38 (O : Oracle) (R : Jump) (q : Nat) : HoldsAll c38 O R q 0 (d38 O R q) := ⟨e38_0 O R q, e38_1 O R q, trivial⟩
def c56 : MFunc := mkM (compF Tryd.prog (globs2 tabs opq) (fun _ => false) true Tryd.f56) (.s .n (.s .n (.s .n (.s .n (.s .n (.s .n (.s .n (.s (.s .n (.k (.l 1 [0, 2, 4, 7] .n))) (.m 2 [0, 2, 4] (.s (.s .n (.k (.l 3 [0, 2, 4, 8] .n))) (.m 4 [0, 2, 4] (.s (.s .n (.k (.l 5 [0, 2, 4, 9] .n))) .n))))))))))))
def b56_0 (O : Oracle) (R : Jump) (q : Nat) (x0 x1 x2 : TVal) (h : Heap) : Res1 :=
 vop O (.box (.k x1) false) h 4 fun x4 h =>
 vop O (.nilck (.k x0)) h 12 fun x12 h =>
 vfaddr 0 x12 h fun x13 h =>
 vload false 1 x13 h fun x14 h =>
 vbin .add 0 x14 (kI 1) h fun x15 h =>
 vop O (.nilck (.k x0)) h 16 fun x16 h =>
 vfaddr 0 x16 h fun x17 h =>
 vstore 1 x17 x15 h fun _ h =>
 vop O (.nilck (.k x0)) h 19 fun x19 h =>
 vfaddr 0 x19 h fun x20 h =>
 vload false 1 x20 h fun x21 h =>
 vbin .gtr 0 x21 (kI 2000) h fun x22 h =>
 vif x22 (
 tcomp (kI 3) fun c0 => vfin true q [c0] h)
 (vload true 6 x4 h fun x23 h =>
 vcall O (.v (.c (.func 112 []))) [x23] h 24 fun x24 h =>
 vop O (.un .not (.k x24)) h 25 fun x25 h =>
 vif x25 (
 tcomp (kI 1) fun c0 => vfin true q [c0] h)
 (vbin .gtr 0 x2 (kI 12) h fun x27 h =>
 vif x27 (
 tcomp (kI 13) fun c0 => vfin true q [c0] h)
 (vfaddr 5 x4 h fun x28 h =>
 vload false 1 x28 h fun x29 h =>
 vlen O 2 x29 h 30 fun x30 h =>
 vbin .gtr 0 x30 (kI 40) h fun x31 h =>
 vif x31 (
 tcomp (kI 3) fun c0 => vfin true q [c0] h)
 (vfaddr 3 x4 h fun x32 h =>
 vload false 1 x32 h fun x33 h =>
 vlen O 0 x33 h 34 fun x34 h =>
 vbin .gtr 0 x34 (kI 200) h fun x35 h =>
 vif x35 (
 tcomp (kI 4) fun c0 => vfin true q [c0] h)
 (R 1 [x0, x2, x4, (kI 0)] h)))))
theorem e56_0 (O : Oracle) (R : Jump) (q : Nat) (x0 x1 x2 : TVal) (h : Heap) : b56_0 O R q x0 x1 x2 h = stepF c56 O R q 0 [x0, x1, x2] h := by kernel_rfl
def b56_1 (O : Oracle) (R : Jump) (q : Nat) (x0 x2 x4 x7 : TVal) (h : Heap) : Res1 :=
 vfaddr 4 x4 h fun x37 h =>
 vload false 1 x37 h fun x38 h =>
 vlen O 2 x38 h 39 fun x39 h =>
 vbin .lss 0 x7 x39 h fun x40 h =>
 vif x40 (
 vfaddr 4 x4 h fun x43 h =>
 vload false 1 x43 h fun x44 h =>
 viaddr 1 x44 x7 h fun x46 h =>
 vload false 1 x46 h fun x47 h =>
 vlen O 0 x47 h 48 fun x48 h =>
 vbin .gtr 0 x48 (kI 200) h fun x49 h =>
 vif x49 (
 tcomp (kI 4) fun c0 => vfin true q [c0] h)
 (vbin .add 0 x7 (kI 1) h fun x42 h =>
 R 1 [x0, x2, x4, x42] h))
 (R 2 [x0, x2, x4] h)
theorem e56_1 (O : Oracle) (R : Jump) (q : Nat) (x0 x2 x4 x7 : TVal) (h : Heap) : b56_1 O R q x0 x2 x4 x7 h = stepF c56 O R q 1 [x0, x2, x4, x7] h := by kernel_rfl
def b56_2 (O : Oracle) (R : Jump) (q : Nat) (x0 x2 x4 : TVal) (h : Heap) : Res1 :=
 R 3 [x0, x2, x4, (kI 1)] h
theorem e56_2 (O : Oracle) (R : Jump) (q : Nat) (x0 x2 x4 : TVal) (h : Heap) : b56_2 O R q x0 x2 x4 h = stepF c56 O R q 2 [x0, x2, x4] h := by kernel_rfl
def b56_3 (O : Oracle) (R : Jump) (q : Nat) (x0 x2 x4 x8 : TVal) (h : Heap) : Res1 :=
 vfaddr 4 x4 h fun x51 h =>
 vload false 1 x51 h fun x52 h =>
 vlen O 2 x52 h 53 fun x53 h =>
 vbin .lss 0 x8 x53 h fun x54 h =>
 vif x54 (
 vfaddr 4 x4 h fun x57 h =>
 vload false 1 x57 h fun x58 h =>
 viaddr 1 x58 x8 h fun x60 h =>
 vload false 1 x60 h fun x61 h =>
 vfaddr 4 x4 h fun x62 h =>
 vload false 1 x62 h fun x63 h =>
 vbin .sub 0 x8 (kI 1) h fun x65 h =>
 viaddr 1 x63 x65 h fun x66 h =>
 vload false 1 x66 h fun x67 h =>
 vbin .leq 0 x61 x67 h fun x68 h =>
 vif x68 (
 tcomp (kI 6) fun c0 => vfin true q [c0] h)
 (vbin .add 0 x8 (kI 1) h fun x56 h =>
 R 3 [x0, x2, x4, x56] h))
 (R 4 [x0, x2, x4] h)
theorem e56_3 (O : Oracle) (R : Jump) (q : Nat) (x0 x2 x4 x8 : TVal) (h : Heap) : b56_3 O R q x0 x2 x4 x8 h = stepF c56 O R q 3 [x0, x2, x4, x8] h := by kernel_rfl
def b56_4 (O : Oracle) (R : Jump) (q : Nat) (x0 x2 x4 : TVal) (h : Heap) : Res1 :=
 R 5 [x0, x2, x4, (kI 0)] h
theorem e56_4 (O : Oracle) (R : Jump) (q : Nat) (x0 x2 x4 : TVal) (h : Heap) : b56_4 O R q x0 x2 x4 h = stepF c56 O R q 4 [x0, x2, x4] h := by kernel_rfl
def b56_5 (O : Oracle) (R : Jump) (q : Nat) (x0 x2 x4 x9 : TVal) (h : Heap) : Res1 :=
 vfaddr 5 x4 h fun x70 h =>
 vload false 1 x70 h fun x71 h =>
 vlen O 2 x71 h 72 fun x72 h =>
 vbin .lss 0 x9 x72 h fun x73 h =>
 vif x73 (
 vfaddr 5 x4 h fun x77 h =>
 vload false 1 x77 h fun x78 h =>
 viaddr 6 x78 x9 h fun x80 h =>
 vload true 6 x80 h fun x81 h =>
 vbin .add 0 x2 (kI 1) h fun x83 h =>
 vcall O (.v (.c (.func 56 []))) [x0, x81, x83] h 84 fun x84 h =>
 vbin .neq 0 x84 (kI 0) h fun x86 h =>
 vif x86 (
 tcomp x84 fun c0 => vfin true q [c0] h)
 (vbin .add 0 x9 (kI 1) h fun x75 h =>
 R 5 [x0, x2, x4, x75] h))
 (tcomp (kI 0) fun c0 => vfin true q [c0] h)
theorem e56_5 (O : Oracle) (R : Jump) (q : Nat) (x0 x2 x4 x9 : TVal) (h : Heap) : b56_5 O R q x0 x2 x4 x9 h = stepF c56 O R q 5 [x0, x2, x4, x9] h := by kernel_rfl
def d56 : BlkF := fun O R Q => [.s fun a => .s fun b => .s fun c => .z (b56_0 O R Q a b c), .s fun a => .s fun b => .s fun c => .s fun d => .z (b56_1 O R Q a b c d), .s fun a => .s fun b => .s fun c => .z (b56_2 O R Q a b c), .s fun a => .s fun b => .s fun c => .s fun d => .z (b56_3 O R Q a b c d), .s fun a => .s fun b => .s fun c => .z (b56_4 O R Q a b c), .s fun a => .s fun b => .s fun c => .s fun d => .z (b56_5 O R Q a b c d)]
theorem o56 (O : Oracle) (R : Jump) (q : Nat) : HoldsAll c56 O R q 0 (d56 O R q) := ⟨e56_0 O R q, e56_1 O R q, e56_2 O R q, e56_3 O R q, e56_4 O R q, e56_5 O R q, trivial⟩
def c66 : MFunc := mkM (compF Tryd.prog (globs2 tabs opq) (fun _ => false) true Tryd.f66) .n
def b66_0 (O : Oracle) (R : Jump) (q : Nat) (x0 x1 : TVal) (h : Heap) : Res1 :=
 vop O (.alloc [(.p (.int .i64 0)), (.p (.bool false)), (.p (.int .i64 0)), (.p (.str [])), (.p .nilslice), (.p .nilslice)] false) h 4 fun x4 h =>
 vcall O (.v (.c (.func 67 []))) [x0] h 9 fun x9 h =>
 vop O (.nilck (.k x0)) h 11 fun x11 h =>
 vfaddr 2 x11 h fun x12 h =>
 vload false 1 x12 h fun x13 h =>
 vbin .neq 0 x13 (kI 0) h fun x14 h =>
 vguard x14 false (fun kk => kk x0 h) h fun x16 h =>
 vguard x14 false (fun kk => vop O (.nilck (.k x16)) h 17 kk) h fun x17 h =>
 vguard x14 false (fun kk => vfaddr 1 x17 h kk) h fun x18 h =>
 vguard x14 false (fun kk => vload false 1 x18 h kk) h fun x19 h =>
 vguard x14 false (fun kk => kk x0 h) h fun x20 h =>
 vguard x14 false (fun kk => vop O (.nilck (.k x20)) h 21 kk) h fun x21 h =>
 vguard x14 false (fun kk => vfaddr 0 x21 h kk) h fun x22 h =>
 vguard x14 false (fun kk => vload false 1 x22 h kk) h fun x23 h =>
 vguard x14 false (fun kk => vlen O 0 x23 h 24 kk) h fun x24 h =>
 vguard x14 false (fun kk => vbin .geq 0 x19 x24 h kk) h fun x25 h =>
 vop O (.pick (.k x14) (.k (kB true)) (.k x25)) h 26 fun x26 h =>
 vif x26 (
 vcall O (.v (.c (.func 68 []))) [x0, (kI 12)] h 28 fun x28 h =>
 vop O (.build [(.p (.int .i64 0)), (.p (.bool false)), (.p (.int .i64 0)), (.p (.str [])), (.p .nilslice), (.p .nilslice)] []) h 29 fun x29 h =>
 vstore 6 x4 x29 h fun _ h =>
 vcell true 6 x4 h fun c0 => vfin true q [c0] h)
 (vop O (.nilck (.k x0)) h 31 fun x31 h =>
 vfaddr 0 x31 h fun x32 h =>
 vload false 1 x32 h fun x33 h =>
 vop O (.nilck (.k x0)) h 35 fun x35 h =>
 vfaddr 1 x35 h fun x36 h =>
 vload false 1 x36 h fun x37 h =>
 vindex x33 x37 h fun x38 h =>
 vcall O (.v (.c (.func 125 []))) [x0] h 41 fun x41 h =>
 vext x41 0 h fun x42 h =>
 vext x41 1 h fun x43 h =>
 vop O (.alloc [(.p (.int .i64 0)), (.p (.bool false)), (.p (.int .i64 0)), (.p (.str [])), (.p .nilslice), (.p .nilslice)] false) h 6 fun x6 h =>
 vstore 6 x6 x42 h fun _ h =>
 vop O (.un .not (.k x43)) h 45 fun x45 h =>
 vguard x45 true (fun kk => kk x38 h) h fun x47 h =>
 vguard x45 true (fun kk => vbin .neq 0 x47 (.v (.c (.p (.int .u8 34)))) h kk) h fun x48 h =>
 vop O (.pick (.k x45) (.k x48) (.k (kB false))) h 49 fun x49 h =>
 vguard x49 true (fun kk => kk x38 h) h fun x51 h =>
 vguard x49 true (fun kk => vbin .neq 0 x51 (.v (.c (.p (.int .u8 45)))) h kk) h fun x52 h =>
 vop O (.pick (.k x49) (.k x52) (.k (kB false))) h 53 fun x53 h =>
 vguard x53 true (fun kk => kk x38 h) h fun x55 h =>
 vguard x53 true (fun kk => vcall O (.v (.c (.func 126 []))) [x55] h 56 kk) h fun x56 h =>
 vguard x53 true (fun kk => vop O (.un .not (.k x56)) h 57 kk) h fun x57 h =>
 vop O (.pick (.k x53) (.k x57) (.k (kB false))) h 58 fun x58 h =>
 vguard x58 true (fun kk => kk x38 h) h fun x60 h =>
 vguard x58 true (fun kk => vbin .neq 0 x60 (.v (.c (.p (.int .u8 91)))) h kk) h fun x61 h =>
 vop O (.pick (.k x58) (.k x61) (.k (kB false))) h 62 fun x62 h =>
 vguard x62 true (fun kk => kk x38 h) h fun x64 h =>
 vguard x62 true (fun kk => vbin .neq 0 x64 (.v (.c (.p (.int .u8 123)))) h kk) h fun x65 h =>
 vop O (.pick (.k x62) (.k x65) (.k (kB false))) h 66 fun x66 h =>
 vif x66 (
 vcall O (.v (.c (.func 68 []))) [x0, (kI 12)] h 68 fun x68 h =>
 vop O (.build [(.p (.int .i64 0)), (.p (.bool false)), (.p (.int .i64 0)), (.p (.str [])), (.p .nilslice), (.p .nilslice)] []) h 69 fun x69 h =>
 vstore 6 x4 x69 h fun _ h =>
 vcell true 6 x4 h fun c0 => vfin true q [c0] h)
 (vbin .gtr 0 x1 (kI 12) h fun x71 h =>
 vif x71 (
 vcall O (.v (.c (.func 68 []))) [x0, (kI 13)] h 73 fun x73 h =>
 vop O (.build [(.p (.int .i64 0)), (.p (.bool false)), (.p (.int .i64 0)), (.p (.str [])), (.p .nilslice), (.p .nilslice)] []) h 74 fun x74 h =>
 vstore 6 x4 x74 h fun _ h =>
 vcell true 6 x4 h fun c0 => vfin true q [c0] h)
 (vif x43 (
 vload true 6 x6 h fun x77 h =>
 vstore 6 x4 x77 h fun _ h =>
 vcell true 6 x4 h fun c0 => vfin true q [c0] h)
 (vbin .eql 0 x38 (.v (.c (.p (.int .u8 34)))) h fun x80 h =>
 vif x80 (
 vcall O (.v (.c (.func 127 []))) [x0] h 82 fun x82 h =>
 vop O (.build [(.p (.int .i64 0)), (.p (.bool false)), (.p (.int .i64 0)), (.p (.str [])), (.p .nilslice), (.p .nilslice)] [(0, 1, (.k (kI 3))), (3, 1, (.k x82))]) h 83 fun x83 h =>
 vstore 6 x4 x83 h fun _ h =>
 vcell true 6 x4 h fun c0 => vfin true q [c0] h)
 (vbin .eql 0 x38 (.v (.c (.p (.int .u8 91)))) h fun x86 h =>
 vif x86 (
 vcall O (.v (.c (.func 128 []))) [x0, x1] h 89 fun x89 h =>
 vstore 6 x4 x89 h fun _ h =>
 vcell true 6 x4 h fun c0 => vfin true q [c0] h)
 (vbin .eql 0 x38 (.v (.c (.p (.int .u8 123)))) h fun x92 h =>
 vif x92 (
 vcall O (.v (.c (.func 129 []))) [x0, x1] h 95 fun x95 h =>
 vstore 6 x4 x95 h fun _ h =>
 vcell true 6 x4 h fun c0 => vfin true q [c0] h)
 (vcall O (.v (.c (.func 130 []))) [x0] h 97 fun x97 h =>
 vstore 6 x4 x97 h fun _ h =>
 vcell true 6 x4 h fun c0 => vfin true q [c0] h)))))))
theorem e66_0 (O : Oracle) (R : Jump) (q : Nat) (x0 x1 : TVal) (h : Heap) : b66_0 O R q x0 x1 h = stepF c66 O R q 0 [x0, x1] h := by kernel_rfl
def d66 : BlkF := fun O R Q => [.s fun a => .s fun b => .z (b66_0 O R Q a b)]
theorem o66 (O : Oracle) (R : Jump) (q : Nat) : HoldsAll c66 O R q 0 (d66 O R q) := ⟨e66_0 O R q, trivial⟩
def c67 : MFunc := mkM (compF Tryd.prog (globs2 tabs opq) (fun _ => false) true Tryd.f67) (.k (.l 1 [0] .n))
def b67_0 (O : Oracle) (R : Jump) (q : Nat) (x0 : TVal) (h : Heap) : Res1 :=
 R 1 [x0] h
theorem e67_0 (O : Oracle) (R : Jump) (q : Nat) (x0 : TVal) (h : Heap) : b67_0 O R q x0 h = stepF c67 O R q 0 [x0] h := by kernel_rfl
def b67_1 (O : Oracle) (R : Jump) (q : Nat) (x0 : TVal) (h : Heap) : Res1 :=
 vop O (.nilck (.k x0)) h 3 fun x3 h =>
 vfaddr 1 x3 h fun x4 h =>
 vload false 1 x4 h fun x5 h =>
 vop O (.nilck (.k x0)) h 7 fun x7 h =>
 vfaddr 0 x7 h fun x8 h =>
 vload false 1 x8 h fun x9 h =>
 vlen O 0 x9 h 10 fun x10 h =>
 vbin .lss 0 x5 x10 h fun x11 h =>
 vguard x11 true (fun kk => kk x0 h) h fun x13 h =>
 vguard x11 true (fun kk => vop O (.nilck (.k x13)) h 14 kk) h fun x14 h =>
 vguard x11 true (fun kk => vfaddr 0 x14 h kk) h fun x15 h =>
 vguard x11 true (fun kk => vload false 1 x15 h kk) h fun x16 h =>
 vguard x11 true (fun kk => kk x0 h) h fun x17 h =>
 vguard x11 true (fun kk => vop O (.nilck (.k x17)) h 18 kk) h fun x18 h =>
 vguard x11 true (fun kk => vfaddr 1 x18 h kk) h fun x19 h =>
 vguard x11 true (fun kk => vload false 1 x19 h kk) h fun x20 h =>
 vguard x11 true (fun kk => vindex x16 x20 h kk) h fun x21 h =>
 vguard x11 true (fun kk => vbin .eql 0 x21 (.v (.c (.p (.int .u8 32)))) h kk) h fun x22 h =>
 vguard x11 true (fun kk => kk x22 h) h fun x23 h =>
 vguard x23 false (fun kk => kk x0 h) h fun x24 h =>
 vguard x23 false (fun kk => vop O (.nilck (.k x24)) h 25 kk) h fun x25 h =>
 vguard x23 false (fun kk => vfaddr 0 x25 h kk) h fun x26 h =>
 vguard x23 false (fun kk => vload false 1 x26 h kk) h fun x27 h =>
 vguard x23 false (fun kk => kk x0 h) h fun x28 h =>
 vguard x23 false (fun kk => vop O (.nilck (.k x28)) h 29 kk) h fun x29 h =>
 vguard x23 false (fun kk => vfaddr 1 x29 h kk) h fun x30 h =>
 vguard x23 false (fun kk => vload false 1 x30 h kk) h fun x31 h =>
 vguard x23 false (fun kk => vindex x27 x31 h kk) h fun x32 h =>
 vguard x23 false (fun kk => vbin .eql 0 x32 (.v (.c (.p (.int .u8 9)))) h kk) h fun x33 h =>
 vguard x11 true (fun kk => vop O (.pick (.k x23) (.k (kB true)) (.k x33)) h 34 kk) h fun x34 h =>
 vguard x11 true (fun kk => kk x34 h) h fun x35 h =>
 vguard x35 false (fun kk => kk x0 h) h fun x36 h =>
 vguard x35 false (fun kk => vop O (.nilck (.k x36)) h 37 kk) h fun x37 h =>
 vguard x35 false (fun kk => vfaddr 0 x37 h kk) h fun x38 h =>
 vguard x35 false (fun kk => vload false 1 x38 h kk) h fun x39 h =>
 vguard x35 false (fun kk => kk x0 h) h fun x40 h =>
 vguard x35 false (fun kk => vop O (.nilck (.k x40)) h 41 kk) h fun x41 h =>
 vguard x35 false (fun kk => vfaddr 1 x41 h kk) h fun x42 h =>
 vguard x35 false (fun kk => vload false 1 x42 h kk) h fun x43 h =>
 vguard x35 false (fun kk => vindex x39 x43 h kk) h fun x44 h =>
 vguard x35 false (fun kk => vbin .eql 0 x44 (.v (.c (.p (.int .u8 10)))) h kk) h fun x45 h =>
 vguard x11 true (fun kk => vop O (.pick (.k x35) (.k (kB true)) (.k x45)) h 46 kk) h fun x46 h =>
 vguard x11 true (fun kk => kk x46 h) h fun x47 h =>
 vguard x47 false (fun kk => kk x0 h) h fun x48 h =>
 vguard x47 false (fun kk => vop O (.nilck (.k x48)) h 49 kk) h fun x49 h =>
 vguard x47 false (fun kk => vfaddr 0 x49 h kk) h fun x50 h =>
 vguard x47 false (fun kk => vload false 1 x50 h kk) h fun x51 h =>
 vguard x47 false (fun kk => kk x0 h) h fun x52 h =>
 vguard x47 false (fun kk => vop O (.nilck (.k x52)) h 53 kk) h fun x53 h =>
 vguard x47 false (fun kk => vfaddr 1 x53 h kk) h fun x54 h =>
 vguard x47 false (fun kk => vload false 1 x54 h kk) h fun x55 h =>
 vguard x47 false (fun kk => vindex x51 x55 h kk) h fun x56 h =>
 vguard x47 false (fun kk => vbin .eql 0 x56 (.v (.c (.p (.int .u8 13)))) h kk) h fun x57 h =>
 vguard x11 true (fun kk => vop O (.pick (.k x47) (.k (kB true)) (.k x57)) h 58 kk) h fun x58 h =>
 vop O (.pick (.k x11) (.k x58) (.k (kB false))) h 59 fun x59 h =>
 vif x59 (
 vop O (.nilck (.k x0)) h 61 fun x61 h =>
 vfaddr 1 x61 h fun x62 h =>
 vload false 1 x62 h fun x63 h =>
 vbin .add 0 x63 (kI 1) h fun x64 h =>
 vop O (.nilck (.k x0)) h 65 fun x65 h =>
 vfaddr 1 x65 h fun x66 h =>
 vstore 1 x66 x64 h fun _ h =>
 R 1 [x0] h)
 (vfin true q [] h)
theorem e67_1 (O : Oracle) (R : Jump) (q : Nat) (x0 : TVal) (h : Heap) : b67_1 O R q x0 h = stepF c67 O R q 1 [x0] h := by kernel_rfl
def d67 : BlkF := fun O R Q => [.s fun a => .z (b67_0 O R Q a), .s fun a => .z (b67_1 O R Q a)]
theorem o67 (O : Oracle) (R : Jump) (q : Nat) : HoldsAll c67 O R q 0 (d67 O R q) := ⟨e67_0 O R q, e67_1 O R q, trivial⟩
def c68 : MFunc := mkM (compF Tryd.prog (globs2 tabs opq) (fun _ => false) true Tryd.f68) .n
def b68_0 (O : Oracle) (R : Jump) (q : Nat) (x0 x1 : TVal) (h : Heap) : Res1 :=
 vop O (.nilck (.k x0)) h 5 fun x5 h =>
 vfaddr 2 x5 h fun x6 h =>
 vload false 1 x6 h fun x7 h =>
 vbin .eql 0 x7 (kI 0) h fun x8 h =>
 vif x8 (
 vop O (.nilck (.k x0)) h 11 fun x11 h =>
 vfaddr 2 x11 h fun x12 h =>
 vstore 1 x12 x1 h fun _ h =>
 vfin true q [] h)
 (vfin true q [] h)
theorem e68_0 (O : Oracle) (R : Jump) (q : Nat) (x0 x1 : TVal) (h : Heap) : b68_0 O R q x0 x1 h = stepF c68 O R q 0 [x0, x1] h := by kernel_rfl
def d68 : BlkF := fun O R Q => [.s fun a => .s fun b => .z (b68_0 O R Q a b)]
theorem o68 (O : Oracle) (R : Jump) (q : Nat) : HoldsAll c68 O R q 0 (d68 O R q) := ⟨e68_0 O R q, trivial⟩
def c84 : MFunc := mkM (compF Tryd.prog (globs2 tabs opq) (fun _ => false) true Tryd.f84) .n
def b84_0 (O : Oracle) (R : Jump) (q : Nat) (x0 : TVal) (h : Heap) : Res1 :=
 vcall O (.v (.c (.func 148 []))) [x0] h 4 fun x4 h =>
 vguard x4 true (fun kk => kk x0 h) h fun x6 h =>
 vguard x4 true (fun kk => vbin .add 0 (kS [32]) x6 h kk) h fun x7 h =>
 vguard x4 true (fun kk => vbin .add 0 x7 (kS [32]) h kk) h fun x8 h =>
 vguard x4 true (fun kk => vcall O (.v (.c (.func 149 []))) [(kS z6c995b20), x8] h 9 kk) h fun x9 h =>
 vop O (.pick (.k x4) (.k x9) (.k (kB false))) h 10 fun x10 h =>
 tcomp x10 fun c0 => vfin true q [c0] h
theorem e84_0 (O : Oracle) (R : Jump) (q : Nat) (x0 : TVal) (h : Heap) : b84_0 O R q x0 h = stepF c84 O R q 0 [x0] h := by kernel_rfl
def d84 : BlkF := fun O R Q => [.s fun a => .z (b84_0 O R Q a)]
theorem o84 (O : Oracle) (R : Jump) (q : Nat) : HoldsAll c84 O R q 0 (d84 O R q) := ⟨e84_0 O R q, trivial⟩
def c85 : MFunc := mkM (compF Tryd.prog (globs2 tabs opq) (fun _ => false) true Tryd.f85) (.s .n (.s (.s .n (.k (.s (.k (.k (.s (.s (.s .n (.m 1 [3, 4] .n)) (.s .n (.m 2 [9] .n))) .n))) .n))) .n))
def b85_0 (O : Oracle) (R : Jump) (q : Nat) (x0 : TVal) (h : Heap) : Res1 :=
 vbin .eql 0 x0 (kS [108, 101, 110]) h fun x5 h =>
 vif x5 (
 R 1 [x0, x5] h)
 (vbin .eql 0 x0 (kS [110, 111, 116]) h fun x6 h =>
 vif x6 (
 R 1 [x0, x6] h)
 (vbin .eql 0 x0 (kS [116, 101, 120, 116]) h fun x7 h =>
 vif x7 (
 R 1 [x0, x7] h)
 (vbin .eql 0 x0 (kS [104, 97, 115]) h fun x8 h =>
 R 1 [x0, x8] h)))
theorem e85_0 (O : Oracle) (R : Jump) (q : Nat) (x0 : TVal) (h : Heap) : b85_0 O R q x0 h = stepF c85 O R q 0 [x0] h := by kernel_rfl
def b85_1 (O : Oracle) (R : Jump) (q : Nat) (x3 x4 : TVal) (h : Heap) : Res1 :=
 vif x4 (
 tcomp (kI 1) fun c0 => vfin true q [c0] h)
 (vbin .eql 0 x3 (kS [105, 56]) h fun x10 h =>
 vif x10 (
 R 2 [x10] h)
 (vbin .eql 0 x3 (kS [105, 49, 54]) h fun x11 h =>
 vif x11 (
 R 2 [x11] h)
 (vbin .eql 0 x3 (kS [105, 51, 50]) h fun x12 h =>
 vif x12 (
 R 2 [x12] h)
 (vbin .eql 0 x3 (kS [117, 56]) h fun x13 h =>
 vif x13 (
 R 2 [x13] h)
 (vbin .eql 0 x3 (kS [117, 49, 54]) h fun x14 h =>
 vif x14 (
 R 2 [x14] h)
 (vbin .eql 0 x3 (kS [117, 51, 50]) h fun x15 h =>
 R 2 [x15] h))))))
theorem e85_1 (O : Oracle) (R : Jump) (q : Nat) (x3 x4 : TVal) (h : Heap) : b85_1 O R q x3 x4 h = stepF c85 O R q 1 [x3, x4] h := by kernel_rfl
def b85_2 (O : Oracle) (R : Jump) (q : Nat) (x9 : TVal) (h : Heap) : Res1 :=
 vif x9 (
 tcomp (kI 1) fun c0 => vfin true q [c0] h)
 (tcomp (kI 2) fun c0 => vfin true q [c0] h)
theorem e85_2 (O : Oracle) (R : Jump) (q : Nat) (x9 : TVal) (h : Heap) : b85_2 O R q x9 h = stepF c85 O R q 2 [x9] h := by kernel_rfl
def d85 : BlkF := fun O R Q => [.s fun a => .z (b85_0 O R Q a), .s fun a => .s fun b => .z (b85_1 O R Q a b), .s fun a => .z (b85_2 O R Q a)]
theorem o85 (O : Oracle) (R : Jump) (q : Nat) : HoldsAll c85 O R q 0 (d85 O R q) := ⟨e85_0 O R q, e85_1 O R q, e85_2 O R q, trivial⟩
def c86 : MFunc := mkM (compF Tryd.prog (globs2 tabs opq) (fun _ => false) true Tryd.f86) (.s .n (.s (.s .n (.k (.s .n (.s .n (.s .n (.m 1 [1, 2, 12] .n)))))) .n))
def b86_0 (O : Oracle) (R : Jump) (q : Nat) (x0 : TVal) (h : Heap) : Res1 :=
 vop O (.box (.k x0) false) h 1 fun x1 h =>
 vop O (.alloc [(.p (.int .i64 0)), (.p (.bool false)), (.p (.int .i64 0)), (.p (.str [])), (.p .nilslice), (.p .nilslice)] false) h 2 fun x2 h =>
 vfaddr 0 x1 h fun x4 h =>
 vload false 1 x4 h fun x5 h =>
 vbin .eql 0 x5 (kI 3) h fun x7 h =>
 vif x7 (
 vfaddr 3 x1 h fun x8 h =>
 vload false 1 x8 h fun x9 h =>
 vlen O 0 x9 h 10 fun x10 h =>
 vcall O (.v (.c (.func 150 []))) [x10] h 11 fun x11 h =>
 vstore 6 x2 x11 h fun _ h =>
 vcell true 6 x2 h fun c0 => tcomp (kI 0) fun c1 => vfin true q [c0, c1] h)
 (vbin .eql 0 x5 (kI 4) h fun x13 h =>
 vif x13 (
 R 1 [x1, x2, x13] h)
 (vbin .eql 0 x5 (kI 5) h fun x14 h =>
 R 1 [x1, x2, x14] h))
theorem e86_0 (O : Oracle) (R : Jump) (q : Nat) (x0 : TVal) (h : Heap) : b86_0 O R q x0 h = stepF c86 O R q 0 [x0] h := by kernel_rfl
def b86_1 (O : Oracle) (R : Jump) (q : Nat) (x1 x2 x12 : TVal) (h : Heap) : Res1 :=
 vif x12 (
 vfaddr 5 x1 h fun x15 h =>
 vload false 1 x15 h fun x16 h =>
 vlen O 2 x16 h 17 fun x17 h =>
 vcall O (.v (.c (.func 150 []))) [x17] h 18 fun x18 h =>
 vstore 6 x2 x18 h fun _ h =>
 vcell true 6 x2 h fun c0 => tcomp (kI 0) fun c1 => vfin true q [c0, c1] h)
 (vop O (.build [(.p (.int .i64 0)), (.p (.bool false)), (.p (.int .i64 0)), (.p (.str [])), (.p .nilslice), (.p .nilslice)] []) h 19 fun x19 h =>
 vstore 6 x2 x19 h fun _ h =>
 vcell true 6 x2 h fun c0 => tcomp (kI 17) fun c1 => vfin true q [c0, c1] h)
theorem e86_1 (O : Oracle) (R : Jump) (q : Nat) (x1 x2 x12 : TVal) (h : Heap) : b86_1 O R q x1 x2 x12 h = stepF c86 O R q 1 [x1, x2, x12] h := by kernel_rfl
def d86 : BlkF := fun O R Q => [.s fun a => .z (b86_0 O R Q a), .s fun a => .s fun b => .s fun c => .z (b86_1 O R Q a b c)]
theorem o86 (O : Oracle) (R : Jump) (q : Nat) : HoldsAll c86 O R q 0 (d86 O R q) := ⟨e86_0 O R q, e86_1 O R q, trivial⟩
def c87 : MFunc := mkM (compF Tryd.prog (globs2 tabs opq) (fun _ => false) true Tryd.f87) .n
def b87_0 (O : Oracle) (R : Jump) (q : Nat) (x0 x1 : TVal) (h : Heap) : Res1 :=
 vop O (.alloc [(.p (.int .i64 0)), (.p (.bool false)), (.p (.int .i64 0)), (.p (.str [])), (.p .nilslice), (.p .nilslice)] false) h 4 fun x4 h =>
 vcall O (.v (.c (.func 151 []))) [x1, (.v (.c (.func 152 [])))] h 7 fun x7 h =>
 vif x7 (
 vop O (.build [(.p (.int .i64 0)), (.p (.bool false)), (.p (.int .i64 0)), (.p (.str [])), (.p .nilslice), (.p .nilslice)] []) h 8 fun x8 h =>
 vstore 6 x4 x8 h fun _ h =>
 vcell true 6 x4 h fun c0 => tcomp (kI 17) fun c1 => vfin true q [c0, c1] h)
 (vbin .eql 0 x0 (kS [110, 111, 116]) h fun x11 h =>
 vif x11 (
 viaddr 6 x1 (kI 0) h fun x13 h =>
 vfaddr 1 x13 h fun x14 h =>
 vload false 1 x14 h fun x15 h =>
 vop O (.un .not (.k x15)) h 16 fun x16 h =>
 vcall O (.v (.c (.func 94 []))) [x16] h 17 fun x17 h =>
 vstore 6 x4 x17 h fun _ h =>
 vcell true 6 x4 h fun c0 => tcomp (kI 0) fun c1 => vfin true q [c0, c1] h)
 (vbin .eql 0 x0 (kS [97, 110, 100]) h fun x19 h =>
 vif x19 (
 viaddr 6 x1 (kI 0) h fun x21 h =>
 vfaddr 1 x21 h fun x22 h =>
 vload false 1 x22 h fun x23 h =>
 vguard x23 true (fun kk => kk x1 h) h fun x25 h =>
 vguard x23 true (fun kk => viaddr 6 x25 (kI 1) h kk) h fun x26 h =>
 vguard x23 true (fun kk => vfaddr 1 x26 h kk) h fun x27 h =>
 vguard x23 true (fun kk => vload false 1 x27 h kk) h fun x28 h =>
 vop O (.pick (.k x23) (.k x28) (.k (kB false))) h 29 fun x29 h =>
 vcall O (.v (.c (.func 94 []))) [x29] h 30 fun x30 h =>
 vstore 6 x4 x30 h fun _ h =>
 vcell true 6 x4 h fun c0 => tcomp (kI 0) fun c1 => vfin true q [c0, c1] h)
 (viaddr 6 x1 (kI 0) h fun x32 h =>
 vfaddr 1 x32 h fun x33 h =>
 vload false 1 x33 h fun x34 h =>
 vguard x34 false (fun kk => kk x1 h) h fun x36 h =>
 vguard x34 false (fun kk => viaddr 6 x36 (kI 1) h kk) h fun x37 h =>
 vguard x34 false (fun kk => vfaddr 1 x37 h kk) h fun x38 h =>
 vguard x34 false (fun kk => vload false 1 x38 h kk) h fun x39 h =>
 vop O (.pick (.k x34) (.k (kB true)) (.k x39)) h 40 fun x40 h =>
 vcall O (.v (.c (.func 94 []))) [x40] h 41 fun x41 h =>
 vstore 6 x4 x41 h fun _ h =>
 vcell true 6 x4 h fun c0 => tcomp (kI 0) fun c1 => vfin true q [c0, c1] h)))
theorem e87_0 (O : Oracle) (R : Jump) (q : Nat) (x0 x1 : TVal) (h : Heap) : b87_0 O R q x0 x1 h = stepF c87 O R q 0 [x0, x1] h := by kernel_rfl
def d87 : BlkF := fun O R Q => [.s fun a => .s fun b => .z (b87_0 O R Q a b)]
theorem o87 (O : Oracle) (R : Jump) (q : Nat) : HoldsAll c87 O R q 0 (d87 O R q) := ⟨e87_0 O R q, trivial⟩
def c88 : MFunc := mkM (compF Tryd.prog (globs2 tabs opq) (fun _ => false) true Tryd.f88) .n
def b88_0 (O : Oracle) (R : Jump) (q : Nat) (x0 : TVal) (h : Heap) : Res1 :=
 vop O (.alloc [(.p (.int .i64 0)), (.p (.bool false)), (.p (.int .i64 0)), (.p (.str [])), (.p .nilslice), (.p .nilslice)] false) h 2 fun x2 h =>
 viaddr 6 x0 (kI 0) h fun x6 h =>
 vfaddr 0 x6 h fun x7 h =>
 vload false 1 x7 h fun x8 h =>
 vbin .lss 0 x8 (kI 1) h fun x10 h =>
 vguard x10 false (fun kk => kk x8 h) h fun x12 h =>
 vguard x10 false (fun kk => vbin .gtr 0 x12 (kI 3) h kk) h fun x13 h =>
 vop O (.pick (.k x10) (.k (kB true)) (.k x13)) h 14 fun x14 h =>
 vguard x14 false (fun kk => kk x0 h) h fun x16 h =>
 vguard x14 false (fun kk => viaddr 6 x16 (kI 1) h kk) h fun x17 h =>
 vguard x14 false (fun kk => vfaddr 0 x17 h kk) h fun x18 h =>
 vguard x14 false (fun kk => vload false 1 x18 h kk) h fun x19 h =>
 vguard x14 false (fun kk => kk x8 h) h fun x20 h =>
 vguard x14 false (fun kk => vbin .neq 0 x19 x20 h kk) h fun x21 h =>
 vop O (.pick (.k x14) (.k (kB true)) (.k x21)) h 22 fun x22 h =>
 vif x22 (
 vop O (.build [(.p (.int .i64 0)), (.p (.bool false)), (.p (.int .i64 0)), (.p (.str [])), (.p .nilslice), (.p .nilslice)] []) h 23 fun x23 h =>
 vstore 6 x2 x23 h fun _ h =>
 vcell true 6 x2 h fun c0 => tcomp (kI 17) fun c1 => vfin true q [c0, c1] h)
 (viaddr 6 x0 (kI 0) h fun x25 h =>
 vfaddr 1 x25 h fun x26 h =>
 vload false 1 x26 h fun x27 h =>
 viaddr 6 x0 (kI 1) h fun x29 h =>
 vfaddr 1 x29 h fun x30 h =>
 vload false 1 x30 h fun x31 h =>
 vbin .eql 5 x27 x31 h fun x32 h =>
 vguard x32 true (fun kk => kk x0 h) h fun x34 h =>
 vguard x32 true (fun kk => viaddr 6 x34 (kI 0) h kk) h fun x35 h =>
 vguard x32 true (fun kk => vfaddr 2 x35 h kk) h fun x36 h =>
 vguard x32 true (fun kk => vload false 1 x36 h kk) h fun x37 h =>
 vguard x32 true (fun kk => kk x0 h) h fun x38 h =>
 vguard x32 true (fun kk => viaddr 6 x38 (kI 1) h kk) h fun x39 h =>
 vguard x32 true (fun kk => vfaddr 2 x39 h kk) h fun x40 h =>
 vguard x32 true (fun kk => vload false 1 x40 h kk) h fun x41 h =>
 vguard x32 true (fun kk => vbin .eql 0 x37 x41 h kk) h fun x42 h =>
 vop O (.pick (.k x32) (.k x42) (.k (kB false))) h 43 fun x43 h =>
 vguard x43 true (fun kk => kk x0 h) h fun x45 h =>
 vguard x43 true (fun kk => viaddr 6 x45 (kI 0) h kk) h fun x46 h =>
 vguard x43 true (fun kk => vfaddr 3 x46 h kk) h fun x47 h =>
 vguard x43 true (fun kk => vload false 1 x47 h kk) h fun x48 h =>
 vguard x43 true (fun kk => kk x0 h) h fun x49 h =>
 vguard x43 true (fun kk => viaddr 6 x49 (kI 1) h kk) h fun x50 h =>
 vguard x43 true (fun kk => vfaddr 3 x50 h kk) h fun x51 h =>
 vguard x43 true (fun kk => vload false 1 x51 h kk) h fun x52 h =>
 vguard x43 true (fun kk => vbin .eql 0 x48 x52 h kk) h fun x53 h =>
 vop O (.pick (.k x43) (.k x53) (.k (kB false))) h 54 fun x54 h =>
 vcall O (.v (.c (.func 94 []))) [x54] h 55 fun x55 h =>
 vstore 6 x2 x55 h fun _ h =>
 vcell true 6 x2 h fun c0 => tcomp (kI 0) fun c1 => vfin true q [c0, c1] h)
theorem e88_0 (O : Oracle) (R : Jump) (q : Nat) (x0 : TVal) (h : Heap) : b88_0 O R q x0 h = stepF c88 O R q 0 [x0] h := by kernel_rfl
def d88 : BlkF := fun O R Q => [.s fun a => .z (b88_0 O R Q a)]
theorem o88 (O : Oracle) (R : Jump) (q : Nat) : HoldsAll c88 O R q 0 (d88 O R q) := ⟨e88_0 O R q, trivial⟩
def c89 : MFunc := mkM (compF Tryd.prog (globs2 tabs opq) (fun _ => false) true Tryd.f89) .n
def b89_0 (O : Oracle) (R : Jump) (q : Nat) (x0 : TVal) (h : Heap) : Res1 :=
 vop O (.alloc [(.p (.int .i64 0)), (.p (.bool false)), (.p (.int .i64 0)), (.p (.str [])), (.p .nilslice), (.p .nilslice)] false) h 2 fun x2 h =>
 vop O (.bslice 1 2 [(.p (.int .i64 0))] [(0, (.k (kI 3))), (1, (.k (kI 3)))] false) h 6 fun x6 h =>
 vcall O (.v (.c (.func 92 []))) [x0, x6] h 7 fun x7 h =>
 vop O (.un .not (.k x7)) h 8 fun x8 h =>
 vif x8 (
 vop O (.build [(.p (.int .i64 0)), (.p (.bool false)), (.p (.int .i64 0)), (.p (.str [])), (.p .nilslice), (.p .nilslice)] []) h 9 fun x9 h =>
 vstore 6 x2 x9 h fun _ h =>
 vcell true 6 x2 h fun c0 => tcomp (kI 17) fun c1 => vfin true q [c0, c1] h)
 (viaddr 6 x0 (kI 0) h fun x12 h =>
 vfaddr 3 x12 h fun x13 h =>
 vload false 1 x13 h fun x14 h =>
 vlen O 0 x14 h 15 fun x15 h =>
 viaddr 6 x0 (kI 1) h fun x17 h =>
 vfaddr 3 x17 h fun x18 h =>
 vload false 1 x18 h fun x19 h =>
 vlen O 0 x19 h 20 fun x20 h =>
 vbin .sub 0 (kI 65536) x20 h fun x21 h =>
 vbin .gtr 0 x15 x21 h fun x22 h =>
 vif x22 (
 vop O (.build [(.p (.int .i64 0)), (.p (.bool false)), (.p (.int .i64 0)), (.p (.str [])), (.p .nilslice), (.p .nilslice)] []) h 23 fun x23 h =>
 vstore 6 x2 x23 h fun _ h =>
 vcell true 6 x2 h fun c0 => tcomp (kI 34) fun c1 => vfin true q [c0, c1] h)
 (viaddr 6 x0 (kI 0) h fun x25 h =>
 vfaddr 3 x25 h fun x26 h =>
 vload false 1 x26 h fun x27 h =>
 viaddr 6 x0 (kI 1) h fun x29 h =>
 vfaddr 3 x29 h fun x30 h =>
 vload false 1 x30 h fun x31 h =>
 vbin .add 0 x27 x31 h fun x32 h =>
 vcall O (.v (.c (.func 153 []))) [x32] h 33 fun x33 h =>
 vstore 6 x2 x33 h fun _ h =>
 vcell true 6 x2 h fun c0 => tcomp (kI 0) fun c1 => vfin true q [c0, c1] h))
theorem e89_0 (O : Oracle) (R : Jump) (q : Nat) (x0 : TVal) (h : Heap) : b89_0 O R q x0 h = stepF c89 O R q 0 [x0] h := by kernel_rfl
def d89 : BlkF := fun O R Q => [.s fun a => .z (b89_0 O R Q a)]
theorem o89 (O : Oracle) (R : Jump) (q : Nat) : HoldsAll c89 O R q 0 (d89 O R q) := ⟨e89_0 O R q, trivial⟩
def c90 : MFunc := mkM (compF Tryd.prog (globs2 tabs opq) (fun _ => false) true Tryd.f90) .n
def b90_0 (O : Oracle) (R : Jump) (q : Nat) (x0 : TVal) (h : Heap) : Res1 :=
 vop O (.box (.k x0) false) h 1 fun x1 h =>
 vop O (.alloc [(.p (.int .i64 0)), (.p (.bool false)), (.p (.int .i64 0)), (.p (.str [])), (.p .nilslice), (.p .nilslice)] false) h 2 fun x2 h =>
 vfaddr 0 x1 h fun x4 h =>
 vload false 1 x4 h fun x5 h =>
 vbin .eql 0 x5 (kI 2) h fun x7 h =>
 vif x7 (
 vfaddr 2 x1 h fun x8 h =>
 vload false 1 x8 h fun x9 h =>
 vcall O (.v (.c (.func 154 []))) [x9, (kI 10)] h 10 fun x10 h =>
 vcall O (.v (.c (.func 153 []))) [x10] h 11 fun x11 h =>
 vstore 6 x2 x11 h fun _ h =>
 vcell true 6 x2 h fun c0 => tcomp (kI 0) fun c1 => vfin true q [c0, c1] h)
 (vbin .eql 0 x5 (kI 1) h fun x13 h =>
 vif x13 (
 vfaddr 1 x1 h fun x14 h =>
 vload false 1 x14 h fun x15 h =>
 vcall O (.v (.c (.func 155 []))) [x15] h 16 fun x16 h =>
 vcall O (.v (.c (.func 153 []))) [x16] h 17 fun x17 h =>
 vstore 6 x2 x17 h fun _ h =>
 vcell true 6 x2 h fun c0 => tcomp (kI 0) fun c1 => vfin true q [c0, c1] h)
 (vop O (.build [(.p (.int .i64 0)), (.p (.bool false)), (.p (.int .i64 0)), (.p (.str [])), (.p .nilslice), (.p .nilslice)] []) h 18 fun x18 h =>
 vstore 6 x2 x18 h fun _ h =>
 vcell true 6 x2 h fun c0 => tcomp (kI 17) fun c1 => vfin true q [c0, c1] h))
theorem e90_0 (O : Oracle) (R : Jump) (q : Nat) (x0 : TVal) (h : Heap) : b90_0 O R q x0 h = stepF c90 O R q 0 [x0] h := by kernel_rfl
def d90 : BlkF := fun O R Q => [.s fun a => .z (b90_0 O R Q a)]
theorem o90 (O : Oracle) (R : Jump) (q : Nat) : HoldsAll c90 O R q 0 (d90 O R q) := ⟨e90_0 O R q, trivial⟩
def c91 : MFunc := mkM (compF Tryd.prog (globs2 tabs opq) (fun _ => false) true Tryd.f91) .n
def b91_0 (O : Oracle) (R : Jump) (q : Nat) (x0 : TVal) (h : Heap) : Res1 :=
 vop O (.alloc [(.p (.int .i64 0)), (.p (.bool false)), (.p (.int .i64 0)), (.p (.str [])), (.p .nilslice), (.p .nilslice)] false) h 2 fun x2 h =>
 vop O (.bslice 1 2 [(.p (.int .i64 0))] [(0, (.k (kI 4))), (1, (.k (kI 2)))] false) h 6 fun x6 h =>
 vcall O (.v (.c (.func 92 []))) [x0, x6] h 7 fun x7 h =>
 vop O (.un .not (.k x7)) h 8 fun x8 h =>
 vif x8 (
 vop O (.build [(.p (.int .i64 0)), (.p (.bool false)), (.p (.int .i64 0)), (.p (.str [])), (.p .nilslice), (.p .nilslice)] []) h 9 fun x9 h =>
 vstore 6 x2 x9 h fun _ h =>
 vcell true 6 x2 h fun c0 => tcomp (kI 17) fun c1 => vfin true q [c0, c1] h)
 (viaddr 6 x0 (kI 1) h fun x12 h =>
 vfaddr 2 x12 h fun x13 h =>
 vload false 1 x13 h fun x14 h =>
 vbin .lss 0 x14 (kI 0) h fun x15 h =>
 vguard x15 false (fun kk => kk x0 h) h fun x17 h =>
 vguard x15 false (fun kk => viaddr 6 x17 (kI 1) h kk) h fun x18 h =>
 vguard x15 false (fun kk => vfaddr 2 x18 h kk) h fun x19 h =>
 vguard x15 false (fun kk => vload false 1 x19 h kk) h fun x20 h =>
 vguard x15 false (fun kk => kk x0 h) h fun x21 h =>
 vguard x15 false (fun kk => viaddr 6 x21 (kI 0) h kk) h fun x22 h =>
 vguard x15 false (fun kk => vfaddr 5 x22 h kk) h fun x23 h =>
 vguard x15 false (fun kk => vload false 1 x23 h kk) h fun x24 h =>
 vguard x15 false (fun kk => vlen O 2 x24 h 25 kk) h fun x25 h =>
 vguard x15 false (fun kk => vbin .geq 0 x20 x25 h kk) h fun x26 h =>
 vop O (.pick (.k x15) (.k (kB true)) (.k x26)) h 27 fun x27 h =>
 vif x27 (
 vop O (.build [(.p (.int .i64 0)), (.p (.bool false)), (.p (.int .i64 0)), (.p (.str [])), (.p .nilslice), (.p .nilslice)] []) h 28 fun x28 h =>
 vstore 6 x2 x28 h fun _ h =>
 vcell true 6 x2 h fun c0 => tcomp (kI 32) fun c1 => vfin true q [c0, c1] h)
 (viaddr 6 x0 (kI 0) h fun x30 h =>
 vfaddr 5 x30 h fun x31 h =>
 vload false 1 x31 h fun x32 h =>
 viaddr 6 x0 (kI 1) h fun x34 h =>
 vfaddr 2 x34 h fun x35 h =>
 vload false 1 x35 h fun x36 h =>
 viaddr 6 x32 x36 h fun x37 h =>
 vload true 6 x37 h fun x38 h =>
 vcall O (.v (.c (.func 95 []))) [x38] h 39 fun x39 h =>
 vstore 6 x2 x39 h fun _ h =>
 vcell true 6 x2 h fun c0 => tcomp (kI 0) fun c1 => vfin true q [c0, c1] h))
theorem e91_0 (O : Oracle) (R : Jump) (q : Nat) (x0 : TVal) (h : Heap) : b91_0 O R q x0 h = stepF c91 O R q 0 [x0] h := by kernel_rfl
def d91 : BlkF := fun O R Q => [.s fun a => .z (b91_0 O R Q a)]
theorem o91 (O : Oracle) (R : Jump) (q : Nat) : HoldsAll c91 O R q 0 (d91 O R q) := ⟨e91_0 O R q, trivial⟩
def c92 : MFunc := mkM (compF Tryd.prog (globs2 tabs opq) (fun _ => false) true Tryd.f92) (.s .n (.s (.s .n (.k (.l 1 [0, 7, 8, 9] .n))) .n))
def b92_0 (O : Oracle) (R : Jump) (q : Nat) (x0 x1 : TVal) (h : Heap) : Res1 :=
 vlen O 2 x1 h 8 fun x8 h =>
 R 1 [x0, x1, x8, (kI 0)] h
theorem e92_0 (O : Oracle) (R : Jump) (q : Nat) (x0 x1 : TVal) (h : Heap) : b92_0 O R q x0 x1 h = stepF c92 O R q 0 [x0, x1] h := by kernel_rfl
def b92_1 (O : Oracle) (R : Jump) (q : Nat) (x0 x7 x8 x9 : TVal) (h : Heap) : Res1 :=
 vbin .lss 0 x9 x8 h fun x10 h =>
 vif x10 (
 viaddr 1 x7 x9 h fun x12 h =>
 vload false 1 x12 h fun x13 h =>
 viaddr 6 x0 x9 h fun x16 h =>
 vfaddr 0 x16 h fun x17 h =>
 vload false 1 x17 h fun x18 h =>
 vbin .neq 0 x18 x13 h fun x20 h =>
 vif x20 (
 tcomp (kB false) fun c0 => vfin true q [c0] h)
 (vbin .add 0 x9 (kI 1) h fun x21 h =>
 R 1 [x0, x7, x8, x21] h))
 (tcomp (kB true) fun c0 => vfin true q [c0] h)
theorem e92_1 (O : Oracle) (R : Jump) (q : Nat) (x0 x7 x8 x9 : TVal) (h : Heap) : b92_1 O R q x0 x7 x8 x9 h = stepF c92 O R q 1 [x0, x7, x8, x9] h := by kernel_rfl
def d92 : BlkF := fun O R Q => [.s fun a => .s fun b => .z (b92_0 O R Q a b), .s fun a => .s fun b => .s fun c => .s fun d => .z (b92_1 O R Q a b c d)]
theorem o92 (O : Oracle) (R : Jump) (q : Nat) : HoldsAll c92 O R q 0 (d92 O R q) := ⟨e92_0 O R q, e92_1 O R q, trivial⟩
def c93 : MFunc := mkM (compF Tryd.prog (globs2 tabs opq) (fun _ => false) true Tryd.f93) .n
def b93_0 (O : Oracle) (R : Jump) (q : Nat) (x0 x1 : TVal) (h : Heap) : Res1 :=
 vop O (.box (.k x0) false) h 2 fun x2 h =>
 vop O (.alloc [(.p (.int .i64 0)), (.p (.bool false)), (.p (.int .i64 0)), (.p (.str [])), (.p .nilslice), (.p .nilslice)] false) h 4 fun x4 h =>
 vfaddr 4 x2 h fun x7 h =>
 vload false 1 x7 h fun x8 h =>
 vcall O (.v (.c (.func 131 []))) [x8, x1] h 10 fun x10 h =>
 vfaddr 0 x2 h fun x11 h =>
 vload false 1 x11 h fun x12 h =>
 vbin .neq 0 x12 (kI 5) h fun x13 h =>
 vguard x13 false (fun kk => kk x10 h) h fun x15 h =>
 vguard x13 false (fun kk => vbin .lss 0 x15 (kI 0) h kk) h fun x16 h =>
 vop O (.pick (.k x13) (.k (kB true)) (.k x16)) h 17 fun x17 h =>
 vguard x17 false (fun kk => kk x10 h) h fun x19 h =>
 vguard x17 false (fun kk => vfaddr 5 x2 h kk) h fun x20 h =>
 vguard x17 false (fun kk => vload false 1 x20 h kk) h fun x21 h =>
 vguard x17 false (fun kk => vlen O 2 x21 h 22 kk) h fun x22 h =>
 vguard x17 false (fun kk => vbin .geq 0 x19 x22 h kk) h fun x23 h =>
 vop O (.pick (.k x17) (.k (kB true)) (.k x23)) h 24 fun x24 h =>
 vif x24 (
 vop O (.build [(.p (.int .i64 0)), (.p (.bool false)), (.p (.int .i64 0)), (.p (.str [])), (.p .nilslice), (.p .nilslice)] []) h 25 fun x25 h =>
 vstore 6 x4 x25 h fun _ h =>
 vcell true 6 x4 h fun c0 => tcomp (kB false) fun c1 => vfin true q [c0, c1] h)
 (vfaddr 5 x2 h fun x26 h =>
 vload false 1 x26 h fun x27 h =>
 viaddr 6 x27 x10 h fun x29 h =>
 vload true 6 x29 h fun x30 h =>
 vcall O (.v (.c (.func 156 []))) [x30] h 31 fun x31 h =>
 vstore 6 x4 x31 h fun _ h =>
 vcell true 6 x4 h fun c0 => tcomp (kB true) fun c1 => vfin true q [c0, c1] h)
theorem e93_0 (O : Oracle) (R : Jump) (q : Nat) (x0 x1 : TVal) (h : Heap) : b93_0 O R q x0 x1 h = stepF c93 O R q 0 [x0, x1] h := by kernel_rfl
def d93 : BlkF := fun O R Q => [.s fun a => .s fun b => .z (b93_0 O R Q a b)]
theorem o93 (O : Oracle) (R : Jump) (q : Nat) : HoldsAll c93 O R q 0 (d93 O R q) := ⟨e93_0 O R q, trivial⟩
def c94 : MFunc := mkM (compF Tryd.prog (globs2 tabs opq) (fun _ => false) true Tryd.f94) .n
def b94_0 (O : Oracle) (R : Jump) (q : Nat) (x0 : TVal) (h : Heap) : Res1 :=
 vop O (.alloc [(.p (.int .i64 0)), (.p (.bool false)), (.p (.int .i64 0)), (.p (.str [])), (.p .nilslice), (.p .nilslice)] false) h 2 fun x2 h =>
 vop O (.build [(.p (.int .i64 0)), (.p (.bool false)), (.p (.int .i64 0)), (.p (.str [])), (.p .nilslice), (.p .nilslice)] [(0, 1, (.k (kI 1))), (1, 1, (.k x0))]) h 4 fun x4 h =>
 vstore 6 x2 x4 h fun _ h =>
 vcell true 6 x2 h fun c0 => vfin true q [c0] h
theorem e94_0 (O : Oracle) (R : Jump) (q : Nat) (x0 : TVal) (h : Heap) : b94_0 O R q x0 h = stepF c94 O R q 0 [x0] h := by kernel_rfl
def d94 : BlkF := fun O R Q => [.s fun a => .z (b94_0 O R Q a)]
theorem o94 (O : Oracle) (R : Jump) (q : Nat) : HoldsAll c94 O R q 0 (d94 O R q) := ⟨e94_0 O R q, trivial⟩
def c95 : MFunc := mkM (compF Tryd.prog (globs2 tabs opq) (fun _ => false) true Tryd.f95) .n
def b95_0 (O : Oracle) (R : Jump) (q : Nat) (x0 : TVal) (h : Heap) : Res1 :=
 vop O (.box (.k x0) false) h 1 fun x1 h =>
 vop O (.alloc [(.p (.int .i64 0)), (.p (.bool false)), (.p (.int .i64 0)), (.p (.str [])), (.p .nilslice), (.p .nilslice)] false) h 2 fun x2 h =>
 vop O (.bslice 1 1 [(.p (.str []))] [(0, (.k (kS [])))] false) h 6 fun x6 h =>
 vload true 6 x1 h fun x7 h =>
 vop O (.bslice 6 1 [(.p (.int .i64 0)), (.p (.bool false)), (.p (.int .i64 0)), (.p (.str [])), (.p .nilslice), (.p .nilslice)] [(0, (.k x7))] false) h 8 fun x8 h =>
 vop O (.build [(.p (.int .i64 0)), (.p (.bool false)), (.p (.int .i64 0)), (.p (.str [])), (.p .nilslice), (.p .nilslice)] [(0, 1, (.k (kI 5))), (4, 1, (.k x6)), (5, 1, (.k x8))]) h 9 fun x9 h =>
 vcall O (.v (.c (.func 93 []))) [x9, (kS [])] h 10 fun x10 h =>
 vext x10 0 h fun x11 h =>
 vext x10 1 h fun x12 h =>
 vop O (.alloc [(.p (.int .i64 0)), (.p (.bool false)), (.p (.int .i64 0)), (.p (.str [])), (.p .nilslice), (.p .nilslice)] false) h 3 fun x3 h =>
 vstore 6 x3 x11 h fun _ h =>
 vload true 6 x3 h fun x13 h =>
 vstore 6 x2 x13 h fun _ h =>
 vcell true 6 x2 h fun c0 => vfin true q [c0] h
theorem e95_0 (O : Oracle) (R : Jump) (q : Nat) (x0 : TVal) (h : Heap) : b95_0 O R q x0 h = stepF c95 O R q 0 [x0] h := by kernel_rfl
def d95 : BlkF := fun O R Q => [.s fun a => .z (b95_0 O R Q a)]
theorem o95 (O : Oracle) (R : Jump) (q : Nat) : HoldsAll c95 O R q 0 (d95 O R q) := ⟨e95_0 O R q, trivial⟩
def c96 : MFunc := mkM (compF Tryd.prog (globs2 tabs opq) (fun _ => false) true Tryd.f96) .n
def b96_0 (O : Oracle) (R : Jump) (q : Nat) (x0 x1 : TVal) (h : Heap) : Res1 :=
 vop O (.alloc [(.p (.int .i64 0)), (.p (.bool false)), (.p (.int .i64 0)), (.p (.str [])), (.p .nilslice), (.p .nilslice)] false) h 4 fun x4 h =>
 vcall O (.v (.c (.func 151 []))) [x1, (.v (.c (.func 157 [])))] h 7 fun x7 h =>
 vif x7 (
 vop O (.build [(.p (.int .i64 0)), (.p (.bool false)), (.p (.int .i64 0)), (.p (.str [])), (.p .nilslice), (.p .nilslice)] []) h 8 fun x8 h =>
 vstore 6 x4 x8 h fun _ h =>
 vcell true 6 x4 h fun c0 => tcomp (kI 17) fun c1 => vfin true q [c0, c1] h)
 (vlen O 2 x1 h 11 fun x11 h =>
 vbin .eql 0 x11 (kI 1) h fun x12 h =>
 vif x12 (
 viaddr 6 x1 (kI 0) h fun x15 h =>
 vfaddr 2 x15 h fun x16 h =>
 vload false 1 x16 h fun x17 h =>
 vcall O (.v (.c (.func 158 []))) [x0, x17] h 18 fun x18 h =>
 vcall O (.v (.c (.func 150 []))) [x18] h 19 fun x19 h =>
 vstore 6 x4 x19 h fun _ h =>
 vcell true 6 x4 h fun c0 => tcomp (kI 0) fun c1 => vfin true q [c0, c1] h)
 (vbin .eql 0 x0 (kS [108, 116]) h fun x22 h =>
 vif x22 (
 viaddr 6 x1 (kI 0) h fun x24 h =>
 vfaddr 2 x24 h fun x25 h =>
 vload false 1 x25 h fun x26 h =>
 viaddr 6 x1 (kI 1) h fun x28 h =>
 vfaddr 2 x28 h fun x29 h =>
 vload false 1 x29 h fun x30 h =>
 vbin .lss 0 x26 x30 h fun x31 h =>
 vcall O (.v (.c (.func 94 []))) [x31] h 32 fun x32 h =>
 vstore 6 x4 x32 h fun _ h =>
 vcell true 6 x4 h fun c0 => tcomp (kI 0) fun c1 => vfin true q [c0, c1] h)
 (viaddr 6 x1 (kI 0) h fun x35 h =>
 vfaddr 2 x35 h fun x36 h =>
 vload false 1 x36 h fun x37 h =>
 viaddr 6 x1 (kI 1) h fun x39 h =>
 vfaddr 2 x39 h fun x40 h =>
 vload false 1 x40 h fun x41 h =>
 vcall O (.v (.c (.func 159 []))) [x0, x37, x41] h 42 fun x42 h =>
 vcall O (.v (.c (.func 150 []))) [x42] h 43 fun x43 h =>
 vstore 6 x4 x43 h fun _ h =>
 vcell true 6 x4 h fun c0 => tcomp (kI 0) fun c1 => vfin true q [c0, c1] h)))
theorem e96_0 (O : Oracle) (R : Jump) (q : Nat) (x0 x1 : TVal) (h : Heap) : b96_0 O R q x0 x1 h = stepF c96 O R q 0 [x0, x1] h := by kernel_rfl
def d96 : BlkF := fun O R Q => [.s fun a => .s fun b => .z (b96_0 O R Q a b)]
theorem o96 (O : Oracle) (R : Jump) (q : Nat) : HoldsAll c96 O R q 0 (d96 O R q) := ⟨e96_0 O R q, trivial⟩
def c105 : MFunc := mkM (compF Tryd.prog (globs2 tabs opq) (fun _ => true) false Tryd.f105) .n
def b105_0 (O : Oracle) (R : Jump) (q : Nat) (x0 : TVal) (h : Heap) : Res1 :=
 vbin .eql 2 x0 (.v (.c (.p .nilslice))) h fun x4 h =>
 vif x4 (
 tcomp (.v (.c (.p .nilslice))) fun c0 => vfin false q [c0] h)
 (vop O (.bslice 6 0 [(.p (.int .i64 0)), (.p (.bool false)), (.p (.int .i64 0)), (.p (.str [])), (.p .nilslice), (.p .nilslice)] [] true) h 5 fun x5 h =>
 vop O (.append 6 88 true (.k x5) (.k x0)) h 7 fun x7 h =>
 tcomp x7 fun c0 => vfin false q [c0] h)
theorem e105_0 (O : Oracle) (R : Jump) (q : Nat) (x0 : TVal) (h : Heap) : b105_0 O R q x0 h = stepF c105 O R q 0 [x0] h := by kernel_rfl
def d105 : BlkF := fun O R Q => [.s fun a => .z (b105_0 O R Q a)]
theorem o105 (O : Oracle) (R : Jump) (q : Nat) : HoldsAll c105 O R q 0 (d105 O R q) := ⟨e105_0 O R q, trivial⟩
def c112 : MFunc := mkM (compF Tryd.prog (globs2 tabs opq) (fun _ => false) true Tryd.f112) .n
def b112_0 (O : Oracle) (R : Jump) (q : Nat) (x0 : TVal) (h : Heap) : Res1 :=
 vop O (.box (.k x0) false) h 1 fun x1 h =>
 vfaddr 0 x1 h fun x4 h =>
 vload false 1 x4 h fun x5 h =>
 vbin .lss 0 x5 (kI 0) h fun x7 h =>
 vguard x7 false (fun kk => kk x5 h) h fun x9 h =>
 vguard x7 false (fun kk => vbin .gtr 0 x9 (kI 5) h kk) h fun x10 h =>
 vop O (.pick (.k x7) (.k (kB true)) (.k x10)) h 11 fun x11 h =>
 vif x11 (
 tcomp (kB false) fun c0 => vfin true q [c0] h)
 (vbin .eql 0 x5 (kI 1) h fun x13 h =>
 vguard x13 false (fun kk => vfaddr 1 x1 h kk) h fun x15 h =>
 vguard x13 false (fun kk => vload false 1 x15 h kk) h fun x16 h =>
 vguard x13 false (fun kk => vop O (.un .not (.k x16)) h 17 kk) h fun x17 h =>
 vop O (.pick (.k x13) (.k (kB true)) (.k x17)) h 18 fun x18 h =>
 vguard x18 true (fun kk => kk x5 h) h fun x20 h =>
 vguard x18 true (fun kk => vbin .eql 0 x20 (kI 2) h kk) h fun x21 h =>
 vguard x18 true (fun kk => kk x21 h) h fun x22 h =>
 vguard x22 false (fun kk => vfaddr 2 x1 h kk) h fun x23 h =>
 vguard x22 false (fun kk => vload false 1 x23 h kk) h fun x24 h =>
 vguard x22 false (fun kk => vbin .eql 0 x24 (kI 0) h kk) h fun x25 h =>
 vguard x18 true (fun kk => vop O (.pick (.k x22) (.k (kB true)) (.k x25)) h 26 kk) h fun x26 h =>
 vop O (.pick (.k x18) (.k x26) (.k (kB false))) h 27 fun x27 h =>
 vguard x27 true (fun kk => kk x5 h) h fun x29 h =>
 vguard x27 true (fun kk => vbin .eql 0 x29 (kI 3) h kk) h fun x30 h =>
 vguard x27 true (fun kk => kk x30 h) h fun x31 h =>
 vguard x31 false (fun kk => vfaddr 3 x1 h kk) h fun x32 h =>
 vguard x31 false (fun kk => vload false 1 x32 h kk) h fun x33 h =>
 vguard x31 false (fun kk => vbin .eql 0 x33 (kS []) h kk) h fun x34 h =>
 vguard x27 true (fun kk => vop O (.pick (.k x31) (.k (kB true)) (.k x34)) h 35 kk) h fun x35 h =>
 vop O (.pick (.k x27) (.k x35) (.k (kB false))) h 36 fun x36 h =>
 vguard x36 true (fun kk => kk x5 h) h fun x38 h =>
 vguard x36 true (fun kk => vbin .geq 0 x38 (kI 4) h kk) h fun x39 h =>
 vguard x36 true (fun kk => kk x39 h) h fun x40 h =>
 vguard x40 false (fun kk => vfaddr 5 x1 h kk) h fun x41 h =>
 vguard x40 false (fun kk => vload false 1 x41 h kk) h fun x42 h =>
 vguard x40 false (fun kk => vlen O 2 x42 h 43 kk) h fun x43 h =>
 vguard x40 false (fun kk => vbin .eql 0 x43 (kI 0) h kk) h fun x44 h =>
 vguard x36 true (fun kk => vop O (.pick (.k x40) (.k (kB true)) (.k x44)) h 45 kk) h fun x45 h =>
 vop O (.pick (.k x36) (.k x45) (.k (kB false))) h 46 fun x46 h =>
 vguard x46 true (fun kk => kk x5 h) h fun x48 h =>
 vguard x46 true (fun kk => vbin .eql 0 x48 (kI 5) h kk) h fun x49 h =>
 vguard x46 true (fun kk => kk x49 h) h fun x50 h =>
 vguard x50 true (fun kk => vfaddr 4 x1 h kk) h fun x51 h =>
 vguard x50 true (fun kk => vload false 1 x51 h kk) h fun x52 h =>
 vguard x50 true (fun kk => vlen O 2 x52 h 53 kk) h fun x53 h =>
 vguard x50 true (fun kk => vfaddr 5 x1 h kk) h fun x54 h =>
 vguard x50 true (fun kk => vload false 1 x54 h kk) h fun x55 h =>
 vguard x50 true (fun kk => vlen O 2 x55 h 56 kk) h fun x56 h =>
 vguard x50 true (fun kk => vbin .eql 0 x53 x56 h kk) h fun x57 h =>
 vguard x46 true (fun kk => vop O (.pick (.k x50) (.k x57) (.k (kB false))) h 58 kk) h fun x58 h =>
 vguard x46 true (fun kk => kk x58 h) h fun x59 h =>
 vguard x59 false (fun kk => kk x5 h) h fun x60 h =>
 vguard x59 false (fun kk => vbin .neq 0 x60 (kI 5) h kk) h fun x61 h =>
 vguard x59 false (fun kk => kk x61 h) h fun x62 h =>
 vguard x62 true (fun kk => vfaddr 4 x1 h kk) h fun x63 h =>
 vguard x62 true (fun kk => vload false 1 x63 h kk) h fun x64 h =>
 vguard x62 true (fun kk => vlen O 2 x64 h 65 kk) h fun x65 h =>
 vguard x62 true (fun kk => vbin .eql 0 x65 (kI 0) h kk) h fun x66 h =>
 vguard x59 false (fun kk => vop O (.pick (.k x62) (.k x66) (.k (kB false))) h 67 kk) h fun x67 h =>
 vguard x46 true (fun kk => vop O (.pick (.k x59) (.k (kB true)) (.k x67)) h 68 kk) h fun x68 h =>
 vop O (.pick (.k x46) (.k x68) (.k (kB false))) h 69 fun x69 h =>
 tcomp x69 fun c0 => vfin true q [c0] h)
theorem e112_0 (O : Oracle) (R : Jump) (q : Nat) (x0 : TVal) (h : Heap) : b112_0 O R q x0 h = stepF c112 O R q 0 [x0] h := by kernel_rfl
def d112 : BlkF := fun O R Q => [.s fun a => .z (b112_0 O R Q a)]
theorem o112 (O : Oracle) (R : Jump) (q : Nat) : HoldsAll c112 O R q 0 (d112 O R q) := ⟨e112_0 O R q, trivial⟩
def c125 : MFunc := mkM (compF Tryd.prog (globs2 tabs opq) (fun _ => false) true Tryd.f125) (.s .n (.s .n (.s (.s .n (.k (.l 1 [0, 2, 4, 5] .n))) (.m 2 [2] .n))))
def b125_0 (O : Oracle) (R : Jump) (q : Nat) (x0 : TVal) (h : Heap) : Res1 :=
 vop O (.alloc [(.p (.int .i64 0)), (.p (.bool false)), (.p (.int .i64 0)), (.p (.str [])), (.p .nilslice), (.p .nilslice)] false) h 2 fun x2 h =>
 vop O (.bslice 1 3 [(.p (.str []))] [(0, (.k (kS [110, 117, 108, 108]))), (1, (.k (kS [102, 97, 108, 115, 101]))), (2, (.k (kS [116, 114, 117, 101])))] false) h 7 fun x7 h =>
 R 1 [x0, x2, x7, (kI 0)] h
theorem e125_0 (O : Oracle) (R : Jump) (q : Nat) (x0 : TVal) (h : Heap) : b125_0 O R q x0 h = stepF c125 O R q 0 [x0] h := by kernel_rfl
def b125_1 (O : Oracle) (R : Jump) (q : Nat) (x0 x2 x4 x5 : TVal) (h : Heap) : Res1 :=
 vbin .lss 0 x5 (kI 3) h fun x9 h =>
 vif x9 (
 viaddr 1 x4 x5 h fun x14 h =>
 vload false 1 x14 h fun x15 h =>
 vop O (.nilck (.k x0)) h 17 fun x17 h =>
 vfaddr 1 x17 h fun x18 h =>
 vload false 1 x18 h fun x19 h =>
 vlen O 0 x15 h 21 fun x21 h =>
 vbin .add 0 x19 x21 h fun x22 h =>
 vop O (.nilck (.k x0)) h 24 fun x24 h =>
 vfaddr 0 x24 h fun x25 h =>
 vload false 1 x25 h fun x26 h =>
 vlen O 0 x26 h 27 fun x27 h =>
 vbin .leq 0 x22 x27 h fun x28 h =>
 vguard x28 true (fun kk => kk x0 h) h fun x30 h =>
 vguard x28 true (fun kk => vop O (.nilck (.k x30)) h 31 kk) h fun x31 h =>
 vguard x28 true (fun kk => vfaddr 0 x31 h kk) h fun x32 h =>
 vguard x28 true (fun kk => vload false 1 x32 h kk) h fun x33 h =>
 vguard x28 true (fun kk => kk x0 h) h fun x34 h =>
 vguard x28 true (fun kk => vop O (.nilck (.k x34)) h 35 kk) h fun x35 h =>
 vguard x28 true (fun kk => vfaddr 1 x35 h kk) h fun x36 h =>
 vguard x28 true (fun kk => vload false 1 x36 h kk) h fun x37 h =>
 vguard x28 true (fun kk => kk x0 h) h fun x38 h =>
 vguard x28 true (fun kk => vop O (.nilck (.k x38)) h 39 kk) h fun x39 h =>
 vguard x28 true (fun kk => vfaddr 1 x39 h kk) h fun x40 h =>
 vguard x28 true (fun kk => vload false 1 x40 h kk) h fun x41 h =>
 vguard x28 true (fun kk => kk x15 h) h fun x42 h =>
 vguard x28 true (fun kk => vlen O 0 x42 h 43 kk) h fun x43 h =>
 vguard x28 true (fun kk => vbin .add 0 x41 x43 h kk) h fun x44 h =>
 vguard x28 true (fun kk => vop O (.slice 0 true (.k x33) (some (.k x37)) (some (.k x44)) none) h 45 kk) h fun x45 h =>
 vguard x28 true (fun kk => kk x15 h) h fun x46 h =>
 vguard x28 true (fun kk => vbin .eql 0 x45 x46 h kk) h fun x47 h =>
 vop O (.pick (.k x28) (.k x47) (.k (kB false))) h 48 fun x48 h =>
 vif x48 (
 vop O (.nilck (.k x0)) h 51 fun x51 h =>
 vfaddr 1 x51 h fun x52 h =>
 vload false 1 x52 h fun x53 h =>
 vlen O 0 x15 h 55 fun x55 h =>
 vbin .add 0 x53 x55 h fun x56 h =>
 vop O (.nilck (.k x0)) h 57 fun x57 h =>
 vfaddr 1 x57 h fun x58 h =>
 vstore 1 x58 x56 h fun _ h =>
 vbin .eql 0 x5 (kI 0) h fun x60 h =>
 vif x60 (
 vop O (.build [(.p (.int .i64 0)), (.p (.bool false)), (.p (.int .i64 0)), (.p (.str [])), (.p .nilslice), (.p .nilslice)] []) h 61 fun x61 h =>
 vstore 6 x2 x61 h fun _ h =>
 vcell true 6 x2 h fun c0 => tcomp (kB true) fun c1 => vfin true q [c0, c1] h)
 (vbin .eql 0 x5 (kI 2) h fun x63 h =>
 vop O (.build [(.p (.int .i64 0)), (.p (.bool false)), (.p (.int .i64 0)), (.p (.str [])), (.p .nilslice), (.p .nilslice)] [(0, 1, (.k (kI 1))), (1, 1, (.k x63))]) h 64 fun x64 h =>
 vstore 6 x2 x64 h fun _ h =>
 vcell true 6 x2 h fun c0 => tcomp (kB true) fun c1 => vfin true q [c0, c1] h))
 (vbin .add 0 x5 (kI 1) h fun x11 h =>
 R 1 [x0, x2, x4, x11] h))
 (R 2 [x2] h)
theorem e125_1 (O : Oracle) (R : Jump) (q : Nat) (x0 x2 x4 x5 : TVal) (h : Heap) : b125_1 O R q x0 x2 x4 x5 h = stepF c125 O R q 1 [x0, x2, x4, x5] h := by kernel_rfl
def b125_2 (O : Oracle) (R : Jump) (q : Nat) (x2 : TVal) (h : Heap) : Res1 :=
 vop O (.build [(.p (.int .i64 0)), (.p (.bool false)), (.p (.int .i64 0)), (.p (.str [])), (.p .nilslice), (.p .nilslice)] []) h 65 fun x65 h =>
 vstore 6 x2 x65 h fun _ h =>
 vcell true 6 x2 h fun c0 => tcomp (kB false) fun c1 => vfin true q [c0, c1] h
theorem e125_2 (O : Oracle) (R : Jump) (q : Nat) (x2 : TVal) (h : Heap) : b125_2 O R q x2 h = stepF c125 O R q 2 [x2] h := by kernel_rfl
def d125 : BlkF := fun O R Q => [.s fun a => .z (b125_0 O R Q a), .s fun a => .s fun b => .s fun c => .s fun d => .z (b125_1 O R Q a b c d), .s fun a => .z (b125_2 O R Q a)]
theorem o125 (O : Oracle) (R : Jump) (q : Nat) : HoldsAll c125 O R q 0 (d125 O R q) := ⟨e125_0 O R q, e125_1 O R q, e125_2 O R q, trivial⟩
def c126 : MFunc := mkM (compF Tryd.prog (globs2 tabs opq) (fun _ => false) true Tryd.f126) .n
def b126_0 (O : Oracle) (R : Jump) (q : Nat) (x0 : TVal) (h : Heap) : Res1 :=
 vbin .geq 0 x0 (.v (.c (.p (.int .u8 48)))) h fun x4 h =>
 vguard x4 true (fun kk => kk x0 h) h fun x6 h =>
 vguard x4 true (fun kk => vbin .leq 0 x6 (.v (.c (.p (.int .u8 57)))) h kk) h fun x7 h =>
 vop O (.pick (.k x4) (.k x7) (.k (kB false))) h 8 fun x8 h =>
 tcomp x8 fun c0 => vfin true q [c0] h
theorem e126_0 (O : Oracle) (R : Jump) (q : Nat) (x0 : TVal) (h : Heap) : b126_0 O R q x0 h = stepF c126 O R q 0 [x0] h := by kernel_rfl
def d126 : BlkF := fun O R Q => [.s fun a => .z (b126_0 O R Q a)]
theorem o126 (O : Oracle) (R : Jump) (q : Nat) : HoldsAll c126 O R q 0 (d126 O R q) := ⟨e126_0 O R q, trivial⟩
def c127 : MFunc := mkM (compF Tryd.prog (globs2 tabs opq) (fun _ => false) true Tryd.f127) .n
def b127_0 (O : Oracle) (R : Jump) (q : Nat) (x0 : TVal) (h : Heap) : Res1 :=
 vop O (.nilck (.k x0)) h 7 fun x7 h =>
 vfaddr 0 x7 h fun x8 h =>
 vload false 1 x8 h fun x9 h =>
 vop O (.nilck (.k x0)) h 11 fun x11 h =>
 vfaddr 1 x11 h fun x12 h =>
 vload false 1 x12 h fun x13 h =>
 vcall O (.v (.c (.func 166 []))) [x9, x13] h 14 fun x14 h =>
 vext x14 0 h fun x15 h =>
 vext x14 1 h fun x16 h =>
 vbin .lss 0 x16 (kI 0) h fun x18 h =>
 vif x18 (
 vcall O (.v (.c (.func 68 []))) [x0, (kI 11)] h 20 fun x20 h =>
 tcomp (kS []) fun c0 => vfin true q [c0] h)
 (vop O (.nilck (.k x0)) h 23 fun x23 h =>
 vfaddr 1 x23 h fun x24 h =>
 vstore 1 x24 x16 h fun _ h =>
 tcomp x15 fun c0 => vfin true q [c0] h)
theorem e127_0 (O : Oracle) (R : Jump) (q : Nat) (x0 : TVal) (h : Heap) : b127_0 O R q x0 h = stepF c127 O R q 0 [x0] h := by kernel_rfl
def d127 : BlkF := fun O R Q => [.s fun a => .z (b127_0 O R Q a)]
theorem o127 (O : Oracle) (R : Jump) (q : Nat) : HoldsAll c127 O R q 0 (d127 O R q) := ⟨e127_0 O R q, trivial⟩
def c128 : MFunc := mkM (compF Tryd.prog (globs2 tabs opq) (fun _ => false) true Tryd.f128) (.s .n (.s .n (.s .n (.s .n (.s (.k (.l 1 [0, 1, 4, 5] .n)) (.m 2 [0, 4, 5] (.s .n (.m 3 [4, 5] .n))))))))
def b128_0 (O : Oracle) (R : Jump) (q : Nat) (x0 x1 : TVal) (h : Heap) : Res1 :=
 vop O (.alloc [(.p (.int .i64 0)), (.p (.bool false)), (.p (.int .i64 0)), (.p (.str [])), (.p .nilslice), (.p .nilslice)] false) h 4 fun x4 h =>
 vop O (.build [(.p (.int .i64 0)), (.p (.bool false)), (.p (.int .i64 0)), (.p (.str [])), (.p .nilslice), (.p .nilslice)] [(0, 1, (.k (kI 4)))]) h 6 fun x6 h =>
 vop O (.alloc [(.p (.int .i64 0)), (.p (.bool false)), (.p (.int .i64 0)), (.p (.str [])), (.p .nilslice), (.p .nilslice)] false) h 5 fun x5 h =>
 vstore 6 x5 x6 h fun _ h =>
 vop O (.nilck (.k x0)) h 8 fun x8 h =>
 vfaddr 1 x8 h fun x9 h =>
 vload false 1 x9 h fun x10 h =>
 vbin .add 0 x10 (kI 1) h fun x11 h =>
 vop O (.nilck (.k x0)) h 12 fun x12 h =>
 vfaddr 1 x12 h fun x13 h =>
 vstore 1 x13 x11 h fun _ h =>
 vcall O (.v (.c (.func 167 []))) [x0, (.v (.c (.p (.int .u8 93))))] h 15 fun x15 h =>
 vif x15 (
 vload true 6 x5 h fun x16 h =>
 vstore 6 x4 x16 h fun _ h =>
 vcell true 6 x4 h fun c0 => vfin true q [c0] h)
 (R 1 [x0, x1, x4, x5] h)
theorem e128_0 (O : Oracle) (R : Jump) (q : Nat) (x0 x1 : TVal) (h : Heap) : b128_0 O R q x0 x1 h = stepF c128 O R q 0 [x0, x1] h := by kernel_rfl
def b128_1 (O : Oracle) (R : Jump) (q : Nat) (x0 x1 x4 x5 : TVal) (h : Heap) : Res1 :=
 vop O (.nilck (.k x0)) h 18 fun x18 h =>
 vfaddr 2 x18 h fun x19 h =>
 vload false 1 x19 h fun x20 h =>
 vbin .eql 0 x20 (kI 0) h fun x21 h =>
 vif x21 (
 vtouch O (.faddr 5 (.k x5)) h 22 fun x22 h t0 =>
 vtouch O (.load false 1 (.k x22)) h 23 fun x23 h t1 =>
 vtouch O (.mv (.k x0)) h 24 fun x24 h t2 =>
 vtouch O (.mv (.k x1)) h 25 fun x25 h t3 =>
 vtouch O (.bin .add 0 (.k x25) (.k (kI 1))) h 26 fun x26 h t4 =>
 vtouch O (.call (.k (.v (.c (.func 66 [])))) [(.k x24), (.k x26)]) h 27 fun x27 h t5 =>
 vtouch O (.bslice 6 1 [(.p (.int .i64 0)), (.p (.bool false)), (.p (.int .i64 0)), (.p (.str [])), (.p .nilslice), (.p .nilslice)] [(0, (.k x27))] false) h 28 fun x28 h t6 =>
 vtouch O (.append 6 88 false (.k x23) (.k x28)) h 29 fun x29 h t7 =>
 vtouch O (.faddr 5 (.k x5)) h 30 fun x30 h t8 =>
 vtouch O (.store 1 (.k x30) (.k x29)) h 1000000 fun _ h t9 =>
 bif apartAll [t0, t1, t2, t3, t4, t5, t6, t7, t8, t9] [(1, 5), (1, 6)] then
 vcall O (.v (.c (.func 167 []))) [x0, (.v (.c (.p (.int .u8 44))))] h 32 fun x32 h =>
 vop O (.un .not (.k x32)) h 33 fun x33 h =>
 vif x33 (
 R 2 [x0, x4, x5] h)
 (R 1 [x0, x1, x4, x5] h)
 else none)
 (R 2 [x0, x4, x5] h)
theorem e128_1 (O : Oracle) (R : Jump) (q : Nat) (x0 x1 x4 x5 : TVal) (h : Heap) : b128_1 O R q x0 x1 x4 x5 h = stepF c128 O R q 1 [x0, x1, x4, x5] h := by kernel_rfl
def b128_2 (O : Oracle) (R : Jump) (q : Nat) (x0 x4 x5 : TVal) (h : Heap) : Res1 :=
 vcall O (.v (.c (.func 167 []))) [x0, (.v (.c (.p (.int .u8 93))))] h 35 fun x35 h =>
 vop O (.un .not (.k x35)) h 36 fun x36 h =>
 vif x36 (
 vcall O (.v (.c (.func 68 []))) [x0, (kI 12)] h 38 fun x38 h =>
 R 3 [x4, x5] h)
 (R 3 [x4, x5] h)
theorem e128_2 (O : Oracle) (R : Jump) (q : Nat) (x0 x4 x5 : TVal) (h : Heap) : b128_2 O R q x0 x4 x5 h = stepF c128 O R q 2 [x0, x4, x5] h := by kernel_rfl
def b128_3 (O : Oracle) (R : Jump) (q : Nat) (x4 x5 : TVal) (h : Heap) : Res1 :=
 vload true 6 x5 h fun x39 h =>
 vstore 6 x4 x39 h fun _ h =>
 vcell true 6 x4 h fun c0 => vfin true q [c0] h
theorem e128_3 (O : Oracle) (R : Jump) (q : Nat) (x4 x5 : TVal) (h : Heap) : b128_3 O R q x4 x5 h = stepF c128 O R q 3 [x4, x5] h := by kernel_rfl
def d128 : BlkF := fun O R Q => [.s fun a => .s fun b => .z (b128_0 O R Q a b), .s fun a => .s fun b => .s fun c => .s fun d => .z (b128_1 O R Q a b c d), .s fun a => .s fun b => .s fun c => .z (b128_2 O R Q a b c), .s fun a => .s fun b => .z (b128_3 O R Q a b)]
theorem o128 (O : Oracle) (R : Jump) (q : Nat) : HoldsAll c128 O R q 0 (d128 O R q) := ⟨e128_0 O R q, e128_1 O R q, e128_2 O R q, e128_3 O R q, trivial⟩
def c129 : MFunc := mkM (compF Tryd.prog (globs2 tabs opq) (fun _ => false) true Tryd.f129) (.s .n (.s .n (.s .n (.s .n (.s .n (.s (.k (.l 1 [0, 1, 4, 5, 6] (.s .n (.k (.s .n (.s .n (.s .n (.s .n (.s .n (.s .n (.s (.k (.l 2 [0, 1, 4, 5, 6, 7, 8, 9] .n)) (.m 3 [0, 1, 4, 5, 6, 7, 8, 9] .n)))))))))))) (.m 4 [0, 4, 5, 6] (.s .n (.m 5 [0, 4, 5, 6] (.s .n (.m 6 [4, 5] .n)))))))))))
def b129_0 (O : Oracle) (R : Jump) (q : Nat) (x0 x1 : TVal) (h : Heap) : Res1 :=
 vop O (.alloc [(.p (.int .i64 0)), (.p (.bool false)), (.p (.int .i64 0)), (.p (.str [])), (.p .nilslice), (.p .nilslice)] false) h 4 fun x4 h =>
 vop O (.build [(.p (.int .i64 0)), (.p (.bool false)), (.p (.int .i64 0)), (.p (.str [])), (.p .nilslice), (.p .nilslice)] [(0, 1, (.k (kI 5)))]) h 12 fun x12 h =>
 vop O (.alloc [(.p (.int .i64 0)), (.p (.bool false)), (.p (.int .i64 0)), (.p (.str [])), (.p .nilslice), (.p .nilslice)] false) h 5 fun x5 h =>
 vstore 6 x5 x12 h fun _ h =>
 vop O (.nilck (.k x0)) h 14 fun x14 h =>
 vfaddr 1 x14 h fun x15 h =>
 vload false 1 x15 h fun x16 h =>
 vbin .add 0 x16 (kI 1) h fun x17 h =>
 vop O (.nilck (.k x0)) h 18 fun x18 h =>
 vfaddr 1 x18 h fun x19 h =>
 vstore 1 x19 x17 h fun _ h =>
 vcall O (.v (.c (.func 167 []))) [x0, (.v (.c (.p (.int .u8 125))))] h 21 fun x21 h =>
 vif x21 (
 vload true 6 x5 h fun x22 h =>
 vstore 6 x4 x22 h fun _ h =>
 vcell true 6 x4 h fun c0 => vfin true q [c0] h)
 (R 1 [x0, x1, x4, x5, (kB false)] h)
theorem e129_0 (O : Oracle) (R : Jump) (q : Nat) (x0 x1 : TVal) (h : Heap) : b129_0 O R q x0 x1 h = stepF c129 O R q 0 [x0, x1] h := by kernel_rfl
def b129_1 (O : Oracle) (R : Jump) (q : Nat) (x0 x1 x4 x5 x6 : TVal) (h : Heap) : Res1 :=
 vop O (.nilck (.k x0)) h 24 fun x24 h =>
 vfaddr 2 x24 h fun x25 h =>
 vload false 1 x25 h fun x26 h =>
 vbin .eql 0 x26 (kI 0) h fun x27 h =>
 vif x27 (
 vcall O (.v (.c (.func 67 []))) [x0] h 29 fun x29 h =>
 vop O (.nilck (.k x0)) h 31 fun x31 h =>
 vfaddr 1 x31 h fun x32 h =>
 vload false 1 x32 h fun x33 h =>
 vop O (.nilck (.k x0)) h 35 fun x35 h =>
 vfaddr 0 x35 h fun x36 h =>
 vload false 1 x36 h fun x37 h =>
 vlen O 0 x37 h 38 fun x38 h =>
 vbin .geq 0 x33 x38 h fun x39 h =>
 vguard x39 false (fun kk => kk x0 h) h fun x41 h =>
 vguard x39 false (fun kk => vop O (.nilck (.k x41)) h 42 kk) h fun x42 h =>
 vguard x39 false (fun kk => vfaddr 0 x42 h kk) h fun x43 h =>
 vguard x39 false (fun kk => vload false 1 x43 h kk) h fun x44 h =>
 vguard x39 false (fun kk => kk x0 h) h fun x45 h =>
 vguard x39 false (fun kk => vop O (.nilck (.k x45)) h 46 kk) h fun x46 h =>
 vguard x39 false (fun kk => vfaddr 1 x46 h kk) h fun x47 h =>
 vguard x39 false (fun kk => vload false 1 x47 h kk) h fun x48 h =>
 vguard x39 false (fun kk => vindex x44 x48 h kk) h fun x49 h =>
 vguard x39 false (fun kk => vbin .neq 0 x49 (.v (.c (.p (.int .u8 34)))) h kk) h fun x50 h =>
 vop O (.pick (.k x39) (.k (kB true)) (.k x50)) h 51 fun x51 h =>
 vif x51 (
 vcall O (.v (.c (.func 68 []))) [x0, (kI 12)] h 53 fun x53 h =>
 R 4 [x0, x4, x5, x6] h)
 (vcall O (.v (.c (.func 127 []))) [x0] h 55 fun x55 h =>
 vcall O (.v (.c (.func 167 []))) [x0, (.v (.c (.p (.int .u8 58))))] h 57 fun x57 h =>
 vop O (.un .not (.k x57)) h 58 fun x58 h =>
 vif x58 (
 vcall O (.v (.c (.func 68 []))) [x0, (kI 12)] h 60 fun x60 h =>
 R 4 [x0, x4, x5, x6] h)
 (vbin .add 0 x1 (kI 1) h fun x63 h =>
 vcall O (.v (.c (.func 66 []))) [x0, x63] h 64 fun x64 h =>
 vop O (.alloc [(.p (.int .i64 0)), (.p (.bool false)), (.p (.int .i64 0)), (.p (.str [])), (.p .nilslice), (.p .nilslice)] false) h 8 fun x8 h =>
 vstore 6 x8 x64 h fun _ h =>
 R 2 [x0, x1, x4, x5, x6, x55, x8, (kI 0)] h)))
 (R 4 [x0, x4, x5, x6] h)
theorem e129_1 (O : Oracle) (R : Jump) (q : Nat) (x0 x1 x4 x5 x6 : TVal) (h : Heap) : b129_1 O R q x0 x1 x4 x5 x6 h = stepF c129 O R q 1 [x0, x1, x4, x5, x6] h := by kernel_rfl
def b129_2 (O : Oracle) (R : Jump) (q : Nat) (x0 x1 x4 x5 x6 x7 x8 x9 : TVal) (h : Heap) : Res1 :=
 vfaddr 4 x5 h fun x66 h =>
 vload false 1 x66 h fun x67 h =>
 vlen O 2 x67 h 68 fun x68 h =>
 vbin .lss 0 x9 x68 h fun x69 h =>
 vguard x69 true (fun kk => vfaddr 4 x5 h kk) h fun x71 h =>
 vguard x69 true (fun kk => vload false 1 x71 h kk) h fun x72 h =>
 vguard x69 true (fun kk => kk x9 h) h fun x73 h =>
 vguard x69 true (fun kk => viaddr 1 x72 x73 h kk) h fun x74 h =>
 vguard x69 true (fun kk => vload false 1 x74 h kk) h fun x75 h =>
 vguard x69 true (fun kk => kk x7 h) h fun x76 h =>
 vguard x69 true (fun kk => vbin .lss 0 x75 x76 h kk) h fun x77 h =>
 vop O (.pick (.k x69) (.k x77) (.k (kB false))) h 78 fun x78 h =>
 vif x78 (
 vbin .add 0 x9 (kI 1) h fun x80 h =>
 R 2 [x0, x1, x4, x5, x6, x7, x8, x80] h)
 (R 3 [x0, x1, x4, x5, x6, x7, x8, x9] h)
theorem e129_2 (O : Oracle) (R : Jump) (q : Nat) (x0 x1 x4 x5 x6 x7 x8 x9 : TVal) (h : Heap) : b129_2 O R q x0 x1 x4 x5 x6 x7 x8 x9 h = stepF c129 O R q 2 [x0, x1, x4, x5, x6, x7, x8, x9] h := by kernel_rfl
def b129_3 (O : Oracle) (R : Jump) (q : Nat) (x0 x1 x4 x5 x6 x7 x8 x9 : TVal) (h : Heap) : Res1 :=
 vguard x6 false (fun kk => kk x9 h) h fun x83 h =>
 vguard x6 false (fun kk => vfaddr 4 x5 h kk) h fun x84 h =>
 vguard x6 false (fun kk => vload false 1 x84 h kk) h fun x85 h =>
 vguard x6 false (fun kk => vlen O 2 x85 h 86 kk) h fun x86 h =>
 vguard x6 false (fun kk => vbin .lss 0 x83 x86 h kk) h fun x87 h =>
 vguard x6 false (fun kk => kk x87 h) h fun x88 h =>
 vguard x88 true (fun kk => vfaddr 4 x5 h kk) h fun x89 h =>
 vguard x88 true (fun kk => vload false 1 x89 h kk) h fun x90 h =>
 vguard x88 true (fun kk => kk x9 h) h fun x91 h =>
 vguard x88 true (fun kk => viaddr 1 x90 x91 h kk) h fun x92 h =>
 vguard x88 true (fun kk => vload false 1 x92 h kk) h fun x93 h =>
 vguard x88 true (fun kk => kk x7 h) h fun x94 h =>
 vguard x88 true (fun kk => vbin .eql 0 x93 x94 h kk) h fun x95 h =>
 vguard x6 false (fun kk => vop O (.pick (.k x88) (.k x95) (.k (kB false))) h 96 kk) h fun x96 h =>
 vop O (.pick (.k x6) (.k (kB true)) (.k x96)) h 97 fun x97 h =>
 vop O (.bslice 1 0 [(.p (.str []))] [] false) h 98 fun x98 h =>
 vfaddr 4 x5 h fun x99 h =>
 vload false 1 x99 h fun x100 h =>
 vop O (.slice 1 false (.k x100) none (some (.k x9)) none) h 102 fun x102 h =>
 vop O (.append 1 16 false (.k x98) (.k x102)) h 103 fun x103 h =>
 vop O (.bslice 6 0 [(.p (.int .i64 0)), (.p (.bool false)), (.p (.int .i64 0)), (.p (.str [])), (.p .nilslice), (.p .nilslice)] [] false) h 104 fun x104 h =>
 vfaddr 5 x5 h fun x105 h =>
 vload false 1 x105 h fun x106 h =>
 vop O (.slice 6 false (.k x106) none (some (.k x9)) none) h 108 fun x108 h =>
 vop O (.append 6 88 false (.k x104) (.k x108)) h 109 fun x109 h =>
 vtouch O (.mv (.k x103)) h 110 fun x110 h t0 =>
 vtouch O (.mv (.k x7)) h 111 fun x111 h t1 =>
 vtouch O (.bslice 1 1 [(.p (.str []))] [(0, (.k x111))] false) h 112 fun x112 h t2 =>
 vtouch O (.append 1 16 false (.k x110) (.k x112)) h 113 fun x113 h t3 =>
 vtouch O (.faddr 4 (.k x5)) h 114 fun x114 h t4 =>
 vtouch O (.load false 1 (.k x114)) h 115 fun x115 h t5 =>
 vtouch O (.mv (.k x9)) h 116 fun x116 h t6 =>
 vtouch O (.slice 1 false (.k x115) (some (.k x116)) none none) h 117 fun x117 h t7 =>
 vtouch O (.append 1 16 false (.k x113) (.k x117)) h 118 fun x118 h t8 =>
 vtouch O (.mv (.k x109)) h 119 fun x119 h t9 =>
 vtouch O (.load true 6 (.k x8)) h 120 fun x120 h t10 =>
 vtouch O (.bslice 6 1 [(.p (.int .i64 0)), (.p (.bool false)), (.p (.int .i64 0)), (.p (.str [])), (.p .nilslice), (.p .nilslice)] [(0, (.k x120))] false) h 121 fun x121 h t11 =>
 vtouch O (.append 6 88 false (.k x119) (.k x121)) h 122 fun x122 h t12 =>
 vtouch O (.faddr 5 (.k x5)) h 123 fun x123 h t13 =>
 vtouch O (.load false 1 (.k x123)) h 124 fun x124 h t14 =>
 vtouch O (.mv (.k x9)) h 125 fun x125 h t15 =>
 vtouch O (.slice 6 false (.k x124) (some (.k x125)) none none) h 126 fun x126 h t16 =>
 vtouch O (.append 6 88 false (.k x122) (.k x126)) h 127 fun x127 h t17 =>
 vtouch O (.faddr 4 (.k x5)) h 128 fun x128 h t18 =>
 vtouch O (.store 1 (.k x128) (.k x118)) h 1000000 fun _ h t19 =>
 vtouch O (.faddr 5 (.k x5)) h 129 fun x129 h t20 =>
 vtouch O (.store 1 (.k x129) (.k x127)) h 1000000 fun _ h t21 =>
 bif apartAll [t0, t1, t2, t3, t4, t5, t6, t7, t8, t9, t10, t11, t12, t13, t14, t15, t16, t17, t18, t19, t20, t21] [(2, 5), (3, 5), (2, 10), (3, 10), (8, 10), (2, 11), (3, 11), (5, 11), (8, 11), (2, 14), (3, 14), (8, 14), (11, 14), (12, 14)] then
 vcall O (.v (.c (.func 167 []))) [x0, (.v (.c (.p (.int .u8 44))))] h 131 fun x131 h =>
 vop O (.un .not (.k x131)) h 132 fun x132 h =>
 vif x132 (
 R 4 [x0, x4, x5, x97] h)
 (R 1 [x0, x1, x4, x5, x97] h)
 else none
theorem e129_3 (O : Oracle) (R : Jump) (q : Nat) (x0 x1 x4 x5 x6 x7 x8 x9 : TVal) (h : Heap) : b129_3 O R q x0 x1 x4 x5 x6 x7 x8 x9 h = stepF c129 O R q 3 [x0, x1, x4, x5, x6, x7, x8, x9] h := by kernel_rfl
def b129_4 (O : Oracle) (R : Jump) (q : Nat) (x0 x4 x5 x6 : TVal) (h : Heap) : Res1 :=
 vcall O (.v (.c (.func 167 []))) [x0, (.v (.c (.p (.int .u8 125))))] h 134 fun x134 h =>
 vop O (.un .not (.k x134)) h 135 fun x135 h =>
 vif x135 (
 vcall O (.v (.c (.func 68 []))) [x0, (kI 12)] h 137 fun x137 h =>
 R 5 [x0, x4, x5, x6] h)
 (R 5 [x0, x4, x5, x6] h)
theorem e129_4 (O : Oracle) (R : Jump) (q : Nat) (x0 x4 x5 x6 : TVal) (h : Heap) : b129_4 O R q x0 x4 x5 x6 h = stepF c129 O R q 4 [x0, x4, x5, x6] h := by kernel_rfl
def b129_5 (O : Oracle) (R : Jump) (q : Nat) (x0 x4 x5 x6 : TVal) (h : Heap) : Res1 :=
 vif x6 (
 vcall O (.v (.c (.func 68 []))) [x0, (kI 6)] h 140 fun x140 h =>
 R 6 [x4, x5] h)
 (R 6 [x4, x5] h)
theorem e129_5 (O : Oracle) (R : Jump) (q : Nat) (x0 x4 x5 x6 : TVal) (h : Heap) : b129_5 O R q x0 x4 x5 x6 h = stepF c129 O R q 5 [x0, x4, x5, x6] h := by kernel_rfl
def b129_6 (O : Oracle) (R : Jump) (q : Nat) (x4 x5 : TVal) (h : Heap) : Res1 :=
 vload true 6 x5 h fun x141 h =>
 vstore 6 x4 x141 h fun _ h =>
 vcell true 6 x4 h fun c0 => vfin true q [c0] h
theorem e129_6 (O : Oracle) (R : Jump) (q : Nat) (x4 x5 : TVal) (h : Heap) : b129_6 O R q x4 x5 h = stepF c129 O R q 6 [x4, x5] h := by kernel_rfl
def d129 : BlkF := fun O R Q => [.s fun a => .s fun b => .z (b129_0 O R Q a b), .s fun a => .s fun b => .s fun c => .s fun d => .s fun e => .z (b129_1 O R Q a b c d e), .s fun a => .s fun b => .s fun c => .s fun d => .s fun e => .s fun f => .s fun g => .s fun h => .z (b129_2 O R Q a b c d e f g h), .s fun a => .s fun b => .s fun c => .s fun d => .s fun e => .s fun f => .s fun g => .s fun h => .z (b129_3 O R Q a b c d e f g h), .s fun a => .s fun b => .s fun c => .s fun d => .z (b129_4 O R Q a b c d), .s fun a => .s fun b => .s fun c => .s fun d => .z (b129_5 O R Q a b c d), .s fun a => .s fun b => .z (b129_6 O R Q a b)]
theorem o129 (O : Oracle) (R : Jump) (q : Nat) : HoldsAll c129 O R q 0 (d129 O R q) := ⟨e129_0 O R q, e129_1 O R q, e129_2 O R q, e129_3 O R q, e129_4 O R q, e129_5 O R q, e129_6 O R q, trivial⟩
def c130 : MFunc := mkM (compF Tryd.prog (globs2 tabs opq) (fun _ => false) true Tryd.f130) (.s .n (.s .n (.s .n (.m 1 [0, 2, 3] (.s .n (.s (.s .n (.s .n (.k (.l 2 [0, 2, 3] .n)))) (.m 3 [0, 2, 3] .n)))))))
def b130_0 (O : Oracle) (R : Jump) (q : Nat) (x0 : TVal) (h : Heap) : Res1 :=
 vop O (.alloc [(.p (.int .i64 0)), (.p (.bool false)), (.p (.int .i64 0)), (.p (.str [])), (.p .nilslice), (.p .nilslice)] false) h 2 fun x2 h =>
 vop O (.nilck (.k x0)) h 7 fun x7 h =>
 vfaddr 1 x7 h fun x8 h =>
 vload false 1 x8 h fun x9 h =>
 vop O (.nilck (.k x0)) h 11 fun x11 h =>
 vfaddr 0 x11 h fun x12 h =>
 vload false 1 x12 h fun x13 h =>
 vindex x13 x9 h fun x15 h =>
 vbin .eql 0 x15 (.v (.c (.p (.int .u8 45)))) h fun x16 h =>
 vif x16 (
 vbin .add 0 x9 (kI 1) h fun x18 h =>
 R 1 [x0, x2, x18] h)
 (R 1 [x0, x2, x9] h)
theorem e130_0 (O : Oracle) (R : Jump) (q : Nat) (x0 : TVal) (h : Heap) : b130_0 O R q x0 h = stepF c130 O R q 0 [x0] h := by kernel_rfl
def b130_1 (O : Oracle) (R : Jump) (q : Nat) (x0 x2 x3 : TVal) (h : Heap) : Res1 :=
 vop O (.nilck (.k x0)) h 21 fun x21 h =>
 vfaddr 0 x21 h fun x22 h =>
 vload false 1 x22 h fun x23 h =>
 vlen O 0 x23 h 24 fun x24 h =>
 vbin .geq 0 x3 x24 h fun x25 h =>
 vguard x25 false (fun kk => kk x0 h) h fun x27 h =>
 vguard x25 false (fun kk => vop O (.nilck (.k x27)) h 28 kk) h fun x28 h =>
 vguard x25 false (fun kk => vfaddr 0 x28 h kk) h fun x29 h =>
 vguard x25 false (fun kk => vload false 1 x29 h kk) h fun x30 h =>
 vguard x25 false (fun kk => kk x3 h) h fun x31 h =>
 vguard x25 false (fun kk => vindex x30 x31 h kk) h fun x32 h =>
 vguard x25 false (fun kk => vcall O (.v (.c (.func 126 []))) [x32] h 33 kk) h fun x33 h =>
 vguard x25 false (fun kk => vop O (.un .not (.k x33)) h 34 kk) h fun x34 h =>
 vop O (.pick (.k x25) (.k (kB true)) (.k x34)) h 35 fun x35 h =>
 vif x35 (
 vcall O (.v (.c (.func 68 []))) [x0, (kI 12)] h 37 fun x37 h =>
 vop O (.build [(.p (.int .i64 0)), (.p (.bool false)), (.p (.int .i64 0)), (.p (.str [])), (.p .nilslice), (.p .nilslice)] []) h 38 fun x38 h =>
 vstore 6 x2 x38 h fun _ h =>
 vcell true 6 x2 h fun c0 => vfin true q [c0] h)
 (vop O (.nilck (.k x0)) h 40 fun x40 h =>
 vfaddr 0 x40 h fun x41 h =>
 vload false 1 x41 h fun x42 h =>
 vindex x42 x3 h fun x44 h =>
 vbin .eql 0 x44 (.v (.c (.p (.int .u8 48)))) h fun x45 h =>
 vif x45 (
 vbin .add 0 x3 (kI 1) h fun x47 h =>
 R 3 [x0, x2, x47] h)
 (R 2 [x0, x2, x3] h))
theorem e130_1 (O : Oracle) (R : Jump) (q : Nat) (x0 x2 x3 : TVal) (h : Heap) : b130_1 O R q x0 x2 x3 h = stepF c130 O R q 1 [x0, x2, x3] h := by kernel_rfl
def b130_2 (O : Oracle) (R : Jump) (q : Nat) (x0 x2 x3 : TVal) (h : Heap) : Res1 :=
 vop O (.nilck (.k x0)) h 50 fun x50 h =>
 vfaddr 0 x50 h fun x51 h =>
 vload false 1 x51 h fun x52 h =>
 vlen O 0 x52 h 53 fun x53 h =>
 vbin .lss 0 x3 x53 h fun x54 h =>
 vguard x54 true (fun kk => kk x0 h) h fun x56 h =>
 vguard x54 true (fun kk => vop O (.nilck (.k x56)) h 57 kk) h fun x57 h =>
 vguard x54 true (fun kk => vfaddr 0 x57 h kk) h fun x58 h =>
 vguard x54 true (fun kk => vload false 1 x58 h kk) h fun x59 h =>
 vguard x54 true (fun kk => kk x3 h) h fun x60 h =>
 vguard x54 true (fun kk => vindex x59 x60 h kk) h fun x61 h =>
 vguard x54 true (fun kk => vcall O (.v (.c (.func 126 []))) [x61] h 62 kk) h fun x62 h =>
 vop O (.pick (.k x54) (.k x62) (.k (kB false))) h 63 fun x63 h =>
 vif x63 (
 vbin .add 0 x3 (kI 1) h fun x65 h =>
 R 2 [x0, x2, x65] h)
 (R 3 [x0, x2, x3] h)
theorem e130_2 (O : Oracle) (R : Jump) (q : Nat) (x0 x2 x3 : TVal) (h : Heap) : b130_2 O R q x0 x2 x3 h = stepF c130 O R q 2 [x0, x2, x3] h := by kernel_rfl
def b130_3 (O : Oracle) (R : Jump) (q : Nat) (x0 x2 x3 : TVal) (h : Heap) : Res1 :=
 vop O (.nilck (.k x0)) h 68 fun x68 h =>
 vfaddr 0 x68 h fun x69 h =>
 vload false 1 x69 h fun x70 h =>
 vop O (.nilck (.k x0)) h 72 fun x72 h =>
 vfaddr 1 x72 h fun x73 h =>
 vload false 1 x73 h fun x74 h =>
 vop O (.slice 0 true (.k x70) (some (.k x74)) (some (.k x3)) none) h 76 fun x76 h =>
 vcall O (.v (.c (.func 165 []))) [x76] h 77 fun x77 h =>
 vext x77 0 h fun x78 h =>
 vext x77 1 h fun x79 h =>
 vbin .neq 0 x79 (kI 0) h fun x81 h =>
 vif x81 (
 vcall O (.v (.c (.func 68 []))) [x0, (kI 11)] h 83 fun x83 h =>
 vop O (.build [(.p (.int .i64 0)), (.p (.bool false)), (.p (.int .i64 0)), (.p (.str [])), (.p .nilslice), (.p .nilslice)] []) h 84 fun x84 h =>
 vstore 6 x2 x84 h fun _ h =>
 vcell true 6 x2 h fun c0 => vfin true q [c0] h)
 (vop O (.nilck (.k x0)) h 87 fun x87 h =>
 vfaddr 1 x87 h fun x88 h =>
 vstore 1 x88 x3 h fun _ h =>
 vop O (.build [(.p (.int .i64 0)), (.p (.bool false)), (.p (.int .i64 0)), (.p (.str [])), (.p .nilslice), (.p .nilslice)] [(0, 1, (.k (kI 2))), (2, 1, (.k x78))]) h 90 fun x90 h =>
 vstore 6 x2 x90 h fun _ h =>
 vcell true 6 x2 h fun c0 => vfin true q [c0] h)
theorem e130_3 (O : Oracle) (R : Jump) (q : Nat) (x0 x2 x3 : TVal) (h : Heap) : b130_3 O R q x0 x2 x3 h = stepF c130 O R q 3 [x0, x2, x3] h := by kernel_rfl
def d130 : BlkF := fun O R Q => [.s fun a => .z (b130_0 O R Q a), .s fun a => .s fun b => .s fun c => .z (b130_1 O R Q a b c), .s fun a => .s fun b => .s fun c => .z (b130_2 O R Q a b c), .s fun a => .s fun b => .s fun c => .z (b130_3 O R Q a b c)]
theorem o130 (O : Oracle) (R : Jump) (q : Nat) : HoldsAll c130 O R q 0 (d130 O R q) := ⟨e130_0 O R q, e130_1 O R q, e130_2 O R q, e130_3 O R q, trivial⟩
def c131 : MFunc := mkM (compF Tryd.prog (globs2 tabs opq) (fun _ => false) true Tryd.f131) (.s .n (.s (.s .n (.k (.l 1 [0, 1, 7, 8] .n))) .n))
def b131_0 (O : Oracle) (R : Jump) (q : Nat) (x0 x1 : TVal) (h : Heap) : Res1 :=
 vlen O 2 x0 h 7 fun x7 h =>
 R 1 [x0, x1, x7, (kI 0)] h
theorem e131_0 (O : Oracle) (R : Jump) (q : Nat) (x0 x1 : TVal) (h : Heap) : b131_0 O R q x0 x1 h = stepF c131 O R q 0 [x0, x1] h := by kernel_rfl
def b131_1 (O : Oracle) (R : Jump) (q : Nat) (x0 x1 x7 x8 : TVal) (h : Heap) : Res1 :=
 vbin .lss 0 x8 x7 h fun x9 h =>
 vif x9 (
 viaddr 1 x0 x8 h fun x14 h =>
 vload false 1 x14 h fun x15 h =>
 vbin .eql 0 x1 x15 h fun x16 h =>
 vif x16 (
 tcomp x8 fun c0 => vfin true q [c0] h)
 (vbin .add 0 x8 (kI 1) h fun x18 h =>
 R 1 [x0, x1, x7, x18] h))
 (tcomp (kI (-1)) fun c0 => vfin true q [c0] h)
theorem e131_1 (O : Oracle) (R : Jump) (q : Nat) (x0 x1 x7 x8 : TVal) (h : Heap) : b131_1 O R q x0 x1 x7 x8 h = stepF c131 O R q 1 [x0, x1, x7, x8] h := by kernel_rfl
def d131 : BlkF := fun O R Q => [.s fun a => .s fun b => .z (b131_0 O R Q a b), .s fun a => .s fun b => .s fun c => .s fun d => .z (b131_1 O R Q a b c d)]
theorem o131 (O : Oracle) (R : Jump) (q : Nat) : HoldsAll c131 O R q 0 (d131 O R q) := ⟨e131_0 O R q, e131_1 O R q, trivial⟩
def c132 : MFunc := mkM (compF Tryd.prog (globs2 tabs opq) (fun _ => false) true Tryd.f132) .n
def b132_0 (O : Oracle) (R : Jump) (q : Nat) (x0 : TVal) (h : Heap) : Res1 :=
 vbin .eql 2 x0 (.v (.c (.p .nilslice))) h fun x4 h =>
 vif x4 (
 tcomp (.v (.c (.p .nilslice))) fun c0 => vfin true q [c0] h)
 (vop O (.bslice 1 0 [(.p (.str []))] [] false) h 5 fun x5 h =>
 vop O (.append 1 16 false (.k x5) (.k x0)) h 7 fun x7 h =>
 tcomp x7 fun c0 => vfin true q [c0] h)
theorem e132_0 (O : Oracle) (R : Jump) (q : Nat) (x0 : TVal) (h : Heap) : b132_0 O R q x0 h = stepF c132 O R q 0 [x0] h := by kernel_rfl
def d132 : BlkF := fun O R Q => [.s fun a => .z (b132_0 O R Q a)]
theorem o132 (O : Oracle) (R : Jump) (q : Nat) : HoldsAll c132 O R q 0 (d132 O R q) := ⟨e132_0 O R q, trivial⟩
def c148 : MFunc := mkM (compF Tryd.prog (globs2 tabs opq) (fun _ => false) true Tryd.f148) .n
def b148_0 (O : Oracle) (R : Jump) (q : Nat) (x0 : TVal) (h : Heap) : Res1 :=
 vbin .neq 0 x0 (kS []) h fun x4 h =>
 vguard x4 true (fun kk => kk x0 h) h fun x6 h =>
 vguard x4 true (fun kk => vlen O 0 x6 h 7 kk) h fun x7 h =>
 vguard x4 true (fun kk => vbin .leq 0 x7 (kI 16) h kk) h fun x8 h =>
 vop O (.pick (.k x4) (.k x8) (.k (kB false))) h 9 fun x9 h =>
 vguard x9 true (fun kk => kk x0 h) h fun x11 h =>
 vguard x9 true (fun kk => vindex x11 (kI 0) h kk) h fun x12 h =>
 vguard x9 true (fun kk => vcall O (.v (.c (.func 174 []))) [x12] h 13 kk) h fun x13 h =>
 vguard x9 true (fun kk => vop O (.un .not (.k x13)) h 14 kk) h fun x14 h =>
 vop O (.pick (.k x9) (.k x14) (.k (kB false))) h 15 fun x15 h =>
 vguard x15 true (fun kk => kk x0 h) h fun x17 h =>
 vguard x15 true (fun kk => vcall O (.v (.c (.func 175 []))) [x17] h 18 kk) h fun x18 h =>
 vguard x15 true (fun kk => kk x0 h) h fun x19 h =>
 vguard x15 true (fun kk => vlen O 0 x19 h 20 kk) h fun x20 h =>
 vguard x15 true (fun kk => vbin .eql 0 x18 x20 h kk) h fun x21 h =>
 vop O (.pick (.k x15) (.k x21) (.k (kB false))) h 22 fun x22 h =>
 tcomp x22 fun c0 => vfin true q [c0] h
theorem e148_0 (O : Oracle) (R : Jump) (q : Nat) (x0 : TVal) (h : Heap) : b148_0 O R q x0 h = stepF c148 O R q 0 [x0] h := by kernel_rfl
def d148 : BlkF := fun O R Q => [.s fun a => .z (b148_0 O R Q a)]
theorem o148 (O : Oracle) (R : Jump) (q : Nat) : HoldsAll c148 O R q 0 (d148 O R q) := ⟨e148_0 O R q, trivial⟩
def c149 : MFunc := mkM (compF Tryd.prog (globs2 tabs opq) (fun _ => false) true Tryd.f149) .n
def b149_0 (O : Oracle) (R : Jump) (q : Nat) (x0 x1 : TVal) (h : Heap) : Res1 :=
 vcall O (.v (.c (.func 176 []))) [x0, x1] h 7 fun x7 h =>
 vbin .geq 0 x7 (kI 0) h fun x8 h =>
 tcomp x8 fun c0 => vfin true q [c0] h
theorem e149_0 (O : Oracle) (R : Jump) (q : Nat) (x0 x1 : TVal) (h : Heap) : b149_0 O R q x0 x1 h = stepF c149 O R q 0 [x0, x1] h := by kernel_rfl
def d149 : BlkF := fun O R Q => [.s fun a => .s fun b => .z (b149_0 O R Q a b)]
theorem o149 (O : Oracle) (R : Jump) (q : Nat) : HoldsAll c149 O R q 0 (d149 O R q) := ⟨e149_0 O R q, trivial⟩
def c150 : MFunc := mkM (compF Tryd.prog (globs2 tabs opq) (fun _ => false) true Tryd.f150) .n
def b150_0 (O : Oracle) (R : Jump) (q : Nat) (x0 : TVal) (h : Heap) : Res1 :=
 vop O (.alloc [(.p (.int .i64 0)), (.p (.bool false)), (.p (.int .i64 0)), (.p (.str [])), (.p .nilslice), (.p .nilslice)] false) h 2 fun x2 h =>
 vop O (.build [(.p (.int .i64 0)), (.p (.bool false)), (.p (.int .i64 0)), (.p (.str [])), (.p .nilslice), (.p .nilslice)] [(0, 1, (.k (kI 2))), (2, 1, (.k x0))]) h 4 fun x4 h =>
 vstore 6 x2 x4 h fun _ h =>
 vcell true 6 x2 h fun c0 => vfin true q [c0] h
theorem e150_0 (O : Oracle) (R : Jump) (q : Nat) (x0 : TVal) (h : Heap) : b150_0 O R q x0 h = stepF c150 O R q 0 [x0] h := by kernel_rfl
def d150 : BlkF := fun O R Q => [.s fun a => .z (b150_0 O R Q a)]
theorem o150 (O : Oracle) (R : Jump) (q : Nat) : HoldsAll c150 O R q 0 (d150 O R q) := ⟨e150_0 O R q, trivial⟩
def c151 : MFunc := mkM (compF Tryd.prog (globs2 tabs opq) (fun _ => false) true Tryd.f151) .n
def b151_0 (O : Oracle) (R : Jump) (q : Nat) (x0 x1 : TVal) (h : Heap) : Res1 :=
 vcall O (.v (.c (.func 177 []))) [x0, x1] h 7 fun x7 h =>
 vbin .geq 0 x7 (kI 0) h fun x8 h =>
 tcomp x8 fun c0 => vfin true q [c0] h
theorem e151_0 (O : Oracle) (R : Jump) (q : Nat) (x0 x1 : TVal) (h : Heap) : b151_0 O R q x0 x1 h = stepF c151 O R q 0 [x0, x1] h := by kernel_rfl
def d151 : BlkF := fun O R Q => [.s fun a => .s fun b => .z (b151_0 O R Q a b)]
theorem o151 (O : Oracle) (R : Jump) (q : Nat) : HoldsAll c151 O R q 0 (d151 O R q) := ⟨e151_0 O R q, trivial⟩
def c152 : MFunc := mkM (compF Tryd.prog (globs2 tabs opq) (fun _ => false) true Tryd.f152) .n
def b152_0 (O : Oracle) (R : Jump) (q : Nat) (x0 : TVal) (h : Heap) : Res1 :=
 vop O (.box (.k x0) false) h 1 fun x1 h =>
 vfaddr 0 x1 h fun x3 h =>
 vload false 1 x3 h fun x4 h =>
 vbin .neq 0 x4 (kI 1) h fun x5 h =>
 tcomp x5 fun c0 => vfin true q [c0] h
theorem e152_0 (O : Oracle) (R : Jump) (q : Nat) (x0 : TVal) (h : Heap) : b152_0 O R q x0 h = stepF c152 O R q 0 [x0] h := by kernel_rfl
def d152 : BlkF := fun O R Q => [.s fun a => .z (b152_0 O R Q a)]
theorem o152 (O : Oracle) (R : Jump) (q : Nat) : HoldsAll c152 O R q 0 (d152 O R q) := ⟨e152_0 O R q, trivial⟩
def c153 : MFunc := mkM (compF Tryd.prog (globs2 tabs opq) (fun _ => false) true Tryd.f153) .n
def b153_0 (O : Oracle) (R : Jump) (q : Nat) (x0 : TVal) (h : Heap) : Res1 :=
 vop O (.alloc [(.p (.int .i64 0)), (.p (.bool false)), (.p (.int .i64 0)), (.p (.str [])), (.p .nilslice), (.p .nilslice)] false) h 2 fun x2 h =>
 vop O (.build [(.p (.int .i64 0)), (.p (.bool false)), (.p (.int .i64 0)), (.p (.str [])), (.p .nilslice), (.p .nilslice)] [(0, 1, (.k (kI 3))), (3, 1, (.k x0))]) h 4 fun x4 h =>
 vstore 6 x2 x4 h fun _ h =>
 vcell true 6 x2 h fun c0 => vfin true q [c0] h
theorem e153_0 (O : Oracle) (R : Jump) (q : Nat) (x0 : TVal) (h : Heap) : b153_0 O R q x0 h = stepF c153 O R q 0 [x0] h := by kernel_rfl
def d153 : BlkF := fun O R Q => [.s fun a => .z (b153_0 O R Q a)]
theorem o153 (O : Oracle) (R : Jump) (q : Nat) : HoldsAll c153 O R q 0 (d153 O R q) := ⟨e153_0 O R q, trivial⟩
def c154 : MFunc := mkM (compF Tryd.prog (globs2 tabs opq) (fun _ => false) true Tryd.f154) .n
def b154_0 (O : Oracle) (R : Jump) (q : Nat) (x0 x1 : TVal) (h : Heap) : Res1 :=
 vcall O (.v (.c (.func 178 []))) [x0, x1] h 7 fun x7 h =>
 tcomp x7 fun c0 => vfin true q [c0] h
theorem e154_0 (O : Oracle) (R : Jump) (q : Nat) (x0 x1 : TVal) (h : Heap) : b154_0 O R q x0 x1 h = stepF c154 O R q 0 [x0, x1] h := by kernel_rfl
def d154 : BlkF := fun O R Q => [.s fun a => .s fun b => .z (b154_0 O R Q a b)]
theorem o154 (O : Oracle) (R : Jump) (q : Nat) : HoldsAll c154 O R q 0 (d154 O R q) := ⟨e154_0 O R q, trivial⟩
def c155 : MFunc := mkM (compF Tryd.prog (globs2 tabs opq) (fun _ => false) true Tryd.f155) .n
def b155_0 (O : Oracle) (R : Jump) (q : Nat) (x0 : TVal) (h : Heap) : Res1 :=
 vcall O (.v (.c (.func 179 []))) [x0] h 4 fun x4 h =>
 tcomp x4 fun c0 => vfin true q [c0] h
theorem e155_0 (O : Oracle) (R : Jump) (q : Nat) (x0 : TVal) (h : Heap) : b155_0 O R q x0 h = stepF c155 O R q 0 [x0] h := by kernel_rfl
def d155 : BlkF := fun O R Q => [.s fun a => .z (b155_0 O R Q a)]
theorem o155 (O : Oracle) (R : Jump) (q : Nat) : HoldsAll c155 O R q 0 (d155 O R q) := ⟨e155_0 O R q, trivial⟩
def c156 : MFunc := mkM (compF Tryd.prog (globs2 tabs opq) (fun _ => false) true Tryd.f156) (.s .n (.s .n (.s (.s .n (.k (.l 1 [1, 2, 14, 15, 16] .n))) (.m 2 [1, 2] .n))))
def b156_0 (O : Oracle) (R : Jump) (q : Nat) (x0 : TVal) (h : Heap) : Res1 :=
 vop O (.box (.k x0) false) h 1 fun x1 h =>
 vop O (.alloc [(.p (.int .i64 0)), (.p (.bool false)), (.p (.int .i64 0)), (.p (.str [])), (.p .nilslice), (.p .nilslice)] false) h 2 fun x2 h =>
 vtouch O (.faddr 4 (.k x1)) h 5 fun x5 h t0 =>
 vtouch O (.load false 1 (.k x5)) h 6 fun x6 h t1 =>
 vtouch O (.call (.k (.v (.c (.func 132 [])))) [(.k x6)]) h 7 fun x7 h t2 =>
 vtouch O (.faddr 5 (.k x1)) h 8 fun x8 h t3 =>
 vtouch O (.load false 1 (.k x8)) h 9 fun x9 h t4 =>
 vtouch O (.call (.k (.v (.c (.func 105 [])))) [(.k x9)]) h 10 fun x10 h t5 =>
 vtouch O (.faddr 4 (.k x1)) h 11 fun x11 h t6 =>
 vtouch O (.store 1 (.k x11) (.k x7)) h 1000000 fun _ h t7 =>
 vtouch O (.faddr 5 (.k x1)) h 12 fun x12 h t8 =>
 vtouch O (.store 1 (.k x12) (.k x10)) h 1000000 fun _ h t9 =>
 bif apartAll [t0, t1, t2, t3, t4, t5, t6, t7, t8, t9] [(2, 4)] then
 vfaddr 5 x1 h fun x13 h =>
 vload false 1 x13 h fun x14 h =>
 vlen O 2 x14 h 15 fun x15 h =>
 R 1 [x1, x2, x14, x15, (kI 0)] h
 else none
theorem e156_0 (O : Oracle) (R : Jump) (q : Nat) (x0 : TVal) (h : Heap) : b156_0 O R q x0 h = stepF c156 O R q 0 [x0] h := by kernel_rfl
def b156_1 (O : Oracle) (R : Jump) (q : Nat) (x1 x2 x14 x15 x16 : TVal) (h : Heap) : Res1 :=
 vbin .lss 0 x16 x15 h fun x17 h =>
 vif x17 (
 viaddr 6 x14 x16 h fun x19 h =>
 vload true 6 x19 h fun x20 h =>
 vop O (.alloc [(.p (.int .i64 0)), (.p (.bool false)), (.p (.int .i64 0)), (.p (.str [])), (.p .nilslice), (.p .nilslice)] false) h 4 fun x4 h =>
 vstore 6 x4 x20 h fun _ h =>
 vtouch O (.faddr 5 (.k x1)) h 21 fun x21 h t0 =>
 vtouch O (.load false 1 (.k x21)) h 22 fun x22 h t1 =>
 vtouch O (.mv (.k x16)) h 23 fun x23 h t2 =>
 vtouch O (.load true 6 (.k x4)) h 24 fun x24 h t3 =>
 vtouch O (.call (.k (.v (.c (.func 156 [])))) [(.k x24)]) h 25 fun x25 h t4 =>
 vtouch O (.iaddr 6 (.k x22) (.k x23)) h 26 fun x26 h t5 =>
 vtouch O (.store 6 (.k x26) (.k x25)) h 1000000 fun _ h t6 =>
 bif apartAll [t0, t1, t2, t3, t4, t5, t6] [(1, 4)] then
 vbin .add 0 x16 (kI 1) h fun x27 h =>
 R 1 [x1, x2, x14, x15, x27] h
 else none)
 (R 2 [x1, x2] h)
theorem e156_1 (O : Oracle) (R : Jump) (q : Nat) (x1 x2 x14 x15 x16 : TVal) (h : Heap) : b156_1 O R q x1 x2 x14 x15 x16 h = stepF c156 O R q 1 [x1, x2, x14, x15, x16] h := by kernel_rfl
def b156_2 (O : Oracle) (R : Jump) (q : Nat) (x1 x2 : TVal) (h : Heap) : Res1 :=
 vload true 6 x1 h fun x28 h =>
 vstore 6 x2 x28 h fun _ h =>
 vcell true 6 x2 h fun c0 => vfin true q [c0] h
theorem e156_2 (O : Oracle) (R : Jump) (q : Nat) (x1 x2 : TVal) (h : Heap) : b156_2 O R q x1 x2 h = stepF c156 O R q 2 [x1, x2] h := by kernel_rfl
def d156 : BlkF := fun O R Q => [.s fun a => .z (b156_0 O R Q a), .s fun a => .s fun b => .s fun c => .s fun d => .s fun e => .z (b156_1 O R Q a b c d e), .s fun a => .s fun b => .z (b156_2 O R Q a b)]
theorem o156 (O : Oracle) (R : Jump) (q : Nat) : HoldsAll c156 O R q 0 (d156 O R q) := ⟨e156_0 O R q, e156_1 O R q, e156_2 O R q, trivial⟩
def c157 : MFunc := mkM (compF Tryd.prog (globs2 tabs opq) (fun _ => false) true Tryd.f157) .n
def b157_0 (O : Oracle) (R : Jump) (q : Nat) (x0 : TVal) (h : Heap) : Res1 :=
 vop O (.box (.k x0) false) h 1 fun x1 h =>
 vfaddr 0 x1 h fun x3 h =>
 vload false 1 x3 h fun x4 h =>
 vbin .neq 0 x4 (kI 2) h fun x5 h =>
 tcomp x5 fun c0 => vfin true q [c0] h
theorem e157_0 (O : Oracle) (R : Jump) (q : Nat) (x0 : TVal) (h : Heap) : b157_0 O R q x0 h = stepF c157 O R q 0 [x0] h := by kernel_rfl
def d157 : BlkF := fun O R Q => [.s fun a => .z (b157_0 O R Q a)]
theorem o157 (O : Oracle) (R : Jump) (q : Nat) : HoldsAll c157 O R q 0 (d157 O R q) := ⟨e157_0 O R q, trivial⟩
def c158 : MFunc := mkM (compF Tryd.prog (globs2 tabs opq) (fun _ => false) true Tryd.f158) .n
def b158_0 (O : Oracle) (R : Jump) (q : Nat) (x0 x1 : TVal) (h : Heap) : Res1 :=
 vbin .eql 0 x0 (kS [105, 56]) h fun x7 h =>
 vif x7 (
 vtoInt .i8 x1 h fun x9 h =>
 vtoInt .i64 x9 h fun x10 h =>
 tcomp x10 fun c0 => vfin true q [c0] h)
 (vbin .eql 0 x0 (kS [105, 49, 54]) h fun x12 h =>
 vif x12 (
 vtoInt .i16 x1 h fun x14 h =>
 vtoInt .i64 x14 h fun x15 h =>
 tcomp x15 fun c0 => vfin true q [c0] h)
 (vbin .eql 0 x0 (kS [105, 51, 50]) h fun x17 h =>
 vif x17 (
 vtoInt .i32 x1 h fun x19 h =>
 vtoInt .i64 x19 h fun x20 h =>
 tcomp x20 fun c0 => vfin true q [c0] h)
 (vbin .eql 0 x0 (kS [117, 56]) h fun x22 h =>
 vif x22 (
 vtoInt .u8 x1 h fun x24 h =>
 vtoInt .i64 x24 h fun x25 h =>
 tcomp x25 fun c0 => vfin true q [c0] h)
 (vbin .eql 0 x0 (kS [117, 49, 54]) h fun x27 h =>
 vif x27 (
 vtoInt .u16 x1 h fun x29 h =>
 vtoInt .i64 x29 h fun x30 h =>
 tcomp x30 fun c0 => vfin true q [c0] h)
 (vtoInt .u32 x1 h fun x32 h =>
 vtoInt .i64 x32 h fun x33 h =>
 tcomp x33 fun c0 => vfin true q [c0] h)))))
theorem e158_0 (O : Oracle) (R : Jump) (q : Nat) (x0 x1 : TVal) (h : Heap) : b158_0 O R q x0 x1 h = stepF c158 O R q 0 [x0, x1] h := by kernel_rfl
def d158 : BlkF := fun O R Q => [.s fun a => .s fun b => .z (b158_0 O R Q a b)]
theorem o158 (O : Oracle) (R : Jump) (q : Nat) : HoldsAll c158 O R q 0 (d158 O R q) := ⟨e158_0 O R q, trivial⟩
def c159 : MFunc := mkM (compF Tryd.prog (globs2 tabs opq) (fun _ => false) true Tryd.f159) .n
def b159_0 (O : Oracle) (R : Jump) (q : Nat) (x0 x1 x2 : TVal) (h : Heap) : Res1 :=
 vbin .eql 0 x0 (kS [97, 100, 100]) h fun x9 h =>
 vif x9 (
 vbin .add 0 x1 x2 h fun x12 h =>
 tcomp x12 fun c0 => vfin true q [c0] h)
 (vbin .eql 0 x0 (kS [115, 117, 98]) h fun x14 h =>
 vif x14 (
 vbin .sub 0 x1 x2 h fun x17 h =>
 tcomp x17 fun c0 => vfin true q [c0] h)
 (vbin .eql 0 x0 (kS [109, 117, 108]) h fun x19 h =>
 vif x19 (
 vbin .mul 0 x1 x2 h fun x22 h =>
 tcomp x22 fun c0 => vfin true q [c0] h)
 (vbin .eql 0 x0 (kS [115, 104, 108]) h fun x24 h =>
 vif x24 (
 vtoInt .u64 x2 h fun x27 h =>
 vbin .rem 0 x27 (.v (.c (.p (.int .u64 64)))) h fun x28 h =>
 vbin .shl 0 x1 x28 h fun x29 h =>
 tcomp x29 fun c0 => vfin true q [c0] h)
 (vtoInt .u64 x2 h fun x32 h =>
 vbin .rem 0 x32 (.v (.c (.p (.int .u64 64)))) h fun x33 h =>
 vbin .shr 0 x1 x33 h fun x34 h =>
 tcomp x34 fun c0 => vfin true q [c0] h))))
theorem e159_0 (O : Oracle) (R : Jump) (q : Nat) (x0 x1 x2 : TVal) (h : Heap) : b159_0 O R q x0 x1 x2 h = stepF c159 O R q 0 [x0, x1, x2] h := by kernel_rfl
def d159 : BlkF := fun O R Q => [.s fun a => .s fun b => .s fun c => .z (b159_0 O R Q a b c)]
theorem o159 (O : Oracle) (R : Jump) (q : Nat) : HoldsAll c159 O R q 0 (d159 O R q) := ⟨e159_0 O R q, trivial⟩
def c165 : MFunc := mkM (compF Tryd.prog (globs2 tabs opq) (fun _ => false) true Tryd.f165) (.s .n (.s .n (.s .n (.m 1 [0, 4] (.s .n (.s .n (.s (.s .n (.k (.l 2 [0, 4, 5, 6] .n))) (.m 3 [0, 5] .n))))))))
def b165_0 (O : Oracle) (R : Jump) (q : Nat) (x0 : TVal) (h : Heap) : Res1 :=
 vindex x0 (kI 0) h fun x9 h =>
 vbin .eql 0 x9 (.v (.c (.p (.int .u8 45)))) h fun x10 h =>
 vif x10 (
 vop O (.slice 0 true (.k x0) (some (.k (kI 1))) none none) h 12 fun x12 h =>
 R 1 [x0, x12] h)
 (R 1 [x0, x0] h)
theorem e165_0 (O : Oracle) (R : Jump) (q : Nat) (x0 : TVal) (h : Heap) : b165_0 O R q x0 h = stepF c165 O R q 0 [x0] h := by kernel_rfl
def b165_1 (O : Oracle) (R : Jump) (q : Nat) (x0 x4 : TVal) (h : Heap) : Res1 :=
 vlen O 0 x4 h 14 fun x14 h =>
 vbin .gtr 0 x14 (kI 19) h fun x15 h =>
 vif x15 (
 tcomp (kI 0) fun c0 => tcomp (kI 4) fun c1 => vfin true q [c0, c1] h)
 (R 2 [x0, x4, (.v (.c (.p (.int .u64 0)))), (kI 0)] h)
theorem e165_1 (O : Oracle) (R : Jump) (q : Nat) (x0 x4 : TVal) (h : Heap) : b165_1 O R q x0 x4 h = stepF c165 O R q 1 [x0, x4] h := by kernel_rfl
def b165_2 (O : Oracle) (R : Jump) (q : Nat) (x0 x4 x5 x6 : TVal) (h : Heap) : Res1 :=
 vlen O 0 x4 h 18 fun x18 h =>
 vbin .lss 0 x6 x18 h fun x19 h =>
 vif x19 (
 vbin .mul 0 x5 (.v (.c (.p (.int .u64 10)))) h fun x23 h =>
 vindex x4 x6 h fun x26 h =>
 vbin .sub 0 x26 (.v (.c (.p (.int .u8 48)))) h fun x27 h =>
 vtoInt .u64 x27 h fun x28 h =>
 vbin .add 0 x23 x28 h fun x29 h =>
 vbin .add 0 x6 (kI 1) h fun x21 h =>
 R 2 [x0, x4, x29, x21] h)
 (R 3 [x0, x5] h)
theorem e165_2 (O : Oracle) (R : Jump) (q : Nat) (x0 x4 x5 x6 : TVal) (h : Heap) : b165_2 O R q x0 x4 x5 x6 h = stepF c165 O R q 2 [x0, x4, x5, x6] h := by kernel_rfl
def b165_3 (O : Oracle) (R : Jump) (q : Nat) (x0 x5 : TVal) (h : Heap) : Res1 :=
 vindex x0 (kI 0) h fun x31 h =>
 vbin .eql 0 x31 (.v (.c (.p (.int .u8 45)))) h fun x32 h =>
 vif x32 (
 vbin .gtr 0 x5 (.v (.c (.p (.int .u64 9223372036854775808)))) h fun x34 h =>
 vif x34 (
 tcomp (kI 0) fun c0 => tcomp (kI 11) fun c1 => vfin true q [c0, c1] h)
 (vop O (.un .neg (.k x5)) h 36 fun x36 h =>
 vtoInt .i64 x36 h fun x37 h =>
 tcomp x37 fun c0 => tcomp (kI 0) fun c1 => vfin true q [c0, c1] h))
 (vbin .gtr 0 x5 (.v (.c (.p (.int .u64 9223372036854775807)))) h fun x39 h =>
 vif x39 (
 tcomp (kI 0) fun c0 => tcomp (kI 11) fun c1 => vfin true q [c0, c1] h)
 (vtoInt .i64 x5 h fun x41 h =>
 tcomp x41 fun c0 => tcomp (kI 0) fun c1 => vfin true q [c0, c1] h))
theorem e165_3 (O : Oracle) (R : Jump) (q : Nat) (x0 x5 : TVal) (h : Heap) : b165_3 O R q x0 x5 h = stepF c165 O R q 3 [x0, x5] h := by kernel_rfl
def d165 : BlkF := fun O R Q => [.s fun a => .z (b165_0 O R Q a), .s fun a => .s fun b => .z (b165_1 O R Q a b), .s fun a => .s fun b => .s fun c => .s fun d => .z (b165_2 O R Q a b c d), .s fun a => .s fun b => .z (b165_3 O R Q a b)]
theorem o165 (O : Oracle) (R : Jump) (q : Nat) : HoldsAll c165 O R q 0 (d165 O R q) := ⟨e165_0 O R q, e165_1 O R q, e165_2 O R q, e165_3 O R q, trivial⟩
def c166 : MFunc := mkM (compF Tryd.prog (globs2 tabs opq) (fun _ => false) true Tryd.f166) (.s .n (.s .n (.s .n (.s (.k (.l 1 [0, 1, 6] (.s .n (.k (.s .n (.s .n (.s .n (.s (.s .n (.k (.s .n (.m 2 [0, 1, 6, 46, 47] .n)))) (.m 3 [0, 1, 6] .n))))))))) .n))))
def b166_0 (O : Oracle) (R : Jump) (q : Nat) (x0 x1 : TVal) (h : Heap) : Res1 :=
 vbin .add 0 x1 (kI 1) h fun x9 h =>
 R 1 [x0, x9, (kS [])] h
theorem e166_0 (O : Oracle) (R : Jump) (q : Nat) (x0 x1 : TVal) (h : Heap) : b166_0 O R q x0 x1 h = stepF c166 O R q 0 [x0, x1] h := by kernel_rfl
def b166_1 (O : Oracle) (R : Jump) (q : Nat) (x0 x1 x6 : TVal) (h : Heap) : Res1 :=
 vlen O 0 x0 h 12 fun x12 h =>
 vbin .lss 0 x1 x12 h fun x13 h =>
 vif x13 (
 vindex x0 x1 h fun x16 h =>
 vbin .eql 0 x16 (.v (.c (.p (.int .u8 34)))) h fun x19 h =>
 vif x19 (
 vbin .add 0 x1 (kI 1) h fun x22 h =>
 tcomp x6 fun c0 => tcomp x22 fun c1 => vfin true q [c0, c1] h)
 (vbin .lss 0 x16 (.v (.c (.p (.int .u8 32)))) h fun x25 h =>
 vif x25 (
 tcomp (kS []) fun c0 => tcomp (kI (-1)) fun c1 => vfin true q [c0, c1] h)
 (vbin .neq 0 x16 (.v (.c (.p (.int .u8 92)))) h fun x28 h =>
 vif x28 (
 vbin .add 0 x1 (kI 1) h fun x33 h =>
 vop O (.slice 0 true (.k x0) (some (.k x1)) (some (.k x33)) none) h 34 fun x34 h =>
 vbin .add 0 x6 x34 h fun x35 h =>
 vbin .add 0 x1 (kI 1) h fun x37 h =>
 R 1 [x0, x37, x35] h)
 (vbin .add 0 x1 (kI 1) h fun x39 h =>
 vlen O 0 x0 h 41 fun x41 h =>
 vbin .geq 0 x39 x41 h fun x42 h =>
 vif x42 (
 tcomp (kS []) fun c0 => tcomp (kI (-1)) fun c1 => vfin true q [c0, c1] h)
 (vbin .add 0 x1 (kI 1) h fun x45 h =>
 vindex x0 x45 h fun x46 h =>
 vbin .eql 0 x46 (.v (.c (.p (.int .u8 92)))) h fun x48 h =>
 vif x48 (
 R 2 [x0, x1, x6, x46, x48] h)
 (vbin .eql 0 x46 (.v (.c (.p (.int .u8 34)))) h fun x49 h =>
 R 2 [x0, x1, x6, x46, x49] h))))))
 (tcomp (kS []) fun c0 => tcomp (kI (-1)) fun c1 => vfin true q [c0, c1] h)
theorem e166_1 (O : Oracle) (R : Jump) (q : Nat) (x0 x1 x6 : TVal) (h : Heap) : b166_1 O R q x0 x1 x6 h = stepF c166 O R q 1 [x0, x1, x6] h := by kernel_rfl
def b166_2 (O : Oracle) (R : Jump) (q : Nat) (x0 x1 x6 x46 x47 : TVal) (h : Heap) : Res1 :=
 vif x47 (
 vbin .add 0 x1 (kI 1) h fun x53 h =>
 vbin .add 0 x1 (kI 2) h fun x55 h =>
 vop O (.slice 0 true (.k x0) (some (.k x53)) (some (.k x55)) none) h 56 fun x56 h =>
 vbin .add 0 x6 x56 h fun x57 h =>
 R 3 [x0, x1, x57] h)
 (vbin .eql 0 x46 (.v (.c (.p (.int .u8 110)))) h fun x59 h =>
 vif x59 (
 vbin .add 0 x6 (kS [10]) h fun x61 h =>
 R 3 [x0, x1, x61] h)
 (vbin .eql 0 x46 (.v (.c (.p (.int .u8 116)))) h fun x63 h =>
 vif x63 (
 vbin .add 0 x6 (kS [9]) h fun x65 h =>
 R 3 [x0, x1, x65] h)
 (tcomp (kS []) fun c0 => tcomp (kI (-1)) fun c1 => vfin true q [c0, c1] h)))
theorem e166_2 (O : Oracle) (R : Jump) (q : Nat) (x0 x1 x6 x46 x47 : TVal) (h : Heap) : b166_2 O R q x0 x1 x6 x46 x47 h = stepF c166 O R q 2 [x0, x1, x6, x46, x47] h := by kernel_rfl
def b166_3 (O : Oracle) (R : Jump) (q : Nat) (x0 x1 x6 : TVal) (h : Heap) : Res1 :=
 vbin .add 0 x1 (kI 2) h fun x67 h =>
 R 1 [x0, x67, x6] h
theorem e166_3 (O : Oracle) (R : Jump) (q : Nat) (x0 x1 x6 : TVal) (h : Heap) : b166_3 O R q x0 x1 x6 h = stepF c166 O R q 3 [x0, x1, x6] h := by kernel_rfl
def d166 : BlkF := fun O R Q => [.s fun a => .s fun b => .z (b166_0 O R Q a b), .s fun a => .s fun b => .s fun c => .z (b166_1 O R Q a b c), .s fun a => .s fun b => .s fun c => .s fun d => .s fun e => .z (b166_2 O R Q a b c d e), .s fun a => .s fun b => .s fun c => .z (b166_3 O R Q a b c)]
theorem o166 (O : Oracle) (R : Jump) (q : Nat) : HoldsAll c166 O R q 0 (d166 O R q) := ⟨e166_0 O R q, e166_1 O R q, e166_2 O R q, e166_3 O R q, trivial⟩
def c167 : MFunc := mkM (compF Tryd.prog (globs2 tabs opq) (fun _ => false) true Tryd.f167) .n
def b167_0 (O : Oracle) (R : Jump) (q : Nat) (x0 x1 : TVal) (h : Heap) : Res1 :=
 vcall O (.v (.c (.func 67 []))) [x0] h 6 fun x6 h =>
 vop O (.nilck (.k x0)) h 8 fun x8 h =>
 vfaddr 2 x8 h fun x9 h =>
 vload false 1 x9 h fun x10 h =>
 vbin .eql 0 x10 (kI 0) h fun x11 h =>
 vguard x11 true (fun kk => kk x0 h) h fun x13 h =>
 vguard x11 true (fun kk => vop O (.nilck (.k x13)) h 14 kk) h fun x14 h =>
 vguard x11 true (fun kk => vfaddr 1 x14 h kk) h fun x15 h =>
 vguard x11 true (fun kk => vload false 1 x15 h kk) h fun x16 h =>
 vguard x11 true (fun kk => kk x0 h) h fun x17 h =>
 vguard x11 true (fun kk => vop O (.nilck (.k x17)) h 18 kk) h fun x18 h =>
 vguard x11 true (fun kk => vfaddr 0 x18 h kk) h fun x19 h =>
 vguard x11 true (fun kk => vload false 1 x19 h kk) h fun x20 h =>
 vguard x11 true (fun kk => vlen O 0 x20 h 21 kk) h fun x21 h =>
 vguard x11 true (fun kk => vbin .lss 0 x16 x21 h kk) h fun x22 h =>
 vop O (.pick (.k x11) (.k x22) (.k (kB false))) h 23 fun x23 h =>
 vguard x23 true (fun kk => kk x0 h) h fun x25 h =>
 vguard x23 true (fun kk => vop O (.nilck (.k x25)) h 26 kk) h fun x26 h =>
 vguard x23 true (fun kk => vfaddr 0 x26 h kk) h fun x27 h =>
 vguard x23 true (fun kk => vload false 1 x27 h kk) h fun x28 h =>
 vguard x23 true (fun kk => kk x0 h) h fun x29 h =>
 vguard x23 true (fun kk => vop O (.nilck (.k x29)) h 30 kk) h fun x30 h =>
 vguard x23 true (fun kk => vfaddr 1 x30 h kk) h fun x31 h =>
 vguard x23 true (fun kk => vload false 1 x31 h kk) h fun x32 h =>
 vguard x23 true (fun kk => vindex x28 x32 h kk) h fun x33 h =>
 vguard x23 true (fun kk => kk x1 h) h fun x34 h =>
 vguard x23 true (fun kk => vbin .eql 0 x33 x34 h kk) h fun x35 h =>
 vop O (.pick (.k x23) (.k x35) (.k (kB false))) h 36 fun x36 h =>
 vif x36 (
 vop O (.nilck (.k x0)) h 38 fun x38 h =>
 vfaddr 1 x38 h fun x39 h =>
 vload false 1 x39 h fun x40 h =>
 vbin .add 0 x40 (kI 1) h fun x41 h =>
 vop O (.nilck (.k x0)) h 42 fun x42 h =>
 vfaddr 1 x42 h fun x43 h =>
 vstore 1 x43 x41 h fun _ h =>
 tcomp (kB true) fun c0 => vfin true q [c0] h)
 (tcomp (kB false) fun c0 => vfin true q [c0] h)
theorem e167_0 (O : Oracle) (R : Jump) (q : Nat) (x0 x1 : TVal) (h : Heap) : b167_0 O R q x0 x1 h = stepF c167 O R q 0 [x0, x1] h := by kernel_rfl
def d167 : BlkF := fun O R Q => [.s fun a => .s fun b => .z (b167_0 O R Q a b)]
theorem o167 (O : Oracle) (R : Jump) (q : Nat) : HoldsAll c167 O R q 0 (d167 O R q) := ⟨e167_0 O R q, trivial⟩
def c174 : MFunc := mkM (compF Tryd.prog (globs2 tabs opq) (fun _ => false) true Tryd.f174) .n
def b174_0 (O : Oracle) (R : Jump) (q : Nat) (x0 : TVal) (h : Heap) : Res1 :=
 vbin .geq 0 x0 (.v (.c (.p (.int .u8 48)))) h fun x4 h =>
 vguard x4 true (fun kk => kk x0 h) h fun x6 h =>
 vguard x4 true (fun kk => vbin .leq 0 x6 (.v (.c (.p (.int .u8 57)))) h kk) h fun x7 h =>
 vop O (.pick (.k x4) (.k x7) (.k (kB false))) h 8 fun x8 h =>
 tcomp x8 fun c0 => vfin true q [c0] h
theorem e174_0 (O : Oracle) (R : Jump) (q : Nat) (x0 : TVal) (h : Heap) : b174_0 O R q x0 h = stepF c174 O R q 0 [x0] h := by kernel_rfl
def d174 : BlkF := fun O R Q => [.s fun a => .z (b174_0 O R Q a)]
theorem o174 (O : Oracle) (R : Jump) (q : Nat) : HoldsAll c174 O R q 0 (d174 O R q) := ⟨e174_0 O R q, trivial⟩
def c175 : MFunc := mkM (compF Tryd.prog (globs2 tabs opq) (fun _ => false) true Tryd.f175) .n
def b175_0 (O : Oracle) (R : Jump) (q : Nat) (x0 : TVal) (h : Heap) : Res1 :=
 vcall O (.v (.c (.func 180 []))) [x0, (.v (.c (.func 181 [])))] h 4 fun x4 h =>
 tcomp x4 fun c0 => vfin true q [c0] h
theorem e175_0 (O : Oracle) (R : Jump) (q : Nat) (x0 : TVal) (h : Heap) : b175_0 O R q x0 h = stepF c175 O R q 0 [x0] h := by kernel_rfl
def d175 : BlkF := fun O R Q => [.s fun a => .z (b175_0 O R Q a)]
theorem o175 (O : Oracle) (R : Jump) (q : Nat) : HoldsAll c175 O R q 0 (d175 O R q) := ⟨e175_0 O R q, trivial⟩
def c176 : MFunc := mkM (compF Tryd.prog (globs2 tabs opq) (fun _ => false) true Tryd.f176) .n
def b176_0 (O : Oracle) (R : Jump) (q : Nat) (x0 x1 : TVal) (h : Heap) : Res1 :=
 vcall O (.v (.c (.func 183 []))) [x0, x1] h 7 fun x7 h =>
 tcomp x7 fun c0 => vfin true q [c0] h
theorem e176_0 (O : Oracle) (R : Jump) (q : Nat) (x0 x1 : TVal) (h : Heap) : b176_0 O R q x0 x1 h = stepF c176 O R q 0 [x0, x1] h := by kernel_rfl
def d176 : BlkF := fun O R Q => [.s fun a => .s fun b => .z (b176_0 O R Q a b)]
theorem o176 (O : Oracle) (R : Jump) (q : Nat) : HoldsAll c176 O R q 0 (d176 O R q) := ⟨e176_0 O R q, trivial⟩
def c177 : MFunc := mkM (compF Tryd.prog (globs2 tabs opq) (fun _ => false) true Tryd.f177) (.s .n (.s (.s .n (.k (.l 1 [0, 1, 7, 8] .n))) .n))
def b177_0 (O : Oracle) (R : Jump) (q : Nat) (x0 x1 : TVal) (h : Heap) : Res1 :=
 vlen O 2 x0 h 7 fun x7 h =>
 R 1 [x0, x1, x7, (kI 0)] h
theorem e177_0 (O : Oracle) (R : Jump) (q : Nat) (x0 x1 : TVal) (h : Heap) : b177_0 O R q x0 x1 h = stepF c177 O R q 0 [x0, x1] h := by kernel_rfl
def b177_1 (O : Oracle) (R : Jump) (q : Nat) (x0 x1 x7 x8 : TVal) (h : Heap) : Res1 :=
 vbin .lss 0 x8 x7 h fun x9 h =>
 vif x9 (
 viaddr 6 x0 x8 h fun x14 h =>
 vload true 6 x14 h fun x15 h =>
 vcall O x1 [x15] h 16 fun x16 h =>
 vif x16 (
 tcomp x8 fun c0 => vfin true q [c0] h)
 (vbin .add 0 x8 (kI 1) h fun x18 h =>
 R 1 [x0, x1, x7, x18] h))
 (tcomp (kI (-1)) fun c0 => vfin true q [c0] h)
theorem e177_1 (O : Oracle) (R : Jump) (q : Nat) (x0 x1 x7 x8 : TVal) (h : Heap) : b177_1 O R q x0 x1 x7 x8 h = stepF c177 O R q 1 [x0, x1, x7, x8] h := by kernel_rfl
def d177 : BlkF := fun O R Q => [.s fun a => .s fun b => .z (b177_0 O R Q a b), .s fun a => .s fun b => .s fun c => .s fun d => .z (b177_1 O R Q a b c d)]
theorem o177 (O : Oracle) (R : Jump) (q : Nat) : HoldsAll c177 O R q 0 (d177 O R q) := ⟨e177_0 O R q, e177_1 O R q, trivial⟩
def c178 : MFunc := mkM (compF Tryd.prog (globs2 tabs opq) (fun _ => false) true Tryd.f178) (.s .n (.s (.s .n (.s (.s .n (.s .n (.s .n (.s .n (.m 1 [0, 5, 6] .n))))) .n)) .n))
def b178_0 (O : Oracle) (R : Jump) (q : Nat) (x0 x1 : TVal) (h : Heap) : Res1 :=
 vbin .eql 0 x1 (kI 10) h fun x11 h =>
 vif x11 (
 vbin .leq 0 (kI 0) x0 h fun x13 h =>
 vguard x13 true (fun kk => kk x0 h) h fun x15 h =>
 vguard x13 true (fun kk => vbin .lss 0 x15 (kI 100) h kk) h fun x16 h =>
 vop O (.pick (.k x13) (.k x16) (.k (kB false))) h 17 fun x17 h =>
 vif x17 (
 vcall O (.v (.c (.func 184 []))) [x0] h 19 fun x19 h =>
 tcomp x19 fun c0 => vfin true q [c0] h)
 (vop O (.alloc [(.p (.int .u8 0)), (.p (.int .u8 0)), (.p (.int .u8 0)), (.p (.int .u8 0)), (.p (.int .u8 0)), (.p (.int .u8 0)), (.p (.int .u8 0)), (.p (.int .u8 0)), (.p (.int .u8 0)), (.p (.int .u8 0)), (.p (.int .u8 0)), (.p (.int .u8 0)), (.p (.int .u8 0)), (.p (.int .u8 0)), (.p (.int .u8 0)), (.p (.int .u8 0)), (.p (.int .u8 0)), (.p (.int .u8 0)), (.p (.int .u8 0)), (.p (.int .u8 0)), (.p (.int .u8 0)), (.p (.int .u8 0)), (.p (.int .u8 0)), (.p (.int .u8 0))] false) h 5 fun x5 h =>
 vtoInt .u64 x0 h fun x21 h =>
 vbin .lss 0 x0 (kI 0) h fun x23 h =>
 vif x23 (
 vop O (.un .neg (.k x21)) h 25 fun x25 h =>
 R 1 [x0, x5, x25] h)
 (R 1 [x0, x5, x21] h)))
 (vtoInt .u64 x0 h fun x46 h =>
 vbin .lss 0 x0 (kI 0) h fun x49 h =>
 vcall O (.v (.c (.func 187 []))) [(.v (.c (.p .nilslice))), x46, x1, x49, (kB false)] h 50 fun x50 h =>
 vext x50 0 h fun x51 h =>
 vext x50 1 h fun x52 h =>
 tcomp x52 fun c0 => vfin true q [c0] h)
theorem e178_0 (O : Oracle) (R : Jump) (q : Nat) (x0 x1 : TVal) (h : Heap) : b178_0 O R q x0 x1 h = stepF c178 O R q 0 [x0, x1] h := by kernel_rfl
def b178_1 (O : Oracle) (R : Jump) (q : Nat) (x0 x5 x6 : TVal) (h : Heap) : Res1 :=
 vcall O (.v (.c (.func 185 []))) [x6] h 27 fun x27 h =>
 vbin .add 0 (kI 1) x27 h fun x29 h =>
 vop O (.sliceA 24 1 (.k x5) (some (.k (kI 1))) (some (.k x29))) h 30 fun x30 h =>
 vcall O (.v (.c (.func 186 []))) [x30, x6] h 32 fun x32 h =>
 vbin .lss 0 x0 (kI 0) h fun x34 h =>
 vif x34 (
 vop O (.iaddrA 24 1 (.k x5) (.k (kI 0))) h 35 fun x35 h =>
 vstore 1 x35 (.v (.c (.p (.int .u8 45)))) h fun _ h =>
 vbin .add 0 (kI 1) x27 h fun x37 h =>
 vop O (.sliceA 24 1 (.k x5) none (some (.k x37))) h 38 fun x38 h =>
 vop O (.toStr (.k x38)) h 39 fun x39 h =>
 tcomp x39 fun c0 => vfin true q [c0] h)
 (vbin .add 0 (kI 1) x27 h fun x41 h =>
 vop O (.sliceA 24 1 (.k x5) (some (.k (kI 1))) (some (.k x41))) h 42 fun x42 h =>
 vop O (.toStr (.k x42)) h 43 fun x43 h =>
 tcomp x43 fun c0 => vfin true q [c0] h)
theorem e178_1 (O : Oracle) (R : Jump) (q : Nat) (x0 x5 x6 : TVal) (h : Heap) : b178_1 O R q x0 x5 x6 h = stepF c178 O R q 1 [x0, x5, x6] h := by kernel_rfl
def d178 : BlkF := fun O R Q => [.s fun a => .s fun b => .z (b178_0 O R Q a b), .s fun a => .s fun b => .s fun c => .z (b178_1 O R Q a b c)]
theorem o178 (O : Oracle) (R : Jump) (q : Nat) : HoldsAll c178 O R q 0 (d178 O R q) := ⟨e178_0 O R q, e178_1 O R q, trivial⟩
def c179 : MFunc := mkM (compF Tryd.prog (globs2 tabs opq) (fun _ => false) true Tryd.f179) .n
def b179_0 (O : Oracle) (R : Jump) (q : Nat) (x0 : TVal) (h : Heap) : Res1 :=
 vif x0 (
 tcomp (kS [116, 114, 117, 101]) fun c0 => vfin true q [c0] h)
 (tcomp (kS [102, 97, 108, 115, 101]) fun c0 => vfin true q [c0] h)
theorem e179_0 (O : Oracle) (R : Jump) (q : Nat) (x0 : TVal) (h : Heap) : b179_0 O R q x0 h = stepF c179 O R q 0 [x0] h := by kernel_rfl
def d179 : BlkF := fun O R Q => [.s fun a => .z (b179_0 O R Q a)]
theorem o179 (O : Oracle) (R : Jump) (q : Nat) : HoldsAll c179 O R q 0 (d179 O R q) := ⟨e179_0 O R q, trivial⟩
def c180 : MFunc := mkM (compF Tryd.prog (globs2 tabs opq) (fun _ => false) true Tryd.f180) (.s .n (.s (.s .n (.k (.l 1 [0, 1, 7] .n))) (.m 2 [0] .n)))
def b180_0 (O : Oracle) (R : Jump) (q : Nat) (x0 x1 : TVal) (h : Heap) : Res1 :=
 vop O (.rangeS (.k x0)) h 7 fun x7 h =>
 R 1 [x0, x1, x7] h
theorem e180_0 (O : Oracle) (R : Jump) (q : Nat) (x0 x1 : TVal) (h : Heap) : b180_0 O R q x0 x1 h = stepF c180 O R q 0 [x0, x1] h := by kernel_rfl
def b180_1 (O : Oracle) (R : Jump) (q : Nat) (x0 x1 x7 : TVal) (h : Heap) : Res1 :=
 vop O (.nextS (.k x7)) h 8 fun x8 h =>
 vext x8 0 h fun x9 h =>
 vif x9 (
 vext x8 1 h fun x10 h =>
 vindex x0 x10 h fun x14 h =>
 vcall O x1 [x14] h 15 fun x15 h =>
 vop O (.un .not (.k x15)) h 16 fun x16 h =>
 vif x16 (
 tcomp x10 fun c0 => vfin true q [c0] h)
 (R 1 [x0, x1, x7] h))
 (R 2 [x0] h)
theorem e180_1 (O : Oracle) (R : Jump) (q : Nat) (x0 x1 x7 : TVal) (h : Heap) : b180_1 O R q x0 x1 x7 h = stepF c180 O R q 1 [x0, x1, x7] h := by kernel_rfl
def b180_2 (O : Oracle) (R : Jump) (q : Nat) (x0 : TVal) (h : Heap) : Res1 :=
 vlen O 0 x0 h 19 fun x19 h =>
 tcomp x19 fun c0 => vfin true q [c0] h
theorem e180_2 (O : Oracle) (R : Jump) (q : Nat) (x0 : TVal) (h : Heap) : b180_2 O R q x0 h = stepF c180 O R q 2 [x0] h := by kernel_rfl
def d180 : BlkF := fun O R Q => [.s fun a => .s fun b => .z (b180_0 O R Q a b), .s fun a => .s fun b => .s fun c => .z (b180_1 O R Q a b c), .s fun a => .z (b180_2 O R Q a)]
theorem o180 (O : Oracle) (R : Jump) (q : Nat) : HoldsAll c180 O R q 0 (d180 O R q) := ⟨e180_0 O R q, e180_1 O R q, e180_2 O R q, trivial⟩
def c181 : MFunc := mkM (compF Tryd.prog (globs2 tabs opq) (fun _ => false) true Tryd.f181) .n
def b181_0 (O : Oracle) (R : Jump) (q : Nat) (x0 : TVal) (h : Heap) : Res1 :=
 vcall O (.v (.c (.func 182 []))) [x0] h 4 fun x4 h =>
 vguard x4 false (fun kk => kk x0 h) h fun x6 h =>
 vguard x4 false (fun kk => vcall O (.v (.c (.func 174 []))) [x6] h 7 kk) h fun x7 h =>
 vop O (.pick (.k x4) (.k (kB true)) (.k x7)) h 8 fun x8 h =>
 tcomp x8 fun c0 => vfin true q [c0] h
theorem e181_0 (O : Oracle) (R : Jump) (q : Nat) (x0 : TVal) (h : Heap) : b181_0 O R q x0 h = stepF c181 O R q 0 [x0] h := by kernel_rfl
def d181 : BlkF := fun O R Q => [.s fun a => .z (b181_0 O R Q a)]
theorem o181 (O : Oracle) (R : Jump) (q : Nat) : HoldsAll c181 O R q 0 (d181 O R q) := ⟨e181_0 O R q, trivial⟩
def c182 : MFunc := mkM (compF Tryd.prog (globs2 tabs opq) (fun _ => false) true Tryd.f182) .n
def b182_0 (O : Oracle) (R : Jump) (q : Nat) (x0 : TVal) (h : Heap) : Res1 :=
 vbin .eql 0 x0 (.v (.c (.p (.int .u8 95)))) h fun x4 h =>
 vguard x4 false (fun kk => kk x0 h) h fun x6 h =>
 vguard x4 false (fun kk => vbin .or 0 x6 (.v (.c (.p (.int .u8 32)))) h kk) h fun x7 h =>
 vguard x4 false (fun kk => vbin .geq 0 x7 (.v (.c (.p (.int .u8 97)))) h kk) h fun x8 h =>
 vguard x4 false (fun kk => kk x8 h) h fun x9 h =>
 vguard x9 true (fun kk => kk x0 h) h fun x10 h =>
 vguard x9 true (fun kk => vbin .or 0 x10 (.v (.c (.p (.int .u8 32)))) h kk) h fun x11 h =>
 vguard x9 true (fun kk => vbin .leq 0 x11 (.v (.c (.p (.int .u8 122)))) h kk) h fun x12 h =>
 vguard x4 false (fun kk => vop O (.pick (.k x9) (.k x12) (.k (kB false))) h 13 kk) h fun x13 h =>
 vop O (.pick (.k x4) (.k (kB true)) (.k x13)) h 14 fun x14 h =>
 tcomp x14 fun c0 => vfin true q [c0] h
theorem e182_0 (O : Oracle) (R : Jump) (q : Nat) (x0 : TVal) (h : Heap) : b182_0 O R q x0 h = stepF c182 O R q 0 [x0] h := by kernel_rfl
def d182 : BlkF := fun O R Q => [.s fun a => .z (b182_0 O R Q a)]
theorem o182 (O : Oracle) (R : Jump) (q : Nat) : HoldsAll c182 O R q 0 (d182 O R q) := ⟨e182_0 O R q, trivial⟩
def c184 : MFunc := mkM (compF Tryd.prog (globs2 tabs opq) (fun _ => false) true Tryd.f184) .n
def b184_0 (O : Oracle) (R : Jump) (q : Nat) (x0 : TVal) (h : Heap) : Res1 :=
 vbin .lss 0 x0 (kI 10) h fun x4 h =>
 vif x4 (
 vbin .add 0 x0 (kI 1) h fun x7 h =>
 vop O (.slice 0 true (.k (kS [48, 49, 50, 51, 52, 53, 54, 55, 56, 57, 97, 98, 99, 100, 101, 102, 103, 104, 105, 106, 107, 108, 109, 110, 111, 112, 113, 114, 115, 116, 117, 118, 119, 120, 121, 122])) (some (.k x0)) (some (.k x7)) none) h 8 fun x8 h =>
 tcomp x8 fun c0 => vfin true q [c0] h)
 (vbin .mul 0 x0 (kI 2) h fun x10 h =>
 vbin .mul 0 x0 (kI 2) h fun x12 h =>
 vbin .add 0 x12 (kI 2) h fun x13 h =>
 vop O (.slice 0 true (.k (kS z53fdd7c2)) (some (.k x10)) (some (.k x13)) none) h 14 fun x14 h =>
 tcomp x14 fun c0 => vfin true q [c0] h)
theorem e184_0 (O : Oracle) (R : Jump) (q : Nat) (x0 : TVal) (h : Heap) : b184_0 O R q x0 h = stepF c184 O R q 0 [x0] h := by kernel_rfl
def d184 : BlkF := fun O R Q => [.s fun a => .z (b184_0 O R Q a)]
theorem o184 (O : Oracle) (R : Jump) (q : Nat) : HoldsAll c184 O R q 0 (d184 O R q) := ⟨e184_0 O R q, trivial⟩
def c185 : MFunc := mkM (compF Tryd.prog (globs2 tabs opq) (fun _ => false) true Tryd.f185) .n
def b185_0 (O : Oracle) (R : Jump) (q : Nat) (x0 : TVal) (h : Heap) : Res1 :=
 vcall O (.v (.c (.func 193 []))) [x0] h 5 fun x5 h =>
 vcall O (.v (.c (.func 192 []))) [x5] h 6 fun x6 h =>
 vop O (.iaddrA 20 1 (.k (.v (.c (.p (.pptr [(.int .u64 1), (.int .u64 10), (.int .u64 100), (.int .u64 1000), (.int .u64 10000), (.int .u64 100000), (.int .u64 1000000), (.int .u64 10000000), (.int .u64 100000000), (.int .u64 1000000000), (.int .u64 10000000000), (.int .u64 100000000000), (.int .u64 1000000000000), (.int .u64 10000000000000), (.int .u64 100000000000000), (.int .u64 1000000000000000), (.int .u64 10000000000000000), (.int .u64 100000000000000000), (.int .u64 1000000000000000000), (.int .u64 10000000000000000000)] 0))))) (.k x6)) h 10 fun x10 h =>
 vload false 1 x10 h fun x11 h =>
 vbin .geq 0 x0 x11 h fun x12 h =>
 vcall O (.v (.c (.func 194 []))) [x12] h 13 fun x13 h =>
 vbin .add 0 x6 x13 h fun x14 h =>
 tcomp x14 fun c0 => vfin true q [c0] h
theorem e185_0 (O : Oracle) (R : Jump) (q : Nat) (x0 : TVal) (h : Heap) : b185_0 O R q x0 h = stepF c185 O R q 0 [x0] h := by kernel_rfl
def d185 : BlkF := fun O R Q => [.s fun a => .z (b185_0 O R Q a)]
theorem o185 (O : Oracle) (R : Jump) (q : Nat) : HoldsAll c185 O R q 0 (d185 O R q) := ⟨e185_0 O R q, trivial⟩
def c186 : MFunc := mkM (compF Tryd.prog (globs2 tabs opq) (fun _ => false) true Tryd.f186) (.s .n (.s (.k (.l 1 [0, 1, 4] .n)) (.m 2 [0, 1, 4] (.s .n (.s .n (.m 3 [0, 4, 12] (.s .n (.m 4 [0, 4, 12] .n))))))))
def b186_0 (O : Oracle) (R : Jump) (q : Nat) (x0 x1 : TVal) (h : Heap) : Res1 :=
 vlen O 2 x0 h 18 fun x18 h =>
 R 1 [x0, x1, x18] h
theorem e186_0 (O : Oracle) (R : Jump) (q : Nat) (x0 x1 : TVal) (h : Heap) : b186_0 O R q x0 x1 h = stepF c186 O R q 0 [x0, x1] h := by kernel_rfl
def b186_1 (O : Oracle) (R : Jump) (q : Nat) (x0 x1 x4 : TVal) (h : Heap) : Res1 :=
 vbin .geq 0 x4 (kI 8) h fun x20 h =>
 vif x20 (
 vbin .rem 0 x1 (.v (.c (.p (.int .u64 100000000)))) h fun x22 h =>
 vtoInt .u32 x22 h fun x23 h =>
 vbin .quo 0 x1 (.v (.c (.p (.int .u64 100000000)))) h fun x25 h =>
 vbin .quo 0 x23 (.v (.c (.p (.int .u32 10000)))) h fun x27 h =>
 vbin .rem 0 x23 (.v (.c (.p (.int .u32 10000)))) h fun x29 h =>
 vbin .quo 0 x29 (.v (.c (.p (.int .u32 100)))) h fun x31 h =>
 vbin .mul 0 x31 (.v (.c (.p (.int .u32 2)))) h fun x32 h =>
 vbin .rem 0 x29 (.v (.c (.p (.int .u32 100)))) h fun x34 h =>
 vbin .mul 0 x34 (.v (.c (.p (.int .u32 2)))) h fun x35 h =>
 vbin .quo 0 x27 (.v (.c (.p (.int .u32 100)))) h fun x37 h =>
 vbin .mul 0 x37 (.v (.c (.p (.int .u32 2)))) h fun x38 h =>
 vbin .rem 0 x27 (.v (.c (.p (.int .u32 100)))) h fun x40 h =>
 vbin .mul 0 x40 (.v (.c (.p (.int .u32 2)))) h fun x41 h =>
 vbin .sub 0 x4 (kI 1) h fun x44 h =>
 vbin .sub 0 x4 (kI 2) h fun x47 h =>
 vbin .add 0 x35 (.v (.c (.p (.int .u32 1)))) h fun x49 h =>
 vindex (kS z53fdd7c2) x49 h fun x50 h =>
 vindex (kS z53fdd7c2) x35 h fun x52 h =>
 viaddr 1 x0 x44 h fun x53 h =>
 vstore 1 x53 x50 h fun _ h =>
 viaddr 1 x0 x47 h fun x54 h =>
 vstore 1 x54 x52 h fun _ h =>
 vbin .sub 0 x4 (kI 3) h fun x57 h =>
 vbin .sub 0 x4 (kI 4) h fun x60 h =>
 vbin .add 0 x32 (.v (.c (.p (.int .u32 1)))) h fun x62 h =>
 vindex (kS z53fdd7c2) x62 h fun x63 h =>
 vindex (kS z53fdd7c2) x32 h fun x65 h =>
 viaddr 1 x0 x57 h fun x66 h =>
 vstore 1 x66 x63 h fun _ h =>
 viaddr 1 x0 x60 h fun x67 h =>
 vstore 1 x67 x65 h fun _ h =>
 vbin .sub 0 x4 (kI 5) h fun x70 h =>
 vbin .sub 0 x4 (kI 6) h fun x73 h =>
 vbin .add 0 x41 (.v (.c (.p (.int .u32 1)))) h fun x75 h =>
 vindex (kS z53fdd7c2) x75 h fun x76 h =>
 vindex (kS z53fdd7c2) x41 h fun x78 h =>
 viaddr 1 x0 x70 h fun x79 h =>
 vstore 1 x79 x76 h fun _ h =>
 viaddr 1 x0 x73 h fun x80 h =>
 vstore 1 x80 x78 h fun _ h =>
 vbin .sub 0 x4 (kI 7) h fun x83 h =>
 vbin .sub 0 x4 (kI 8) h fun x86 h =>
 vbin .add 0 x38 (.v (.c (.p (.int .u32 1)))) h fun x88 h =>
 vindex (kS z53fdd7c2) x88 h fun x89 h =>
 vindex (kS z53fdd7c2) x38 h fun x91 h =>
 viaddr 1 x0 x83 h fun x92 h =>
 vstore 1 x92 x89 h fun _ h =>
 viaddr 1 x0 x86 h fun x93 h =>
 vstore 1 x93 x91 h fun _ h =>
 vbin .sub 0 x4 (kI 8) h fun x95 h =>
 R 1 [x0, x25, x95] h)
 (R 2 [x0, x1, x4] h)
theorem e186_1 (O : Oracle) (R : Jump) (q : Nat) (x0 x1 x4 : TVal) (h : Heap) : b186_1 O R q x0 x1 x4 h = stepF c186 O R q 1 [x0, x1, x4] h := by kernel_rfl
def b186_2 (O : Oracle) (R : Jump) (q : Nat) (x0 x1 x4 : TVal) (h : Heap) : Res1 :=
 vtoInt .u32 x1 h fun x97 h =>
 vbin .geq 0 x4 (kI 4) h fun x99 h =>
 vif x99 (
 vbin .rem 0 x97 (.v (.c (.p (.int .u32 10000)))) h fun x101 h =>
 vbin .quo 0 x97 (.v (.c (.p (.int .u32 10000)))) h fun x103 h =>
 vbin .quo 0 x101 (.v (.c (.p (.int .u32 100)))) h fun x105 h =>
 vbin .mul 0 x105 (.v (.c (.p (.int .u32 2)))) h fun x106 h =>
 vbin .rem 0 x101 (.v (.c (.p (.int .u32 100)))) h fun x108 h =>
 vbin .mul 0 x108 (.v (.c (.p (.int .u32 2)))) h fun x109 h =>
 vbin .sub 0 x4 (kI 1) h fun x112 h =>
 vbin .sub 0 x4 (kI 2) h fun x115 h =>
 vbin .add 0 x109 (.v (.c (.p (.int .u32 1)))) h fun x117 h =>
 vindex (kS z53fdd7c2) x117 h fun x118 h =>
 vindex (kS z53fdd7c2) x109 h fun x120 h =>
 viaddr 1 x0 x112 h fun x121 h =>
 vstore 1 x121 x118 h fun _ h =>
 viaddr 1 x0 x115 h fun x122 h =>
 vstore 1 x122 x120 h fun _ h =>
 vbin .sub 0 x4 (kI 3) h fun x125 h =>
 vbin .sub 0 x4 (kI 4) h fun x128 h =>
 vbin .add 0 x106 (.v (.c (.p (.int .u32 1)))) h fun x130 h =>
 vindex (kS z53fdd7c2) x130 h fun x131 h =>
 vindex (kS z53fdd7c2) x106 h fun x133 h =>
 viaddr 1 x0 x125 h fun x134 h =>
 vstore 1 x134 x131 h fun _ h =>
 viaddr 1 x0 x128 h fun x135 h =>
 vstore 1 x135 x133 h fun _ h =>
 vbin .sub 0 x4 (kI 4) h fun x137 h =>
 R 3 [x0, x137, x103] h)
 (R 3 [x0, x4, x97] h)
theorem e186_2 (O : Oracle) (R : Jump) (q : Nat) (x0 x1 x4 : TVal) (h : Heap) : b186_2 O R q x0 x1 x4 h = stepF c186 O R q 2 [x0, x1, x4] h := by kernel_rfl
def b186_3 (O : Oracle) (R : Jump) (q : Nat) (x0 x4 x12 : TVal) (h : Heap) : Res1 :=
 vbin .geq 0 x4 (kI 2) h fun x139 h =>
 vif x139 (
 vbin .rem 0 x12 (.v (.c (.p (.int .u32 100)))) h fun x141 h =>
 vbin .mul 0 x141 (.v (.c (.p (.int .u32 2)))) h fun x142 h =>
 vbin .quo 0 x12 (.v (.c (.p (.int .u32 100)))) h fun x144 h =>
 vbin .sub 0 x4 (kI 1) h fun x147 h =>
 vbin .sub 0 x4 (kI 2) h fun x150 h =>
 vbin .add 0 x142 (.v (.c (.p (.int .u32 1)))) h fun x152 h =>
 vindex (kS z53fdd7c2) x152 h fun x153 h =>
 vindex (kS z53fdd7c2) x142 h fun x155 h =>
 viaddr 1 x0 x147 h fun x156 h =>
 vstore 1 x156 x153 h fun _ h =>
 viaddr 1 x0 x150 h fun x157 h =>
 vstore 1 x157 x155 h fun _ h =>
 vbin .sub 0 x4 (kI 2) h fun x159 h =>
 R 4 [x0, x159, x144] h)
 (R 4 [x0, x4, x12] h)
theorem e186_3 (O : Oracle) (R : Jump) (q : Nat) (x0 x4 x12 : TVal) (h : Heap) : b186_3 O R q x0 x4 x12 h = stepF c186 O R q 3 [x0, x4, x12] h := by kernel_rfl
def b186_4 (O : Oracle) (R : Jump) (q : Nat) (x0 x4 x12 : TVal) (h : Heap) : Res1 :=
 vbin .gtr 0 x4 (kI 0) h fun x161 h =>
 vif x161 (
 vbin .add 0 (.v (.c (.p (.int .u32 48)))) x12 h fun x164 h =>
 vtoInt .u8 x164 h fun x165 h =>
 viaddr 1 x0 (kI 0) h fun x166 h =>
 vstore 1 x166 x165 h fun _ h =>
 vfin true q [] h)
 (vfin true q [] h)
theorem e186_4 (O : Oracle) (R : Jump) (q : Nat) (x0 x4 x12 : TVal) (h : Heap) : b186_4 O R q x0 x4 x12 h = stepF c186 O R q 4 [x0, x4, x12] h := by kernel_rfl
def d186 : BlkF := fun O R Q => [.s fun a => .s fun b => .z (b186_0 O R Q a b), .s fun a => .s fun b => .s fun c => .z (b186_1 O R Q a b c), .s fun a => .s fun b => .s fun c => .z (b186_2 O R Q a b c), .s fun a => .s fun b => .s fun c => .z (b186_3 O R Q a b c), .s fun a => .s fun b => .s fun c => .z (b186_4 O R Q a b c)]
theorem o186 (O : Oracle) (R : Jump) (q : Nat) : HoldsAll c186 O R q 0 (d186 O R q) := ⟨e186_0 O R q, e186_1 O R q, e186_2 O R q, e186_3 O R q, e186_4 O R q, trivial⟩
def c192 : MFunc := mkM (compF Tryd.prog (globs2 tabs opq) (fun _ => false) true Tryd.f192) .n
def b192_0 (O : Oracle) (R : Jump) (q : Nat) (x0 : TVal) (h : Heap) : Res1 :=
 vbin .mul 0 x0 (kI 78913) h fun x4 h =>
 vbin .shr 0 x4 (.v (.c (.p (.int .u64 18)))) h fun x5 h =>
 tcomp x5 fun c0 => vfin true q [c0] h
theorem e192_0 (O : Oracle) (R : Jump) (q : Nat) (x0 : TVal) (h : Heap) : b192_0 O R q x0 h = stepF c192 O R q 0 [x0] h := by kernel_rfl
def d192 : BlkF := fun O R Q => [.s fun a => .z (b192_0 O R Q a)]
theorem o192 (O : Oracle) (R : Jump) (q : Nat) : HoldsAll c192 O R q 0 (d192 O R q) := ⟨e192_0 O R q, trivial⟩
def c193 : MFunc := mkM (compF Tryd.prog (globs2 tabs opq) (fun _ => false) true Tryd.f193) (.s .n (.s .n (.m 1 [0, 2] (.s .n (.m 2 [0, 2] (.s .n (.m 3 [0, 2] .n)))))))
def b193_0 (O : Oracle) (R : Jump) (q : Nat) (x0 : TVal) (h : Heap) : Res1 :=
 vbin .geq 0 x0 (.v (.c (.p (.int .u64 4294967296)))) h fun x4 h =>
 vif x4 (
 vbin .shr 0 x0 (.v (.c (.p (.int .u64 32)))) h fun x6 h =>
 R 1 [x6, (kI 32)] h)
 (R 1 [x0, (kI 0)] h)
theorem e193_0 (O : Oracle) (R : Jump) (q : Nat) (x0 : TVal) (h : Heap) : b193_0 O R q x0 h = stepF c193 O R q 0 [x0] h := by kernel_rfl
def b193_1 (O : Oracle) (R : Jump) (q : Nat) (x0 x2 : TVal) (h : Heap) : Res1 :=
 vbin .geq 0 x0 (.v (.c (.p (.int .u64 65536)))) h fun x8 h =>
 vif x8 (
 vbin .shr 0 x0 (.v (.c (.p (.int .u64 16)))) h fun x10 h =>
 vbin .add 0 x2 (kI 16) h fun x12 h =>
 R 2 [x10, x12] h)
 (R 2 [x0, x2] h)
theorem e193_1 (O : Oracle) (R : Jump) (q : Nat) (x0 x2 : TVal) (h : Heap) : b193_1 O R q x0 x2 h = stepF c193 O R q 1 [x0, x2] h := by kernel_rfl
def b193_2 (O : Oracle) (R : Jump) (q : Nat) (x0 x2 : TVal) (h : Heap) : Res1 :=
 vbin .geq 0 x0 (.v (.c (.p (.int .u64 256)))) h fun x14 h =>
 vif x14 (
 vbin .shr 0 x0 (.v (.c (.p (.int .u64 8)))) h fun x16 h =>
 vbin .add 0 x2 (kI 8) h fun x18 h =>
 R 3 [x16, x18] h)
 (R 3 [x0, x2] h)
theorem e193_2 (O : Oracle) (R : Jump) (q : Nat) (x0 x2 : TVal) (h : Heap) : b193_2 O R q x0 x2 h = stepF c193 O R q 2 [x0, x2] h := by kernel_rfl
def b193_3 (O : Oracle) (R : Jump) (q : Nat) (x0 x2 : TVal) (h : Heap) : Res1 :=
 vtoInt .u8 x0 h fun x21 h =>
 vindex (kS z0a4518d3) x21 h fun x22 h =>
 vtoInt .i64 x22 h fun x23 h =>
 vbin .add 0 x2 x23 h fun x24 h =>
 tcomp x24 fun c0 => vfin true q [c0] h
theorem e193_3 (O : Oracle) (R : Jump) (q : Nat) (x0 x2 : TVal) (h : Heap) : b193_3 O R q x0 x2 h = stepF c193 O R q 3 [x0, x2] h := by kernel_rfl
def d193 : BlkF := fun O R Q => [.s fun a => .z (b193_0 O R Q a), .s fun a => .s fun b => .z (b193_1 O R Q a b), .s fun a => .s fun b => .z (b193_2 O R Q a b), .s fun a => .s fun b => .z (b193_3 O R Q a b)]
theorem o193 (O : Oracle) (R : Jump) (q : Nat) : HoldsAll c193 O R q 0 (d193 O R q) := ⟨e193_0 O R q, e193_1 O R q, e193_2 O R q, e193_3 O R q, trivial⟩
def c194 : MFunc := mkM (compF Tryd.prog (globs2 tabs opq) (fun _ => false) true Tryd.f194) .n
def b194_0 (O : Oracle) (R : Jump) (q : Nat) (x0 : TVal) (h : Heap) : Res1 :=
 vif x0 (
 tcomp (kI 1) fun c0 => vfin true q [c0] h)
 (tcomp (kI 0) fun c0 => vfin true q [c0] h)
theorem e194_0 (O : Oracle) (R : Jump) (q : Nat) (x0 : TVal) (h : Heap) : b194_0 O R q x0 h = stepF c194 O R q 0 [x0] h := by kernel_rfl
def d194 : BlkF := fun O R Q => [.s fun a => .z (b194_0 O R Q a)]
theorem o194 (O : Oracle) (R : Jump) (q : Nat) : HoldsAll c194 O R q 0 (d194 O R q) := ⟨e194_0 O R q, trivial⟩
end
end Go.Proofs.YtlkejchbcchecaaDoor.Ab
