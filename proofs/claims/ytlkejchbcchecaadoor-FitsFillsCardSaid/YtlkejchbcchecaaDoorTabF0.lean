/- Functions of the given program as the abstract interpreter has them (part 0), printed by a program of our own; each is shown to be what 'compF' makes of the given program's. No condition. -/
import Derived.Test.YtlkejchbcchecaaDoorChecked
import Derived.Test.YtlkejchbcchecaaDoorAd
namespace Go.Proofs.YtlkejchbcchecaaDoor.Ab
open Go Go.AI
noncomputable section
set_option linter.all false
set_option linter.unusedVariables false
set_option maxRecDepth 100000
def z0a4518d3 : List UInt8 := [0, 1, 2, 2, 3, 3, 3, 3, 4, 4, 4, 4, 4, 4, 4, 4, 5, 5, 5, 5, 5, 5, 5, 5, 5, 5, 5, 5, 5, 5, 5, 5, 6, 6, 6, 6, 6, 6, 6, 6, 6, 6, 6, 6, 6, 6, 6, 6, 6, 6, 6, 6, 6, 6, 6, 6, 6, 6, 6, 6, 6, 6, 6, 6, 7, 7, 7, 7, 7, 7, 7, 7, 7, 7, 7, 7, 7, 7, 7, 7, 7, 7, 7, 7, 7, 7, 7, 7, 7, 7, 7, 7, 7, 7, 7, 7, 7, 7, 7, 7, 7, 7, 7, 7, 7, 7, 7, 7, 7, 7, 7, 7, 7, 7, 7, 7, 7, 7, 7, 7, 7, 7, 7, 7, 7, 7, 7, 7, 8, 8, 8, 8, 8, 8, 8, 8, 8, 8, 8, 8, 8, 8, 8, 8, 8, 8, 8, 8, 8, 8, 8, 8, 8, 8, 8, 8, 8, 8, 8, 8, 8, 8, 8, 8, 8, 8, 8, 8, 8, 8, 8, 8, 8, 8, 8, 8, 8, 8, 8, 8, 8, 8, 8, 8, 8, 8, 8, 8, 8, 8, 8, 8, 8, 8, 8, 8, 8, 8, 8, 8, 8, 8, 8, 8, 8, 8, 8, 8, 8, 8, 8, 8, 8, 8, 8, 8, 8, 8, 8, 8, 8, 8, 8, 8, 8, 8, 8, 8, 8, 8, 8, 8, 8, 8, 8, 8, 8, 8, 8, 8, 8, 8, 8, 8, 8, 8, 8, 8, 8, 8, 8, 8, 8, 8, 8, 8]
def z53fdd7c2 : List UInt8 := [48, 48, 48, 49, 48, 50, 48, 51, 48, 52, 48, 53, 48, 54, 48, 55, 48, 56, 48, 57, 49, 48, 49, 49, 49, 50, 49, 51, 49, 52, 49, 53, 49, 54, 49, 55, 49, 56, 49, 57, 50, 48, 50, 49, 50, 50, 50, 51, 50, 52, 50, 53, 50, 54, 50, 55, 50, 56, 50, 57, 51, 48, 51, 49, 51, 50, 51, 51, 51, 52, 51, 53, 51, 54, 51, 55, 51, 56, 51, 57, 52, 48, 52, 49, 52, 50, 52, 51, 52, 52, 52, 53, 52, 54, 52, 55, 52, 56, 52, 57, 53, 48, 53, 49, 53, 50, 53, 51, 53, 52, 53, 53, 53, 54, 53, 55, 53, 56, 53, 57, 54, 48, 54, 49, 54, 50, 54, 51, 54, 52, 54, 53, 54, 54, 54, 55, 54, 56, 54, 57, 55, 48, 55, 49, 55, 50, 55, 51, 55, 52, 55, 53, 55, 54, 55, 55, 55, 56, 55, 57, 56, 48, 56, 49, 56, 50, 56, 51, 56, 52, 56, 53, 56, 54, 56, 55, 56, 56, 56, 57, 57, 48, 57, 49, 57, 50, 57, 51, 57, 52, 57, 53, 57, 54, 57, 55, 57, 56, 57, 57]
def zf6113985 : List UInt8 := [100, 97, 116, 97, 32, 76, 105, 115, 116, 60, 123, 97, 58, 32, 79, 112, 116, 60, 73, 110, 116, 62, 44, 32, 98, 58, 32, 73, 110, 116, 44, 32, 99, 58, 32, 79, 112, 116, 60, 77, 97, 112, 60, 123, 100, 58, 32, 79, 112, 116, 60, 66, 111, 111, 108, 62, 125, 62, 62, 125, 62, 59]
def tabs : List Tabl := []
def opq : Option Nat := some 0
def c4 : MFunc := mkM (compF Tryd.prog (globs2 tabs opq) (fun _ => false) true Tryd.f4) (.s .n (.s .n (.s .n (.s .n (.s (.s .n (.k (.l 1 [0, 3, 4, 5, 6, 7] (.s .n (.s (.k (.s .n (.m 2 [0, 3, 4, 5, 6, 7] (.s .n (.s .n (.s .n (.m 3 [0, 3, 4, 5, 6, 7, 8, 9, 10] (.s .n (.s .n (.m 4 [0, 3, 4, 5, 6, 7, 9, 10, 11, 12] .n)))))))))) .n))))) (.m 5 [3, 4, 5, 6] .n))))))
def b4_0 (O : Oracle) (R : Jump) (q : Nat) (x0 : TVal) (h : Heap) : Res1 :=
 vcall O (.v (.c (.func 13 []))) [] h 17 fun x17 h =>
 vop O (.un .not (.k x17)) h 18 fun x18 h =>
 vif x18 (
 tcomp (kB false) fun c0 => vfin true q [c0] h)
 (vcall O (.v (.c (.func 18 []))) [(kS zf6113985)] h 20 fun x20 h =>
 vext x20 0 h fun x21 h =>
 vext x20 1 h fun x22 h =>
 vop O (.alloc [(.p (.int .i64 0)), (.p (.str [])), (.p .nilslice), (.p .nilslice), (.p .nilslice), (.p .nilslice)] false) h 3 fun x3 h =>
 vstore 6 x3 x21 h fun _ h =>
 R 1 [x0, x3, x22, (kS [91]), (kS [91]), (kI 0)] h)
theorem e4_0 (O : Oracle) (R : Jump) (q : Nat) (x0 : TVal) (h : Heap) : b4_0 O R q x0 h = stepF c4 O R q 0 [x0] h := by kernel_rfl
def b4_1 (O : Oracle) (R : Jump) (q : Nat) (x0 x3 x4 x5 x6 x7 : TVal) (h : Heap) : Res1 :=
 vlen O 2 x0 h 25 fun x25 h =>
 vbin .lss 0 x7 x25 h fun x26 h =>
 vguard x26 true (fun kk => kk x7 h) h fun x28 h =>
 vguard x26 true (fun kk => vbin .lss 0 x28 (kI 10) h kk) h fun x29 h =>
 vop O (.pick (.k x26) (.k x29) (.k (kB false))) h 30 fun x30 h =>
 vif x30 (
 vbin .gtr 0 x7 (kI 0) h fun x34 h =>
 vif x34 (
 vbin .add 0 x5 (kS [44]) h fun x36 h =>
 vbin .add 0 x6 (kS [44]) h fun x38 h =>
 R 2 [x0, x3, x4, x36, x38, x7] h)
 (R 2 [x0, x3, x4, x5, x6, x7] h))
 (R 5 [x3, x4, x5, x6] h)
theorem e4_1 (O : Oracle) (R : Jump) (q : Nat) (x0 x3 x4 x5 x6 x7 : TVal) (h : Heap) : b4_1 O R q x0 x3 x4 x5 x6 x7 h = stepF c4 O R q 1 [x0, x3, x4, x5, x6, x7] h := by kernel_rfl
def b4_2 (O : Oracle) (R : Jump) (q : Nat) (x0 x3 x4 x5 x6 x7 : TVal) (h : Heap) : Res1 :=
 viaddr 1 x0 x7 h fun x41 h =>
 vload false 1 x41 h fun x42 h =>
 vcall O (.v (.c (.func 14 []))) [x42, (kI 8)] h 43 fun x43 h =>
 vbin .rem 0 x43 (kI 2) h fun x45 h =>
 vbin .eql 0 x45 (kI 1) h fun x46 h =>
 vif x46 (
 R 3 [x0, x3, x4, x5, x6, x7, x43, (kS [34, 97, 34, 58, 53, 44]), (kS [34, 97, 34, 58, 53, 44])] h)
 (R 3 [x0, x3, x4, x5, x6, x7, x43, (kS []), (kS [34, 97, 34, 58, 110, 117, 108, 108, 44])] h)
theorem e4_2 (O : Oracle) (R : Jump) (q : Nat) (x0 x3 x4 x5 x6 x7 : TVal) (h : Heap) : b4_2 O R q x0 x3 x4 x5 x6 x7 h = stepF c4 O R q 2 [x0, x3, x4, x5, x6, x7] h := by kernel_rfl
def b4_3 (O : Oracle) (R : Jump) (q : Nat) (x0 x3 x4 x5 x6 x7 x8 x9 x10 : TVal) (h : Heap) : Res1 :=
 vbin .quo 0 x8 (kI 2) h fun x48 h =>
 vbin .rem 0 x48 (kI 2) h fun x49 h =>
 vbin .eql 0 x49 (kI 1) h fun x50 h =>
 vif x50 (
 R 4 [x0, x3, x4, x5, x6, x7, x9, x10, (kS [44, 34, 99, 34, 58, 123, 34, 107, 34, 58, 123, 125, 125]), (kS [44, 34, 99, 34, 58, 123, 34, 107, 34, 58, 123, 34, 100, 34, 58, 110, 117, 108, 108, 125, 125])] h)
 (R 4 [x0, x3, x4, x5, x6, x7, x9, x10, (kS []), (kS [44, 34, 99, 34, 58, 110, 117, 108, 108])] h)
theorem e4_3 (O : Oracle) (R : Jump) (q : Nat) (x0 x3 x4 x5 x6 x7 x8 x9 x10 : TVal) (h : Heap) : b4_3 O R q x0 x3 x4 x5 x6 x7 x8 x9 x10 h = stepF c4 O R q 3 [x0, x3, x4, x5, x6, x7, x8, x9, x10] h := by kernel_rfl
def b4_4 (O : Oracle) (R : Jump) (q : Nat) (x0 x3 x4 x5 x6 x7 x9 x10 x11 x12 : TVal) (h : Heap) : Res1 :=
 vbin .add 0 x5 (kS [123]) h fun x52 h =>
 vbin .add 0 x52 x9 h fun x54 h =>
 vbin .add 0 x54 (kS [34, 98, 34, 58, 49]) h fun x55 h =>
 vbin .add 0 x55 x11 h fun x57 h =>
 vbin .add 0 x57 (kS [125]) h fun x58 h =>
 vbin .add 0 x6 (kS [123]) h fun x60 h =>
 vbin .add 0 x60 x10 h fun x62 h =>
 vbin .add 0 x62 (kS [34, 98, 34, 58, 49]) h fun x63 h =>
 vbin .add 0 x63 x12 h fun x65 h =>
 vbin .add 0 x65 (kS [125]) h fun x66 h =>
 vbin .add 0 x7 (kI 1) h fun x32 h =>
 R 1 [x0, x3, x4, x58, x66, x32] h
theorem e4_4 (O : Oracle) (R : Jump) (q : Nat) (x0 x3 x4 x5 x6 x7 x9 x10 x11 x12 : TVal) (h : Heap) : b4_4 O R q x0 x3 x4 x5 x6 x7 x9 x10 x11 x12 h = stepF c4 O R q 4 [x0, x3, x4, x5, x6, x7, x9, x10, x11, x12] h := by kernel_rfl
def b4_5 (O : Oracle) (R : Jump) (q : Nat) (x3 x4 x5 x6 : TVal) (h : Heap) : Res1 :=
 vbin .add 0 x5 (kS [93]) h fun x69 h =>
 vcall O (.v (.c (.func 19 []))) [x69] h 70 fun x70 h =>
 vext x70 0 h fun x71 h =>
 vext x70 1 h fun x72 h =>
 vop O (.alloc [(.p (.int .i64 0)), (.p (.bool false)), (.p (.int .i64 0)), (.p (.str [])), (.p .nilslice), (.p .nilslice)] false) h 13 fun x13 h =>
 vstore 6 x13 x71 h fun _ h =>
 vload true 6 x3 h fun x74 h =>
 vfaddr 0 x3 h fun x75 h =>
 vload true 4 x75 h fun x76 h =>
 vload true 6 x13 h fun x77 h =>
 vcall O (.v (.c (.func 20 []))) [x74, x76, x77] h 78 fun x78 h =>
 vext x78 0 h fun x79 h =>
 vext x78 1 h fun x80 h =>
 vop O (.alloc [(.p (.int .i64 0)), (.p (.bool false)), (.p (.int .i64 0)), (.p (.str [])), (.p .nilslice), (.p .nilslice)] false) h 15 fun x15 h =>
 vstore 6 x15 x79 h fun _ h =>
 vbin .eql 0 x4 (kI 0) h fun x82 h =>
 vguard x82 true (fun kk => kk x72 h) h fun x84 h =>
 vguard x82 true (fun kk => vbin .eql 0 x84 (kI 0) h kk) h fun x85 h =>
 vop O (.pick (.k x82) (.k x85) (.k (kB false))) h 86 fun x86 h =>
 vguard x86 true (fun kk => kk x80 h) h fun x88 h =>
 vguard x86 true (fun kk => vbin .eql 0 x88 (kI 0) h kk) h fun x89 h =>
 vop O (.pick (.k x86) (.k x89) (.k (kB false))) h 90 fun x90 h =>
 vguard x90 true (fun kk => vload true 6 x15 h kk) h fun x92 h =>
 vguard x90 true (fun kk => vcall O (.v (.c (.func 21 []))) [x92] h 93 kk) h fun x93 h =>
 vguard x90 true (fun kk => kk x6 h) h fun x94 h =>
 vguard x90 true (fun kk => vbin .add 0 x94 (kS [93]) h kk) h fun x95 h =>
 vguard x90 true (fun kk => vbin .eql 0 x93 x95 h kk) h fun x96 h =>
 vop O (.pick (.k x90) (.k x96) (.k (kB false))) h 97 fun x97 h =>
 tcomp x97 fun c0 => vfin true q [c0] h
theorem e4_5 (O : Oracle) (R : Jump) (q : Nat) (x3 x4 x5 x6 : TVal) (h : Heap) : b4_5 O R q x3 x4 x5 x6 h = stepF c4 O R q 5 [x3, x4, x5, x6] h := by kernel_rfl
def d4 : BlkF := fun O R Q => [.s fun a => .z (b4_0 O R Q a), .s fun a => .s fun b => .s fun c => .s fun d => .s fun e => .s fun f => .z (b4_1 O R Q a b c d e f), .s fun a => .s fun b => .s fun c => .s fun d => .s fun e => .s fun f => .z (b4_2 O R Q a b c d e f), .s fun a => .s fun b => .s fun c => .s fun d => .s fun e => .s fun f => .s fun g => .s fun h => .s fun i => .z (b4_3 O R Q a b c d e f g h i), .s fun a => .s fun b => .s fun c => .s fun d => .s fun e => .s fun f => .s fun g => .s fun h => .s fun i => .s fun j => .z (b4_4 O R Q a b c d e f g h i j), .s fun a => .s fun b => .s fun c => .s fun d => .z (b4_5 O R Q a b c d)]
theorem o4 (O : Oracle) (R : Jump) (q : Nat) : HoldsAll c4 O R q 0 (d4 O R q) := ⟨e4_0 O R q, e4_1 O R q, e4_2 O R q, e4_3 O R q, e4_4 O R q, e4_5 O R q, trivial⟩
def c13 : MFunc := mkM (compF Tryd.prog (globs2 tabs opq) (fun _ => false) true Tryd.f13) .n
def b13_0 (O : Oracle) (R : Jump) (q : Nat) (h : Heap) : Res1 :=
 vop O (.bslice 1 1 [(.p (.str []))] [(0, (.k (kS [97])))] false) h 5 fun x5 h =>
 vop O (.build [(.p (.int .i64 0)), (.p (.str [])), (.p .nilslice), (.p .nilslice)] [(0, 1, (.k (kI 2)))]) h 6 fun x6 h =>
 vop O (.bslice 4 1 [(.p (.int .i64 0)), (.p (.str [])), (.p .nilslice), (.p .nilslice)] [(0, (.k x6))] false) h 7 fun x7 h =>
 vop O (.build [(.p (.int .i64 0)), (.p (.str [])), (.p .nilslice), (.p .nilslice)] [(0, 1, (.k (kI 4))), (3, 1, (.k x7))]) h 8 fun x8 h =>
 vop O (.bslice 4 1 [(.p (.int .i64 0)), (.p (.str [])), (.p .nilslice), (.p .nilslice)] [(0, (.k x8))] false) h 9 fun x9 h =>
 vop O (.build [(.p (.int .i64 0)), (.p (.str [])), (.p .nilslice), (.p .nilslice)] [(0, 1, (.k (kI 7))), (2, 1, (.k x5)), (3, 1, (.k x9))]) h 10 fun x10 h =>
 vop O (.build [(.p (.int .i64 0)), (.p (.str [])), (.p .nilslice), (.p .nilslice), (.p .nilslice), (.p .nilslice)] [(0, 4, (.k x10))]) h 11 fun x11 h =>
 vop O (.alloc [(.p (.int .i64 0)), (.p (.str [])), (.p .nilslice), (.p .nilslice), (.p .nilslice), (.p .nilslice)] false) h 1 fun x1 h =>
 vstore 6 x1 x11 h fun _ h =>
 vop O (.bslice 1 1 [(.p (.str []))] [(0, (.k (kS [97])))] false) h 12 fun x12 h =>
 vop O (.build [(.p (.int .i64 0)), (.p (.bool false)), (.p (.int .i64 0)), (.p (.str [])), (.p .nilslice), (.p .nilslice)] [(0, 1, (.k (kI 2)))]) h 13 fun x13 h =>
 vop O (.build [(.p (.int .i64 0)), (.p (.bool false)), (.p (.int .i64 0)), (.p (.str [])), (.p .nilslice), (.p .nilslice)] [(0, 1, (.k (kI 3)))]) h 14 fun x14 h =>
 vop O (.bslice 6 2 [(.p (.int .i64 0)), (.p (.bool false)), (.p (.int .i64 0)), (.p (.str [])), (.p .nilslice), (.p .nilslice)] [(0, (.k x13)), (1, (.k x14))] false) h 15 fun x15 h =>
 vop O (.build [(.p (.int .i64 0)), (.p (.bool false)), (.p (.int .i64 0)), (.p (.str [])), (.p .nilslice), (.p .nilslice)] [(0, 1, (.k (kI 4))), (5, 1, (.k x15))]) h 16 fun x16 h =>
 vop O (.bslice 6 1 [(.p (.int .i64 0)), (.p (.bool false)), (.p (.int .i64 0)), (.p (.str [])), (.p .nilslice), (.p .nilslice)] [(0, (.k x16))] false) h 17 fun x17 h =>
 vop O (.build [(.p (.int .i64 0)), (.p (.bool false)), (.p (.int .i64 0)), (.p (.str [])), (.p .nilslice), (.p .nilslice)] [(0, 1, (.k (kI 5))), (4, 1, (.k x12)), (5, 1, (.k x17))]) h 18 fun x18 h =>
 vop O (.alloc [(.p (.int .i64 0)), (.p (.bool false)), (.p (.int .i64 0)), (.p (.str [])), (.p .nilslice), (.p .nilslice)] false) h 2 fun x2 h =>
 vstore 6 x2 x18 h fun _ h =>
 vload true 6 x1 h fun x20 h =>
 vfaddr 0 x1 h fun x21 h =>
 vload true 4 x21 h fun x22 h =>
 vload true 6 x2 h fun x23 h =>
 vcall O (.v (.c (.func 17 []))) [x20, x22, x23] h 24 fun x24 h =>
 vext x24 0 h fun x25 h =>
 vext x24 1 h fun x26 h =>
 vbin .eql 0 x26 (kI 31) h fun x28 h =>
 vguard x28 true (fun kk => kk x25 h) h fun x30 h =>
 vguard x28 true (fun kk => vbin .eql 0 x30 (kS [46, 97, 91, 49, 93]) h kk) h fun x31 h =>
 vop O (.pick (.k x28) (.k x31) (.k (kB false))) h 32 fun x32 h =>
 tcomp x32 fun c0 => vfin true q [c0] h
theorem e13_0 (O : Oracle) (R : Jump) (q : Nat) (h : Heap) : b13_0 O R q  h = stepF c13 O R q 0 [] h := by kernel_rfl
def d13 : BlkF := fun O R Q => [.z (b13_0 O R Q )]
theorem o13 (O : Oracle) (R : Jump) (q : Nat) : HoldsAll c13 O R q 0 (d13 O R q) := ⟨e13_0 O R q, trivial⟩
def c14 : MFunc := mkM (compF Tryd.prog (globs2 tabs opq) (fun _ => false) true Tryd.f14) .n
def b14_0 (O : Oracle) (R : Jump) (q : Nat) (x0 x1 : TVal) (h : Heap) : Res1 :=
 vbin .rem 0 x0 x1 h fun x8 h =>
 vbin .lss 0 x8 (kI 0) h fun x10 h =>
 vif x10 (
 vbin .add 0 x8 x1 h fun x13 h =>
 tcomp x13 fun c0 => vfin true q [c0] h)
 (tcomp x8 fun c0 => vfin true q [c0] h)
theorem e14_0 (O : Oracle) (R : Jump) (q : Nat) (x0 x1 : TVal) (h : Heap) : b14_0 O R q x0 x1 h = stepF c14 O R q 0 [x0, x1] h := by kernel_rfl
def d14 : BlkF := fun O R Q => [.s fun a => .s fun b => .z (b14_0 O R Q a b)]
theorem o14 (O : Oracle) (R : Jump) (q : Nat) : HoldsAll c14 O R q 0 (d14 O R q) := ⟨e14_0 O R q, trivial⟩
def c16 : MFunc := mkM (compF Tryd.prog (globs2 tabs opq) (fun _ => false) true Tryd.f16) .n
def b16_0 (O : Oracle) (R : Jump) (q : Nat) (x0 : TVal) (h : Heap) : Res1 :=
 vop O (.box (.k x0) false) h 1 fun x1 h =>
 vop O (.build [(.p (.int .i64 0))] []) h 4 fun x4 h =>
 vop O (.box (.k x4) false) h 5 fun x5 h =>
 vload true 6 x1 h fun x7 h =>
 vcall O (.v (.c (.func 56 []))) [x5, x7, (kI 1)] h 8 fun x8 h =>
 tcomp x8 fun c0 => vfin true q [c0] h
theorem e16_0 (O : Oracle) (R : Jump) (q : Nat) (x0 : TVal) (h : Heap) : b16_0 O R q x0 h = stepF c16 O R q 0 [x0] h := by kernel_rfl
def d16 : BlkF := fun O R Q => [.s fun a => .z (b16_0 O R Q a)]
theorem o16 (O : Oracle) (R : Jump) (q : Nat) : HoldsAll c16 O R q 0 (d16 O R q) := ⟨e16_0 O R q, trivial⟩
def c17 : MFunc := mkM (compF Tryd.prog (globs2 tabs opq) (fun _ => false) true Tryd.f17) .n
def b17_0 (O : Oracle) (R : Jump) (q : Nat) (x0 x1 x2 : TVal) (h : Heap) : Res1 :=
 vop O (.box (.k x0) false) h 3 fun x3 h =>
 vop O (.box (.k x1) false) h 4 fun x4 h =>
 vop O (.box (.k x2) false) h 5 fun x5 h =>
 vtouch O (.load true 6 (.k x3)) h 11 fun x11 h t0 =>
 vtouch O (.call (.k (.v (.c (.func 57 [])))) [(.k x11)]) h 12 fun x12 h t1 =>
 vtouch O (.load true 4 (.k x4)) h 13 fun x13 h t2 =>
 vtouch O (.load true 6 (.k x5)) h 14 fun x14 h t3 =>
 vtouch O (.call (.k (.v (.c (.func 58 [])))) [(.k x12), (.k x13), (.k x14)]) h 15 fun x15 h t4 =>
 vtouch O (.mv (.k x15)) h 10 fun x10 h t5 =>
 vtouch O (.extract (.k x10) 0) h 16 fun x16 h t6 =>
 vtouch O (.extract (.k x10) 1) h 17 fun x17 h t7 =>
 vtouch O (.mv (.k x16)) h 8 fun x8 h t8 =>
 vtouch O (.mv (.k x17)) h 9 fun x9 h t9 =>
 bif apartAll [t0, t1, t2, t3, t4, t5, t6, t7, t8, t9] [(1, 2), (1, 3)] then
 vop O (.un .not (.k x9)) h 19 fun x19 h =>
 vif x19 (
 tcomp x8 fun c0 => tcomp (kI 31) fun c1 => vfin true q [c0, c1] h)
 (tcomp (kS []) fun c0 => tcomp (kI 0) fun c1 => vfin true q [c0, c1] h)
 else none
theorem e17_0 (O : Oracle) (R : Jump) (q : Nat) (x0 x1 x2 : TVal) (h : Heap) : b17_0 O R q x0 x1 x2 h = stepF c17 O R q 0 [x0, x1, x2] h := by kernel_rfl
def d17 : BlkF := fun O R Q => [.s fun a => .s fun b => .s fun c => .z (b17_0 O R Q a b c)]
theorem o17 (O : Oracle) (R : Jump) (q : Nat) : HoldsAll c17 O R q 0 (d17 O R q) := ⟨e17_0 O R q, trivial⟩
def c18 : MFunc := mkM (compF Tryd.prog (globs2 tabs opq) (fun _ => false) true Tryd.f18) (.s .n (.s .n (.s .n (.s .n (.s .n (.s .n (.s .n (.s (.k (.l 1 [2, 6, 7] (.s .n (.k (.s (.s .n (.s (.s .n (.s .n (.s .n (.s (.k (.l 2 [2, 6, 7, 8, 9] .n)) (.m 3 [2, 6, 7, 8, 9] .n))))) .n)) (.m 4 [2, 6, 7] (.s .n (.s .n (.s .n (.s .n (.s .n (.s .n (.s (.k (.l 5 [2, 6, 7, 11, 12] .n)) (.m 6 [2, 6, 7, 11, 12] .n)))))))))))))) (.m 7 [2, 6, 7] .n)))))))))
def b18_0 (O : Oracle) (R : Jump) (q : Nat) (x0 : TVal) (h : Heap) : Res1 :=
 vop O (.alloc [(.p (.int .i64 0)), (.p (.str [])), (.p .nilslice), (.p .nilslice), (.p .nilslice), (.p .nilslice)] false) h 2 fun x2 h =>
 vcall O (.v (.c (.func 59 []))) [x0] h 16 fun x16 h =>
 vext x16 0 h fun x17 h =>
 vext x16 1 h fun x18 h =>
 vbin .neq 0 x18 (kI 0) h fun x20 h =>
 vif x20 (
 vop O (.build [(.p (.int .i64 0)), (.p (.str [])), (.p .nilslice), (.p .nilslice), (.p .nilslice), (.p .nilslice)] []) h 21 fun x21 h =>
 vstore 6 x2 x21 h fun _ h =>
 vcell true 6 x2 h fun c0 => tcomp x18 fun c1 => vfin true q [c0, c1] h)
 (vop O (.build [(.p .nilslice), (.p (.int .i64 0)), (.p (.int .i64 0)), (.p (.bool false))] [(0, 1, (.k x17))]) h 24 fun x24 h =>
 vop O (.box (.k x24) false) h 25 fun x25 h =>
 vcall O (.v (.c (.func 60 []))) [x25, (kS [100, 97, 116, 97])] h 27 fun x27 h =>
 vcall O (.v (.c (.func 61 []))) [x25, (kI 1)] h 29 fun x29 h =>
 vop O (.build [(.p (.int .i64 0)), (.p (.str [])), (.p .nilslice), (.p .nilslice), (.p .nilslice), (.p .nilslice)] [(0, 4, (.k x29))]) h 30 fun x30 h =>
 vop O (.alloc [(.p (.int .i64 0)), (.p (.str [])), (.p .nilslice), (.p .nilslice), (.p .nilslice), (.p .nilslice)] false) h 7 fun x7 h =>
 vstore 6 x7 x30 h fun _ h =>
 vcall O (.v (.c (.func 60 []))) [x25, (kS [59])] h 32 fun x32 h =>
 R 1 [x2, x25, x7] h)
theorem e18_0 (O : Oracle) (R : Jump) (q : Nat) (x0 : TVal) (h : Heap) : b18_0 O R q x0 h = stepF c18 O R q 0 [x0] h := by kernel_rfl
def b18_1 (O : Oracle) (R : Jump) (q : Nat) (x2 x6 x7 : TVal) (h : Heap) : Res1 :=
 vop O (.nilck (.k x6)) h 34 fun x34 h =>
 vfaddr 2 x34 h fun x35 h =>
 vload false 1 x35 h fun x36 h =>
 vbin .eql 0 x36 (kI 0) h fun x37 h =>
 vguard x37 true (fun kk => kk x6 h) h fun x39 h =>
 vguard x37 true (fun kk => vop O (.nilck (.k x39)) h 40 kk) h fun x40 h =>
 vguard x37 true (fun kk => vfaddr 1 x40 h kk) h fun x41 h =>
 vguard x37 true (fun kk => vload false 1 x41 h kk) h fun x42 h =>
 vguard x37 true (fun kk => kk x6 h) h fun x43 h =>
 vguard x37 true (fun kk => vop O (.nilck (.k x43)) h 44 kk) h fun x44 h =>
 vguard x37 true (fun kk => vfaddr 0 x44 h kk) h fun x45 h =>
 vguard x37 true (fun kk => vload false 1 x45 h kk) h fun x46 h =>
 vguard x37 true (fun kk => vlen O 2 x46 h 47 kk) h fun x47 h =>
 vguard x37 true (fun kk => vbin .lss 0 x42 x47 h kk) h fun x48 h =>
 vop O (.pick (.k x37) (.k x48) (.k (kB false))) h 49 fun x49 h =>
 vif x49 (
 vcall O (.v (.c (.func 62 []))) [x6, (kS [102, 110])] h 51 fun x51 h =>
 vif x51 (
 vop O (.nilck (.k x6)) h 53 fun x53 h =>
 vfaddr 1 x53 h fun x54 h =>
 vload false 1 x54 h fun x55 h =>
 vbin .add 0 x55 (kI 1) h fun x56 h =>
 vop O (.nilck (.k x6)) h 57 fun x57 h =>
 vfaddr 1 x57 h fun x58 h =>
 vstore 1 x58 x56 h fun _ h =>
 vcall O (.v (.c (.func 63 []))) [x6] h 60 fun x60 h =>
 vop O (.alloc [(.p (.str [])), (.p .nilslice), (.p (.int .i64 0)), (.p (.str [])), (.p .nilslice), (.p .nilslice)] false) h 8 fun x8 h =>
 vstore 6 x8 x60 h fun _ h =>
 R 2 [x2, x6, x7, x8, (kI 0)] h)
 (R 4 [x2, x6, x7] h))
 (R 7 [x2, x6, x7] h)
theorem e18_1 (O : Oracle) (R : Jump) (q : Nat) (x2 x6 x7 : TVal) (h : Heap) : b18_1 O R q x2 x6 x7 h = stepF c18 O R q 1 [x2, x6, x7] h := by kernel_rfl
def b18_2 (O : Oracle) (R : Jump) (q : Nat) (x2 x6 x7 x8 x9 : TVal) (h : Heap) : Res1 :=
 vfaddr 5 x7 h fun x62 h =>
 vload false 1 x62 h fun x63 h =>
 vlen O 2 x63 h 64 fun x64 h =>
 vbin .lss 0 x9 x64 h fun x65 h =>
 vguard x65 true (fun kk => vfaddr 5 x7 h kk) h fun x67 h =>
 vguard x65 true (fun kk => vload false 1 x67 h kk) h fun x68 h =>
 vguard x65 true (fun kk => kk x9 h) h fun x69 h =>
 vguard x65 true (fun kk => viaddr 6 x68 x69 h kk) h fun x70 h =>
 vguard x65 true (fun kk => vfaddr 0 x70 h kk) h fun x71 h =>
 vguard x65 true (fun kk => vload false 1 x71 h kk) h fun x72 h =>
 vguard x65 true (fun kk => vfaddr 0 x8 h kk) h fun x73 h =>
 vguard x65 true (fun kk => vload false 1 x73 h kk) h fun x74 h =>
 vguard x65 true (fun kk => vbin .lss 0 x72 x74 h kk) h fun x75 h =>
 vop O (.pick (.k x65) (.k x75) (.k (kB false))) h 76 fun x76 h =>
 vif x76 (
 vbin .add 0 x9 (kI 1) h fun x78 h =>
 R 2 [x2, x6, x7, x8, x78] h)
 (R 3 [x2, x6, x7, x8, x9] h)
theorem e18_2 (O : Oracle) (R : Jump) (q : Nat) (x2 x6 x7 x8 x9 : TVal) (h : Heap) : b18_2 O R q x2 x6 x7 x8 x9 h = stepF c18 O R q 2 [x2, x6, x7, x8, x9] h := by kernel_rfl
def b18_3 (O : Oracle) (R : Jump) (q : Nat) (x2 x6 x7 x8 x9 : TVal) (h : Heap) : Res1 :=
 vop O (.nilck (.k x6)) h 81 fun x81 h =>
 vfaddr 3 x81 h fun x82 h =>
 vload false 1 x82 h fun x83 h =>
 vguard x83 false (fun kk => kk x9 h) h fun x85 h =>
 vguard x83 false (fun kk => vfaddr 5 x7 h kk) h fun x86 h =>
 vguard x83 false (fun kk => vload false 1 x86 h kk) h fun x87 h =>
 vguard x83 false (fun kk => vlen O 2 x87 h 88 kk) h fun x88 h =>
 vguard x83 false (fun kk => vbin .lss 0 x85 x88 h kk) h fun x89 h =>
 vguard x83 false (fun kk => kk x89 h) h fun x90 h =>
 vguard x90 true (fun kk => vfaddr 5 x7 h kk) h fun x91 h =>
 vguard x90 true (fun kk => vload false 1 x91 h kk) h fun x92 h =>
 vguard x90 true (fun kk => kk x9 h) h fun x93 h =>
 vguard x90 true (fun kk => viaddr 6 x92 x93 h kk) h fun x94 h =>
 vguard x90 true (fun kk => vfaddr 0 x94 h kk) h fun x95 h =>
 vguard x90 true (fun kk => vload false 1 x95 h kk) h fun x96 h =>
 vguard x90 true (fun kk => vfaddr 0 x8 h kk) h fun x97 h =>
 vguard x90 true (fun kk => vload false 1 x97 h kk) h fun x98 h =>
 vguard x90 true (fun kk => vbin .eql 0 x96 x98 h kk) h fun x99 h =>
 vguard x83 false (fun kk => vop O (.pick (.k x90) (.k x99) (.k (kB false))) h 100 kk) h fun x100 h =>
 vop O (.pick (.k x83) (.k (kB true)) (.k x100)) h 101 fun x101 h =>
 vop O (.nilck (.k x6)) h 102 fun x102 h =>
 vfaddr 3 x102 h fun x103 h =>
 vstore 1 x103 x101 h fun _ h =>
 vop O (.bslice 6 0 [(.p (.str [])), (.p .nilslice), (.p (.int .i64 0)), (.p (.str [])), (.p .nilslice), (.p .nilslice)] [] false) h 104 fun x104 h =>
 vfaddr 5 x7 h fun x105 h =>
 vload false 1 x105 h fun x106 h =>
 vop O (.slice 6 false (.k x106) none (some (.k x9)) none) h 108 fun x108 h =>
 vop O (.append 6 112 false (.k x104) (.k x108)) h 109 fun x109 h =>
 vtouch O (.mv (.k x109)) h 110 fun x110 h t0 =>
 vtouch O (.load true 6 (.k x8)) h 111 fun x111 h t1 =>
 vtouch O (.bslice 6 1 [(.p (.str [])), (.p .nilslice), (.p (.int .i64 0)), (.p (.str [])), (.p .nilslice), (.p .nilslice)] [(0, (.k x111))] false) h 112 fun x112 h t2 =>
 vtouch O (.append 6 112 false (.k x110) (.k x112)) h 113 fun x113 h t3 =>
 vtouch O (.faddr 5 (.k x7)) h 114 fun x114 h t4 =>
 vtouch O (.load false 1 (.k x114)) h 115 fun x115 h t5 =>
 vtouch O (.mv (.k x9)) h 116 fun x116 h t6 =>
 vtouch O (.slice 6 false (.k x115) (some (.k x116)) none none) h 117 fun x117 h t7 =>
 vtouch O (.append 6 112 false (.k x113) (.k x117)) h 118 fun x118 h t8 =>
 vtouch O (.faddr 5 (.k x7)) h 119 fun x119 h t9 =>
 vtouch O (.store 1 (.k x119) (.k x118)) h 1000000 fun _ h t10 =>
 bif apartAll [t0, t1, t2, t3, t4, t5, t6, t7, t8, t9, t10] [(2, 5), (3, 5)] then
 R 1 [x2, x6, x7] h
 else none
theorem e18_3 (O : Oracle) (R : Jump) (q : Nat) (x2 x6 x7 x8 x9 : TVal) (h : Heap) : b18_3 O R q x2 x6 x7 x8 x9 h = stepF c18 O R q 3 [x2, x6, x7, x8, x9] h := by kernel_rfl
def b18_4 (O : Oracle) (R : Jump) (q : Nat) (x2 x6 x7 : TVal) (h : Heap) : Res1 :=
 vcall O (.v (.c (.func 60 []))) [x6, (kS [116, 121, 112, 101])] h 121 fun x121 h =>
 vcall O (.v (.c (.func 64 []))) [x6] h 123 fun x123 h =>
 vop O (.build [(.p (.str [])), (.p (.int .i64 0)), (.p (.str [])), (.p .nilslice), (.p .nilslice)] [(0, 1, (.k x123))]) h 124 fun x124 h =>
 vop O (.alloc [(.p (.str [])), (.p (.int .i64 0)), (.p (.str [])), (.p .nilslice), (.p .nilslice)] false) h 11 fun x11 h =>
 vstore 5 x11 x124 h fun _ h =>
 vcall O (.v (.c (.func 60 []))) [x6, (kS [61])] h 126 fun x126 h =>
 vcall O (.v (.c (.func 61 []))) [x6, (kI 1)] h 128 fun x128 h =>
 vfaddr 1 x11 h fun x129 h =>
 vstore 4 x129 x128 h fun _ h =>
 vcall O (.v (.c (.func 60 []))) [x6, (kS [59])] h 131 fun x131 h =>
 R 5 [x2, x6, x7, x11, (kI 0)] h
theorem e18_4 (O : Oracle) (R : Jump) (q : Nat) (x2 x6 x7 : TVal) (h : Heap) : b18_4 O R q x2 x6 x7 h = stepF c18 O R q 4 [x2, x6, x7] h := by kernel_rfl
def b18_5 (O : Oracle) (R : Jump) (q : Nat) (x2 x6 x7 x11 x12 : TVal) (h : Heap) : Res1 :=
 vfaddr 4 x7 h fun x133 h =>
 vload false 1 x133 h fun x134 h =>
 vlen O 2 x134 h 135 fun x135 h =>
 vbin .lss 0 x12 x135 h fun x136 h =>
 vguard x136 true (fun kk => vfaddr 4 x7 h kk) h fun x138 h =>
 vguard x136 true (fun kk => vload false 1 x138 h kk) h fun x139 h =>
 vguard x136 true (fun kk => kk x12 h) h fun x140 h =>
 vguard x136 true (fun kk => viaddr 5 x139 x140 h kk) h fun x141 h =>
 vguard x136 true (fun kk => vfaddr 0 x141 h kk) h fun x142 h =>
 vguard x136 true (fun kk => vload false 1 x142 h kk) h fun x143 h =>
 vguard x136 true (fun kk => vfaddr 0 x11 h kk) h fun x144 h =>
 vguard x136 true (fun kk => vload false 1 x144 h kk) h fun x145 h =>
 vguard x136 true (fun kk => vbin .lss 0 x143 x145 h kk) h fun x146 h =>
 vop O (.pick (.k x136) (.k x146) (.k (kB false))) h 147 fun x147 h =>
 vif x147 (
 vbin .add 0 x12 (kI 1) h fun x149 h =>
 R 5 [x2, x6, x7, x11, x149] h)
 (R 6 [x2, x6, x7, x11, x12] h)
theorem e18_5 (O : Oracle) (R : Jump) (q : Nat) (x2 x6 x7 x11 x12 : TVal) (h : Heap) : b18_5 O R q x2 x6 x7 x11 x12 h = stepF c18 O R q 5 [x2, x6, x7, x11, x12] h := by kernel_rfl
def b18_6 (O : Oracle) (R : Jump) (q : Nat) (x2 x6 x7 x11 x12 : TVal) (h : Heap) : Res1 :=
 vop O (.nilck (.k x6)) h 152 fun x152 h =>
 vfaddr 3 x152 h fun x153 h =>
 vload false 1 x153 h fun x154 h =>
 vguard x154 false (fun kk => kk x12 h) h fun x156 h =>
 vguard x154 false (fun kk => vfaddr 4 x7 h kk) h fun x157 h =>
 vguard x154 false (fun kk => vload false 1 x157 h kk) h fun x158 h =>
 vguard x154 false (fun kk => vlen O 2 x158 h 159 kk) h fun x159 h =>
 vguard x154 false (fun kk => vbin .lss 0 x156 x159 h kk) h fun x160 h =>
 vguard x154 false (fun kk => kk x160 h) h fun x161 h =>
 vguard x161 true (fun kk => vfaddr 4 x7 h kk) h fun x162 h =>
 vguard x161 true (fun kk => vload false 1 x162 h kk) h fun x163 h =>
 vguard x161 true (fun kk => kk x12 h) h fun x164 h =>
 vguard x161 true (fun kk => viaddr 5 x163 x164 h kk) h fun x165 h =>
 vguard x161 true (fun kk => vfaddr 0 x165 h kk) h fun x166 h =>
 vguard x161 true (fun kk => vload false 1 x166 h kk) h fun x167 h =>
 vguard x161 true (fun kk => vfaddr 0 x11 h kk) h fun x168 h =>
 vguard x161 true (fun kk => vload false 1 x168 h kk) h fun x169 h =>
 vguard x161 true (fun kk => vbin .eql 0 x167 x169 h kk) h fun x170 h =>
 vguard x154 false (fun kk => vop O (.pick (.k x161) (.k x170) (.k (kB false))) h 171 kk) h fun x171 h =>
 vop O (.pick (.k x154) (.k (kB true)) (.k x171)) h 172 fun x172 h =>
 vop O (.nilck (.k x6)) h 173 fun x173 h =>
 vfaddr 3 x173 h fun x174 h =>
 vstore 1 x174 x172 h fun _ h =>
 vop O (.bslice 5 0 [(.p (.str [])), (.p (.int .i64 0)), (.p (.str [])), (.p .nilslice), (.p .nilslice)] [] false) h 175 fun x175 h =>
 vfaddr 4 x7 h fun x176 h =>
 vload false 1 x176 h fun x177 h =>
 vop O (.slice 5 false (.k x177) none (some (.k x12)) none) h 179 fun x179 h =>
 vop O (.append 5 88 false (.k x175) (.k x179)) h 180 fun x180 h =>
 vtouch O (.mv (.k x180)) h 181 fun x181 h t0 =>
 vtouch O (.load true 5 (.k x11)) h 182 fun x182 h t1 =>
 vtouch O (.bslice 5 1 [(.p (.str [])), (.p (.int .i64 0)), (.p (.str [])), (.p .nilslice), (.p .nilslice)] [(0, (.k x182))] false) h 183 fun x183 h t2 =>
 vtouch O (.append 5 88 false (.k x181) (.k x183)) h 184 fun x184 h t3 =>
 vtouch O (.faddr 4 (.k x7)) h 185 fun x185 h t4 =>
 vtouch O (.load false 1 (.k x185)) h 186 fun x186 h t5 =>
 vtouch O (.mv (.k x12)) h 187 fun x187 h t6 =>
 vtouch O (.slice 5 false (.k x186) (some (.k x187)) none none) h 188 fun x188 h t7 =>
 vtouch O (.append 5 88 false (.k x184) (.k x188)) h 189 fun x189 h t8 =>
 vtouch O (.faddr 4 (.k x7)) h 190 fun x190 h t9 =>
 vtouch O (.store 1 (.k x190) (.k x189)) h 1000000 fun _ h t10 =>
 bif apartAll [t0, t1, t2, t3, t4, t5, t6, t7, t8, t9, t10] [(2, 5), (3, 5)] then
 R 1 [x2, x6, x7] h
 else none
theorem e18_6 (O : Oracle) (R : Jump) (q : Nat) (x2 x6 x7 x11 x12 : TVal) (h : Heap) : b18_6 O R q x2 x6 x7 x11 x12 h = stepF c18 O R q 6 [x2, x6, x7, x11, x12] h := by kernel_rfl
def b18_7 (O : Oracle) (R : Jump) (q : Nat) (x2 x6 x7 : TVal) (h : Heap) : Res1 :=
 vcall O (.v (.c (.func 65 []))) [x6] h 192 fun x192 h =>
 vbin .neq 0 x192 (kI 0) h fun x193 h =>
 vif x193 (
 vtouch O (.build [(.p (.int .i64 0)), (.p (.str [])), (.p .nilslice), (.p .nilslice), (.p .nilslice), (.p .nilslice)] []) h 194 fun x194 h t0 =>
 vtouch O (.mv (.k x6)) h 195 fun x195 h t1 =>
 vtouch O (.nilck (.k x195)) h 196 fun x196 h t2 =>
 vtouch O (.faddr 2 (.k x196)) h 197 fun x197 h t3 =>
 vtouch O (.load false 1 (.k x197)) h 198 fun x198 h t4 =>
 vtouch O (.store 6 (.k x2) (.k x194)) h 1000000 fun _ h t5 =>
 vtouch O (.mv (.k x198)) h 3 fun x3 h t6 =>
 bif apartAll [t0, t1, t2, t3, t4, t5, t6] [(4, 5)] then
 vcell true 6 x2 h fun c0 => tcomp x3 fun c1 => vfin true q [c0, c1] h
 else none)
 (vload true 6 x7 h fun x199 h =>
 vstore 6 x2 x199 h fun _ h =>
 vcell true 6 x2 h fun c0 => tcomp (kI 0) fun c1 => vfin true q [c0, c1] h)
theorem e18_7 (O : Oracle) (R : Jump) (q : Nat) (x2 x6 x7 : TVal) (h : Heap) : b18_7 O R q x2 x6 x7 h = stepF c18 O R q 7 [x2, x6, x7] h := by kernel_rfl
def d18 : BlkF := fun O R Q => [.s fun a => .z (b18_0 O R Q a), .s fun a => .s fun b => .s fun c => .z (b18_1 O R Q a b c), .s fun a => .s fun b => .s fun c => .s fun d => .s fun e => .z (b18_2 O R Q a b c d e), .s fun a => .s fun b => .s fun c => .s fun d => .s fun e => .z (b18_3 O R Q a b c d e), .s fun a => .s fun b => .s fun c => .z (b18_4 O R Q a b c), .s fun a => .s fun b => .s fun c => .s fun d => .s fun e => .z (b18_5 O R Q a b c d e), .s fun a => .s fun b => .s fun c => .s fun d => .s fun e => .z (b18_6 O R Q a b c d e), .s fun a => .s fun b => .s fun c => .z (b18_7 O R Q a b c)]
theorem o18 (O : Oracle) (R : Jump) (q : Nat) : HoldsAll c18 O R q 0 (d18 O R q) := ⟨e18_0 O R q, e18_1 O R q, e18_2 O R q, e18_3 O R q, e18_4 O R q, e18_5 O R q, e18_6 O R q, e18_7 O R q, trivial⟩
def c19 : MFunc := mkM (compF Tryd.prog (globs2 tabs opq) (fun _ => false) true Tryd.f19) (.s .n (.s .n (.s .n (.s .n (.s .n (.s .n (.m 1 [2, 4, 5] (.s .n (.m 2 [2, 4, 5] .n)))))))))
def b19_0 (O : Oracle) (R : Jump) (q : Nat) (x0 : TVal) (h : Heap) : Res1 :=
 vop O (.alloc [(.p (.int .i64 0)), (.p (.bool false)), (.p (.int .i64 0)), (.p (.str [])), (.p .nilslice), (.p .nilslice)] false) h 2 fun x2 h =>
 vlen O 0 x0 h 7 fun x7 h =>
 vbin .gtr 0 x7 (kI 20000) h fun x8 h =>
 vif x8 (
 vop O (.build [(.p (.int .i64 0)), (.p (.bool false)), (.p (.int .i64 0)), (.p (.str [])), (.p .nilslice), (.p .nilslice)] []) h 9 fun x9 h =>
 vstore 6 x2 x9 h fun _ h =>
 vcell true 6 x2 h fun c0 => tcomp (kI 4) fun c1 => vfin true q [c0, c1] h)
 (vop O (.build [(.p (.str [])), (.p (.int .i64 0)), (.p (.int .i64 0))] [(0, 1, (.k x0))]) h 11 fun x11 h =>
 vop O (.box (.k x11) false) h 12 fun x12 h =>
 vcall O (.v (.c (.func 66 []))) [x12, (kI 1)] h 14 fun x14 h =>
 vop O (.alloc [(.p (.int .i64 0)), (.p (.bool false)), (.p (.int .i64 0)), (.p (.str [])), (.p .nilslice), (.p .nilslice)] false) h 5 fun x5 h =>
 vstore 6 x5 x14 h fun _ h =>
 vcall O (.v (.c (.func 67 []))) [x12] h 16 fun x16 h =>
 vop O (.nilck (.k x12)) h 18 fun x18 h =>
 vfaddr 1 x18 h fun x19 h =>
 vload false 1 x19 h fun x20 h =>
 vlen O 0 x0 h 22 fun x22 h =>
 vbin .lss 0 x20 x22 h fun x23 h =>
 vif x23 (
 vcall O (.v (.c (.func 68 []))) [x12, (kI 12)] h 25 fun x25 h =>
 R 1 [x2, x12, x5] h)
 (R 1 [x2, x12, x5] h))
theorem e19_0 (O : Oracle) (R : Jump) (q : Nat) (x0 : TVal) (h : Heap) : b19_0 O R q x0 h = stepF c19 O R q 0 [x0] h := by kernel_rfl
def b19_1 (O : Oracle) (R : Jump) (q : Nat) (x2 x4 x5 : TVal) (h : Heap) : Res1 :=
 vop O (.nilck (.k x4)) h 27 fun x27 h =>
 vfaddr 2 x27 h fun x28 h =>
 vload false 1 x28 h fun x29 h =>
 vbin .eql 0 x29 (kI 0) h fun x30 h =>
 vif x30 (
 vload true 6 x5 h fun x32 h =>
 vcall O (.v (.c (.func 16 []))) [x32] h 33 fun x33 h =>
 vop O (.nilck (.k x4)) h 34 fun x34 h =>
 vfaddr 2 x34 h fun x35 h =>
 vstore 1 x35 x33 h fun _ h =>
 R 2 [x2, x4, x5] h)
 (R 2 [x2, x4, x5] h)
theorem e19_1 (O : Oracle) (R : Jump) (q : Nat) (x2 x4 x5 : TVal) (h : Heap) : b19_1 O R q x2 x4 x5 h = stepF c19 O R q 1 [x2, x4, x5] h := by kernel_rfl
def b19_2 (O : Oracle) (R : Jump) (q : Nat) (x2 x4 x5 : TVal) (h : Heap) : Res1 :=
 vop O (.nilck (.k x4)) h 37 fun x37 h =>
 vfaddr 2 x37 h fun x38 h =>
 vload false 1 x38 h fun x39 h =>
 vbin .neq 0 x39 (kI 0) h fun x40 h =>
 vif x40 (
 vtouch O (.build [(.p (.int .i64 0)), (.p (.bool false)), (.p (.int .i64 0)), (.p (.str [])), (.p .nilslice), (.p .nilslice)] []) h 41 fun x41 h t0 =>
 vtouch O (.mv (.k x4)) h 42 fun x42 h t1 =>
 vtouch O (.nilck (.k x42)) h 43 fun x43 h t2 =>
 vtouch O (.faddr 2 (.k x43)) h 44 fun x44 h t3 =>
 vtouch O (.load false 1 (.k x44)) h 45 fun x45 h t4 =>
 vtouch O (.store 6 (.k x2) (.k x41)) h 1000000 fun _ h t5 =>
 vtouch O (.mv (.k x45)) h 3 fun x3 h t6 =>
 bif apartAll [t0, t1, t2, t3, t4, t5, t6] [(4, 5)] then
 vcell true 6 x2 h fun c0 => tcomp x3 fun c1 => vfin true q [c0, c1] h
 else none)
 (vload true 6 x5 h fun x46 h =>
 vstore 6 x2 x46 h fun _ h =>
 vcell true 6 x2 h fun c0 => tcomp (kI 0) fun c1 => vfin true q [c0, c1] h)
theorem e19_2 (O : Oracle) (R : Jump) (q : Nat) (x2 x4 x5 : TVal) (h : Heap) : b19_2 O R q x2 x4 x5 h = stepF c19 O R q 2 [x2, x4, x5] h := by kernel_rfl
def d19 : BlkF := fun O R Q => [.s fun a => .z (b19_0 O R Q a), .s fun a => .s fun b => .s fun c => .z (b19_1 O R Q a b c), .s fun a => .s fun b => .s fun c => .z (b19_2 O R Q a b c)]
theorem o19 (O : Oracle) (R : Jump) (q : Nat) : HoldsAll c19 O R q 0 (d19 O R q) := ⟨e19_0 O R q, e19_1 O R q, e19_2 O R q, trivial⟩
def c20 : MFunc := mkM (compF Tryd.prog (globs2 tabs opq) (fun _ => false) true Tryd.f20) .n
def b20_0 (O : Oracle) (R : Jump) (q : Nat) (x0 x1 x2 : TVal) (h : Heap) : Res1 :=
 vop O (.box (.k x0) false) h 3 fun x3 h =>
 vop O (.box (.k x1) false) h 4 fun x4 h =>
 vop O (.box (.k x2) false) h 5 fun x5 h =>
 vop O (.alloc [(.p (.int .i64 0)), (.p (.bool false)), (.p (.int .i64 0)), (.p (.str [])), (.p .nilslice), (.p .nilslice)] false) h 6 fun x6 h =>
 vload true 6 x3 h fun x11 h =>
 vcall O (.v (.c (.func 57 []))) [x11] h 12 fun x12 h =>
 vload true 4 x4 h fun x15 h =>
 vload true 6 x5 h fun x16 h =>
 vcall O (.v (.c (.func 58 []))) [x12, x15, x16] h 17 fun x17 h =>
 vext x17 0 h fun x18 h =>
 vext x17 1 h fun x19 h =>
 vop O (.un .not (.k x19)) h 21 fun x21 h =>
 vif x21 (
 vop O (.build [(.p (.int .i64 0)), (.p (.bool false)), (.p (.int .i64 0)), (.p (.str [])), (.p .nilslice), (.p .nilslice)] []) h 22 fun x22 h =>
 vstore 6 x6 x22 h fun _ h =>
 vcell true 6 x6 h fun c0 => tcomp (kI 31) fun c1 => vfin true q [c0, c1] h)
 (vload true 4 x4 h fun x24 h =>
 vload true 6 x5 h fun x25 h =>
 vcall O (.v (.c (.func 69 []))) [x12, x24, x25] h 26 fun x26 h =>
 vstore 6 x6 x26 h fun _ h =>
 vcell true 6 x6 h fun c0 => tcomp (kI 0) fun c1 => vfin true q [c0, c1] h)
theorem e20_0 (O : Oracle) (R : Jump) (q : Nat) (x0 x1 x2 : TVal) (h : Heap) : b20_0 O R q x0 x1 x2 h = stepF c20 O R q 0 [x0, x1, x2] h := by kernel_rfl
def d20 : BlkF := fun O R Q => [.s fun a => .s fun b => .s fun c => .z (b20_0 O R Q a b c)]
theorem o20 (O : Oracle) (R : Jump) (q : Nat) : HoldsAll c20 O R q 0 (d20 O R q) := ⟨e20_0 O R q, trivial⟩
def c21 : MFunc := mkM (compF Tryd.prog (globs2 tabs opq) (fun _ => false) true Tryd.f21) (.s .n (.s (.s .n (.k (.s .n (.s .n (.s .n (.s .n (.s .n (.s .n (.s .n (.s .n (.s .n (.s (.s .n (.s (.s .n (.k (.l 1 [1, 3, 4] (.s .n (.s (.k (.s .n (.m 2 [1, 3, 4] .n))) .n))))) (.m 3 [3] .n))) .n)))))))))))) (.m 4 [1] (.s .n (.s (.s .n (.k (.l 5 [1, 5, 6] (.s .n (.s (.k (.s .n (.m 6 [1, 5, 6] .n))) .n))))) (.m 7 [5] .n))))))
def b21_0 (O : Oracle) (R : Jump) (q : Nat) (x0 : TVal) (h : Heap) : Res1 :=
 vop O (.box (.k x0) false) h 1 fun x1 h =>
 vfaddr 0 x1 h fun x7 h =>
 vload false 1 x7 h fun x8 h =>
 vbin .eql 0 x8 (kI 0) h fun x10 h =>
 vif x10 (
 tcomp (kS [110, 117, 108, 108]) fun c0 => vfin true q [c0] h)
 (vbin .eql 0 x8 (kI 1) h fun x12 h =>
 vif x12 (
 vfaddr 1 x1 h fun x13 h =>
 vload false 1 x13 h fun x14 h =>
 vif x14 (
 tcomp (kS [116, 114, 117, 101]) fun c0 => vfin true q [c0] h)
 (tcomp (kS [102, 97, 108, 115, 101]) fun c0 => vfin true q [c0] h))
 (vbin .eql 0 x8 (kI 2) h fun x16 h =>
 vif x16 (
 vfaddr 2 x1 h fun x17 h =>
 vload false 1 x17 h fun x18 h =>
 vop O (.build [(.p (.int .i64 0)), (.p (.str [])), (.p .nilslice), (.p (.str [])), (.p (.int .i64 0)), (.p (.bool false)), (.p .nilslice)] [(0, 1, (.k (kI 3))), (4, 1, (.k x18))]) h 19 fun x19 h =>
 vop O (.bslice 7 1 [(.p (.int .i64 0)), (.p (.str [])), (.p .nilslice), (.p (.str [])), (.p (.int .i64 0)), (.p (.bool false)), (.p .nilslice)] [(0, (.k x19))] false) h 20 fun x20 h =>
 vop O (.build [(.p .nilslice)] [(0, 1, (.k x20))]) h 21 fun x21 h =>
 vop O (.bslice 1 1 [(.p .nilslice)] [(0, (.k x21))] false) h 22 fun x22 h =>
 vcall O (.v (.c (.func 70 []))) [x22] h 23 fun x23 h =>
 tcomp x23 fun c0 => vfin true q [c0] h)
 (vbin .eql 0 x8 (kI 3) h fun x25 h =>
 vif x25 (
 vfaddr 3 x1 h fun x26 h =>
 vload false 1 x26 h fun x27 h =>
 vcall O (.v (.c (.func 71 []))) [x27] h 28 fun x28 h =>
 tcomp x28 fun c0 => vfin true q [c0] h)
 (vbin .eql 0 x8 (kI 4) h fun x30 h =>
 vif x30 (
 R 1 [x1, (kS [91]), (kI 0)] h)
 (R 4 [x1] h)))))
theorem e21_0 (O : Oracle) (R : Jump) (q : Nat) (x0 : TVal) (h : Heap) : b21_0 O R q x0 h = stepF c21 O R q 0 [x0] h := by kernel_rfl
def b21_1 (O : Oracle) (R : Jump) (q : Nat) (x1 x3 x4 : TVal) (h : Heap) : Res1 :=
 vfaddr 5 x1 h fun x32 h =>
 vload false 1 x32 h fun x33 h =>
 vlen O 2 x33 h 34 fun x34 h =>
 vbin .lss 0 x4 x34 h fun x35 h =>
 vif x35 (
 vbin .gtr 0 x4 (kI 0) h fun x39 h =>
 vif x39 (
 vbin .add 0 x3 (kS [44]) h fun x41 h =>
 R 2 [x1, x41, x4] h)
 (R 2 [x1, x3, x4] h))
 (R 3 [x3] h)
theorem e21_1 (O : Oracle) (R : Jump) (q : Nat) (x1 x3 x4 : TVal) (h : Heap) : b21_1 O R q x1 x3 x4 h = stepF c21 O R q 1 [x1, x3, x4] h := by kernel_rfl
def b21_2 (O : Oracle) (R : Jump) (q : Nat) (x1 x3 x4 : TVal) (h : Heap) : Res1 :=
 vfaddr 5 x1 h fun x43 h =>
 vload false 1 x43 h fun x44 h =>
 viaddr 6 x44 x4 h fun x46 h =>
 vload true 6 x46 h fun x47 h =>
 vcall O (.v (.c (.func 21 []))) [x47] h 48 fun x48 h =>
 vbin .add 0 x3 x48 h fun x49 h =>
 vbin .add 0 x4 (kI 1) h fun x37 h =>
 R 1 [x1, x49, x37] h
theorem e21_2 (O : Oracle) (R : Jump) (q : Nat) (x1 x3 x4 : TVal) (h : Heap) : b21_2 O R q x1 x3 x4 h = stepF c21 O R q 2 [x1, x3, x4] h := by kernel_rfl
def b21_3 (O : Oracle) (R : Jump) (q : Nat) (x3 : TVal) (h : Heap) : Res1 :=
 vbin .add 0 x3 (kS [93]) h fun x51 h =>
 tcomp x51 fun c0 => vfin true q [c0] h
theorem e21_3 (O : Oracle) (R : Jump) (q : Nat) (x3 : TVal) (h : Heap) : b21_3 O R q x3 h = stepF c21 O R q 3 [x3] h := by kernel_rfl
def b21_4 (O : Oracle) (R : Jump) (q : Nat) (x1 : TVal) (h : Heap) : Res1 :=
 R 5 [x1, (kS [123]), (kI 0)] h
theorem e21_4 (O : Oracle) (R : Jump) (q : Nat) (x1 : TVal) (h : Heap) : b21_4 O R q x1 h = stepF c21 O R q 4 [x1] h := by kernel_rfl
def b21_5 (O : Oracle) (R : Jump) (q : Nat) (x1 x5 x6 : TVal) (h : Heap) : Res1 :=
 vfaddr 5 x1 h fun x53 h =>
 vload false 1 x53 h fun x54 h =>
 vlen O 2 x54 h 55 fun x55 h =>
 vbin .lss 0 x6 x55 h fun x56 h =>
 vif x56 (
 vbin .gtr 0 x6 (kI 0) h fun x60 h =>
 vif x60 (
 vbin .add 0 x5 (kS [44]) h fun x62 h =>
 R 6 [x1, x62, x6] h)
 (R 6 [x1, x5, x6] h))
 (R 7 [x5] h)
theorem e21_5 (O : Oracle) (R : Jump) (q : Nat) (x1 x5 x6 : TVal) (h : Heap) : b21_5 O R q x1 x5 x6 h = stepF c21 O R q 5 [x1, x5, x6] h := by kernel_rfl
def b21_6 (O : Oracle) (R : Jump) (q : Nat) (x1 x5 x6 : TVal) (h : Heap) : Res1 :=
 vtouch O (.mv (.k x5)) h 63 fun x63 h t0 =>
 vtouch O (.faddr 4 (.k x1)) h 64 fun x64 h t1 =>
 vtouch O (.load false 1 (.k x64)) h 65 fun x65 h t2 =>
 vtouch O (.mv (.k x6)) h 66 fun x66 h t3 =>
 vtouch O (.iaddr 1 (.k x65) (.k x66)) h 67 fun x67 h t4 =>
 vtouch O (.load false 1 (.k x67)) h 68 fun x68 h t5 =>
 vtouch O (.call (.k (.v (.c (.func 71 [])))) [(.k x68)]) h 69 fun x69 h t6 =>
 vtouch O (.bin .add 0 (.k x63) (.k x69)) h 70 fun x70 h t7 =>
 vtouch O (.bin .add 0 (.k x70) (.k (kS [58]))) h 71 fun x71 h t8 =>
 vtouch O (.faddr 5 (.k x1)) h 72 fun x72 h t9 =>
 vtouch O (.load false 1 (.k x72)) h 73 fun x73 h t10 =>
 vtouch O (.mv (.k x6)) h 74 fun x74 h t11 =>
 vtouch O (.iaddr 6 (.k x73) (.k x74)) h 75 fun x75 h t12 =>
 vtouch O (.load true 6 (.k x75)) h 76 fun x76 h t13 =>
 vtouch O (.call (.k (.v (.c (.func 21 [])))) [(.k x76)]) h 77 fun x77 h t14 =>
 vtouch O (.bin .add 0 (.k x71) (.k x77)) h 78 fun x78 h t15 =>
 vtouch O (.mv (.k x78)) h 5 fun x5_1 h t16 =>
 bif apartAll [t0, t1, t2, t3, t4, t5, t6, t7, t8, t9, t10, t11, t12, t13, t14, t15, t16] [(6, 10), (6, 13)] then
 vbin .add 0 x6 (kI 1) h fun x58 h =>
 R 5 [x1, x5_1, x58] h
 else none
theorem e21_6 (O : Oracle) (R : Jump) (q : Nat) (x1 x5 x6 : TVal) (h : Heap) : b21_6 O R q x1 x5 x6 h = stepF c21 O R q 6 [x1, x5, x6] h := by kernel_rfl
def b21_7 (O : Oracle) (R : Jump) (q : Nat) (x5 : TVal) (h : Heap) : Res1 :=
 vbin .add 0 x5 (kS [125]) h fun x80 h =>
 tcomp x80 fun c0 => vfin true q [c0] h
theorem e21_7 (O : Oracle) (R : Jump) (q : Nat) (x5 : TVal) (h : Heap) : b21_7 O R q x5 h = stepF c21 O R q 7 [x5] h := by kernel_rfl
def d21 : BlkF := fun O R Q => [.s fun a => .z (b21_0 O R Q a), .s fun a => .s fun b => .s fun c => .z (b21_1 O R Q a b c), .s fun a => .s fun b => .s fun c => .z (b21_2 O R Q a b c), .s fun a => .z (b21_3 O R Q a), .s fun a => .z (b21_4 O R Q a), .s fun a => .s fun b => .s fun c => .z (b21_5 O R Q a b c), .s fun a => .s fun b => .s fun c => .z (b21_6 O R Q a b c), .s fun a => .z (b21_7 O R Q a)]
theorem o21 (O : Oracle) (R : Jump) (q : Nat) : HoldsAll c21 O R q 0 (d21 O R q) := ⟨e21_0 O R q, e21_1 O R q, e21_2 O R q, e21_3 O R q, e21_4 O R q, e21_5 O R q, e21_6 O R q, e21_7 O R q, trivial⟩
def c56 : MFunc := mkM (compF Tryd.prog (globs2 tabs opq) (fun _ => false) true Tryd.f56) (.s .n (.s .n (.s .n (.s .n (.s .n (.s .n (.s .n (.s (.s .n (.k (.l 1 [0, 2, 4, 7] .n))) (.m 2 [0, 2, 4] (.s (.s .n (.k (.l 3 [0, 2, 4, 8] .n))) (.m 4 [0, 2, 4] (.s (.s .n (.k (.l 5 [0, 2, 4, 9] .n))) .n))))))))))))
def b56_0 (O : Oracle) (R : Jump) (q : Nat) (x0 x1 x2 : TVal) (h : Heap) : Res1 :=
 vop O (.box (.k x1) false) h 4 fun x4 h =>
 vop O (.nilck (.k x0)) h 12 fun x12 h =>
 vfaddr 0 x12 h fun x13 h =>
 vload false 1 x13 h fun x14 h =>
 vbin .add 0 x14 (kI 1) h fun x15 h =>
 vop O (.nilck (.k x0)) h 16 fun x16 h =>
 vfaddr 0 x16 h fun x17 h =>
 vstore 1 x17 x15 h fun _ h =>
 vop O (.nilck (.k x0)) h 19 fun x19 h =>
 vfaddr 0 x19 h fun x20 h =>
 vload false 1 x20 h fun x21 h =>
 vbin .gtr 0 x21 (kI 2000) h fun x22 h =>
 vif x22 (
 tcomp (kI 3) fun c0 => vfin true q [c0] h)
 (vload true 6 x4 h fun x23 h =>
 vcall O (.v (.c (.func 112 []))) [x23] h 24 fun x24 h =>
 vop O (.un .not (.k x24)) h 25 fun x25 h =>
 vif x25 (
 tcomp (kI 1) fun c0 => vfin true q [c0] h)
 (vbin .gtr 0 x2 (kI 12) h fun x27 h =>
 vif x27 (
 tcomp (kI 13) fun c0 => vfin true q [c0] h)
 (vfaddr 5 x4 h fun x28 h =>
 vload false 1 x28 h fun x29 h =>
 vlen O 2 x29 h 30 fun x30 h =>
 vbin .gtr 0 x30 (kI 40) h fun x31 h =>
 vif x31 (
 tcomp (kI 3) fun c0 => vfin true q [c0] h)
 (vfaddr 3 x4 h fun x32 h =>
 vload false 1 x32 h fun x33 h =>
 vlen O 0 x33 h 34 fun x34 h =>
 vbin .gtr 0 x34 (kI 200) h fun x35 h =>
 vif x35 (
 tcomp (kI 4) fun c0 => vfin true q [c0] h)
 (R 1 [x0, x2, x4, (kI 0)] h)))))
theorem e56_0 (O : Oracle) (R : Jump) (q : Nat) (x0 x1 x2 : TVal) (h : Heap) : b56_0 O R q x0 x1 x2 h = stepF c56 O R q 0 [x0, x1, x2] h := by kernel_rfl
def b56_1 (O : Oracle) (R : Jump) (q : Nat) (x0 x2 x4 x7 : TVal) (h : Heap) : Res1 :=
 vfaddr 4 x4 h fun x37 h =>
 vload false 1 x37 h fun x38 h =>
 vlen O 2 x38 h 39 fun x39 h =>
 vbin .lss 0 x7 x39 h fun x40 h =>
 vif x40 (
 vfaddr 4 x4 h fun x43 h =>
 vload false 1 x43 h fun x44 h =>
 viaddr 1 x44 x7 h fun x46 h =>
 vload false 1 x46 h fun x47 h =>
 vlen O 0 x47 h 48 fun x48 h =>
 vbin .gtr 0 x48 (kI 200) h fun x49 h =>
 vif x49 (
 tcomp (kI 4) fun c0 => vfin true q [c0] h)
 (vbin .add 0 x7 (kI 1) h fun x42 h =>
 R 1 [x0, x2, x4, x42] h))
 (R 2 [x0, x2, x4] h)
theorem e56_1 (O : Oracle) (R : Jump) (q : Nat) (x0 x2 x4 x7 : TVal) (h : Heap) : b56_1 O R q x0 x2 x4 x7 h = stepF c56 O R q 1 [x0, x2, x4, x7] h := by kernel_rfl
def b56_2 (O : Oracle) (R : Jump) (q : Nat) (x0 x2 x4 : TVal) (h : Heap) : Res1 :=
 R 3 [x0, x2, x4, (kI 1)] h
theorem e56_2 (O : Oracle) (R : Jump) (q : Nat) (x0 x2 x4 : TVal) (h : Heap) : b56_2 O R q x0 x2 x4 h = stepF c56 O R q 2 [x0, x2, x4] h := by kernel_rfl
def b56_3 (O : Oracle) (R : Jump) (q : Nat) (x0 x2 x4 x8 : TVal) (h : Heap) : Res1 :=
 vfaddr 4 x4 h fun x51 h =>
 vload false 1 x51 h fun x52 h =>
 vlen O 2 x52 h 53 fun x53 h =>
 vbin .lss 0 x8 x53 h fun x54 h =>
 vif x54 (
 vfaddr 4 x4 h fun x57 h =>
 vload false 1 x57 h fun x58 h =>
 viaddr 1 x58 x8 h fun x60 h =>
 vload false 1 x60 h fun x61 h =>
 vfaddr 4 x4 h fun x62 h =>
 vload false 1 x62 h fun x63 h =>
 vbin .sub 0 x8 (kI 1) h fun x65 h =>
 viaddr 1 x63 x65 h fun x66 h =>
 vload false 1 x66 h fun x67 h =>
 vbin .leq 0 x61 x67 h fun x68 h =>
 vif x68 (
 tcomp (kI 6) fun c0 => vfin true q [c0] h)
 (vbin .add 0 x8 (kI 1) h fun x56 h =>
 R 3 [x0, x2, x4, x56] h))
 (R 4 [x0, x2, x4] h)
theorem e56_3 (O : Oracle) (R : Jump) (q : Nat) (x0 x2 x4 x8 : TVal) (h : Heap) : b56_3 O R q x0 x2 x4 x8 h = stepF c56 O R q 3 [x0, x2, x4, x8] h := by kernel_rfl
def b56_4 (O : Oracle) (R : Jump) (q : Nat) (x0 x2 x4 : TVal) (h : Heap) : Res1 :=
 R 5 [x0, x2, x4, (kI 0)] h
theorem e56_4 (O : Oracle) (R : Jump) (q : Nat) (x0 x2 x4 : TVal) (h : Heap) : b56_4 O R q x0 x2 x4 h = stepF c56 O R q 4 [x0, x2, x4] h := by kernel_rfl
def b56_5 (O : Oracle) (R : Jump) (q : Nat) (x0 x2 x4 x9 : TVal) (h : Heap) : Res1 :=
 vfaddr 5 x4 h fun x70 h =>
 vload false 1 x70 h fun x71 h =>
 vlen O 2 x71 h 72 fun x72 h =>
 vbin .lss 0 x9 x72 h fun x73 h =>
 vif x73 (
 vfaddr 5 x4 h fun x77 h =>
 vload false 1 x77 h fun x78 h =>
 viaddr 6 x78 x9 h fun x80 h =>
 vload true 6 x80 h fun x81 h =>
 vbin .add 0 x2 (kI 1) h fun x83 h =>
 vcall O (.v (.c (.func 56 []))) [x0, x81, x83] h 84 fun x84 h =>
 vbin .neq 0 x84 (kI 0) h fun x86 h =>
 vif x86 (
 tcomp x84 fun c0 => vfin true q [c0] h)
 (vbin .add 0 x9 (kI 1) h fun x75 h =>
 R 5 [x0, x2, x4, x75] h))
 (tcomp (kI 0) fun c0 => vfin true q [c0] h)
theorem e56_5 (O : Oracle) (R : Jump) (q : Nat) (x0 x2 x4 x9 : TVal) (h : Heap) : b56_5 O R q x0 x2 x4 x9 h = stepF c56 O R q 5 [x0, x2, x4, x9] h := by kernel_rfl
def d56 : BlkF := fun O R Q => [.s fun a => .s fun b => .s fun c => .z (b56_0 O R Q a b c), .s fun a => .s fun b => .s fun c => .s fun d => .z (b56_1 O R Q a b c d), .s fun a => .s fun b => .s fun c => .z (b56_2 O R Q a b c), .s fun a => .s fun b => .s fun c => .s fun d => .z (b56_3 O R Q a b c d), .s fun a => .s fun b => .s fun c => .z (b56_4 O R Q a b c), .s fun a => .s fun b => .s fun c => .s fun d => .z (b56_5 O R Q a b c d)]
theorem o56 (O : Oracle) (R : Jump) (q : Nat) : HoldsAll c56 O R q 0 (d56 O R q) := ⟨e56_0 O R q, e56_1 O R q, e56_2 O R q, e56_3 O R q, e56_4 O R q, e56_5 O R q, trivial⟩
def c57 : MFunc := mkM (compF Tryd.prog (globs2 tabs opq) (fun _ => false) true Tryd.f57) (.s .n (.s .n (.s (.s .n (.k (.l 1 [3, 8, 9, 10] .n))) .n)))
def b57_0 (O : Oracle) (R : Jump) (q : Nat) (x0 : TVal) (h : Heap) : Res1 :=
 vop O (.box (.k x0) false) h 1 fun x1 h =>
 vop O .mkmap h 6 fun x6 h =>
 vfaddr 4 x1 h fun x7 h =>
 vload false 1 x7 h fun x8 h =>
 vlen O 2 x8 h 9 fun x9 h =>
 R 1 [x6, x8, x9, (kI 0)] h
theorem e57_0 (O : Oracle) (R : Jump) (q : Nat) (x0 : TVal) (h : Heap) : b57_0 O R q x0 h = stepF c57 O R q 0 [x0] h := by kernel_rfl
def b57_1 (O : Oracle) (R : Jump) (q : Nat) (x3 x8 x9 x10 : TVal) (h : Heap) : Res1 :=
 vbin .lss 0 x10 x9 h fun x11 h =>
 vif x11 (
 viaddr 5 x8 x10 h fun x12 h =>
 vload true 5 x12 h fun x13 h =>
 vop O (.alloc [(.p (.str [])), (.p (.int .i64 0)), (.p (.str [])), (.p .nilslice), (.p .nilslice)] false) h 5 fun x5 h =>
 vstore 5 x5 x13 h fun _ h =>
 vfaddr 0 x5 h fun x15 h =>
 vload false 1 x15 h fun x16 h =>
 vfaddr 1 x5 h fun x17 h =>
 vload true 4 x17 h fun x18 h =>
 vop O (.mapup 2 (.k x3) (.k x16) (.k x18)) h 1000000 fun _ h =>
 vbin .add 0 x10 (kI 1) h fun x19 h =>
 R 1 [x3, x8, x9, x19] h)
 (tcomp x3 fun c0 => vfin true q [c0] h)
theorem e57_1 (O : Oracle) (R : Jump) (q : Nat) (x3 x8 x9 x10 : TVal) (h : Heap) : b57_1 O R q x3 x8 x9 x10 h = stepF c57 O R q 1 [x3, x8, x9, x10] h := by kernel_rfl
def d57 : BlkF := fun O R Q => [.s fun a => .z (b57_0 O R Q a), .s fun a => .s fun b => .s fun c => .s fun d => .z (b57_1 O R Q a b c d)]
theorem o57 (O : Oracle) (R : Jump) (q : Nat) : HoldsAll c57 O R q 0 (d57 O R q) := ⟨e57_0 O R q, e57_1 O R q, trivial⟩
def c58 : MFunc := mkM (compF Tryd.prog (globs2 tabs opq) (fun _ => false) true Tryd.f58) .n
def b58_0 (O : Oracle) (R : Jump) (q : Nat) (x0 x1 x2 : TVal) (h : Heap) : Res1 :=
 vop O (.box (.k x1) false) h 4 fun x4 h =>
 vop O (.box (.k x2) false) h 5 fun x5 h =>
 vload true 4 x4 h fun x9 h =>
 vcall O (.v (.c (.func 113 []))) [x0, x9] h 10 fun x10 h =>
 vstore 4 x4 x10 h fun _ h =>
 vfaddr 0 x4 h fun x11 h =>
 vload false 1 x11 h fun x12 h =>
 vbin .eql 0 x12 (kI 1) h fun x14 h =>
 vif x14 (
 vfaddr 0 x5 h fun x15 h =>
 vload false 1 x15 h fun x16 h =>
 vbin .eql 0 x16 (kI 1) h fun x17 h =>
 tcomp (kS []) fun c0 => tcomp x17 fun c1 => vfin true q [c0, c1] h)
 (vbin .eql 0 x12 (kI 2) h fun x19 h =>
 vif x19 (
 vfaddr 0 x5 h fun x20 h =>
 vload false 1 x20 h fun x21 h =>
 vbin .eql 0 x21 (kI 2) h fun x22 h =>
 tcomp (kS []) fun c0 => tcomp x22 fun c1 => vfin true q [c0, c1] h)
 (vbin .eql 0 x12 (kI 3) h fun x24 h =>
 vif x24 (
 vfaddr 0 x5 h fun x25 h =>
 vload false 1 x25 h fun x26 h =>
 vbin .eql 0 x26 (kI 3) h fun x27 h =>
 tcomp (kS []) fun c0 => tcomp x27 fun c1 => vfin true q [c0, c1] h)
 (vbin .eql 0 x12 (kI 4) h fun x29 h =>
 vif x29 (
 vload true 4 x4 h fun x31 h =>
 vload true 6 x5 h fun x32 h =>
 vcall O (.v (.c (.func 114 []))) [x0, x31, x32, (kI 4), (.v (.c (.func 115 [])))] h 33 fun x33 h =>
 vext x33 0 h fun x34 h =>
 vext x33 1 h fun x35 h =>
 tcomp x34 fun c0 => tcomp x35 fun c1 => vfin true q [c0, c1] h)
 (vbin .eql 0 x12 (kI 5) h fun x37 h =>
 vif x37 (
 vload true 4 x4 h fun x39 h =>
 vload true 6 x5 h fun x40 h =>
 vop O (.mkfn 117 [(.k x5)]) h 41 fun x41 h =>
 vcall O (.v (.c (.func 114 []))) [x0, x39, x40, (kI 5), x41] h 42 fun x42 h =>
 vext x42 0 h fun x43 h =>
 vext x42 1 h fun x44 h =>
 tcomp x43 fun c0 => tcomp x44 fun c1 => vfin true q [c0, c1] h)
 (vbin .eql 0 x12 (kI 6) h fun x46 h =>
 vif x46 (
 vfaddr 0 x5 h fun x47 h =>
 vload false 1 x47 h fun x48 h =>
 vbin .eql 0 x48 (kI 0) h fun x49 h =>
 vguard x49 false (fun kk => vfaddr 3 x4 h kk) h fun x51 h =>
 vguard x49 false (fun kk => vload false 1 x51 h kk) h fun x52 h =>
 vguard x49 false (fun kk => vlen O 2 x52 h 53 kk) h fun x53 h =>
 vguard x49 false (fun kk => vbin .neq 0 x53 (kI 1) h kk) h fun x54 h =>
 vop O (.pick (.k x49) (.k (kB true)) (.k x54)) h 55 fun x55 h =>
 vif x55 (
 vfaddr 0 x5 h fun x56 h =>
 vload false 1 x56 h fun x57 h =>
 vbin .eql 0 x57 (kI 0) h fun x58 h =>
 tcomp (kS []) fun c0 => tcomp x58 fun c1 => vfin true q [c0, c1] h)
 (vfaddr 3 x4 h fun x60 h =>
 vload false 1 x60 h fun x61 h =>
 viaddr 4 x61 (kI 0) h fun x62 h =>
 vload true 4 x62 h fun x63 h =>
 vload true 6 x5 h fun x64 h =>
 vcall O (.v (.c (.func 58 []))) [x0, x63, x64] h 65 fun x65 h =>
 vext x65 0 h fun x66 h =>
 vext x65 1 h fun x67 h =>
 tcomp x66 fun c0 => tcomp x67 fun c1 => vfin true q [c0, c1] h))
 (vbin .eql 0 x12 (kI 7) h fun x69 h =>
 vif x69 (
 vload true 4 x4 h fun x71 h =>
 vload true 6 x5 h fun x72 h =>
 vcall O (.v (.c (.func 118 []))) [x0, x71, x72] h 73 fun x73 h =>
 vext x73 0 h fun x74 h =>
 vext x73 1 h fun x75 h =>
 tcomp x74 fun c0 => tcomp x75 fun c1 => vfin true q [c0, c1] h)
 (vbin .eql 0 x12 (kI 8) h fun x77 h =>
 vif x77 (
 vload true 4 x4 h fun x79 h =>
 vload true 6 x5 h fun x80 h =>
 vcall O (.v (.c (.func 119 []))) [x0, x79, x80] h 81 fun x81 h =>
 vext x81 0 h fun x82 h =>
 vext x81 1 h fun x83 h =>
 tcomp x82 fun c0 => tcomp x83 fun c1 => vfin true q [c0, c1] h)
 (tcomp (kS []) fun c0 => tcomp (kB false) fun c1 => vfin true q [c0, c1] h))))))))
theorem e58_0 (O : Oracle) (R : Jump) (q : Nat) (x0 x1 x2 : TVal) (h : Heap) : b58_0 O R q x0 x1 x2 h = stepF c58 O R q 0 [x0, x1, x2] h := by kernel_rfl
def d58 : BlkF := fun O R Q => [.s fun a => .s fun b => .s fun c => .z (b58_0 O R Q a b c)]
theorem o58 (O : Oracle) (R : Jump) (q : Nat) : HoldsAll c58 O R q 0 (d58 O R q) := ⟨e58_0 O R q, trivial⟩
def c59 : MFunc := mkM (compF Tryd.prog (globs2 tabs opq) (fun _ => false) true Tryd.f59) (.s .n (.s .n (.s .n (.s .n (.s (.k (.l 1 [0, 4, 5] .n)) (.m 2 [4] .n))))))
def b59_0 (O : Oracle) (R : Jump) (q : Nat) (x0 : TVal) (h : Heap) : Res1 :=
 vlen O 0 x0 h 10 fun x10 h =>
 vbin .gtr 0 x10 (kI 1500) h fun x11 h =>
 vif x11 (
 tcomp (.v (.c (.p .nilslice))) fun c0 => tcomp (kI 4) fun c1 => vfin true q [c0, c1] h)
 (R 1 [x0, (.v (.c (.p .nilslice))), (kI 0)] h)
theorem e59_0 (O : Oracle) (R : Jump) (q : Nat) (x0 : TVal) (h : Heap) : b59_0 O R q x0 h = stepF c59 O R q 0 [x0] h := by kernel_rfl
def b59_1 (O : Oracle) (R : Jump) (q : Nat) (x0 x4 x5 : TVal) (h : Heap) : Res1 :=
 vlen O 0 x0 h 14 fun x14 h =>
 vbin .lss 0 x5 x14 h fun x15 h =>
 vif x15 (
 vindex x0 x5 h fun x18 h =>
 vcall O (.v (.c (.func 120 []))) [x18] h 19 fun x19 h =>
 vif x19 (
 vbin .add 0 x5 (kI 1) h fun x21 h =>
 R 1 [x0, x4, x21] h)
 (vcall O (.v (.c (.func 121 []))) [x0, x5] h 25 fun x25 h =>
 vext x25 0 h fun x26 h =>
 vext x25 1 h fun x27 h =>
 vext x25 2 h fun x28 h =>
 vop O (.alloc [(.p (.int .i64 0)), (.p (.str [])), (.p (.int .i64 0)), (.p (.int .i64 0))] false) h 6 fun x6 h =>
 vstore 4 x6 x26 h fun _ h =>
 vbin .neq 0 x28 (kI 0) h fun x30 h =>
 vif x30 (
 tcomp (.v (.c (.p .nilslice))) fun c0 => tcomp x28 fun c1 => vfin true q [c0, c1] h)
 (vload true 4 x6 h fun x33 h =>
 vop O (.bslice 4 1 [(.p (.int .i64 0)), (.p (.str [])), (.p (.int .i64 0)), (.p (.int .i64 0))] [(0, (.k x33))] false) h 34 fun x34 h =>
 vop O (.append 4 40 false (.k x4) (.k x34)) h 35 fun x35 h =>
 R 1 [x0, x35, x27] h)))
 (R 2 [x4] h)
theorem e59_1 (O : Oracle) (R : Jump) (q : Nat) (x0 x4 x5 : TVal) (h : Heap) : b59_1 O R q x0 x4 x5 h = stepF c59 O R q 1 [x0, x4, x5] h := by kernel_rfl
def b59_2 (O : Oracle) (R : Jump) (q : Nat) (x4 : TVal) (h : Heap) : Res1 :=
 vlen O 2 x4 h 38 fun x38 h =>
 vbin .gtr 0 x38 (kI 400) h fun x39 h =>
 vif x39 (
 tcomp (.v (.c (.p .nilslice))) fun c0 => tcomp (kI 3) fun c1 => vfin true q [c0, c1] h)
 (tcomp x4 fun c0 => tcomp (kI 0) fun c1 => vfin true q [c0, c1] h)
theorem e59_2 (O : Oracle) (R : Jump) (q : Nat) (x4 : TVal) (h : Heap) : b59_2 O R q x4 h = stepF c59 O R q 2 [x4] h := by kernel_rfl
def d59 : BlkF := fun O R Q => [.s fun a => .z (b59_0 O R Q a), .s fun a => .s fun b => .s fun c => .z (b59_1 O R Q a b c), .s fun a => .z (b59_2 O R Q a)]
theorem o59 (O : Oracle) (R : Jump) (q : Nat) : HoldsAll c59 O R q 0 (d59 O R q) := ⟨e59_0 O R q, e59_1 O R q, e59_2 O R q, trivial⟩
def c60 : MFunc := mkM (compF Tryd.prog (globs2 tabs opq) (fun _ => false) true Tryd.f60) .n
def b60_0 (O : Oracle) (R : Jump) (q : Nat) (x0 x1 : TVal) (h : Heap) : Res1 :=
 vcall O (.v (.c (.func 62 []))) [x0, x1] h 6 fun x6 h =>
 vif x6 (
 vop O (.nilck (.k x0)) h 8 fun x8 h =>
 vfaddr 1 x8 h fun x9 h =>
 vload false 1 x9 h fun x10 h =>
 vbin .add 0 x10 (kI 1) h fun x11 h =>
 vop O (.nilck (.k x0)) h 12 fun x12 h =>
 vfaddr 1 x12 h fun x13 h =>
 vstore 1 x13 x11 h fun _ h =>
 vfin true q [] h)
 (vcall O (.v (.c (.func 122 []))) [x0, (kI 12)] h 15 fun x15 h =>
 vfin true q [] h)
theorem e60_0 (O : Oracle) (R : Jump) (q : Nat) (x0 x1 : TVal) (h : Heap) : b60_0 O R q x0 x1 h = stepF c60 O R q 0 [x0, x1] h := by kernel_rfl
def d60 : BlkF := fun O R Q => [.s fun a => .s fun b => .z (b60_0 O R Q a b)]
theorem o60 (O : Oracle) (R : Jump) (q : Nat) : HoldsAll c60 O R q 0 (d60 O R q) := ⟨e60_0 O R q, trivial⟩
def c61 : MFunc := mkM (compF Tryd.prog (globs2 tabs opq) (fun _ => false) true Tryd.f61) .n
def b61_0 (O : Oracle) (R : Jump) (q : Nat) (x0 x1 : TVal) (h : Heap) : Res1 :=
 vop O (.alloc [(.p (.int .i64 0)), (.p (.str [])), (.p .nilslice), (.p .nilslice)] false) h 4 fun x4 h =>
 vop O (.nilck (.k x0)) h 7 fun x7 h =>
 vfaddr 2 x7 h fun x8 h =>
 vload false 1 x8 h fun x9 h =>
 vbin .neq 0 x9 (kI 0) h fun x10 h =>
 vguard x10 false (fun kk => kk x0 h) h fun x12 h =>
 vguard x10 false (fun kk => vop O (.nilck (.k x12)) h 13 kk) h fun x13 h =>
 vguard x10 false (fun kk => vfaddr 1 x13 h kk) h fun x14 h =>
 vguard x10 false (fun kk => vload false 1 x14 h kk) h fun x15 h =>
 vguard x10 false (fun kk => kk x0 h) h fun x16 h =>
 vguard x10 false (fun kk => vop O (.nilck (.k x16)) h 17 kk) h fun x17 h =>
 vguard x10 false (fun kk => vfaddr 0 x17 h kk) h fun x18 h =>
 vguard x10 false (fun kk => vload false 1 x18 h kk) h fun x19 h =>
 vguard x10 false (fun kk => vlen O 2 x19 h 20 kk) h fun x20 h =>
 vguard x10 false (fun kk => vbin .geq 0 x15 x20 h kk) h fun x21 h =>
 vop O (.pick (.k x10) (.k (kB true)) (.k x21)) h 22 fun x22 h =>
 vguard x22 false (fun kk => kk x0 h) h fun x24 h =>
 vguard x22 false (fun kk => vop O (.nilck (.k x24)) h 25 kk) h fun x25 h =>
 vguard x22 false (fun kk => vfaddr 0 x25 h kk) h fun x26 h =>
 vguard x22 false (fun kk => vload false 1 x26 h kk) h fun x27 h =>
 vguard x22 false (fun kk => kk x0 h) h fun x28 h =>
 vguard x22 false (fun kk => vop O (.nilck (.k x28)) h 29 kk) h fun x29 h =>
 vguard x22 false (fun kk => vfaddr 1 x29 h kk) h fun x30 h =>
 vguard x22 false (fun kk => vload false 1 x30 h kk) h fun x31 h =>
 vguard x22 false (fun kk => viaddr 4 x27 x31 h kk) h fun x32 h =>
 vguard x22 false (fun kk => vfaddr 0 x32 h kk) h fun x33 h =>
 vguard x22 false (fun kk => vload false 1 x33 h kk) h fun x34 h =>
 vguard x22 false (fun kk => vbin .neq 0 x34 (kI 1) h kk) h fun x35 h =>
 vguard x22 false (fun kk => kk x35 h) h fun x36 h =>
 vguard x36 true (fun kk => kk x0 h) h fun x37 h =>
 vguard x36 true (fun kk => vcall O (.v (.c (.func 62 []))) [x37, (kS [123])] h 38 kk) h fun x38 h =>
 vguard x36 true (fun kk => vop O (.un .not (.k x38)) h 39 kk) h fun x39 h =>
 vguard x22 false (fun kk => vop O (.pick (.k x36) (.k x39) (.k (kB false))) h 40 kk) h fun x40 h =>
 vop O (.pick (.k x22) (.k (kB true)) (.k x40)) h 41 fun x41 h =>
 vif x41 (
 vcall O (.v (.c (.func 122 []))) [x0, (kI 12)] h 43 fun x43 h =>
 vop O (.build [(.p (.int .i64 0)), (.p (.str [])), (.p .nilslice), (.p .nilslice)] []) h 44 fun x44 h =>
 vstore 4 x4 x44 h fun _ h =>
 vcell true 4 x4 h fun c0 => vfin true q [c0] h)
 (vbin .gtr 0 x1 (kI 12) h fun x46 h =>
 vif x46 (
 vcall O (.v (.c (.func 122 []))) [x0, (kI 13)] h 48 fun x48 h =>
 vop O (.build [(.p (.int .i64 0)), (.p (.str [])), (.p .nilslice), (.p .nilslice)] []) h 49 fun x49 h =>
 vstore 4 x4 x49 h fun _ h =>
 vcell true 4 x4 h fun c0 => vfin true q [c0] h)
 (vcall O (.v (.c (.func 62 []))) [x0, (kS [123])] h 51 fun x51 h =>
 vif x51 (
 vcall O (.v (.c (.func 123 []))) [x0, (kI 7), x1] h 54 fun x54 h =>
 vstore 4 x4 x54 h fun _ h =>
 vcell true 4 x4 h fun c0 => vfin true q [c0] h)
 (vcall O (.v (.c (.func 64 []))) [x0] h 56 fun x56 h =>
 vbin .eql 0 x56 (kS [66, 111, 111, 108]) h fun x59 h =>
 vif x59 (
 vop O (.build [(.p (.int .i64 0)), (.p (.str [])), (.p .nilslice), (.p .nilslice)] [(0, 1, (.k (kI 1)))]) h 60 fun x60 h =>
 vstore 4 x4 x60 h fun _ h =>
 vcell true 4 x4 h fun c0 => vfin true q [c0] h)
 (vbin .eql 0 x56 (kS [73, 110, 116]) h fun x62 h =>
 vif x62 (
 vop O (.build [(.p (.int .i64 0)), (.p (.str [])), (.p .nilslice), (.p .nilslice)] [(0, 1, (.k (kI 2)))]) h 63 fun x63 h =>
 vstore 4 x4 x63 h fun _ h =>
 vcell true 4 x4 h fun c0 => vfin true q [c0] h)
 (vbin .eql 0 x56 (kS [84, 101, 120, 116]) h fun x65 h =>
 vif x65 (
 vop O (.build [(.p (.int .i64 0)), (.p (.str [])), (.p .nilslice), (.p .nilslice)] [(0, 1, (.k (kI 3)))]) h 66 fun x66 h =>
 vstore 4 x4 x66 h fun _ h =>
 vcell true 4 x4 h fun c0 => vfin true q [c0] h)
 (vbin .eql 0 x56 (kS [76, 105, 115, 116]) h fun x68 h =>
 vif x68 (
 vcall O (.v (.c (.func 124 []))) [x0, (kI 4), x1] h 71 fun x71 h =>
 vstore 4 x4 x71 h fun _ h =>
 vcell true 4 x4 h fun c0 => vfin true q [c0] h)
 (vbin .eql 0 x56 (kS [77, 97, 112]) h fun x73 h =>
 vif x73 (
 vcall O (.v (.c (.func 124 []))) [x0, (kI 5), x1] h 76 fun x76 h =>
 vstore 4 x4 x76 h fun _ h =>
 vcell true 4 x4 h fun c0 => vfin true q [c0] h)
 (vbin .eql 0 x56 (kS [79, 112, 116]) h fun x78 h =>
 vif x78 (
 vcall O (.v (.c (.func 124 []))) [x0, (kI 6), x1] h 81 fun x81 h =>
 vstore 4 x4 x81 h fun _ h =>
 vcell true 4 x4 h fun c0 => vfin true q [c0] h)
 (vbin .eql 0 x56 (kS [85, 110, 105, 111, 110]) h fun x83 h =>
 vif x83 (
 vcall O (.v (.c (.func 62 []))) [x0, (kS [123])] h 85 fun x85 h =>
 vop O (.un .not (.k x85)) h 86 fun x86 h =>
 vif x86 (
 vcall O (.v (.c (.func 122 []))) [x0, (kI 12)] h 88 fun x88 h =>
 vop O (.build [(.p (.int .i64 0)), (.p (.str [])), (.p .nilslice), (.p .nilslice)] []) h 89 fun x89 h =>
 vstore 4 x4 x89 h fun _ h =>
 vcell true 4 x4 h fun c0 => vfin true q [c0] h)
 (vcall O (.v (.c (.func 123 []))) [x0, (kI 8), x1] h 92 fun x92 h =>
 vstore 4 x4 x92 h fun _ h =>
 vcell true 4 x4 h fun c0 => vfin true q [c0] h))
 (vop O (.build [(.p (.int .i64 0)), (.p (.str [])), (.p .nilslice), (.p .nilslice)] [(0, 1, (.k (kI 9))), (1, 1, (.k x56))]) h 94 fun x94 h =>
 vstore 4 x4 x94 h fun _ h =>
 vcell true 4 x4 h fun c0 => vfin true q [c0] h))))))))))
theorem e61_0 (O : Oracle) (R : Jump) (q : Nat) (x0 x1 : TVal) (h : Heap) : b61_0 O R q x0 x1 h = stepF c61 O R q 0 [x0, x1] h := by kernel_rfl
def d61 : BlkF := fun O R Q => [.s fun a => .s fun b => .z (b61_0 O R Q a b)]
theorem o61 (O : Oracle) (R : Jump) (q : Nat) : HoldsAll c61 O R q 0 (d61 O R q) := ⟨e61_0 O R q, trivial⟩
def c62 : MFunc := mkM (compF Tryd.prog (globs2 tabs opq) (fun _ => false) true Tryd.f62) .n
def b62_0 (O : Oracle) (R : Jump) (q : Nat) (x0 x1 : TVal) (h : Heap) : Res1 :=
 vop O (.nilck (.k x0)) h 6 fun x6 h =>
 vfaddr 2 x6 h fun x7 h =>
 vload false 1 x7 h fun x8 h =>
 vbin .eql 0 x8 (kI 0) h fun x9 h =>
 vguard x9 true (fun kk => kk x0 h) h fun x11 h =>
 vguard x9 true (fun kk => vop O (.nilck (.k x11)) h 12 kk) h fun x12 h =>
 vguard x9 true (fun kk => vfaddr 1 x12 h kk) h fun x13 h =>
 vguard x9 true (fun kk => vload false 1 x13 h kk) h fun x14 h =>
 vguard x9 true (fun kk => kk x0 h) h fun x15 h =>
 vguard x9 true (fun kk => vop O (.nilck (.k x15)) h 16 kk) h fun x16 h =>
 vguard x9 true (fun kk => vfaddr 0 x16 h kk) h fun x17 h =>
 vguard x9 true (fun kk => vload false 1 x17 h kk) h fun x18 h =>
 vguard x9 true (fun kk => vlen O 2 x18 h 19 kk) h fun x19 h =>
 vguard x9 true (fun kk => vbin .lss 0 x14 x19 h kk) h fun x20 h =>
 vop O (.pick (.k x9) (.k x20) (.k (kB false))) h 21 fun x21 h =>
 vguard x21 true (fun kk => kk x0 h) h fun x23 h =>
 vguard x21 true (fun kk => vop O (.nilck (.k x23)) h 24 kk) h fun x24 h =>
 vguard x21 true (fun kk => vfaddr 0 x24 h kk) h fun x25 h =>
 vguard x21 true (fun kk => vload false 1 x25 h kk) h fun x26 h =>
 vguard x21 true (fun kk => kk x0 h) h fun x27 h =>
 vguard x21 true (fun kk => vop O (.nilck (.k x27)) h 28 kk) h fun x28 h =>
 vguard x21 true (fun kk => vfaddr 1 x28 h kk) h fun x29 h =>
 vguard x21 true (fun kk => vload false 1 x29 h kk) h fun x30 h =>
 vguard x21 true (fun kk => viaddr 4 x26 x30 h kk) h fun x31 h =>
 vguard x21 true (fun kk => vfaddr 1 x31 h kk) h fun x32 h =>
 vguard x21 true (fun kk => vload false 1 x32 h kk) h fun x33 h =>
 vguard x21 true (fun kk => kk x1 h) h fun x34 h =>
 vguard x21 true (fun kk => vbin .eql 0 x33 x34 h kk) h fun x35 h =>
 vop O (.pick (.k x21) (.k x35) (.k (kB false))) h 36 fun x36 h =>
 vguard x36 true (fun kk => kk x0 h) h fun x38 h =>
 vguard x36 true (fun kk => vop O (.nilck (.k x38)) h 39 kk) h fun x39 h =>
 vguard x36 true (fun kk => vfaddr 0 x39 h kk) h fun x40 h =>
 vguard x36 true (fun kk => vload false 1 x40 h kk) h fun x41 h =>
 vguard x36 true (fun kk => kk x0 h) h fun x42 h =>
 vguard x36 true (fun kk => vop O (.nilck (.k x42)) h 43 kk) h fun x43 h =>
 vguard x36 true (fun kk => vfaddr 1 x43 h kk) h fun x44 h =>
 vguard x36 true (fun kk => vload false 1 x44 h kk) h fun x45 h =>
 vguard x36 true (fun kk => viaddr 4 x41 x45 h kk) h fun x46 h =>
 vguard x36 true (fun kk => vfaddr 0 x46 h kk) h fun x47 h =>
 vguard x36 true (fun kk => vload false 1 x47 h kk) h fun x48 h =>
 vguard x36 true (fun kk => vbin .neq 0 x48 (kI 2) h kk) h fun x49 h =>
 vop O (.pick (.k x36) (.k x49) (.k (kB false))) h 50 fun x50 h =>
 tcomp x50 fun c0 => vfin true q [c0] h
theorem e62_0 (O : Oracle) (R : Jump) (q : Nat) (x0 x1 : TVal) (h : Heap) : b62_0 O R q x0 x1 h = stepF c62 O R q 0 [x0, x1] h := by kernel_rfl
def d62 : BlkF := fun O R Q => [.s fun a => .s fun b => .z (b62_0 O R Q a b)]
theorem o62 (O : Oracle) (R : Jump) (q : Nat) : HoldsAll c62 O R q 0 (d62 O R q) := ⟨e62_0 O R q, trivial⟩
def c63 : MFunc := mkM (compF Tryd.prog (globs2 tabs opq) (fun _ => false) true Tryd.f63) (.s .n (.s .n (.s .n (.s (.s .n (.s (.s .n (.k (.l 1 [0, 2, 3] .n))) .n)) (.m 2 [0, 2, 3] .n)))))
def b63_0 (O : Oracle) (R : Jump) (q : Nat) (x0 : TVal) (h : Heap) : Res1 :=
 vop O (.alloc [(.p (.str [])), (.p .nilslice), (.p (.int .i64 0)), (.p (.str [])), (.p .nilslice), (.p .nilslice)] false) h 2 fun x2 h =>
 vcall O (.v (.c (.func 64 []))) [x0] h 5 fun x5 h =>
 vop O (.build [(.p (.str [])), (.p .nilslice), (.p (.int .i64 0)), (.p (.str [])), (.p .nilslice), (.p .nilslice)] [(0, 1, (.k x5))]) h 6 fun x6 h =>
 vop O (.alloc [(.p (.str [])), (.p .nilslice), (.p (.int .i64 0)), (.p (.str [])), (.p .nilslice), (.p .nilslice)] false) h 3 fun x3 h =>
 vstore 6 x3 x6 h fun _ h =>
 vcall O (.v (.c (.func 60 []))) [x0, (kS [40])] h 8 fun x8 h =>
 vcall O (.v (.c (.func 62 []))) [x0, (kS [41])] h 10 fun x10 h =>
 vop O (.un .not (.k x10)) h 11 fun x11 h =>
 vif x11 (
 vtouch O (.faddr 1 (.k x3)) h 12 fun x12 h t0 =>
 vtouch O (.load false 1 (.k x12)) h 13 fun x13 h t1 =>
 vtouch O (.mv (.k x0)) h 14 fun x14 h t2 =>
 vtouch O (.call (.k (.v (.c (.func 61 [])))) [(.k x14), (.k (kI 1))]) h 15 fun x15 h t3 =>
 vtouch O (.bslice 4 1 [(.p (.int .i64 0)), (.p (.str [])), (.p .nilslice), (.p .nilslice)] [(0, (.k x15))] false) h 16 fun x16 h t4 =>
 vtouch O (.append 4 72 false (.k x13) (.k x16)) h 17 fun x17 h t5 =>
 vtouch O (.faddr 1 (.k x3)) h 18 fun x18 h t6 =>
 vtouch O (.store 1 (.k x18) (.k x17)) h 1000000 fun _ h t7 =>
 bif apartAll [t0, t1, t2, t3, t4, t5, t6, t7] [(1, 3), (1, 4)] then
 R 1 [x0, x2, x3] h
 else none)
 (R 2 [x0, x2, x3] h)
theorem e63_0 (O : Oracle) (R : Jump) (q : Nat) (x0 : TVal) (h : Heap) : b63_0 O R q x0 h = stepF c63 O R q 0 [x0] h := by kernel_rfl
def b63_1 (O : Oracle) (R : Jump) (q : Nat) (x0 x2 x3 : TVal) (h : Heap) : Res1 :=
 vcall O (.v (.c (.func 62 []))) [x0, (kS [44])] h 20 fun x20 h =>
 vif x20 (
 vcall O (.v (.c (.func 60 []))) [x0, (kS [44])] h 22 fun x22 h =>
 vtouch O (.faddr 1 (.k x3)) h 23 fun x23 h t0 =>
 vtouch O (.load false 1 (.k x23)) h 24 fun x24 h t1 =>
 vtouch O (.mv (.k x0)) h 25 fun x25 h t2 =>
 vtouch O (.call (.k (.v (.c (.func 61 [])))) [(.k x25), (.k (kI 1))]) h 26 fun x26 h t3 =>
 vtouch O (.bslice 4 1 [(.p (.int .i64 0)), (.p (.str [])), (.p .nilslice), (.p .nilslice)] [(0, (.k x26))] false) h 27 fun x27 h t4 =>
 vtouch O (.append 4 72 false (.k x24) (.k x27)) h 28 fun x28 h t5 =>
 vtouch O (.faddr 1 (.k x3)) h 29 fun x29 h t6 =>
 vtouch O (.store 1 (.k x29) (.k x28)) h 1000000 fun _ h t7 =>
 bif apartAll [t0, t1, t2, t3, t4, t5, t6, t7] [(1, 3), (1, 4)] then
 R 1 [x0, x2, x3] h
 else none)
 (R 2 [x0, x2, x3] h)
theorem e63_1 (O : Oracle) (R : Jump) (q : Nat) (x0 x2 x3 : TVal) (h : Heap) : b63_1 O R q x0 x2 x3 h = stepF c63 O R q 1 [x0, x2, x3] h := by kernel_rfl
def b63_2 (O : Oracle) (R : Jump) (q : Nat) (x0 x2 x3 : TVal) (h : Heap) : Res1 :=
 vcall O (.v (.c (.func 60 []))) [x0, (kS [41])] h 31 fun x31 h =>
 vcall O (.v (.c (.func 60 []))) [x0, (kS [45, 62])] h 33 fun x33 h =>
 vcall O (.v (.c (.func 61 []))) [x0, (kI 1)] h 35 fun x35 h =>
 vfaddr 2 x3 h fun x36 h =>
 vstore 4 x36 x35 h fun _ h =>
 vcall O (.v (.c (.func 60 []))) [x0, (kS [59])] h 38 fun x38 h =>
 vload true 6 x3 h fun x39 h =>
 vstore 6 x2 x39 h fun _ h =>
 vcell true 6 x2 h fun c0 => vfin true q [c0] h
theorem e63_2 (O : Oracle) (R : Jump) (q : Nat) (x0 x2 x3 : TVal) (h : Heap) : b63_2 O R q x0 x2 x3 h = stepF c63 O R q 2 [x0, x2, x3] h := by kernel_rfl
def d63 : BlkF := fun O R Q => [.s fun a => .z (b63_0 O R Q a), .s fun a => .s fun b => .s fun c => .z (b63_1 O R Q a b c), .s fun a => .s fun b => .s fun c => .z (b63_2 O R Q a b c)]
theorem o63 (O : Oracle) (R : Jump) (q : Nat) : HoldsAll c63 O R q 0 (d63 O R q) := ⟨e63_0 O R q, e63_1 O R q, e63_2 O R q, trivial⟩
def c64 : MFunc := mkM (compF Tryd.prog (globs2 tabs opq) (fun _ => false) true Tryd.f64) .n
def b64_0 (O : Oracle) (R : Jump) (q : Nat) (x0 : TVal) (h : Heap) : Res1 :=
 vop O (.nilck (.k x0)) h 4 fun x4 h =>
 vfaddr 2 x4 h fun x5 h =>
 vload false 1 x5 h fun x6 h =>
 vbin .neq 0 x6 (kI 0) h fun x7 h =>
 vguard x7 false (fun kk => kk x0 h) h fun x9 h =>
 vguard x7 false (fun kk => vop O (.nilck (.k x9)) h 10 kk) h fun x10 h =>
 vguard x7 false (fun kk => vfaddr 1 x10 h kk) h fun x11 h =>
 vguard x7 false (fun kk => vload false 1 x11 h kk) h fun x12 h =>
 vguard x7 false (fun kk => kk x0 h) h fun x13 h =>
 vguard x7 false (fun kk => vop O (.nilck (.k x13)) h 14 kk) h fun x14 h =>
 vguard x7 false (fun kk => vfaddr 0 x14 h kk) h fun x15 h =>
 vguard x7 false (fun kk => vload false 1 x15 h kk) h fun x16 h =>
 vguard x7 false (fun kk => vlen O 2 x16 h 17 kk) h fun x17 h =>
 vguard x7 false (fun kk => vbin .geq 0 x12 x17 h kk) h fun x18 h =>
 vop O (.pick (.k x7) (.k (kB true)) (.k x18)) h 19 fun x19 h =>
 vguard x19 false (fun kk => kk x0 h) h fun x21 h =>
 vguard x19 false (fun kk => vop O (.nilck (.k x21)) h 22 kk) h fun x22 h =>
 vguard x19 false (fun kk => vfaddr 0 x22 h kk) h fun x23 h =>
 vguard x19 false (fun kk => vload false 1 x23 h kk) h fun x24 h =>
 vguard x19 false (fun kk => kk x0 h) h fun x25 h =>
 vguard x19 false (fun kk => vop O (.nilck (.k x25)) h 26 kk) h fun x26 h =>
 vguard x19 false (fun kk => vfaddr 1 x26 h kk) h fun x27 h =>
 vguard x19 false (fun kk => vload false 1 x27 h kk) h fun x28 h =>
 vguard x19 false (fun kk => viaddr 4 x24 x28 h kk) h fun x29 h =>
 vguard x19 false (fun kk => vfaddr 0 x29 h kk) h fun x30 h =>
 vguard x19 false (fun kk => vload false 1 x30 h kk) h fun x31 h =>
 vguard x19 false (fun kk => vbin .neq 0 x31 (kI 1) h kk) h fun x32 h =>
 vop O (.pick (.k x19) (.k (kB true)) (.k x32)) h 33 fun x33 h =>
 vif x33 (
 vcall O (.v (.c (.func 122 []))) [x0, (kI 12)] h 35 fun x35 h =>
 tcomp (kS []) fun c0 => vfin true q [c0] h)
 (vop O (.nilck (.k x0)) h 37 fun x37 h =>
 vfaddr 1 x37 h fun x38 h =>
 vload false 1 x38 h fun x39 h =>
 vbin .add 0 x39 (kI 1) h fun x40 h =>
 vop O (.nilck (.k x0)) h 41 fun x41 h =>
 vfaddr 1 x41 h fun x42 h =>
 vstore 1 x42 x40 h fun _ h =>
 vop O (.nilck (.k x0)) h 44 fun x44 h =>
 vfaddr 0 x44 h fun x45 h =>
 vload false 1 x45 h fun x46 h =>
 vop O (.nilck (.k x0)) h 48 fun x48 h =>
 vfaddr 1 x48 h fun x49 h =>
 vload false 1 x49 h fun x50 h =>
 vbin .sub 0 x50 (kI 1) h fun x51 h =>
 viaddr 4 x46 x51 h fun x52 h =>
 vfaddr 1 x52 h fun x53 h =>
 vload false 1 x53 h fun x54 h =>
 tcomp x54 fun c0 => vfin true q [c0] h)
theorem e64_0 (O : Oracle) (R : Jump) (q : Nat) (x0 : TVal) (h : Heap) : b64_0 O R q x0 h = stepF c64 O R q 0 [x0] h := by kernel_rfl
def d64 : BlkF := fun O R Q => [.s fun a => .z (b64_0 O R Q a)]
theorem o64 (O : Oracle) (R : Jump) (q : Nat) : HoldsAll c64 O R q 0 (d64 O R q) := ⟨e64_0 O R q, trivial⟩
def c65 : MFunc := mkM (compF Tryd.prog (globs2 tabs opq) (fun _ => false) true Tryd.f65) (.s .n (.s .n (.m 1 [0] (.s .n (.m 2 [0] .n)))))
def b65_0 (O : Oracle) (R : Jump) (q : Nat) (x0 : TVal) (h : Heap) : Res1 :=
 vop O (.nilck (.k x0)) h 4 fun x4 h =>
 vfaddr 1 x4 h fun x5 h =>
 vload false 1 x5 h fun x6 h =>
 vop O (.nilck (.k x0)) h 8 fun x8 h =>
 vfaddr 0 x8 h fun x9 h =>
 vload false 1 x9 h fun x10 h =>
 vlen O 2 x10 h 11 fun x11 h =>
 vbin .lss 0 x6 x11 h fun x12 h =>
 vif x12 (
 vcall O (.v (.c (.func 122 []))) [x0, (kI 12)] h 14 fun x14 h =>
 R 1 [x0] h)
 (R 1 [x0] h)
theorem e65_0 (O : Oracle) (R : Jump) (q : Nat) (x0 : TVal) (h : Heap) : b65_0 O R q x0 h = stepF c65 O R q 0 [x0] h := by kernel_rfl
def b65_1 (O : Oracle) (R : Jump) (q : Nat) (x0 : TVal) (h : Heap) : Res1 :=
 vop O (.nilck (.k x0)) h 16 fun x16 h =>
 vfaddr 3 x16 h fun x17 h =>
 vload false 1 x17 h fun x18 h =>
 vif x18 (
 vcall O (.v (.c (.func 122 []))) [x0, (kI 6)] h 20 fun x20 h =>
 R 2 [x0] h)
 (R 2 [x0] h)
theorem e65_1 (O : Oracle) (R : Jump) (q : Nat) (x0 : TVal) (h : Heap) : b65_1 O R q x0 h = stepF c65 O R q 1 [x0] h := by kernel_rfl
def b65_2 (O : Oracle) (R : Jump) (q : Nat) (x0 : TVal) (h : Heap) : Res1 :=
 vop O (.nilck (.k x0)) h 22 fun x22 h =>
 vfaddr 2 x22 h fun x23 h =>
 vload false 1 x23 h fun x24 h =>
 tcomp x24 fun c0 => vfin true q [c0] h
theorem e65_2 (O : Oracle) (R : Jump) (q : Nat) (x0 : TVal) (h : Heap) : b65_2 O R q x0 h = stepF c65 O R q 2 [x0] h := by kernel_rfl
def d65 : BlkF := fun O R Q => [.s fun a => .z (b65_0 O R Q a), .s fun a => .z (b65_1 O R Q a), .s fun a => .z (b65_2 O R Q a)]
theorem o65 (O : Oracle) (R : Jump) (q : Nat) : HoldsAll c65 O R q 0 (d65 O R q) := ⟨e65_0 O R q, e65_1 O R q, e65_2 O R q, trivial⟩
def c66 : MFunc := mkM (compF Tryd.prog (globs2 tabs opq) (fun _ => false) true Tryd.f66) .n
def b66_0 (O : Oracle) (R : Jump) (q : Nat) (x0 x1 : TVal) (h : Heap) : Res1 :=
 vop O (.alloc [(.p (.int .i64 0)), (.p (.bool false)), (.p (.int .i64 0)), (.p (.str [])), (.p .nilslice), (.p .nilslice)] false) h 4 fun x4 h =>
 vcall O (.v (.c (.func 67 []))) [x0] h 9 fun x9 h =>
 vop O (.nilck (.k x0)) h 11 fun x11 h =>
 vfaddr 2 x11 h fun x12 h =>
 vload false 1 x12 h fun x13 h =>
 vbin .neq 0 x13 (kI 0) h fun x14 h =>
 vguard x14 false (fun kk => kk x0 h) h fun x16 h =>
 vguard x14 false (fun kk => vop O (.nilck (.k x16)) h 17 kk) h fun x17 h =>
 vguard x14 false (fun kk => vfaddr 1 x17 h kk) h fun x18 h =>
 vguard x14 false (fun kk => vload false 1 x18 h kk) h fun x19 h =>
 vguard x14 false (fun kk => kk x0 h) h fun x20 h =>
 vguard x14 false (fun kk => vop O (.nilck (.k x20)) h 21 kk) h fun x21 h =>
 vguard x14 false (fun kk => vfaddr 0 x21 h kk) h fun x22 h =>
 vguard x14 false (fun kk => vload false 1 x22 h kk) h fun x23 h =>
 vguard x14 false (fun kk => vlen O 0 x23 h 24 kk) h fun x24 h =>
 vguard x14 false (fun kk => vbin .geq 0 x19 x24 h kk) h fun x25 h =>
 vop O (.pick (.k x14) (.k (kB true)) (.k x25)) h 26 fun x26 h =>
 vif x26 (
 vcall O (.v (.c (.func 68 []))) [x0, (kI 12)] h 28 fun x28 h =>
 vop O (.build [(.p (.int .i64 0)), (.p (.bool false)), (.p (.int .i64 0)), (.p (.str [])), (.p .nilslice), (.p .nilslice)] []) h 29 fun x29 h =>
 vstore 6 x4 x29 h fun _ h =>
 vcell true 6 x4 h fun c0 => vfin true q [c0] h)
 (vop O (.nilck (.k x0)) h 31 fun x31 h =>
 vfaddr 0 x31 h fun x32 h =>
 vload false 1 x32 h fun x33 h =>
 vop O (.nilck (.k x0)) h 35 fun x35 h =>
 vfaddr 1 x35 h fun x36 h =>
 vload false 1 x36 h fun x37 h =>
 vindex x33 x37 h fun x38 h =>
 vcall O (.v (.c (.func 125 []))) [x0] h 41 fun x41 h =>
 vext x41 0 h fun x42 h =>
 vext x41 1 h fun x43 h =>
 vop O (.alloc [(.p (.int .i64 0)), (.p (.bool false)), (.p (.int .i64 0)), (.p (.str [])), (.p .nilslice), (.p .nilslice)] false) h 6 fun x6 h =>
 vstore 6 x6 x42 h fun _ h =>
 vop O (.un .not (.k x43)) h 45 fun x45 h =>
 vguard x45 true (fun kk => kk x38 h) h fun x47 h =>
 vguard x45 true (fun kk => vbin .neq 0 x47 (.v (.c (.p (.int .u8 34)))) h kk) h fun x48 h =>
 vop O (.pick (.k x45) (.k x48) (.k (kB false))) h 49 fun x49 h =>
 vguard x49 true (fun kk => kk x38 h) h fun x51 h =>
 vguard x49 true (fun kk => vbin .neq 0 x51 (.v (.c (.p (.int .u8 45)))) h kk) h fun x52 h =>
 vop O (.pick (.k x49) (.k x52) (.k (kB false))) h 53 fun x53 h =>
 vguard x53 true (fun kk => kk x38 h) h fun x55 h =>
 vguard x53 true (fun kk => vcall O (.v (.c (.func 126 []))) [x55] h 56 kk) h fun x56 h =>
 vguard x53 true (fun kk => vop O (.un .not (.k x56)) h 57 kk) h fun x57 h =>
 vop O (.pick (.k x53) (.k x57) (.k (kB false))) h 58 fun x58 h =>
 vguard x58 true (fun kk => kk x38 h) h fun x60 h =>
 vguard x58 true (fun kk => vbin .neq 0 x60 (.v (.c (.p (.int .u8 91)))) h kk) h fun x61 h =>
 vop O (.pick (.k x58) (.k x61) (.k (kB false))) h 62 fun x62 h =>
 vguard x62 true (fun kk => kk x38 h) h fun x64 h =>
 vguard x62 true (fun kk => vbin .neq 0 x64 (.v (.c (.p (.int .u8 123)))) h kk) h fun x65 h =>
 vop O (.pick (.k x62) (.k x65) (.k (kB false))) h 66 fun x66 h =>
 vif x66 (
 vcall O (.v (.c (.func 68 []))) [x0, (kI 12)] h 68 fun x68 h =>
 vop O (.build [(.p (.int .i64 0)), (.p (.bool false)), (.p (.int .i64 0)), (.p (.str [])), (.p .nilslice), (.p .nilslice)] []) h 69 fun x69 h =>
 vstore 6 x4 x69 h fun _ h =>
 vcell true 6 x4 h fun c0 => vfin true q [c0] h)
 (vbin .gtr 0 x1 (kI 12) h fun x71 h =>
 vif x71 (
 vcall O (.v (.c (.func 68 []))) [x0, (kI 13)] h 73 fun x73 h =>
 vop O (.build [(.p (.int .i64 0)), (.p (.bool false)), (.p (.int .i64 0)), (.p (.str [])), (.p .nilslice), (.p .nilslice)] []) h 74 fun x74 h =>
 vstore 6 x4 x74 h fun _ h =>
 vcell true 6 x4 h fun c0 => vfin true q [c0] h)
 (vif x43 (
 vload true 6 x6 h fun x77 h =>
 vstore 6 x4 x77 h fun _ h =>
 vcell true 6 x4 h fun c0 => vfin true q [c0] h)
 (vbin .eql 0 x38 (.v (.c (.p (.int .u8 34)))) h fun x80 h =>
 vif x80 (
 vcall O (.v (.c (.func 127 []))) [x0] h 82 fun x82 h =>
 vop O (.build [(.p (.int .i64 0)), (.p (.bool false)), (.p (.int .i64 0)), (.p (.str [])), (.p .nilslice), (.p .nilslice)] [(0, 1, (.k (kI 3))), (3, 1, (.k x82))]) h 83 fun x83 h =>
 vstore 6 x4 x83 h fun _ h =>
 vcell true 6 x4 h fun c0 => vfin true q [c0] h)
 (vbin .eql 0 x38 (.v (.c (.p (.int .u8 91)))) h fun x86 h =>
 vif x86 (
 vcall O (.v (.c (.func 128 []))) [x0, x1] h 89 fun x89 h =>
 vstore 6 x4 x89 h fun _ h =>
 vcell true 6 x4 h fun c0 => vfin true q [c0] h)
 (vbin .eql 0 x38 (.v (.c (.p (.int .u8 123)))) h fun x92 h =>
 vif x92 (
 vcall O (.v (.c (.func 129 []))) [x0, x1] h 95 fun x95 h =>
 vstore 6 x4 x95 h fun _ h =>
 vcell true 6 x4 h fun c0 => vfin true q [c0] h)
 (vcall O (.v (.c (.func 130 []))) [x0] h 97 fun x97 h =>
 vstore 6 x4 x97 h fun _ h =>
 vcell true 6 x4 h fun c0 => vfin true q [c0] h)))))))
theorem e66_0 (O : Oracle) (R : Jump) (q : Nat) (x0 x1 : TVal) (h : Heap) : b66_0 O R q x0 x1 h = stepF c66 O R q 0 [x0, x1] h := by kernel_rfl
def d66 : BlkF := fun O R Q => [.s fun a => .s fun b => .z (b66_0 O R Q a b)]
theorem o66 (O : Oracle) (R : Jump) (q : Nat) : HoldsAll c66 O R q 0 (d66 O R q) := ⟨e66_0 O R q, trivial⟩
def c67 : MFunc := mkM (compF Tryd.prog (globs2 tabs opq) (fun _ => false) true Tryd.f67) (.k (.l 1 [0] .n))
def b67_0 (O : Oracle) (R : Jump) (q : Nat) (x0 : TVal) (h : Heap) : Res1 :=
 R 1 [x0] h
theorem e67_0 (O : Oracle) (R : Jump) (q : Nat) (x0 : TVal) (h : Heap) : b67_0 O R q x0 h = stepF c67 O R q 0 [x0] h := by kernel_rfl
def b67_1 (O : Oracle) (R : Jump) (q : Nat) (x0 : TVal) (h : Heap) : Res1 :=
 vop O (.nilck (.k x0)) h 3 fun x3 h =>
 vfaddr 1 x3 h fun x4 h =>
 vload false 1 x4 h fun x5 h =>
 vop O (.nilck (.k x0)) h 7 fun x7 h =>
 vfaddr 0 x7 h fun x8 h =>
 vload false 1 x8 h fun x9 h =>
 vlen O 0 x9 h 10 fun x10 h =>
 vbin .lss 0 x5 x10 h fun x11 h =>
 vguard x11 true (fun kk => kk x0 h) h fun x13 h =>
 vguard x11 true (fun kk => vop O (.nilck (.k x13)) h 14 kk) h fun x14 h =>
 vguard x11 true (fun kk => vfaddr 0 x14 h kk) h fun x15 h =>
 vguard x11 true (fun kk => vload false 1 x15 h kk) h fun x16 h =>
 vguard x11 true (fun kk => kk x0 h) h fun x17 h =>
 vguard x11 true (fun kk => vop O (.nilck (.k x17)) h 18 kk) h fun x18 h =>
 vguard x11 true (fun kk => vfaddr 1 x18 h kk) h fun x19 h =>
 vguard x11 true (fun kk => vload false 1 x19 h kk) h fun x20 h =>
 vguard x11 true (fun kk => vindex x16 x20 h kk) h fun x21 h =>
 vguard x11 true (fun kk => vbin .eql 0 x21 (.v (.c (.p (.int .u8 32)))) h kk) h fun x22 h =>
 vguard x11 true (fun kk => kk x22 h) h fun x23 h =>
 vguard x23 false (fun kk => kk x0 h) h fun x24 h =>
 vguard x23 false (fun kk => vop O (.nilck (.k x24)) h 25 kk) h fun x25 h =>
 vguard x23 false (fun kk => vfaddr 0 x25 h kk) h fun x26 h =>
 vguard x23 false (fun kk => vload false 1 x26 h kk) h fun x27 h =>
 vguard x23 false (fun kk => kk x0 h) h fun x28 h =>
 vguard x23 false (fun kk => vop O (.nilck (.k x28)) h 29 kk) h fun x29 h =>
 vguard x23 false (fun kk => vfaddr 1 x29 h kk) h fun x30 h =>
 vguard x23 false (fun kk => vload false 1 x30 h kk) h fun x31 h =>
 vguard x23 false (fun kk => vindex x27 x31 h kk) h fun x32 h =>
 vguard x23 false (fun kk => vbin .eql 0 x32 (.v (.c (.p (.int .u8 9)))) h kk) h fun x33 h =>
 vguard x11 true (fun kk => vop O (.pick (.k x23) (.k (kB true)) (.k x33)) h 34 kk) h fun x34 h =>
 vguard x11 true (fun kk => kk x34 h) h fun x35 h =>
 vguard x35 false (fun kk => kk x0 h) h fun x36 h =>
 vguard x35 false (fun kk => vop O (.nilck (.k x36)) h 37 kk) h fun x37 h =>
 vguard x35 false (fun kk => vfaddr 0 x37 h kk) h fun x38 h =>
 vguard x35 false (fun kk => vload false 1 x38 h kk) h fun x39 h =>
 vguard x35 false (fun kk => kk x0 h) h fun x40 h =>
 vguard x35 false (fun kk => vop O (.nilck (.k x40)) h 41 kk) h fun x41 h =>
 vguard x35 false (fun kk => vfaddr 1 x41 h kk) h fun x42 h =>
 vguard x35 false (fun kk => vload false 1 x42 h kk) h fun x43 h =>
 vguard x35 false (fun kk => vindex x39 x43 h kk) h fun x44 h =>
 vguard x35 false (fun kk => vbin .eql 0 x44 (.v (.c (.p (.int .u8 10)))) h kk) h fun x45 h =>
 vguard x11 true (fun kk => vop O (.pick (.k x35) (.k (kB true)) (.k x45)) h 46 kk) h fun x46 h =>
 vguard x11 true (fun kk => kk x46 h) h fun x47 h =>
 vguard x47 false (fun kk => kk x0 h) h fun x48 h =>
 vguard x47 false (fun kk => vop O (.nilck (.k x48)) h 49 kk) h fun x49 h =>
 vguard x47 false (fun kk => vfaddr 0 x49 h kk) h fun x50 h =>
 vguard x47 false (fun kk => vload false 1 x50 h kk) h fun x51 h =>
 vguard x47 false (fun kk => kk x0 h) h fun x52 h =>
 vguard x47 false (fun kk => vop O (.nilck (.k x52)) h 53 kk) h fun x53 h =>
 vguard x47 false (fun kk => vfaddr 1 x53 h kk) h fun x54 h =>
 vguard x47 false (fun kk => vload false 1 x54 h kk) h fun x55 h =>
 vguard x47 false (fun kk => vindex x51 x55 h kk) h fun x56 h =>
 vguard x47 false (fun kk => vbin .eql 0 x56 (.v (.c (.p (.int .u8 13)))) h kk) h fun x57 h =>
 vguard x11 true (fun kk => vop O (.pick (.k x47) (.k (kB true)) (.k x57)) h 58 kk) h fun x58 h =>
 vop O (.pick (.k x11) (.k x58) (.k (kB false))) h 59 fun x59 h =>
 vif x59 (
 vop O (.nilck (.k x0)) h 61 fun x61 h =>
 vfaddr 1 x61 h fun x62 h =>
 vload false 1 x62 h fun x63 h =>
 vbin .add 0 x63 (kI 1) h fun x64 h =>
 vop O (.nilck (.k x0)) h 65 fun x65 h =>
 vfaddr 1 x65 h fun x66 h =>
 vstore 1 x66 x64 h fun _ h =>
 R 1 [x0] h)
 (vfin true q [] h)
theorem e67_1 (O : Oracle) (R : Jump) (q : Nat) (x0 : TVal) (h : Heap) : b67_1 O R q x0 h = stepF c67 O R q 1 [x0] h := by kernel_rfl
def d67 : BlkF := fun O R Q => [.s fun a => .z (b67_0 O R Q a), .s fun a => .z (b67_1 O R Q a)]
theorem o67 (O : Oracle) (R : Jump) (q : Nat) : HoldsAll c67 O R q 0 (d67 O R q) := ⟨e67_0 O R q, e67_1 O R q, trivial⟩
def c68 : MFunc := mkM (compF Tryd.prog (globs2 tabs opq) (fun _ => false) true Tryd.f68) .n
def b68_0 (O : Oracle) (R : Jump) (q : Nat) (x0 x1 : TVal) (h : Heap) : Res1 :=
 vop O (.nilck (.k x0)) h 5 fun x5 h =>
 vfaddr 2 x5 h fun x6 h =>
 vload false 1 x6 h fun x7 h =>
 vbin .eql 0 x7 (kI 0) h fun x8 h =>
 vif x8 (
 vop O (.nilck (.k x0)) h 11 fun x11 h =>
 vfaddr 2 x11 h fun x12 h =>
 vstore 1 x12 x1 h fun _ h =>
 vfin true q [] h)
 (vfin true q [] h)
theorem e68_0 (O : Oracle) (R : Jump) (q : Nat) (x0 x1 : TVal) (h : Heap) : b68_0 O R q x0 x1 h = stepF c68 O R q 0 [x0, x1] h := by kernel_rfl
def d68 : BlkF := fun O R Q => [.s fun a => .s fun b => .z (b68_0 O R Q a b)]
theorem o68 (O : Oracle) (R : Jump) (q : Nat) : HoldsAll c68 O R q 0 (d68 O R q) := ⟨e68_0 O R q, trivial⟩
def c69 : MFunc := mkM (compF Tryd.prog (globs2 tabs opq) (fun _ => false) true Tryd.f69) (.s .n (.s .n (.s .n (.s .n (.s (.s .n (.k (.s .n (.s (.s .n (.k (.l 1 [0, 4, 5, 6, 7, 47, 48, 49] .n))) (.s .n (.s .n (.s .n (.m 2 [0, 4, 5, 6, 7, 106] (.s (.s .n (.s .n (.k (.l 3 [0, 4, 6, 7, 114, 115, 116] .n)))) .n))))))))) (.m 4 [6, 7] .n))))))
def b69_0 (O : Oracle) (R : Jump) (q : Nat) (x0 x1 x2 : TVal) (h : Heap) : Res1 :=
 vop O (.box (.k x1) false) h 4 fun x4 h =>
 vop O (.box (.k x2) false) h 5 fun x5 h =>
 vop O (.alloc [(.p (.int .i64 0)), (.p (.bool false)), (.p (.int .i64 0)), (.p (.str [])), (.p .nilslice), (.p .nilslice)] false) h 6 fun x6 h =>
 vload true 4 x4 h fun x16 h =>
 vcall O (.v (.c (.func 113 []))) [x0, x16] h 17 fun x17 h =>
 vstore 4 x4 x17 h fun _ h =>
 vfaddr 0 x4 h fun x18 h =>
 vload false 1 x18 h fun x19 h =>
 vbin .eql 0 x19 (kI 6) h fun x20 h =>
 vguard x20 true (fun kk => vfaddr 0 x5 h kk) h fun x22 h =>
 vguard x20 true (fun kk => vload false 1 x22 h kk) h fun x23 h =>
 vguard x20 true (fun kk => vbin .neq 0 x23 (kI 0) h kk) h fun x24 h =>
 vop O (.pick (.k x20) (.k x24) (.k (kB false))) h 25 fun x25 h =>
 vif x25 (
 vfaddr 3 x4 h fun x27 h =>
 vload false 1 x27 h fun x28 h =>
 viaddr 4 x28 (kI 0) h fun x29 h =>
 vload true 4 x29 h fun x30 h =>
 vload true 6 x5 h fun x31 h =>
 vcall O (.v (.c (.func 69 []))) [x0, x30, x31] h 32 fun x32 h =>
 vstore 6 x6 x32 h fun _ h =>
 vcell true 6 x6 h fun c0 => vfin true q [c0] h)
 (vfaddr 0 x5 h fun x33 h =>
 vload false 1 x33 h fun x34 h =>
 vfaddr 1 x5 h fun x35 h =>
 vload false 1 x35 h fun x36 h =>
 vfaddr 2 x5 h fun x37 h =>
 vload false 1 x37 h fun x38 h =>
 vfaddr 3 x5 h fun x39 h =>
 vload false 1 x39 h fun x40 h =>
 vop O (.build [(.p (.int .i64 0)), (.p (.bool false)), (.p (.int .i64 0)), (.p (.str [])), (.p .nilslice), (.p .nilslice)] [(0, 1, (.k x34)), (1, 1, (.k x36)), (2, 1, (.k x38)), (3, 1, (.k x40))]) h 41 fun x41 h =>
 vop O (.alloc [(.p (.int .i64 0)), (.p (.bool false)), (.p (.int .i64 0)), (.p (.str [])), (.p .nilslice), (.p .nilslice)] false) h 7 fun x7 h =>
 vstore 6 x7 x41 h fun _ h =>
 vfaddr 0 x4 h fun x42 h =>
 vload false 1 x42 h fun x43 h =>
 vbin .eql 0 x43 (kI 7) h fun x45 h =>
 vif x45 (
 vfaddr 2 x4 h fun x46 h =>
 vload false 1 x46 h fun x47 h =>
 vlen O 2 x47 h 48 fun x48 h =>
 R 1 [x0, x4, x5, x6, x7, x47, x48, (kI 0)] h)
 (vbin .eql 0 x43 (kI 8) h fun x81 h =>
 vif x81 (
 vfaddr 2 x4 h fun x82 h =>
 vload false 1 x82 h fun x83 h =>
 vfaddr 4 x5 h fun x84 h =>
 vload false 1 x84 h fun x85 h =>
 viaddr 1 x85 (kI 0) h fun x86 h =>
 vload false 1 x86 h fun x87 h =>
 vcall O (.v (.c (.func 131 []))) [x83, x87] h 88 fun x88 h =>
 vtouch O (.faddr 4 (.k x5)) h 89 fun x89 h t0 =>
 vtouch O (.load false 1 (.k x89)) h 90 fun x90 h t1 =>
 vtouch O (.call (.k (.v (.c (.func 132 [])))) [(.k x90)]) h 91 fun x91 h t2 =>
 vtouch O (.mv (.k x0)) h 92 fun x92 h t3 =>
 vtouch O (.faddr 3 (.k x4)) h 93 fun x93 h t4 =>
 vtouch O (.load false 1 (.k x93)) h 94 fun x94 h t5 =>
 vtouch O (.mv (.k x88)) h 95 fun x95 h t6 =>
 vtouch O (.iaddr 4 (.k x94) (.k x95)) h 96 fun x96 h t7 =>
 vtouch O (.load true 4 (.k x96)) h 97 fun x97 h t8 =>
 vtouch O (.faddr 5 (.k x5)) h 98 fun x98 h t9 =>
 vtouch O (.load false 1 (.k x98)) h 99 fun x99 h t10 =>
 vtouch O (.iaddr 6 (.k x99) (.k (kI 0))) h 100 fun x100 h t11 =>
 vtouch O (.load true 6 (.k x100)) h 101 fun x101 h t12 =>
 vtouch O (.call (.k (.v (.c (.func 69 [])))) [(.k x92), (.k x97), (.k x101)]) h 102 fun x102 h t13 =>
 vtouch O (.bslice 6 1 [(.p (.int .i64 0)), (.p (.bool false)), (.p (.int .i64 0)), (.p (.str [])), (.p .nilslice), (.p .nilslice)] [(0, (.k x102))] false) h 103 fun x103 h t14 =>
 vtouch O (.faddr 4 (.k x7)) h 104 fun x104 h t15 =>
 vtouch O (.store 1 (.k x104) (.k x91)) h 1000000 fun _ h t16 =>
 vtouch O (.faddr 5 (.k x7)) h 105 fun x105 h t17 =>
 vtouch O (.store 1 (.k x105) (.k x103)) h 1000000 fun _ h t18 =>
 bif apartAll [t0, t1, t2, t3, t4, t5, t6, t7, t8, t9, t10, t11, t12, t13, t14, t15, t16, t17, t18] [(2, 5), (2, 8), (2, 10), (2, 12), (14, 16)] then
 R 4 [x6, x7] h
 else none)
 (vbin .eql 0 x43 (kI 4) h fun x107 h =>
 vif x107 (
 R 2 [x0, x4, x5, x6, x7, x107] h)
 (vbin .eql 0 x43 (kI 5) h fun x108 h =>
 R 2 [x0, x4, x5, x6, x7, x108] h))))
theorem e69_0 (O : Oracle) (R : Jump) (q : Nat) (x0 x1 x2 : TVal) (h : Heap) : b69_0 O R q x0 x1 x2 h = stepF c69 O R q 0 [x0, x1, x2] h := by kernel_rfl
def b69_1 (O : Oracle) (R : Jump) (q : Nat) (x0 x4 x5 x6 x7 x47 x48 x49 : TVal) (h : Heap) : Res1 :=
 vbin .lss 0 x49 x48 h fun x50 h =>
 vif x50 (
 viaddr 1 x47 x49 h fun x52 h =>
 vload false 1 x52 h fun x53 h =>
 vload true 6 x5 h fun x55 h =>
 vcall O (.v (.c (.func 93 []))) [x55, x53] h 57 fun x57 h =>
 vext x57 0 h fun x58 h =>
 vext x57 1 h fun x59 h =>
 vop O (.alloc [(.p (.int .i64 0)), (.p (.bool false)), (.p (.int .i64 0)), (.p (.str [])), (.p .nilslice), (.p .nilslice)] false) h 10 fun x10 h =>
 vstore 6 x10 x58 h fun _ h =>
 vtouch O (.faddr 4 (.k x7)) h 60 fun x60 h t0 =>
 vtouch O (.load false 1 (.k x60)) h 61 fun x61 h t1 =>
 vtouch O (.mv (.k x53)) h 62 fun x62 h t2 =>
 vtouch O (.bslice 1 1 [(.p (.str []))] [(0, (.k x62))] false) h 63 fun x63 h t3 =>
 vtouch O (.append 1 16 false (.k x61) (.k x63)) h 64 fun x64 h t4 =>
 vtouch O (.faddr 5 (.k x7)) h 65 fun x65 h t5 =>
 vtouch O (.load false 1 (.k x65)) h 66 fun x66 h t6 =>
 vtouch O (.mv (.k x0)) h 67 fun x67 h t7 =>
 vtouch O (.faddr 3 (.k x4)) h 68 fun x68 h t8 =>
 vtouch O (.load false 1 (.k x68)) h 69 fun x69 h t9 =>
 vtouch O (.mv (.k x49)) h 70 fun x70 h t10 =>
 vtouch O (.iaddr 4 (.k x69) (.k x70)) h 71 fun x71 h t11 =>
 vtouch O (.load true 4 (.k x71)) h 72 fun x72 h t12 =>
 vtouch O (.load true 6 (.k x10)) h 73 fun x73 h t13 =>
 vtouch O (.call (.k (.v (.c (.func 69 [])))) [(.k x67), (.k x72), (.k x73)]) h 74 fun x74 h t14 =>
 vtouch O (.bslice 6 1 [(.p (.int .i64 0)), (.p (.bool false)), (.p (.int .i64 0)), (.p (.str [])), (.p .nilslice), (.p .nilslice)] [(0, (.k x74))] false) h 75 fun x75 h t15 =>
 vtouch O (.append 6 88 false (.k x66) (.k x75)) h 76 fun x76 h t16 =>
 vtouch O (.faddr 4 (.k x7)) h 77 fun x77 h t17 =>
 vtouch O (.store 1 (.k x77) (.k x64)) h 1000000 fun _ h t18 =>
 vtouch O (.faddr 5 (.k x7)) h 78 fun x78 h t19 =>
 vtouch O (.store 1 (.k x78) (.k x76)) h 1000000 fun _ h t20 =>
 bif apartAll [t0, t1, t2, t3, t4, t5, t6, t7, t8, t9, t10, t11, t12, t13, t14, t15, t16, t17, t18, t19, t20] [(1, 3), (3, 6), (4, 6), (3, 9), (4, 9), (3, 12), (4, 12), (3, 13), (4, 13), (6, 14), (6, 15)] then
 vbin .add 0 x49 (kI 1) h fun x79 h =>
 R 1 [x0, x4, x5, x6, x7, x47, x48, x79] h
 else none)
 (R 4 [x6, x7] h)
theorem e69_1 (O : Oracle) (R : Jump) (q : Nat) (x0 x4 x5 x6 x7 x47 x48 x49 : TVal) (h : Heap) : b69_1 O R q x0 x4 x5 x6 x7 x47 x48 x49 h = stepF c69 O R q 1 [x0, x4, x5, x6, x7, x47, x48, x49] h := by kernel_rfl
def b69_2 (O : Oracle) (R : Jump) (q : Nat) (x0 x4 x5 x6 x7 x106 : TVal) (h : Heap) : Res1 :=
 vif x106 (
 vfaddr 4 x5 h fun x109 h =>
 vload false 1 x109 h fun x110 h =>
 vcall O (.v (.c (.func 132 []))) [x110] h 111 fun x111 h =>
 vfaddr 4 x7 h fun x112 h =>
 vstore 1 x112 x111 h fun _ h =>
 vfaddr 5 x5 h fun x113 h =>
 vload false 1 x113 h fun x114 h =>
 vlen O 2 x114 h 115 fun x115 h =>
 R 3 [x0, x4, x6, x7, x114, x115, (kI 0)] h)
 (R 4 [x6, x7] h)
theorem e69_2 (O : Oracle) (R : Jump) (q : Nat) (x0 x4 x5 x6 x7 x106 : TVal) (h : Heap) : b69_2 O R q x0 x4 x5 x6 x7 x106 h = stepF c69 O R q 2 [x0, x4, x5, x6, x7, x106] h := by kernel_rfl
def b69_3 (O : Oracle) (R : Jump) (q : Nat) (x0 x4 x6 x7 x114 x115 x116 : TVal) (h : Heap) : Res1 :=
 vbin .lss 0 x116 x115 h fun x117 h =>
 vif x117 (
 viaddr 6 x114 x116 h fun x118 h =>
 vload true 6 x118 h fun x119 h =>
 vop O (.alloc [(.p (.int .i64 0)), (.p (.bool false)), (.p (.int .i64 0)), (.p (.str [])), (.p .nilslice), (.p .nilslice)] false) h 14 fun x14 h =>
 vstore 6 x14 x119 h fun _ h =>
 vtouch O (.faddr 5 (.k x7)) h 120 fun x120 h t0 =>
 vtouch O (.load false 1 (.k x120)) h 121 fun x121 h t1 =>
 vtouch O (.mv (.k x0)) h 122 fun x122 h t2 =>
 vtouch O (.faddr 3 (.k x4)) h 123 fun x123 h t3 =>
 vtouch O (.load false 1 (.k x123)) h 124 fun x124 h t4 =>
 vtouch O (.iaddr 4 (.k x124) (.k (kI 0))) h 125 fun x125 h t5 =>
 vtouch O (.load true 4 (.k x125)) h 126 fun x126 h t6 =>
 vtouch O (.load true 6 (.k x14)) h 127 fun x127 h t7 =>
 vtouch O (.call (.k (.v (.c (.func 69 [])))) [(.k x122), (.k x126), (.k x127)]) h 128 fun x128 h t8 =>
 vtouch O (.bslice 6 1 [(.p (.int .i64 0)), (.p (.bool false)), (.p (.int .i64 0)), (.p (.str [])), (.p .nilslice), (.p .nilslice)] [(0, (.k x128))] false) h 129 fun x129 h t9 =>
 vtouch O (.append 6 88 false (.k x121) (.k x129)) h 130 fun x130 h t10 =>
 vtouch O (.faddr 5 (.k x7)) h 131 fun x131 h t11 =>
 vtouch O (.store 1 (.k x131) (.k x130)) h 1000000 fun _ h t12 =>
 bif apartAll [t0, t1, t2, t3, t4, t5, t6, t7, t8, t9, t10, t11, t12] [(1, 8), (1, 9)] then
 vbin .add 0 x116 (kI 1) h fun x132 h =>
 R 3 [x0, x4, x6, x7, x114, x115, x132] h
 else none)
 (R 4 [x6, x7] h)
theorem e69_3 (O : Oracle) (R : Jump) (q : Nat) (x0 x4 x6 x7 x114 x115 x116 : TVal) (h : Heap) : b69_3 O R q x0 x4 x6 x7 x114 x115 x116 h = stepF c69 O R q 3 [x0, x4, x6, x7, x114, x115, x116] h := by kernel_rfl
def b69_4 (O : Oracle) (R : Jump) (q : Nat) (x6 x7 : TVal) (h : Heap) : Res1 :=
 vload true 6 x7 h fun x133 h =>
 vstore 6 x6 x133 h fun _ h =>
 vcell true 6 x6 h fun c0 => vfin true q [c0] h
theorem e69_4 (O : Oracle) (R : Jump) (q : Nat) (x6 x7 : TVal) (h : Heap) : b69_4 O R q x6 x7 h = stepF c69 O R q 4 [x6, x7] h := by kernel_rfl
def d69 : BlkF := fun O R Q => [.s fun a => .s fun b => .s fun c => .z (b69_0 O R Q a b c), .s fun a => .s fun b => .s fun c => .s fun d => .s fun e => .s fun f => .s fun g => .s fun h => .z (b69_1 O R Q a b c d e f g h), .s fun a => .s fun b => .s fun c => .s fun d => .s fun e => .s fun f => .z (b69_2 O R Q a b c d e f), .s fun a => .s fun b => .s fun c => .s fun d => .s fun e => .s fun f => .s fun g => .z (b69_3 O R Q a b c d e f g), .s fun a => .s fun b => .z (b69_4 O R Q a b)]
theorem o69 (O : Oracle) (R : Jump) (q : Nat) : HoldsAll c69 O R q 0 (d69 O R q) := ⟨e69_0 O R q, e69_1 O R q, e69_2 O R q, e69_3 O R q, e69_4 O R q, trivial⟩
def c70 : MFunc := mkM (compF Tryd.prog (globs2 tabs opq) (fun _ => false) true Tryd.f70) (.s .n (.s .n (.s (.s .n (.k (.l 1 [0, 3, 4] (.s .n (.s (.k (.s .n (.m 2 [0, 3, 4] (.s .n (.k (.l 3 [0, 3, 4, 5] (.s .n (.s (.k (.s .n (.m 4 [0, 3, 4, 5] .n))) .n)))))))) (.m 5 [0, 3, 4] .n)))))) .n)))
def b70_0 (O : Oracle) (R : Jump) (q : Nat) (x0 : TVal) (h : Heap) : Res1 :=
 R 1 [x0, (kS []), (kI 0)] h
theorem e70_0 (O : Oracle) (R : Jump) (q : Nat) (x0 : TVal) (h : Heap) : b70_0 O R q x0 h = stepF c70 O R q 0 [x0] h := by kernel_rfl
def b70_1 (O : Oracle) (R : Jump) (q : Nat) (x0 x3 x4 : TVal) (h : Heap) : Res1 :=
 vlen O 2 x0 h 8 fun x8 h =>
 vbin .lss 0 x4 x8 h fun x9 h =>
 vif x9 (
 vbin .gtr 0 x4 (kI 0) h fun x13 h =>
 vif x13 (
 vbin .add 0 x3 (kS [32, 124, 32]) h fun x15 h =>
 R 2 [x0, x15, x4] h)
 (R 2 [x0, x3, x4] h))
 (tcomp x3 fun c0 => vfin true q [c0] h)
theorem e70_1 (O : Oracle) (R : Jump) (q : Nat) (x0 x3 x4 : TVal) (h : Heap) : b70_1 O R q x0 x3 x4 h = stepF c70 O R q 1 [x0, x3, x4] h := by kernel_rfl
def b70_2 (O : Oracle) (R : Jump) (q : Nat) (x0 x3 x4 : TVal) (h : Heap) : Res1 :=
 R 3 [x0, x3, x4, (kI 0)] h
theorem e70_2 (O : Oracle) (R : Jump) (q : Nat) (x0 x3 x4 : TVal) (h : Heap) : b70_2 O R q x0 x3 x4 h = stepF c70 O R q 2 [x0, x3, x4] h := by kernel_rfl
def b70_3 (O : Oracle) (R : Jump) (q : Nat) (x0 x3 x4 x5 : TVal) (h : Heap) : Res1 :=
 viaddr 1 x0 x4 h fun x19 h =>
 vfaddr 0 x19 h fun x20 h =>
 vload false 1 x20 h fun x21 h =>
 vlen O 2 x21 h 22 fun x22 h =>
 vbin .lss 0 x5 x22 h fun x23 h =>
 vif x23 (
 vbin .gtr 0 x5 (kI 0) h fun x27 h =>
 vif x27 (
 vbin .add 0 x3 (kS [32]) h fun x29 h =>
 R 4 [x0, x29, x4, x5] h)
 (R 4 [x0, x3, x4, x5] h))
 (R 5 [x0, x3, x4] h)
theorem e70_3 (O : Oracle) (R : Jump) (q : Nat) (x0 x3 x4 x5 : TVal) (h : Heap) : b70_3 O R q x0 x3 x4 x5 h = stepF c70 O R q 3 [x0, x3, x4, x5] h := by kernel_rfl
def b70_4 (O : Oracle) (R : Jump) (q : Nat) (x0 x3 x4 x5 : TVal) (h : Heap) : Res1 :=
 viaddr 1 x0 x4 h fun x33 h =>
 vfaddr 0 x33 h fun x34 h =>
 vload false 1 x34 h fun x35 h =>
 viaddr 7 x35 x5 h fun x37 h =>
 vload true 7 x37 h fun x38 h =>
 vcall O (.v (.c (.func 133 []))) [x38] h 39 fun x39 h =>
 vbin .add 0 x3 x39 h fun x40 h =>
 vbin .add 0 x5 (kI 1) h fun x25 h =>
 R 3 [x0, x40, x4, x25] h
theorem e70_4 (O : Oracle) (R : Jump) (q : Nat) (x0 x3 x4 x5 : TVal) (h : Heap) : b70_4 O R q x0 x3 x4 x5 h = stepF c70 O R q 4 [x0, x3, x4, x5] h := by kernel_rfl
def b70_5 (O : Oracle) (R : Jump) (q : Nat) (x0 x3 x4 : TVal) (h : Heap) : Res1 :=
 vbin .add 0 x4 (kI 1) h fun x11 h =>
 R 1 [x0, x3, x11] h
theorem e70_5 (O : Oracle) (R : Jump) (q : Nat) (x0 x3 x4 : TVal) (h : Heap) : b70_5 O R q x0 x3 x4 h = stepF c70 O R q 5 [x0, x3, x4] h := by kernel_rfl
def d70 : BlkF := fun O R Q => [.s fun a => .z (b70_0 O R Q a), .s fun a => .s fun b => .s fun c => .z (b70_1 O R Q a b c), .s fun a => .s fun b => .s fun c => .z (b70_2 O R Q a b c), .s fun a => .s fun b => .s fun c => .s fun d => .z (b70_3 O R Q a b c d), .s fun a => .s fun b => .s fun c => .s fun d => .z (b70_4 O R Q a b c d), .s fun a => .s fun b => .s fun c => .z (b70_5 O R Q a b c)]
theorem o70 (O : Oracle) (R : Jump) (q : Nat) : HoldsAll c70 O R q 0 (d70 O R q) := ⟨e70_0 O R q, e70_1 O R q, e70_2 O R q, e70_3 O R q, e70_4 O R q, e70_5 O R q, trivial⟩
def c71 : MFunc := mkM (compF Tryd.prog (globs2 tabs opq) (fun _ => false) true Tryd.f71) (.s .n (.s .n (.s (.s .n (.k (.l 1 [0, 3, 4] (.s .n (.s (.k (.s .n (.k (.s .n (.m 2 [0, 3, 4, 13, 21] .n))))) (.m 3 [0, 3, 4] .n)))))) (.m 4 [3] .n))))
def b71_0 (O : Oracle) (R : Jump) (q : Nat) (x0 : TVal) (h : Heap) : Res1 :=
 R 1 [x0, (kS [34]), (kI 0)] h
theorem e71_0 (O : Oracle) (R : Jump) (q : Nat) (x0 : TVal) (h : Heap) : b71_0 O R q x0 h = stepF c71 O R q 0 [x0] h := by kernel_rfl
def b71_1 (O : Oracle) (R : Jump) (q : Nat) (x0 x3 x4 : TVal) (h : Heap) : Res1 :=
 vlen O 0 x0 h 7 fun x7 h =>
 vbin .lss 0 x4 x7 h fun x8 h =>
 vif x8 (
 vindex x0 x4 h fun x13 h =>
 vbin .eql 0 x13 (.v (.c (.p (.int .u8 92)))) h fun x22 h =>
 vif x22 (
 R 2 [x0, x3, x4, x13, x22] h)
 (vbin .eql 0 x13 (.v (.c (.p (.int .u8 34)))) h fun x23 h =>
 R 2 [x0, x3, x4, x13, x23] h))
 (R 4 [x3] h)
theorem e71_1 (O : Oracle) (R : Jump) (q : Nat) (x0 x3 x4 : TVal) (h : Heap) : b71_1 O R q x0 x3 x4 h = stepF c71 O R q 1 [x0, x3, x4] h := by kernel_rfl
def b71_2 (O : Oracle) (R : Jump) (q : Nat) (x0 x3 x4 x13 x21 : TVal) (h : Heap) : Res1 :=
 vif x21 (
 vbin .add 0 x3 (kS [92]) h fun x25 h =>
 vbin .add 0 x4 (kI 1) h fun x29 h =>
 vop O (.slice 0 true (.k x0) (some (.k x4)) (some (.k x29)) none) h 30 fun x30 h =>
 vbin .add 0 x25 x30 h fun x31 h =>
 R 3 [x0, x31, x4] h)
 (vbin .eql 0 x13 (.v (.c (.p (.int .u8 10)))) h fun x33 h =>
 vif x33 (
 vbin .add 0 x3 (kS [92, 110]) h fun x35 h =>
 R 3 [x0, x35, x4] h)
 (vbin .eql 0 x13 (.v (.c (.p (.int .u8 9)))) h fun x37 h =>
 vif x37 (
 vbin .add 0 x3 (kS [92, 116]) h fun x39 h =>
 R 3 [x0, x39, x4] h)
 (vbin .add 0 x4 (kI 1) h fun x18 h =>
 vop O (.slice 0 true (.k x0) (some (.k x4)) (some (.k x18)) none) h 19 fun x19 h =>
 vbin .add 0 x3 x19 h fun x20 h =>
 R 3 [x0, x20, x4] h)))
theorem e71_2 (O : Oracle) (R : Jump) (q : Nat) (x0 x3 x4 x13 x21 : TVal) (h : Heap) : b71_2 O R q x0 x3 x4 x13 x21 h = stepF c71 O R q 2 [x0, x3, x4, x13, x21] h := by kernel_rfl
def b71_3 (O : Oracle) (R : Jump) (q : Nat) (x0 x3 x4 : TVal) (h : Heap) : Res1 :=
 vbin .add 0 x4 (kI 1) h fun x10 h =>
 R 1 [x0, x3, x10] h
theorem e71_3 (O : Oracle) (R : Jump) (q : Nat) (x0 x3 x4 : TVal) (h : Heap) : b71_3 O R q x0 x3 x4 h = stepF c71 O R q 3 [x0, x3, x4] h := by kernel_rfl
def b71_4 (O : Oracle) (R : Jump) (q : Nat) (x3 : TVal) (h : Heap) : Res1 :=
 vbin .add 0 x3 (kS [34]) h fun x41 h =>
 tcomp x41 fun c0 => vfin true q [c0] h
theorem e71_4 (O : Oracle) (R : Jump) (q : Nat) (x3 : TVal) (h : Heap) : b71_4 O R q x3 h = stepF c71 O R q 4 [x3] h := by kernel_rfl
def d71 : BlkF := fun O R Q => [.s fun a => .z (b71_0 O R Q a), .s fun a => .s fun b => .s fun c => .z (b71_1 O R Q a b c), .s fun a => .s fun b => .s fun c => .s fun d => .s fun e => .z (b71_2 O R Q a b c d e), .s fun a => .s fun b => .s fun c => .z (b71_3 O R Q a b c), .s fun a => .z (b71_4 O R Q a)]
theorem o71 (O : Oracle) (R : Jump) (q : Nat) : HoldsAll c71 O R q 0 (d71 O R q) := ⟨e71_0 O R q, e71_1 O R q, e71_2 O R q, e71_3 O R q, e71_4 O R q, trivial⟩
def c93 : MFunc := mkM (compF Tryd.prog (globs2 tabs opq) (fun _ => false) true Tryd.f93) .n
def b93_0 (O : Oracle) (R : Jump) (q : Nat) (x0 x1 : TVal) (h : Heap) : Res1 :=
 vop O (.box (.k x0) false) h 2 fun x2 h =>
 vop O (.alloc [(.p (.int .i64 0)), (.p (.bool false)), (.p (.int .i64 0)), (.p (.str [])), (.p .nilslice), (.p .nilslice)] false) h 4 fun x4 h =>
 vfaddr 4 x2 h fun x7 h =>
 vload false 1 x7 h fun x8 h =>
 vcall O (.v (.c (.func 131 []))) [x8, x1] h 10 fun x10 h =>
 vfaddr 0 x2 h fun x11 h =>
 vload false 1 x11 h fun x12 h =>
 vbin .neq 0 x12 (kI 5) h fun x13 h =>
 vguard x13 false (fun kk => kk x10 h) h fun x15 h =>
 vguard x13 false (fun kk => vbin .lss 0 x15 (kI 0) h kk) h fun x16 h =>
 vop O (.pick (.k x13) (.k (kB true)) (.k x16)) h 17 fun x17 h =>
 vguard x17 false (fun kk => kk x10 h) h fun x19 h =>
 vguard x17 false (fun kk => vfaddr 5 x2 h kk) h fun x20 h =>
 vguard x17 false (fun kk => vload false 1 x20 h kk) h fun x21 h =>
 vguard x17 false (fun kk => vlen O 2 x21 h 22 kk) h fun x22 h =>
 vguard x17 false (fun kk => vbin .geq 0 x19 x22 h kk) h fun x23 h =>
 vop O (.pick (.k x17) (.k (kB true)) (.k x23)) h 24 fun x24 h =>
 vif x24 (
 vop O (.build [(.p (.int .i64 0)), (.p (.bool false)), (.p (.int .i64 0)), (.p (.str [])), (.p .nilslice), (.p .nilslice)] []) h 25 fun x25 h =>
 vstore 6 x4 x25 h fun _ h =>
 vcell true 6 x4 h fun c0 => tcomp (kB false) fun c1 => vfin true q [c0, c1] h)
 (vfaddr 5 x2 h fun x26 h =>
 vload false 1 x26 h fun x27 h =>
 viaddr 6 x27 x10 h fun x29 h =>
 vload true 6 x29 h fun x30 h =>
 vcall O (.v (.c (.func 156 []))) [x30] h 31 fun x31 h =>
 vstore 6 x4 x31 h fun _ h =>
 vcell true 6 x4 h fun c0 => tcomp (kB true) fun c1 => vfin true q [c0, c1] h)
theorem e93_0 (O : Oracle) (R : Jump) (q : Nat) (x0 x1 : TVal) (h : Heap) : b93_0 O R q x0 x1 h = stepF c93 O R q 0 [x0, x1] h := by kernel_rfl
def d93 : BlkF := fun O R Q => [.s fun a => .s fun b => .z (b93_0 O R Q a b)]
theorem o93 (O : Oracle) (R : Jump) (q : Nat) : HoldsAll c93 O R q 0 (d93 O R q) := ⟨e93_0 O R q, trivial⟩
def c105 : MFunc := mkM (compF Tryd.prog (globs2 tabs opq) (fun n => Nat.blt n 1000000) false Tryd.f105) .n
def b105_0 (O : Oracle) (R : Jump) (q : Nat) (x0 : TVal) (h : Heap) : Res1 :=
 vbin .eql 2 x0 (.v (.c (.p .nilslice))) h fun x4 h =>
 vif x4 (
 tcomp (.v (.c (.p .nilslice))) fun c0 => vfin false q [c0] h)
 (vop O (.bslice 6 0 [(.p (.int .i64 0)), (.p (.bool false)), (.p (.int .i64 0)), (.p (.str [])), (.p .nilslice), (.p .nilslice)] [] true) h 5 fun x5 h =>
 vop O (.append 6 88 true (.k x5) (.k x0)) h 7 fun x7 h =>
 tcomp x7 fun c0 => vfin false q [c0] h)
theorem e105_0 (O : Oracle) (R : Jump) (q : Nat) (x0 : TVal) (h : Heap) : b105_0 O R q x0 h = stepF c105 O R q 0 [x0] h := by kernel_rfl
def d105 : BlkF := fun O R Q => [.s fun a => .z (b105_0 O R Q a)]
theorem o105 (O : Oracle) (R : Jump) (q : Nat) : HoldsAll c105 O R q 0 (d105 O R q) := ⟨e105_0 O R q, trivial⟩
def c107 : MFunc := mkM (compF Tryd.prog (globs2 tabs opq) (fun _ => false) true Tryd.f107) .n
def b107_0 (O : Oracle) (R : Jump) (q : Nat) (x0 : TVal) (h : Heap) : Res1 :=
 vbin .geq 0 x0 (.v (.c (.p (.int .u8 97)))) h fun x4 h =>
 vguard x4 true (fun kk => kk x0 h) h fun x6 h =>
 vguard x4 true (fun kk => vbin .leq 0 x6 (.v (.c (.p (.int .u8 122)))) h kk) h fun x7 h =>
 vop O (.pick (.k x4) (.k x7) (.k (kB false))) h 8 fun x8 h =>
 vguard x8 false (fun kk => kk x0 h) h fun x10 h =>
 vguard x8 false (fun kk => vbin .geq 0 x10 (.v (.c (.p (.int .u8 65)))) h kk) h fun x11 h =>
 vguard x8 false (fun kk => kk x11 h) h fun x12 h =>
 vguard x12 true (fun kk => kk x0 h) h fun x13 h =>
 vguard x12 true (fun kk => vbin .leq 0 x13 (.v (.c (.p (.int .u8 90)))) h kk) h fun x14 h =>
 vguard x8 false (fun kk => vop O (.pick (.k x12) (.k x14) (.k (kB false))) h 15 kk) h fun x15 h =>
 vop O (.pick (.k x8) (.k (kB true)) (.k x15)) h 16 fun x16 h =>
 vguard x16 false (fun kk => kk x0 h) h fun x18 h =>
 vguard x16 false (fun kk => vbin .eql 0 x18 (.v (.c (.p (.int .u8 95)))) h kk) h fun x19 h =>
 vop O (.pick (.k x16) (.k (kB true)) (.k x19)) h 20 fun x20 h =>
 tcomp x20 fun c0 => vfin true q [c0] h
theorem e107_0 (O : Oracle) (R : Jump) (q : Nat) (x0 : TVal) (h : Heap) : b107_0 O R q x0 h = stepF c107 O R q 0 [x0] h := by kernel_rfl
def d107 : BlkF := fun O R Q => [.s fun a => .z (b107_0 O R Q a)]
theorem o107 (O : Oracle) (R : Jump) (q : Nat) : HoldsAll c107 O R q 0 (d107 O R q) := ⟨e107_0 O R q, trivial⟩
def c108 : MFunc := mkM (compF Tryd.prog (globs2 tabs opq) (fun _ => false) true Tryd.f108) .n
def b108_0 (O : Oracle) (R : Jump) (q : Nat) (x0 : TVal) (h : Heap) : Res1 :=
 vbin .geq 0 x0 (.v (.c (.p (.int .u8 48)))) h fun x4 h =>
 vguard x4 true (fun kk => kk x0 h) h fun x6 h =>
 vguard x4 true (fun kk => vbin .leq 0 x6 (.v (.c (.p (.int .u8 57)))) h kk) h fun x7 h =>
 vop O (.pick (.k x4) (.k x7) (.k (kB false))) h 8 fun x8 h =>
 tcomp x8 fun c0 => vfin true q [c0] h
theorem e108_0 (O : Oracle) (R : Jump) (q : Nat) (x0 : TVal) (h : Heap) : b108_0 O R q x0 h = stepF c108 O R q 0 [x0] h := by kernel_rfl
def d108 : BlkF := fun O R Q => [.s fun a => .z (b108_0 O R Q a)]
theorem o108 (O : Oracle) (R : Jump) (q : Nat) : HoldsAll c108 O R q 0 (d108 O R q) := ⟨e108_0 O R q, trivial⟩
def c112 : MFunc := mkM (compF Tryd.prog (globs2 tabs opq) (fun _ => false) true Tryd.f112) .n
def b112_0 (O : Oracle) (R : Jump) (q : Nat) (x0 : TVal) (h : Heap) : Res1 :=
 vop O (.box (.k x0) false) h 1 fun x1 h =>
 vfaddr 0 x1 h fun x4 h =>
 vload false 1 x4 h fun x5 h =>
 vbin .lss 0 x5 (kI 0) h fun x7 h =>
 vguard x7 false (fun kk => kk x5 h) h fun x9 h =>
 vguard x7 false (fun kk => vbin .gtr 0 x9 (kI 5) h kk) h fun x10 h =>
 vop O (.pick (.k x7) (.k (kB true)) (.k x10)) h 11 fun x11 h =>
 vif x11 (
 tcomp (kB false) fun c0 => vfin true q [c0] h)
 (vbin .eql 0 x5 (kI 1) h fun x13 h =>
 vguard x13 false (fun kk => vfaddr 1 x1 h kk) h fun x15 h =>
 vguard x13 false (fun kk => vload false 1 x15 h kk) h fun x16 h =>
 vguard x13 false (fun kk => vop O (.un .not (.k x16)) h 17 kk) h fun x17 h =>
 vop O (.pick (.k x13) (.k (kB true)) (.k x17)) h 18 fun x18 h =>
 vguard x18 true (fun kk => kk x5 h) h fun x20 h =>
 vguard x18 true (fun kk => vbin .eql 0 x20 (kI 2) h kk) h fun x21 h =>
 vguard x18 true (fun kk => kk x21 h) h fun x22 h =>
 vguard x22 false (fun kk => vfaddr 2 x1 h kk) h fun x23 h =>
 vguard x22 false (fun kk => vload false 1 x23 h kk) h fun x24 h =>
 vguard x22 false (fun kk => vbin .eql 0 x24 (kI 0) h kk) h fun x25 h =>
 vguard x18 true (fun kk => vop O (.pick (.k x22) (.k (kB true)) (.k x25)) h 26 kk) h fun x26 h =>
 vop O (.pick (.k x18) (.k x26) (.k (kB false))) h 27 fun x27 h =>
 vguard x27 true (fun kk => kk x5 h) h fun x29 h =>
 vguard x27 true (fun kk => vbin .eql 0 x29 (kI 3) h kk) h fun x30 h =>
 vguard x27 true (fun kk => kk x30 h) h fun x31 h =>
 vguard x31 false (fun kk => vfaddr 3 x1 h kk) h fun x32 h =>
 vguard x31 false (fun kk => vload false 1 x32 h kk) h fun x33 h =>
 vguard x31 false (fun kk => vbin .eql 0 x33 (kS []) h kk) h fun x34 h =>
 vguard x27 true (fun kk => vop O (.pick (.k x31) (.k (kB true)) (.k x34)) h 35 kk) h fun x35 h =>
 vop O (.pick (.k x27) (.k x35) (.k (kB false))) h 36 fun x36 h =>
 vguard x36 true (fun kk => kk x5 h) h fun x38 h =>
 vguard x36 true (fun kk => vbin .geq 0 x38 (kI 4) h kk) h fun x39 h =>
 vguard x36 true (fun kk => kk x39 h) h fun x40 h =>
 vguard x40 false (fun kk => vfaddr 5 x1 h kk) h fun x41 h =>
 vguard x40 false (fun kk => vload false 1 x41 h kk) h fun x42 h =>
 vguard x40 false (fun kk => vlen O 2 x42 h 43 kk) h fun x43 h =>
 vguard x40 false (fun kk => vbin .eql 0 x43 (kI 0) h kk) h fun x44 h =>
 vguard x36 true (fun kk => vop O (.pick (.k x40) (.k (kB true)) (.k x44)) h 45 kk) h fun x45 h =>
 vop O (.pick (.k x36) (.k x45) (.k (kB false))) h 46 fun x46 h =>
 vguard x46 true (fun kk => kk x5 h) h fun x48 h =>
 vguard x46 true (fun kk => vbin .eql 0 x48 (kI 5) h kk) h fun x49 h =>
 vguard x46 true (fun kk => kk x49 h) h fun x50 h =>
 vguard x50 true (fun kk => vfaddr 4 x1 h kk) h fun x51 h =>
 vguard x50 true (fun kk => vload false 1 x51 h kk) h fun x52 h =>
 vguard x50 true (fun kk => vlen O 2 x52 h 53 kk) h fun x53 h =>
 vguard x50 true (fun kk => vfaddr 5 x1 h kk) h fun x54 h =>
 vguard x50 true (fun kk => vload false 1 x54 h kk) h fun x55 h =>
 vguard x50 true (fun kk => vlen O 2 x55 h 56 kk) h fun x56 h =>
 vguard x50 true (fun kk => vbin .eql 0 x53 x56 h kk) h fun x57 h =>
 vguard x46 true (fun kk => vop O (.pick (.k x50) (.k x57) (.k (kB false))) h 58 kk) h fun x58 h =>
 vguard x46 true (fun kk => kk x58 h) h fun x59 h =>
 vguard x59 false (fun kk => kk x5 h) h fun x60 h =>
 vguard x59 false (fun kk => vbin .neq 0 x60 (kI 5) h kk) h fun x61 h =>
 vguard x59 false (fun kk => kk x61 h) h fun x62 h =>
 vguard x62 true (fun kk => vfaddr 4 x1 h kk) h fun x63 h =>
 vguard x62 true (fun kk => vload false 1 x63 h kk) h fun x64 h =>
 vguard x62 true (fun kk => vlen O 2 x64 h 65 kk) h fun x65 h =>
 vguard x62 true (fun kk => vbin .eql 0 x65 (kI 0) h kk) h fun x66 h =>
 vguard x59 false (fun kk => vop O (.pick (.k x62) (.k x66) (.k (kB false))) h 67 kk) h fun x67 h =>
 vguard x46 true (fun kk => vop O (.pick (.k x59) (.k (kB true)) (.k x67)) h 68 kk) h fun x68 h =>
 vop O (.pick (.k x46) (.k x68) (.k (kB false))) h 69 fun x69 h =>
 tcomp x69 fun c0 => vfin true q [c0] h)
theorem e112_0 (O : Oracle) (R : Jump) (q : Nat) (x0 : TVal) (h : Heap) : b112_0 O R q x0 h = stepF c112 O R q 0 [x0] h := by kernel_rfl
def d112 : BlkF := fun O R Q => [.s fun a => .z (b112_0 O R Q a)]
theorem o112 (O : Oracle) (R : Jump) (q : Nat) : HoldsAll c112 O R q 0 (d112 O R q) := ⟨e112_0 O R q, trivial⟩
def c113 : MFunc := mkM (compF Tryd.prog (globs2 tabs opq) (fun _ => false) true Tryd.f113) (.s .n (.s (.s .n (.k (.l 1 [0, 3, 4, 6, 7] (.s .n (.s .n (.s .n (.m 2 [0, 3, 4, 6, 7] .n))))))) (.m 3 [3, 4] .n)))
def b113_0 (O : Oracle) (R : Jump) (q : Nat) (x0 x1 : TVal) (h : Heap) : Res1 :=
 vop O (.box (.k x1) false) h 3 fun x3 h =>
 vop O (.alloc [(.p (.int .i64 0)), (.p (.str [])), (.p .nilslice), (.p .nilslice)] false) h 4 fun x4 h =>
 vlen O 3 x0 h 6 fun x6 h =>
 R 1 [x0, x3, x4, x6, (kI 0)] h
theorem e113_0 (O : Oracle) (R : Jump) (q : Nat) (x0 x1 : TVal) (h : Heap) : b113_0 O R q x0 x1 h = stepF c113 O R q 0 [x0, x1] h := by kernel_rfl
def b113_1 (O : Oracle) (R : Jump) (q : Nat) (x0 x3 x4 x6 x7 : TVal) (h : Heap) : Res1 :=
 vbin .lss 0 x7 x6 h fun x8 h =>
 vif x8 (
 vfaddr 0 x3 h fun x9 h =>
 vload false 1 x9 h fun x10 h =>
 vbin .eql 0 x10 (kI 9) h fun x11 h =>
 vif x11 (
 vfaddr 1 x3 h fun x13 h =>
 vload false 1 x13 h fun x14 h =>
 vop O (.lookup 2 (.agg [(.p (.int .i64 0)), (.p (.str [])), (.p .nilslice), (.p .nilslice)]) (.k x0) (.k x14) false) h 15 fun x15 h =>
 vstore 4 x3 x15 h fun _ h =>
 R 2 [x0, x3, x4, x6, x7] h)
 (R 2 [x0, x3, x4, x6, x7] h))
 (R 3 [x3, x4] h)
theorem e113_1 (O : Oracle) (R : Jump) (q : Nat) (x0 x3 x4 x6 x7 : TVal) (h : Heap) : b113_1 O R q x0 x3 x4 x6 x7 h = stepF c113 O R q 1 [x0, x3, x4, x6, x7] h := by kernel_rfl
def b113_2 (O : Oracle) (R : Jump) (q : Nat) (x0 x3 x4 x6 x7 : TVal) (h : Heap) : Res1 :=
 vbin .add 0 x7 (kI 1) h fun x16 h =>
 R 1 [x0, x3, x4, x6, x16] h
theorem e113_2 (O : Oracle) (R : Jump) (q : Nat) (x0 x3 x4 x6 x7 : TVal) (h : Heap) : b113_2 O R q x0 x3 x4 x6 x7 h = stepF c113 O R q 2 [x0, x3, x4, x6, x7] h := by kernel_rfl
def b113_3 (O : Oracle) (R : Jump) (q : Nat) (x3 x4 : TVal) (h : Heap) : Res1 :=
 vload true 4 x3 h fun x17 h =>
 vstore 4 x4 x17 h fun _ h =>
 vcell true 4 x4 h fun c0 => vfin true q [c0] h
theorem e113_3 (O : Oracle) (R : Jump) (q : Nat) (x3 x4 : TVal) (h : Heap) : b113_3 O R q x3 x4 h = stepF c113 O R q 3 [x3, x4] h := by kernel_rfl
def d113 : BlkF := fun O R Q => [.s fun a => .s fun b => .z (b113_0 O R Q a b), .s fun a => .s fun b => .s fun c => .s fun d => .s fun e => .z (b113_1 O R Q a b c d e), .s fun a => .s fun b => .s fun c => .s fun d => .s fun e => .z (b113_2 O R Q a b c d e), .s fun a => .s fun b => .z (b113_3 O R Q a b)]
theorem o113 (O : Oracle) (R : Jump) (q : Nat) : HoldsAll c113 O R q 0 (d113 O R q) := ⟨e113_0 O R q, e113_1 O R q, e113_2 O R q, e113_3 O R q, trivial⟩
def c114 : MFunc := mkM (compF Tryd.prog (globs2 tabs opq) (fun _ => false) true Tryd.f114) (.s .n (.s .n (.s (.s .n (.k (.l 1 [0, 4, 6, 27, 28, 29] .n))) .n)))
def b114_0 (O : Oracle) (R : Jump) (q : Nat) (x0 x1 x2 x3 x4 : TVal) (h : Heap) : Res1 :=
 vop O (.box (.k x1) false) h 6 fun x6 h =>
 vop O (.box (.k x2) false) h 7 fun x7 h =>
 vfaddr 0 x7 h fun x16 h =>
 vload false 1 x16 h fun x17 h =>
 vbin .neq 0 x17 x3 h fun x19 h =>
 vguard x19 false (fun kk => vfaddr 3 x6 h kk) h fun x21 h =>
 vguard x19 false (fun kk => vload false 1 x21 h kk) h fun x22 h =>
 vguard x19 false (fun kk => vlen O 2 x22 h 23 kk) h fun x23 h =>
 vguard x19 false (fun kk => vbin .neq 0 x23 (kI 1) h kk) h fun x24 h =>
 vop O (.pick (.k x19) (.k (kB true)) (.k x24)) h 25 fun x25 h =>
 vif x25 (
 tcomp (kS []) fun c0 => tcomp (kB false) fun c1 => vfin true q [c0, c1] h)
 (vfaddr 5 x7 h fun x26 h =>
 vload false 1 x26 h fun x27 h =>
 vlen O 2 x27 h 28 fun x28 h =>
 R 1 [x0, x4, x6, x27, x28, (kI 0)] h)
theorem e114_0 (O : Oracle) (R : Jump) (q : Nat) (x0 x1 x2 x3 x4 : TVal) (h : Heap) : b114_0 O R q x0 x1 x2 x3 x4 h = stepF c114 O R q 0 [x0, x1, x2, x3, x4] h := by kernel_rfl
def b114_1 (O : Oracle) (R : Jump) (q : Nat) (x0 x4 x6 x27 x28 x29 : TVal) (h : Heap) : Res1 :=
 vbin .lss 0 x29 x28 h fun x30 h =>
 vif x30 (
 viaddr 6 x27 x29 h fun x32 h =>
 vload true 6 x32 h fun x33 h =>
 vop O (.alloc [(.p (.int .i64 0)), (.p (.bool false)), (.p (.int .i64 0)), (.p (.str [])), (.p .nilslice), (.p .nilslice)] false) h 13 fun x13 h =>
 vstore 6 x13 x33 h fun _ h =>
 vfaddr 3 x6 h fun x36 h =>
 vload false 1 x36 h fun x37 h =>
 viaddr 4 x37 (kI 0) h fun x38 h =>
 vload true 4 x38 h fun x39 h =>
 vload true 6 x13 h fun x40 h =>
 vcall O (.v (.c (.func 58 []))) [x0, x39, x40] h 41 fun x41 h =>
 vext x41 0 h fun x42 h =>
 vext x41 1 h fun x43 h =>
 vop O (.un .not (.k x43)) h 45 fun x45 h =>
 vif x45 (
 vcall O x4 [x29] h 48 fun x48 h =>
 vbin .add 0 x48 x42 h fun x50 h =>
 tcomp x50 fun c0 => tcomp (kB false) fun c1 => vfin true q [c0, c1] h)
 (vbin .add 0 x29 (kI 1) h fun x51 h =>
 R 1 [x0, x4, x6, x27, x28, x51] h))
 (tcomp (kS []) fun c0 => tcomp (kB true) fun c1 => vfin true q [c0, c1] h)
theorem e114_1 (O : Oracle) (R : Jump) (q : Nat) (x0 x4 x6 x27 x28 x29 : TVal) (h : Heap) : b114_1 O R q x0 x4 x6 x27 x28 x29 h = stepF c114 O R q 1 [x0, x4, x6, x27, x28, x29] h := by kernel_rfl
def d114 : BlkF := fun O R Q => [.s fun a => .s fun b => .s fun c => .s fun d => .s fun e => .z (b114_0 O R Q a b c d e), .s fun a => .s fun b => .s fun c => .s fun d => .s fun e => .s fun f => .z (b114_1 O R Q a b c d e f)]
theorem o114 (O : Oracle) (R : Jump) (q : Nat) : HoldsAll c114 O R q 0 (d114 O R q) := ⟨e114_0 O R q, e114_1 O R q, trivial⟩
def c115 : MFunc := mkM (compF Tryd.prog (globs2 tabs opq) (fun _ => false) true Tryd.f115) .n
def b115_0 (O : Oracle) (R : Jump) (q : Nat) (x0 : TVal) (h : Heap) : Res1 :=
 vcall O (.v (.c (.func 116 []))) [x0] h 4 fun x4 h =>
 vbin .add 0 (kS [91]) x4 h fun x5 h =>
 vbin .add 0 x5 (kS [93]) h fun x6 h =>
 tcomp x6 fun c0 => vfin true q [c0] h
theorem e115_0 (O : Oracle) (R : Jump) (q : Nat) (x0 : TVal) (h : Heap) : b115_0 O R q x0 h = stepF c115 O R q 0 [x0] h := by kernel_rfl
def d115 : BlkF := fun O R Q => [.s fun a => .z (b115_0 O R Q a)]
theorem o115 (O : Oracle) (R : Jump) (q : Nat) : HoldsAll c115 O R q 0 (d115 O R q) := ⟨e115_0 O R q, trivial⟩
def c116 : MFunc := mkM (compF Tryd.prog (globs2 tabs opq) (fun _ => false) true Tryd.f116) .n
def b116_0 (O : Oracle) (R : Jump) (q : Nat) (x0 : TVal) (h : Heap) : Res1 :=
 vcall O (.v (.c (.func 164 []))) [x0] h 4 fun x4 h =>
 tcomp x4 fun c0 => vfin true q [c0] h
theorem e116_0 (O : Oracle) (R : Jump) (q : Nat) (x0 : TVal) (h : Heap) : b116_0 O R q x0 h = stepF c116 O R q 0 [x0] h := by kernel_rfl
def d116 : BlkF := fun O R Q => [.s fun a => .z (b116_0 O R Q a)]
theorem o116 (O : Oracle) (R : Jump) (q : Nat) : HoldsAll c116 O R q 0 (d116 O R q) := ⟨e116_0 O R q, trivial⟩
def c117 : MFunc := mkM (compF Tryd.prog (globs2 tabs opq) (fun _ => false) true Tryd.f117) .n
def b117_0 (O : Oracle) (R : Jump) (q : Nat) (x0 x1 : TVal) (h : Heap) : Res1 :=
 vfaddr 4 x1 h fun x5 h =>
 vload false 1 x5 h fun x6 h =>
 vlen O 2 x6 h 7 fun x7 h =>
 vbin .geq 0 x0 x7 h fun x8 h =>
 vif x8 (
 tcomp (kS []) fun c0 => vfin true q [c0] h)
 (vfaddr 4 x1 h fun x9 h =>
 vload false 1 x9 h fun x10 h =>
 viaddr 1 x10 x0 h fun x12 h =>
 vload false 1 x12 h fun x13 h =>
 vbin .add 0 (kS [91, 34]) x13 h fun x14 h =>
 vbin .add 0 x14 (kS [34, 93]) h fun x15 h =>
 tcomp x15 fun c0 => vfin true q [c0] h)
theorem e117_0 (O : Oracle) (R : Jump) (q : Nat) (x0 x1 : TVal) (h : Heap) : b117_0 O R q x0 x1 h = stepF c117 O R q 0 [x0, x1] h := by kernel_rfl
def d117 : BlkF := fun O R Q => [.s fun a => .s fun b => .z (b117_0 O R Q a b)]
theorem o117 (O : Oracle) (R : Jump) (q : Nat) : HoldsAll c117 O R q 0 (d117 O R q) := ⟨e117_0 O R q, trivial⟩
def c118 : MFunc := mkM (compF Tryd.prog (globs2 tabs opq) (fun _ => false) true Tryd.f118) (.s .n (.s .n (.s (.s .n (.k (.l 1 [0, 4, 5, 19, 20, 21] (.s .n (.s .n (.s .n (.m 2 [0, 4, 5, 19, 20, 21] .n))))))) (.m 3 [4, 5] (.s (.s .n (.k (.l 4 [4, 80, 81, 82] .n))) .n)))))
def b118_0 (O : Oracle) (R : Jump) (q : Nat) (x0 x1 x2 : TVal) (h : Heap) : Res1 :=
 vop O (.box (.k x1) false) h 4 fun x4 h =>
 vop O (.box (.k x2) false) h 5 fun x5 h =>
 vfaddr 0 x5 h fun x15 h =>
 vload false 1 x15 h fun x16 h =>
 vbin .neq 0 x16 (kI 5) h fun x17 h =>
 vif x17 (
 tcomp (kS []) fun c0 => tcomp (kB false) fun c1 => vfin true q [c0, c1] h)
 (vfaddr 2 x4 h fun x18 h =>
 vload false 1 x18 h fun x19 h =>
 vlen O 2 x19 h 20 fun x20 h =>
 R 1 [x0, x4, x5, x19, x20, (kI 0)] h)
theorem e118_0 (O : Oracle) (R : Jump) (q : Nat) (x0 x1 x2 : TVal) (h : Heap) : b118_0 O R q x0 x1 x2 h = stepF c118 O R q 0 [x0, x1, x2] h := by kernel_rfl
def b118_1 (O : Oracle) (R : Jump) (q : Nat) (x0 x4 x5 x19 x20 x21 : TVal) (h : Heap) : Res1 :=
 vbin .lss 0 x21 x20 h fun x22 h =>
 vif x22 (
 viaddr 1 x19 x21 h fun x24 h =>
 vload false 1 x24 h fun x25 h =>
 vfaddr 3 x4 h fun x27 h =>
 vload false 1 x27 h fun x28 h =>
 vlen O 2 x28 h 29 fun x29 h =>
 vbin .geq 0 x21 x29 h fun x30 h =>
 vif x30 (
 vbin .add 0 (kS [46]) x25 h fun x32 h =>
 tcomp x32 fun c0 => tcomp (kB false) fun c1 => vfin true q [c0, c1] h)
 (vfaddr 4 x5 h fun x33 h =>
 vload false 1 x33 h fun x34 h =>
 vcall O (.v (.c (.func 131 []))) [x34, x25] h 36 fun x36 h =>
 vbin .lss 0 x36 (kI 0) h fun x38 h =>
 vguard x38 false (fun kk => kk x36 h) h fun x40 h =>
 vguard x38 false (fun kk => vfaddr 5 x5 h kk) h fun x41 h =>
 vguard x38 false (fun kk => vload false 1 x41 h kk) h fun x42 h =>
 vguard x38 false (fun kk => vlen O 2 x42 h 43 kk) h fun x43 h =>
 vguard x38 false (fun kk => vbin .geq 0 x40 x43 h kk) h fun x44 h =>
 vop O (.pick (.k x38) (.k (kB true)) (.k x44)) h 45 fun x45 h =>
 vif x45 (
 vfaddr 3 x4 h fun x47 h =>
 vload false 1 x47 h fun x48 h =>
 viaddr 4 x48 x21 h fun x50 h =>
 vload true 4 x50 h fun x51 h =>
 vcall O (.v (.c (.func 113 []))) [x0, x51] h 52 fun x52 h =>
 vfield 0 1 false x52 h fun x53 h =>
 vbin .neq 0 x53 (kI 6) h fun x54 h =>
 vif x54 (
 vbin .add 0 (kS [46]) x25 h fun x56 h =>
 tcomp x56 fun c0 => tcomp (kB false) fun c1 => vfin true q [c0, c1] h)
 (R 2 [x0, x4, x5, x19, x20, x21] h))
 (vfaddr 3 x4 h fun x59 h =>
 vload false 1 x59 h fun x60 h =>
 viaddr 4 x60 x21 h fun x62 h =>
 vload true 4 x62 h fun x63 h =>
 vfaddr 5 x5 h fun x64 h =>
 vload false 1 x64 h fun x65 h =>
 viaddr 6 x65 x36 h fun x67 h =>
 vload true 6 x67 h fun x68 h =>
 vcall O (.v (.c (.func 58 []))) [x0, x63, x68] h 69 fun x69 h =>
 vext x69 0 h fun x70 h =>
 vext x69 1 h fun x71 h =>
 vop O (.un .not (.k x71)) h 73 fun x73 h =>
 vif x73 (
 vbin .add 0 (kS [46]) x25 h fun x75 h =>
 vbin .add 0 x75 x70 h fun x77 h =>
 tcomp x77 fun c0 => tcomp (kB false) fun c1 => vfin true q [c0, c1] h)
 (R 2 [x0, x4, x5, x19, x20, x21] h))))
 (R 3 [x4, x5] h)
theorem e118_1 (O : Oracle) (R : Jump) (q : Nat) (x0 x4 x5 x19 x20 x21 : TVal) (h : Heap) : b118_1 O R q x0 x4 x5 x19 x20 x21 h = stepF c118 O R q 1 [x0, x4, x5, x19, x20, x21] h := by kernel_rfl
def b118_2 (O : Oracle) (R : Jump) (q : Nat) (x0 x4 x5 x19 x20 x21 : TVal) (h : Heap) : Res1 :=
 vbin .add 0 x21 (kI 1) h fun x78 h =>
 R 1 [x0, x4, x5, x19, x20, x78] h
theorem e118_2 (O : Oracle) (R : Jump) (q : Nat) (x0 x4 x5 x19 x20 x21 : TVal) (h : Heap) : b118_2 O R q x0 x4 x5 x19 x20 x21 h = stepF c118 O R q 2 [x0, x4, x5, x19, x20, x21] h := by kernel_rfl
def b118_3 (O : Oracle) (R : Jump) (q : Nat) (x4 x5 : TVal) (h : Heap) : Res1 :=
 vfaddr 4 x5 h fun x79 h =>
 vload false 1 x79 h fun x80 h =>
 vlen O 2 x80 h 81 fun x81 h =>
 R 4 [x4, x80, x81, (kI 0)] h
theorem e118_3 (O : Oracle) (R : Jump) (q : Nat) (x4 x5 : TVal) (h : Heap) : b118_3 O R q x4 x5 h = stepF c118 O R q 3 [x4, x5] h := by kernel_rfl
def b118_4 (O : Oracle) (R : Jump) (q : Nat) (x4 x80 x81 x82 : TVal) (h : Heap) : Res1 :=
 vbin .lss 0 x82 x81 h fun x83 h =>
 vif x83 (
 viaddr 1 x80 x82 h fun x84 h =>
 vload false 1 x84 h fun x85 h =>
 vfaddr 2 x4 h fun x86 h =>
 vload false 1 x86 h fun x87 h =>
 vcall O (.v (.c (.func 139 []))) [x87, x85] h 89 fun x89 h =>
 vop O (.un .not (.k x89)) h 90 fun x90 h =>
 vif x90 (
 vbin .add 0 (kS [46]) x85 h fun x92 h =>
 tcomp x92 fun c0 => tcomp (kB false) fun c1 => vfin true q [c0, c1] h)
 (vbin .add 0 x82 (kI 1) h fun x93 h =>
 R 4 [x4, x80, x81, x93] h))
 (tcomp (kS []) fun c0 => tcomp (kB true) fun c1 => vfin true q [c0, c1] h)
theorem e118_4 (O : Oracle) (R : Jump) (q : Nat) (x4 x80 x81 x82 : TVal) (h : Heap) : b118_4 O R q x4 x80 x81 x82 h = stepF c118 O R q 4 [x4, x80, x81, x82] h := by kernel_rfl
def d118 : BlkF := fun O R Q => [.s fun a => .s fun b => .s fun c => .z (b118_0 O R Q a b c), .s fun a => .s fun b => .s fun c => .s fun d => .s fun e => .s fun f => .z (b118_1 O R Q a b c d e f), .s fun a => .s fun b => .s fun c => .s fun d => .s fun e => .s fun f => .z (b118_2 O R Q a b c d e f), .s fun a => .s fun b => .z (b118_3 O R Q a b), .s fun a => .s fun b => .s fun c => .s fun d => .z (b118_4 O R Q a b c d)]
theorem o118 (O : Oracle) (R : Jump) (q : Nat) : HoldsAll c118 O R q 0 (d118 O R q) := ⟨e118_0 O R q, e118_1 O R q, e118_2 O R q, e118_3 O R q, e118_4 O R q, trivial⟩
def c119 : MFunc := mkM (compF Tryd.prog (globs2 tabs opq) (fun _ => false) true Tryd.f119) .n
def b119_0 (O : Oracle) (R : Jump) (q : Nat) (x0 x1 x2 : TVal) (h : Heap) : Res1 :=
 vop O (.box (.k x1) false) h 4 fun x4 h =>
 vop O (.box (.k x2) false) h 5 fun x5 h =>
 vfaddr 0 x5 h fun x11 h =>
 vload false 1 x11 h fun x12 h =>
 vbin .neq 0 x12 (kI 5) h fun x13 h =>
 vguard x13 false (fun kk => vfaddr 4 x5 h kk) h fun x15 h =>
 vguard x13 false (fun kk => vload false 1 x15 h kk) h fun x16 h =>
 vguard x13 false (fun kk => vlen O 2 x16 h 17 kk) h fun x17 h =>
 vguard x13 false (fun kk => vbin .neq 0 x17 (kI 1) h kk) h fun x18 h =>
 vop O (.pick (.k x13) (.k (kB true)) (.k x18)) h 19 fun x19 h =>
 vguard x19 false (fun kk => vfaddr 5 x5 h kk) h fun x21 h =>
 vguard x19 false (fun kk => vload false 1 x21 h kk) h fun x22 h =>
 vguard x19 false (fun kk => vlen O 2 x22 h 23 kk) h fun x23 h =>
 vguard x19 false (fun kk => vbin .neq 0 x23 (kI 1) h kk) h fun x24 h =>
 vop O (.pick (.k x19) (.k (kB true)) (.k x24)) h 25 fun x25 h =>
 vif x25 (
 tcomp (kS []) fun c0 => tcomp (kB false) fun c1 => vfin true q [c0, c1] h)
 (vfaddr 2 x4 h fun x26 h =>
 vload false 1 x26 h fun x27 h =>
 vfaddr 4 x5 h fun x28 h =>
 vload false 1 x28 h fun x29 h =>
 viaddr 1 x29 (kI 0) h fun x30 h =>
 vload false 1 x30 h fun x31 h =>
 vcall O (.v (.c (.func 131 []))) [x27, x31] h 32 fun x32 h =>
 vbin .lss 0 x32 (kI 0) h fun x34 h =>
 vguard x34 false (fun kk => kk x32 h) h fun x36 h =>
 vguard x34 false (fun kk => vfaddr 3 x4 h kk) h fun x37 h =>
 vguard x34 false (fun kk => vload false 1 x37 h kk) h fun x38 h =>
 vguard x34 false (fun kk => vlen O 2 x38 h 39 kk) h fun x39 h =>
 vguard x34 false (fun kk => vbin .geq 0 x36 x39 h kk) h fun x40 h =>
 vop O (.pick (.k x34) (.k (kB true)) (.k x40)) h 41 fun x41 h =>
 vif x41 (
 tcomp (kS []) fun c0 => tcomp (kB false) fun c1 => vfin true q [c0, c1] h)
 (vfaddr 3 x4 h fun x44 h =>
 vload false 1 x44 h fun x45 h =>
 viaddr 4 x45 x32 h fun x47 h =>
 vload true 4 x47 h fun x48 h =>
 vfaddr 5 x5 h fun x49 h =>
 vload false 1 x49 h fun x50 h =>
 viaddr 6 x50 (kI 0) h fun x51 h =>
 vload true 6 x51 h fun x52 h =>
 vcall O (.v (.c (.func 58 []))) [x0, x48, x52] h 53 fun x53 h =>
 vext x53 0 h fun x54 h =>
 vext x53 1 h fun x55 h =>
 vop O (.un .not (.k x55)) h 57 fun x57 h =>
 vif x57 (
 vfaddr 4 x5 h fun x58 h =>
 vload false 1 x58 h fun x59 h =>
 viaddr 1 x59 (kI 0) h fun x60 h =>
 vload false 1 x60 h fun x61 h =>
 vbin .add 0 (kS [46]) x61 h fun x62 h =>
 vbin .add 0 x62 x54 h fun x64 h =>
 tcomp x64 fun c0 => tcomp x55 fun c1 => vfin true q [c0, c1] h)
 (tcomp x54 fun c0 => tcomp x55 fun c1 => vfin true q [c0, c1] h)))
theorem e119_0 (O : Oracle) (R : Jump) (q : Nat) (x0 x1 x2 : TVal) (h : Heap) : b119_0 O R q x0 x1 x2 h = stepF c119 O R q 0 [x0, x1, x2] h := by kernel_rfl
def d119 : BlkF := fun O R Q => [.s fun a => .s fun b => .s fun c => .z (b119_0 O R Q a b c)]
theorem o119 (O : Oracle) (R : Jump) (q : Nat) : HoldsAll c119 O R q 0 (d119 O R q) := ⟨e119_0 O R q, trivial⟩
def c120 : MFunc := mkM (compF Tryd.prog (globs2 tabs opq) (fun _ => false) true Tryd.f120) .n
def b120_0 (O : Oracle) (R : Jump) (q : Nat) (x0 : TVal) (h : Heap) : Res1 :=
 vbin .eql 0 x0 (.v (.c (.p (.int .u8 32)))) h fun x4 h =>
 vguard x4 false (fun kk => kk x0 h) h fun x6 h =>
 vguard x4 false (fun kk => vbin .eql 0 x6 (.v (.c (.p (.int .u8 9)))) h kk) h fun x7 h =>
 vop O (.pick (.k x4) (.k (kB true)) (.k x7)) h 8 fun x8 h =>
 vguard x8 false (fun kk => kk x0 h) h fun x10 h =>
 vguard x8 false (fun kk => vbin .eql 0 x10 (.v (.c (.p (.int .u8 10)))) h kk) h fun x11 h =>
 vop O (.pick (.k x8) (.k (kB true)) (.k x11)) h 12 fun x12 h =>
 vguard x12 false (fun kk => kk x0 h) h fun x14 h =>
 vguard x12 false (fun kk => vbin .eql 0 x14 (.v (.c (.p (.int .u8 13)))) h kk) h fun x15 h =>
 vop O (.pick (.k x12) (.k (kB true)) (.k x15)) h 16 fun x16 h =>
 tcomp x16 fun c0 => vfin true q [c0] h
theorem e120_0 (O : Oracle) (R : Jump) (q : Nat) (x0 : TVal) (h : Heap) : b120_0 O R q x0 h = stepF c120 O R q 0 [x0] h := by kernel_rfl
def d120 : BlkF := fun O R Q => [.s fun a => .z (b120_0 O R Q a)]
theorem o120 (O : Oracle) (R : Jump) (q : Nat) : HoldsAll c120 O R q 0 (d120 O R q) := ⟨e120_0 O R q, trivial⟩
def c121 : MFunc := mkM (compF Tryd.prog (globs2 tabs opq) (fun _ => false) true Tryd.f121) (.s .n (.s .n (.s (.k (.s .n (.s (.s (.k (.l 1 [0, 1, 4, 7] .n)) (.m 2 [0, 1, 4, 7] .n)) (.s .n (.s (.s .n (.s (.k (.l 3 [0, 1, 4, 7] .n)) (.m 4 [0, 1, 4, 7] .n))) .n))))) (.m 5 [0, 1, 4] (.s .n (.s .n (.s (.s .n (.k (.l 6 [0, 1, 4, 12, 13] .n))) (.m 7 [4] .n))))))))
def b121_0 (O : Oracle) (R : Jump) (q : Nat) (x0 x1 : TVal) (h : Heap) : Res1 :=
 vop O (.alloc [(.p (.int .i64 0)), (.p (.str [])), (.p (.int .i64 0)), (.p (.int .i64 0))] false) h 4 fun x4 h =>
 vindex x0 x1 h fun x18 h =>
 vcall O (.v (.c (.func 107 []))) [x18] h 19 fun x19 h =>
 vif x19 (
 R 1 [x0, x1, x4, x1] h)
 (vindex x0 x1 h fun x53 h =>
 vcall O (.v (.c (.func 108 []))) [x53] h 54 fun x54 h =>
 vguard x54 false (fun kk => kk x0 h) h fun x56 h =>
 vguard x54 false (fun kk => kk x1 h) h fun x57 h =>
 vguard x54 false (fun kk => vindex x56 x57 h kk) h fun x58 h =>
 vguard x54 false (fun kk => vbin .eql 0 x58 (.v (.c (.p (.int .u8 45)))) h kk) h fun x59 h =>
 vguard x54 false (fun kk => kk x59 h) h fun x60 h =>
 vguard x60 true (fun kk => kk x1 h) h fun x61 h =>
 vguard x60 true (fun kk => vbin .add 0 x61 (kI 1) h kk) h fun x62 h =>
 vguard x60 true (fun kk => kk x0 h) h fun x63 h =>
 vguard x60 true (fun kk => vlen O 0 x63 h 64 kk) h fun x64 h =>
 vguard x60 true (fun kk => vbin .lss 0 x62 x64 h kk) h fun x65 h =>
 vguard x54 false (fun kk => vop O (.pick (.k x60) (.k x65) (.k (kB false))) h 66 kk) h fun x66 h =>
 vguard x54 false (fun kk => kk x66 h) h fun x67 h =>
 vguard x67 true (fun kk => kk x0 h) h fun x68 h =>
 vguard x67 true (fun kk => kk x1 h) h fun x69 h =>
 vguard x67 true (fun kk => vbin .add 0 x69 (kI 1) h kk) h fun x70 h =>
 vguard x67 true (fun kk => vindex x68 x70 h kk) h fun x71 h =>
 vguard x67 true (fun kk => vcall O (.v (.c (.func 108 []))) [x71] h 72 kk) h fun x72 h =>
 vguard x54 false (fun kk => vop O (.pick (.k x67) (.k x72) (.k (kB false))) h 73 kk) h fun x73 h =>
 vop O (.pick (.k x54) (.k (kB true)) (.k x73)) h 74 fun x74 h =>
 vif x74 (
 vbin .add 0 x1 (kI 1) h fun x76 h =>
 R 3 [x0, x1, x4, x76] h)
 (vindex x0 x1 h fun x105 h =>
 vbin .eql 0 x105 (.v (.c (.p (.int .u8 34)))) h fun x106 h =>
 vif x106 (
 vcall O (.v (.c (.func 166 []))) [x0, x1] h 110 fun x110 h =>
 vext x110 0 h fun x111 h =>
 vext x110 1 h fun x112 h =>
 vbin .lss 0 x112 (kI 0) h fun x114 h =>
 vif x114 (
 vop O (.build [(.p (.int .i64 0)), (.p (.str [])), (.p (.int .i64 0)), (.p (.int .i64 0))] []) h 115 fun x115 h =>
 vstore 4 x4 x115 h fun _ h =>
 vcell true 4 x4 h fun c0 => tcomp (kI 0) fun c1 => tcomp (kI 11) fun c2 => vfin true q [c0, c1, c2] h)
 (vlen O 0 x111 h 117 fun x117 h =>
 vbin .gtr 0 x117 (kI 200) h fun x118 h =>
 vif x118 (
 vop O (.build [(.p (.int .i64 0)), (.p (.str [])), (.p (.int .i64 0)), (.p (.int .i64 0))] []) h 119 fun x119 h =>
 vstore 4 x4 x119 h fun _ h =>
 vcell true 4 x4 h fun c0 => tcomp (kI 0) fun c1 => tcomp (kI 4) fun c2 => vfin true q [c0, c1, c2] h)
 (vop O (.build [(.p (.int .i64 0)), (.p (.str [])), (.p (.int .i64 0)), (.p (.int .i64 0))] [(0, 1, (.k (kI 2))), (1, 1, (.k x111)), (3, 1, (.k x1))]) h 122 fun x122 h =>
 vstore 4 x4 x122 h fun _ h =>
 vcell true 4 x4 h fun c0 => tcomp x112 fun c1 => tcomp (kI 0) fun c2 => vfin true q [c0, c1, c2] h)))
 (R 5 [x0, x1, x4] h)))
theorem e121_0 (O : Oracle) (R : Jump) (q : Nat) (x0 x1 : TVal) (h : Heap) : b121_0 O R q x0 x1 h = stepF c121 O R q 0 [x0, x1] h := by kernel_rfl
def b121_1 (O : Oracle) (R : Jump) (q : Nat) (x0 x1 x4 x7 : TVal) (h : Heap) : Res1 :=
 vlen O 0 x0 h 22 fun x22 h =>
 vbin .lss 0 x7 x22 h fun x23 h =>
 vguard x23 true (fun kk => kk x0 h) h fun x25 h =>
 vguard x23 true (fun kk => kk x7 h) h fun x26 h =>
 vguard x23 true (fun kk => vindex x25 x26 h kk) h fun x27 h =>
 vguard x23 true (fun kk => vcall O (.v (.c (.func 107 []))) [x27] h 28 kk) h fun x28 h =>
 vguard x23 true (fun kk => kk x28 h) h fun x29 h =>
 vguard x29 false (fun kk => kk x0 h) h fun x30 h =>
 vguard x29 false (fun kk => kk x7 h) h fun x31 h =>
 vguard x29 false (fun kk => vindex x30 x31 h kk) h fun x32 h =>
 vguard x29 false (fun kk => vcall O (.v (.c (.func 108 []))) [x32] h 33 kk) h fun x33 h =>
 vguard x23 true (fun kk => vop O (.pick (.k x29) (.k (kB true)) (.k x33)) h 34 kk) h fun x34 h =>
 vop O (.pick (.k x23) (.k x34) (.k (kB false))) h 35 fun x35 h =>
 vif x35 (
 vbin .add 0 x7 (kI 1) h fun x37 h =>
 R 1 [x0, x1, x4, x37] h)
 (R 2 [x0, x1, x4, x7] h)
theorem e121_1 (O : Oracle) (R : Jump) (q : Nat) (x0 x1 x4 x7 : TVal) (h : Heap) : b121_1 O R q x0 x1 x4 x7 h = stepF c121 O R q 1 [x0, x1, x4, x7] h := by kernel_rfl
def b121_2 (O : Oracle) (R : Jump) (q : Nat) (x0 x1 x4 x7 : TVal) (h : Heap) : Res1 :=
 vbin .sub 0 x7 x1 h fun x40 h =>
 vbin .gtr 0 x40 (kI 16) h fun x41 h =>
 vif x41 (
 vop O (.build [(.p (.int .i64 0)), (.p (.str [])), (.p (.int .i64 0)), (.p (.int .i64 0))] []) h 42 fun x42 h =>
 vstore 4 x4 x42 h fun _ h =>
 vcell true 4 x4 h fun c0 => tcomp (kI 0) fun c1 => tcomp (kI 4) fun c2 => vfin true q [c0, c1, c2] h)
 (vop O (.slice 0 true (.k x0) (some (.k x1)) (some (.k x7)) none) h 46 fun x46 h =>
 vop O (.build [(.p (.int .i64 0)), (.p (.str [])), (.p (.int .i64 0)), (.p (.int .i64 0))] [(0, 1, (.k (kI 1))), (1, 1, (.k x46)), (3, 1, (.k x1))]) h 48 fun x48 h =>
 vstore 4 x4 x48 h fun _ h =>
 vcell true 4 x4 h fun c0 => tcomp x7 fun c1 => tcomp (kI 0) fun c2 => vfin true q [c0, c1, c2] h)
theorem e121_2 (O : Oracle) (R : Jump) (q : Nat) (x0 x1 x4 x7 : TVal) (h : Heap) : b121_2 O R q x0 x1 x4 x7 h = stepF c121 O R q 2 [x0, x1, x4, x7] h := by kernel_rfl
def b121_3 (O : Oracle) (R : Jump) (q : Nat) (x0 x1 x4 x7 : TVal) (h : Heap) : Res1 :=
 vlen O 0 x0 h 79 fun x79 h =>
 vbin .lss 0 x7 x79 h fun x80 h =>
 vguard x80 true (fun kk => kk x0 h) h fun x82 h =>
 vguard x80 true (fun kk => kk x7 h) h fun x83 h =>
 vguard x80 true (fun kk => vindex x82 x83 h kk) h fun x84 h =>
 vguard x80 true (fun kk => vcall O (.v (.c (.func 108 []))) [x84] h 85 kk) h fun x85 h =>
 vop O (.pick (.k x80) (.k x85) (.k (kB false))) h 86 fun x86 h =>
 vif x86 (
 vbin .add 0 x7 (kI 1) h fun x88 h =>
 R 3 [x0, x1, x4, x88] h)
 (R 4 [x0, x1, x4, x7] h)
theorem e121_3 (O : Oracle) (R : Jump) (q : Nat) (x0 x1 x4 x7 : TVal) (h : Heap) : b121_3 O R q x0 x1 x4 x7 h = stepF c121 O R q 3 [x0, x1, x4, x7] h := by kernel_rfl
def b121_4 (O : Oracle) (R : Jump) (q : Nat) (x0 x1 x4 x7 : TVal) (h : Heap) : Res1 :=
 vop O (.slice 0 true (.k x0) (some (.k x1)) (some (.k x7)) none) h 93 fun x93 h =>
 vcall O (.v (.c (.func 165 []))) [x93] h 94 fun x94 h =>
 vext x94 0 h fun x95 h =>
 vext x94 1 h fun x96 h =>
 vop O (.build [(.p (.int .i64 0)), (.p (.str [])), (.p (.int .i64 0)), (.p (.int .i64 0))] [(0, 1, (.k (kI 3))), (2, 1, (.k x95)), (3, 1, (.k x1))]) h 99 fun x99 h =>
 vstore 4 x4 x99 h fun _ h =>
 vcell true 4 x4 h fun c0 => tcomp x7 fun c1 => tcomp x96 fun c2 => vfin true q [c0, c1, c2] h
theorem e121_4 (O : Oracle) (R : Jump) (q : Nat) (x0 x1 x4 x7 : TVal) (h : Heap) : b121_4 O R q x0 x1 x4 x7 h = stepF c121 O R q 4 [x0, x1, x4, x7] h := by kernel_rfl
def b121_5 (O : Oracle) (R : Jump) (q : Nat) (x0 x1 x4 : TVal) (h : Heap) : Res1 :=
 vbin .add 0 x1 (kI 2) h fun x125 h =>
 vlen O 0 x0 h 127 fun x127 h =>
 vbin .leq 0 x125 x127 h fun x128 h =>
 vguard x128 true (fun kk => kk x0 h) h fun x130 h =>
 vguard x128 true (fun kk => kk x1 h) h fun x131 h =>
 vguard x128 true (fun kk => kk x1 h) h fun x132 h =>
 vguard x128 true (fun kk => vbin .add 0 x132 (kI 2) h kk) h fun x133 h =>
 vguard x128 true (fun kk => vop O (.slice 0 true (.k x130) (some (.k x131)) (some (.k x133)) none) h 134 kk) h fun x134 h =>
 vguard x128 true (fun kk => vbin .eql 0 x134 (kS [45, 62]) h kk) h fun x135 h =>
 vguard x128 true (fun kk => kk x135 h) h fun x136 h =>
 vguard x136 false (fun kk => kk x0 h) h fun x137 h =>
 vguard x136 false (fun kk => kk x1 h) h fun x138 h =>
 vguard x136 false (fun kk => kk x1 h) h fun x139 h =>
 vguard x136 false (fun kk => vbin .add 0 x139 (kI 2) h kk) h fun x140 h =>
 vguard x136 false (fun kk => vop O (.slice 0 true (.k x137) (some (.k x138)) (some (.k x140)) none) h 141 kk) h fun x141 h =>
 vguard x136 false (fun kk => vbin .eql 0 x141 (kS [58, 61]) h kk) h fun x142 h =>
 vguard x128 true (fun kk => vop O (.pick (.k x136) (.k (kB true)) (.k x142)) h 143 kk) h fun x143 h =>
 vop O (.pick (.k x128) (.k x143) (.k (kB false))) h 144 fun x144 h =>
 vif x144 (
 vbin .add 0 x1 (kI 2) h fun x148 h =>
 vop O (.slice 0 true (.k x0) (some (.k x1)) (some (.k x148)) none) h 149 fun x149 h =>
 vop O (.build [(.p (.int .i64 0)), (.p (.str [])), (.p (.int .i64 0)), (.p (.int .i64 0))] [(0, 1, (.k (kI 4))), (1, 1, (.k x149)), (3, 1, (.k x1))]) h 151 fun x151 h =>
 vbin .add 0 x1 (kI 2) h fun x153 h =>
 vstore 4 x4 x151 h fun _ h =>
 vcell true 4 x4 h fun c0 => tcomp x153 fun c1 => tcomp (kI 0) fun c2 => vfin true q [c0, c1, c2] h)
 (R 6 [x0, x1, x4, (kS [123, 125, 60, 62, 44, 58, 40, 41, 46, 36, 124, 61, 59]), (kI 0)] h)
theorem e121_5 (O : Oracle) (R : Jump) (q : Nat) (x0 x1 x4 : TVal) (h : Heap) : b121_5 O R q x0 x1 x4 h = stepF c121 O R q 5 [x0, x1, x4] h := by kernel_rfl
def b121_6 (O : Oracle) (R : Jump) (q : Nat) (x0 x1 x4 x12 x13 : TVal) (h : Heap) : Res1 :=
 vlen O 0 x12 h 156 fun x156 h =>
 vbin .lss 0 x13 x156 h fun x157 h =>
 vif x157 (
 vindex x12 x13 h fun x162 h =>
 vindex x0 x1 h fun x165 h =>
 vbin .eql 0 x162 x165 h fun x166 h =>
 vif x166 (
 vbin .add 0 x1 (kI 1) h fun x170 h =>
 vop O (.slice 0 true (.k x0) (some (.k x1)) (some (.k x170)) none) h 171 fun x171 h =>
 vop O (.build [(.p (.int .i64 0)), (.p (.str [])), (.p (.int .i64 0)), (.p (.int .i64 0))] [(0, 1, (.k (kI 4))), (1, 1, (.k x171)), (3, 1, (.k x1))]) h 173 fun x173 h =>
 vbin .add 0 x1 (kI 1) h fun x175 h =>
 vstore 4 x4 x173 h fun _ h =>
 vcell true 4 x4 h fun c0 => tcomp x175 fun c1 => tcomp (kI 0) fun c2 => vfin true q [c0, c1, c2] h)
 (vbin .add 0 x13 (kI 1) h fun x159 h =>
 R 6 [x0, x1, x4, x12, x159] h))
 (R 7 [x4] h)
theorem e121_6 (O : Oracle) (R : Jump) (q : Nat) (x0 x1 x4 x12 x13 : TVal) (h : Heap) : b121_6 O R q x0 x1 x4 x12 x13 h = stepF c121 O R q 6 [x0, x1, x4, x12, x13] h := by kernel_rfl
def b121_7 (O : Oracle) (R : Jump) (q : Nat) (x4 : TVal) (h : Heap) : Res1 :=
 vop O (.build [(.p (.int .i64 0)), (.p (.str [])), (.p (.int .i64 0)), (.p (.int .i64 0))] []) h 176 fun x176 h =>
 vstore 4 x4 x176 h fun _ h =>
 vcell true 4 x4 h fun c0 => tcomp (kI 0) fun c1 => tcomp (kI 11) fun c2 => vfin true q [c0, c1, c2] h
theorem e121_7 (O : Oracle) (R : Jump) (q : Nat) (x4 : TVal) (h : Heap) : b121_7 O R q x4 h = stepF c121 O R q 7 [x4] h := by kernel_rfl
def d121 : BlkF := fun O R Q => [.s fun a => .s fun b => .z (b121_0 O R Q a b), .s fun a => .s fun b => .s fun c => .s fun d => .z (b121_1 O R Q a b c d), .s fun a => .s fun b => .s fun c => .s fun d => .z (b121_2 O R Q a b c d), .s fun a => .s fun b => .s fun c => .s fun d => .z (b121_3 O R Q a b c d), .s fun a => .s fun b => .s fun c => .s fun d => .z (b121_4 O R Q a b c d), .s fun a => .s fun b => .s fun c => .z (b121_5 O R Q a b c), .s fun a => .s fun b => .s fun c => .s fun d => .s fun e => .z (b121_6 O R Q a b c d e), .s fun a => .z (b121_7 O R Q a)]
theorem o121 (O : Oracle) (R : Jump) (q : Nat) : HoldsAll c121 O R q 0 (d121 O R q) := ⟨e121_0 O R q, e121_1 O R q, e121_2 O R q, e121_3 O R q, e121_4 O R q, e121_5 O R q, e121_6 O R q, e121_7 O R q, trivial⟩
def c122 : MFunc := mkM (compF Tryd.prog (globs2 tabs opq) (fun _ => false) true Tryd.f122) .n
def b122_0 (O : Oracle) (R : Jump) (q : Nat) (x0 x1 : TVal) (h : Heap) : Res1 :=
 vop O (.nilck (.k x0)) h 5 fun x5 h =>
 vfaddr 2 x5 h fun x6 h =>
 vload false 1 x6 h fun x7 h =>
 vbin .eql 0 x7 (kI 0) h fun x8 h =>
 vif x8 (
 vop O (.nilck (.k x0)) h 11 fun x11 h =>
 vfaddr 2 x11 h fun x12 h =>
 vstore 1 x12 x1 h fun _ h =>
 vfin true q [] h)
 (vfin true q [] h)
theorem e122_0 (O : Oracle) (R : Jump) (q : Nat) (x0 x1 : TVal) (h : Heap) : b122_0 O R q x0 x1 h = stepF c122 O R q 0 [x0, x1] h := by kernel_rfl
def d122 : BlkF := fun O R Q => [.s fun a => .s fun b => .z (b122_0 O R Q a b)]
theorem o122 (O : Oracle) (R : Jump) (q : Nat) : HoldsAll c122 O R q 0 (d122 O R q) := ⟨e122_0 O R q, trivial⟩
def c123 : MFunc := mkM (compF Tryd.prog (globs2 tabs opq) (fun _ => false) true Tryd.f123) (.s .n (.s .n (.s .n (.s (.k (.l 1 [0, 2, 6, 7] (.s .n (.k (.s .n (.s .n (.s .n (.s .n (.s (.k (.l 2 [0, 2, 6, 7, 8, 9, 10] .n)) (.m 3 [0, 2, 6, 7, 8, 9, 10] .n)))))))))) (.m 4 [0, 6, 7] .n)))))
def b123_0 (O : Oracle) (R : Jump) (q : Nat) (x0 x1 x2 : TVal) (h : Heap) : Res1 :=
 vop O (.alloc [(.p (.int .i64 0)), (.p (.str [])), (.p .nilslice), (.p .nilslice)] false) h 6 fun x6 h =>
 vop O (.build [(.p (.int .i64 0)), (.p (.str [])), (.p .nilslice), (.p .nilslice)] [(0, 1, (.k x1))]) h 14 fun x14 h =>
 vop O (.alloc [(.p (.int .i64 0)), (.p (.str [])), (.p .nilslice), (.p .nilslice)] false) h 7 fun x7 h =>
 vstore 4 x7 x14 h fun _ h =>
 vcall O (.v (.c (.func 60 []))) [x0, (kS [123])] h 16 fun x16 h =>
 R 1 [x0, x2, x6, x7] h
theorem e123_0 (O : Oracle) (R : Jump) (q : Nat) (x0 x1 x2 : TVal) (h : Heap) : b123_0 O R q x0 x1 x2 h = stepF c123 O R q 0 [x0, x1, x2] h := by kernel_rfl
def b123_1 (O : Oracle) (R : Jump) (q : Nat) (x0 x2 x6 x7 : TVal) (h : Heap) : Res1 :=
 vop O (.nilck (.k x0)) h 18 fun x18 h =>
 vfaddr 2 x18 h fun x19 h =>
 vload false 1 x19 h fun x20 h =>
 vbin .eql 0 x20 (kI 0) h fun x21 h =>
 vguard x21 true (fun kk => vfaddr 2 x7 h kk) h fun x23 h =>
 vguard x21 true (fun kk => vload false 1 x23 h kk) h fun x24 h =>
 vguard x21 true (fun kk => vlen O 2 x24 h 25 kk) h fun x25 h =>
 vguard x21 true (fun kk => vbin .eql 0 x25 (kI 0) h kk) h fun x26 h =>
 vguard x21 true (fun kk => kk x26 h) h fun x27 h =>
 vguard x27 true (fun kk => kk x0 h) h fun x28 h =>
 vguard x27 true (fun kk => vcall O (.v (.c (.func 62 []))) [x28, (kS [125])] h 29 kk) h fun x29 h =>
 vguard x21 true (fun kk => vop O (.pick (.k x27) (.k x29) (.k (kB false))) h 30 kk) h fun x30 h =>
 vguard x21 true (fun kk => vop O (.un .not (.k x30)) h 31 kk) h fun x31 h =>
 vop O (.pick (.k x21) (.k x31) (.k (kB false))) h 32 fun x32 h =>
 vif x32 (
 vcall O (.v (.c (.func 64 []))) [x0] h 34 fun x34 h =>
 vcall O (.v (.c (.func 60 []))) [x0, (kS [58])] h 36 fun x36 h =>
 vbin .add 0 x2 (kI 1) h fun x39 h =>
 vcall O (.v (.c (.func 61 []))) [x0, x39] h 40 fun x40 h =>
 vop O (.alloc [(.p (.int .i64 0)), (.p (.str [])), (.p .nilslice), (.p .nilslice)] false) h 9 fun x9 h =>
 vstore 4 x9 x40 h fun _ h =>
 R 2 [x0, x2, x6, x7, x34, x9, (kI 0)] h)
 (R 4 [x0, x6, x7] h)
theorem e123_1 (O : Oracle) (R : Jump) (q : Nat) (x0 x2 x6 x7 : TVal) (h : Heap) : b123_1 O R q x0 x2 x6 x7 h = stepF c123 O R q 1 [x0, x2, x6, x7] h := by kernel_rfl
def b123_2 (O : Oracle) (R : Jump) (q : Nat) (x0 x2 x6 x7 x8 x9 x10 : TVal) (h : Heap) : Res1 :=
 vfaddr 2 x7 h fun x42 h =>
 vload false 1 x42 h fun x43 h =>
 vlen O 2 x43 h 44 fun x44 h =>
 vbin .lss 0 x10 x44 h fun x45 h =>
 vguard x45 true (fun kk => vfaddr 2 x7 h kk) h fun x47 h =>
 vguard x45 true (fun kk => vload false 1 x47 h kk) h fun x48 h =>
 vguard x45 true (fun kk => kk x10 h) h fun x49 h =>
 vguard x45 true (fun kk => viaddr 1 x48 x49 h kk) h fun x50 h =>
 vguard x45 true (fun kk => vload false 1 x50 h kk) h fun x51 h =>
 vguard x45 true (fun kk => kk x8 h) h fun x52 h =>
 vguard x45 true (fun kk => vbin .lss 0 x51 x52 h kk) h fun x53 h =>
 vop O (.pick (.k x45) (.k x53) (.k (kB false))) h 54 fun x54 h =>
 vif x54 (
 vbin .add 0 x10 (kI 1) h fun x56 h =>
 R 2 [x0, x2, x6, x7, x8, x9, x56] h)
 (R 3 [x0, x2, x6, x7, x8, x9, x10] h)
theorem e123_2 (O : Oracle) (R : Jump) (q : Nat) (x0 x2 x6 x7 x8 x9 x10 : TVal) (h : Heap) : b123_2 O R q x0 x2 x6 x7 x8 x9 x10 h = stepF c123 O R q 2 [x0, x2, x6, x7, x8, x9, x10] h := by kernel_rfl
def b123_3 (O : Oracle) (R : Jump) (q : Nat) (x0 x2 x6 x7 x8 x9 x10 : TVal) (h : Heap) : Res1 :=
 vop O (.nilck (.k x0)) h 59 fun x59 h =>
 vfaddr 3 x59 h fun x60 h =>
 vload false 1 x60 h fun x61 h =>
 vguard x61 false (fun kk => kk x10 h) h fun x63 h =>
 vguard x61 false (fun kk => vfaddr 2 x7 h kk) h fun x64 h =>
 vguard x61 false (fun kk => vload false 1 x64 h kk) h fun x65 h =>
 vguard x61 false (fun kk => vlen O 2 x65 h 66 kk) h fun x66 h =>
 vguard x61 false (fun kk => vbin .lss 0 x63 x66 h kk) h fun x67 h =>
 vguard x61 false (fun kk => kk x67 h) h fun x68 h =>
 vguard x68 true (fun kk => vfaddr 2 x7 h kk) h fun x69 h =>
 vguard x68 true (fun kk => vload false 1 x69 h kk) h fun x70 h =>
 vguard x68 true (fun kk => kk x10 h) h fun x71 h =>
 vguard x68 true (fun kk => viaddr 1 x70 x71 h kk) h fun x72 h =>
 vguard x68 true (fun kk => vload false 1 x72 h kk) h fun x73 h =>
 vguard x68 true (fun kk => kk x8 h) h fun x74 h =>
 vguard x68 true (fun kk => vbin .eql 0 x73 x74 h kk) h fun x75 h =>
 vguard x61 false (fun kk => vop O (.pick (.k x68) (.k x75) (.k (kB false))) h 76 kk) h fun x76 h =>
 vop O (.pick (.k x61) (.k (kB true)) (.k x76)) h 77 fun x77 h =>
 vop O (.nilck (.k x0)) h 78 fun x78 h =>
 vfaddr 3 x78 h fun x79 h =>
 vstore 1 x79 x77 h fun _ h =>
 vop O (.bslice 1 0 [(.p (.str []))] [] false) h 80 fun x80 h =>
 vfaddr 2 x7 h fun x81 h =>
 vload false 1 x81 h fun x82 h =>
 vop O (.slice 1 false (.k x82) none (some (.k x10)) none) h 84 fun x84 h =>
 vop O (.append 1 16 false (.k x80) (.k x84)) h 85 fun x85 h =>
 vop O (.bslice 4 0 [(.p (.int .i64 0)), (.p (.str [])), (.p .nilslice), (.p .nilslice)] [] false) h 86 fun x86 h =>
 vfaddr 3 x7 h fun x87 h =>
 vload false 1 x87 h fun x88 h =>
 vop O (.slice 4 false (.k x88) none (some (.k x10)) none) h 90 fun x90 h =>
 vop O (.append 4 72 false (.k x86) (.k x90)) h 91 fun x91 h =>
 vtouch O (.mv (.k x85)) h 92 fun x92 h t0 =>
 vtouch O (.mv (.k x8)) h 93 fun x93 h t1 =>
 vtouch O (.bslice 1 1 [(.p (.str []))] [(0, (.k x93))] false) h 94 fun x94 h t2 =>
 vtouch O (.append 1 16 false (.k x92) (.k x94)) h 95 fun x95 h t3 =>
 vtouch O (.faddr 2 (.k x7)) h 96 fun x96 h t4 =>
 vtouch O (.load false 1 (.k x96)) h 97 fun x97 h t5 =>
 vtouch O (.mv (.k x10)) h 98 fun x98 h t6 =>
 vtouch O (.slice 1 false (.k x97) (some (.k x98)) none none) h 99 fun x99 h t7 =>
 vtouch O (.append 1 16 false (.k x95) (.k x99)) h 100 fun x100 h t8 =>
 vtouch O (.mv (.k x91)) h 101 fun x101 h t9 =>
 vtouch O (.load true 4 (.k x9)) h 102 fun x102 h t10 =>
 vtouch O (.bslice 4 1 [(.p (.int .i64 0)), (.p (.str [])), (.p .nilslice), (.p .nilslice)] [(0, (.k x102))] false) h 103 fun x103 h t11 =>
 vtouch O (.append 4 72 false (.k x101) (.k x103)) h 104 fun x104 h t12 =>
 vtouch O (.faddr 3 (.k x7)) h 105 fun x105 h t13 =>
 vtouch O (.load false 1 (.k x105)) h 106 fun x106 h t14 =>
 vtouch O (.mv (.k x10)) h 107 fun x107 h t15 =>
 vtouch O (.slice 4 false (.k x106) (some (.k x107)) none none) h 108 fun x108 h t16 =>
 vtouch O (.append 4 72 false (.k x104) (.k x108)) h 109 fun x109 h t17 =>
 vtouch O (.faddr 2 (.k x7)) h 110 fun x110 h t18 =>
 vtouch O (.store 1 (.k x110) (.k x100)) h 1000000 fun _ h t19 =>
 vtouch O (.faddr 3 (.k x7)) h 111 fun x111 h t20 =>
 vtouch O (.store 1 (.k x111) (.k x109)) h 1000000 fun _ h t21 =>
 bif apartAll [t0, t1, t2, t3, t4, t5, t6, t7, t8, t9, t10, t11, t12, t13, t14, t15, t16, t17, t18, t19, t20, t21] [(2, 5), (3, 5), (2, 10), (3, 10), (8, 10), (2, 11), (3, 11), (5, 11), (8, 11), (2, 14), (3, 14), (8, 14), (11, 14), (12, 14)] then
 vcall O (.v (.c (.func 62 []))) [x0, (kS [44])] h 113 fun x113 h =>
 vop O (.un .not (.k x113)) h 114 fun x114 h =>
 vif x114 (
 R 4 [x0, x6, x7] h)
 (vcall O (.v (.c (.func 60 []))) [x0, (kS [44])] h 116 fun x116 h =>
 R 1 [x0, x2, x6, x7] h)
 else none
theorem e123_3 (O : Oracle) (R : Jump) (q : Nat) (x0 x2 x6 x7 x8 x9 x10 : TVal) (h : Heap) : b123_3 O R q x0 x2 x6 x7 x8 x9 x10 h = stepF c123 O R q 3 [x0, x2, x6, x7, x8, x9, x10] h := by kernel_rfl
def b123_4 (O : Oracle) (R : Jump) (q : Nat) (x0 x6 x7 : TVal) (h : Heap) : Res1 :=
 vcall O (.v (.c (.func 60 []))) [x0, (kS [125])] h 118 fun x118 h =>
 vload true 4 x7 h fun x119 h =>
 vstore 4 x6 x119 h fun _ h =>
 vcell true 4 x6 h fun c0 => vfin true q [c0] h
theorem e123_4 (O : Oracle) (R : Jump) (q : Nat) (x0 x6 x7 : TVal) (h : Heap) : b123_4 O R q x0 x6 x7 h = stepF c123 O R q 4 [x0, x6, x7] h := by kernel_rfl
def d123 : BlkF := fun O R Q => [.s fun a => .s fun b => .s fun c => .z (b123_0 O R Q a b c), .s fun a => .s fun b => .s fun c => .s fun d => .z (b123_1 O R Q a b c d), .s fun a => .s fun b => .s fun c => .s fun d => .s fun e => .s fun f => .s fun g => .z (b123_2 O R Q a b c d e f g), .s fun a => .s fun b => .s fun c => .s fun d => .s fun e => .s fun f => .s fun g => .z (b123_3 O R Q a b c d e f g), .s fun a => .s fun b => .s fun c => .z (b123_4 O R Q a b c)]
theorem o123 (O : Oracle) (R : Jump) (q : Nat) : HoldsAll c123 O R q 0 (d123 O R q) := ⟨e123_0 O R q, e123_1 O R q, e123_2 O R q, e123_3 O R q, e123_4 O R q, trivial⟩
def c124 : MFunc := mkM (compF Tryd.prog (globs2 tabs opq) (fun _ => false) true Tryd.f124) .n
def b124_0 (O : Oracle) (R : Jump) (q : Nat) (x0 x1 x2 : TVal) (h : Heap) : Res1 :=
 vop O (.alloc [(.p (.int .i64 0)), (.p (.str [])), (.p .nilslice), (.p .nilslice)] false) h 6 fun x6 h =>
 vcall O (.v (.c (.func 60 []))) [x0, (kS [60])] h 9 fun x9 h =>
 vbin .add 0 x2 (kI 1) h fun x12 h =>
 vcall O (.v (.c (.func 61 []))) [x0, x12] h 13 fun x13 h =>
 vop O (.alloc [(.p (.int .i64 0)), (.p (.str [])), (.p .nilslice), (.p .nilslice)] false) h 7 fun x7 h =>
 vstore 4 x7 x13 h fun _ h =>
 vcall O (.v (.c (.func 60 []))) [x0, (kS [62])] h 15 fun x15 h =>
 vload true 4 x7 h fun x17 h =>
 vop O (.bslice 4 1 [(.p (.int .i64 0)), (.p (.str [])), (.p .nilslice), (.p .nilslice)] [(0, (.k x17))] false) h 18 fun x18 h =>
 vop O (.build [(.p (.int .i64 0)), (.p (.str [])), (.p .nilslice), (.p .nilslice)] [(0, 1, (.k x1)), (3, 1, (.k x18))]) h 19 fun x19 h =>
 vstore 4 x6 x19 h fun _ h =>
 vcell true 4 x6 h fun c0 => vfin true q [c0] h
theorem e124_0 (O : Oracle) (R : Jump) (q : Nat) (x0 x1 x2 : TVal) (h : Heap) : b124_0 O R q x0 x1 x2 h = stepF c124 O R q 0 [x0, x1, x2] h := by kernel_rfl
def d124 : BlkF := fun O R Q => [.s fun a => .s fun b => .s fun c => .z (b124_0 O R Q a b c)]
theorem o124 (O : Oracle) (R : Jump) (q : Nat) : HoldsAll c124 O R q 0 (d124 O R q) := ⟨e124_0 O R q, trivial⟩
def c125 : MFunc := mkM (compF Tryd.prog (globs2 tabs opq) (fun _ => false) true Tryd.f125) (.s .n (.s .n (.s (.s .n (.k (.l 1 [0, 2, 4, 5] .n))) (.m 2 [2] .n))))
def b125_0 (O : Oracle) (R : Jump) (q : Nat) (x0 : TVal) (h : Heap) : Res1 :=
 vop O (.alloc [(.p (.int .i64 0)), (.p (.bool false)), (.p (.int .i64 0)), (.p (.str [])), (.p .nilslice), (.p .nilslice)] false) h 2 fun x2 h =>
 vop O (.bslice 1 3 [(.p (.str []))] [(0, (.k (kS [110, 117, 108, 108]))), (1, (.k (kS [102, 97, 108, 115, 101]))), (2, (.k (kS [116, 114, 117, 101])))] false) h 7 fun x7 h =>
 R 1 [x0, x2, x7, (kI 0)] h
theorem e125_0 (O : Oracle) (R : Jump) (q : Nat) (x0 : TVal) (h : Heap) : b125_0 O R q x0 h = stepF c125 O R q 0 [x0] h := by kernel_rfl
def b125_1 (O : Oracle) (R : Jump) (q : Nat) (x0 x2 x4 x5 : TVal) (h : Heap) : Res1 :=
 vbin .lss 0 x5 (kI 3) h fun x9 h =>
 vif x9 (
 viaddr 1 x4 x5 h fun x14 h =>
 vload false 1 x14 h fun x15 h =>
 vop O (.nilck (.k x0)) h 17 fun x17 h =>
 vfaddr 1 x17 h fun x18 h =>
 vload false 1 x18 h fun x19 h =>
 vlen O 0 x15 h 21 fun x21 h =>
 vbin .add 0 x19 x21 h fun x22 h =>
 vop O (.nilck (.k x0)) h 24 fun x24 h =>
 vfaddr 0 x24 h fun x25 h =>
 vload false 1 x25 h fun x26 h =>
 vlen O 0 x26 h 27 fun x27 h =>
 vbin .leq 0 x22 x27 h fun x28 h =>
 vguard x28 true (fun kk => kk x0 h) h fun x30 h =>
 vguard x28 true (fun kk => vop O (.nilck (.k x30)) h 31 kk) h fun x31 h =>
 vguard x28 true (fun kk => vfaddr 0 x31 h kk) h fun x32 h =>
 vguard x28 true (fun kk => vload false 1 x32 h kk) h fun x33 h =>
 vguard x28 true (fun kk => kk x0 h) h fun x34 h =>
 vguard x28 true (fun kk => vop O (.nilck (.k x34)) h 35 kk) h fun x35 h =>
 vguard x28 true (fun kk => vfaddr 1 x35 h kk) h fun x36 h =>
 vguard x28 true (fun kk => vload false 1 x36 h kk) h fun x37 h =>
 vguard x28 true (fun kk => kk x0 h) h fun x38 h =>
 vguard x28 true (fun kk => vop O (.nilck (.k x38)) h 39 kk) h fun x39 h =>
 vguard x28 true (fun kk => vfaddr 1 x39 h kk) h fun x40 h =>
 vguard x28 true (fun kk => vload false 1 x40 h kk) h fun x41 h =>
 vguard x28 true (fun kk => kk x15 h) h fun x42 h =>
 vguard x28 true (fun kk => vlen O 0 x42 h 43 kk) h fun x43 h =>
 vguard x28 true (fun kk => vbin .add 0 x41 x43 h kk) h fun x44 h =>
 vguard x28 true (fun kk => vop O (.slice 0 true (.k x33) (some (.k x37)) (some (.k x44)) none) h 45 kk) h fun x45 h =>
 vguard x28 true (fun kk => kk x15 h) h fun x46 h =>
 vguard x28 true (fun kk => vbin .eql 0 x45 x46 h kk) h fun x47 h =>
 vop O (.pick (.k x28) (.k x47) (.k (kB false))) h 48 fun x48 h =>
 vif x48 (
 vop O (.nilck (.k x0)) h 51 fun x51 h =>
 vfaddr 1 x51 h fun x52 h =>
 vload false 1 x52 h fun x53 h =>
 vlen O 0 x15 h 55 fun x55 h =>
 vbin .add 0 x53 x55 h fun x56 h =>
 vop O (.nilck (.k x0)) h 57 fun x57 h =>
 vfaddr 1 x57 h fun x58 h =>
 vstore 1 x58 x56 h fun _ h =>
 vbin .eql 0 x5 (kI 0) h fun x60 h =>
 vif x60 (
 vop O (.build [(.p (.int .i64 0)), (.p (.bool false)), (.p (.int .i64 0)), (.p (.str [])), (.p .nilslice), (.p .nilslice)] []) h 61 fun x61 h =>
 vstore 6 x2 x61 h fun _ h =>
 vcell true 6 x2 h fun c0 => tcomp (kB true) fun c1 => vfin true q [c0, c1] h)
 (vbin .eql 0 x5 (kI 2) h fun x63 h =>
 vop O (.build [(.p (.int .i64 0)), (.p (.bool false)), (.p (.int .i64 0)), (.p (.str [])), (.p .nilslice), (.p .nilslice)] [(0, 1, (.k (kI 1))), (1, 1, (.k x63))]) h 64 fun x64 h =>
 vstore 6 x2 x64 h fun _ h =>
 vcell true 6 x2 h fun c0 => tcomp (kB true) fun c1 => vfin true q [c0, c1] h))
 (vbin .add 0 x5 (kI 1) h fun x11 h =>
 R 1 [x0, x2, x4, x11] h))
 (R 2 [x2] h)
theorem e125_1 (O : Oracle) (R : Jump) (q : Nat) (x0 x2 x4 x5 : TVal) (h : Heap) : b125_1 O R q x0 x2 x4 x5 h = stepF c125 O R q 1 [x0, x2, x4, x5] h := by kernel_rfl
def b125_2 (O : Oracle) (R : Jump) (q : Nat) (x2 : TVal) (h : Heap) : Res1 :=
 vop O (.build [(.p (.int .i64 0)), (.p (.bool false)), (.p (.int .i64 0)), (.p (.str [])), (.p .nilslice), (.p .nilslice)] []) h 65 fun x65 h =>
 vstore 6 x2 x65 h fun _ h =>
 vcell true 6 x2 h fun c0 => tcomp (kB false) fun c1 => vfin true q [c0, c1] h
theorem e125_2 (O : Oracle) (R : Jump) (q : Nat) (x2 : TVal) (h : Heap) : b125_2 O R q x2 h = stepF c125 O R q 2 [x2] h := by kernel_rfl
def d125 : BlkF := fun O R Q => [.s fun a => .z (b125_0 O R Q a), .s fun a => .s fun b => .s fun c => .s fun d => .z (b125_1 O R Q a b c d), .s fun a => .z (b125_2 O R Q a)]
theorem o125 (O : Oracle) (R : Jump) (q : Nat) : HoldsAll c125 O R q 0 (d125 O R q) := ⟨e125_0 O R q, e125_1 O R q, e125_2 O R q, trivial⟩
def c126 : MFunc := mkM (compF Tryd.prog (globs2 tabs opq) (fun _ => false) true Tryd.f126) .n
def b126_0 (O : Oracle) (R : Jump) (q : Nat) (x0 : TVal) (h : Heap) : Res1 :=
 vbin .geq 0 x0 (.v (.c (.p (.int .u8 48)))) h fun x4 h =>
 vguard x4 true (fun kk => kk x0 h) h fun x6 h =>
 vguard x4 true (fun kk => vbin .leq 0 x6 (.v (.c (.p (.int .u8 57)))) h kk) h fun x7 h =>
 vop O (.pick (.k x4) (.k x7) (.k (kB false))) h 8 fun x8 h =>
 tcomp x8 fun c0 => vfin true q [c0] h
theorem e126_0 (O : Oracle) (R : Jump) (q : Nat) (x0 : TVal) (h : Heap) : b126_0 O R q x0 h = stepF c126 O R q 0 [x0] h := by kernel_rfl
def d126 : BlkF := fun O R Q => [.s fun a => .z (b126_0 O R Q a)]
theorem o126 (O : Oracle) (R : Jump) (q : Nat) : HoldsAll c126 O R q 0 (d126 O R q) := ⟨e126_0 O R q, trivial⟩
def c127 : MFunc := mkM (compF Tryd.prog (globs2 tabs opq) (fun _ => false) true Tryd.f127) .n
def b127_0 (O : Oracle) (R : Jump) (q : Nat) (x0 : TVal) (h : Heap) : Res1 :=
 vop O (.nilck (.k x0)) h 7 fun x7 h =>
 vfaddr 0 x7 h fun x8 h =>
 vload false 1 x8 h fun x9 h =>
 vop O (.nilck (.k x0)) h 11 fun x11 h =>
 vfaddr 1 x11 h fun x12 h =>
 vload false 1 x12 h fun x13 h =>
 vcall O (.v (.c (.func 166 []))) [x9, x13] h 14 fun x14 h =>
 vext x14 0 h fun x15 h =>
 vext x14 1 h fun x16 h =>
 vbin .lss 0 x16 (kI 0) h fun x18 h =>
 vif x18 (
 vcall O (.v (.c (.func 68 []))) [x0, (kI 11)] h 20 fun x20 h =>
 tcomp (kS []) fun c0 => vfin true q [c0] h)
 (vop O (.nilck (.k x0)) h 23 fun x23 h =>
 vfaddr 1 x23 h fun x24 h =>
 vstore 1 x24 x16 h fun _ h =>
 tcomp x15 fun c0 => vfin true q [c0] h)
theorem e127_0 (O : Oracle) (R : Jump) (q : Nat) (x0 : TVal) (h : Heap) : b127_0 O R q x0 h = stepF c127 O R q 0 [x0] h := by kernel_rfl
def d127 : BlkF := fun O R Q => [.s fun a => .z (b127_0 O R Q a)]
theorem o127 (O : Oracle) (R : Jump) (q : Nat) : HoldsAll c127 O R q 0 (d127 O R q) := ⟨e127_0 O R q, trivial⟩
def c128 : MFunc := mkM (compF Tryd.prog (globs2 tabs opq) (fun _ => false) true Tryd.f128) (.s .n (.s .n (.s .n (.s .n (.s (.k (.l 1 [0, 1, 4, 5] .n)) (.m 2 [0, 4, 5] (.s .n (.m 3 [4, 5] .n))))))))
def b128_0 (O : Oracle) (R : Jump) (q : Nat) (x0 x1 : TVal) (h : Heap) : Res1 :=
 vop O (.alloc [(.p (.int .i64 0)), (.p (.bool false)), (.p (.int .i64 0)), (.p (.str [])), (.p .nilslice), (.p .nilslice)] false) h 4 fun x4 h =>
 vop O (.build [(.p (.int .i64 0)), (.p (.bool false)), (.p (.int .i64 0)), (.p (.str [])), (.p .nilslice), (.p .nilslice)] [(0, 1, (.k (kI 4)))]) h 6 fun x6 h =>
 vop O (.alloc [(.p (.int .i64 0)), (.p (.bool false)), (.p (.int .i64 0)), (.p (.str [])), (.p .nilslice), (.p .nilslice)] false) h 5 fun x5 h =>
 vstore 6 x5 x6 h fun _ h =>
 vop O (.nilck (.k x0)) h 8 fun x8 h =>
 vfaddr 1 x8 h fun x9 h =>
 vload false 1 x9 h fun x10 h =>
 vbin .add 0 x10 (kI 1) h fun x11 h =>
 vop O (.nilck (.k x0)) h 12 fun x12 h =>
 vfaddr 1 x12 h fun x13 h =>
 vstore 1 x13 x11 h fun _ h =>
 vcall O (.v (.c (.func 167 []))) [x0, (.v (.c (.p (.int .u8 93))))] h 15 fun x15 h =>
 vif x15 (
 vload true 6 x5 h fun x16 h =>
 vstore 6 x4 x16 h fun _ h =>
 vcell true 6 x4 h fun c0 => vfin true q [c0] h)
 (R 1 [x0, x1, x4, x5] h)
theorem e128_0 (O : Oracle) (R : Jump) (q : Nat) (x0 x1 : TVal) (h : Heap) : b128_0 O R q x0 x1 h = stepF c128 O R q 0 [x0, x1] h := by kernel_rfl
def b128_1 (O : Oracle) (R : Jump) (q : Nat) (x0 x1 x4 x5 : TVal) (h : Heap) : Res1 :=
 vop O (.nilck (.k x0)) h 18 fun x18 h =>
 vfaddr 2 x18 h fun x19 h =>
 vload false 1 x19 h fun x20 h =>
 vbin .eql 0 x20 (kI 0) h fun x21 h =>
 vif x21 (
 vtouch O (.faddr 5 (.k x5)) h 22 fun x22 h t0 =>
 vtouch O (.load false 1 (.k x22)) h 23 fun x23 h t1 =>
 vtouch O (.mv (.k x0)) h 24 fun x24 h t2 =>
 vtouch O (.mv (.k x1)) h 25 fun x25 h t3 =>
 vtouch O (.bin .add 0 (.k x25) (.k (kI 1))) h 26 fun x26 h t4 =>
 vtouch O (.call (.k (.v (.c (.func 66 [])))) [(.k x24), (.k x26)]) h 27 fun x27 h t5 =>
 vtouch O (.bslice 6 1 [(.p (.int .i64 0)), (.p (.bool false)), (.p (.int .i64 0)), (.p (.str [])), (.p .nilslice), (.p .nilslice)] [(0, (.k x27))] false) h 28 fun x28 h t6 =>
 vtouch O (.append 6 88 false (.k x23) (.k x28)) h 29 fun x29 h t7 =>
 vtouch O (.faddr 5 (.k x5)) h 30 fun x30 h t8 =>
 vtouch O (.store 1 (.k x30) (.k x29)) h 1000000 fun _ h t9 =>
 bif apartAll [t0, t1, t2, t3, t4, t5, t6, t7, t8, t9] [(1, 5), (1, 6)] then
 vcall O (.v (.c (.func 167 []))) [x0, (.v (.c (.p (.int .u8 44))))] h 32 fun x32 h =>
 vop O (.un .not (.k x32)) h 33 fun x33 h =>
 vif x33 (
 R 2 [x0, x4, x5] h)
 (R 1 [x0, x1, x4, x5] h)
 else none)
 (R 2 [x0, x4, x5] h)
theorem e128_1 (O : Oracle) (R : Jump) (q : Nat) (x0 x1 x4 x5 : TVal) (h : Heap) : b128_1 O R q x0 x1 x4 x5 h = stepF c128 O R q 1 [x0, x1, x4, x5] h := by kernel_rfl
def b128_2 (O : Oracle) (R : Jump) (q : Nat) (x0 x4 x5 : TVal) (h : Heap) : Res1 :=
 vcall O (.v (.c (.func 167 []))) [x0, (.v (.c (.p (.int .u8 93))))] h 35 fun x35 h =>
 vop O (.un .not (.k x35)) h 36 fun x36 h =>
 vif x36 (
 vcall O (.v (.c (.func 68 []))) [x0, (kI 12)] h 38 fun x38 h =>
 R 3 [x4, x5] h)
 (R 3 [x4, x5] h)
theorem e128_2 (O : Oracle) (R : Jump) (q : Nat) (x0 x4 x5 : TVal) (h : Heap) : b128_2 O R q x0 x4 x5 h = stepF c128 O R q 2 [x0, x4, x5] h := by kernel_rfl
def b128_3 (O : Oracle) (R : Jump) (q : Nat) (x4 x5 : TVal) (h : Heap) : Res1 :=
 vload true 6 x5 h fun x39 h =>
 vstore 6 x4 x39 h fun _ h =>
 vcell true 6 x4 h fun c0 => vfin true q [c0] h
theorem e128_3 (O : Oracle) (R : Jump) (q : Nat) (x4 x5 : TVal) (h : Heap) : b128_3 O R q x4 x5 h = stepF c128 O R q 3 [x4, x5] h := by kernel_rfl
def d128 : BlkF := fun O R Q => [.s fun a => .s fun b => .z (b128_0 O R Q a b), .s fun a => .s fun b => .s fun c => .s fun d => .z (b128_1 O R Q a b c d), .s fun a => .s fun b => .s fun c => .z (b128_2 O R Q a b c), .s fun a => .s fun b => .z (b128_3 O R Q a b)]
theorem o128 (O : Oracle) (R : Jump) (q : Nat) : HoldsAll c128 O R q 0 (d128 O R q) := ⟨e128_0 O R q, e128_1 O R q, e128_2 O R q, e128_3 O R q, trivial⟩
def c129 : MFunc := mkM (compF Tryd.prog (globs2 tabs opq) (fun _ => false) true Tryd.f129) (.s .n (.s .n (.s .n (.s .n (.s .n (.s (.k (.l 1 [0, 1, 4, 5, 6] (.s .n (.k (.s .n (.s .n (.s .n (.s .n (.s .n (.s .n (.s (.k (.l 2 [0, 1, 4, 5, 6, 7, 8, 9] .n)) (.m 3 [0, 1, 4, 5, 6, 7, 8, 9] .n)))))))))))) (.m 4 [0, 4, 5, 6] (.s .n (.m 5 [0, 4, 5, 6] (.s .n (.m 6 [4, 5] .n)))))))))))
def b129_0 (O : Oracle) (R : Jump) (q : Nat) (x0 x1 : TVal) (h : Heap) : Res1 :=
 vop O (.alloc [(.p (.int .i64 0)), (.p (.bool false)), (.p (.int .i64 0)), (.p (.str [])), (.p .nilslice), (.p .nilslice)] false) h 4 fun x4 h =>
 vop O (.build [(.p (.int .i64 0)), (.p (.bool false)), (.p (.int .i64 0)), (.p (.str [])), (.p .nilslice), (.p .nilslice)] [(0, 1, (.k (kI 5)))]) h 12 fun x12 h =>
 vop O (.alloc [(.p (.int .i64 0)), (.p (.bool false)), (.p (.int .i64 0)), (.p (.str [])), (.p .nilslice), (.p .nilslice)] false) h 5 fun x5 h =>
 vstore 6 x5 x12 h fun _ h =>
 vop O (.nilck (.k x0)) h 14 fun x14 h =>
 vfaddr 1 x14 h fun x15 h =>
 vload false 1 x15 h fun x16 h =>
 vbin .add 0 x16 (kI 1) h fun x17 h =>
 vop O (.nilck (.k x0)) h 18 fun x18 h =>
 vfaddr 1 x18 h fun x19 h =>
 vstore 1 x19 x17 h fun _ h =>
 vcall O (.v (.c (.func 167 []))) [x0, (.v (.c (.p (.int .u8 125))))] h 21 fun x21 h =>
 vif x21 (
 vload true 6 x5 h fun x22 h =>
 vstore 6 x4 x22 h fun _ h =>
 vcell true 6 x4 h fun c0 => vfin true q [c0] h)
 (R 1 [x0, x1, x4, x5, (kB false)] h)
theorem e129_0 (O : Oracle) (R : Jump) (q : Nat) (x0 x1 : TVal) (h : Heap) : b129_0 O R q x0 x1 h = stepF c129 O R q 0 [x0, x1] h := by kernel_rfl
def b129_1 (O : Oracle) (R : Jump) (q : Nat) (x0 x1 x4 x5 x6 : TVal) (h : Heap) : Res1 :=
 vop O (.nilck (.k x0)) h 24 fun x24 h =>
 vfaddr 2 x24 h fun x25 h =>
 vload false 1 x25 h fun x26 h =>
 vbin .eql 0 x26 (kI 0) h fun x27 h =>
 vif x27 (
 vcall O (.v (.c (.func 67 []))) [x0] h 29 fun x29 h =>
 vop O (.nilck (.k x0)) h 31 fun x31 h =>
 vfaddr 1 x31 h fun x32 h =>
 vload false 1 x32 h fun x33 h =>
 vop O (.nilck (.k x0)) h 35 fun x35 h =>
 vfaddr 0 x35 h fun x36 h =>
 vload false 1 x36 h fun x37 h =>
 vlen O 0 x37 h 38 fun x38 h =>
 vbin .geq 0 x33 x38 h fun x39 h =>
 vguard x39 false (fun kk => kk x0 h) h fun x41 h =>
 vguard x39 false (fun kk => vop O (.nilck (.k x41)) h 42 kk) h fun x42 h =>
 vguard x39 false (fun kk => vfaddr 0 x42 h kk) h fun x43 h =>
 vguard x39 false (fun kk => vload false 1 x43 h kk) h fun x44 h =>
 vguard x39 false (fun kk => kk x0 h) h fun x45 h =>
 vguard x39 false (fun kk => vop O (.nilck (.k x45)) h 46 kk) h fun x46 h =>
 vguard x39 false (fun kk => vfaddr 1 x46 h kk) h fun x47 h =>
 vguard x39 false (fun kk => vload false 1 x47 h kk) h fun x48 h =>
 vguard x39 false (fun kk => vindex x44 x48 h kk) h fun x49 h =>
 vguard x39 false (fun kk => vbin .neq 0 x49 (.v (.c (.p (.int .u8 34)))) h kk) h fun x50 h =>
 vop O (.pick (.k x39) (.k (kB true)) (.k x50)) h 51 fun x51 h =>
 vif x51 (
 vcall O (.v (.c (.func 68 []))) [x0, (kI 12)] h 53 fun x53 h =>
 R 4 [x0, x4, x5, x6] h)
 (vcall O (.v (.c (.func 127 []))) [x0] h 55 fun x55 h =>
 vcall O (.v (.c (.func 167 []))) [x0, (.v (.c (.p (.int .u8 58))))] h 57 fun x57 h =>
 vop O (.un .not (.k x57)) h 58 fun x58 h =>
 vif x58 (
 vcall O (.v (.c (.func 68 []))) [x0, (kI 12)] h 60 fun x60 h =>
 R 4 [x0, x4, x5, x6] h)
 (vbin .add 0 x1 (kI 1) h fun x63 h =>
 vcall O (.v (.c (.func 66 []))) [x0, x63] h 64 fun x64 h =>
 vop O (.alloc [(.p (.int .i64 0)), (.p (.bool false)), (.p (.int .i64 0)), (.p (.str [])), (.p .nilslice), (.p .nilslice)] false) h 8 fun x8 h =>
 vstore 6 x8 x64 h fun _ h =>
 R 2 [x0, x1, x4, x5, x6, x55, x8, (kI 0)] h)))
 (R 4 [x0, x4, x5, x6] h)
theorem e129_1 (O : Oracle) (R : Jump) (q : Nat) (x0 x1 x4 x5 x6 : TVal) (h : Heap) : b129_1 O R q x0 x1 x4 x5 x6 h = stepF c129 O R q 1 [x0, x1, x4, x5, x6] h := by kernel_rfl
def b129_2 (O : Oracle) (R : Jump) (q : Nat) (x0 x1 x4 x5 x6 x7 x8 x9 : TVal) (h : Heap) : Res1 :=
 vfaddr 4 x5 h fun x66 h =>
 vload false 1 x66 h fun x67 h =>
 vlen O 2 x67 h 68 fun x68 h =>
 vbin .lss 0 x9 x68 h fun x69 h =>
 vguard x69 true (fun kk => vfaddr 4 x5 h kk) h fun x71 h =>
 vguard x69 true (fun kk => vload false 1 x71 h kk) h fun x72 h =>
 vguard x69 true (fun kk => kk x9 h) h fun x73 h =>
 vguard x69 true (fun kk => viaddr 1 x72 x73 h kk) h fun x74 h =>
 vguard x69 true (fun kk => vload false 1 x74 h kk) h fun x75 h =>
 vguard x69 true (fun kk => kk x7 h) h fun x76 h =>
 vguard x69 true (fun kk => vbin .lss 0 x75 x76 h kk) h fun x77 h =>
 vop O (.pick (.k x69) (.k x77) (.k (kB false))) h 78 fun x78 h =>
 vif x78 (
 vbin .add 0 x9 (kI 1) h fun x80 h =>
 R 2 [x0, x1, x4, x5, x6, x7, x8, x80] h)
 (R 3 [x0, x1, x4, x5, x6, x7, x8, x9] h)
theorem e129_2 (O : Oracle) (R : Jump) (q : Nat) (x0 x1 x4 x5 x6 x7 x8 x9 : TVal) (h : Heap) : b129_2 O R q x0 x1 x4 x5 x6 x7 x8 x9 h = stepF c129 O R q 2 [x0, x1, x4, x5, x6, x7, x8, x9] h := by kernel_rfl
def b129_3 (O : Oracle) (R : Jump) (q : Nat) (x0 x1 x4 x5 x6 x7 x8 x9 : TVal) (h : Heap) : Res1 :=
 vguard x6 false (fun kk => kk x9 h) h fun x83 h =>
 vguard x6 false (fun kk => vfaddr 4 x5 h kk) h fun x84 h =>
 vguard x6 false (fun kk => vload false 1 x84 h kk) h fun x85 h =>
 vguard x6 false (fun kk => vlen O 2 x85 h 86 kk) h fun x86 h =>
 vguard x6 false (fun kk => vbin .lss 0 x83 x86 h kk) h fun x87 h =>
 vguard x6 false (fun kk => kk x87 h) h fun x88 h =>
 vguard x88 true (fun kk => vfaddr 4 x5 h kk) h fun x89 h =>
 vguard x88 true (fun kk => vload false 1 x89 h kk) h fun x90 h =>
 vguard x88 true (fun kk => kk x9 h) h fun x91 h =>
 vguard x88 true (fun kk => viaddr 1 x90 x91 h kk) h fun x92 h =>
 vguard x88 true (fun kk => vload false 1 x92 h kk) h fun x93 h =>
 vguard x88 true (fun kk => kk x7 h) h fun x94 h =>
 vguard x88 true (fun kk => vbin .eql 0 x93 x94 h kk) h fun x95 h =>
 vguard x6 false (fun kk => vop O (.pick (.k x88) (.k x95) (.k (kB false))) h 96 kk) h fun x96 h =>
 vop O (.pick (.k x6) (.k (kB true)) (.k x96)) h 97 fun x97 h =>
 vop O (.bslice 1 0 [(.p (.str []))] [] false) h 98 fun x98 h =>
 vfaddr 4 x5 h fun x99 h =>
 vload false 1 x99 h fun x100 h =>
 vop O (.slice 1 false (.k x100) none (some (.k x9)) none) h 102 fun x102 h =>
 vop O (.append 1 16 false (.k x98) (.k x102)) h 103 fun x103 h =>
 vop O (.bslice 6 0 [(.p (.int .i64 0)), (.p (.bool false)), (.p (.int .i64 0)), (.p (.str [])), (.p .nilslice), (.p .nilslice)] [] false) h 104 fun x104 h =>
 vfaddr 5 x5 h fun x105 h =>
 vload false 1 x105 h fun x106 h =>
 vop O (.slice 6 false (.k x106) none (some (.k x9)) none) h 108 fun x108 h =>
 vop O (.append 6 88 false (.k x104) (.k x108)) h 109 fun x109 h =>
 vtouch O (.mv (.k x103)) h 110 fun x110 h t0 =>
 vtouch O (.mv (.k x7)) h 111 fun x111 h t1 =>
 vtouch O (.bslice 1 1 [(.p (.str []))] [(0, (.k x111))] false) h 112 fun x112 h t2 =>
 vtouch O (.append 1 16 false (.k x110) (.k x112)) h 113 fun x113 h t3 =>
 vtouch O (.faddr 4 (.k x5)) h 114 fun x114 h t4 =>
 vtouch O (.load false 1 (.k x114)) h 115 fun x115 h t5 =>
 vtouch O (.mv (.k x9)) h 116 fun x116 h t6 =>
 vtouch O (.slice 1 false (.k x115) (some (.k x116)) none none) h 117 fun x117 h t7 =>
 vtouch O (.append 1 16 false (.k x113) (.k x117)) h 118 fun x118 h t8 =>
 vtouch O (.mv (.k x109)) h 119 fun x119 h t9 =>
 vtouch O (.load true 6 (.k x8)) h 120 fun x120 h t10 =>
 vtouch O (.bslice 6 1 [(.p (.int .i64 0)), (.p (.bool false)), (.p (.int .i64 0)), (.p (.str [])), (.p .nilslice), (.p .nilslice)] [(0, (.k x120))] false) h 121 fun x121 h t11 =>
 vtouch O (.append 6 88 false (.k x119) (.k x121)) h 122 fun x122 h t12 =>
 vtouch O (.faddr 5 (.k x5)) h 123 fun x123 h t13 =>
 vtouch O (.load false 1 (.k x123)) h 124 fun x124 h t14 =>
 vtouch O (.mv (.k x9)) h 125 fun x125 h t15 =>
 vtouch O (.slice 6 false (.k x124) (some (.k x125)) none none) h 126 fun x126 h t16 =>
 vtouch O (.append 6 88 false (.k x122) (.k x126)) h 127 fun x127 h t17 =>
 vtouch O (.faddr 4 (.k x5)) h 128 fun x128 h t18 =>
 vtouch O (.store 1 (.k x128) (.k x118)) h 1000000 fun _ h t19 =>
 vtouch O (.faddr 5 (.k x5)) h 129 fun x129 h t20 =>
 vtouch O (.store 1 (.k x129) (.k x127)) h 1000000 fun _ h t21 =>
 bif apartAll [t0, t1, t2, t3, t4, t5, t6, t7, t8, t9, t10, t11, t12, t13, t14, t15, t16, t17, t18, t19, t20, t21] [(2, 5), (3, 5), (2, 10), (3, 10), (8, 10), (2, 11), (3, 11), (5, 11), (8, 11), (2, 14), (3, 14), (8, 14), (11, 14), (12, 14)] then
 vcall O (.v (.c (.func 167 []))) [x0, (.v (.c (.p (.int .u8 44))))] h 131 fun x131 h =>
 vop O (.un .not (.k x131)) h 132 fun x132 h =>
 vif x132 (
 R 4 [x0, x4, x5, x97] h)
 (R 1 [x0, x1, x4, x5, x97] h)
 else none
theorem e129_3 (O : Oracle) (R : Jump) (q : Nat) (x0 x1 x4 x5 x6 x7 x8 x9 : TVal) (h : Heap) : b129_3 O R q x0 x1 x4 x5 x6 x7 x8 x9 h = stepF c129 O R q 3 [x0, x1, x4, x5, x6, x7, x8, x9] h := by kernel_rfl
def b129_4 (O : Oracle) (R : Jump) (q : Nat) (x0 x4 x5 x6 : TVal) (h : Heap) : Res1 :=
 vcall O (.v (.c (.func 167 []))) [x0, (.v (.c (.p (.int .u8 125))))] h 134 fun x134 h =>
 vop O (.un .not (.k x134)) h 135 fun x135 h =>
 vif x135 (
 vcall O (.v (.c (.func 68 []))) [x0, (kI 12)] h 137 fun x137 h =>
 R 5 [x0, x4, x5, x6] h)
 (R 5 [x0, x4, x5, x6] h)
theorem e129_4 (O : Oracle) (R : Jump) (q : Nat) (x0 x4 x5 x6 : TVal) (h : Heap) : b129_4 O R q x0 x4 x5 x6 h = stepF c129 O R q 4 [x0, x4, x5, x6] h := by kernel_rfl
def b129_5 (O : Oracle) (R : Jump) (q : Nat) (x0 x4 x5 x6 : TVal) (h : Heap) : Res1 :=
 vif x6 (
 vcall O (.v (.c (.func 68 []))) [x0, (kI 6)] h 140 fun x140 h =>
 R 6 [x4, x5] h)
 (R 6 [x4, x5] h)
theorem e129_5 (O : Oracle) (R : Jump) (q : Nat) (x0 x4 x5 x6 : TVal) (h : Heap) : b129_5 O R q x0 x4 x5 x6 h = stepF c129 O R q 5 [x0, x4, x5, x6] h := by kernel_rfl
def b129_6 (O : Oracle) (R : Jump) (q : Nat) (x4 x5 : TVal) (h : Heap) : Res1 :=
 vload true 6 x5 h fun x141 h =>
 vstore 6 x4 x141 h fun _ h =>
 vcell true 6 x4 h fun c0 => vfin true q [c0] h
theorem e129_6 (O : Oracle) (R : Jump) (q : Nat) (x4 x5 : TVal) (h : Heap) : b129_6 O R q x4 x5 h = stepF c129 O R q 6 [x4, x5] h := by kernel_rfl
def d129 : BlkF := fun O R Q => [.s fun a => .s fun b => .z (b129_0 O R Q a b), .s fun a => .s fun b => .s fun c => .s fun d => .s fun e => .z (b129_1 O R Q a b c d e), .s fun a => .s fun b => .s fun c => .s fun d => .s fun e => .s fun f => .s fun g => .s fun h => .z (b129_2 O R Q a b c d e f g h), .s fun a => .s fun b => .s fun c => .s fun d => .s fun e => .s fun f => .s fun g => .s fun h => .z (b129_3 O R Q a b c d e f g h), .s fun a => .s fun b => .s fun c => .s fun d => .z (b129_4 O R Q a b c d), .s fun a => .s fun b => .s fun c => .s fun d => .z (b129_5 O R Q a b c d), .s fun a => .s fun b => .z (b129_6 O R Q a b)]
theorem o129 (O : Oracle) (R : Jump) (q : Nat) : HoldsAll c129 O R q 0 (d129 O R q) := ⟨e129_0 O R q, e129_1 O R q, e129_2 O R q, e129_3 O R q, e129_4 O R q, e129_5 O R q, e129_6 O R q, trivial⟩
def c130 : MFunc := mkM (compF Tryd.prog (globs2 tabs opq) (fun _ => false) true Tryd.f130) (.s .n (.s .n (.s .n (.m 1 [0, 2, 3] (.s .n (.s (.s .n (.s .n (.k (.l 2 [0, 2, 3] .n)))) (.m 3 [0, 2, 3] .n)))))))
def b130_0 (O : Oracle) (R : Jump) (q : Nat) (x0 : TVal) (h : Heap) : Res1 :=
 vop O (.alloc [(.p (.int .i64 0)), (.p (.bool false)), (.p (.int .i64 0)), (.p (.str [])), (.p .nilslice), (.p .nilslice)] false) h 2 fun x2 h =>
 vop O (.nilck (.k x0)) h 7 fun x7 h =>
 vfaddr 1 x7 h fun x8 h =>
 vload false 1 x8 h fun x9 h =>
 vop O (.nilck (.k x0)) h 11 fun x11 h =>
 vfaddr 0 x11 h fun x12 h =>
 vload false 1 x12 h fun x13 h =>
 vindex x13 x9 h fun x15 h =>
 vbin .eql 0 x15 (.v (.c (.p (.int .u8 45)))) h fun x16 h =>
 vif x16 (
 vbin .add 0 x9 (kI 1) h fun x18 h =>
 R 1 [x0, x2, x18] h)
 (R 1 [x0, x2, x9] h)
theorem e130_0 (O : Oracle) (R : Jump) (q : Nat) (x0 : TVal) (h : Heap) : b130_0 O R q x0 h = stepF c130 O R q 0 [x0] h := by kernel_rfl
def b130_1 (O : Oracle) (R : Jump) (q : Nat) (x0 x2 x3 : TVal) (h : Heap) : Res1 :=
 vop O (.nilck (.k x0)) h 21 fun x21 h =>
 vfaddr 0 x21 h fun x22 h =>
 vload false 1 x22 h fun x23 h =>
 vlen O 0 x23 h 24 fun x24 h =>
 vbin .geq 0 x3 x24 h fun x25 h =>
 vguard x25 false (fun kk => kk x0 h) h fun x27 h =>
 vguard x25 false (fun kk => vop O (.nilck (.k x27)) h 28 kk) h fun x28 h =>
 vguard x25 false (fun kk => vfaddr 0 x28 h kk) h fun x29 h =>
 vguard x25 false (fun kk => vload false 1 x29 h kk) h fun x30 h =>
 vguard x25 false (fun kk => kk x3 h) h fun x31 h =>
 vguard x25 false (fun kk => vindex x30 x31 h kk) h fun x32 h =>
 vguard x25 false (fun kk => vcall O (.v (.c (.func 126 []))) [x32] h 33 kk) h fun x33 h =>
 vguard x25 false (fun kk => vop O (.un .not (.k x33)) h 34 kk) h fun x34 h =>
 vop O (.pick (.k x25) (.k (kB true)) (.k x34)) h 35 fun x35 h =>
 vif x35 (
 vcall O (.v (.c (.func 68 []))) [x0, (kI 12)] h 37 fun x37 h =>
 vop O (.build [(.p (.int .i64 0)), (.p (.bool false)), (.p (.int .i64 0)), (.p (.str [])), (.p .nilslice), (.p .nilslice)] []) h 38 fun x38 h =>
 vstore 6 x2 x38 h fun _ h =>
 vcell true 6 x2 h fun c0 => vfin true q [c0] h)
 (vop O (.nilck (.k x0)) h 40 fun x40 h =>
 vfaddr 0 x40 h fun x41 h =>
 vload false 1 x41 h fun x42 h =>
 vindex x42 x3 h fun x44 h =>
 vbin .eql 0 x44 (.v (.c (.p (.int .u8 48)))) h fun x45 h =>
 vif x45 (
 vbin .add 0 x3 (kI 1) h fun x47 h =>
 R 3 [x0, x2, x47] h)
 (R 2 [x0, x2, x3] h))
theorem e130_1 (O : Oracle) (R : Jump) (q : Nat) (x0 x2 x3 : TVal) (h : Heap) : b130_1 O R q x0 x2 x3 h = stepF c130 O R q 1 [x0, x2, x3] h := by kernel_rfl
def b130_2 (O : Oracle) (R : Jump) (q : Nat) (x0 x2 x3 : TVal) (h : Heap) : Res1 :=
 vop O (.nilck (.k x0)) h 50 fun x50 h =>
 vfaddr 0 x50 h fun x51 h =>
 vload false 1 x51 h fun x52 h =>
 vlen O 0 x52 h 53 fun x53 h =>
 vbin .lss 0 x3 x53 h fun x54 h =>
 vguard x54 true (fun kk => kk x0 h) h fun x56 h =>
 vguard x54 true (fun kk => vop O (.nilck (.k x56)) h 57 kk) h fun x57 h =>
 vguard x54 true (fun kk => vfaddr 0 x57 h kk) h fun x58 h =>
 vguard x54 true (fun kk => vload false 1 x58 h kk) h fun x59 h =>
 vguard x54 true (fun kk => kk x3 h) h fun x60 h =>
 vguard x54 true (fun kk => vindex x59 x60 h kk) h fun x61 h =>
 vguard x54 true (fun kk => vcall O (.v (.c (.func 126 []))) [x61] h 62 kk) h fun x62 h =>
 vop O (.pick (.k x54) (.k x62) (.k (kB false))) h 63 fun x63 h =>
 vif x63 (
 vbin .add 0 x3 (kI 1) h fun x65 h =>
 R 2 [x0, x2, x65] h)
 (R 3 [x0, x2, x3] h)
theorem e130_2 (O : Oracle) (R : Jump) (q : Nat) (x0 x2 x3 : TVal) (h : Heap) : b130_2 O R q x0 x2 x3 h = stepF c130 O R q 2 [x0, x2, x3] h := by kernel_rfl
def b130_3 (O : Oracle) (R : Jump) (q : Nat) (x0 x2 x3 : TVal) (h : Heap) : Res1 :=
 vop O (.nilck (.k x0)) h 68 fun x68 h =>
 vfaddr 0 x68 h fun x69 h =>
 vload false 1 x69 h fun x70 h =>
 vop O (.nilck (.k x0)) h 72 fun x72 h =>
 vfaddr 1 x72 h fun x73 h =>
 vload false 1 x73 h fun x74 h =>
 vop O (.slice 0 true (.k x70) (some (.k x74)) (some (.k x3)) none) h 76 fun x76 h =>
 vcall O (.v (.c (.func 165 []))) [x76] h 77 fun x77 h =>
 vext x77 0 h fun x78 h =>
 vext x77 1 h fun x79 h =>
 vbin .neq 0 x79 (kI 0) h fun x81 h =>
 vif x81 (
 vcall O (.v (.c (.func 68 []))) [x0, (kI 11)] h 83 fun x83 h =>
 vop O (.build [(.p (.int .i64 0)), (.p (.bool false)), (.p (.int .i64 0)), (.p (.str [])), (.p .nilslice), (.p .nilslice)] []) h 84 fun x84 h =>
 vstore 6 x2 x84 h fun _ h =>
 vcell true 6 x2 h fun c0 => vfin true q [c0] h)
 (vop O (.nilck (.k x0)) h 87 fun x87 h =>
 vfaddr 1 x87 h fun x88 h =>
 vstore 1 x88 x3 h fun _ h =>
 vop O (.build [(.p (.int .i64 0)), (.p (.bool false)), (.p (.int .i64 0)), (.p (.str [])), (.p .nilslice), (.p .nilslice)] [(0, 1, (.k (kI 2))), (2, 1, (.k x78))]) h 90 fun x90 h =>
 vstore 6 x2 x90 h fun _ h =>
 vcell true 6 x2 h fun c0 => vfin true q [c0] h)
theorem e130_3 (O : Oracle) (R : Jump) (q : Nat) (x0 x2 x3 : TVal) (h : Heap) : b130_3 O R q x0 x2 x3 h = stepF c130 O R q 3 [x0, x2, x3] h := by kernel_rfl
def d130 : BlkF := fun O R Q => [.s fun a => .z (b130_0 O R Q a), .s fun a => .s fun b => .s fun c => .z (b130_1 O R Q a b c), .s fun a => .s fun b => .s fun c => .z (b130_2 O R Q a b c), .s fun a => .s fun b => .s fun c => .z (b130_3 O R Q a b c)]
theorem o130 (O : Oracle) (R : Jump) (q : Nat) : HoldsAll c130 O R q 0 (d130 O R q) := ⟨e130_0 O R q, e130_1 O R q, e130_2 O R q, e130_3 O R q, trivial⟩
def c131 : MFunc := mkM (compF Tryd.prog (globs2 tabs opq) (fun _ => false) true Tryd.f131) (.s .n (.s (.s .n (.k (.l 1 [0, 1, 7, 8] .n))) .n))
def b131_0 (O : Oracle) (R : Jump) (q : Nat) (x0 x1 : TVal) (h : Heap) : Res1 :=
 vlen O 2 x0 h 7 fun x7 h =>
 R 1 [x0, x1, x7, (kI 0)] h
theorem e131_0 (O : Oracle) (R : Jump) (q : Nat) (x0 x1 : TVal) (h : Heap) : b131_0 O R q x0 x1 h = stepF c131 O R q 0 [x0, x1] h := by kernel_rfl
def b131_1 (O : Oracle) (R : Jump) (q : Nat) (x0 x1 x7 x8 : TVal) (h : Heap) : Res1 :=
 vbin .lss 0 x8 x7 h fun x9 h =>
 vif x9 (
 viaddr 1 x0 x8 h fun x14 h =>
 vload false 1 x14 h fun x15 h =>
 vbin .eql 0 x1 x15 h fun x16 h =>
 vif x16 (
 tcomp x8 fun c0 => vfin true q [c0] h)
 (vbin .add 0 x8 (kI 1) h fun x18 h =>
 R 1 [x0, x1, x7, x18] h))
 (tcomp (kI (-1)) fun c0 => vfin true q [c0] h)
theorem e131_1 (O : Oracle) (R : Jump) (q : Nat) (x0 x1 x7 x8 : TVal) (h : Heap) : b131_1 O R q x0 x1 x7 x8 h = stepF c131 O R q 1 [x0, x1, x7, x8] h := by kernel_rfl
def d131 : BlkF := fun O R Q => [.s fun a => .s fun b => .z (b131_0 O R Q a b), .s fun a => .s fun b => .s fun c => .s fun d => .z (b131_1 O R Q a b c d)]
theorem o131 (O : Oracle) (R : Jump) (q : Nat) : HoldsAll c131 O R q 0 (d131 O R q) := ⟨e131_0 O R q, e131_1 O R q, trivial⟩
def c132 : MFunc := mkM (compF Tryd.prog (globs2 tabs opq) (fun _ => false) true Tryd.f132) .n
def b132_0 (O : Oracle) (R : Jump) (q : Nat) (x0 : TVal) (h : Heap) : Res1 :=
 vbin .eql 2 x0 (.v (.c (.p .nilslice))) h fun x4 h =>
 vif x4 (
 tcomp (.v (.c (.p .nilslice))) fun c0 => vfin true q [c0] h)
 (vop O (.bslice 1 0 [(.p (.str []))] [] false) h 5 fun x5 h =>
 vop O (.append 1 16 false (.k x5) (.k x0)) h 7 fun x7 h =>
 tcomp x7 fun c0 => vfin true q [c0] h)
theorem e132_0 (O : Oracle) (R : Jump) (q : Nat) (x0 : TVal) (h : Heap) : b132_0 O R q x0 h = stepF c132 O R q 0 [x0] h := by kernel_rfl
def d132 : BlkF := fun O R Q => [.s fun a => .z (b132_0 O R Q a)]
theorem o132 (O : Oracle) (R : Jump) (q : Nat) : HoldsAll c132 O R q 0 (d132 O R q) := ⟨e132_0 O R q, trivial⟩
def c133 : MFunc := mkM (compF Tryd.prog (globs2 tabs opq) (fun _ => false) true Tryd.f133) (.s .n (.s .n (.s .n (.s .n (.m 1 [1, 3] (.s (.s .n (.k (.l 2 [1, 3, 4] .n))) (.m 3 [3] .n)))))))
def b133_0 (O : Oracle) (R : Jump) (q : Nat) (x0 : TVal) (h : Heap) : Res1 :=
 vop O (.box (.k x0) false) h 1 fun x1 h =>
 vfaddr 0 x1 h fun x5 h =>
 vload false 1 x5 h fun x6 h =>
 vbin .eql 0 x6 (kI 2) h fun x8 h =>
 vif x8 (
 vfaddr 3 x1 h fun x9 h =>
 vload false 1 x9 h fun x10 h =>
 vcall O (.v (.c (.func 71 []))) [x10] h 11 fun x11 h =>
 tcomp x11 fun c0 => vfin true q [c0] h)
 (vbin .eql 0 x6 (kI 3) h fun x13 h =>
 vif x13 (
 vfaddr 4 x1 h fun x14 h =>
 vload false 1 x14 h fun x15 h =>
 vcall O (.v (.c (.func 168 []))) [x15] h 16 fun x16 h =>
 tcomp x16 fun c0 => vfin true q [c0] h)
 (vbin .eql 0 x6 (kI 4) h fun x18 h =>
 vif x18 (
 vfaddr 5 x1 h fun x19 h =>
 vload false 1 x19 h fun x20 h =>
 vif x20 (
 tcomp (kS [116, 114, 117, 101]) fun c0 => vfin true q [c0] h)
 (tcomp (kS [102, 97, 108, 115, 101]) fun c0 => vfin true q [c0] h))
 (vbin .eql 0 x6 (kI 5) h fun x22 h =>
 vif x22 (
 vfaddr 6 x1 h fun x23 h =>
 vload false 1 x23 h fun x24 h =>
 vcall O (.v (.c (.func 70 []))) [x24] h 25 fun x25 h =>
 vbin .add 0 (kS [40]) x25 h fun x26 h =>
 vbin .add 0 x26 (kS [41]) h fun x27 h =>
 tcomp x27 fun c0 => vfin true q [c0] h)
 (vbin .eql 0 x6 (kI 6) h fun x29 h =>
 vif x29 (
 vfaddr 3 x1 h fun x30 h =>
 vload false 1 x30 h fun x31 h =>
 tcomp x31 fun c0 => vfin true q [c0] h)
 (vfaddr 1 x1 h fun x32 h =>
 vload false 1 x32 h fun x33 h =>
 vbin .neq 0 x33 (kS []) h fun x34 h =>
 vif x34 (
 vfaddr 1 x1 h fun x35 h =>
 vload false 1 x35 h fun x36 h =>
 vbin .add 0 (kS [36]) x36 h fun x37 h =>
 R 1 [x1, x37] h)
 (R 1 [x1, (kS [])] h))))))
theorem e133_0 (O : Oracle) (R : Jump) (q : Nat) (x0 : TVal) (h : Heap) : b133_0 O R q x0 h = stepF c133 O R q 0 [x0] h := by kernel_rfl
def b133_1 (O : Oracle) (R : Jump) (q : Nat) (x1 x3 : TVal) (h : Heap) : Res1 :=
 R 2 [x1, x3, (kI 0)] h
theorem e133_1 (O : Oracle) (R : Jump) (q : Nat) (x1 x3 : TVal) (h : Heap) : b133_1 O R q x1 x3 h = stepF c133 O R q 1 [x1, x3] h := by kernel_rfl
def b133_2 (O : Oracle) (R : Jump) (q : Nat) (x1 x3 x4 : TVal) (h : Heap) : Res1 :=
 vfaddr 2 x1 h fun x39 h =>
 vload false 1 x39 h fun x40 h =>
 vlen O 2 x40 h 41 fun x41 h =>
 vbin .lss 0 x4 x41 h fun x42 h =>
 vif x42 (
 vbin .add 0 x3 (kS [46]) h fun x46 h =>
 vfaddr 2 x1 h fun x47 h =>
 vload false 1 x47 h fun x48 h =>
 viaddr 1 x48 x4 h fun x50 h =>
 vload false 1 x50 h fun x51 h =>
 vbin .add 0 x46 x51 h fun x52 h =>
 vbin .add 0 x4 (kI 1) h fun x44 h =>
 R 2 [x1, x52, x44] h)
 (R 3 [x3] h)
theorem e133_2 (O : Oracle) (R : Jump) (q : Nat) (x1 x3 x4 : TVal) (h : Heap) : b133_2 O R q x1 x3 x4 h = stepF c133 O R q 2 [x1, x3, x4] h := by kernel_rfl
def b133_3 (O : Oracle) (R : Jump) (q : Nat) (x3 : TVal) (h : Heap) : Res1 :=
 vbin .eql 0 x3 (kS []) h fun x54 h =>
 vif x54 (
 tcomp (kS [46]) fun c0 => vfin true q [c0] h)
 (tcomp x3 fun c0 => vfin true q [c0] h)
theorem e133_3 (O : Oracle) (R : Jump) (q : Nat) (x3 : TVal) (h : Heap) : b133_3 O R q x3 h = stepF c133 O R q 3 [x3] h := by kernel_rfl
def d133 : BlkF := fun O R Q => [.s fun a => .z (b133_0 O R Q a), .s fun a => .s fun b => .z (b133_1 O R Q a b), .s fun a => .s fun b => .s fun c => .z (b133_2 O R Q a b c), .s fun a => .z (b133_3 O R Q a)]
theorem o133 (O : Oracle) (R : Jump) (q : Nat) : HoldsAll c133 O R q 0 (d133 O R q) := ⟨e133_0 O R q, e133_1 O R q, e133_2 O R q, e133_3 O R q, trivial⟩
def c139 : MFunc := mkM (compF Tryd.prog (globs2 tabs opq) (fun _ => false) true Tryd.f139) .n
def b139_0 (O : Oracle) (R : Jump) (q : Nat) (x0 x1 : TVal) (h : Heap) : Res1 :=
 vcall O (.v (.c (.func 131 []))) [x0, x1] h 7 fun x7 h =>
 vbin .geq 0 x7 (kI 0) h fun x8 h =>
 tcomp x8 fun c0 => vfin true q [c0] h
theorem e139_0 (O : Oracle) (R : Jump) (q : Nat) (x0 x1 : TVal) (h : Heap) : b139_0 O R q x0 x1 h = stepF c139 O R q 0 [x0, x1] h := by kernel_rfl
def d139 : BlkF := fun O R Q => [.s fun a => .s fun b => .z (b139_0 O R Q a b)]
theorem o139 (O : Oracle) (R : Jump) (q : Nat) : HoldsAll c139 O R q 0 (d139 O R q) := ⟨e139_0 O R q, trivial⟩
def c156 : MFunc := mkM (compF Tryd.prog (globs2 tabs opq) (fun _ => false) true Tryd.f156) (.s .n (.s .n (.s (.s .n (.k (.l 1 [1, 2, 14, 15, 16] .n))) (.m 2 [1, 2] .n))))
def b156_0 (O : Oracle) (R : Jump) (q : Nat) (x0 : TVal) (h : Heap) : Res1 :=
 vop O (.box (.k x0) false) h 1 fun x1 h =>
 vop O (.alloc [(.p (.int .i64 0)), (.p (.bool false)), (.p (.int .i64 0)), (.p (.str [])), (.p .nilslice), (.p .nilslice)] false) h 2 fun x2 h =>
 vtouch O (.faddr 4 (.k x1)) h 5 fun x5 h t0 =>
 vtouch O (.load false 1 (.k x5)) h 6 fun x6 h t1 =>
 vtouch O (.call (.k (.v (.c (.func 132 [])))) [(.k x6)]) h 7 fun x7 h t2 =>
 vtouch O (.faddr 5 (.k x1)) h 8 fun x8 h t3 =>
 vtouch O (.load false 1 (.k x8)) h 9 fun x9 h t4 =>
 vtouch O (.call (.k (.v (.c (.func 105 [])))) [(.k x9)]) h 10 fun x10 h t5 =>
 vtouch O (.faddr 4 (.k x1)) h 11 fun x11 h t6 =>
 vtouch O (.store 1 (.k x11) (.k x7)) h 1000000 fun _ h t7 =>
 vtouch O (.faddr 5 (.k x1)) h 12 fun x12 h t8 =>
 vtouch O (.store 1 (.k x12) (.k x10)) h 1000000 fun _ h t9 =>
 bif apartAll [t0, t1, t2, t3, t4, t5, t6, t7, t8, t9] [(2, 4)] then
 vfaddr 5 x1 h fun x13 h =>
 vload false 1 x13 h fun x14 h =>
 vlen O 2 x14 h 15 fun x15 h =>
 R 1 [x1, x2, x14, x15, (kI 0)] h
 else none
theorem e156_0 (O : Oracle) (R : Jump) (q : Nat) (x0 : TVal) (h : Heap) : b156_0 O R q x0 h = stepF c156 O R q 0 [x0] h := by kernel_rfl
def b156_1 (O : Oracle) (R : Jump) (q : Nat) (x1 x2 x14 x15 x16 : TVal) (h : Heap) : Res1 :=
 vbin .lss 0 x16 x15 h fun x17 h =>
 vif x17 (
 viaddr 6 x14 x16 h fun x19 h =>
 vload true 6 x19 h fun x20 h =>
 vop O (.alloc [(.p (.int .i64 0)), (.p (.bool false)), (.p (.int .i64 0)), (.p (.str [])), (.p .nilslice), (.p .nilslice)] false) h 4 fun x4 h =>
 vstore 6 x4 x20 h fun _ h =>
 vtouch O (.faddr 5 (.k x1)) h 21 fun x21 h t0 =>
 vtouch O (.load false 1 (.k x21)) h 22 fun x22 h t1 =>
 vtouch O (.mv (.k x16)) h 23 fun x23 h t2 =>
 vtouch O (.load true 6 (.k x4)) h 24 fun x24 h t3 =>
 vtouch O (.call (.k (.v (.c (.func 156 [])))) [(.k x24)]) h 25 fun x25 h t4 =>
 vtouch O (.iaddr 6 (.k x22) (.k x23)) h 26 fun x26 h t5 =>
 vtouch O (.store 6 (.k x26) (.k x25)) h 1000000 fun _ h t6 =>
 bif apartAll [t0, t1, t2, t3, t4, t5, t6] [(1, 4)] then
 vbin .add 0 x16 (kI 1) h fun x27 h =>
 R 1 [x1, x2, x14, x15, x27] h
 else none)
 (R 2 [x1, x2] h)
theorem e156_1 (O : Oracle) (R : Jump) (q : Nat) (x1 x2 x14 x15 x16 : TVal) (h : Heap) : b156_1 O R q x1 x2 x14 x15 x16 h = stepF c156 O R q 1 [x1, x2, x14, x15, x16] h := by kernel_rfl
def b156_2 (O : Oracle) (R : Jump) (q : Nat) (x1 x2 : TVal) (h : Heap) : Res1 :=
 vload true 6 x1 h fun x28 h =>
 vstore 6 x2 x28 h fun _ h =>
 vcell true 6 x2 h fun c0 => vfin true q [c0] h
theorem e156_2 (O : Oracle) (R : Jump) (q : Nat) (x1 x2 : TVal) (h : Heap) : b156_2 O R q x1 x2 h = stepF c156 O R q 2 [x1, x2] h := by kernel_rfl
def d156 : BlkF := fun O R Q => [.s fun a => .z (b156_0 O R Q a), .s fun a => .s fun b => .s fun c => .s fun d => .s fun e => .z (b156_1 O R Q a b c d e), .s fun a => .s fun b => .z (b156_2 O R Q a b)]
theorem o156 (O : Oracle) (R : Jump) (q : Nat) : HoldsAll c156 O R q 0 (d156 O R q) := ⟨e156_0 O R q, e156_1 O R q, e156_2 O R q, trivial⟩
def c164 : MFunc := mkM (compF Tryd.prog (globs2 tabs opq) (fun _ => false) true Tryd.f164) .n
def b164_0 (O : Oracle) (R : Jump) (q : Nat) (x0 : TVal) (h : Heap) : Res1 :=
 vcall O (.v (.c (.func 178 []))) [x0, (kI 10)] h 4 fun x4 h =>
 tcomp x4 fun c0 => vfin true q [c0] h
theorem e164_0 (O : Oracle) (R : Jump) (q : Nat) (x0 : TVal) (h : Heap) : b164_0 O R q x0 h = stepF c164 O R q 0 [x0] h := by kernel_rfl
def d164 : BlkF := fun O R Q => [.s fun a => .z (b164_0 O R Q a)]
theorem o164 (O : Oracle) (R : Jump) (q : Nat) : HoldsAll c164 O R q 0 (d164 O R q) := ⟨e164_0 O R q, trivial⟩
def c165 : MFunc := mkM (compF Tryd.prog (globs2 tabs opq) (fun _ => false) true Tryd.f165) (.s .n (.s .n (.s .n (.m 1 [0, 4] (.s .n (.s .n (.s (.s .n (.k (.l 2 [0, 4, 5, 6] .n))) (.m 3 [0, 5] .n))))))))
def b165_0 (O : Oracle) (R : Jump) (q : Nat) (x0 : TVal) (h : Heap) : Res1 :=
 vindex x0 (kI 0) h fun x9 h =>
 vbin .eql 0 x9 (.v (.c (.p (.int .u8 45)))) h fun x10 h =>
 vif x10 (
 vop O (.slice 0 true (.k x0) (some (.k (kI 1))) none none) h 12 fun x12 h =>
 R 1 [x0, x12] h)
 (R 1 [x0, x0] h)
theorem e165_0 (O : Oracle) (R : Jump) (q : Nat) (x0 : TVal) (h : Heap) : b165_0 O R q x0 h = stepF c165 O R q 0 [x0] h := by kernel_rfl
def b165_1 (O : Oracle) (R : Jump) (q : Nat) (x0 x4 : TVal) (h : Heap) : Res1 :=
 vlen O 0 x4 h 14 fun x14 h =>
 vbin .gtr 0 x14 (kI 19) h fun x15 h =>
 vif x15 (
 tcomp (kI 0) fun c0 => tcomp (kI 4) fun c1 => vfin true q [c0, c1] h)
 (R 2 [x0, x4, (.v (.c (.p (.int .u64 0)))), (kI 0)] h)
theorem e165_1 (O : Oracle) (R : Jump) (q : Nat) (x0 x4 : TVal) (h : Heap) : b165_1 O R q x0 x4 h = stepF c165 O R q 1 [x0, x4] h := by kernel_rfl
def b165_2 (O : Oracle) (R : Jump) (q : Nat) (x0 x4 x5 x6 : TVal) (h : Heap) : Res1 :=
 vlen O 0 x4 h 18 fun x18 h =>
 vbin .lss 0 x6 x18 h fun x19 h =>
 vif x19 (
 vbin .mul 0 x5 (.v (.c (.p (.int .u64 10)))) h fun x23 h =>
 vindex x4 x6 h fun x26 h =>
 vbin .sub 0 x26 (.v (.c (.p (.int .u8 48)))) h fun x27 h =>
 vtoInt .u64 x27 h fun x28 h =>
 vbin .add 0 x23 x28 h fun x29 h =>
 vbin .add 0 x6 (kI 1) h fun x21 h =>
 R 2 [x0, x4, x29, x21] h)
 (R 3 [x0, x5] h)
theorem e165_2 (O : Oracle) (R : Jump) (q : Nat) (x0 x4 x5 x6 : TVal) (h : Heap) : b165_2 O R q x0 x4 x5 x6 h = stepF c165 O R q 2 [x0, x4, x5, x6] h := by kernel_rfl
def b165_3 (O : Oracle) (R : Jump) (q : Nat) (x0 x5 : TVal) (h : Heap) : Res1 :=
 vindex x0 (kI 0) h fun x31 h =>
 vbin .eql 0 x31 (.v (.c (.p (.int .u8 45)))) h fun x32 h =>
 vif x32 (
 vbin .gtr 0 x5 (.v (.c (.p (.int .u64 9223372036854775808)))) h fun x34 h =>
 vif x34 (
 tcomp (kI 0) fun c0 => tcomp (kI 11) fun c1 => vfin true q [c0, c1] h)
 (vop O (.un .neg (.k x5)) h 36 fun x36 h =>
 vtoInt .i64 x36 h fun x37 h =>
 tcomp x37 fun c0 => tcomp (kI 0) fun c1 => vfin true q [c0, c1] h))
 (vbin .gtr 0 x5 (.v (.c (.p (.int .u64 9223372036854775807)))) h fun x39 h =>
 vif x39 (
 tcomp (kI 0) fun c0 => tcomp (kI 11) fun c1 => vfin true q [c0, c1] h)
 (vtoInt .i64 x5 h fun x41 h =>
 tcomp x41 fun c0 => tcomp (kI 0) fun c1 => vfin true q [c0, c1] h))
theorem e165_3 (O : Oracle) (R : Jump) (q : Nat) (x0 x5 : TVal) (h : Heap) : b165_3 O R q x0 x5 h = stepF c165 O R q 3 [x0, x5] h := by kernel_rfl
def d165 : BlkF := fun O R Q => [.s fun a => .z (b165_0 O R Q a), .s fun a => .s fun b => .z (b165_1 O R Q a b), .s fun a => .s fun b => .s fun c => .s fun d => .z (b165_2 O R Q a b c d), .s fun a => .s fun b => .z (b165_3 O R Q a b)]
theorem o165 (O : Oracle) (R : Jump) (q : Nat) : HoldsAll c165 O R q 0 (d165 O R q) := ⟨e165_0 O R q, e165_1 O R q, e165_2 O R q, e165_3 O R q, trivial⟩
def c166 : MFunc := mkM (compF Tryd.prog (globs2 tabs opq) (fun _ => false) true Tryd.f166) (.s .n (.s .n (.s .n (.s (.k (.l 1 [0, 1, 6] (.s .n (.k (.s .n (.s .n (.s .n (.s (.s .n (.k (.s .n (.m 2 [0, 1, 6, 46, 47] .n)))) (.m 3 [0, 1, 6] .n))))))))) .n))))
def b166_0 (O : Oracle) (R : Jump) (q : Nat) (x0 x1 : TVal) (h : Heap) : Res1 :=
 vbin .add 0 x1 (kI 1) h fun x9 h =>
 R 1 [x0, x9, (kS [])] h
theorem e166_0 (O : Oracle) (R : Jump) (q : Nat) (x0 x1 : TVal) (h : Heap) : b166_0 O R q x0 x1 h = stepF c166 O R q 0 [x0, x1] h := by kernel_rfl
def b166_1 (O : Oracle) (R : Jump) (q : Nat) (x0 x1 x6 : TVal) (h : Heap) : Res1 :=
 vlen O 0 x0 h 12 fun x12 h =>
 vbin .lss 0 x1 x12 h fun x13 h =>
 vif x13 (
 vindex x0 x1 h fun x16 h =>
 vbin .eql 0 x16 (.v (.c (.p (.int .u8 34)))) h fun x19 h =>
 vif x19 (
 vbin .add 0 x1 (kI 1) h fun x22 h =>
 tcomp x6 fun c0 => tcomp x22 fun c1 => vfin true q [c0, c1] h)
 (vbin .lss 0 x16 (.v (.c (.p (.int .u8 32)))) h fun x25 h =>
 vif x25 (
 tcomp (kS []) fun c0 => tcomp (kI (-1)) fun c1 => vfin true q [c0, c1] h)
 (vbin .neq 0 x16 (.v (.c (.p (.int .u8 92)))) h fun x28 h =>
 vif x28 (
 vbin .add 0 x1 (kI 1) h fun x33 h =>
 vop O (.slice 0 true (.k x0) (some (.k x1)) (some (.k x33)) none) h 34 fun x34 h =>
 vbin .add 0 x6 x34 h fun x35 h =>
 vbin .add 0 x1 (kI 1) h fun x37 h =>
 R 1 [x0, x37, x35] h)
 (vbin .add 0 x1 (kI 1) h fun x39 h =>
 vlen O 0 x0 h 41 fun x41 h =>
 vbin .geq 0 x39 x41 h fun x42 h =>
 vif x42 (
 tcomp (kS []) fun c0 => tcomp (kI (-1)) fun c1 => vfin true q [c0, c1] h)
 (vbin .add 0 x1 (kI 1) h fun x45 h =>
 vindex x0 x45 h fun x46 h =>
 vbin .eql 0 x46 (.v (.c (.p (.int .u8 92)))) h fun x48 h =>
 vif x48 (
 R 2 [x0, x1, x6, x46, x48] h)
 (vbin .eql 0 x46 (.v (.c (.p (.int .u8 34)))) h fun x49 h =>
 R 2 [x0, x1, x6, x46, x49] h))))))
 (tcomp (kS []) fun c0 => tcomp (kI (-1)) fun c1 => vfin true q [c0, c1] h)
theorem e166_1 (O : Oracle) (R : Jump) (q : Nat) (x0 x1 x6 : TVal) (h : Heap) : b166_1 O R q x0 x1 x6 h = stepF c166 O R q 1 [x0, x1, x6] h := by kernel_rfl
def b166_2 (O : Oracle) (R : Jump) (q : Nat) (x0 x1 x6 x46 x47 : TVal) (h : Heap) : Res1 :=
 vif x47 (
 vbin .add 0 x1 (kI 1) h fun x53 h =>
 vbin .add 0 x1 (kI 2) h fun x55 h =>
 vop O (.slice 0 true (.k x0) (some (.k x53)) (some (.k x55)) none) h 56 fun x56 h =>
 vbin .add 0 x6 x56 h fun x57 h =>
 R 3 [x0, x1, x57] h)
 (vbin .eql 0 x46 (.v (.c (.p (.int .u8 110)))) h fun x59 h =>
 vif x59 (
 vbin .add 0 x6 (kS [10]) h fun x61 h =>
 R 3 [x0, x1, x61] h)
 (vbin .eql 0 x46 (.v (.c (.p (.int .u8 116)))) h fun x63 h =>
 vif x63 (
 vbin .add 0 x6 (kS [9]) h fun x65 h =>
 R 3 [x0, x1, x65] h)
 (tcomp (kS []) fun c0 => tcomp (kI (-1)) fun c1 => vfin true q [c0, c1] h)))
theorem e166_2 (O : Oracle) (R : Jump) (q : Nat) (x0 x1 x6 x46 x47 : TVal) (h : Heap) : b166_2 O R q x0 x1 x6 x46 x47 h = stepF c166 O R q 2 [x0, x1, x6, x46, x47] h := by kernel_rfl
def b166_3 (O : Oracle) (R : Jump) (q : Nat) (x0 x1 x6 : TVal) (h : Heap) : Res1 :=
 vbin .add 0 x1 (kI 2) h fun x67 h =>
 R 1 [x0, x67, x6] h
theorem e166_3 (O : Oracle) (R : Jump) (q : Nat) (x0 x1 x6 : TVal) (h : Heap) : b166_3 O R q x0 x1 x6 h = stepF c166 O R q 3 [x0, x1, x6] h := by kernel_rfl
def d166 : BlkF := fun O R Q => [.s fun a => .s fun b => .z (b166_0 O R Q a b), .s fun a => .s fun b => .s fun c => .z (b166_1 O R Q a b c), .s fun a => .s fun b => .s fun c => .s fun d => .s fun e => .z (b166_2 O R Q a b c d e), .s fun a => .s fun b => .s fun c => .z (b166_3 O R Q a b c)]
theorem o166 (O : Oracle) (R : Jump) (q : Nat) : HoldsAll c166 O R q 0 (d166 O R q) := ⟨e166_0 O R q, e166_1 O R q, e166_2 O R q, e166_3 O R q, trivial⟩
end
end Go.Proofs.YtlkejchbcchecaaDoor.Ab
