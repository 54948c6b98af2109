/- Functions of the given program as the abstract interpreter has them (part 0), printed by a program of our own; each is shown to be what 'compF' makes of the given program's. No condition. -/
import Derived.Test.YtlkejchbcchecaaDoorChecked
import Derived.Test.YtlkejchbcchecaaDoorAd
namespace Go.Proofs.YtlkejchbcchecaaDoor.Ab
open Go Go.AI
noncomputable section
set_option linter.all false
set_option linter.unusedVariables false
set_option maxRecDepth 100000
def z0a4518d3 : List UInt8 := [0, 1, 2, 2, 3, 3, 3, 3, 4, 4, 4, 4, 4, 4, 4, 4, 5, 5, 5, 5, 5, 5, 5, 5, 5, 5, 5, 5, 5, 5, 5, 5, 6, 6, 6, 6, 6, 6, 6, 6, 6, 6, 6, 6, 6, 6, 6, 6, 6, 6, 6, 6, 6, 6, 6, 6, 6, 6, 6, 6, 6, 6, 6, 6, 7, 7, 7, 7, 7, 7, 7, 7, 7, 7, 7, 7, 7, 7, 7, 7, 7, 7, 7, 7, 7, 7, 7, 7, 7, 7, 7, 7, 7, 7, 7, 7, 7, 7, 7, 7, 7, 7, 7, 7, 7, 7, 7, 7, 7, 7, 7, 7, 7, 7, 7, 7, 7, 7, 7, 7, 7, 7, 7, 7, 7, 7, 7, 7, 8, 8, 8, 8, 8, 8, 8, 8, 8, 8, 8, 8, 8, 8, 8, 8, 8, 8, 8, 8, 8, 8, 8, 8, 8, 8, 8, 8, 8, 8, 8, 8, 8, 8, 8, 8, 8, 8, 8, 8, 8, 8, 8, 8, 8, 8, 8, 8, 8, 8, 8, 8, 8, 8, 8, 8, 8, 8, 8, 8, 8, 8, 8, 8, 8, 8, 8, 8, 8, 8, 8, 8, 8, 8, 8, 8, 8, 8, 8, 8, 8, 8, 8, 8, 8, 8, 8, 8, 8, 8, 8, 8, 8, 8, 8, 8, 8, 8, 8, 8, 8, 8, 8, 8, 8, 8, 8, 8, 8, 8, 8, 8, 8, 8, 8, 8, 8, 8, 8, 8, 8, 8, 8, 8, 8, 8, 8, 8]
def z53fdd7c2 : List UInt8 := [48, 48, 48, 49, 48, 50, 48, 51, 48, 52, 48, 53, 48, 54, 48, 55, 48, 56, 48, 57, 49, 48, 49, 49, 49, 50, 49, 51, 49, 52, 49, 53, 49, 54, 49, 55, 49, 56, 49, 57, 50, 48, 50, 49, 50, 50, 50, 51, 50, 52, 50, 53, 50, 54, 50, 55, 50, 56, 50, 57, 51, 48, 51, 49, 51, 50, 51, 51, 51, 52, 51, 53, 51, 54, 51, 55, 51, 56, 51, 57, 52, 48, 52, 49, 52, 50, 52, 51, 52, 52, 52, 53, 52, 54, 52, 55, 52, 56, 52, 57, 53, 48, 53, 49, 53, 50, 53, 51, 53, 52, 53, 53, 53, 54, 53, 55, 53, 56, 53, 57, 54, 48, 54, 49, 54, 50, 54, 51, 54, 52, 54, 53, 54, 54, 54, 55, 54, 56, 54, 57, 55, 48, 55, 49, 55, 50, 55, 51, 55, 52, 55, 53, 55, 54, 55, 55, 55, 56, 55, 57, 56, 48, 56, 49, 56, 50, 56, 51, 56, 52, 56, 53, 56, 54, 56, 55, 56, 56, 56, 57, 57, 48, 57, 49, 57, 50, 57, 51, 57, 52, 57, 53, 57, 54, 57, 55, 57, 56, 57, 57]
def z6c995b20 : List UInt8 := [32, 108, 101, 110, 32, 110, 111, 116, 32, 97, 110, 100, 32, 111, 114, 32, 101, 113, 32, 108, 116, 32, 97, 100, 100, 32, 115, 117, 98, 32, 109, 117, 108, 32, 115, 104, 108, 32, 115, 104, 114, 32, 105, 56, 32, 105, 49, 54, 32, 105, 51, 50, 32, 117, 56, 32, 117, 49, 54, 32, 117, 51, 50, 32, 99, 97, 116, 32, 116, 101, 120, 116, 32, 97, 116, 32, 103, 101, 116, 32, 104, 97, 115, 32, 111, 114, 101, 108, 115, 101, 32]
def tabs : List Tabl := []
def opq : Option Nat := some 0
def c12 : MFunc := mkM (compF Tryd.prog (globs2 tabs opq) (fun _ => false) true Tryd.f12) (.s .n (.s .n (.s .n (.s (.s .n (.k (.l 1 [0, 1, 2, 3, 4, 11] .n))) (.m 2 [0, 1, 2, 3, 4] (.s .n (.s .n (.s (.s .n (.k (.l 3 [3, 4, 13, 14, 15] .n))) (.m 4 [13, 14] .n)))))))))
def b12_0 (O : Oracle) (R : Jump) (q : Nat) (x0 x1 x2 x3 x4 : TVal) (h : Heap) : Res1 :=
 vcall O (.v (.c (.func 36 []))) [] h 21 fun x21 h =>
 vop O (.un .not (.k x21)) h 22 fun x22 h =>
 vif x22 (
 tcomp (kB false) fun c0 => vfin true q [c0] h)
 (vlen O 2 x1 h 24 fun x24 h =>
 vbin .gtr 0 x24 (kI 8) h fun x25 h =>
 vguard x25 false (fun kk => kk x4 h) h fun x27 h =>
 vguard x25 false (fun kk => vlen O 0 x27 h 28 kk) h fun x28 h =>
 vguard x25 false (fun kk => vbin .gtr 0 x28 (kI 30) h kk) h fun x29 h =>
 vop O (.pick (.k x25) (.k (kB true)) (.k x29)) h 30 fun x30 h =>
 vif x30 (
 tcomp (kB true) fun c0 => vfin true q [c0] h)
 (R 1 [x0, x1, x2, x3, x4, (kI 0)] h))
theorem e12_0 (O : Oracle) (R : Jump) (q : Nat) (x0 x1 x2 x3 x4 : TVal) (h : Heap) : b12_0 O R q x0 x1 x2 x3 x4 h = stepF c12 O R q 0 [x0, x1, x2, x3, x4] h := by kernel_rfl
def b12_1 (O : Oracle) (R : Jump) (q : Nat) (x0 x1 x2 x3 x4 x11 : TVal) (h : Heap) : Res1 :=
 vlen O 2 x1 h 33 fun x33 h =>
 vbin .lss 0 x11 x33 h fun x34 h =>
 vif x34 (
 viaddr 5 x1 x11 h fun x39 h =>
 vload true 5 x39 h fun x40 h =>
 vcall O (.v (.c (.func 29 []))) [x40, (kI 20)] h 41 fun x41 h =>
 vbin .eql 0 x41 (kI 0) h fun x42 h =>
 vif x42 (
 tcomp (kB true) fun c0 => vfin true q [c0] h)
 (vbin .add 0 x11 (kI 1) h fun x36 h =>
 R 1 [x0, x1, x2, x3, x4, x36] h))
 (R 2 [x0, x1, x2, x3, x4] h)
theorem e12_1 (O : Oracle) (R : Jump) (q : Nat) (x0 x1 x2 x3 x4 x11 : TVal) (h : Heap) : b12_1 O R q x0 x1 x2 x3 x4 x11 h = stepF c12 O R q 1 [x0, x1, x2, x3, x4, x11] h := by kernel_rfl
def b12_2 (O : Oracle) (R : Jump) (q : Nat) (x0 x1 x2 x3 x4 : TVal) (h : Heap) : Res1 :=
 vcall O (.v (.c (.func 42 []))) [x0, x1, x2] h 46 fun x46 h =>
 vcall O (.v (.c (.func 43 []))) [x46] h 48 fun x48 h =>
 vcall O (.v (.c (.func 44 []))) [x46] h 50 fun x50 h =>
 R 3 [x3, x4, x48, x50, (kI 0)] h
theorem e12_2 (O : Oracle) (R : Jump) (q : Nat) (x0 x1 x2 x3 x4 : TVal) (h : Heap) : b12_2 O R q x0 x1 x2 x3 x4 h = stepF c12 O R q 2 [x0, x1, x2, x3, x4] h := by kernel_rfl
def b12_3 (O : Oracle) (R : Jump) (q : Nat) (x3 x4 x13 x14 x15 : TVal) (h : Heap) : Res1 :=
 vlen O 2 x3 h 53 fun x53 h =>
 vbin .lss 0 x15 x53 h fun x54 h =>
 vguard x54 true (fun kk => kk x15 h) h fun x56 h =>
 vguard x54 true (fun kk => vbin .lss 0 x56 (kI 40) h kk) h fun x57 h =>
 vop O (.pick (.k x54) (.k x57) (.k (kB false))) h 58 fun x58 h =>
 vif x58 (
 vop O (.bslice 1 4 [(.p (.str []))] [(0, (.k (kS [102, 97]))), (1, (.k (kS [102, 98]))), (2, (.k (kS [102, 99]))), (3, (.k x4))] false) h 62 fun x62 h =>
 viaddr 1 x3 x15 h fun x65 h =>
 vload false 1 x65 h fun x66 h =>
 vcall O (.v (.c (.func 37 []))) [x66, (kI 4)] h 67 fun x67 h =>
 viaddr 1 x62 x67 h fun x68 h =>
 vload false 1 x68 h fun x69 h =>
 vcall O (.v (.c (.func 45 []))) [x13, x69] h 73 fun x73 h =>
 vext x73 0 h fun x74 h =>
 vext x73 1 h fun x75 h =>
 vop O (.alloc [(.p (.int .i64 0)), (.p (.bool false)), (.p (.int .i64 0)), (.p (.str [])), (.p .nilslice), (.p .nilslice)] false) h 17 fun x17 h =>
 vstore 6 x17 x74 h fun _ h =>
 vcall O (.v (.c (.func 46 []))) [x14, x69] h 79 fun x79 h =>
 vext x79 0 h fun x80 h =>
 vext x79 1 h fun x81 h =>
 vop O (.alloc [(.p (.int .i64 0)), (.p (.bool false)), (.p (.int .i64 0)), (.p (.str [])), (.p .nilslice), (.p .nilslice)] false) h 19 fun x19 h =>
 vstore 6 x19 x80 h fun _ h =>
 vbin .neq 0 x75 x81 h fun x84 h =>
 vguard x84 false (fun kk => vload true 6 x17 h kk) h fun x86 h =>
 vguard x84 false (fun kk => vload true 6 x19 h kk) h fun x87 h =>
 vguard x84 false (fun kk => vcall O (.v (.c (.func 24 []))) [x86, x87] h 88 kk) h fun x88 h =>
 vguard x84 false (fun kk => vop O (.un .not (.k x88)) h 89 kk) h fun x89 h =>
 vop O (.pick (.k x84) (.k (kB true)) (.k x89)) h 90 fun x90 h =>
 vguard x90 false (fun kk => kk x13 h) h fun x92 h =>
 vguard x90 false (fun kk => kk x69 h) h fun x93 h =>
 vguard x90 false (fun kk => vcall O (.v (.c (.func 47 []))) [x92, x93] h 94 kk) h fun x94 h =>
 vguard x90 false (fun kk => kk x14 h) h fun x95 h =>
 vguard x90 false (fun kk => kk x69 h) h fun x96 h =>
 vguard x90 false (fun kk => vcall O (.v (.c (.func 48 []))) [x95, x96] h 97 kk) h fun x97 h =>
 vguard x90 false (fun kk => vbin .neq 0 x94 x97 h kk) h fun x98 h =>
 vop O (.pick (.k x90) (.k (kB true)) (.k x98)) h 99 fun x99 h =>
 vif x99 (
 tcomp (kB false) fun c0 => vfin true q [c0] h)
 (vbin .add 0 x15 (kI 1) h fun x60 h =>
 R 3 [x3, x4, x13, x14, x60] h))
 (R 4 [x13, x14] h)
theorem e12_3 (O : Oracle) (R : Jump) (q : Nat) (x3 x4 x13 x14 x15 : TVal) (h : Heap) : b12_3 O R q x3 x4 x13 x14 x15 h = stepF c12 O R q 3 [x3, x4, x13, x14, x15] h := by kernel_rfl
def b12_4 (O : Oracle) (R : Jump) (q : Nat) (x13 x14 : TVal) (h : Heap) : Res1 :=
 vcall O (.v (.c (.func 47 []))) [x13, (kS [102, 97])] h 101 fun x101 h =>
 vcall O (.v (.c (.func 48 []))) [x14, (kS [102, 97])] h 103 fun x103 h =>
 vbin .eql 0 x101 x103 h fun x104 h =>
 vguard x104 true (fun kk => kk x13 h) h fun x106 h =>
 vguard x104 true (fun kk => vcall O (.v (.c (.func 47 []))) [x106, (kS [110, 111, 98, 111, 100, 121, 32, 97, 116, 32, 97, 108, 108])] h 107 kk) h fun x107 h =>
 vguard x104 true (fun kk => vbin .eql 0 x107 (kI 0) h kk) h fun x108 h =>
 vop O (.pick (.k x104) (.k x108) (.k (kB false))) h 109 fun x109 h =>
 tcomp x109 fun c0 => vfin true q [c0] h
theorem e12_4 (O : Oracle) (R : Jump) (q : Nat) (x13 x14 : TVal) (h : Heap) : b12_4 O R q x13 x14 h = stepF c12 O R q 4 [x13, x14] h := by kernel_rfl
def d12 : BlkF := fun O R Q => [.s fun a => .s fun b => .s fun c => .s fun d => .s fun e => .z (b12_0 O R Q a b c d e), .s fun a => .s fun b => .s fun c => .s fun d => .s fun e => .s fun f => .z (b12_1 O R Q a b c d e f), .s fun a => .s fun b => .s fun c => .s fun d => .s fun e => .z (b12_2 O R Q a b c d e), .s fun a => .s fun b => .s fun c => .s fun d => .s fun e => .z (b12_3 O R Q a b c d e), .s fun a => .s fun b => .z (b12_4 O R Q a b)]
theorem o12 (O : Oracle) (R : Jump) (q : Nat) : HoldsAll c12 O R q 0 (d12 O R q) := ⟨e12_0 O R q, e12_1 O R q, e12_2 O R q, e12_3 O R q, e12_4 O R q, trivial⟩
def c24 : MFunc := mkM (compF Tryd.prog (globs2 tabs opq) (fun _ => false) true Tryd.f24) (.s .n (.s .n (.s (.s .n (.k (.l 1 [2, 3, 5] .n))) (.m 2 [2, 3] (.s (.s .n (.k (.l 3 [2, 3, 6] .n))) .n)))))
def b24_0 (O : Oracle) (R : Jump) (q : Nat) (x0 x1 : TVal) (h : Heap) : Res1 :=
 vop O (.box (.k x0) false) h 2 fun x2 h =>
 vop O (.box (.k x1) false) h 3 fun x3 h =>
 vfaddr 0 x2 h fun x7 h =>
 vload false 1 x7 h fun x8 h =>
 vfaddr 0 x3 h fun x9 h =>
 vload false 1 x9 h fun x10 h =>
 vbin .neq 0 x8 x10 h fun x11 h =>
 vguard x11 false (fun kk => vfaddr 1 x2 h kk) h fun x13 h =>
 vguard x11 false (fun kk => vload false 1 x13 h kk) h fun x14 h =>
 vguard x11 false (fun kk => vfaddr 1 x3 h kk) h fun x15 h =>
 vguard x11 false (fun kk => vload false 1 x15 h kk) h fun x16 h =>
 vguard x11 false (fun kk => vbin .neq 5 x14 x16 h kk) h fun x17 h =>
 vop O (.pick (.k x11) (.k (kB true)) (.k x17)) h 18 fun x18 h =>
 vguard x18 false (fun kk => vfaddr 2 x2 h kk) h fun x20 h =>
 vguard x18 false (fun kk => vload false 1 x20 h kk) h fun x21 h =>
 vguard x18 false (fun kk => vfaddr 2 x3 h kk) h fun x22 h =>
 vguard x18 false (fun kk => vload false 1 x22 h kk) h fun x23 h =>
 vguard x18 false (fun kk => vbin .neq 0 x21 x23 h kk) h fun x24 h =>
 vop O (.pick (.k x18) (.k (kB true)) (.k x24)) h 25 fun x25 h =>
 vguard x25 false (fun kk => vfaddr 3 x2 h kk) h fun x27 h =>
 vguard x25 false (fun kk => vload false 1 x27 h kk) h fun x28 h =>
 vguard x25 false (fun kk => vfaddr 3 x3 h kk) h fun x29 h =>
 vguard x25 false (fun kk => vload false 1 x29 h kk) h fun x30 h =>
 vguard x25 false (fun kk => vbin .neq 0 x28 x30 h kk) h fun x31 h =>
 vop O (.pick (.k x25) (.k (kB true)) (.k x31)) h 32 fun x32 h =>
 vguard x32 false (fun kk => vfaddr 4 x2 h kk) h fun x34 h =>
 vguard x32 false (fun kk => vload false 1 x34 h kk) h fun x35 h =>
 vguard x32 false (fun kk => vlen O 2 x35 h 36 kk) h fun x36 h =>
 vguard x32 false (fun kk => vfaddr 4 x3 h kk) h fun x37 h =>
 vguard x32 false (fun kk => vload false 1 x37 h kk) h fun x38 h =>
 vguard x32 false (fun kk => vlen O 2 x38 h 39 kk) h fun x39 h =>
 vguard x32 false (fun kk => vbin .neq 0 x36 x39 h kk) h fun x40 h =>
 vop O (.pick (.k x32) (.k (kB true)) (.k x40)) h 41 fun x41 h =>
 vguard x41 false (fun kk => vfaddr 5 x2 h kk) h fun x43 h =>
 vguard x41 false (fun kk => vload false 1 x43 h kk) h fun x44 h =>
 vguard x41 false (fun kk => vlen O 2 x44 h 45 kk) h fun x45 h =>
 vguard x41 false (fun kk => vfaddr 5 x3 h kk) h fun x46 h =>
 vguard x41 false (fun kk => vload false 1 x46 h kk) h fun x47 h =>
 vguard x41 false (fun kk => vlen O 2 x47 h 48 kk) h fun x48 h =>
 vguard x41 false (fun kk => vbin .neq 0 x45 x48 h kk) h fun x49 h =>
 vop O (.pick (.k x41) (.k (kB true)) (.k x49)) h 50 fun x50 h =>
 vif x50 (
 tcomp (kB false) fun c0 => vfin true q [c0] h)
 (R 1 [x2, x3, (kI 0)] h)
theorem e24_0 (O : Oracle) (R : Jump) (q : Nat) (x0 x1 : TVal) (h : Heap) : b24_0 O R q x0 x1 h = stepF c24 O R q 0 [x0, x1] h := by kernel_rfl
def b24_1 (O : Oracle) (R : Jump) (q : Nat) (x2 x3 x5 : TVal) (h : Heap) : Res1 :=
 vfaddr 4 x2 h fun x52 h =>
 vload false 1 x52 h fun x53 h =>
 vlen O 2 x53 h 54 fun x54 h =>
 vbin .lss 0 x5 x54 h fun x55 h =>
 vif x55 (
 vfaddr 4 x2 h fun x58 h =>
 vload false 1 x58 h fun x59 h =>
 viaddr 1 x59 x5 h fun x61 h =>
 vload false 1 x61 h fun x62 h =>
 vfaddr 4 x3 h fun x63 h =>
 vload false 1 x63 h fun x64 h =>
 viaddr 1 x64 x5 h fun x66 h =>
 vload false 1 x66 h fun x67 h =>
 vbin .neq 0 x62 x67 h fun x68 h =>
 vif x68 (
 tcomp (kB false) fun c0 => vfin true q [c0] h)
 (vbin .add 0 x5 (kI 1) h fun x57 h =>
 R 1 [x2, x3, x57] h))
 (R 2 [x2, x3] h)
theorem e24_1 (O : Oracle) (R : Jump) (q : Nat) (x2 x3 x5 : TVal) (h : Heap) : b24_1 O R q x2 x3 x5 h = stepF c24 O R q 1 [x2, x3, x5] h := by kernel_rfl
def b24_2 (O : Oracle) (R : Jump) (q : Nat) (x2 x3 : TVal) (h : Heap) : Res1 :=
 R 3 [x2, x3, (kI 0)] h
theorem e24_2 (O : Oracle) (R : Jump) (q : Nat) (x2 x3 : TVal) (h : Heap) : b24_2 O R q x2 x3 h = stepF c24 O R q 2 [x2, x3] h := by kernel_rfl
def b24_3 (O : Oracle) (R : Jump) (q : Nat) (x2 x3 x6 : TVal) (h : Heap) : Res1 :=
 vfaddr 5 x2 h fun x70 h =>
 vload false 1 x70 h fun x71 h =>
 vlen O 2 x71 h 72 fun x72 h =>
 vbin .lss 0 x6 x72 h fun x73 h =>
 vif x73 (
 vfaddr 5 x2 h fun x76 h =>
 vload false 1 x76 h fun x77 h =>
 viaddr 6 x77 x6 h fun x79 h =>
 vload true 6 x79 h fun x80 h =>
 vfaddr 5 x3 h fun x81 h =>
 vload false 1 x81 h fun x82 h =>
 viaddr 6 x82 x6 h fun x84 h =>
 vload true 6 x84 h fun x85 h =>
 vcall O (.v (.c (.func 24 []))) [x80, x85] h 86 fun x86 h =>
 vop O (.un .not (.k x86)) h 87 fun x87 h =>
 vif x87 (
 tcomp (kB false) fun c0 => vfin true q [c0] h)
 (vbin .add 0 x6 (kI 1) h fun x75 h =>
 R 3 [x2, x3, x75] h))
 (tcomp (kB true) fun c0 => vfin true q [c0] h)
theorem e24_3 (O : Oracle) (R : Jump) (q : Nat) (x2 x3 x6 : TVal) (h : Heap) : b24_3 O R q x2 x3 x6 h = stepF c24 O R q 3 [x2, x3, x6] h := by kernel_rfl
def d24 : BlkF := fun O R Q => [.s fun a => .s fun b => .z (b24_0 O R Q a b), .s fun a => .s fun b => .s fun c => .z (b24_1 O R Q a b c), .s fun a => .s fun b => .z (b24_2 O R Q a b), .s fun a => .s fun b => .s fun c => .z (b24_3 O R Q a b c)]
theorem o24 (O : Oracle) (R : Jump) (q : Nat) : HoldsAll c24 O R q 0 (d24 O R q) := ⟨e24_0 O R q, e24_1 O R q, e24_2 O R q, e24_3 O R q, trivial⟩
def c29 : MFunc := mkM (compF Tryd.prog (globs2 tabs opq) (fun _ => false) true Tryd.f29) (.s .n (.s .n (.s .n (.s (.s .n (.k (.l 1 [1, 2, 5] .n))) .n))))
def b29_0 (O : Oracle) (R : Jump) (q : Nat) (x0 x1 : TVal) (h : Heap) : Res1 :=
 vop O (.box (.k x0) false) h 2 fun x2 h =>
 vbin .leq 0 x1 (kI 0) h fun x7 h =>
 vguard x7 false (fun kk => vfaddr 4 x2 h kk) h fun x9 h =>
 vguard x7 false (fun kk => vload false 1 x9 h kk) h fun x10 h =>
 vguard x7 false (fun kk => vlen O 2 x10 h 11 kk) h fun x11 h =>
 vguard x7 false (fun kk => vbin .gtr 0 x11 (kI 12) h kk) h fun x12 h =>
 vop O (.pick (.k x7) (.k (kB true)) (.k x12)) h 13 fun x13 h =>
 vguard x13 false (fun kk => vfaddr 2 x2 h kk) h fun x15 h =>
 vguard x13 false (fun kk => vload false 1 x15 h kk) h fun x16 h =>
 vguard x13 false (fun kk => vlen O 2 x16 h 17 kk) h fun x17 h =>
 vguard x13 false (fun kk => vbin .gtr 0 x17 (kI 50) h kk) h fun x18 h =>
 vop O (.pick (.k x13) (.k (kB true)) (.k x18)) h 19 fun x19 h =>
 vguard x19 false (fun kk => vfaddr 3 x2 h kk) h fun x21 h =>
 vguard x19 false (fun kk => vload false 1 x21 h kk) h fun x22 h =>
 vguard x19 false (fun kk => vlen O 2 x22 h 23 kk) h fun x23 h =>
 vguard x19 false (fun kk => vbin .gtr 0 x23 (kI 12) h kk) h fun x24 h =>
 vop O (.pick (.k x19) (.k (kB true)) (.k x24)) h 25 fun x25 h =>
 vif x25 (
 tcomp (kI 0) fun c0 => vfin true q [c0] h)
 (vbin .sub 0 x1 (kI 1) h fun x27 h =>
 R 1 [x27, x2, (kI 0)] h)
theorem e29_0 (O : Oracle) (R : Jump) (q : Nat) (x0 x1 : TVal) (h : Heap) : b29_0 O R q x0 x1 h = stepF c29 O R q 0 [x0, x1] h := by kernel_rfl
def b29_1 (O : Oracle) (R : Jump) (q : Nat) (x1 x2 x5 : TVal) (h : Heap) : Res1 :=
 vfaddr 4 x2 h fun x29 h =>
 vload false 1 x29 h fun x30 h =>
 vlen O 2 x30 h 31 fun x31 h =>
 vbin .lss 0 x5 x31 h fun x32 h =>
 vguard x32 true (fun kk => kk x1 h) h fun x34 h =>
 vguard x32 true (fun kk => vbin .gtr 0 x34 (kI 0) h kk) h fun x35 h =>
 vop O (.pick (.k x32) (.k x35) (.k (kB false))) h 36 fun x36 h =>
 vif x36 (
 vfaddr 4 x2 h fun x39 h =>
 vload false 1 x39 h fun x40 h =>
 viaddr 5 x40 x5 h fun x42 h =>
 vload true 5 x42 h fun x43 h =>
 vcall O (.v (.c (.func 29 []))) [x43, x1] h 45 fun x45 h =>
 vbin .add 0 x5 (kI 1) h fun x38 h =>
 R 1 [x45, x2, x38] h)
 (tcomp x1 fun c0 => vfin true q [c0] h)
theorem e29_1 (O : Oracle) (R : Jump) (q : Nat) (x1 x2 x5 : TVal) (h : Heap) : b29_1 O R q x1 x2 x5 h = stepF c29 O R q 1 [x1, x2, x5] h := by kernel_rfl
def d29 : BlkF := fun O R Q => [.s fun a => .s fun b => .z (b29_0 O R Q a b), .s fun a => .s fun b => .s fun c => .z (b29_1 O R Q a b c)]
theorem o29 (O : Oracle) (R : Jump) (q : Nat) : HoldsAll c29 O R q 0 (d29 O R q) := ⟨e29_0 O R q, e29_1 O R q, trivial⟩
def c31 : MFunc := mkM (compF Tryd.prog (globs2 tabs opq) (fun _ => false) true Tryd.f31) (.s .n (.s .n (.s .n (.m 1 [1, 2, 4, 5] (.s .n (.s (.s .n (.k (.s .n (.s .n (.s .n (.s .n (.s .n (.s .n (.s .n (.s (.s .n (.k (.l 2 [1, 2, 4, 6, 7] .n))) (.s .n (.s (.s .n (.k (.l 3 [1, 2, 4, 6, 8] (.s .n (.s (.k (.s .n (.s .n (.m 4 [1, 2, 4, 6, 8, 9] .n)))) .n))))) .n)))))))))))) (.m 5 [4, 6] .n)))))))
def b31_0 (O : Oracle) (R : Jump) (q : Nat) (x0 x1 : TVal) (h : Heap) : Res1 :=
 vop O (.box (.k x0) false) h 2 fun x2 h =>
 vop O (.alloc [(.p (.int .i64 0)), (.p (.bool false)), (.p (.int .i64 0)), (.p (.str [])), (.p .nilslice), (.p .nilslice)] false) h 4 fun x4 h =>
 vfaddr 0 x2 h fun x10 h =>
 vload false 1 x10 h fun x11 h =>
 vcall O (.v (.c (.func 79 []))) [x11, (kI 6)] h 12 fun x12 h =>
 vbin .leq 0 x1 (kI 1) h fun x14 h =>
 vguard x14 true (fun kk => kk x12 h) h fun x16 h =>
 vguard x14 true (fun kk => vbin .geq 0 x16 (kI 4) h kk) h fun x17 h =>
 vop O (.pick (.k x14) (.k x17) (.k (kB false))) h 18 fun x18 h =>
 vif x18 (
 R 1 [x1, x2, x4, (kI 2)] h)
 (R 1 [x1, x2, x4, x12] h)
theorem e31_0 (O : Oracle) (R : Jump) (q : Nat) (x0 x1 : TVal) (h : Heap) : b31_0 O R q x0 x1 h = stepF c31 O R q 0 [x0, x1] h := by kernel_rfl
def b31_1 (O : Oracle) (R : Jump) (q : Nat) (x1 x2 x4 x5 : TVal) (h : Heap) : Res1 :=
 vop O (.build [(.p (.int .i64 0)), (.p (.bool false)), (.p (.int .i64 0)), (.p (.str [])), (.p .nilslice), (.p .nilslice)] [(0, 1, (.k x5))]) h 20 fun x20 h =>
 vop O (.alloc [(.p (.int .i64 0)), (.p (.bool false)), (.p (.int .i64 0)), (.p (.str [])), (.p .nilslice), (.p .nilslice)] false) h 6 fun x6 h =>
 vstore 6 x6 x20 h fun _ h =>
 vbin .eql 0 x5 (kI 1) h fun x23 h =>
 vif x23 (
 vfaddr 1 x2 h fun x24 h =>
 vload false 1 x24 h fun x25 h =>
 vbin .rem 0 x25 (kI 2) h fun x26 h =>
 vbin .eql 0 x26 (kI 0) h fun x27 h =>
 vfaddr 1 x6 h fun x28 h =>
 vstore 1 x28 x27 h fun _ h =>
 R 5 [x4, x6] h)
 (vbin .eql 0 x5 (kI 2) h fun x30 h =>
 vif x30 (
 vfaddr 1 x2 h fun x31 h =>
 vload false 1 x31 h fun x32 h =>
 vfaddr 2 x6 h fun x33 h =>
 vstore 1 x33 x32 h fun _ h =>
 R 5 [x4, x6] h)
 (vbin .eql 0 x5 (kI 3) h fun x35 h =>
 vif x35 (
 vfaddr 2 x2 h fun x36 h =>
 vload false 1 x36 h fun x37 h =>
 vcall O (.v (.c (.func 80 []))) [x37] h 38 fun x38 h =>
 vfaddr 3 x6 h fun x39 h =>
 vstore 1 x39 x38 h fun _ h =>
 R 5 [x4, x6] h)
 (vbin .eql 0 x5 (kI 4) h fun x41 h =>
 vif x41 (
 R 2 [x1, x2, x4, x6, (kI 0)] h)
 (vbin .eql 0 x5 (kI 5) h fun x63 h =>
 vif x63 (
 R 3 [x1, x2, x4, x6, (kI 0)] h)
 (R 5 [x4, x6] h)))))
theorem e31_1 (O : Oracle) (R : Jump) (q : Nat) (x1 x2 x4 x5 : TVal) (h : Heap) : b31_1 O R q x1 x2 x4 x5 h = stepF c31 O R q 1 [x1, x2, x4, x5] h := by kernel_rfl
def b31_2 (O : Oracle) (R : Jump) (q : Nat) (x1 x2 x4 x6 x7 : TVal) (h : Heap) : Res1 :=
 vfaddr 4 x2 h fun x43 h =>
 vload false 1 x43 h fun x44 h =>
 vlen O 2 x44 h 45 fun x45 h =>
 vbin .lss 0 x7 x45 h fun x46 h =>
 vif x46 (
 vtouch O (.faddr 5 (.k x6)) h 49 fun x49 h t0 =>
 vtouch O (.load false 1 (.k x49)) h 50 fun x50 h t1 =>
 vtouch O (.faddr 4 (.k x2)) h 51 fun x51 h t2 =>
 vtouch O (.load false 1 (.k x51)) h 52 fun x52 h t3 =>
 vtouch O (.mv (.k x7)) h 53 fun x53 h t4 =>
 vtouch O (.iaddr 5 (.k x52) (.k x53)) h 54 fun x54 h t5 =>
 vtouch O (.load true 5 (.k x54)) h 55 fun x55 h t6 =>
 vtouch O (.mv (.k x1)) h 56 fun x56 h t7 =>
 vtouch O (.bin .sub 0 (.k x56) (.k (kI 1))) h 57 fun x57 h t8 =>
 vtouch O (.call (.k (.v (.c (.func 31 [])))) [(.k x55), (.k x57)]) h 58 fun x58 h t9 =>
 vtouch O (.bslice 6 1 [(.p (.int .i64 0)), (.p (.bool false)), (.p (.int .i64 0)), (.p (.str [])), (.p .nilslice), (.p .nilslice)] [(0, (.k x58))] false) h 59 fun x59 h t10 =>
 vtouch O (.append 6 88 false (.k x50) (.k x59)) h 60 fun x60 h t11 =>
 vtouch O (.faddr 5 (.k x6)) h 61 fun x61 h t12 =>
 vtouch O (.store 1 (.k x61) (.k x60)) h 1000000 fun _ h t13 =>
 bif apartAll [t0, t1, t2, t3, t4, t5, t6, t7, t8, t9, t10, t11, t12, t13] [(1, 9), (1, 10)] then
 vbin .add 0 x7 (kI 1) h fun x48 h =>
 R 2 [x1, x2, x4, x6, x48] h
 else none)
 (R 5 [x4, x6] h)
theorem e31_2 (O : Oracle) (R : Jump) (q : Nat) (x1 x2 x4 x6 x7 : TVal) (h : Heap) : b31_2 O R q x1 x2 x4 x6 x7 h = stepF c31 O R q 2 [x1, x2, x4, x6, x7] h := by kernel_rfl
def b31_3 (O : Oracle) (R : Jump) (q : Nat) (x1 x2 x4 x6 x8 : TVal) (h : Heap) : Res1 :=
 vfaddr 4 x2 h fun x65 h =>
 vload false 1 x65 h fun x66 h =>
 vlen O 2 x66 h 67 fun x67 h =>
 vbin .lss 0 x8 x67 h fun x68 h =>
 vif x68 (
 vfaddr 3 x2 h fun x72 h =>
 vload false 1 x72 h fun x73 h =>
 vlen O 2 x73 h 74 fun x74 h =>
 vbin .lss 0 x8 x74 h fun x75 h =>
 vif x75 (
 vfaddr 3 x2 h fun x76 h =>
 vload false 1 x76 h fun x77 h =>
 viaddr 1 x77 x8 h fun x79 h =>
 vload false 1 x79 h fun x80 h =>
 R 4 [x1, x2, x4, x6, x8, x80] h)
 (R 4 [x1, x2, x4, x6, x8, (kI 0)] h))
 (R 5 [x4, x6] h)
theorem e31_3 (O : Oracle) (R : Jump) (q : Nat) (x1 x2 x4 x6 x8 : TVal) (h : Heap) : b31_3 O R q x1 x2 x4 x6 x8 h = stepF c31 O R q 3 [x1, x2, x4, x6, x8] h := by kernel_rfl
def b31_4 (O : Oracle) (R : Jump) (q : Nat) (x1 x2 x4 x6 x8 x9 : TVal) (h : Heap) : Res1 :=
 vtouch O (.load true 6 (.k x6)) h 81 fun x81 h t0 =>
 vtouch O (.bslice 1 8 [(.p (.str []))] [(0, (.k (kS [97]))), (1, (.k (kS [98]))), (2, (.k (kS [99]))), (3, (.k (kS [110, 97, 109, 101]))), (4, (.k (kS [110]))), (5, (.k (kS []))), (6, (.k (kS [120, 34, 121]))), (7, (.k (kS [10])))] false) h 82 fun x82 h t1 =>
 vtouch O (.mv (.k x9)) h 83 fun x83 h t2 =>
 vtouch O (.call (.k (.v (.c (.func 79 [])))) [(.k x83), (.k (kI 8))]) h 84 fun x84 h t3 =>
 vtouch O (.iaddr 1 (.k x82) (.k x84)) h 85 fun x85 h t4 =>
 vtouch O (.load false 1 (.k x85)) h 86 fun x86 h t5 =>
 vtouch O (.faddr 4 (.k x2)) h 87 fun x87 h t6 =>
 vtouch O (.load false 1 (.k x87)) h 88 fun x88 h t7 =>
 vtouch O (.mv (.k x8)) h 89 fun x89 h t8 =>
 vtouch O (.iaddr 5 (.k x88) (.k x89)) h 90 fun x90 h t9 =>
 vtouch O (.load true 5 (.k x90)) h 91 fun x91 h t10 =>
 vtouch O (.mv (.k x1)) h 92 fun x92 h t11 =>
 vtouch O (.bin .sub 0 (.k x92) (.k (kI 1))) h 93 fun x93 h t12 =>
 vtouch O (.call (.k (.v (.c (.func 31 [])))) [(.k x91), (.k x93)]) h 94 fun x94 h t13 =>
 vtouch O (.call (.k (.v (.c (.func 81 [])))) [(.k x81), (.k x86), (.k x94)]) h 95 fun x95 h t14 =>
 vtouch O (.store 6 (.k x6) (.k x95)) h 1000000 fun _ h t15 =>
 bif apartAll [t0, t1, t2, t3, t4, t5, t6, t7, t8, t9, t10, t11, t12, t13, t14, t15] [(0, 1), (0, 3), (1, 3), (1, 7), (3, 7), (1, 10), (3, 10), (0, 13), (1, 13), (5, 13)] then
 vbin .add 0 x8 (kI 1) h fun x70 h =>
 R 3 [x1, x2, x4, x6, x70] h
 else none
theorem e31_4 (O : Oracle) (R : Jump) (q : Nat) (x1 x2 x4 x6 x8 x9 : TVal) (h : Heap) : b31_4 O R q x1 x2 x4 x6 x8 x9 h = stepF c31 O R q 4 [x1, x2, x4, x6, x8, x9] h := by kernel_rfl
def b31_5 (O : Oracle) (R : Jump) (q : Nat) (x4 x6 : TVal) (h : Heap) : Res1 :=
 vload true 6 x6 h fun x96 h =>
 vstore 6 x4 x96 h fun _ h =>
 vcell true 6 x4 h fun c0 => vfin true q [c0] h
theorem e31_5 (O : Oracle) (R : Jump) (q : Nat) (x4 x6 : TVal) (h : Heap) : b31_5 O R q x4 x6 h = stepF c31 O R q 5 [x4, x6] h := by kernel_rfl
def d31 : BlkF := fun O R Q => [.s fun a => .s fun b => .z (b31_0 O R Q a b), .s fun a => .s fun b => .s fun c => .s fun d => .z (b31_1 O R Q a b c d), .s fun a => .s fun b => .s fun c => .s fun d => .s fun e => .z (b31_2 O R Q a b c d e), .s fun a => .s fun b => .s fun c => .s fun d => .s fun e => .z (b31_3 O R Q a b c d e), .s fun a => .s fun b => .s fun c => .s fun d => .s fun e => .s fun f => .z (b31_4 O R Q a b c d e f), .s fun a => .s fun b => .z (b31_5 O R Q a b)]
theorem o31 (O : Oracle) (R : Jump) (q : Nat) : HoldsAll c31 O R q 0 (d31 O R q) := ⟨e31_0 O R q, e31_1 O R q, e31_2 O R q, e31_3 O R q, e31_4 O R q, e31_5 O R q, trivial⟩
def c36 : MFunc := mkM (compF Tryd.prog (globs2 tabs opq) (fun _ => false) true Tryd.f36) .n
def b36_0 (O : Oracle) (R : Jump) (q : Nat) (h : Heap) : Res1 :=
 vop O (.build [(.p (.int .i64 0)), (.p (.bool false)), (.p (.int .i64 0)), (.p (.str [])), (.p .nilslice), (.p .nilslice)] [(0, 1, (.k (kI 2))), (2, 1, (.k (kI 200)))]) h 4 fun x4 h =>
 vop O (.bslice 6 1 [(.p (.int .i64 0)), (.p (.bool false)), (.p (.int .i64 0)), (.p (.str [])), (.p .nilslice), (.p .nilslice)] [(0, (.k x4))] false) h 5 fun x5 h =>
 vcall O (.v (.c (.func 38 []))) [(kS [105, 56]), x5] h 6 fun x6 h =>
 vext x6 0 h fun x7 h =>
 vext x6 1 h fun x8 h =>
 vop O (.alloc [(.p (.int .i64 0)), (.p (.bool false)), (.p (.int .i64 0)), (.p (.str [])), (.p .nilslice), (.p .nilslice)] false) h 1 fun x1 h =>
 vstore 6 x1 x7 h fun _ h =>
 vbin .eql 0 x8 (kI 0) h fun x10 h =>
 vguard x10 true (fun kk => vfaddr 0 x1 h kk) h fun x12 h =>
 vguard x10 true (fun kk => vload false 1 x12 h kk) h fun x13 h =>
 vguard x10 true (fun kk => vbin .eql 0 x13 (kI 2) h kk) h fun x14 h =>
 vop O (.pick (.k x10) (.k x14) (.k (kB false))) h 15 fun x15 h =>
 vguard x15 true (fun kk => vfaddr 2 x1 h kk) h fun x17 h =>
 vguard x15 true (fun kk => vload false 1 x17 h kk) h fun x18 h =>
 vguard x15 true (fun kk => vbin .eql 0 x18 (kI (-56)) h kk) h fun x19 h =>
 vop O (.pick (.k x15) (.k x19) (.k (kB false))) h 20 fun x20 h =>
 tcomp x20 fun c0 => vfin true q [c0] h
theorem e36_0 (O : Oracle) (R : Jump) (q : Nat) (h : Heap) : b36_0 O R q  h = stepF c36 O R q 0 [] h := by kernel_rfl
def d36 : BlkF := fun O R Q => [.z (b36_0 O R Q )]
theorem o36 (O : Oracle) (R : Jump) (q : Nat) : HoldsAll c36 O R q 0 (d36 O R q) := ⟨e36_0 O R q, trivial⟩
def c37 : MFunc := mkM (compF Tryd.prog (globs2 tabs opq) (fun _ => false) true Tryd.f37) .n
def b37_0 (O : Oracle) (R : Jump) (q : Nat) (x0 x1 : TVal) (h : Heap) : Res1 :=
 vbin .rem 0 x0 x1 h fun x8 h =>
 vbin .lss 0 x8 (kI 0) h fun x10 h =>
 vif x10 (
 vbin .add 0 x8 x1 h fun x13 h =>
 tcomp x13 fun c0 => vfin true q [c0] h)
 (tcomp x8 fun c0 => vfin true q [c0] h)
theorem e37_0 (O : Oracle) (R : Jump) (q : Nat) (x0 x1 : TVal) (h : Heap) : b37_0 O R q x0 x1 h = stepF c37 O R q 0 [x0, x1] h := by kernel_rfl
def d37 : BlkF := fun O R Q => [.s fun a => .s fun b => .z (b37_0 O R Q a b)]
theorem o37 (O : Oracle) (R : Jump) (q : Nat) : HoldsAll c37 O R q 0 (d37 O R q) := ⟨e37_0 O R q, trivial⟩
def c38 : MFunc := mkM (compF Tryd.prog (globs2 tabs opq) (fun _ => false) true Tryd.f38) (.s .n (.s .n (.s (.s .n (.k (.s .n (.s .n (.s .n (.m 1 [0, 1, 4, 20, 29] .n)))))) .n)))
def b38_0 (O : Oracle) (R : Jump) (q : Nat) (x0 x1 : TVal) (h : Heap) : Res1 :=
 vop O (.alloc [(.p (.int .i64 0)), (.p (.bool false)), (.p (.int .i64 0)), (.p (.str [])), (.p .nilslice), (.p .nilslice)] false) h 4 fun x4 h =>
 vcall O (.v (.c (.func 84 []))) [x0] h 10 fun x10 h =>
 vop O (.un .not (.k x10)) h 11 fun x11 h =>
 vif x11 (
 vop O (.build [(.p (.int .i64 0)), (.p (.bool false)), (.p (.int .i64 0)), (.p (.str [])), (.p .nilslice), (.p .nilslice)] []) h 12 fun x12 h =>
 vstore 6 x4 x12 h fun _ h =>
 vcell true 6 x4 h fun c0 => tcomp (kI 15) fun c1 => vfin true q [c0, c1] h)
 (vlen O 2 x1 h 15 fun x15 h =>
 vcall O (.v (.c (.func 85 []))) [x0] h 17 fun x17 h =>
 vbin .neq 0 x15 x17 h fun x18 h =>
 vif x18 (
 vop O (.build [(.p (.int .i64 0)), (.p (.bool false)), (.p (.int .i64 0)), (.p (.str [])), (.p .nilslice), (.p .nilslice)] []) h 19 fun x19 h =>
 vstore 6 x4 x19 h fun _ h =>
 vcell true 6 x4 h fun c0 => tcomp (kI 18) fun c1 => vfin true q [c0, c1] h)
 (vbin .eql 0 x0 (kS [108, 101, 110]) h fun x22 h =>
 vif x22 (
 viaddr 6 x1 (kI 0) h fun x24 h =>
 vload true 6 x24 h fun x25 h =>
 vcall O (.v (.c (.func 86 []))) [x25] h 26 fun x26 h =>
 vext x26 0 h fun x27 h =>
 vext x26 1 h fun x28 h =>
 vstore 6 x4 x27 h fun _ h =>
 vcell true 6 x4 h fun c0 => tcomp x28 fun c1 => vfin true q [c0, c1] h)
 (vbin .eql 0 x0 (kS [110, 111, 116]) h fun x30 h =>
 vif x30 (
 R 1 [x0, x1, x4, x0, x30] h)
 (vbin .eql 0 x0 (kS [97, 110, 100]) h fun x31 h =>
 vif x31 (
 R 1 [x0, x1, x4, x0, x31] h)
 (vbin .eql 0 x0 (kS [111, 114]) h fun x32 h =>
 R 1 [x0, x1, x4, x0, x32] h)))))
theorem e38_0 (O : Oracle) (R : Jump) (q : Nat) (x0 x1 : TVal) (h : Heap) : b38_0 O R q x0 x1 h = stepF c38 O R q 0 [x0, x1] h := by kernel_rfl
def b38_1 (O : Oracle) (R : Jump) (q : Nat) (x0 x1 x4 x20 x29 : TVal) (h : Heap) : Res1 :=
 vif x29 (
 vcall O (.v (.c (.func 87 []))) [x0, x1] h 35 fun x35 h =>
 vext x35 0 h fun x36 h =>
 vext x35 1 h fun x37 h =>
 vstore 6 x4 x36 h fun _ h =>
 vcell true 6 x4 h fun c0 => tcomp x37 fun c1 => vfin true q [c0, c1] h)
 (vbin .eql 0 x20 (kS [101, 113]) h fun x39 h =>
 vif x39 (
 vcall O (.v (.c (.func 88 []))) [x1] h 41 fun x41 h =>
 vext x41 0 h fun x42 h =>
 vext x41 1 h fun x43 h =>
 vstore 6 x4 x42 h fun _ h =>
 vcell true 6 x4 h fun c0 => tcomp x43 fun c1 => vfin true q [c0, c1] h)
 (vbin .eql 0 x20 (kS [99, 97, 116]) h fun x45 h =>
 vif x45 (
 vcall O (.v (.c (.func 89 []))) [x1] h 47 fun x47 h =>
 vext x47 0 h fun x48 h =>
 vext x47 1 h fun x49 h =>
 vstore 6 x4 x48 h fun _ h =>
 vcell true 6 x4 h fun c0 => tcomp x49 fun c1 => vfin true q [c0, c1] h)
 (vbin .eql 0 x20 (kS [116, 101, 120, 116]) h fun x51 h =>
 vif x51 (
 viaddr 6 x1 (kI 0) h fun x53 h =>
 vload true 6 x53 h fun x54 h =>
 vcall O (.v (.c (.func 90 []))) [x54] h 55 fun x55 h =>
 vext x55 0 h fun x56 h =>
 vext x55 1 h fun x57 h =>
 vstore 6 x4 x56 h fun _ h =>
 vcell true 6 x4 h fun c0 => tcomp x57 fun c1 => vfin true q [c0, c1] h)
 (vbin .eql 0 x20 (kS [97, 116]) h fun x59 h =>
 vif x59 (
 vcall O (.v (.c (.func 91 []))) [x1] h 61 fun x61 h =>
 vext x61 0 h fun x62 h =>
 vext x61 1 h fun x63 h =>
 vstore 6 x4 x62 h fun _ h =>
 vcell true 6 x4 h fun c0 => tcomp x63 fun c1 => vfin true q [c0, c1] h)
 (vbin .eql 0 x20 (kS [103, 101, 116]) h fun x65 h =>
 vif x65 (
 vop O (.bslice 1 2 [(.p (.int .i64 0))] [(0, (.k (kI 5))), (1, (.k (kI 3)))] false) h 67 fun x67 h =>
 vcall O (.v (.c (.func 92 []))) [x1, x67] h 68 fun x68 h =>
 vop O (.un .not (.k x68)) h 69 fun x69 h =>
 vif x69 (
 vop O (.build [(.p (.int .i64 0)), (.p (.bool false)), (.p (.int .i64 0)), (.p (.str [])), (.p .nilslice), (.p .nilslice)] []) h 70 fun x70 h =>
 vstore 6 x4 x70 h fun _ h =>
 vcell true 6 x4 h fun c0 => tcomp (kI 17) fun c1 => vfin true q [c0, c1] h)
 (vtouch O (.mv (.k x1)) h 72 fun x72 h t0 =>
 vtouch O (.iaddr 6 (.k x72) (.k (kI 0))) h 73 fun x73 h t1 =>
 vtouch O (.load true 6 (.k x73)) h 74 fun x74 h t2 =>
 vtouch O (.mv (.k x1)) h 75 fun x75 h t3 =>
 vtouch O (.iaddr 6 (.k x75) (.k (kI 1))) h 76 fun x76 h t4 =>
 vtouch O (.faddr 3 (.k x76)) h 77 fun x77 h t5 =>
 vtouch O (.load false 1 (.k x77)) h 78 fun x78 h t6 =>
 vtouch O (.call (.k (.v (.c (.func 93 [])))) [(.k x74), (.k x78)]) h 79 fun x79 h t7 =>
 vtouch O (.mv (.k x79)) h 71 fun x71 h t8 =>
 vtouch O (.extract (.k x71) 0) h 80 fun x80 h t9 =>
 vtouch O (.extract (.k x71) 1) h 81 fun x81 h t10 =>
 vtouch O (.alloc [(.p (.int .i64 0)), (.p (.bool false)), (.p (.int .i64 0)), (.p (.str [])), (.p .nilslice), (.p .nilslice)] false) h 6 fun x6 h t11 =>
 vtouch O (.store 6 (.k x6) (.k x80)) h 1000000 fun _ h t12 =>
 vtouch O (.mv (.k x81)) h 7 fun x7 h t13 =>
 bif apartAll [t0, t1, t2, t3, t4, t5, t6, t7, t8, t9, t10, t11, t12, t13] [(2, 11), (6, 11), (7, 11)] then
 vload true 6 x6 h fun x82 h =>
 vstore 6 x4 x82 h fun _ h =>
 vcell true 6 x4 h fun c0 => tcomp (kI 0) fun c1 => vfin true q [c0, c1] h
 else none))
 (vbin .eql 0 x20 (kS [104, 97, 115]) h fun x84 h =>
 vif x84 (
 viaddr 6 x1 (kI 0) h fun x86 h =>
 vfaddr 0 x86 h fun x87 h =>
 vload false 1 x87 h fun x88 h =>
 vbin .neq 0 x88 (kI 0) h fun x89 h =>
 vcall O (.v (.c (.func 94 []))) [x89] h 90 fun x90 h =>
 vstore 6 x4 x90 h fun _ h =>
 vcell true 6 x4 h fun c0 => tcomp (kI 0) fun c1 => vfin true q [c0, c1] h)
 (vbin .eql 0 x20 (kS [111, 114, 101, 108, 115, 101]) h fun x92 h =>
 vif x92 (
 viaddr 6 x1 (kI 0) h fun x94 h =>
 vfaddr 0 x94 h fun x95 h =>
 vload false 1 x95 h fun x96 h =>
 vbin .neq 0 x96 (kI 0) h fun x97 h =>
 vif x97 (
 viaddr 6 x1 (kI 0) h fun x99 h =>
 vload true 6 x99 h fun x100 h =>
 vcall O (.v (.c (.func 95 []))) [x100] h 101 fun x101 h =>
 vstore 6 x4 x101 h fun _ h =>
 vcell true 6 x4 h fun c0 => tcomp (kI 0) fun c1 => vfin true q [c0, c1] h)
 (viaddr 6 x1 (kI 1) h fun x103 h =>
 vload true 6 x103 h fun x104 h =>
 vcall O (.v (.c (.func 95 []))) [x104] h 105 fun x105 h =>
 vstore 6 x4 x105 h fun _ h =>
 vcell true 6 x4 h fun c0 => tcomp (kI 0) fun c1 => vfin true q [c0, c1] h))
 (vcall O (.v (.c (.func 96 []))) [x0, x1] h 108 fun x108 h =>
 vext x108 0 h fun x109 h =>
 vext x108 1 h fun x110 h =>
 vstore 6 x4 x109 h fun _ h =>
 vcell true 6 x4 h fun c0 => tcomp x110 fun c1 => vfin true q [c0, c1] h))))))))
theorem e38_1 (O : Oracle) (R : Jump) (q : Nat) (x0 x1 x4 x20 x29 : TVal) (h : Heap) : b38_1 O R q x0 x1 x4 x20 x29 h = stepF c38 O R q 1 [x0, x1, x4, x20, x29] h := by kernel_rfl
def d38 : BlkF := fun O R Q => [.s fun a => .s fun b => .z (b38_0 O R Q a b), .s fun a => .s fun b => .s fun c => .s fun d => .s fun e => .z (b38_1 O R Q a b c d e)]
theorem o38 (O : Oracle) (R : Jump) (q : Nat) : HoldsAll c38 O R q 0 (d38 O R q) := ⟨e38_0 O R q, e38_1 O R q, trivial⟩
def c42 : MFunc := mkM (compF Tryd.prog (globs2 tabs opq) (fun _ => false) true Tryd.f42) (.s .n (.s .n (.s (.s .n (.k (.l 1 [0, 1, 2, 7, 8] (.s .n (.s (.k (.s .n (.s (.s .n (.k (.l 2 [0, 1, 2, 7, 8, 9, 10] .n))) (.m 3 [0, 1, 2, 7, 8, 9] (.s .n (.m 4 [0, 1, 2, 7, 8, 9] .n)))))) (.m 5 [0, 1, 2, 7, 8] .n)))))) .n)))
def b42_0 (O : Oracle) (R : Jump) (q : Nat) (x0 x1 x2 : TVal) (h : Heap) : Res1 :=
 R 1 [x0, x1, x2, (.v (.c (.p .nilslice))), (kI 0)] h
theorem e42_0 (O : Oracle) (R : Jump) (q : Nat) (x0 x1 x2 : TVal) (h : Heap) : b42_0 O R q x0 x1 x2 h = stepF c42 O R q 0 [x0, x1, x2] h := by kernel_rfl
def b42_1 (O : Oracle) (R : Jump) (q : Nat) (x0 x1 x2 x7 x8 : TVal) (h : Heap) : Res1 :=
 vlen O 2 x0 h 13 fun x13 h =>
 vbin .lss 0 x8 x13 h fun x14 h =>
 vguard x14 true (fun kk => kk x8 h) h fun x16 h =>
 vguard x14 true (fun kk => vbin .lss 0 x16 (kI 5) h kk) h fun x17 h =>
 vop O (.pick (.k x14) (.k x17) (.k (kB false))) h 18 fun x18 h =>
 vif x18 (
 vop O (.bslice 1 3 [(.p (.str []))] [(0, (.k (kS [102, 97]))), (1, (.k (kS [102, 98]))), (2, (.k (kS [102, 99])))] false) h 21 fun x21 h =>
 viaddr 1 x0 x8 h fun x24 h =>
 vload false 1 x24 h fun x25 h =>
 vcall O (.v (.c (.func 37 []))) [x25, (kI 3)] h 26 fun x26 h =>
 viaddr 1 x21 x26 h fun x27 h =>
 vload false 1 x27 h fun x28 h =>
 vop O (.build [(.p (.str [])), (.p .nilslice), (.p (.int .i64 0))] [(0, 1, (.k x28)), (2, 1, (.k (kI (-1))))]) h 29 fun x29 h =>
 vop O (.alloc [(.p (.str [])), (.p .nilslice), (.p (.int .i64 0))] false) h 9 fun x9 h =>
 vstore 3 x9 x29 h fun _ h =>
 R 2 [x0, x1, x2, x7, x8, x9, (kI 0)] h)
 (tcomp x7 fun c0 => vfin true q [c0] h)
theorem e42_1 (O : Oracle) (R : Jump) (q : Nat) (x0 x1 x2 x7 x8 : TVal) (h : Heap) : b42_1 O R q x0 x1 x2 x7 x8 h = stepF c42 O R q 1 [x0, x1, x2, x7, x8] h := by kernel_rfl
def b42_2 (O : Oracle) (R : Jump) (q : Nat) (x0 x1 x2 x7 x8 x9 x10 : TVal) (h : Heap) : Res1 :=
 viaddr 1 x0 x8 h fun x33 h =>
 vload false 1 x33 h fun x34 h =>
 vbin .quo 0 x34 (kI 3) h fun x35 h =>
 vcall O (.v (.c (.func 37 []))) [x35, (kI 4)] h 36 fun x36 h =>
 vbin .lss 0 x10 x36 h fun x37 h =>
 vguard x37 true (fun kk => kk x1 h) h fun x39 h =>
 vguard x37 true (fun kk => vlen O 2 x39 h 40 kk) h fun x40 h =>
 vguard x37 true (fun kk => vbin .gtr 0 x40 (kI 0) h kk) h fun x41 h =>
 vop O (.pick (.k x37) (.k x41) (.k (kB false))) h 42 fun x42 h =>
 vif x42 (
 vtouch O (.faddr 1 (.k x9)) h 45 fun x45 h t0 =>
 vtouch O (.load false 1 (.k x45)) h 46 fun x46 h t1 =>
 vtouch O (.mv (.k x1)) h 47 fun x47 h t2 =>
 vtouch O (.mv (.k x8)) h 48 fun x48 h t3 =>
 vtouch O (.mv (.k x10)) h 49 fun x49 h t4 =>
 vtouch O (.bin .add 0 (.k x48) (.k x49)) h 50 fun x50 h t5 =>
 vtouch O (.mv (.k x1)) h 51 fun x51 h t6 =>
 vtouch O (.len 2 (.k x51)) h 52 fun x52 h t7 =>
 vtouch O (.bin .rem 0 (.k x50) (.k x52)) h 53 fun x53 h t8 =>
 vtouch O (.iaddr 5 (.k x47) (.k x53)) h 54 fun x54 h t9 =>
 vtouch O (.load true 5 (.k x54)) h 55 fun x55 h t10 =>
 vtouch O (.call (.k (.v (.c (.func 31 [])))) [(.k x55), (.k (kI 3))]) h 56 fun x56 h t11 =>
 vtouch O (.bslice 6 1 [(.p (.int .i64 0)), (.p (.bool false)), (.p (.int .i64 0)), (.p (.str [])), (.p .nilslice), (.p .nilslice)] [(0, (.k x56))] false) h 57 fun x57 h t12 =>
 vtouch O (.append 6 88 false (.k x46) (.k x57)) h 58 fun x58 h t13 =>
 vtouch O (.faddr 1 (.k x9)) h 59 fun x59 h t14 =>
 vtouch O (.store 1 (.k x59) (.k x58)) h 1000000 fun _ h t15 =>
 bif apartAll [t0, t1, t2, t3, t4, t5, t6, t7, t8, t9, t10, t11, t12, t13, t14, t15] [(1, 11), (1, 12)] then
 vbin .add 0 x10 (kI 1) h fun x44 h =>
 R 2 [x0, x1, x2, x7, x8, x9, x44] h
 else none)
 (R 3 [x0, x1, x2, x7, x8, x9] h)
theorem e42_2 (O : Oracle) (R : Jump) (q : Nat) (x0 x1 x2 x7 x8 x9 x10 : TVal) (h : Heap) : b42_2 O R q x0 x1 x2 x7 x8 x9 x10 h = stepF c42 O R q 2 [x0, x1, x2, x7, x8, x9, x10] h := by kernel_rfl
def b42_3 (O : Oracle) (R : Jump) (q : Nat) (x0 x1 x2 x7 x8 x9 : TVal) (h : Heap) : Res1 :=
 vlen O 2 x2 h 62 fun x62 h =>
 vbin .lss 0 x8 x62 h fun x63 h =>
 vguard x63 true (fun kk => kk x2 h) h fun x65 h =>
 vguard x63 true (fun kk => kk x8 h) h fun x66 h =>
 vguard x63 true (fun kk => viaddr 1 x65 x66 h kk) h fun x67 h =>
 vguard x63 true (fun kk => vload false 1 x67 h kk) h fun x68 h =>
 vguard x63 true (fun kk => vbin .rem 0 x68 (kI 2) h kk) h fun x69 h =>
 vguard x63 true (fun kk => vbin .eql 0 x69 (kI 1) h kk) h fun x70 h =>
 vop O (.pick (.k x63) (.k x70) (.k (kB false))) h 71 fun x71 h =>
 vif x71 (
 viaddr 1 x2 x8 h fun x74 h =>
 vload false 1 x74 h fun x75 h =>
 vbin .quo 0 x75 (kI 2) h fun x76 h =>
 vcall O (.v (.c (.func 37 []))) [x76, (kI 5)] h 77 fun x77 h =>
 vfaddr 2 x9 h fun x78 h =>
 vstore 1 x78 x77 h fun _ h =>
 R 4 [x0, x1, x2, x7, x8, x9] h)
 (R 4 [x0, x1, x2, x7, x8, x9] h)
theorem e42_3 (O : Oracle) (R : Jump) (q : Nat) (x0 x1 x2 x7 x8 x9 : TVal) (h : Heap) : b42_3 O R q x0 x1 x2 x7 x8 x9 h = stepF c42 O R q 3 [x0, x1, x2, x7, x8, x9] h := by kernel_rfl
def b42_4 (O : Oracle) (R : Jump) (q : Nat) (x0 x1 x2 x7 x8 x9 : TVal) (h : Heap) : Res1 :=
 vload true 3 x9 h fun x80 h =>
 vop O (.bslice 3 1 [(.p (.str [])), (.p .nilslice), (.p (.int .i64 0))] [(0, (.k x80))] false) h 81 fun x81 h =>
 vop O (.append 3 48 false (.k x7) (.k x81)) h 82 fun x82 h =>
 R 5 [x0, x1, x2, x82, x8] h
theorem e42_4 (O : Oracle) (R : Jump) (q : Nat) (x0 x1 x2 x7 x8 x9 : TVal) (h : Heap) : b42_4 O R q x0 x1 x2 x7 x8 x9 h = stepF c42 O R q 4 [x0, x1, x2, x7, x8, x9] h := by kernel_rfl
def b42_5 (O : Oracle) (R : Jump) (q : Nat) (x0 x1 x2 x7 x8 : TVal) (h : Heap) : Res1 :=
 vbin .add 0 x8 (kI 1) h fun x20 h =>
 R 1 [x0, x1, x2, x7, x20] h
theorem e42_5 (O : Oracle) (R : Jump) (q : Nat) (x0 x1 x2 x7 x8 : TVal) (h : Heap) : b42_5 O R q x0 x1 x2 x7 x8 h = stepF c42 O R q 5 [x0, x1, x2, x7, x8] h := by kernel_rfl
def d42 : BlkF := fun O R Q => [.s fun a => .s fun b => .s fun c => .z (b42_0 O R Q a b c), .s fun a => .s fun b => .s fun c => .s fun d => .s fun e => .z (b42_1 O R Q a b c d e), .s fun a => .s fun b => .s fun c => .s fun d => .s fun e => .s fun f => .s fun g => .z (b42_2 O R Q a b c d e f g), .s fun a => .s fun b => .s fun c => .s fun d => .s fun e => .s fun f => .z (b42_3 O R Q a b c d e f), .s fun a => .s fun b => .s fun c => .s fun d => .s fun e => .s fun f => .z (b42_4 O R Q a b c d e f), .s fun a => .s fun b => .s fun c => .s fun d => .s fun e => .z (b42_5 O R Q a b c d e)]
theorem o42 (O : Oracle) (R : Jump) (q : Nat) : HoldsAll c42 O R q 0 (d42 O R q) := ⟨e42_0 O R q, e42_1 O R q, e42_2 O R q, e42_3 O R q, e42_4 O R q, e42_5 O R q, trivial⟩
def c43 : MFunc := mkM (compF Tryd.prog (globs2 tabs opq) (fun _ => false) false Tryd.f43) (.s .n (.s .n (.s (.s .n (.k (.l 1 [3, 14, 15, 16] (.s .n (.s .n (.s (.k (.s .n (.s .n (.s .n (.s (.s .n (.k (.l 2 [3, 5, 14, 15, 16, 36, 37, 38] .n))) (.m 3 [3, 5, 14, 15, 16] .n)))))) (.m 4 [3, 14, 15, 16] .n))))))) .n)))
def b43_0 (O : Oracle) (R : Jump) (q : Nat) (x0 : TVal) (h : Heap) : Res1 :=
 vop O .mkmap h 10 fun x10 h =>
 vop O .mkmap h 11 fun x11 h =>
 vop O (.build [(.p .nilmap), (.p .nilmap)] [(0, 1, (.k x10)), (1, 1, (.k x11))]) h 12 fun x12 h =>
 vop O (.box (.k x12) false) h 13 fun x13 h =>
 vlen O 2 x0 h 15 fun x15 h =>
 R 1 [x13, x0, x15, (kI 0)] h
theorem e43_0 (O : Oracle) (R : Jump) (q : Nat) (x0 : TVal) (h : Heap) : b43_0 O R q x0 h = stepF c43 O R q 0 [x0] h := by kernel_rfl
def b43_1 (O : Oracle) (R : Jump) (q : Nat) (x3 x14 x15 x16 : TVal) (h : Heap) : Res1 :=
 vbin .lss 0 x16 x15 h fun x17 h =>
 vif x17 (
 viaddr 3 x14 x16 h fun x18 h =>
 vload true 3 x18 h fun x19 h =>
 vop O (.alloc [(.p (.str [])), (.p .nilslice), (.p (.int .i64 0))] false) h 5 fun x5 h =>
 vstore 3 x5 x19 h fun _ h =>
 vtouch O (.mv (.k x3)) h 21 fun x21 h t0 =>
 vtouch O (.nilck (.k x21)) h 22 fun x22 h t1 =>
 vtouch O (.faddr 0 (.k x22)) h 23 fun x23 h t2 =>
 vtouch O (.load false 1 (.k x23)) h 24 fun x24 h t3 =>
 vtouch O (.faddr 0 (.k x5)) h 25 fun x25 h t4 =>
 vtouch O (.load false 1 (.k x25)) h 26 fun x26 h t5 =>
 vtouch O (.lookup 2 (.agg [(.p (.str [])), (.p .nilslice), (.p (.int .i64 0))]) (.k x24) (.k x26) true) h 27 fun x27 h t6 =>
 vtouch O (.mv (.k x27)) h 20 fun x20 h t7 =>
 vtouch O (.extract (.k x20) 0) h 28 fun x28 h t8 =>
 vtouch O (.extract (.k x20) 1) h 29 fun x29 h t9 =>
 vtouch O (.alloc [(.p (.str [])), (.p .nilslice), (.p (.int .i64 0))] false) h 6 fun x6 h t10 =>
 vtouch O (.store 3 (.k x6) (.k x28)) h 1000000 fun _ h t11 =>
 vtouch O (.mv (.k x29)) h 7 fun x7 h t12 =>
 bif apartAll [t0, t1, t2, t3, t4, t5, t6, t7, t8, t9, t10, t11, t12] [(3, 10), (5, 10), (6, 10)] then
 vif x7 (
 R 4 [x3, x14, x15, x16] h)
 (vfaddr 1 x5 h fun x31 h =>
 vload false 1 x31 h fun x32 h =>
 vcall O (.v (.c (.func 105 []))) [x32] h 33 fun x33 h =>
 vfaddr 1 x5 h fun x34 h =>
 vstore 1 x34 x33 h fun _ h =>
 vfaddr 1 x5 h fun x35 h =>
 vload false 1 x35 h fun x36 h =>
 vlen O 2 x36 h 37 fun x37 h =>
 R 2 [x3, x5, x14, x15, x16, x36, x37, (kI 0)] h)
 else none)
 (tcomp x3 fun c0 => vfin false q [c0] h)
theorem e43_1 (O : Oracle) (R : Jump) (q : Nat) (x3 x14 x15 x16 : TVal) (h : Heap) : b43_1 O R q x3 x14 x15 x16 h = stepF c43 O R q 1 [x3, x14, x15, x16] h := by kernel_rfl
def b43_2 (O : Oracle) (R : Jump) (q : Nat) (x3 x5 x14 x15 x16 x36 x37 x38 : TVal) (h : Heap) : Res1 :=
 vbin .lss 0 x38 x37 h fun x39 h =>
 vif x39 (
 viaddr 6 x36 x38 h fun x41 h =>
 vload true 6 x41 h fun x42 h =>
 vop O (.alloc [(.p (.int .i64 0)), (.p (.bool false)), (.p (.int .i64 0)), (.p (.str [])), (.p .nilslice), (.p .nilslice)] false) h 9 fun x9 h =>
 vstore 6 x9 x42 h fun _ h =>
 vtouch O (.faddr 1 (.k x5)) h 43 fun x43 h t0 =>
 vtouch O (.load false 1 (.k x43)) h 44 fun x44 h t1 =>
 vtouch O (.mv (.k x38)) h 45 fun x45 h t2 =>
 vtouch O (.load true 6 (.k x9)) h 46 fun x46 h t3 =>
 vtouch O (.call (.k (.v (.c (.func 95 [])))) [(.k x46)]) h 47 fun x47 h t4 =>
 vtouch O (.iaddr 6 (.k x44) (.k x45)) h 48 fun x48 h t5 =>
 vtouch O (.store 6 (.k x48) (.k x47)) h 1000000 fun _ h t6 =>
 bif apartAll [t0, t1, t2, t3, t4, t5, t6] [(1, 4)] then
 vbin .add 0 x38 (kI 1) h fun x49 h =>
 R 2 [x3, x5, x14, x15, x16, x36, x37, x49] h
 else none)
 (R 3 [x3, x5, x14, x15, x16] h)
theorem e43_2 (O : Oracle) (R : Jump) (q : Nat) (x3 x5 x14 x15 x16 x36 x37 x38 : TVal) (h : Heap) : b43_2 O R q x3 x5 x14 x15 x16 x36 x37 x38 h = stepF c43 O R q 2 [x3, x5, x14, x15, x16, x36, x37, x38] h := by kernel_rfl
def b43_3 (O : Oracle) (R : Jump) (q : Nat) (x3 x5 x14 x15 x16 : TVal) (h : Heap) : Res1 :=
 vop O (.nilck (.k x3)) h 51 fun x51 h =>
 vfaddr 0 x51 h fun x52 h =>
 vload false 1 x52 h fun x53 h =>
 vfaddr 0 x5 h fun x54 h =>
 vload false 1 x54 h fun x55 h =>
 vload true 3 x5 h fun x56 h =>
 vop O (.mapup 2 (.k x53) (.k x55) (.k x56)) h 1000000 fun _ h =>
 R 4 [x3, x14, x15, x16] h
theorem e43_3 (O : Oracle) (R : Jump) (q : Nat) (x3 x5 x14 x15 x16 : TVal) (h : Heap) : b43_3 O R q x3 x5 x14 x15 x16 h = stepF c43 O R q 3 [x3, x5, x14, x15, x16] h := by kernel_rfl
def b43_4 (O : Oracle) (R : Jump) (q : Nat) (x3 x14 x15 x16 : TVal) (h : Heap) : Res1 :=
 vbin .add 0 x16 (kI 1) h fun x57 h =>
 R 1 [x3, x14, x15, x57] h
theorem e43_4 (O : Oracle) (R : Jump) (q : Nat) (x3 x14 x15 x16 : TVal) (h : Heap) : b43_4 O R q x3 x14 x15 x16 h = stepF c43 O R q 4 [x3, x14, x15, x16] h := by kernel_rfl
def d43 : BlkF := fun O R Q => [.s fun a => .z (b43_0 O R Q a), .s fun a => .s fun b => .s fun c => .s fun d => .z (b43_1 O R Q a b c d), .s fun a => .s fun b => .s fun c => .s fun d => .s fun e => .s fun f => .s fun g => .s fun h => .z (b43_2 O R Q a b c d e f g h), .s fun a => .s fun b => .s fun c => .s fun d => .s fun e => .z (b43_3 O R Q a b c d e), .s fun a => .s fun b => .s fun c => .s fun d => .z (b43_4 O R Q a b c d)]
theorem o43 (O : Oracle) (R : Jump) (q : Nat) : HoldsAll c43 O R q 0 (d43 O R q) := ⟨e43_0 O R q, e43_1 O R q, e43_2 O R q, e43_3 O R q, e43_4 O R q, trivial⟩
def c44 : MFunc := mkM (compF Tryd.prog (globs2 tabs opq) (fun n => Nat.beq n 1 || Nat.beq n 3) false Tryd.f44) (.s .n (.s .n (.s (.s .n (.k (.l 1 [0, 3, 4] .n))) .n)))
def b44_0 (O : Oracle) (R : Jump) (q : Nat) (x0 : TVal) (h : Heap) : Res1 :=
 vop O (.build [(.p .nilslice), (.p .nilslice)] []) h 6 fun x6 h =>
 vop O (.box (.k x6) false) h 7 fun x7 h =>
 R 1 [x0, x7, (kI 0)] h
theorem e44_0 (O : Oracle) (R : Jump) (q : Nat) (x0 : TVal) (h : Heap) : b44_0 O R q x0 h = stepF c44 O R q 0 [x0] h := by kernel_rfl
def b44_1 (O : Oracle) (R : Jump) (q : Nat) (x0 x3 x4 : TVal) (h : Heap) : Res1 :=
 vlen O 2 x0 h 10 fun x10 h =>
 vbin .lss 0 x4 x10 h fun x11 h =>
 vif x11 (
 viaddr 3 x0 x4 h fun x16 h =>
 vload true 3 x16 h fun x17 h =>
 vop O (.alloc [(.p (.str [])), (.p .nilslice), (.p (.int .i64 0))] false) h 5 fun x5 h =>
 vstore 3 x5 x17 h fun _ h =>
 vop O (.bslice 6 0 [(.p (.int .i64 0)), (.p (.bool false)), (.p (.int .i64 0)), (.p (.str [])), (.p .nilslice), (.p .nilslice)] [] false) h 18 fun x18 h =>
 vfaddr 1 x5 h fun x19 h =>
 vload false 1 x19 h fun x20 h =>
 vop O (.append 6 88 false (.k x18) (.k x20)) h 21 fun x21 h =>
 vfaddr 1 x5 h fun x22 h =>
 vstore 1 x22 x21 h fun _ h =>
 vtouch O (.mv (.k x3)) h 23 fun x23 h t0 =>
 vtouch O (.mv (.k x3)) h 24 fun x24 h t1 =>
 vtouch O (.nilck (.k x24)) h 25 fun x25 h t2 =>
 vtouch O (.faddr 0 (.k x25)) h 26 fun x26 h t3 =>
 vtouch O (.load false 1 (.k x26)) h 27 fun x27 h t4 =>
 vtouch O (.load true 3 (.k x5)) h 28 fun x28 h t5 =>
 vtouch O (.bslice 3 1 [(.p (.str [])), (.p .nilslice), (.p (.int .i64 0))] [(0, (.k x28))] true) h 29 fun x29 h t6 =>
 vtouch O (.append 3 48 true (.k x27) (.k x29)) h 30 fun x30 h t7 =>
 vtouch O (.nilck (.k x23)) h 31 fun x31 h t8 =>
 vtouch O (.faddr 0 (.k x31)) h 32 fun x32 h t9 =>
 vtouch O (.store 1 (.k x32) (.k x30)) h 1000000 fun _ h t10 =>
 bif apartAll [t0, t1, t2, t3, t4, t5, t6, t7, t8, t9, t10] [(4, 6)] then
 vop O (.nilck (.k x3)) h 35 fun x35 h =>
 vfaddr 1 x35 h fun x36 h =>
 vload false 1 x36 h fun x37 h =>
 vop O (.bslice 1 1 [(.p (.int .i64 0))] [(0, (.k (kI 0)))] true) h 38 fun x38 h =>
 vop O (.append 1 8 true (.k x37) (.k x38)) h 39 fun x39 h =>
 vop O (.nilck (.k x3)) h 40 fun x40 h =>
 vfaddr 1 x40 h fun x41 h =>
 vstore 1 x41 x39 h fun _ h =>
 vbin .add 0 x4 (kI 1) h fun x13 h =>
 R 1 [x0, x3, x13] h
 else none)
 (tcomp x3 fun c0 => vfin false q [c0] h)
theorem e44_1 (O : Oracle) (R : Jump) (q : Nat) (x0 x3 x4 : TVal) (h : Heap) : b44_1 O R q x0 x3 x4 h = stepF c44 O R q 1 [x0, x3, x4] h := by kernel_rfl
def d44 : BlkF := fun O R Q => [.s fun a => .z (b44_0 O R Q a), .s fun a => .s fun b => .s fun c => .z (b44_1 O R Q a b c)]
theorem o44 (O : Oracle) (R : Jump) (q : Nat) : HoldsAll c44 O R q 0 (d44 O R q) := ⟨e44_0 O R q, e44_1 O R q, trivial⟩
def c45 : MFunc := mkM (compF Tryd.prog (globs2 tabs opq) (fun _ => false) true Tryd.f45) .n
def b45_0 (O : Oracle) (R : Jump) (q : Nat) (x0 x1 : TVal) (h : Heap) : Res1 :=
 vop O (.alloc [(.p (.int .i64 0)), (.p (.bool false)), (.p (.int .i64 0)), (.p (.str [])), (.p .nilslice), (.p .nilslice)] false) h 4 fun x4 h =>
 vop O (.nilck (.k x0)) h 11 fun x11 h =>
 vfaddr 0 x11 h fun x12 h =>
 vload false 1 x12 h fun x13 h =>
 vop O (.lookup 2 (.agg [(.p (.str [])), (.p .nilslice), (.p (.int .i64 0))]) (.k x13) (.k x1) true) h 15 fun x15 h =>
 vext x15 0 h fun x16 h =>
 vext x15 1 h fun x17 h =>
 vop O (.alloc [(.p (.str [])), (.p .nilslice), (.p (.int .i64 0))] false) h 6 fun x6 h =>
 vstore 3 x6 x16 h fun _ h =>
 vop O (.un .not (.k x17)) h 19 fun x19 h =>
 vif x19 (
 vop O (.build [(.p (.int .i64 0)), (.p (.bool false)), (.p (.int .i64 0)), (.p (.str [])), (.p .nilslice), (.p .nilslice)] []) h 20 fun x20 h =>
 vstore 6 x4 x20 h fun _ h =>
 vcell true 6 x4 h fun c0 => tcomp (kI 15) fun c1 => vfin true q [c0, c1] h)
 (vop O (.nilck (.k x0)) h 22 fun x22 h =>
 vfaddr 1 x22 h fun x23 h =>
 vload false 1 x23 h fun x24 h =>
 vop O (.lookup 2 (.c (.p (.int .i64 0))) (.k x24) (.k x1) false) h 26 fun x26 h =>
 vop O (.nilck (.k x0)) h 28 fun x28 h =>
 vfaddr 1 x28 h fun x29 h =>
 vload false 1 x29 h fun x30 h =>
 vop O (.lookup 2 (.c (.p (.int .i64 0))) (.k x30) (.k x1) false) h 32 fun x32 h =>
 vbin .add 0 x32 (kI 1) h fun x33 h =>
 vop O (.mapup 2 (.k x30) (.k x1) (.k x33)) h 1000000 fun _ h =>
 vfaddr 2 x6 h fun x35 h =>
 vload false 1 x35 h fun x36 h =>
 vbin .eql 0 x26 x36 h fun x37 h =>
 vguard x37 false (fun kk => vfaddr 1 x6 h kk) h fun x39 h =>
 vguard x37 false (fun kk => vload false 1 x39 h kk) h fun x40 h =>
 vguard x37 false (fun kk => vlen O 2 x40 h 41 kk) h fun x41 h =>
 vguard x37 false (fun kk => vbin .eql 0 x41 (kI 0) h kk) h fun x42 h =>
 vop O (.pick (.k x37) (.k (kB true)) (.k x42)) h 43 fun x43 h =>
 vif x43 (
 vop O (.build [(.p (.int .i64 0)), (.p (.bool false)), (.p (.int .i64 0)), (.p (.str [])), (.p .nilslice), (.p .nilslice)] []) h 44 fun x44 h =>
 vstore 6 x4 x44 h fun _ h =>
 vcell true 6 x4 h fun c0 => tcomp (kI 33) fun c1 => vfin true q [c0, c1] h)
 (vfaddr 1 x6 h fun x45 h =>
 vload false 1 x45 h fun x46 h =>
 vfaddr 1 x6 h fun x48 h =>
 vload false 1 x48 h fun x49 h =>
 vlen O 2 x49 h 50 fun x50 h =>
 vbin .rem 0 x26 x50 h fun x51 h =>
 viaddr 6 x46 x51 h fun x52 h =>
 vload true 6 x52 h fun x53 h =>
 vcall O (.v (.c (.func 95 []))) [x53] h 54 fun x54 h =>
 vstore 6 x4 x54 h fun _ h =>
 vcell true 6 x4 h fun c0 => tcomp (kI 0) fun c1 => vfin true q [c0, c1] h))
theorem e45_0 (O : Oracle) (R : Jump) (q : Nat) (x0 x1 : TVal) (h : Heap) : b45_0 O R q x0 x1 h = stepF c45 O R q 0 [x0, x1] h := by kernel_rfl
def d45 : BlkF := fun O R Q => [.s fun a => .s fun b => .z (b45_0 O R Q a b)]
theorem o45 (O : Oracle) (R : Jump) (q : Nat) : HoldsAll c45 O R q 0 (d45 O R q) := ⟨e45_0 O R q, trivial⟩
def c46 : MFunc := mkM (compF Tryd.prog (globs2 tabs opq) (fun _ => false) true Tryd.f46) .n
def b46_0 (O : Oracle) (R : Jump) (q : Nat) (x0 x1 : TVal) (h : Heap) : Res1 :=
 vop O (.alloc [(.p (.int .i64 0)), (.p (.bool false)), (.p (.int .i64 0)), (.p (.str [])), (.p .nilslice), (.p .nilslice)] false) h 4 fun x4 h =>
 vcall O (.v (.c (.func 106 []))) [x0, x1] h 11 fun x11 h =>
 vbin .lss 0 x11 (kI 0) h fun x13 h =>
 vif x13 (
 vcall O (.v (.c (.func 97 []))) [(kI 15)] h 14 fun x14 h =>
 vext x14 0 h fun x15 h =>
 vext x14 1 h fun x16 h =>
 vstore 6 x4 x15 h fun _ h =>
 vcell true 6 x4 h fun c0 => tcomp x16 fun c1 => vfin true q [c0, c1] h)
 (vop O (.nilck (.k x0)) h 18 fun x18 h =>
 vfaddr 1 x18 h fun x19 h =>
 vload false 1 x19 h fun x20 h =>
 viaddr 1 x20 x11 h fun x22 h =>
 vload false 1 x22 h fun x23 h =>
 vop O (.nilck (.k x0)) h 25 fun x25 h =>
 vfaddr 1 x25 h fun x26 h =>
 vload false 1 x26 h fun x27 h =>
 viaddr 1 x27 x11 h fun x29 h =>
 vload false 1 x29 h fun x30 h =>
 vbin .add 0 x30 (kI 1) h fun x31 h =>
 viaddr 1 x27 x11 h fun x32 h =>
 vstore 1 x32 x31 h fun _ h =>
 vop O (.nilck (.k x0)) h 34 fun x34 h =>
 vfaddr 0 x34 h fun x35 h =>
 vload false 1 x35 h fun x36 h =>
 viaddr 3 x36 x11 h fun x38 h =>
 vload true 3 x38 h fun x39 h =>
 vop O (.alloc [(.p (.str [])), (.p .nilslice), (.p (.int .i64 0))] false) h 8 fun x8 h =>
 vstore 3 x8 x39 h fun _ h =>
 vfaddr 2 x8 h fun x41 h =>
 vload false 1 x41 h fun x42 h =>
 vbin .eql 0 x23 x42 h fun x43 h =>
 vguard x43 false (fun kk => vfaddr 1 x8 h kk) h fun x45 h =>
 vguard x43 false (fun kk => vload false 1 x45 h kk) h fun x46 h =>
 vguard x43 false (fun kk => vlen O 2 x46 h 47 kk) h fun x47 h =>
 vguard x43 false (fun kk => vbin .eql 0 x47 (kI 0) h kk) h fun x48 h =>
 vop O (.pick (.k x43) (.k (kB true)) (.k x48)) h 49 fun x49 h =>
 vif x49 (
 vcall O (.v (.c (.func 97 []))) [(kI 33)] h 50 fun x50 h =>
 vext x50 0 h fun x51 h =>
 vext x50 1 h fun x52 h =>
 vstore 6 x4 x51 h fun _ h =>
 vcell true 6 x4 h fun c0 => tcomp x52 fun c1 => vfin true q [c0, c1] h)
 (vfaddr 1 x8 h fun x53 h =>
 vload false 1 x53 h fun x54 h =>
 vfaddr 1 x8 h fun x56 h =>
 vload false 1 x56 h fun x57 h =>
 vlen O 2 x57 h 58 fun x58 h =>
 vbin .rem 0 x23 x58 h fun x59 h =>
 viaddr 6 x54 x59 h fun x60 h =>
 vload true 6 x60 h fun x61 h =>
 vstore 6 x4 x61 h fun _ h =>
 vcell true 6 x4 h fun c0 => tcomp (kI 0) fun c1 => vfin true q [c0, c1] h))
theorem e46_0 (O : Oracle) (R : Jump) (q : Nat) (x0 x1 : TVal) (h : Heap) : b46_0 O R q x0 x1 h = stepF c46 O R q 0 [x0, x1] h := by kernel_rfl
def d46 : BlkF := fun O R Q => [.s fun a => .s fun b => .z (b46_0 O R Q a b)]
theorem o46 (O : Oracle) (R : Jump) (q : Nat) : HoldsAll c46 O R q 0 (d46 O R q) := ⟨e46_0 O R q, trivial⟩
def c47 : MFunc := mkM (compF Tryd.prog (globs2 tabs opq) (fun _ => false) true Tryd.f47) .n
def b47_0 (O : Oracle) (R : Jump) (q : Nat) (x0 x1 : TVal) (h : Heap) : Res1 :=
 vop O (.nilck (.k x0)) h 6 fun x6 h =>
 vfaddr 1 x6 h fun x7 h =>
 vload false 1 x7 h fun x8 h =>
 vop O (.lookup 2 (.c (.p (.int .i64 0))) (.k x8) (.k x1) false) h 10 fun x10 h =>
 tcomp x10 fun c0 => vfin true q [c0] h
theorem e47_0 (O : Oracle) (R : Jump) (q : Nat) (x0 x1 : TVal) (h : Heap) : b47_0 O R q x0 x1 h = stepF c47 O R q 0 [x0, x1] h := by kernel_rfl
def d47 : BlkF := fun O R Q => [.s fun a => .s fun b => .z (b47_0 O R Q a b)]
theorem o47 (O : Oracle) (R : Jump) (q : Nat) : HoldsAll c47 O R q 0 (d47 O R q) := ⟨e47_0 O R q, trivial⟩
def c48 : MFunc := mkM (compF Tryd.prog (globs2 tabs opq) (fun _ => false) true Tryd.f48) .n
def b48_0 (O : Oracle) (R : Jump) (q : Nat) (x0 x1 : TVal) (h : Heap) : Res1 :=
 vcall O (.v (.c (.func 106 []))) [x0, x1] h 8 fun x8 h =>
 vbin .lss 0 x8 (kI 0) h fun x10 h =>
 vif x10 (
 tcomp (kI 0) fun c0 => vfin true q [c0] h)
 (vop O (.nilck (.k x0)) h 12 fun x12 h =>
 vfaddr 1 x12 h fun x13 h =>
 vload false 1 x13 h fun x14 h =>
 viaddr 1 x14 x8 h fun x16 h =>
 vload false 1 x16 h fun x17 h =>
 tcomp x17 fun c0 => vfin true q [c0] h)
theorem e48_0 (O : Oracle) (R : Jump) (q : Nat) (x0 x1 : TVal) (h : Heap) : b48_0 O R q x0 x1 h = stepF c48 O R q 0 [x0, x1] h := by kernel_rfl
def d48 : BlkF := fun O R Q => [.s fun a => .s fun b => .z (b48_0 O R Q a b)]
theorem o48 (O : Oracle) (R : Jump) (q : Nat) : HoldsAll c48 O R q 0 (d48 O R q) := ⟨e48_0 O R q, trivial⟩
def c79 : MFunc := mkM (compF Tryd.prog (globs2 tabs opq) (fun _ => false) true Tryd.f79) .n
def b79_0 (O : Oracle) (R : Jump) (q : Nat) (x0 x1 : TVal) (h : Heap) : Res1 :=
 vbin .rem 0 x0 x1 h fun x8 h =>
 vbin .lss 0 x8 (kI 0) h fun x10 h =>
 vif x10 (
 vbin .add 0 x8 x1 h fun x13 h =>
 tcomp x13 fun c0 => vfin true q [c0] h)
 (tcomp x8 fun c0 => vfin true q [c0] h)
theorem e79_0 (O : Oracle) (R : Jump) (q : Nat) (x0 x1 : TVal) (h : Heap) : b79_0 O R q x0 x1 h = stepF c79 O R q 0 [x0, x1] h := by kernel_rfl
def d79 : BlkF := fun O R Q => [.s fun a => .s fun b => .z (b79_0 O R Q a b)]
theorem o79 (O : Oracle) (R : Jump) (q : Nat) : HoldsAll c79 O R q 0 (d79 O R q) := ⟨e79_0 O R q, trivial⟩
def c80 : MFunc := mkM (compF Tryd.prog (globs2 tabs opq) (fun _ => false) true Tryd.f80) (.s .n (.s .n (.s (.s .n (.k (.l 1 [0, 3, 4] (.s .n (.s .n (.m 2 [0, 3, 4] .n)))))) .n)))
def b80_0 (O : Oracle) (R : Jump) (q : Nat) (x0 : TVal) (h : Heap) : Res1 :=
 R 1 [x0, (kS []), (kI 0)] h
theorem e80_0 (O : Oracle) (R : Jump) (q : Nat) (x0 : TVal) (h : Heap) : b80_0 O R q x0 h = stepF c80 O R q 0 [x0] h := by kernel_rfl
def b80_1 (O : Oracle) (R : Jump) (q : Nat) (x0 x3 x4 : TVal) (h : Heap) : Res1 :=
 vlen O 2 x0 h 7 fun x7 h =>
 vbin .lss 0 x4 x7 h fun x8 h =>
 vif x8 (
 viaddr 1 x0 x4 h fun x13 h =>
 vload false 1 x13 h fun x14 h =>
 vbin .geq 0 x14 (.v (.c (.p (.int .u8 32)))) h fun x15 h =>
 vguard x15 false (fun kk => kk x0 h) h fun x17 h =>
 vguard x15 false (fun kk => kk x4 h) h fun x18 h =>
 vguard x15 false (fun kk => viaddr 1 x17 x18 h kk) h fun x19 h =>
 vguard x15 false (fun kk => vload false 1 x19 h kk) h fun x20 h =>
 vguard x15 false (fun kk => vbin .eql 0 x20 (.v (.c (.p (.int .u8 10)))) h kk) h fun x21 h =>
 vop O (.pick (.k x15) (.k (kB true)) (.k x21)) h 22 fun x22 h =>
 vguard x22 false (fun kk => kk x0 h) h fun x24 h =>
 vguard x22 false (fun kk => kk x4 h) h fun x25 h =>
 vguard x22 false (fun kk => viaddr 1 x24 x25 h kk) h fun x26 h =>
 vguard x22 false (fun kk => vload false 1 x26 h kk) h fun x27 h =>
 vguard x22 false (fun kk => vbin .eql 0 x27 (.v (.c (.p (.int .u8 9)))) h kk) h fun x28 h =>
 vop O (.pick (.k x22) (.k (kB true)) (.k x28)) h 29 fun x29 h =>
 vif x29 (
 vbin .add 0 x4 (kI 1) h fun x34 h =>
 vop O (.slice 1 false (.k x0) (some (.k x4)) (some (.k x34)) none) h 35 fun x35 h =>
 vop O (.toStr (.k x35)) h 36 fun x36 h =>
 vbin .add 0 x3 x36 h fun x37 h =>
 R 2 [x0, x37, x4] h)
 (R 2 [x0, x3, x4] h))
 (tcomp x3 fun c0 => vfin true q [c0] h)
theorem e80_1 (O : Oracle) (R : Jump) (q : Nat) (x0 x3 x4 : TVal) (h : Heap) : b80_1 O R q x0 x3 x4 h = stepF c80 O R q 1 [x0, x3, x4] h := by kernel_rfl
def b80_2 (O : Oracle) (R : Jump) (q : Nat) (x0 x3 x4 : TVal) (h : Heap) : Res1 :=
 vbin .add 0 x4 (kI 1) h fun x10 h =>
 R 1 [x0, x3, x10] h
theorem e80_2 (O : Oracle) (R : Jump) (q : Nat) (x0 x3 x4 : TVal) (h : Heap) : b80_2 O R q x0 x3 x4 h = stepF c80 O R q 2 [x0, x3, x4] h := by kernel_rfl
def d80 : BlkF := fun O R Q => [.s fun a => .z (b80_0 O R Q a), .s fun a => .s fun b => .s fun c => .z (b80_1 O R Q a b c), .s fun a => .s fun b => .s fun c => .z (b80_2 O R Q a b c)]
theorem o80 (O : Oracle) (R : Jump) (q : Nat) : HoldsAll c80 O R q 0 (d80 O R q) := ⟨e80_0 O R q, e80_1 O R q, e80_2 O R q, trivial⟩
def c81 : MFunc := mkM (compF Tryd.prog (globs2 tabs opq) (fun _ => false) true Tryd.f81) (.s .n (.s .n (.s (.k (.l 1 [1, 3, 5, 6, 7] .n)) (.m 2 [1, 3, 5, 6, 7] .n))))
def b81_0 (O : Oracle) (R : Jump) (q : Nat) (x0 x1 x2 : TVal) (h : Heap) : Res1 :=
 vop O (.box (.k x0) false) h 3 fun x3 h =>
 vop O (.box (.k x2) false) h 5 fun x5 h =>
 vop O (.alloc [(.p (.int .i64 0)), (.p (.bool false)), (.p (.int .i64 0)), (.p (.str [])), (.p .nilslice), (.p .nilslice)] false) h 6 fun x6 h =>
 R 1 [x1, x3, x5, x6, (kI 0)] h
theorem e81_0 (O : Oracle) (R : Jump) (q : Nat) (x0 x1 x2 : TVal) (h : Heap) : b81_0 O R q x0 x1 x2 h = stepF c81 O R q 0 [x0, x1, x2] h := by kernel_rfl
def b81_1 (O : Oracle) (R : Jump) (q : Nat) (x1 x3 x5 x6 x7 : TVal) (h : Heap) : Res1 :=
 vfaddr 4 x3 h fun x11 h =>
 vload false 1 x11 h fun x12 h =>
 vlen O 2 x12 h 13 fun x13 h =>
 vbin .lss 0 x7 x13 h fun x14 h =>
 vguard x14 true (fun kk => vfaddr 4 x3 h kk) h fun x16 h =>
 vguard x14 true (fun kk => vload false 1 x16 h kk) h fun x17 h =>
 vguard x14 true (fun kk => kk x7 h) h fun x18 h =>
 vguard x14 true (fun kk => viaddr 1 x17 x18 h kk) h fun x19 h =>
 vguard x14 true (fun kk => vload false 1 x19 h kk) h fun x20 h =>
 vguard x14 true (fun kk => kk x1 h) h fun x21 h =>
 vguard x14 true (fun kk => vbin .lss 0 x20 x21 h kk) h fun x22 h =>
 vop O (.pick (.k x14) (.k x22) (.k (kB false))) h 23 fun x23 h =>
 vif x23 (
 vbin .add 0 x7 (kI 1) h fun x25 h =>
 R 1 [x1, x3, x5, x6, x25] h)
 (R 2 [x1, x3, x5, x6, x7] h)
theorem e81_1 (O : Oracle) (R : Jump) (q : Nat) (x1 x3 x5 x6 x7 : TVal) (h : Heap) : b81_1 O R q x1 x3 x5 x6 x7 h = stepF c81 O R q 1 [x1, x3, x5, x6, x7] h := by kernel_rfl
def b81_2 (O : Oracle) (R : Jump) (q : Nat) (x1 x3 x5 x6 x7 : TVal) (h : Heap) : Res1 :=
 vfaddr 4 x3 h fun x27 h =>
 vload false 1 x27 h fun x28 h =>
 vlen O 2 x28 h 29 fun x29 h =>
 vbin .lss 0 x7 x29 h fun x30 h =>
 vguard x30 true (fun kk => vfaddr 4 x3 h kk) h fun x32 h =>
 vguard x30 true (fun kk => vload false 1 x32 h kk) h fun x33 h =>
 vguard x30 true (fun kk => kk x7 h) h fun x34 h =>
 vguard x30 true (fun kk => viaddr 1 x33 x34 h kk) h fun x35 h =>
 vguard x30 true (fun kk => vload false 1 x35 h kk) h fun x36 h =>
 vguard x30 true (fun kk => kk x1 h) h fun x37 h =>
 vguard x30 true (fun kk => vbin .eql 0 x36 x37 h kk) h fun x38 h =>
 vop O (.pick (.k x30) (.k x38) (.k (kB false))) h 39 fun x39 h =>
 vif x39 (
 vload true 6 x3 h fun x40 h =>
 vstore 6 x6 x40 h fun _ h =>
 vcell true 6 x6 h fun c0 => vfin true q [c0] h)
 (vop O (.bslice 1 0 [(.p (.str []))] [] false) h 41 fun x41 h =>
 vfaddr 4 x3 h fun x42 h =>
 vload false 1 x42 h fun x43 h =>
 vop O (.slice 1 false (.k x43) none (some (.k x7)) none) h 45 fun x45 h =>
 vop O (.append 1 16 false (.k x41) (.k x45)) h 46 fun x46 h =>
 vop O (.bslice 6 0 [(.p (.int .i64 0)), (.p (.bool false)), (.p (.int .i64 0)), (.p (.str [])), (.p .nilslice), (.p .nilslice)] [] false) h 47 fun x47 h =>
 vfaddr 5 x3 h fun x48 h =>
 vload false 1 x48 h fun x49 h =>
 vop O (.slice 6 false (.k x49) none (some (.k x7)) none) h 51 fun x51 h =>
 vop O (.append 6 88 false (.k x47) (.k x51)) h 52 fun x52 h =>
 vtouch O (.mv (.k x46)) h 53 fun x53 h t0 =>
 vtouch O (.mv (.k x1)) h 54 fun x54 h t1 =>
 vtouch O (.bslice 1 1 [(.p (.str []))] [(0, (.k x54))] false) h 55 fun x55 h t2 =>
 vtouch O (.append 1 16 false (.k x53) (.k x55)) h 56 fun x56 h t3 =>
 vtouch O (.faddr 4 (.k x3)) h 57 fun x57 h t4 =>
 vtouch O (.load false 1 (.k x57)) h 58 fun x58 h t5 =>
 vtouch O (.mv (.k x7)) h 59 fun x59 h t6 =>
 vtouch O (.slice 1 false (.k x58) (some (.k x59)) none none) h 60 fun x60 h t7 =>
 vtouch O (.append 1 16 false (.k x56) (.k x60)) h 61 fun x61 h t8 =>
 vtouch O (.mv (.k x52)) h 62 fun x62 h t9 =>
 vtouch O (.load true 6 (.k x5)) h 63 fun x63 h t10 =>
 vtouch O (.bslice 6 1 [(.p (.int .i64 0)), (.p (.bool false)), (.p (.int .i64 0)), (.p (.str [])), (.p .nilslice), (.p .nilslice)] [(0, (.k x63))] false) h 64 fun x64 h t11 =>
 vtouch O (.append 6 88 false (.k x62) (.k x64)) h 65 fun x65 h t12 =>
 vtouch O (.faddr 5 (.k x3)) h 66 fun x66 h t13 =>
 vtouch O (.load false 1 (.k x66)) h 67 fun x67 h t14 =>
 vtouch O (.mv (.k x7)) h 68 fun x68 h t15 =>
 vtouch O (.slice 6 false (.k x67) (some (.k x68)) none none) h 69 fun x69 h t16 =>
 vtouch O (.append 6 88 false (.k x65) (.k x69)) h 70 fun x70 h t17 =>
 vtouch O (.faddr 4 (.k x3)) h 71 fun x71 h t18 =>
 vtouch O (.store 1 (.k x71) (.k x61)) h 1000000 fun _ h t19 =>
 vtouch O (.faddr 5 (.k x3)) h 72 fun x72 h t20 =>
 vtouch O (.store 1 (.k x72) (.k x70)) h 1000000 fun _ h t21 =>
 bif apartAll [t0, t1, t2, t3, t4, t5, t6, t7, t8, t9, t10, t11, t12, t13, t14, t15, t16, t17, t18, t19, t20, t21] [(2, 5), (3, 5), (2, 10), (3, 10), (8, 10), (2, 11), (3, 11), (5, 11), (8, 11), (2, 14), (3, 14), (8, 14), (11, 14), (12, 14)] then
 vload true 6 x3 h fun x73 h =>
 vstore 6 x6 x73 h fun _ h =>
 vcell true 6 x6 h fun c0 => vfin true q [c0] h
 else none)
theorem e81_2 (O : Oracle) (R : Jump) (q : Nat) (x1 x3 x5 x6 x7 : TVal) (h : Heap) : b81_2 O R q x1 x3 x5 x6 x7 h = stepF c81 O R q 2 [x1, x3, x5, x6, x7] h := by kernel_rfl
def d81 : BlkF := fun O R Q => [.s fun a => .s fun b => .s fun c => .z (b81_0 O R Q a b c), .s fun a => .s fun b => .s fun c => .s fun d => .s fun e => .z (b81_1 O R Q a b c d e), .s fun a => .s fun b => .s fun c => .s fun d => .s fun e => .z (b81_2 O R Q a b c d e)]
theorem o81 (O : Oracle) (R : Jump) (q : Nat) : HoldsAll c81 O R q 0 (d81 O R q) := ⟨e81_0 O R q, e81_1 O R q, e81_2 O R q, trivial⟩
def c84 : MFunc := mkM (compF Tryd.prog (globs2 tabs opq) (fun _ => false) true Tryd.f84) .n
def b84_0 (O : Oracle) (R : Jump) (q : Nat) (x0 : TVal) (h : Heap) : Res1 :=
 vcall O (.v (.c (.func 148 []))) [x0] h 4 fun x4 h =>
 vguard x4 true (fun kk => kk x0 h) h fun x6 h =>
 vguard x4 true (fun kk => vbin .add 0 (kS [32]) x6 h kk) h fun x7 h =>
 vguard x4 true (fun kk => vbin .add 0 x7 (kS [32]) h kk) h fun x8 h =>
 vguard x4 true (fun kk => vcall O (.v (.c (.func 149 []))) [(kS z6c995b20), x8] h 9 kk) h fun x9 h =>
 vop O (.pick (.k x4) (.k x9) (.k (kB false))) h 10 fun x10 h =>
 tcomp x10 fun c0 => vfin true q [c0] h
theorem e84_0 (O : Oracle) (R : Jump) (q : Nat) (x0 : TVal) (h : Heap) : b84_0 O R q x0 h = stepF c84 O R q 0 [x0] h := by kernel_rfl
def d84 : BlkF := fun O R Q => [.s fun a => .z (b84_0 O R Q a)]
theorem o84 (O : Oracle) (R : Jump) (q : Nat) : HoldsAll c84 O R q 0 (d84 O R q) := ⟨e84_0 O R q, trivial⟩
def c85 : MFunc := mkM (compF Tryd.prog (globs2 tabs opq) (fun _ => false) true Tryd.f85) (.s .n (.s (.s .n (.k (.s (.k (.k (.s (.s (.s .n (.m 1 [3, 4] .n)) (.s .n (.m 2 [9] .n))) .n))) .n))) .n))
def b85_0 (O : Oracle) (R : Jump) (q : Nat) (x0 : TVal) (h : Heap) : Res1 :=
 vbin .eql 0 x0 (kS [108, 101, 110]) h fun x5 h =>
 vif x5 (
 R 1 [x0, x5] h)
 (vbin .eql 0 x0 (kS [110, 111, 116]) h fun x6 h =>
 vif x6 (
 R 1 [x0, x6] h)
 (vbin .eql 0 x0 (kS [116, 101, 120, 116]) h fun x7 h =>
 vif x7 (
 R 1 [x0, x7] h)
 (vbin .eql 0 x0 (kS [104, 97, 115]) h fun x8 h =>
 R 1 [x0, x8] h)))
theorem e85_0 (O : Oracle) (R : Jump) (q : Nat) (x0 : TVal) (h : Heap) : b85_0 O R q x0 h = stepF c85 O R q 0 [x0] h := by kernel_rfl
def b85_1 (O : Oracle) (R : Jump) (q : Nat) (x3 x4 : TVal) (h : Heap) : Res1 :=
 vif x4 (
 tcomp (kI 1) fun c0 => vfin true q [c0] h)
 (vbin .eql 0 x3 (kS [105, 56]) h fun x10 h =>
 vif x10 (
 R 2 [x10] h)
 (vbin .eql 0 x3 (kS [105, 49, 54]) h fun x11 h =>
 vif x11 (
 R 2 [x11] h)
 (vbin .eql 0 x3 (kS [105, 51, 50]) h fun x12 h =>
 vif x12 (
 R 2 [x12] h)
 (vbin .eql 0 x3 (kS [117, 56]) h fun x13 h =>
 vif x13 (
 R 2 [x13] h)
 (vbin .eql 0 x3 (kS [117, 49, 54]) h fun x14 h =>
 vif x14 (
 R 2 [x14] h)
 (vbin .eql 0 x3 (kS [117, 51, 50]) h fun x15 h =>
 R 2 [x15] h))))))
theorem e85_1 (O : Oracle) (R : Jump) (q : Nat) (x3 x4 : TVal) (h : Heap) : b85_1 O R q x3 x4 h = stepF c85 O R q 1 [x3, x4] h := by kernel_rfl
def b85_2 (O : Oracle) (R : Jump) (q : Nat) (x9 : TVal) (h : Heap) : Res1 :=
 vif x9 (
 tcomp (kI 1) fun c0 => vfin true q [c0] h)
 (tcomp (kI 2) fun c0 => vfin true q [c0] h)
theorem e85_2 (O : Oracle) (R : Jump) (q : Nat) (x9 : TVal) (h : Heap) : b85_2 O R q x9 h = stepF c85 O R q 2 [x9] h := by kernel_rfl
def d85 : BlkF := fun O R Q => [.s fun a => .z (b85_0 O R Q a), .s fun a => .s fun b => .z (b85_1 O R Q a b), .s fun a => .z (b85_2 O R Q a)]
theorem o85 (O : Oracle) (R : Jump) (q : Nat) : HoldsAll c85 O R q 0 (d85 O R q) := ⟨e85_0 O R q, e85_1 O R q, e85_2 O R q, trivial⟩
def c86 : MFunc := mkM (compF Tryd.prog (globs2 tabs opq) (fun _ => false) true Tryd.f86) (.s .n (.s (.s .n (.k (.s .n (.s .n (.s .n (.m 1 [1, 2, 12] .n)))))) .n))
def b86_0 (O : Oracle) (R : Jump) (q : Nat) (x0 : TVal) (h : Heap) : Res1 :=
 vop O (.box (.k x0) false) h 1 fun x1 h =>
 vop O (.alloc [(.p (.int .i64 0)), (.p (.bool false)), (.p (.int .i64 0)), (.p (.str [])), (.p .nilslice), (.p .nilslice)] false) h 2 fun x2 h =>
 vfaddr 0 x1 h fun x4 h =>
 vload false 1 x4 h fun x5 h =>
 vbin .eql 0 x5 (kI 3) h fun x7 h =>
 vif x7 (
 vfaddr 3 x1 h fun x8 h =>
 vload false 1 x8 h fun x9 h =>
 vlen O 0 x9 h 10 fun x10 h =>
 vcall O (.v (.c (.func 150 []))) [x10] h 11 fun x11 h =>
 vstore 6 x2 x11 h fun _ h =>
 vcell true 6 x2 h fun c0 => tcomp (kI 0) fun c1 => vfin true q [c0, c1] h)
 (vbin .eql 0 x5 (kI 4) h fun x13 h =>
 vif x13 (
 R 1 [x1, x2, x13] h)
 (vbin .eql 0 x5 (kI 5) h fun x14 h =>
 R 1 [x1, x2, x14] h))
theorem e86_0 (O : Oracle) (R : Jump) (q : Nat) (x0 : TVal) (h : Heap) : b86_0 O R q x0 h = stepF c86 O R q 0 [x0] h := by kernel_rfl
def b86_1 (O : Oracle) (R : Jump) (q : Nat) (x1 x2 x12 : TVal) (h : Heap) : Res1 :=
 vif x12 (
 vfaddr 5 x1 h fun x15 h =>
 vload false 1 x15 h fun x16 h =>
 vlen O 2 x16 h 17 fun x17 h =>
 vcall O (.v (.c (.func 150 []))) [x17] h 18 fun x18 h =>
 vstore 6 x2 x18 h fun _ h =>
 vcell true 6 x2 h fun c0 => tcomp (kI 0) fun c1 => vfin true q [c0, c1] h)
 (vop O (.build [(.p (.int .i64 0)), (.p (.bool false)), (.p (.int .i64 0)), (.p (.str [])), (.p .nilslice), (.p .nilslice)] []) h 19 fun x19 h =>
 vstore 6 x2 x19 h fun _ h =>
 vcell true 6 x2 h fun c0 => tcomp (kI 17) fun c1 => vfin true q [c0, c1] h)
theorem e86_1 (O : Oracle) (R : Jump) (q : Nat) (x1 x2 x12 : TVal) (h : Heap) : b86_1 O R q x1 x2 x12 h = stepF c86 O R q 1 [x1, x2, x12] h := by kernel_rfl
def d86 : BlkF := fun O R Q => [.s fun a => .z (b86_0 O R Q a), .s fun a => .s fun b => .s fun c => .z (b86_1 O R Q a b c)]
theorem o86 (O : Oracle) (R : Jump) (q : Nat) : HoldsAll c86 O R q 0 (d86 O R q) := ⟨e86_0 O R q, e86_1 O R q, trivial⟩
def c87 : MFunc := mkM (compF Tryd.prog (globs2 tabs opq) (fun _ => false) true Tryd.f87) .n
def b87_0 (O : Oracle) (R : Jump) (q : Nat) (x0 x1 : TVal) (h : Heap) : Res1 :=
 vop O (.alloc [(.p (.int .i64 0)), (.p (.bool false)), (.p (.int .i64 0)), (.p (.str [])), (.p .nilslice), (.p .nilslice)] false) h 4 fun x4 h =>
 vcall O (.v (.c (.func 151 []))) [x1, (.v (.c (.func 152 [])))] h 7 fun x7 h =>
 vif x7 (
 vop O (.build [(.p (.int .i64 0)), (.p (.bool false)), (.p (.int .i64 0)), (.p (.str [])), (.p .nilslice), (.p .nilslice)] []) h 8 fun x8 h =>
 vstore 6 x4 x8 h fun _ h =>
 vcell true 6 x4 h fun c0 => tcomp (kI 17) fun c1 => vfin true q [c0, c1] h)
 (vbin .eql 0 x0 (kS [110, 111, 116]) h fun x11 h =>
 vif x11 (
 viaddr 6 x1 (kI 0) h fun x13 h =>
 vfaddr 1 x13 h fun x14 h =>
 vload false 1 x14 h fun x15 h =>
 vop O (.un .not (.k x15)) h 16 fun x16 h =>
 vcall O (.v (.c (.func 94 []))) [x16] h 17 fun x17 h =>
 vstore 6 x4 x17 h fun _ h =>
 vcell true 6 x4 h fun c0 => tcomp (kI 0) fun c1 => vfin true q [c0, c1] h)
 (vbin .eql 0 x0 (kS [97, 110, 100]) h fun x19 h =>
 vif x19 (
 viaddr 6 x1 (kI 0) h fun x21 h =>
 vfaddr 1 x21 h fun x22 h =>
 vload false 1 x22 h fun x23 h =>
 vguard x23 true (fun kk => kk x1 h) h fun x25 h =>
 vguard x23 true (fun kk => viaddr 6 x25 (kI 1) h kk) h fun x26 h =>
 vguard x23 true (fun kk => vfaddr 1 x26 h kk) h fun x27 h =>
 vguard x23 true (fun kk => vload false 1 x27 h kk) h fun x28 h =>
 vop O (.pick (.k x23) (.k x28) (.k (kB false))) h 29 fun x29 h =>
 vcall O (.v (.c (.func 94 []))) [x29] h 30 fun x30 h =>
 vstore 6 x4 x30 h fun _ h =>
 vcell true 6 x4 h fun c0 => tcomp (kI 0) fun c1 => vfin true q [c0, c1] h)
 (viaddr 6 x1 (kI 0) h fun x32 h =>
 vfaddr 1 x32 h fun x33 h =>
 vload false 1 x33 h fun x34 h =>
 vguard x34 false (fun kk => kk x1 h) h fun x36 h =>
 vguard x34 false (fun kk => viaddr 6 x36 (kI 1) h kk) h fun x37 h =>
 vguard x34 false (fun kk => vfaddr 1 x37 h kk) h fun x38 h =>
 vguard x34 false (fun kk => vload false 1 x38 h kk) h fun x39 h =>
 vop O (.pick (.k x34) (.k (kB true)) (.k x39)) h 40 fun x40 h =>
 vcall O (.v (.c (.func 94 []))) [x40] h 41 fun x41 h =>
 vstore 6 x4 x41 h fun _ h =>
 vcell true 6 x4 h fun c0 => tcomp (kI 0) fun c1 => vfin true q [c0, c1] h)))
theorem e87_0 (O : Oracle) (R : Jump) (q : Nat) (x0 x1 : TVal) (h : Heap) : b87_0 O R q x0 x1 h = stepF c87 O R q 0 [x0, x1] h := by kernel_rfl
def d87 : BlkF := fun O R Q => [.s fun a => .s fun b => .z (b87_0 O R Q a b)]
theorem o87 (O : Oracle) (R : Jump) (q : Nat) : HoldsAll c87 O R q 0 (d87 O R q) := ⟨e87_0 O R q, trivial⟩
def c88 : MFunc := mkM (compF Tryd.prog (globs2 tabs opq) (fun _ => false) true Tryd.f88) .n
def b88_0 (O : Oracle) (R : Jump) (q : Nat) (x0 : TVal) (h : Heap) : Res1 :=
 vop O (.alloc [(.p (.int .i64 0)), (.p (.bool false)), (.p (.int .i64 0)), (.p (.str [])), (.p .nilslice), (.p .nilslice)] false) h 2 fun x2 h =>
 viaddr 6 x0 (kI 0) h fun x6 h =>
 vfaddr 0 x6 h fun x7 h =>
 vload false 1 x7 h fun x8 h =>
 vbin .lss 0 x8 (kI 1) h fun x10 h =>
 vguard x10 false (fun kk => kk x8 h) h fun x12 h =>
 vguard x10 false (fun kk => vbin .gtr 0 x12 (kI 3) h kk) h fun x13 h =>
 vop O (.pick (.k x10) (.k (kB true)) (.k x13)) h 14 fun x14 h =>
 vguard x14 false (fun kk => kk x0 h) h fun x16 h =>
 vguard x14 false (fun kk => viaddr 6 x16 (kI 1) h kk) h fun x17 h =>
 vguard x14 false (fun kk => vfaddr 0 x17 h kk) h fun x18 h =>
 vguard x14 false (fun kk => vload false 1 x18 h kk) h fun x19 h =>
 vguard x14 false (fun kk => kk x8 h) h fun x20 h =>
 vguard x14 false (fun kk => vbin .neq 0 x19 x20 h kk) h fun x21 h =>
 vop O (.pick (.k x14) (.k (kB true)) (.k x21)) h 22 fun x22 h =>
 vif x22 (
 vop O (.build [(.p (.int .i64 0)), (.p (.bool false)), (.p (.int .i64 0)), (.p (.str [])), (.p .nilslice), (.p .nilslice)] []) h 23 fun x23 h =>
 vstore 6 x2 x23 h fun _ h =>
 vcell true 6 x2 h fun c0 => tcomp (kI 17) fun c1 => vfin true q [c0, c1] h)
 (viaddr 6 x0 (kI 0) h fun x25 h =>
 vfaddr 1 x25 h fun x26 h =>
 vload false 1 x26 h fun x27 h =>
 viaddr 6 x0 (kI 1) h fun x29 h =>
 vfaddr 1 x29 h fun x30 h =>
 vload false 1 x30 h fun x31 h =>
 vbin .eql 5 x27 x31 h fun x32 h =>
 vguard x32 true (fun kk => kk x0 h) h fun x34 h =>
 vguard x32 true (fun kk => viaddr 6 x34 (kI 0) h kk) h fun x35 h =>
 vguard x32 true (fun kk => vfaddr 2 x35 h kk) h fun x36 h =>
 vguard x32 true (fun kk => vload false 1 x36 h kk) h fun x37 h =>
 vguard x32 true (fun kk => kk x0 h) h fun x38 h =>
 vguard x32 true (fun kk => viaddr 6 x38 (kI 1) h kk) h fun x39 h =>
 vguard x32 true (fun kk => vfaddr 2 x39 h kk) h fun x40 h =>
 vguard x32 true (fun kk => vload false 1 x40 h kk) h fun x41 h =>
 vguard x32 true (fun kk => vbin .eql 0 x37 x41 h kk) h fun x42 h =>
 vop O (.pick (.k x32) (.k x42) (.k (kB false))) h 43 fun x43 h =>
 vguard x43 true (fun kk => kk x0 h) h fun x45 h =>
 vguard x43 true (fun kk => viaddr 6 x45 (kI 0) h kk) h fun x46 h =>
 vguard x43 true (fun kk => vfaddr 3 x46 h kk) h fun x47 h =>
 vguard x43 true (fun kk => vload false 1 x47 h kk) h fun x48 h =>
 vguard x43 true (fun kk => kk x0 h) h fun x49 h =>
 vguard x43 true (fun kk => viaddr 6 x49 (kI 1) h kk) h fun x50 h =>
 vguard x43 true (fun kk => vfaddr 3 x50 h kk) h fun x51 h =>
 vguard x43 true (fun kk => vload false 1 x51 h kk) h fun x52 h =>
 vguard x43 true (fun kk => vbin .eql 0 x48 x52 h kk) h fun x53 h =>
 vop O (.pick (.k x43) (.k x53) (.k (kB false))) h 54 fun x54 h =>
 vcall O (.v (.c (.func 94 []))) [x54] h 55 fun x55 h =>
 vstore 6 x2 x55 h fun _ h =>
 vcell true 6 x2 h fun c0 => tcomp (kI 0) fun c1 => vfin true q [c0, c1] h)
theorem e88_0 (O : Oracle) (R : Jump) (q : Nat) (x0 : TVal) (h : Heap) : b88_0 O R q x0 h = stepF c88 O R q 0 [x0] h := by kernel_rfl
def d88 : BlkF := fun O R Q => [.s fun a => .z (b88_0 O R Q a)]
theorem o88 (O : Oracle) (R : Jump) (q : Nat) : HoldsAll c88 O R q 0 (d88 O R q) := ⟨e88_0 O R q, trivial⟩
def c89 : MFunc := mkM (compF Tryd.prog (globs2 tabs opq) (fun _ => false) true Tryd.f89) .n
def b89_0 (O : Oracle) (R : Jump) (q : Nat) (x0 : TVal) (h : Heap) : Res1 :=
 vop O (.alloc [(.p (.int .i64 0)), (.p (.bool false)), (.p (.int .i64 0)), (.p (.str [])), (.p .nilslice), (.p .nilslice)] false) h 2 fun x2 h =>
 vop O (.bslice 1 2 [(.p (.int .i64 0))] [(0, (.k (kI 3))), (1, (.k (kI 3)))] false) h 6 fun x6 h =>
 vcall O (.v (.c (.func 92 []))) [x0, x6] h 7 fun x7 h =>
 vop O (.un .not (.k x7)) h 8 fun x8 h =>
 vif x8 (
 vop O (.build [(.p (.int .i64 0)), (.p (.bool false)), (.p (.int .i64 0)), (.p (.str [])), (.p .nilslice), (.p .nilslice)] []) h 9 fun x9 h =>
 vstore 6 x2 x9 h fun _ h =>
 vcell true 6 x2 h fun c0 => tcomp (kI 17) fun c1 => vfin true q [c0, c1] h)
 (viaddr 6 x0 (kI 0) h fun x12 h =>
 vfaddr 3 x12 h fun x13 h =>
 vload false 1 x13 h fun x14 h =>
 vlen O 0 x14 h 15 fun x15 h =>
 viaddr 6 x0 (kI 1) h fun x17 h =>
 vfaddr 3 x17 h fun x18 h =>
 vload false 1 x18 h fun x19 h =>
 vlen O 0 x19 h 20 fun x20 h =>
 vbin .sub 0 (kI 65536) x20 h fun x21 h =>
 vbin .gtr 0 x15 x21 h fun x22 h =>
 vif x22 (
 vop O (.build [(.p (.int .i64 0)), (.p (.bool false)), (.p (.int .i64 0)), (.p (.str [])), (.p .nilslice), (.p .nilslice)] []) h 23 fun x23 h =>
 vstore 6 x2 x23 h fun _ h =>
 vcell true 6 x2 h fun c0 => tcomp (kI 34) fun c1 => vfin true q [c0, c1] h)
 (viaddr 6 x0 (kI 0) h fun x25 h =>
 vfaddr 3 x25 h fun x26 h =>
 vload false 1 x26 h fun x27 h =>
 viaddr 6 x0 (kI 1) h fun x29 h =>
 vfaddr 3 x29 h fun x30 h =>
 vload false 1 x30 h fun x31 h =>
 vbin .add 0 x27 x31 h fun x32 h =>
 vcall O (.v (.c (.func 153 []))) [x32] h 33 fun x33 h =>
 vstore 6 x2 x33 h fun _ h =>
 vcell true 6 x2 h fun c0 => tcomp (kI 0) fun c1 => vfin true q [c0, c1] h))
theorem e89_0 (O : Oracle) (R : Jump) (q : Nat) (x0 : TVal) (h : Heap) : b89_0 O R q x0 h = stepF c89 O R q 0 [x0] h := by kernel_rfl
def d89 : BlkF := fun O R Q => [.s fun a => .z (b89_0 O R Q a)]
theorem o89 (O : Oracle) (R : Jump) (q : Nat) : HoldsAll c89 O R q 0 (d89 O R q) := ⟨e89_0 O R q, trivial⟩
def c90 : MFunc := mkM (compF Tryd.prog (globs2 tabs opq) (fun _ => false) true Tryd.f90) .n
def b90_0 (O : Oracle) (R : Jump) (q : Nat) (x0 : TVal) (h : Heap) : Res1 :=
 vop O (.box (.k x0) false) h 1 fun x1 h =>
 vop O (.alloc [(.p (.int .i64 0)), (.p (.bool false)), (.p (.int .i64 0)), (.p (.str [])), (.p .nilslice), (.p .nilslice)] false) h 2 fun x2 h =>
 vfaddr 0 x1 h fun x4 h =>
 vload false 1 x4 h fun x5 h =>
 vbin .eql 0 x5 (kI 2) h fun x7 h =>
 vif x7 (
 vfaddr 2 x1 h fun x8 h =>
 vload false 1 x8 h fun x9 h =>
 vcall O (.v (.c (.func 154 []))) [x9, (kI 10)] h 10 fun x10 h =>
 vcall O (.v (.c (.func 153 []))) [x10] h 11 fun x11 h =>
 vstore 6 x2 x11 h fun _ h =>
 vcell true 6 x2 h fun c0 => tcomp (kI 0) fun c1 => vfin true q [c0, c1] h)
 (vbin .eql 0 x5 (kI 1) h fun x13 h =>
 vif x13 (
 vfaddr 1 x1 h fun x14 h =>
 vload false 1 x14 h fun x15 h =>
 vcall O (.v (.c (.func 155 []))) [x15] h 16 fun x16 h =>
 vcall O (.v (.c (.func 153 []))) [x16] h 17 fun x17 h =>
 vstore 6 x2 x17 h fun _ h =>
 vcell true 6 x2 h fun c0 => tcomp (kI 0) fun c1 => vfin true q [c0, c1] h)
 (vop O (.build [(.p (.int .i64 0)), (.p (.bool false)), (.p (.int .i64 0)), (.p (.str [])), (.p .nilslice), (.p .nilslice)] []) h 18 fun x18 h =>
 vstore 6 x2 x18 h fun _ h =>
 vcell true 6 x2 h fun c0 => tcomp (kI 17) fun c1 => vfin true q [c0, c1] h))
theorem e90_0 (O : Oracle) (R : Jump) (q : Nat) (x0 : TVal) (h : Heap) : b90_0 O R q x0 h = stepF c90 O R q 0 [x0] h := by kernel_rfl
def d90 : BlkF := fun O R Q => [.s fun a => .z (b90_0 O R Q a)]
theorem o90 (O : Oracle) (R : Jump) (q : Nat) : HoldsAll c90 O R q 0 (d90 O R q) := ⟨e90_0 O R q, trivial⟩
def c91 : MFunc := mkM (compF Tryd.prog (globs2 tabs opq) (fun _ => false) true Tryd.f91) .n
def b91_0 (O : Oracle) (R : Jump) (q : Nat) (x0 : TVal) (h : Heap) : Res1 :=
 vop O (.alloc [(.p (.int .i64 0)), (.p (.bool false)), (.p (.int .i64 0)), (.p (.str [])), (.p .nilslice), (.p .nilslice)] false) h 2 fun x2 h =>
 vop O (.bslice 1 2 [(.p (.int .i64 0))] [(0, (.k (kI 4))), (1, (.k (kI 2)))] false) h 6 fun x6 h =>
 vcall O (.v (.c (.func 92 []))) [x0, x6] h 7 fun x7 h =>
 vop O (.un .not (.k x7)) h 8 fun x8 h =>
 vif x8 (
 vop O (.build [(.p (.int .i64 0)), (.p (.bool false)), (.p (.int .i64 0)), (.p (.str [])), (.p .nilslice), (.p .nilslice)] []) h 9 fun x9 h =>
 vstore 6 x2 x9 h fun _ h =>
 vcell true 6 x2 h fun c0 => tcomp (kI 17) fun c1 => vfin true q [c0, c1] h)
 (viaddr 6 x0 (kI 1) h fun x12 h =>
 vfaddr 2 x12 h fun x13 h =>
 vload false 1 x13 h fun x14 h =>
 vbin .lss 0 x14 (kI 0) h fun x15 h =>
 vguard x15 false (fun kk => kk x0 h) h fun x17 h =>
 vguard x15 false (fun kk => viaddr 6 x17 (kI 1) h kk) h fun x18 h =>
 vguard x15 false (fun kk => vfaddr 2 x18 h kk) h fun x19 h =>
 vguard x15 false (fun kk => vload false 1 x19 h kk) h fun x20 h =>
 vguard x15 false (fun kk => kk x0 h) h fun x21 h =>
 vguard x15 false (fun kk => viaddr 6 x21 (kI 0) h kk) h fun x22 h =>
 vguard x15 false (fun kk => vfaddr 5 x22 h kk) h fun x23 h =>
 vguard x15 false (fun kk => vload false 1 x23 h kk) h fun x24 h =>
 vguard x15 false (fun kk => vlen O 2 x24 h 25 kk) h fun x25 h =>
 vguard x15 false (fun kk => vbin .geq 0 x20 x25 h kk) h fun x26 h =>
 vop O (.pick (.k x15) (.k (kB true)) (.k x26)) h 27 fun x27 h =>
 vif x27 (
 vop O (.build [(.p (.int .i64 0)), (.p (.bool false)), (.p (.int .i64 0)), (.p (.str [])), (.p .nilslice), (.p .nilslice)] []) h 28 fun x28 h =>
 vstore 6 x2 x28 h fun _ h =>
 vcell true 6 x2 h fun c0 => tcomp (kI 32) fun c1 => vfin true q [c0, c1] h)
 (viaddr 6 x0 (kI 0) h fun x30 h =>
 vfaddr 5 x30 h fun x31 h =>
 vload false 1 x31 h fun x32 h =>
 viaddr 6 x0 (kI 1) h fun x34 h =>
 vfaddr 2 x34 h fun x35 h =>
 vload false 1 x35 h fun x36 h =>
 viaddr 6 x32 x36 h fun x37 h =>
 vload true 6 x37 h fun x38 h =>
 vcall O (.v (.c (.func 95 []))) [x38] h 39 fun x39 h =>
 vstore 6 x2 x39 h fun _ h =>
 vcell true 6 x2 h fun c0 => tcomp (kI 0) fun c1 => vfin true q [c0, c1] h))
theorem e91_0 (O : Oracle) (R : Jump) (q : Nat) (x0 : TVal) (h : Heap) : b91_0 O R q x0 h = stepF c91 O R q 0 [x0] h := by kernel_rfl
def d91 : BlkF := fun O R Q => [.s fun a => .z (b91_0 O R Q a)]
theorem o91 (O : Oracle) (R : Jump) (q : Nat) : HoldsAll c91 O R q 0 (d91 O R q) := ⟨e91_0 O R q, trivial⟩
def c92 : MFunc := mkM (compF Tryd.prog (globs2 tabs opq) (fun _ => false) true Tryd.f92) (.s .n (.s (.s .n (.k (.l 1 [0, 7, 8, 9] .n))) .n))
def b92_0 (O : Oracle) (R : Jump) (q : Nat) (x0 x1 : TVal) (h : Heap) : Res1 :=
 vlen O 2 x1 h 8 fun x8 h =>
 R 1 [x0, x1, x8, (kI 0)] h
theorem e92_0 (O : Oracle) (R : Jump) (q : Nat) (x0 x1 : TVal) (h : Heap) : b92_0 O R q x0 x1 h = stepF c92 O R q 0 [x0, x1] h := by kernel_rfl
def b92_1 (O : Oracle) (R : Jump) (q : Nat) (x0 x7 x8 x9 : TVal) (h : Heap) : Res1 :=
 vbin .lss 0 x9 x8 h fun x10 h =>
 vif x10 (
 viaddr 1 x7 x9 h fun x12 h =>
 vload false 1 x12 h fun x13 h =>
 viaddr 6 x0 x9 h fun x16 h =>
 vfaddr 0 x16 h fun x17 h =>
 vload false 1 x17 h fun x18 h =>
 vbin .neq 0 x18 x13 h fun x20 h =>
 vif x20 (
 tcomp (kB false) fun c0 => vfin true q [c0] h)
 (vbin .add 0 x9 (kI 1) h fun x21 h =>
 R 1 [x0, x7, x8, x21] h))
 (tcomp (kB true) fun c0 => vfin true q [c0] h)
theorem e92_1 (O : Oracle) (R : Jump) (q : Nat) (x0 x7 x8 x9 : TVal) (h : Heap) : b92_1 O R q x0 x7 x8 x9 h = stepF c92 O R q 1 [x0, x7, x8, x9] h := by kernel_rfl
def d92 : BlkF := fun O R Q => [.s fun a => .s fun b => .z (b92_0 O R Q a b), .s fun a => .s fun b => .s fun c => .s fun d => .z (b92_1 O R Q a b c d)]
theorem o92 (O : Oracle) (R : Jump) (q : Nat) : HoldsAll c92 O R q 0 (d92 O R q) := ⟨e92_0 O R q, e92_1 O R q, trivial⟩
def c93 : MFunc := mkM (compF Tryd.prog (globs2 tabs opq) (fun _ => false) true Tryd.f93) .n
def b93_0 (O : Oracle) (R : Jump) (q : Nat) (x0 x1 : TVal) (h : Heap) : Res1 :=
 vop O (.box (.k x0) false) h 2 fun x2 h =>
 vop O (.alloc [(.p (.int .i64 0)), (.p (.bool false)), (.p (.int .i64 0)), (.p (.str [])), (.p .nilslice), (.p .nilslice)] false) h 4 fun x4 h =>
 vfaddr 4 x2 h fun x7 h =>
 vload false 1 x7 h fun x8 h =>
 vcall O (.v (.c (.func 131 []))) [x8, x1] h 10 fun x10 h =>
 vfaddr 0 x2 h fun x11 h =>
 vload false 1 x11 h fun x12 h =>
 vbin .neq 0 x12 (kI 5) h fun x13 h =>
 vguard x13 false (fun kk => kk x10 h) h fun x15 h =>
 vguard x13 false (fun kk => vbin .lss 0 x15 (kI 0) h kk) h fun x16 h =>
 vop O (.pick (.k x13) (.k (kB true)) (.k x16)) h 17 fun x17 h =>
 vguard x17 false (fun kk => kk x10 h) h fun x19 h =>
 vguard x17 false (fun kk => vfaddr 5 x2 h kk) h fun x20 h =>
 vguard x17 false (fun kk => vload false 1 x20 h kk) h fun x21 h =>
 vguard x17 false (fun kk => vlen O 2 x21 h 22 kk) h fun x22 h =>
 vguard x17 false (fun kk => vbin .geq 0 x19 x22 h kk) h fun x23 h =>
 vop O (.pick (.k x17) (.k (kB true)) (.k x23)) h 24 fun x24 h =>
 vif x24 (
 vop O (.build [(.p (.int .i64 0)), (.p (.bool false)), (.p (.int .i64 0)), (.p (.str [])), (.p .nilslice), (.p .nilslice)] []) h 25 fun x25 h =>
 vstore 6 x4 x25 h fun _ h =>
 vcell true 6 x4 h fun c0 => tcomp (kB false) fun c1 => vfin true q [c0, c1] h)
 (vfaddr 5 x2 h fun x26 h =>
 vload false 1 x26 h fun x27 h =>
 viaddr 6 x27 x10 h fun x29 h =>
 vload true 6 x29 h fun x30 h =>
 vcall O (.v (.c (.func 156 []))) [x30] h 31 fun x31 h =>
 vstore 6 x4 x31 h fun _ h =>
 vcell true 6 x4 h fun c0 => tcomp (kB true) fun c1 => vfin true q [c0, c1] h)
theorem e93_0 (O : Oracle) (R : Jump) (q : Nat) (x0 x1 : TVal) (h : Heap) : b93_0 O R q x0 x1 h = stepF c93 O R q 0 [x0, x1] h := by kernel_rfl
def d93 : BlkF := fun O R Q => [.s fun a => .s fun b => .z (b93_0 O R Q a b)]
theorem o93 (O : Oracle) (R : Jump) (q : Nat) : HoldsAll c93 O R q 0 (d93 O R q) := ⟨e93_0 O R q, trivial⟩
def c94 : MFunc := mkM (compF Tryd.prog (globs2 tabs opq) (fun _ => false) true Tryd.f94) .n
def b94_0 (O : Oracle) (R : Jump) (q : Nat) (x0 : TVal) (h : Heap) : Res1 :=
 vop O (.alloc [(.p (.int .i64 0)), (.p (.bool false)), (.p (.int .i64 0)), (.p (.str [])), (.p .nilslice), (.p .nilslice)] false) h 2 fun x2 h =>
 vop O (.build [(.p (.int .i64 0)), (.p (.bool false)), (.p (.int .i64 0)), (.p (.str [])), (.p .nilslice), (.p .nilslice)] [(0, 1, (.k (kI 1))), (1, 1, (.k x0))]) h 4 fun x4 h =>
 vstore 6 x2 x4 h fun _ h =>
 vcell true 6 x2 h fun c0 => vfin true q [c0] h
theorem e94_0 (O : Oracle) (R : Jump) (q : Nat) (x0 : TVal) (h : Heap) : b94_0 O R q x0 h = stepF c94 O R q 0 [x0] h := by kernel_rfl
def d94 : BlkF := fun O R Q => [.s fun a => .z (b94_0 O R Q a)]
theorem o94 (O : Oracle) (R : Jump) (q : Nat) : HoldsAll c94 O R q 0 (d94 O R q) := ⟨e94_0 O R q, trivial⟩
def c95 : MFunc := mkM (compF Tryd.prog (globs2 tabs opq) (fun _ => false) true Tryd.f95) .n
def b95_0 (O : Oracle) (R : Jump) (q : Nat) (x0 : TVal) (h : Heap) : Res1 :=
 vop O (.box (.k x0) false) h 1 fun x1 h =>
 vop O (.alloc [(.p (.int .i64 0)), (.p (.bool false)), (.p (.int .i64 0)), (.p (.str [])), (.p .nilslice), (.p .nilslice)] false) h 2 fun x2 h =>
 vop O (.bslice 1 1 [(.p (.str []))] [(0, (.k (kS [])))] false) h 6 fun x6 h =>
 vload true 6 x1 h fun x7 h =>
 vop O (.bslice 6 1 [(.p (.int .i64 0)), (.p (.bool false)), (.p (.int .i64 0)), (.p (.str [])), (.p .nilslice), (.p .nilslice)] [(0, (.k x7))] false) h 8 fun x8 h =>
 vop O (.build [(.p (.int .i64 0)), (.p (.bool false)), (.p (.int .i64 0)), (.p (.str [])), (.p .nilslice), (.p .nilslice)] [(0, 1, (.k (kI 5))), (4, 1, (.k x6)), (5, 1, (.k x8))]) h 9 fun x9 h =>
 vcall O (.v (.c (.func 93 []))) [x9, (kS [])] h 10 fun x10 h =>
 vext x10 0 h fun x11 h =>
 vext x10 1 h fun x12 h =>
 vop O (.alloc [(.p (.int .i64 0)), (.p (.bool false)), (.p (.int .i64 0)), (.p (.str [])), (.p .nilslice), (.p .nilslice)] false) h 3 fun x3 h =>
 vstore 6 x3 x11 h fun _ h =>
 vload true 6 x3 h fun x13 h =>
 vstore 6 x2 x13 h fun _ h =>
 vcell true 6 x2 h fun c0 => vfin true q [c0] h
theorem e95_0 (O : Oracle) (R : Jump) (q : Nat) (x0 : TVal) (h : Heap) : b95_0 O R q x0 h = stepF c95 O R q 0 [x0] h := by kernel_rfl
def d95 : BlkF := fun O R Q => [.s fun a => .z (b95_0 O R Q a)]
theorem o95 (O : Oracle) (R : Jump) (q : Nat) : HoldsAll c95 O R q 0 (d95 O R q) := ⟨e95_0 O R q, trivial⟩
def c96 : MFunc := mkM (compF Tryd.prog (globs2 tabs opq) (fun _ => false) true Tryd.f96) .n
def b96_0 (O : Oracle) (R : Jump) (q : Nat) (x0 x1 : TVal) (h : Heap) : Res1 :=
 vop O (.alloc [(.p (.int .i64 0)), (.p (.bool false)), (.p (.int .i64 0)), (.p (.str [])), (.p .nilslice), (.p .nilslice)] false) h 4 fun x4 h =>
 vcall O (.v (.c (.func 151 []))) [x1, (.v (.c (.func 157 [])))] h 7 fun x7 h =>
 vif x7 (
 vop O (.build [(.p (.int .i64 0)), (.p (.bool false)), (.p (.int .i64 0)), (.p (.str [])), (.p .nilslice), (.p .nilslice)] []) h 8 fun x8 h =>
 vstore 6 x4 x8 h fun _ h =>
 vcell true 6 x4 h fun c0 => tcomp (kI 17) fun c1 => vfin true q [c0, c1] h)
 (vlen O 2 x1 h 11 fun x11 h =>
 vbin .eql 0 x11 (kI 1) h fun x12 h =>
 vif x12 (
 viaddr 6 x1 (kI 0) h fun x15 h =>
 vfaddr 2 x15 h fun x16 h =>
 vload false 1 x16 h fun x17 h =>
 vcall O (.v (.c (.func 158 []))) [x0, x17] h 18 fun x18 h =>
 vcall O (.v (.c (.func 150 []))) [x18] h 19 fun x19 h =>
 vstore 6 x4 x19 h fun _ h =>
 vcell true 6 x4 h fun c0 => tcomp (kI 0) fun c1 => vfin true q [c0, c1] h)
 (vbin .eql 0 x0 (kS [108, 116]) h fun x22 h =>
 vif x22 (
 viaddr 6 x1 (kI 0) h fun x24 h =>
 vfaddr 2 x24 h fun x25 h =>
 vload false 1 x25 h fun x26 h =>
 viaddr 6 x1 (kI 1) h fun x28 h =>
 vfaddr 2 x28 h fun x29 h =>
 vload false 1 x29 h fun x30 h =>
 vbin .lss 0 x26 x30 h fun x31 h =>
 vcall O (.v (.c (.func 94 []))) [x31] h 32 fun x32 h =>
 vstore 6 x4 x32 h fun _ h =>
 vcell true 6 x4 h fun c0 => tcomp (kI 0) fun c1 => vfin true q [c0, c1] h)
 (viaddr 6 x1 (kI 0) h fun x35 h =>
 vfaddr 2 x35 h fun x36 h =>
 vload false 1 x36 h fun x37 h =>
 viaddr 6 x1 (kI 1) h fun x39 h =>
 vfaddr 2 x39 h fun x40 h =>
 vload false 1 x40 h fun x41 h =>
 vcall O (.v (.c (.func 159 []))) [x0, x37, x41] h 42 fun x42 h =>
 vcall O (.v (.c (.func 150 []))) [x42] h 43 fun x43 h =>
 vstore 6 x4 x43 h fun _ h =>
 vcell true 6 x4 h fun c0 => tcomp (kI 0) fun c1 => vfin true q [c0, c1] h)))
theorem e96_0 (O : Oracle) (R : Jump) (q : Nat) (x0 x1 : TVal) (h : Heap) : b96_0 O R q x0 x1 h = stepF c96 O R q 0 [x0, x1] h := by kernel_rfl
def d96 : BlkF := fun O R Q => [.s fun a => .s fun b => .z (b96_0 O R Q a b)]
theorem o96 (O : Oracle) (R : Jump) (q : Nat) : HoldsAll c96 O R q 0 (d96 O R q) := ⟨e96_0 O R q, trivial⟩
def c97 : MFunc := mkM (compF Tryd.prog (globs2 tabs opq) (fun _ => false) true Tryd.f97) .n
def b97_0 (O : Oracle) (R : Jump) (q : Nat) (x0 : TVal) (h : Heap) : Res1 :=
 vop O (.alloc [(.p (.int .i64 0)), (.p (.bool false)), (.p (.int .i64 0)), (.p (.str [])), (.p .nilslice), (.p .nilslice)] false) h 2 fun x2 h =>
 vop O (.build [(.p (.int .i64 0)), (.p (.bool false)), (.p (.int .i64 0)), (.p (.str [])), (.p .nilslice), (.p .nilslice)] []) h 4 fun x4 h =>
 vstore 6 x2 x4 h fun _ h =>
 vcell true 6 x2 h fun c0 => tcomp x0 fun c1 => vfin true q [c0, c1] h
theorem e97_0 (O : Oracle) (R : Jump) (q : Nat) (x0 : TVal) (h : Heap) : b97_0 O R q x0 h = stepF c97 O R q 0 [x0] h := by kernel_rfl
def d97 : BlkF := fun O R Q => [.s fun a => .z (b97_0 O R Q a)]
theorem o97 (O : Oracle) (R : Jump) (q : Nat) : HoldsAll c97 O R q 0 (d97 O R q) := ⟨e97_0 O R q, trivial⟩
def c105 : MFunc := mkM (compF Tryd.prog (globs2 tabs opq) (fun n => Nat.blt n 1000000) false Tryd.f105) .n
def b105_0 (O : Oracle) (R : Jump) (q : Nat) (x0 : TVal) (h : Heap) : Res1 :=
 vbin .eql 2 x0 (.v (.c (.p .nilslice))) h fun x4 h =>
 vif x4 (
 tcomp (.v (.c (.p .nilslice))) fun c0 => vfin false q [c0] h)
 (vop O (.bslice 6 0 [(.p (.int .i64 0)), (.p (.bool false)), (.p (.int .i64 0)), (.p (.str [])), (.p .nilslice), (.p .nilslice)] [] true) h 5 fun x5 h =>
 vop O (.append 6 88 true (.k x5) (.k x0)) h 7 fun x7 h =>
 tcomp x7 fun c0 => vfin false q [c0] h)
theorem e105_0 (O : Oracle) (R : Jump) (q : Nat) (x0 : TVal) (h : Heap) : b105_0 O R q x0 h = stepF c105 O R q 0 [x0] h := by kernel_rfl
def d105 : BlkF := fun O R Q => [.s fun a => .z (b105_0 O R Q a)]
theorem o105 (O : Oracle) (R : Jump) (q : Nat) : HoldsAll c105 O R q 0 (d105 O R q) := ⟨e105_0 O R q, trivial⟩
def c106 : MFunc := mkM (compF Tryd.prog (globs2 tabs opq) (fun _ => false) true Tryd.f106) (.s .n (.s (.s .n (.k (.l 1 [0, 1, 5] .n))) .n))
def b106_0 (O : Oracle) (R : Jump) (q : Nat) (x0 x1 : TVal) (h : Heap) : Res1 :=
 R 1 [x0, x1, (kI 0)] h
theorem e106_0 (O : Oracle) (R : Jump) (q : Nat) (x0 x1 : TVal) (h : Heap) : b106_0 O R q x0 x1 h = stepF c106 O R q 0 [x0, x1] h := by kernel_rfl
def b106_1 (O : Oracle) (R : Jump) (q : Nat) (x0 x1 x5 : TVal) (h : Heap) : Res1 :=
 vop O (.nilck (.k x0)) h 8 fun x8 h =>
 vfaddr 0 x8 h fun x9 h =>
 vload false 1 x9 h fun x10 h =>
 vlen O 2 x10 h 11 fun x11 h =>
 vbin .lss 0 x5 x11 h fun x12 h =>
 vif x12 (
 vop O (.nilck (.k x0)) h 16 fun x16 h =>
 vfaddr 0 x16 h fun x17 h =>
 vload false 1 x17 h fun x18 h =>
 viaddr 3 x18 x5 h fun x20 h =>
 vfaddr 0 x20 h fun x21 h =>
 vload false 1 x21 h fun x22 h =>
 vbin .eql 0 x22 x1 h fun x24 h =>
 vif x24 (
 tcomp x5 fun c0 => vfin true q [c0] h)
 (vbin .add 0 x5 (kI 1) h fun x14 h =>
 R 1 [x0, x1, x14] h))
 (tcomp (kI (-1)) fun c0 => vfin true q [c0] h)
theorem e106_1 (O : Oracle) (R : Jump) (q : Nat) (x0 x1 x5 : TVal) (h : Heap) : b106_1 O R q x0 x1 x5 h = stepF c106 O R q 1 [x0, x1, x5] h := by kernel_rfl
def d106 : BlkF := fun O R Q => [.s fun a => .s fun b => .z (b106_0 O R Q a b), .s fun a => .s fun b => .s fun c => .z (b106_1 O R Q a b c)]
theorem o106 (O : Oracle) (R : Jump) (q : Nat) : HoldsAll c106 O R q 0 (d106 O R q) := ⟨e106_0 O R q, e106_1 O R q, trivial⟩
def c131 : MFunc := mkM (compF Tryd.prog (globs2 tabs opq) (fun _ => false) true Tryd.f131) (.s .n (.s (.s .n (.k (.l 1 [0, 1, 7, 8] .n))) .n))
def b131_0 (O : Oracle) (R : Jump) (q : Nat) (x0 x1 : TVal) (h : Heap) : Res1 :=
 vlen O 2 x0 h 7 fun x7 h =>
 R 1 [x0, x1, x7, (kI 0)] h
theorem e131_0 (O : Oracle) (R : Jump) (q : Nat) (x0 x1 : TVal) (h : Heap) : b131_0 O R q x0 x1 h = stepF c131 O R q 0 [x0, x1] h := by kernel_rfl
def b131_1 (O : Oracle) (R : Jump) (q : Nat) (x0 x1 x7 x8 : TVal) (h : Heap) : Res1 :=
 vbin .lss 0 x8 x7 h fun x9 h =>
 vif x9 (
 viaddr 1 x0 x8 h fun x14 h =>
 vload false 1 x14 h fun x15 h =>
 vbin .eql 0 x1 x15 h fun x16 h =>
 vif x16 (
 tcomp x8 fun c0 => vfin true q [c0] h)
 (vbin .add 0 x8 (kI 1) h fun x18 h =>
 R 1 [x0, x1, x7, x18] h))
 (tcomp (kI (-1)) fun c0 => vfin true q [c0] h)
theorem e131_1 (O : Oracle) (R : Jump) (q : Nat) (x0 x1 x7 x8 : TVal) (h : Heap) : b131_1 O R q x0 x1 x7 x8 h = stepF c131 O R q 1 [x0, x1, x7, x8] h := by kernel_rfl
def d131 : BlkF := fun O R Q => [.s fun a => .s fun b => .z (b131_0 O R Q a b), .s fun a => .s fun b => .s fun c => .s fun d => .z (b131_1 O R Q a b c d)]
theorem o131 (O : Oracle) (R : Jump) (q : Nat) : HoldsAll c131 O R q 0 (d131 O R q) := ⟨e131_0 O R q, e131_1 O R q, trivial⟩
def c132 : MFunc := mkM (compF Tryd.prog (globs2 tabs opq) (fun _ => false) true Tryd.f132) .n
def b132_0 (O : Oracle) (R : Jump) (q : Nat) (x0 : TVal) (h : Heap) : Res1 :=
 vbin .eql 2 x0 (.v (.c (.p .nilslice))) h fun x4 h =>
 vif x4 (
 tcomp (.v (.c (.p .nilslice))) fun c0 => vfin true q [c0] h)
 (vop O (.bslice 1 0 [(.p (.str []))] [] false) h 5 fun x5 h =>
 vop O (.append 1 16 false (.k x5) (.k x0)) h 7 fun x7 h =>
 tcomp x7 fun c0 => vfin true q [c0] h)
theorem e132_0 (O : Oracle) (R : Jump) (q : Nat) (x0 : TVal) (h : Heap) : b132_0 O R q x0 h = stepF c132 O R q 0 [x0] h := by kernel_rfl
def d132 : BlkF := fun O R Q => [.s fun a => .z (b132_0 O R Q a)]
theorem o132 (O : Oracle) (R : Jump) (q : Nat) : HoldsAll c132 O R q 0 (d132 O R q) := ⟨e132_0 O R q, trivial⟩
def c148 : MFunc := mkM (compF Tryd.prog (globs2 tabs opq) (fun _ => false) true Tryd.f148) .n
def b148_0 (O : Oracle) (R : Jump) (q : Nat) (x0 : TVal) (h : Heap) : Res1 :=
 vbin .neq 0 x0 (kS []) h fun x4 h =>
 vguard x4 true (fun kk => kk x0 h) h fun x6 h =>
 vguard x4 true (fun kk => vlen O 0 x6 h 7 kk) h fun x7 h =>
 vguard x4 true (fun kk => vbin .leq 0 x7 (kI 16) h kk) h fun x8 h =>
 vop O (.pick (.k x4) (.k x8) (.k (kB false))) h 9 fun x9 h =>
 vguard x9 true (fun kk => kk x0 h) h fun x11 h =>
 vguard x9 true (fun kk => vindex x11 (kI 0) h kk) h fun x12 h =>
 vguard x9 true (fun kk => vcall O (.v (.c (.func 174 []))) [x12] h 13 kk) h fun x13 h =>
 vguard x9 true (fun kk => vop O (.un .not (.k x13)) h 14 kk) h fun x14 h =>
 vop O (.pick (.k x9) (.k x14) (.k (kB false))) h 15 fun x15 h =>
 vguard x15 true (fun kk => kk x0 h) h fun x17 h =>
 vguard x15 true (fun kk => vcall O (.v (.c (.func 175 []))) [x17] h 18 kk) h fun x18 h =>
 vguard x15 true (fun kk => kk x0 h) h fun x19 h =>
 vguard x15 true (fun kk => vlen O 0 x19 h 20 kk) h fun x20 h =>
 vguard x15 true (fun kk => vbin .eql 0 x18 x20 h kk) h fun x21 h =>
 vop O (.pick (.k x15) (.k x21) (.k (kB false))) h 22 fun x22 h =>
 tcomp x22 fun c0 => vfin true q [c0] h
theorem e148_0 (O : Oracle) (R : Jump) (q : Nat) (x0 : TVal) (h : Heap) : b148_0 O R q x0 h = stepF c148 O R q 0 [x0] h := by kernel_rfl
def d148 : BlkF := fun O R Q => [.s fun a => .z (b148_0 O R Q a)]
theorem o148 (O : Oracle) (R : Jump) (q : Nat) : HoldsAll c148 O R q 0 (d148 O R q) := ⟨e148_0 O R q, trivial⟩
def c149 : MFunc := mkM (compF Tryd.prog (globs2 tabs opq) (fun _ => false) true Tryd.f149) .n
def b149_0 (O : Oracle) (R : Jump) (q : Nat) (x0 x1 : TVal) (h : Heap) : Res1 :=
 vcall O (.v (.c (.func 176 []))) [x0, x1] h 7 fun x7 h =>
 vbin .geq 0 x7 (kI 0) h fun x8 h =>
 tcomp x8 fun c0 => vfin true q [c0] h
theorem e149_0 (O : Oracle) (R : Jump) (q : Nat) (x0 x1 : TVal) (h : Heap) : b149_0 O R q x0 x1 h = stepF c149 O R q 0 [x0, x1] h := by kernel_rfl
def d149 : BlkF := fun O R Q => [.s fun a => .s fun b => .z (b149_0 O R Q a b)]
theorem o149 (O : Oracle) (R : Jump) (q : Nat) : HoldsAll c149 O R q 0 (d149 O R q) := ⟨e149_0 O R q, trivial⟩
def c150 : MFunc := mkM (compF Tryd.prog (globs2 tabs opq) (fun _ => false) true Tryd.f150) .n
def b150_0 (O : Oracle) (R : Jump) (q : Nat) (x0 : TVal) (h : Heap) : Res1 :=
 vop O (.alloc [(.p (.int .i64 0)), (.p (.bool false)), (.p (.int .i64 0)), (.p (.str [])), (.p .nilslice), (.p .nilslice)] false) h 2 fun x2 h =>
 vop O (.build [(.p (.int .i64 0)), (.p (.bool false)), (.p (.int .i64 0)), (.p (.str [])), (.p .nilslice), (.p .nilslice)] [(0, 1, (.k (kI 2))), (2, 1, (.k x0))]) h 4 fun x4 h =>
 vstore 6 x2 x4 h fun _ h =>
 vcell true 6 x2 h fun c0 => vfin true q [c0] h
theorem e150_0 (O : Oracle) (R : Jump) (q : Nat) (x0 : TVal) (h : Heap) : b150_0 O R q x0 h = stepF c150 O R q 0 [x0] h := by kernel_rfl
def d150 : BlkF := fun O R Q => [.s fun a => .z (b150_0 O R Q a)]
theorem o150 (O : Oracle) (R : Jump) (q : Nat) : HoldsAll c150 O R q 0 (d150 O R q) := ⟨e150_0 O R q, trivial⟩
def c151 : MFunc := mkM (compF Tryd.prog (globs2 tabs opq) (fun _ => false) true Tryd.f151) .n
def b151_0 (O : Oracle) (R : Jump) (q : Nat) (x0 x1 : TVal) (h : Heap) : Res1 :=
 vcall O (.v (.c (.func 177 []))) [x0, x1] h 7 fun x7 h =>
 vbin .geq 0 x7 (kI 0) h fun x8 h =>
 tcomp x8 fun c0 => vfin true q [c0] h
theorem e151_0 (O : Oracle) (R : Jump) (q : Nat) (x0 x1 : TVal) (h : Heap) : b151_0 O R q x0 x1 h = stepF c151 O R q 0 [x0, x1] h := by kernel_rfl
def d151 : BlkF := fun O R Q => [.s fun a => .s fun b => .z (b151_0 O R Q a b)]
theorem o151 (O : Oracle) (R : Jump) (q : Nat) : HoldsAll c151 O R q 0 (d151 O R q) := ⟨e151_0 O R q, trivial⟩
def c152 : MFunc := mkM (compF Tryd.prog (globs2 tabs opq) (fun _ => false) true Tryd.f152) .n
def b152_0 (O : Oracle) (R : Jump) (q : Nat) (x0 : TVal) (h : Heap) : Res1 :=
 vop O (.box (.k x0) false) h 1 fun x1 h =>
 vfaddr 0 x1 h fun x3 h =>
 vload false 1 x3 h fun x4 h =>
 vbin .neq 0 x4 (kI 1) h fun x5 h =>
 tcomp x5 fun c0 => vfin true q [c0] h
theorem e152_0 (O : Oracle) (R : Jump) (q : Nat) (x0 : TVal) (h : Heap) : b152_0 O R q x0 h = stepF c152 O R q 0 [x0] h := by kernel_rfl
def d152 : BlkF := fun O R Q => [.s fun a => .z (b152_0 O R Q a)]
theorem o152 (O : Oracle) (R : Jump) (q : Nat) : HoldsAll c152 O R q 0 (d152 O R q) := ⟨e152_0 O R q, trivial⟩
def c153 : MFunc := mkM (compF Tryd.prog (globs2 tabs opq) (fun _ => false) true Tryd.f153) .n
def b153_0 (O : Oracle) (R : Jump) (q : Nat) (x0 : TVal) (h : Heap) : Res1 :=
 vop O (.alloc [(.p (.int .i64 0)), (.p (.bool false)), (.p (.int .i64 0)), (.p (.str [])), (.p .nilslice), (.p .nilslice)] false) h 2 fun x2 h =>
 vop O (.build [(.p (.int .i64 0)), (.p (.bool false)), (.p (.int .i64 0)), (.p (.str [])), (.p .nilslice), (.p .nilslice)] [(0, 1, (.k (kI 3))), (3, 1, (.k x0))]) h 4 fun x4 h =>
 vstore 6 x2 x4 h fun _ h =>
 vcell true 6 x2 h fun c0 => vfin true q [c0] h
theorem e153_0 (O : Oracle) (R : Jump) (q : Nat) (x0 : TVal) (h : Heap) : b153_0 O R q x0 h = stepF c153 O R q 0 [x0] h := by kernel_rfl
def d153 : BlkF := fun O R Q => [.s fun a => .z (b153_0 O R Q a)]
theorem o153 (O : Oracle) (R : Jump) (q : Nat) : HoldsAll c153 O R q 0 (d153 O R q) := ⟨e153_0 O R q, trivial⟩
def c154 : MFunc := mkM (compF Tryd.prog (globs2 tabs opq) (fun _ => false) true Tryd.f154) .n
def b154_0 (O : Oracle) (R : Jump) (q : Nat) (x0 x1 : TVal) (h : Heap) : Res1 :=
 vcall O (.v (.c (.func 178 []))) [x0, x1] h 7 fun x7 h =>
 tcomp x7 fun c0 => vfin true q [c0] h
theorem e154_0 (O : Oracle) (R : Jump) (q : Nat) (x0 x1 : TVal) (h : Heap) : b154_0 O R q x0 x1 h = stepF c154 O R q 0 [x0, x1] h := by kernel_rfl
def d154 : BlkF := fun O R Q => [.s fun a => .s fun b => .z (b154_0 O R Q a b)]
theorem o154 (O : Oracle) (R : Jump) (q : Nat) : HoldsAll c154 O R q 0 (d154 O R q) := ⟨e154_0 O R q, trivial⟩
def c155 : MFunc := mkM (compF Tryd.prog (globs2 tabs opq) (fun _ => false) true Tryd.f155) .n
def b155_0 (O : Oracle) (R : Jump) (q : Nat) (x0 : TVal) (h : Heap) : Res1 :=
 vcall O (.v (.c (.func 179 []))) [x0] h 4 fun x4 h =>
 tcomp x4 fun c0 => vfin true q [c0] h
theorem e155_0 (O : Oracle) (R : Jump) (q : Nat) (x0 : TVal) (h : Heap) : b155_0 O R q x0 h = stepF c155 O R q 0 [x0] h := by kernel_rfl
def d155 : BlkF := fun O R Q => [.s fun a => .z (b155_0 O R Q a)]
theorem o155 (O : Oracle) (R : Jump) (q : Nat) : HoldsAll c155 O R q 0 (d155 O R q) := ⟨e155_0 O R q, trivial⟩
def c156 : MFunc := mkM (compF Tryd.prog (globs2 tabs opq) (fun _ => false) true Tryd.f156) (.s .n (.s .n (.s (.s .n (.k (.l 1 [1, 2, 14, 15, 16] .n))) (.m 2 [1, 2] .n))))
def b156_0 (O : Oracle) (R : Jump) (q : Nat) (x0 : TVal) (h : Heap) : Res1 :=
 vop O (.box (.k x0) false) h 1 fun x1 h =>
 vop O (.alloc [(.p (.int .i64 0)), (.p (.bool false)), (.p (.int .i64 0)), (.p (.str [])), (.p .nilslice), (.p .nilslice)] false) h 2 fun x2 h =>
 vtouch O (.faddr 4 (.k x1)) h 5 fun x5 h t0 =>
 vtouch O (.load false 1 (.k x5)) h 6 fun x6 h t1 =>
 vtouch O (.call (.k (.v (.c (.func 132 [])))) [(.k x6)]) h 7 fun x7 h t2 =>
 vtouch O (.faddr 5 (.k x1)) h 8 fun x8 h t3 =>
 vtouch O (.load false 1 (.k x8)) h 9 fun x9 h t4 =>
 vtouch O (.call (.k (.v (.c (.func 105 [])))) [(.k x9)]) h 10 fun x10 h t5 =>
 vtouch O (.faddr 4 (.k x1)) h 11 fun x11 h t6 =>
 vtouch O (.store 1 (.k x11) (.k x7)) h 1000000 fun _ h t7 =>
 vtouch O (.faddr 5 (.k x1)) h 12 fun x12 h t8 =>
 vtouch O (.store 1 (.k x12) (.k x10)) h 1000000 fun _ h t9 =>
 bif apartAll [t0, t1, t2, t3, t4, t5, t6, t7, t8, t9] [(2, 4)] then
 vfaddr 5 x1 h fun x13 h =>
 vload false 1 x13 h fun x14 h =>
 vlen O 2 x14 h 15 fun x15 h =>
 R 1 [x1, x2, x14, x15, (kI 0)] h
 else none
theorem e156_0 (O : Oracle) (R : Jump) (q : Nat) (x0 : TVal) (h : Heap) : b156_0 O R q x0 h = stepF c156 O R q 0 [x0] h := by kernel_rfl
def b156_1 (O : Oracle) (R : Jump) (q : Nat) (x1 x2 x14 x15 x16 : TVal) (h : Heap) : Res1 :=
 vbin .lss 0 x16 x15 h fun x17 h =>
 vif x17 (
 viaddr 6 x14 x16 h fun x19 h =>
 vload true 6 x19 h fun x20 h =>
 vop O (.alloc [(.p (.int .i64 0)), (.p (.bool false)), (.p (.int .i64 0)), (.p (.str [])), (.p .nilslice), (.p .nilslice)] false) h 4 fun x4 h =>
 vstore 6 x4 x20 h fun _ h =>
 vtouch O (.faddr 5 (.k x1)) h 21 fun x21 h t0 =>
 vtouch O (.load false 1 (.k x21)) h 22 fun x22 h t1 =>
 vtouch O (.mv (.k x16)) h 23 fun x23 h t2 =>
 vtouch O (.load true 6 (.k x4)) h 24 fun x24 h t3 =>
 vtouch O (.call (.k (.v (.c (.func 156 [])))) [(.k x24)]) h 25 fun x25 h t4 =>
 vtouch O (.iaddr 6 (.k x22) (.k x23)) h 26 fun x26 h t5 =>
 vtouch O (.store 6 (.k x26) (.k x25)) h 1000000 fun _ h t6 =>
 bif apartAll [t0, t1, t2, t3, t4, t5, t6] [(1, 4)] then
 vbin .add 0 x16 (kI 1) h fun x27 h =>
 R 1 [x1, x2, x14, x15, x27] h
 else none)
 (R 2 [x1, x2] h)
theorem e156_1 (O : Oracle) (R : Jump) (q : Nat) (x1 x2 x14 x15 x16 : TVal) (h : Heap) : b156_1 O R q x1 x2 x14 x15 x16 h = stepF c156 O R q 1 [x1, x2, x14, x15, x16] h := by kernel_rfl
def b156_2 (O : Oracle) (R : Jump) (q : Nat) (x1 x2 : TVal) (h : Heap) : Res1 :=
 vload true 6 x1 h fun x28 h =>
 vstore 6 x2 x28 h fun _ h =>
 vcell true 6 x2 h fun c0 => vfin true q [c0] h
theorem e156_2 (O : Oracle) (R : Jump) (q : Nat) (x1 x2 : TVal) (h : Heap) : b156_2 O R q x1 x2 h = stepF c156 O R q 2 [x1, x2] h := by kernel_rfl
def d156 : BlkF := fun O R Q => [.s fun a => .z (b156_0 O R Q a), .s fun a => .s fun b => .s fun c => .s fun d => .s fun e => .z (b156_1 O R Q a b c d e), .s fun a => .s fun b => .z (b156_2 O R Q a b)]
theorem o156 (O : Oracle) (R : Jump) (q : Nat) : HoldsAll c156 O R q 0 (d156 O R q) := ⟨e156_0 O R q, e156_1 O R q, e156_2 O R q, trivial⟩
def c157 : MFunc := mkM (compF Tryd.prog (globs2 tabs opq) (fun _ => false) true Tryd.f157) .n
def b157_0 (O : Oracle) (R : Jump) (q : Nat) (x0 : TVal) (h : Heap) : Res1 :=
 vop O (.box (.k x0) false) h 1 fun x1 h =>
 vfaddr 0 x1 h fun x3 h =>
 vload false 1 x3 h fun x4 h =>
 vbin .neq 0 x4 (kI 2) h fun x5 h =>
 tcomp x5 fun c0 => vfin true q [c0] h
theorem e157_0 (O : Oracle) (R : Jump) (q : Nat) (x0 : TVal) (h : Heap) : b157_0 O R q x0 h = stepF c157 O R q 0 [x0] h := by kernel_rfl
def d157 : BlkF := fun O R Q => [.s fun a => .z (b157_0 O R Q a)]
theorem o157 (O : Oracle) (R : Jump) (q : Nat) : HoldsAll c157 O R q 0 (d157 O R q) := ⟨e157_0 O R q, trivial⟩
def c158 : MFunc := mkM (compF Tryd.prog (globs2 tabs opq) (fun _ => false) true Tryd.f158) .n
def b158_0 (O : Oracle) (R : Jump) (q : Nat) (x0 x1 : TVal) (h : Heap) : Res1 :=
 vbin .eql 0 x0 (kS [105, 56]) h fun x7 h =>
 vif x7 (
 vtoInt .i8 x1 h fun x9 h =>
 vtoInt .i64 x9 h fun x10 h =>
 tcomp x10 fun c0 => vfin true q [c0] h)
 (vbin .eql 0 x0 (kS [105, 49, 54]) h fun x12 h =>
 vif x12 (
 vtoInt .i16 x1 h fun x14 h =>
 vtoInt .i64 x14 h fun x15 h =>
 tcomp x15 fun c0 => vfin true q [c0] h)
 (vbin .eql 0 x0 (kS [105, 51, 50]) h fun x17 h =>
 vif x17 (
 vtoInt .i32 x1 h fun x19 h =>
 vtoInt .i64 x19 h fun x20 h =>
 tcomp x20 fun c0 => vfin true q [c0] h)
 (vbin .eql 0 x0 (kS [117, 56]) h fun x22 h =>
 vif x22 (
 vtoInt .u8 x1 h fun x24 h =>
 vtoInt .i64 x24 h fun x25 h =>
 tcomp x25 fun c0 => vfin true q [c0] h)
 (vbin .eql 0 x0 (kS [117, 49, 54]) h fun x27 h =>
 vif x27 (
 vtoInt .u16 x1 h fun x29 h =>
 vtoInt .i64 x29 h fun x30 h =>
 tcomp x30 fun c0 => vfin true q [c0] h)
 (vtoInt .u32 x1 h fun x32 h =>
 vtoInt .i64 x32 h fun x33 h =>
 tcomp x33 fun c0 => vfin true q [c0] h)))))
theorem e158_0 (O : Oracle) (R : Jump) (q : Nat) (x0 x1 : TVal) (h : Heap) : b158_0 O R q x0 x1 h = stepF c158 O R q 0 [x0, x1] h := by kernel_rfl
def d158 : BlkF := fun O R Q => [.s fun a => .s fun b => .z (b158_0 O R Q a b)]
theorem o158 (O : Oracle) (R : Jump) (q : Nat) : HoldsAll c158 O R q 0 (d158 O R q) := ⟨e158_0 O R q, trivial⟩
def c159 : MFunc := mkM (compF Tryd.prog (globs2 tabs opq) (fun _ => false) true Tryd.f159) .n
def b159_0 (O : Oracle) (R : Jump) (q : Nat) (x0 x1 x2 : TVal) (h : Heap) : Res1 :=
 vbin .eql 0 x0 (kS [97, 100, 100]) h fun x9 h =>
 vif x9 (
 vbin .add 0 x1 x2 h fun x12 h =>
 tcomp x12 fun c0 => vfin true q [c0] h)
 (vbin .eql 0 x0 (kS [115, 117, 98]) h fun x14 h =>
 vif x14 (
 vbin .sub 0 x1 x2 h fun x17 h =>
 tcomp x17 fun c0 => vfin true q [c0] h)
 (vbin .eql 0 x0 (kS [109, 117, 108]) h fun x19 h =>
 vif x19 (
 vbin .mul 0 x1 x2 h fun x22 h =>
 tcomp x22 fun c0 => vfin true q [c0] h)
 (vbin .eql 0 x0 (kS [115, 104, 108]) h fun x24 h =>
 vif x24 (
 vtoInt .u64 x2 h fun x27 h =>
 vbin .rem 0 x27 (.v (.c (.p (.int .u64 64)))) h fun x28 h =>
 vbin .shl 0 x1 x28 h fun x29 h =>
 tcomp x29 fun c0 => vfin true q [c0] h)
 (vtoInt .u64 x2 h fun x32 h =>
 vbin .rem 0 x32 (.v (.c (.p (.int .u64 64)))) h fun x33 h =>
 vbin .shr 0 x1 x33 h fun x34 h =>
 tcomp x34 fun c0 => vfin true q [c0] h))))
theorem e159_0 (O : Oracle) (R : Jump) (q : Nat) (x0 x1 x2 : TVal) (h : Heap) : b159_0 O R q x0 x1 x2 h = stepF c159 O R q 0 [x0, x1, x2] h := by kernel_rfl
def d159 : BlkF := fun O R Q => [.s fun a => .s fun b => .s fun c => .z (b159_0 O R Q a b c)]
theorem o159 (O : Oracle) (R : Jump) (q : Nat) : HoldsAll c159 O R q 0 (d159 O R q) := ⟨e159_0 O R q, trivial⟩
def c174 : MFunc := mkM (compF Tryd.prog (globs2 tabs opq) (fun _ => false) true Tryd.f174) .n
def b174_0 (O : Oracle) (R : Jump) (q : Nat) (x0 : TVal) (h : Heap) : Res1 :=
 vbin .geq 0 x0 (.v (.c (.p (.int .u8 48)))) h fun x4 h =>
 vguard x4 true (fun kk => kk x0 h) h fun x6 h =>
 vguard x4 true (fun kk => vbin .leq 0 x6 (.v (.c (.p (.int .u8 57)))) h kk) h fun x7 h =>
 vop O (.pick (.k x4) (.k x7) (.k (kB false))) h 8 fun x8 h =>
 tcomp x8 fun c0 => vfin true q [c0] h
theorem e174_0 (O : Oracle) (R : Jump) (q : Nat) (x0 : TVal) (h : Heap) : b174_0 O R q x0 h = stepF c174 O R q 0 [x0] h := by kernel_rfl
def d174 : BlkF := fun O R Q => [.s fun a => .z (b174_0 O R Q a)]
theorem o174 (O : Oracle) (R : Jump) (q : Nat) : HoldsAll c174 O R q 0 (d174 O R q) := ⟨e174_0 O R q, trivial⟩
def c175 : MFunc := mkM (compF Tryd.prog (globs2 tabs opq) (fun _ => false) true Tryd.f175) .n
def b175_0 (O : Oracle) (R : Jump) (q : Nat) (x0 : TVal) (h : Heap) : Res1 :=
 vcall O (.v (.c (.func 180 []))) [x0, (.v (.c (.func 181 [])))] h 4 fun x4 h =>
 tcomp x4 fun c0 => vfin true q [c0] h
theorem e175_0 (O : Oracle) (R : Jump) (q : Nat) (x0 : TVal) (h : Heap) : b175_0 O R q x0 h = stepF c175 O R q 0 [x0] h := by kernel_rfl
def d175 : BlkF := fun O R Q => [.s fun a => .z (b175_0 O R Q a)]
theorem o175 (O : Oracle) (R : Jump) (q : Nat) : HoldsAll c175 O R q 0 (d175 O R q) := ⟨e175_0 O R q, trivial⟩
def c176 : MFunc := mkM (compF Tryd.prog (globs2 tabs opq) (fun _ => false) true Tryd.f176) .n
def b176_0 (O : Oracle) (R : Jump) (q : Nat) (x0 x1 : TVal) (h : Heap) : Res1 :=
 vcall O (.v (.c (.func 183 []))) [x0, x1] h 7 fun x7 h =>
 tcomp x7 fun c0 => vfin true q [c0] h
theorem e176_0 (O : Oracle) (R : Jump) (q : Nat) (x0 x1 : TVal) (h : Heap) : b176_0 O R q x0 x1 h = stepF c176 O R q 0 [x0, x1] h := by kernel_rfl
def d176 : BlkF := fun O R Q => [.s fun a => .s fun b => .z (b176_0 O R Q a b)]
theorem o176 (O : Oracle) (R : Jump) (q : Nat) : HoldsAll c176 O R q 0 (d176 O R q) := ⟨e176_0 O R q, trivial⟩
def c177 : MFunc := mkM (compF Tryd.prog (globs2 tabs opq) (fun _ => false) true Tryd.f177) (.s .n (.s (.s .n (.k (.l 1 [0, 1, 7, 8] .n))) .n))
def b177_0 (O : Oracle) (R : Jump) (q : Nat) (x0 x1 : TVal) (h : Heap) : Res1 :=
 vlen O 2 x0 h 7 fun x7 h =>
 R 1 [x0, x1, x7, (kI 0)] h
theorem e177_0 (O : Oracle) (R : Jump) (q : Nat) (x0 x1 : TVal) (h : Heap) : b177_0 O R q x0 x1 h = stepF c177 O R q 0 [x0, x1] h := by kernel_rfl
def b177_1 (O : Oracle) (R : Jump) (q : Nat) (x0 x1 x7 x8 : TVal) (h : Heap) : Res1 :=
 vbin .lss 0 x8 x7 h fun x9 h =>
 vif x9 (
 viaddr 6 x0 x8 h fun x14 h =>
 vload true 6 x14 h fun x15 h =>
 vcall O x1 [x15] h 16 fun x16 h =>
 vif x16 (
 tcomp x8 fun c0 => vfin true q [c0] h)
 (vbin .add 0 x8 (kI 1) h fun x18 h =>
 R 1 [x0, x1, x7, x18] h))
 (tcomp (kI (-1)) fun c0 => vfin true q [c0] h)
theorem e177_1 (O : Oracle) (R : Jump) (q : Nat) (x0 x1 x7 x8 : TVal) (h : Heap) : b177_1 O R q x0 x1 x7 x8 h = stepF c177 O R q 1 [x0, x1, x7, x8] h := by kernel_rfl
def d177 : BlkF := fun O R Q => [.s fun a => .s fun b => .z (b177_0 O R Q a b), .s fun a => .s fun b => .s fun c => .s fun d => .z (b177_1 O R Q a b c d)]
theorem o177 (O : Oracle) (R : Jump) (q : Nat) : HoldsAll c177 O R q 0 (d177 O R q) := ⟨e177_0 O R q, e177_1 O R q, trivial⟩
def c178 : MFunc := mkM (compF Tryd.prog (globs2 tabs opq) (fun _ => false) true Tryd.f178) (.s .n (.s (.s .n (.s (.s .n (.s .n (.s .n (.s .n (.m 1 [0, 5, 6] .n))))) .n)) .n))
def b178_0 (O : Oracle) (R : Jump) (q : Nat) (x0 x1 : TVal) (h : Heap) : Res1 :=
 vbin .eql 0 x1 (kI 10) h fun x11 h =>
 vif x11 (
 vbin .leq 0 (kI 0) x0 h fun x13 h =>
 vguard x13 true (fun kk => kk x0 h) h fun x15 h =>
 vguard x13 true (fun kk => vbin .lss 0 x15 (kI 100) h kk) h fun x16 h =>
 vop O (.pick (.k x13) (.k x16) (.k (kB false))) h 17 fun x17 h =>
 vif x17 (
 vcall O (.v (.c (.func 184 []))) [x0] h 19 fun x19 h =>
 tcomp x19 fun c0 => vfin true q [c0] h)
 (vop O (.alloc [(.p (.int .u8 0)), (.p (.int .u8 0)), (.p (.int .u8 0)), (.p (.int .u8 0)), (.p (.int .u8 0)), (.p (.int .u8 0)), (.p (.int .u8 0)), (.p (.int .u8 0)), (.p (.int .u8 0)), (.p (.int .u8 0)), (.p (.int .u8 0)), (.p (.int .u8 0)), (.p (.int .u8 0)), (.p (.int .u8 0)), (.p (.int .u8 0)), (.p (.int .u8 0)), (.p (.int .u8 0)), (.p (.int .u8 0)), (.p (.int .u8 0)), (.p (.int .u8 0)), (.p (.int .u8 0)), (.p (.int .u8 0)), (.p (.int .u8 0)), (.p (.int .u8 0))] false) h 5 fun x5 h =>
 vtoInt .u64 x0 h fun x21 h =>
 vbin .lss 0 x0 (kI 0) h fun x23 h =>
 vif x23 (
 vop O (.un .neg (.k x21)) h 25 fun x25 h =>
 R 1 [x0, x5, x25] h)
 (R 1 [x0, x5, x21] h)))
 (vtoInt .u64 x0 h fun x46 h =>
 vbin .lss 0 x0 (kI 0) h fun x49 h =>
 vcall O (.v (.c (.func 187 []))) [(.v (.c (.p .nilslice))), x46, x1, x49, (kB false)] h 50 fun x50 h =>
 vext x50 0 h fun x51 h =>
 vext x50 1 h fun x52 h =>
 tcomp x52 fun c0 => vfin true q [c0] h)
theorem e178_0 (O : Oracle) (R : Jump) (q : Nat) (x0 x1 : TVal) (h : Heap) : b178_0 O R q x0 x1 h = stepF c178 O R q 0 [x0, x1] h := by kernel_rfl
def b178_1 (O : Oracle) (R : Jump) (q : Nat) (x0 x5 x6 : TVal) (h : Heap) : Res1 :=
 vcall O (.v (.c (.func 185 []))) [x6] h 27 fun x27 h =>
 vbin .add 0 (kI 1) x27 h fun x29 h =>
 vop O (.sliceA 24 1 (.k x5) (some (.k (kI 1))) (some (.k x29))) h 30 fun x30 h =>
 vcall O (.v (.c (.func 186 []))) [x30, x6] h 32 fun x32 h =>
 vbin .lss 0 x0 (kI 0) h fun x34 h =>
 vif x34 (
 vop O (.iaddrA 24 1 (.k x5) (.k (kI 0))) h 35 fun x35 h =>
 vstore 1 x35 (.v (.c (.p (.int .u8 45)))) h fun _ h =>
 vbin .add 0 (kI 1) x27 h fun x37 h =>
 vop O (.sliceA 24 1 (.k x5) none (some (.k x37))) h 38 fun x38 h =>
 vop O (.toStr (.k x38)) h 39 fun x39 h =>
 tcomp x39 fun c0 => vfin true q [c0] h)
 (vbin .add 0 (kI 1) x27 h fun x41 h =>
 vop O (.sliceA 24 1 (.k x5) (some (.k (kI 1))) (some (.k x41))) h 42 fun x42 h =>
 vop O (.toStr (.k x42)) h 43 fun x43 h =>
 tcomp x43 fun c0 => vfin true q [c0] h)
theorem e178_1 (O : Oracle) (R : Jump) (q : Nat) (x0 x5 x6 : TVal) (h : Heap) : b178_1 O R q x0 x5 x6 h = stepF c178 O R q 1 [x0, x5, x6] h := by kernel_rfl
def d178 : BlkF := fun O R Q => [.s fun a => .s fun b => .z (b178_0 O R Q a b), .s fun a => .s fun b => .s fun c => .z (b178_1 O R Q a b c)]
theorem o178 (O : Oracle) (R : Jump) (q : Nat) : HoldsAll c178 O R q 0 (d178 O R q) := ⟨e178_0 O R q, e178_1 O R q, trivial⟩
def c179 : MFunc := mkM (compF Tryd.prog (globs2 tabs opq) (fun _ => false) true Tryd.f179) .n
def b179_0 (O : Oracle) (R : Jump) (q : Nat) (x0 : TVal) (h : Heap) : Res1 :=
 vif x0 (
 tcomp (kS [116, 114, 117, 101]) fun c0 => vfin true q [c0] h)
 (tcomp (kS [102, 97, 108, 115, 101]) fun c0 => vfin true q [c0] h)
theorem e179_0 (O : Oracle) (R : Jump) (q : Nat) (x0 : TVal) (h : Heap) : b179_0 O R q x0 h = stepF c179 O R q 0 [x0] h := by kernel_rfl
def d179 : BlkF := fun O R Q => [.s fun a => .z (b179_0 O R Q a)]
theorem o179 (O : Oracle) (R : Jump) (q : Nat) : HoldsAll c179 O R q 0 (d179 O R q) := ⟨e179_0 O R q, trivial⟩
def c180 : MFunc := mkM (compF Tryd.prog (globs2 tabs opq) (fun _ => false) true Tryd.f180) (.s .n (.s (.s .n (.k (.l 1 [0, 1, 7] .n))) (.m 2 [0] .n)))
def b180_0 (O : Oracle) (R : Jump) (q : Nat) (x0 x1 : TVal) (h : Heap) : Res1 :=
 vop O (.rangeS (.k x0)) h 7 fun x7 h =>
 R 1 [x0, x1, x7] h
theorem e180_0 (O : Oracle) (R : Jump) (q : Nat) (x0 x1 : TVal) (h : Heap) : b180_0 O R q x0 x1 h = stepF c180 O R q 0 [x0, x1] h := by kernel_rfl
def b180_1 (O : Oracle) (R : Jump) (q : Nat) (x0 x1 x7 : TVal) (h : Heap) : Res1 :=
 vop O (.nextS (.k x7)) h 8 fun x8 h =>
 vext x8 0 h fun x9 h =>
 vif x9 (
 vext x8 1 h fun x10 h =>
 vindex x0 x10 h fun x14 h =>
 vcall O x1 [x14] h 15 fun x15 h =>
 vop O (.un .not (.k x15)) h 16 fun x16 h =>
 vif x16 (
 tcomp x10 fun c0 => vfin true q [c0] h)
 (R 1 [x0, x1, x7] h))
 (R 2 [x0] h)
theorem e180_1 (O : Oracle) (R : Jump) (q : Nat) (x0 x1 x7 : TVal) (h : Heap) : b180_1 O R q x0 x1 x7 h = stepF c180 O R q 1 [x0, x1, x7] h := by kernel_rfl
def b180_2 (O : Oracle) (R : Jump) (q : Nat) (x0 : TVal) (h : Heap) : Res1 :=
 vlen O 0 x0 h 19 fun x19 h =>
 tcomp x19 fun c0 => vfin true q [c0] h
theorem e180_2 (O : Oracle) (R : Jump) (q : Nat) (x0 : TVal) (h : Heap) : b180_2 O R q x0 h = stepF c180 O R q 2 [x0] h := by kernel_rfl
def d180 : BlkF := fun O R Q => [.s fun a => .s fun b => .z (b180_0 O R Q a b), .s fun a => .s fun b => .s fun c => .z (b180_1 O R Q a b c), .s fun a => .z (b180_2 O R Q a)]
theorem o180 (O : Oracle) (R : Jump) (q : Nat) : HoldsAll c180 O R q 0 (d180 O R q) := ⟨e180_0 O R q, e180_1 O R q, e180_2 O R q, trivial⟩
def c181 : MFunc := mkM (compF Tryd.prog (globs2 tabs opq) (fun _ => false) true Tryd.f181) .n
def b181_0 (O : Oracle) (R : Jump) (q : Nat) (x0 : TVal) (h : Heap) : Res1 :=
 vcall O (.v (.c (.func 182 []))) [x0] h 4 fun x4 h =>
 vguard x4 false (fun kk => kk x0 h) h fun x6 h =>
 vguard x4 false (fun kk => vcall O (.v (.c (.func 174 []))) [x6] h 7 kk) h fun x7 h =>
 vop O (.pick (.k x4) (.k (kB true)) (.k x7)) h 8 fun x8 h =>
 tcomp x8 fun c0 => vfin true q [c0] h
theorem e181_0 (O : Oracle) (R : Jump) (q : Nat) (x0 : TVal) (h : Heap) : b181_0 O R q x0 h = stepF c181 O R q 0 [x0] h := by kernel_rfl
def d181 : BlkF := fun O R Q => [.s fun a => .z (b181_0 O R Q a)]
theorem o181 (O : Oracle) (R : Jump) (q : Nat) : HoldsAll c181 O R q 0 (d181 O R q) := ⟨e181_0 O R q, trivial⟩
def c182 : MFunc := mkM (compF Tryd.prog (globs2 tabs opq) (fun _ => false) true Tryd.f182) .n
def b182_0 (O : Oracle) (R : Jump) (q : Nat) (x0 : TVal) (h : Heap) : Res1 :=
 vbin .eql 0 x0 (.v (.c (.p (.int .u8 95)))) h fun x4 h =>
 vguard x4 false (fun kk => kk x0 h) h fun x6 h =>
 vguard x4 false (fun kk => vbin .or 0 x6 (.v (.c (.p (.int .u8 32)))) h kk) h fun x7 h =>
 vguard x4 false (fun kk => vbin .geq 0 x7 (.v (.c (.p (.int .u8 97)))) h kk) h fun x8 h =>
 vguard x4 false (fun kk => kk x8 h) h fun x9 h =>
 vguard x9 true (fun kk => kk x0 h) h fun x10 h =>
 vguard x9 true (fun kk => vbin .or 0 x10 (.v (.c (.p (.int .u8 32)))) h kk) h fun x11 h =>
 vguard x9 true (fun kk => vbin .leq 0 x11 (.v (.c (.p (.int .u8 122)))) h kk) h fun x12 h =>
 vguard x4 false (fun kk => vop O (.pick (.k x9) (.k x12) (.k (kB false))) h 13 kk) h fun x13 h =>
 vop O (.pick (.k x4) (.k (kB true)) (.k x13)) h 14 fun x14 h =>
 tcomp x14 fun c0 => vfin true q [c0] h
theorem e182_0 (O : Oracle) (R : Jump) (q : Nat) (x0 : TVal) (h : Heap) : b182_0 O R q x0 h = stepF c182 O R q 0 [x0] h := by kernel_rfl
def d182 : BlkF := fun O R Q => [.s fun a => .z (b182_0 O R Q a)]
theorem o182 (O : Oracle) (R : Jump) (q : Nat) : HoldsAll c182 O R q 0 (d182 O R q) := ⟨e182_0 O R q, trivial⟩
def c183 : MFunc := mkM (compF Tryd.prog (globs2 tabs opq) (fun _ => false) true Tryd.f183) (.s .n (.s .n (.s .n (.s .n (.s .n (.s .n (.s .n (.s .n (.s (.k (.l 1 [0, 1, 5, 6, 7, 8, 9, 10] (.s .n (.k (.s .n (.m 2 [0, 1, 5, 6, 7, 8, 9, 10] .n)))))) .n)))))))))
def b183_0 (O : Oracle) (R : Jump) (q : Nat) (x0 x1 : TVal) (h : Heap) : Res1 :=
 vlen O 0 x1 h 15 fun x15 h =>
 vbin .eql 0 x15 (kI 0) h fun x18 h =>
 vguard x18 false (fun kk => kk x1 h) h fun x20 h =>
 vguard x18 false (fun kk => kk x0 h) h fun x21 h =>
 vguard x18 false (fun kk => vbin .eql 0 x20 x21 h kk) h fun x22 h =>
 vop O (.pick (.k x18) (.k (kB true)) (.k x22)) h 23 fun x23 h =>
 vif x23 (
 tcomp (kI 0) fun c0 => vfin true q [c0] h)
 (vbin .eql 0 x15 (kI 1) h fun x26 h =>
 vif x26 (
 vindex x1 (kI 0) h fun x29 h =>
 vcall O (.v (.c (.func 188 []))) [x0, x29] h 30 fun x30 h =>
 tcomp x30 fun c0 => vfin true q [c0] h)
 (vlen O 0 x0 h 34 fun x34 h =>
 vbin .geq 0 x15 x34 h fun x35 h =>
 vif x35 (
 tcomp (kI (-1)) fun c0 => vfin true q [c0] h)
 (vload false 1 (.v (.c (.p (.pptr [(.sym .i64 63 (.ofNat 0) (.ofNat 1) (.ofNat 0))] 0)))) h fun x38 h =>
 vbin .leq 0 x15 x38 h fun x39 h =>
 vguard x39 true (fun kk => kk x0 h) h fun x41 h =>
 vguard x39 true (fun kk => vlen O 0 x41 h 42 kk) h fun x42 h =>
 vguard x39 true (fun kk => vbin .leq 0 x42 (kI 64) h kk) h fun x43 h =>
 vop O (.pick (.k x39) (.k x43) (.k (kB false))) h 44 fun x44 h =>
 vif x44 (
 vcall O (.v (.c (.func 189 []))) [x0, x1] h 47 fun x47 h =>
 tcomp x47 fun c0 => vfin true q [c0] h)
 (vindex x1 (kI 0) h fun x49 h =>
 vindex x1 (kI 1) h fun x51 h =>
 vlen O 0 x0 h 53 fun x53 h =>
 vbin .sub 0 x53 x15 h fun x55 h =>
 vbin .add 0 x55 (kI 1) h fun x56 h =>
 R 1 [x0, x1, x15, x49, x51, (kI 0), x56, (kI 0)] h))))
theorem e183_0 (O : Oracle) (R : Jump) (q : Nat) (x0 x1 : TVal) (h : Heap) : b183_0 O R q x0 x1 h = stepF c183 O R q 0 [x0, x1] h := by kernel_rfl
def b183_1 (O : Oracle) (R : Jump) (q : Nat) (x0 x1 x5 x6 x7 x8 x9 x10 : TVal) (h : Heap) : Res1 :=
 vbin .lss 0 x8 x9 h fun x59 h =>
 vif x59 (
 vindex x0 x8 h fun x62 h =>
 vbin .neq 0 x62 x6 h fun x64 h =>
 vif x64 (
 vbin .add 0 x8 (kI 1) h fun x67 h =>
 vop O (.slice 0 true (.k x0) (some (.k x67)) (some (.k x9)) none) h 69 fun x69 h =>
 vcall O (.v (.c (.func 188 []))) [x69, x6] h 71 fun x71 h =>
 vbin .lss 0 x71 (kI 0) h fun x73 h =>
 vif x73 (
 tcomp (kI (-1)) fun c0 => vfin true q [c0] h)
 (vbin .add 0 x71 (kI 1) h fun x76 h =>
 vbin .add 0 x8 x76 h fun x77 h =>
 R 2 [x0, x1, x5, x6, x7, x77, x9, x10] h))
 (R 2 [x0, x1, x5, x6, x7, x8, x9, x10] h))
 (tcomp (kI (-1)) fun c0 => vfin true q [c0] h)
theorem e183_1 (O : Oracle) (R : Jump) (q : Nat) (x0 x1 x5 x6 x7 x8 x9 x10 : TVal) (h : Heap) : b183_1 O R q x0 x1 x5 x6 x7 x8 x9 x10 h = stepF c183 O R q 1 [x0, x1, x5, x6, x7, x8, x9, x10] h := by kernel_rfl
def b183_2 (O : Oracle) (R : Jump) (q : Nat) (x0 x1 x5 x6 x7 x8 x9 x10 : TVal) (h : Heap) : Res1 :=
 vbin .add 0 x8 (kI 1) h fun x80 h =>
 vindex x0 x80 h fun x81 h =>
 vbin .eql 0 x81 x7 h fun x83 h =>
 vguard x83 true (fun kk => kk x0 h) h fun x85 h =>
 vguard x83 true (fun kk => kk x8 h) h fun x86 h =>
 vguard x83 true (fun kk => kk x8 h) h fun x87 h =>
 vguard x83 true (fun kk => kk x5 h) h fun x88 h =>
 vguard x83 true (fun kk => vbin .add 0 x87 x88 h kk) h fun x89 h =>
 vguard x83 true (fun kk => vop O (.slice 0 true (.k x85) (some (.k x86)) (some (.k x89)) none) h 90 kk) h fun x90 h =>
 vguard x83 true (fun kk => kk x1 h) h fun x91 h =>
 vguard x83 true (fun kk => vbin .eql 0 x90 x91 h kk) h fun x92 h =>
 vop O (.pick (.k x83) (.k x92) (.k (kB false))) h 93 fun x93 h =>
 vif x93 (
 tcomp x8 fun c0 => vfin true q [c0] h)
 (vbin .add 0 x8 (kI 1) h fun x96 h =>
 vbin .add 0 x10 (kI 1) h fun x98 h =>
 vload false 1 (.v (.c (.p (.pptr [(.sym .i64 63 (.ofNat 0) (.ofNat 1) (.ofNat 0))] 0)))) h fun x100 h =>
 vbin .leq 0 x5 x100 h fun x101 h =>
 vguard x101 true (fun kk => kk x98 h) h fun x103 h =>
 vguard x101 true (fun kk => kk x96 h) h fun x104 h =>
 vguard x101 true (fun kk => vcall O (.v (.c (.func 190 []))) [x104] h 105 kk) h fun x105 h =>
 vguard x101 true (fun kk => vbin .gtr 0 x103 x105 h kk) h fun x106 h =>
 vop O (.pick (.k x101) (.k x106) (.k (kB false))) h 107 fun x107 h =>
 vif x107 (
 vop O (.slice 0 true (.k x0) (some (.k x96)) none none) h 110 fun x110 h =>
 vcall O (.v (.c (.func 189 []))) [x110, x1] h 112 fun x112 h =>
 vbin .geq 0 x112 (kI 0) h fun x114 h =>
 vif x114 (
 vbin .add 0 x112 x96 h fun x117 h =>
 tcomp x117 fun c0 => vfin true q [c0] h)
 (tcomp (kI (-1)) fun c0 => vfin true q [c0] h))
 (vload false 1 (.v (.c (.p (.pptr [(.sym .i64 63 (.ofNat 0) (.ofNat 1) (.ofNat 0))] 0)))) h fun x119 h =>
 vbin .gtr 0 x5 x119 h fun x120 h =>
 vguard x120 true (fun kk => kk x98 h) h fun x122 h =>
 vguard x120 true (fun kk => kk x96 h) h fun x123 h =>
 vguard x120 true (fun kk => vbin .shr 0 x123 (.v (.c (.p (.int .u64 4)))) h kk) h fun x124 h =>
 vguard x120 true (fun kk => vbin .add 0 (kI 4) x124 h kk) h fun x125 h =>
 vguard x120 true (fun kk => vbin .geq 0 x122 x125 h kk) h fun x126 h =>
 vop O (.pick (.k x120) (.k x126) (.k (kB false))) h 127 fun x127 h =>
 vguard x127 true (fun kk => kk x96 h) h fun x129 h =>
 vguard x127 true (fun kk => kk x9 h) h fun x130 h =>
 vguard x127 true (fun kk => vbin .lss 0 x129 x130 h kk) h fun x131 h =>
 vop O (.pick (.k x127) (.k x131) (.k (kB false))) h 132 fun x132 h =>
 vif x132 (
 vop O (.slice 0 true (.k x0) (some (.k x96)) none none) h 135 fun x135 h =>
 vcall O (.v (.c (.func 191 []))) [x135, x1] h 137 fun x137 h =>
 vbin .lss 0 x137 (kI 0) h fun x139 h =>
 vif x139 (
 tcomp (kI (-1)) fun c0 => vfin true q [c0] h)
 (vbin .add 0 x96 x137 h fun x142 h =>
 tcomp x142 fun c0 => vfin true q [c0] h))
 (R 1 [x0, x1, x5, x6, x7, x96, x9, x98] h)))
theorem e183_2 (O : Oracle) (R : Jump) (q : Nat) (x0 x1 x5 x6 x7 x8 x9 x10 : TVal) (h : Heap) : b183_2 O R q x0 x1 x5 x6 x7 x8 x9 x10 h = stepF c183 O R q 2 [x0, x1, x5, x6, x7, x8, x9, x10] h := by kernel_rfl
def d183 : BlkF := fun O R Q => [.s fun a => .s fun b => .z (b183_0 O R Q a b), .s fun a => .s fun b => .s fun c => .s fun d => .s fun e => .s fun f => .s fun g => .s fun h => .z (b183_1 O R Q a b c d e f g h), .s fun a => .s fun b => .s fun c => .s fun d => .s fun e => .s fun f => .s fun g => .s fun h => .z (b183_2 O R Q a b c d e f g h)]
theorem o183 (O : Oracle) (R : Jump) (q : Nat) : HoldsAll c183 O R q 0 (d183 O R q) := ⟨e183_0 O R q, e183_1 O R q, e183_2 O R q, trivial⟩
def c184 : MFunc := mkM (compF Tryd.prog (globs2 tabs opq) (fun _ => false) true Tryd.f184) .n
def b184_0 (O : Oracle) (R : Jump) (q : Nat) (x0 : TVal) (h : Heap) : Res1 :=
 vbin .lss 0 x0 (kI 10) h fun x4 h =>
 vif x4 (
 vbin .add 0 x0 (kI 1) h fun x7 h =>
 vop O (.slice 0 true (.k (kS [48, 49, 50, 51, 52, 53, 54, 55, 56, 57, 97, 98, 99, 100, 101, 102, 103, 104, 105, 106, 107, 108, 109, 110, 111, 112, 113, 114, 115, 116, 117, 118, 119, 120, 121, 122])) (some (.k x0)) (some (.k x7)) none) h 8 fun x8 h =>
 tcomp x8 fun c0 => vfin true q [c0] h)
 (vbin .mul 0 x0 (kI 2) h fun x10 h =>
 vbin .mul 0 x0 (kI 2) h fun x12 h =>
 vbin .add 0 x12 (kI 2) h fun x13 h =>
 vop O (.slice 0 true (.k (kS z53fdd7c2)) (some (.k x10)) (some (.k x13)) none) h 14 fun x14 h =>
 tcomp x14 fun c0 => vfin true q [c0] h)
theorem e184_0 (O : Oracle) (R : Jump) (q : Nat) (x0 : TVal) (h : Heap) : b184_0 O R q x0 h = stepF c184 O R q 0 [x0] h := by kernel_rfl
def d184 : BlkF := fun O R Q => [.s fun a => .z (b184_0 O R Q a)]
theorem o184 (O : Oracle) (R : Jump) (q : Nat) : HoldsAll c184 O R q 0 (d184 O R q) := ⟨e184_0 O R q, trivial⟩
def c185 : MFunc := mkM (compF Tryd.prog (globs2 tabs opq) (fun _ => false) true Tryd.f185) .n
def b185_0 (O : Oracle) (R : Jump) (q : Nat) (x0 : TVal) (h : Heap) : Res1 :=
 vcall O (.v (.c (.func 193 []))) [x0] h 5 fun x5 h =>
 vcall O (.v (.c (.func 192 []))) [x5] h 6 fun x6 h =>
 none
theorem e185_0 (O : Oracle) (R : Jump) (q : Nat) (x0 : TVal) (h : Heap) : b185_0 O R q x0 h = stepF c185 O R q 0 [x0] h := by kernel_rfl
def d185 : BlkF := fun O R Q => [.s fun a => .z (b185_0 O R Q a)]
theorem o185 (O : Oracle) (R : Jump) (q : Nat) : HoldsAll c185 O R q 0 (d185 O R q) := ⟨e185_0 O R q, trivial⟩
def c186 : MFunc := mkM (compF Tryd.prog (globs2 tabs opq) (fun _ => false) true Tryd.f186) (.s .n (.s (.k (.l 1 [0, 1, 4] .n)) (.m 2 [0, 1, 4] (.s .n (.s .n (.m 3 [0, 4, 12] (.s .n (.m 4 [0, 4, 12] .n))))))))
def b186_0 (O : Oracle) (R : Jump) (q : Nat) (x0 x1 : TVal) (h : Heap) : Res1 :=
 vlen O 2 x0 h 18 fun x18 h =>
 R 1 [x0, x1, x18] h
theorem e186_0 (O : Oracle) (R : Jump) (q : Nat) (x0 x1 : TVal) (h : Heap) : b186_0 O R q x0 x1 h = stepF c186 O R q 0 [x0, x1] h := by kernel_rfl
def b186_1 (O : Oracle) (R : Jump) (q : Nat) (x0 x1 x4 : TVal) (h : Heap) : Res1 :=
 vbin .geq 0 x4 (kI 8) h fun x20 h =>
 vif x20 (
 vbin .rem 0 x1 (.v (.c (.p (.int .u64 100000000)))) h fun x22 h =>
 vtoInt .u32 x22 h fun x23 h =>
 vbin .quo 0 x1 (.v (.c (.p (.int .u64 100000000)))) h fun x25 h =>
 vbin .quo 0 x23 (.v (.c (.p (.int .u32 10000)))) h fun x27 h =>
 vbin .rem 0 x23 (.v (.c (.p (.int .u32 10000)))) h fun x29 h =>
 vbin .quo 0 x29 (.v (.c (.p (.int .u32 100)))) h fun x31 h =>
 vbin .mul 0 x31 (.v (.c (.p (.int .u32 2)))) h fun x32 h =>
 vbin .rem 0 x29 (.v (.c (.p (.int .u32 100)))) h fun x34 h =>
 vbin .mul 0 x34 (.v (.c (.p (.int .u32 2)))) h fun x35 h =>
 vbin .quo 0 x27 (.v (.c (.p (.int .u32 100)))) h fun x37 h =>
 vbin .mul 0 x37 (.v (.c (.p (.int .u32 2)))) h fun x38 h =>
 vbin .rem 0 x27 (.v (.c (.p (.int .u32 100)))) h fun x40 h =>
 vbin .mul 0 x40 (.v (.c (.p (.int .u32 2)))) h fun x41 h =>
 vbin .sub 0 x4 (kI 1) h fun x44 h =>
 vbin .sub 0 x4 (kI 2) h fun x47 h =>
 vbin .add 0 x35 (.v (.c (.p (.int .u32 1)))) h fun x49 h =>
 vindex (kS z53fdd7c2) x49 h fun x50 h =>
 vindex (kS z53fdd7c2) x35 h fun x52 h =>
 viaddr 1 x0 x44 h fun x53 h =>
 vstore 1 x53 x50 h fun _ h =>
 viaddr 1 x0 x47 h fun x54 h =>
 vstore 1 x54 x52 h fun _ h =>
 vbin .sub 0 x4 (kI 3) h fun x57 h =>
 vbin .sub 0 x4 (kI 4) h fun x60 h =>
 vbin .add 0 x32 (.v (.c (.p (.int .u32 1)))) h fun x62 h =>
 vindex (kS z53fdd7c2) x62 h fun x63 h =>
 vindex (kS z53fdd7c2) x32 h fun x65 h =>
 viaddr 1 x0 x57 h fun x66 h =>
 vstore 1 x66 x63 h fun _ h =>
 viaddr 1 x0 x60 h fun x67 h =>
 vstore 1 x67 x65 h fun _ h =>
 vbin .sub 0 x4 (kI 5) h fun x70 h =>
 vbin .sub 0 x4 (kI 6) h fun x73 h =>
 vbin .add 0 x41 (.v (.c (.p (.int .u32 1)))) h fun x75 h =>
 vindex (kS z53fdd7c2) x75 h fun x76 h =>
 vindex (kS z53fdd7c2) x41 h fun x78 h =>
 viaddr 1 x0 x70 h fun x79 h =>
 vstore 1 x79 x76 h fun _ h =>
 viaddr 1 x0 x73 h fun x80 h =>
 vstore 1 x80 x78 h fun _ h =>
 vbin .sub 0 x4 (kI 7) h fun x83 h =>
 vbin .sub 0 x4 (kI 8) h fun x86 h =>
 vbin .add 0 x38 (.v (.c (.p (.int .u32 1)))) h fun x88 h =>
 vindex (kS z53fdd7c2) x88 h fun x89 h =>
 vindex (kS z53fdd7c2) x38 h fun x91 h =>
 viaddr 1 x0 x83 h fun x92 h =>
 vstore 1 x92 x89 h fun _ h =>
 viaddr 1 x0 x86 h fun x93 h =>
 vstore 1 x93 x91 h fun _ h =>
 vbin .sub 0 x4 (kI 8) h fun x95 h =>
 R 1 [x0, x25, x95] h)
 (R 2 [x0, x1, x4] h)
theorem e186_1 (O : Oracle) (R : Jump) (q : Nat) (x0 x1 x4 : TVal) (h : Heap) : b186_1 O R q x0 x1 x4 h = stepF c186 O R q 1 [x0, x1, x4] h := by kernel_rfl
def b186_2 (O : Oracle) (R : Jump) (q : Nat) (x0 x1 x4 : TVal) (h : Heap) : Res1 :=
 vtoInt .u32 x1 h fun x97 h =>
 vbin .geq 0 x4 (kI 4) h fun x99 h =>
 vif x99 (
 vbin .rem 0 x97 (.v (.c (.p (.int .u32 10000)))) h fun x101 h =>
 vbin .quo 0 x97 (.v (.c (.p (.int .u32 10000)))) h fun x103 h =>
 vbin .quo 0 x101 (.v (.c (.p (.int .u32 100)))) h fun x105 h =>
 vbin .mul 0 x105 (.v (.c (.p (.int .u32 2)))) h fun x106 h =>
 vbin .rem 0 x101 (.v (.c (.p (.int .u32 100)))) h fun x108 h =>
 vbin .mul 0 x108 (.v (.c (.p (.int .u32 2)))) h fun x109 h =>
 vbin .sub 0 x4 (kI 1) h fun x112 h =>
 vbin .sub 0 x4 (kI 2) h fun x115 h =>
 vbin .add 0 x109 (.v (.c (.p (.int .u32 1)))) h fun x117 h =>
 vindex (kS z53fdd7c2) x117 h fun x118 h =>
 vindex (kS z53fdd7c2) x109 h fun x120 h =>
 viaddr 1 x0 x112 h fun x121 h =>
 vstore 1 x121 x118 h fun _ h =>
 viaddr 1 x0 x115 h fun x122 h =>
 vstore 1 x122 x120 h fun _ h =>
 vbin .sub 0 x4 (kI 3) h fun x125 h =>
 vbin .sub 0 x4 (kI 4) h fun x128 h =>
 vbin .add 0 x106 (.v (.c (.p (.int .u32 1)))) h fun x130 h =>
 vindex (kS z53fdd7c2) x130 h fun x131 h =>
 vindex (kS z53fdd7c2) x106 h fun x133 h =>
 viaddr 1 x0 x125 h fun x134 h =>
 vstore 1 x134 x131 h fun _ h =>
 viaddr 1 x0 x128 h fun x135 h =>
 vstore 1 x135 x133 h fun _ h =>
 vbin .sub 0 x4 (kI 4) h fun x137 h =>
 R 3 [x0, x137, x103] h)
 (R 3 [x0, x4, x97] h)
theorem e186_2 (O : Oracle) (R : Jump) (q : Nat) (x0 x1 x4 : TVal) (h : Heap) : b186_2 O R q x0 x1 x4 h = stepF c186 O R q 2 [x0, x1, x4] h := by kernel_rfl
def b186_3 (O : Oracle) (R : Jump) (q : Nat) (x0 x4 x12 : TVal) (h : Heap) : Res1 :=
 vbin .geq 0 x4 (kI 2) h fun x139 h =>
 vif x139 (
 vbin .rem 0 x12 (.v (.c (.p (.int .u32 100)))) h fun x141 h =>
 vbin .mul 0 x141 (.v (.c (.p (.int .u32 2)))) h fun x142 h =>
 vbin .quo 0 x12 (.v (.c (.p (.int .u32 100)))) h fun x144 h =>
 vbin .sub 0 x4 (kI 1) h fun x147 h =>
 vbin .sub 0 x4 (kI 2) h fun x150 h =>
 vbin .add 0 x142 (.v (.c (.p (.int .u32 1)))) h fun x152 h =>
 vindex (kS z53fdd7c2) x152 h fun x153 h =>
 vindex (kS z53fdd7c2) x142 h fun x155 h =>
 viaddr 1 x0 x147 h fun x156 h =>
 vstore 1 x156 x153 h fun _ h =>
 viaddr 1 x0 x150 h fun x157 h =>
 vstore 1 x157 x155 h fun _ h =>
 vbin .sub 0 x4 (kI 2) h fun x159 h =>
 R 4 [x0, x159, x144] h)
 (R 4 [x0, x4, x12] h)
theorem e186_3 (O : Oracle) (R : Jump) (q : Nat) (x0 x4 x12 : TVal) (h : Heap) : b186_3 O R q x0 x4 x12 h = stepF c186 O R q 3 [x0, x4, x12] h := by kernel_rfl
def b186_4 (O : Oracle) (R : Jump) (q : Nat) (x0 x4 x12 : TVal) (h : Heap) : Res1 :=
 vbin .gtr 0 x4 (kI 0) h fun x161 h =>
 vif x161 (
 vbin .add 0 (.v (.c (.p (.int .u32 48)))) x12 h fun x164 h =>
 vtoInt .u8 x164 h fun x165 h =>
 viaddr 1 x0 (kI 0) h fun x166 h =>
 vstore 1 x166 x165 h fun _ h =>
 vfin true q [] h)
 (vfin true q [] h)
theorem e186_4 (O : Oracle) (R : Jump) (q : Nat) (x0 x4 x12 : TVal) (h : Heap) : b186_4 O R q x0 x4 x12 h = stepF c186 O R q 4 [x0, x4, x12] h := by kernel_rfl
def d186 : BlkF := fun O R Q => [.s fun a => .s fun b => .z (b186_0 O R Q a b), .s fun a => .s fun b => .s fun c => .z (b186_1 O R Q a b c), .s fun a => .s fun b => .s fun c => .z (b186_2 O R Q a b c), .s fun a => .s fun b => .s fun c => .z (b186_3 O R Q a b c), .s fun a => .s fun b => .s fun c => .z (b186_4 O R Q a b c)]
theorem o186 (O : Oracle) (R : Jump) (q : Nat) : HoldsAll c186 O R q 0 (d186 O R q) := ⟨e186_0 O R q, e186_1 O R q, e186_2 O R q, e186_3 O R q, e186_4 O R q, trivial⟩
def c187 : MFunc := mkM (compF Tryd.prog (globs2 tabs opq) (fun _ => false) true Tryd.f187) (.s .n (.s .n (.m 1 [0, 1, 2, 3, 4, 10, 11] (.s .n (.s .n (.s .n (.m 2 [0, 1, 2, 3, 4, 10, 11, 12, 13] (.s (.s .n (.s (.s .n (.s .n (.s .n (.s (.k (.l 3 [0, 1, 3, 4, 10, 11, 12, 13, 14, 15, 16] .n)) (.m 4 [0, 1, 3, 4, 10, 11, 12, 13] .n))))) (.s .n (.s (.k (.l 5 [0, 1, 3, 4, 10, 11, 12, 13, 17] .n)) (.m 6 [0, 1, 3, 4, 10, 11, 12, 13] .n))))) (.m 7 [0, 3, 4, 10, 11, 12, 13] (.s .n (.m 8 [0, 4, 10, 11, 12, 13] .n)))))))))))
def b187_0 (O : Oracle) (R : Jump) (q : Nat) (x0 x1 x2 x3 x4 : TVal) (h : Heap) : Res1 :=
 vbin .lss 0 x2 (kI 2) h fun x20 h =>
 vguard x20 false (fun kk => kk x2 h) h fun x22 h =>
 vguard x20 false (fun kk => vbin .eql 0 x22 (kI 10) h kk) h fun x23 h =>
 vop O (.pick (.k x20) (.k (kB true)) (.k x23)) h 24 fun x24 h =>
 vguard x24 false (fun kk => kk x2 h) h fun x26 h =>
 vguard x24 false (fun kk => vbin .gtr 0 x26 (kI 36) h kk) h fun x27 h =>
 vop O (.pick (.k x24) (.k (kB true)) (.k x27)) h 28 fun x28 h =>
 vif x28 (
 none)
 (R 1 [x0, x1, x2, x3, x4, (.v (.c (.p .nilslice))), (kS [])] h)
theorem e187_0 (O : Oracle) (R : Jump) (q : Nat) (x0 x1 x2 x3 x4 : TVal) (h : Heap) : b187_0 O R q x0 x1 x2 x3 x4 h = stepF c187 O R q 0 [x0, x1, x2, x3, x4] h := by kernel_rfl
def b187_1 (O : Oracle) (R : Jump) (q : Nat) (x0 x1 x2 x3 x4 x10 x11 : TVal) (h : Heap) : Res1 :=
 vop O (.alloc [(.p (.int .u8 0)), (.p (.int .u8 0)), (.p (.int .u8 0)), (.p (.int .u8 0)), (.p (.int .u8 0)), (.p (.int .u8 0)), (.p (.int .u8 0)), (.p (.int .u8 0)), (.p (.int .u8 0)), (.p (.int .u8 0)), (.p (.int .u8 0)), (.p (.int .u8 0)), (.p (.int .u8 0)), (.p (.int .u8 0)), (.p (.int .u8 0)), (.p (.int .u8 0)), (.p (.int .u8 0)), (.p (.int .u8 0)), (.p (.int .u8 0)), (.p (.int .u8 0)), (.p (.int .u8 0)), (.p (.int .u8 0)), (.p (.int .u8 0)), (.p (.int .u8 0)), (.p (.int .u8 0)), (.p (.int .u8 0)), (.p (.int .u8 0)), (.p (.int .u8 0)), (.p (.int .u8 0)), (.p (.int .u8 0)), (.p (.int .u8 0)), (.p (.int .u8 0)), (.p (.int .u8 0)), (.p (.int .u8 0)), (.p (.int .u8 0)), (.p (.int .u8 0)), (.p (.int .u8 0)), (.p (.int .u8 0)), (.p (.int .u8 0)), (.p (.int .u8 0)), (.p (.int .u8 0)), (.p (.int .u8 0)), (.p (.int .u8 0)), (.p (.int .u8 0)), (.p (.int .u8 0)), (.p (.int .u8 0)), (.p (.int .u8 0)), (.p (.int .u8 0)), (.p (.int .u8 0)), (.p (.int .u8 0)), (.p (.int .u8 0)), (.p (.int .u8 0)), (.p (.int .u8 0)), (.p (.int .u8 0)), (.p (.int .u8 0)), (.p (.int .u8 0)), (.p (.int .u8 0)), (.p (.int .u8 0)), (.p (.int .u8 0)), (.p (.int .u8 0)), (.p (.int .u8 0)), (.p (.int .u8 0)), (.p (.int .u8 0)), (.p (.int .u8 0)), (.p (.int .u8 0))] false) h 12 fun x12 h =>
 vif x3 (
 vop O (.un .neg (.k x1)) h 32 fun x32 h =>
 R 2 [x0, x32, x2, x3, x4, x10, x11, x12, (kI 65)] h)
 (R 2 [x0, x1, x2, x3, x4, x10, x11, x12, (kI 65)] h)
theorem e187_1 (O : Oracle) (R : Jump) (q : Nat) (x0 x1 x2 x3 x4 x10 x11 : TVal) (h : Heap) : b187_1 O R q x0 x1 x2 x3 x4 x10 x11 h = stepF c187 O R q 1 [x0, x1, x2, x3, x4, x10, x11] h := by kernel_rfl
def b187_2 (O : Oracle) (R : Jump) (q : Nat) (x0 x1 x2 x3 x4 x10 x11 x12 x13 : TVal) (h : Heap) : Res1 :=
 vcall O (.v (.c (.func 195 []))) [x2] h 34 fun x34 h =>
 vif x34 (
 vtoInt .u64 x2 h fun x36 h =>
 vcall O (.v (.c (.func 196 []))) [x36] h 37 fun x37 h =>
 vtoInt .u64 x37 h fun x38 h =>
 vtoInt .u64 x2 h fun x40 h =>
 vtoInt .u64 x2 h fun x42 h =>
 vbin .sub 0 x42 (.v (.c (.p (.int .u64 1)))) h fun x43 h =>
 R 3 [x0, x1, x3, x4, x10, x11, x12, x13, x38, x40, x43] h)
 (vtoInt .u64 x2 h fun x65 h =>
 R 5 [x0, x1, x3, x4, x10, x11, x12, x13, x65] h)
theorem e187_2 (O : Oracle) (R : Jump) (q : Nat) (x0 x1 x2 x3 x4 x10 x11 x12 x13 : TVal) (h : Heap) : b187_2 O R q x0 x1 x2 x3 x4 x10 x11 x12 x13 h = stepF c187 O R q 2 [x0, x1, x2, x3, x4, x10, x11, x12, x13] h := by kernel_rfl
def b187_3 (O : Oracle) (R : Jump) (q : Nat) (x0 x1 x3 x4 x10 x11 x12 x13 x14 x15 x16 : TVal) (h : Heap) : Res1 :=
 vbin .geq 0 x1 x15 h fun x46 h =>
 vif x46 (
 vbin .sub 0 x13 (kI 1) h fun x48 h =>
 vbin .and 0 x1 x16 h fun x52 h =>
 vindex (kS [48, 49, 50, 51, 52, 53, 54, 55, 56, 57, 97, 98, 99, 100, 101, 102, 103, 104, 105, 106, 107, 108, 109, 110, 111, 112, 113, 114, 115, 116, 117, 118, 119, 120, 121, 122]) x52 h fun x53 h =>
 vop O (.iaddrA 65 1 (.k x12) (.k x48)) h 54 fun x54 h =>
 vstore 1 x54 x53 h fun _ h =>
 vbin .shr 0 x1 x14 h fun x57 h =>
 R 3 [x0, x57, x3, x4, x10, x11, x12, x48, x14, x15, x16] h)
 (R 4 [x0, x1, x3, x4, x10, x11, x12, x13] h)
theorem e187_3 (O : Oracle) (R : Jump) (q : Nat) (x0 x1 x3 x4 x10 x11 x12 x13 x14 x15 x16 : TVal) (h : Heap) : b187_3 O R q x0 x1 x3 x4 x10 x11 x12 x13 x14 x15 x16 h = stepF c187 O R q 3 [x0, x1, x3, x4, x10, x11, x12, x13, x14, x15, x16] h := by kernel_rfl
def b187_4 (O : Oracle) (R : Jump) (q : Nat) (x0 x1 x3 x4 x10 x11 x12 x13 : TVal) (h : Heap) : Res1 :=
 vbin .sub 0 x13 (kI 1) h fun x59 h =>
 vindex (kS [48, 49, 50, 51, 52, 53, 54, 55, 56, 57, 97, 98, 99, 100, 101, 102, 103, 104, 105, 106, 107, 108, 109, 110, 111, 112, 113, 114, 115, 116, 117, 118, 119, 120, 121, 122]) x1 h fun x62 h =>
 vop O (.iaddrA 65 1 (.k x12) (.k x59)) h 63 fun x63 h =>
 vstore 1 x63 x62 h fun _ h =>
 R 7 [x0, x3, x4, x10, x11, x12, x59] h
theorem e187_4 (O : Oracle) (R : Jump) (q : Nat) (x0 x1 x3 x4 x10 x11 x12 x13 : TVal) (h : Heap) : b187_4 O R q x0 x1 x3 x4 x10 x11 x12 x13 h = stepF c187 O R q 4 [x0, x1, x3, x4, x10, x11, x12, x13] h := by kernel_rfl
def b187_5 (O : Oracle) (R : Jump) (q : Nat) (x0 x1 x3 x4 x10 x11 x12 x13 x17 : TVal) (h : Heap) : Res1 :=
 vbin .geq 0 x1 x17 h fun x68 h =>
 vif x68 (
 vbin .sub 0 x13 (kI 1) h fun x70 h =>
 vbin .quo 0 x1 x17 h fun x73 h =>
 vbin .mul 0 x73 x17 h fun x78 h =>
 vbin .sub 0 x1 x78 h fun x79 h =>
 vindex (kS [48, 49, 50, 51, 52, 53, 54, 55, 56, 57, 97, 98, 99, 100, 101, 102, 103, 104, 105, 106, 107, 108, 109, 110, 111, 112, 113, 114, 115, 116, 117, 118, 119, 120, 121, 122]) x79 h fun x80 h =>
 vop O (.iaddrA 65 1 (.k x12) (.k x70)) h 81 fun x81 h =>
 vstore 1 x81 x80 h fun _ h =>
 R 5 [x0, x73, x3, x4, x10, x11, x12, x70, x17] h)
 (R 6 [x0, x1, x3, x4, x10, x11, x12, x13] h)
theorem e187_5 (O : Oracle) (R : Jump) (q : Nat) (x0 x1 x3 x4 x10 x11 x12 x13 x17 : TVal) (h : Heap) : b187_5 O R q x0 x1 x3 x4 x10 x11 x12 x13 x17 h = stepF c187 O R q 5 [x0, x1, x3, x4, x10, x11, x12, x13, x17] h := by kernel_rfl
def b187_6 (O : Oracle) (R : Jump) (q : Nat) (x0 x1 x3 x4 x10 x11 x12 x13 : TVal) (h : Heap) : Res1 :=
 vbin .sub 0 x13 (kI 1) h fun x84 h =>
 vindex (kS [48, 49, 50, 51, 52, 53, 54, 55, 56, 57, 97, 98, 99, 100, 101, 102, 103, 104, 105, 106, 107, 108, 109, 110, 111, 112, 113, 114, 115, 116, 117, 118, 119, 120, 121, 122]) x1 h fun x87 h =>
 vop O (.iaddrA 65 1 (.k x12) (.k x84)) h 88 fun x88 h =>
 vstore 1 x88 x87 h fun _ h =>
 R 7 [x0, x3, x4, x10, x11, x12, x84] h
theorem e187_6 (O : Oracle) (R : Jump) (q : Nat) (x0 x1 x3 x4 x10 x11 x12 x13 : TVal) (h : Heap) : b187_6 O R q x0 x1 x3 x4 x10 x11 x12 x13 h = stepF c187 O R q 6 [x0, x1, x3, x4, x10, x11, x12, x13] h := by kernel_rfl
def b187_7 (O : Oracle) (R : Jump) (q : Nat) (x0 x3 x4 x10 x11 x12 x13 : TVal) (h : Heap) : Res1 :=
 vif x3 (
 vbin .sub 0 x13 (kI 1) h fun x91 h =>
 vop O (.iaddrA 65 1 (.k x12) (.k x91)) h 93 fun x93 h =>
 vstore 1 x93 (.v (.c (.p (.int .u8 45)))) h fun _ h =>
 R 8 [x0, x4, x10, x11, x12, x91] h)
 (R 8 [x0, x4, x10, x11, x12, x13] h)
theorem e187_7 (O : Oracle) (R : Jump) (q : Nat) (x0 x3 x4 x10 x11 x12 x13 : TVal) (h : Heap) : b187_7 O R q x0 x3 x4 x10 x11 x12 x13 h = stepF c187 O R q 7 [x0, x3, x4, x10, x11, x12, x13] h := by kernel_rfl
def b187_8 (O : Oracle) (R : Jump) (q : Nat) (x0 x4 x10 x11 x12 x13 : TVal) (h : Heap) : Res1 :=
 vif x4 (
 vop O (.sliceA 65 1 (.k x12) (some (.k x13)) none) h 97 fun x97 h =>
 vop O (.append 1 1 false (.k x0) (.k x97)) h 98 fun x98 h =>
 tcomp x98 fun c0 => tcomp x11 fun c1 => vfin true q [c0, c1] h)
 (vop O (.sliceA 65 1 (.k x12) (some (.k x13)) none) h 100 fun x100 h =>
 vop O (.toStr (.k x100)) h 101 fun x101 h =>
 tcomp x10 fun c0 => tcomp x101 fun c1 => vfin true q [c0, c1] h)
theorem e187_8 (O : Oracle) (R : Jump) (q : Nat) (x0 x4 x10 x11 x12 x13 : TVal) (h : Heap) : b187_8 O R q x0 x4 x10 x11 x12 x13 h = stepF c187 O R q 8 [x0, x4, x10, x11, x12, x13] h := by kernel_rfl
def d187 : BlkF := fun O R Q => [.s fun a => .s fun b => .s fun c => .s fun d => .s fun e => .z (b187_0 O R Q a b c d e), .s fun a => .s fun b => .s fun c => .s fun d => .s fun e => .s fun f => .s fun g => .z (b187_1 O R Q a b c d e f g), .s fun a => .s fun b => .s fun c => .s fun d => .s fun e => .s fun f => .s fun g => .s fun h => .s fun i => .z (b187_2 O R Q a b c d e f g h i), .s fun a => .s fun b => .s fun c => .s fun d => .s fun e => .s fun f => .s fun g => .s fun h => .s fun i => .s fun j => .s fun k => .z (b187_3 O R Q a b c d e f g h i j k), .s fun a => .s fun b => .s fun c => .s fun d => .s fun e => .s fun f => .s fun g => .s fun h => .z (b187_4 O R Q a b c d e f g h), .s fun a => .s fun b => .s fun c => .s fun d => .s fun e => .s fun f => .s fun g => .s fun h => .s fun i => .z (b187_5 O R Q a b c d e f g h i), .s fun a => .s fun b => .s fun c => .s fun d => .s fun e => .s fun f => .s fun g => .s fun h => .z (b187_6 O R Q a b c d e f g h), .s fun a => .s fun b => .s fun c => .s fun d => .s fun e => .s fun f => .s fun g => .z (b187_7 O R Q a b c d e f g), .s fun a => .s fun b => .s fun c => .s fun d => .s fun e => .s fun f => .z (b187_8 O R Q a b c d e f)]
theorem o187 (O : Oracle) (R : Jump) (q : Nat) : HoldsAll c187 O R q 0 (d187 O R q) := ⟨e187_0 O R q, e187_1 O R q, e187_2 O R q, e187_3 O R q, e187_4 O R q, e187_5 O R q, e187_6 O R q, e187_7 O R q, e187_8 O R q, trivial⟩
def c188 : MFunc := mkM (compF Tryd.prog (globs2 tabs opq) (fun _ => false) true Tryd.f188) .n
def b188_0 (O : Oracle) (R : Jump) (q : Nat) (x0 x1 : TVal) (h : Heap) : Res1 :=
 vcall O (.v (.c (.func 197 []))) [x0, x1] h 7 fun x7 h =>
 tcomp x7 fun c0 => vfin true q [c0] h
theorem e188_0 (O : Oracle) (R : Jump) (q : Nat) (x0 x1 : TVal) (h : Heap) : b188_0 O R q x0 x1 h = stepF c188 O R q 0 [x0, x1] h := by kernel_rfl
def d188 : BlkF := fun O R Q => [.s fun a => .s fun b => .z (b188_0 O R Q a b)]
theorem o188 (O : Oracle) (R : Jump) (q : Nat) : HoldsAll c188 O R q 0 (d188 O R q) := ⟨e188_0 O R q, trivial⟩
def c190 : MFunc := mkM (compF Tryd.prog (globs2 tabs opq) (fun _ => false) true Tryd.f190) .n
def b190_0 (O : Oracle) (R : Jump) (q : Nat) (x0 : TVal) (h : Heap) : Res1 :=
 vbin .add 0 x0 (kI 16) h fun x4 h =>
 vbin .quo 0 x4 (kI 8) h fun x5 h =>
 tcomp x5 fun c0 => vfin true q [c0] h
theorem e190_0 (O : Oracle) (R : Jump) (q : Nat) (x0 : TVal) (h : Heap) : b190_0 O R q x0 h = stepF c190 O R q 0 [x0] h := by kernel_rfl
def d190 : BlkF := fun O R Q => [.s fun a => .z (b190_0 O R Q a)]
theorem o190 (O : Oracle) (R : Jump) (q : Nat) : HoldsAll c190 O R q 0 (d190 O R q) := ⟨e190_0 O R q, trivial⟩
def c191 : MFunc := mkM (compF Tryd.prog (globs2 tabs opq) (fun _ => false) true Tryd.f191) (.s .n (.s .n (.s .n (.s .n (.s (.s .n (.k (.l 1 [0, 1, 5, 6, 7, 8, 9] .n))) (.m 2 [0, 1, 5, 6, 7, 8] (.s .n (.s (.s .n (.k (.l 3 [0, 1, 5, 6, 7, 8, 10] .n))) .n))))))))
def b191_0 (O : Oracle) (R : Jump) (q : Nat) (x0 x1 : TVal) (h : Heap) : Res1 :=
 vcall O (.v (.c (.func 198 []))) [x1] h 13 fun x13 h =>
 vext x13 0 h fun x14 h =>
 vext x13 1 h fun x15 h =>
 vlen O 0 x1 h 17 fun x17 h =>
 R 1 [x0, x1, x14, x15, x17, (.v (.c (.p (.int .u32 0)))), (kI 0)] h
theorem e191_0 (O : Oracle) (R : Jump) (q : Nat) (x0 x1 : TVal) (h : Heap) : b191_0 O R q x0 x1 h = stepF c191 O R q 0 [x0, x1] h := by kernel_rfl
def b191_1 (O : Oracle) (R : Jump) (q : Nat) (x0 x1 x5 x6 x7 x8 x9 : TVal) (h : Heap) : Res1 :=
 vbin .lss 0 x9 x7 h fun x20 h =>
 vif x20 (
 vbin .mul 0 x8 (.v (.c (.p (.int .u32 16777619)))) h fun x24 h =>
 vindex x0 x9 h fun x27 h =>
 vtoInt .u32 x27 h fun x28 h =>
 vbin .add 0 x24 x28 h fun x29 h =>
 vbin .add 0 x9 (kI 1) h fun x22 h =>
 R 1 [x0, x1, x5, x6, x7, x29, x22] h)
 (R 2 [x0, x1, x5, x6, x7, x8] h)
theorem e191_1 (O : Oracle) (R : Jump) (q : Nat) (x0 x1 x5 x6 x7 x8 x9 : TVal) (h : Heap) : b191_1 O R q x0 x1 x5 x6 x7 x8 x9 h = stepF c191 O R q 1 [x0, x1, x5, x6, x7, x8, x9] h := by kernel_rfl
def b191_2 (O : Oracle) (R : Jump) (q : Nat) (x0 x1 x5 x6 x7 x8 : TVal) (h : Heap) : Res1 :=
 vbin .eql 0 x8 x5 h fun x32 h =>
 vguard x32 true (fun kk => kk x0 h) h fun x34 h =>
 vguard x32 true (fun kk => kk x7 h) h fun x35 h =>
 vguard x32 true (fun kk => vop O (.slice 0 true (.k x34) none (some (.k x35)) none) h 36 kk) h fun x36 h =>
 vguard x32 true (fun kk => kk x1 h) h fun x37 h =>
 vguard x32 true (fun kk => vbin .eql 0 x36 x37 h kk) h fun x38 h =>
 vop O (.pick (.k x32) (.k x38) (.k (kB false))) h 39 fun x39 h =>
 vif x39 (
 tcomp (kI 0) fun c0 => vfin true q [c0] h)
 (R 3 [x0, x1, x5, x6, x7, x8, x7] h)
theorem e191_2 (O : Oracle) (R : Jump) (q : Nat) (x0 x1 x5 x6 x7 x8 : TVal) (h : Heap) : b191_2 O R q x0 x1 x5 x6 x7 x8 h = stepF c191 O R q 2 [x0, x1, x5, x6, x7, x8] h := by kernel_rfl
def b191_3 (O : Oracle) (R : Jump) (q : Nat) (x0 x1 x5 x6 x7 x8 x10 : TVal) (h : Heap) : Res1 :=
 vlen O 0 x0 h 43 fun x43 h =>
 vbin .lss 0 x10 x43 h fun x44 h =>
 vif x44 (
 vbin .mul 0 x8 (.v (.c (.p (.int .u32 16777619)))) h fun x46 h =>
 vindex x0 x10 h fun x50 h =>
 vtoInt .u32 x50 h fun x51 h =>
 vbin .add 0 x46 x51 h fun x52 h =>
 vbin .sub 0 x10 x7 h fun x58 h =>
 vindex x0 x58 h fun x59 h =>
 vtoInt .u32 x59 h fun x60 h =>
 vbin .mul 0 x6 x60 h fun x61 h =>
 vbin .sub 0 x52 x61 h fun x62 h =>
 vbin .add 0 x10 (kI 1) h fun x64 h =>
 vbin .eql 0 x62 x5 h fun x67 h =>
 vguard x67 true (fun kk => kk x0 h) h fun x69 h =>
 vguard x67 true (fun kk => kk x64 h) h fun x70 h =>
 vguard x67 true (fun kk => kk x7 h) h fun x71 h =>
 vguard x67 true (fun kk => vbin .sub 0 x70 x71 h kk) h fun x72 h =>
 vguard x67 true (fun kk => kk x64 h) h fun x73 h =>
 vguard x67 true (fun kk => vop O (.slice 0 true (.k x69) (some (.k x72)) (some (.k x73)) none) h 74 kk) h fun x74 h =>
 vguard x67 true (fun kk => kk x1 h) h fun x75 h =>
 vguard x67 true (fun kk => vbin .eql 0 x74 x75 h kk) h fun x76 h =>
 vop O (.pick (.k x67) (.k x76) (.k (kB false))) h 77 fun x77 h =>
 vif x77 (
 vbin .sub 0 x64 x7 h fun x80 h =>
 tcomp x80 fun c0 => vfin true q [c0] h)
 (R 3 [x0, x1, x5, x6, x7, x62, x64] h))
 (tcomp (kI (-1)) fun c0 => vfin true q [c0] h)
theorem e191_3 (O : Oracle) (R : Jump) (q : Nat) (x0 x1 x5 x6 x7 x8 x10 : TVal) (h : Heap) : b191_3 O R q x0 x1 x5 x6 x7 x8 x10 h = stepF c191 O R q 3 [x0, x1, x5, x6, x7, x8, x10] h := by kernel_rfl
def d191 : BlkF := fun O R Q => [.s fun a => .s fun b => .z (b191_0 O R Q a b), .s fun a => .s fun b => .s fun c => .s fun d => .s fun e => .s fun f => .s fun g => .z (b191_1 O R Q a b c d e f g), .s fun a => .s fun b => .s fun c => .s fun d => .s fun e => .s fun f => .z (b191_2 O R Q a b c d e f), .s fun a => .s fun b => .s fun c => .s fun d => .s fun e => .s fun f => .s fun g => .z (b191_3 O R Q a b c d e f g)]
theorem o191 (O : Oracle) (R : Jump) (q : Nat) : HoldsAll c191 O R q 0 (d191 O R q) := ⟨e191_0 O R q, e191_1 O R q, e191_2 O R q, e191_3 O R q, trivial⟩
def c192 : MFunc := mkM (compF Tryd.prog (globs2 tabs opq) (fun _ => false) true Tryd.f192) .n
def b192_0 (O : Oracle) (R : Jump) (q : Nat) (x0 : TVal) (h : Heap) : Res1 :=
 vbin .mul 0 x0 (kI 78913) h fun x4 h =>
 vbin .shr 0 x4 (.v (.c (.p (.int .u64 18)))) h fun x5 h =>
 tcomp x5 fun c0 => vfin true q [c0] h
theorem e192_0 (O : Oracle) (R : Jump) (q : Nat) (x0 : TVal) (h : Heap) : b192_0 O R q x0 h = stepF c192 O R q 0 [x0] h := by kernel_rfl
def d192 : BlkF := fun O R Q => [.s fun a => .z (b192_0 O R Q a)]
theorem o192 (O : Oracle) (R : Jump) (q : Nat) : HoldsAll c192 O R q 0 (d192 O R q) := ⟨e192_0 O R q, trivial⟩
def c193 : MFunc := mkM (compF Tryd.prog (globs2 tabs opq) (fun _ => false) true Tryd.f193) (.s .n (.s .n (.m 1 [0, 2] (.s .n (.m 2 [0, 2] (.s .n (.m 3 [0, 2] .n)))))))
def b193_0 (O : Oracle) (R : Jump) (q : Nat) (x0 : TVal) (h : Heap) : Res1 :=
 vbin .geq 0 x0 (.v (.c (.p (.int .u64 4294967296)))) h fun x4 h =>
 vif x4 (
 vbin .shr 0 x0 (.v (.c (.p (.int .u64 32)))) h fun x6 h =>
 R 1 [x6, (kI 32)] h)
 (R 1 [x0, (kI 0)] h)
theorem e193_0 (O : Oracle) (R : Jump) (q : Nat) (x0 : TVal) (h : Heap) : b193_0 O R q x0 h = stepF c193 O R q 0 [x0] h := by kernel_rfl
def b193_1 (O : Oracle) (R : Jump) (q : Nat) (x0 x2 : TVal) (h : Heap) : Res1 :=
 vbin .geq 0 x0 (.v (.c (.p (.int .u64 65536)))) h fun x8 h =>
 vif x8 (
 vbin .shr 0 x0 (.v (.c (.p (.int .u64 16)))) h fun x10 h =>
 vbin .add 0 x2 (kI 16) h fun x12 h =>
 R 2 [x10, x12] h)
 (R 2 [x0, x2] h)
theorem e193_1 (O : Oracle) (R : Jump) (q : Nat) (x0 x2 : TVal) (h : Heap) : b193_1 O R q x0 x2 h = stepF c193 O R q 1 [x0, x2] h := by kernel_rfl
def b193_2 (O : Oracle) (R : Jump) (q : Nat) (x0 x2 : TVal) (h : Heap) : Res1 :=
 vbin .geq 0 x0 (.v (.c (.p (.int .u64 256)))) h fun x14 h =>
 vif x14 (
 vbin .shr 0 x0 (.v (.c (.p (.int .u64 8)))) h fun x16 h =>
 vbin .add 0 x2 (kI 8) h fun x18 h =>
 R 3 [x16, x18] h)
 (R 3 [x0, x2] h)
theorem e193_2 (O : Oracle) (R : Jump) (q : Nat) (x0 x2 : TVal) (h : Heap) : b193_2 O R q x0 x2 h = stepF c193 O R q 2 [x0, x2] h := by kernel_rfl
def b193_3 (O : Oracle) (R : Jump) (q : Nat) (x0 x2 : TVal) (h : Heap) : Res1 :=
 vtoInt .u8 x0 h fun x21 h =>
 vindex (kS z0a4518d3) x21 h fun x22 h =>
 vtoInt .i64 x22 h fun x23 h =>
 vbin .add 0 x2 x23 h fun x24 h =>
 tcomp x24 fun c0 => vfin true q [c0] h
theorem e193_3 (O : Oracle) (R : Jump) (q : Nat) (x0 x2 : TVal) (h : Heap) : b193_3 O R q x0 x2 h = stepF c193 O R q 3 [x0, x2] h := by kernel_rfl
def d193 : BlkF := fun O R Q => [.s fun a => .z (b193_0 O R Q a), .s fun a => .s fun b => .z (b193_1 O R Q a b), .s fun a => .s fun b => .z (b193_2 O R Q a b), .s fun a => .s fun b => .z (b193_3 O R Q a b)]
theorem o193 (O : Oracle) (R : Jump) (q : Nat) : HoldsAll c193 O R q 0 (d193 O R q) := ⟨e193_0 O R q, e193_1 O R q, e193_2 O R q, e193_3 O R q, trivial⟩
def c194 : MFunc := mkM (compF Tryd.prog (globs2 tabs opq) (fun _ => false) true Tryd.f194) .n
def b194_0 (O : Oracle) (R : Jump) (q : Nat) (x0 : TVal) (h : Heap) : Res1 :=
 vif x0 (
 tcomp (kI 1) fun c0 => vfin true q [c0] h)
 (tcomp (kI 0) fun c0 => vfin true q [c0] h)
theorem e194_0 (O : Oracle) (R : Jump) (q : Nat) (x0 : TVal) (h : Heap) : b194_0 O R q x0 h = stepF c194 O R q 0 [x0] h := by kernel_rfl
def d194 : BlkF := fun O R Q => [.s fun a => .z (b194_0 O R Q a)]
theorem o194 (O : Oracle) (R : Jump) (q : Nat) : HoldsAll c194 O R q 0 (d194 O R q) := ⟨e194_0 O R q, trivial⟩
def c195 : MFunc := mkM (compF Tryd.prog (globs2 tabs opq) (fun _ => false) true Tryd.f195) .n
def b195_0 (O : Oracle) (R : Jump) (q : Nat) (x0 : TVal) (h : Heap) : Res1 :=
 vbin .sub 0 x0 (kI 1) h fun x5 h =>
 vbin .and 0 x0 x5 h fun x6 h =>
 vbin .eql 0 x6 (kI 0) h fun x7 h =>
 tcomp x7 fun c0 => vfin true q [c0] h
theorem e195_0 (O : Oracle) (R : Jump) (q : Nat) (x0 : TVal) (h : Heap) : b195_0 O R q x0 h = stepF c195 O R q 0 [x0] h := by kernel_rfl
def d195 : BlkF := fun O R Q => [.s fun a => .z (b195_0 O R Q a)]
theorem o195 (O : Oracle) (R : Jump) (q : Nat) : HoldsAll c195 O R q 0 (d195 O R q) := ⟨e195_0 O R q, trivial⟩
def c196 : MFunc := mkM (compF Tryd.prog (globs2 tabs opq) (fun _ => false) true Tryd.f196) .n
def b196_0 (O : Oracle) (R : Jump) (q : Nat) (x0 : TVal) (h : Heap) : Res1 :=
 vif (kB false) (
 vtoInt .u32 x0 h fun x4 h =>
 vcall O (.v (.c (.func 199 []))) [x4] h 5 fun x5 h =>
 tcomp x5 fun c0 => vfin true q [c0] h)
 (vcall O (.v (.c (.func 200 []))) [x0] h 7 fun x7 h =>
 tcomp x7 fun c0 => vfin true q [c0] h)
theorem e196_0 (O : Oracle) (R : Jump) (q : Nat) (x0 : TVal) (h : Heap) : b196_0 O R q x0 h = stepF c196 O R q 0 [x0] h := by kernel_rfl
def d196 : BlkF := fun O R Q => [.s fun a => .z (b196_0 O R Q a)]
theorem o196 (O : Oracle) (R : Jump) (q : Nat) : HoldsAll c196 O R q 0 (d196 O R q) := ⟨e196_0 O R q, trivial⟩
def c198 : MFunc := mkM (compF Tryd.prog (globs2 tabs opq) (fun _ => false) true Tryd.f198) (.s .n (.s .n (.s (.s .n (.k (.l 1 [0, 4, 5] .n))) (.m 2 [0, 4] (.s .n (.s (.s .n (.k (.l 3 [4, 6, 7, 8] (.s .n (.s (.k (.s .n (.m 4 [4, 6, 7, 8] .n))) .n))))) .n))))))
def b198_0 (O : Oracle) (R : Jump) (q : Nat) (x0 : TVal) (h : Heap) : Res1 :=
 R 1 [x0, (.v (.c (.p (.int .u32 0)))), (kI 0)] h
theorem e198_0 (O : Oracle) (R : Jump) (q : Nat) (x0 : TVal) (h : Heap) : b198_0 O R q x0 h = stepF c198 O R q 0 [x0] h := by kernel_rfl
def b198_1 (O : Oracle) (R : Jump) (q : Nat) (x0 x4 x5 : TVal) (h : Heap) : Res1 :=
 vlen O 0 x0 h 11 fun x11 h =>
 vbin .lss 0 x5 x11 h fun x12 h =>
 vif x12 (
 vbin .mul 0 x4 (.v (.c (.p (.int .u32 16777619)))) h fun x16 h =>
 vindex x0 x5 h fun x19 h =>
 vtoInt .u32 x19 h fun x20 h =>
 vbin .add 0 x16 x20 h fun x21 h =>
 vbin .add 0 x5 (kI 1) h fun x14 h =>
 R 1 [x0, x21, x14] h)
 (R 2 [x0, x4] h)
theorem e198_1 (O : Oracle) (R : Jump) (q : Nat) (x0 x4 x5 : TVal) (h : Heap) : b198_1 O R q x0 x4 x5 h = stepF c198 O R q 1 [x0, x4, x5] h := by kernel_rfl
def b198_2 (O : Oracle) (R : Jump) (q : Nat) (x0 x4 : TVal) (h : Heap) : Res1 :=
 vlen O 0 x0 h 23 fun x23 h =>
 R 3 [x4, (.v (.c (.p (.int .u32 1)))), (.v (.c (.p (.int .u32 16777619)))), x23] h
theorem e198_2 (O : Oracle) (R : Jump) (q : Nat) (x0 x4 : TVal) (h : Heap) : b198_2 O R q x0 x4 h = stepF c198 O R q 2 [x0, x4] h := by kernel_rfl
def b198_3 (O : Oracle) (R : Jump) (q : Nat) (x4 x6 x7 x8 : TVal) (h : Heap) : Res1 :=
 vbin .gtr 0 x8 (kI 0) h fun x25 h =>
 vif x25 (
 vbin .and 0 x8 (kI 1) h fun x29 h =>
 vbin .neq 0 x29 (kI 0) h fun x30 h =>
 vif x30 (
 vbin .mul 0 x6 x7 h fun x33 h =>
 R 4 [x4, x33, x7, x8] h)
 (R 4 [x4, x6, x7, x8] h))
 (tcomp x4 fun c0 => tcomp x6 fun c1 => vfin true q [c0, c1] h)
theorem e198_3 (O : Oracle) (R : Jump) (q : Nat) (x4 x6 x7 x8 : TVal) (h : Heap) : b198_3 O R q x4 x6 x7 x8 h = stepF c198 O R q 3 [x4, x6, x7, x8] h := by kernel_rfl
def b198_4 (O : Oracle) (R : Jump) (q : Nat) (x4 x6 x7 x8 : TVal) (h : Heap) : Res1 :=
 vbin .mul 0 x7 x7 h fun x36 h =>
 vbin .shr 0 x8 (.v (.c (.p (.int .u64 1)))) h fun x27 h =>
 R 3 [x4, x6, x36, x27] h
theorem e198_4 (O : Oracle) (R : Jump) (q : Nat) (x4 x6 x7 x8 : TVal) (h : Heap) : b198_4 O R q x4 x6 x7 x8 h = stepF c198 O R q 4 [x4, x6, x7, x8] h := by kernel_rfl
def d198 : BlkF := fun O R Q => [.s fun a => .z (b198_0 O R Q a), .s fun a => .s fun b => .s fun c => .z (b198_1 O R Q a b c), .s fun a => .s fun b => .z (b198_2 O R Q a b), .s fun a => .s fun b => .s fun c => .s fun d => .z (b198_3 O R Q a b c d), .s fun a => .s fun b => .s fun c => .s fun d => .z (b198_4 O R Q a b c d)]
theorem o198 (O : Oracle) (R : Jump) (q : Nat) : HoldsAll c198 O R q 0 (d198 O R q) := ⟨e198_0 O R q, e198_1 O R q, e198_2 O R q, e198_3 O R q, e198_4 O R q, trivial⟩
def c199 : MFunc := mkM (compF Tryd.prog (globs2 tabs opq) (fun _ => false) true Tryd.f199) .n
def b199_0 (O : Oracle) (R : Jump) (q : Nat) (x0 : TVal) (h : Heap) : Res1 :=
 vbin .eql 0 x0 (.v (.c (.p (.int .u32 0)))) h fun x4 h =>
 vif x4 (
 tcomp (kI 32) fun c0 => vfin true q [c0] h)
 (vop O (.un .neg (.k x0)) h 7 fun x7 h =>
 vbin .and 0 x0 x7 h fun x8 h =>
 vbin .mul 0 x8 (.v (.c (.p (.int .u32 125613361)))) h fun x9 h =>
 vbin .shr 0 x9 (.v (.c (.p (.int .u64 27)))) h fun x10 h =>
 none)
theorem e199_0 (O : Oracle) (R : Jump) (q : Nat) (x0 : TVal) (h : Heap) : b199_0 O R q x0 h = stepF c199 O R q 0 [x0] h := by kernel_rfl
def d199 : BlkF := fun O R Q => [.s fun a => .z (b199_0 O R Q a)]
theorem o199 (O : Oracle) (R : Jump) (q : Nat) : HoldsAll c199 O R q 0 (d199 O R q) := ⟨e199_0 O R q, trivial⟩
def c200 : MFunc := mkM (compF Tryd.prog (globs2 tabs opq) (fun _ => false) true Tryd.f200) .n
def b200_0 (O : Oracle) (R : Jump) (q : Nat) (x0 : TVal) (h : Heap) : Res1 :=
 vbin .eql 0 x0 (.v (.c (.p (.int .u64 0)))) h fun x4 h =>
 vif x4 (
 tcomp (kI 64) fun c0 => vfin true q [c0] h)
 (vop O (.un .neg (.k x0)) h 7 fun x7 h =>
 vbin .and 0 x0 x7 h fun x8 h =>
 vbin .mul 0 x8 (.v (.c (.p (.int .u64 285870213051353865)))) h fun x9 h =>
 vbin .shr 0 x9 (.v (.c (.p (.int .u64 58)))) h fun x10 h =>
 none)
theorem e200_0 (O : Oracle) (R : Jump) (q : Nat) (x0 : TVal) (h : Heap) : b200_0 O R q x0 h = stepF c200 O R q 0 [x0] h := by kernel_rfl
def d200 : BlkF := fun O R Q => [.s fun a => .z (b200_0 O R Q a)]
theorem o200 (O : Oracle) (R : Jump) (q : Nat) : HoldsAll c200 O R q 0 (d200 O R q) := ⟨e200_0 O R q, trivial⟩
end
end Go.Proofs.YtlkejchbcchecaaDoor.Ab
