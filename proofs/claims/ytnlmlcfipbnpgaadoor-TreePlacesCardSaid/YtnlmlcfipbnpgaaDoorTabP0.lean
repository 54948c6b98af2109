/- Functions of the given program as the abstract interpreter has them (part 0), printed by a program of our own; each is shown to be what 'compF' makes of the given program's. No condition. -/
import Derived.Test.YtnlmlcfipbnpgaaDoorChecked
import Derived.Test.YtnlmlcfipbnpgaaDoorAd
namespace Go.Proofs.YtnlmlcfipbnpgaaDoor.Ab
open Go Go.AI
noncomputable section
set_option linter.all false
set_option linter.unusedVariables false
set_option maxRecDepth 100000
def vals0 : List Int := [0, 0, 0, 0, 0, 0, 0, 0, 0, 1, 1, 1, 1, 1, 0, 0, 0, 0, 0, 0, 0, 0, 0, 0, 0, 0, 0, 0, 0, 0, 0, 0, 1, 0, 0, 0, 0, 0, 0, 0, 0, 0, 0, 0, 0, 0, 0, 0, 0, 0, 0, 0, 0, 0, 0, 0, 0, 0, 0, 0, 0, 0, 0, 0, 0, 0, 0, 0, 0, 0, 0, 0, 0, 0, 0, 0, 0, 0, 0, 0, 0, 0, 0, 0, 0, 0, 0, 0, 0, 0, 0, 0, 0, 0, 0, 0, 0, 0, 0, 0, 0, 0, 0, 0, 0, 0, 0, 0, 0, 0, 0, 0, 0, 0, 0, 0, 0, 0, 0, 0, 0, 0, 0, 0, 0, 0, 0, 0, 0, 0, 0, 0, 0, 0, 0, 0, 0, 0, 0, 0, 0, 0, 0, 0, 0, 0, 0, 0, 0, 0, 0, 0, 0, 0, 0, 0, 0, 0, 0, 0, 0, 0, 0, 0, 0, 0, 0, 0, 0, 0, 0, 0, 0, 0, 0, 0, 0, 0, 0, 0, 0, 0, 0, 0, 0, 0, 0, 0, 0, 0, 0, 0, 0, 0, 0, 0, 0, 0, 0, 0, 0, 0, 0, 0, 0, 0, 0, 0, 0, 0, 0, 0, 0, 0, 0, 0, 0, 0, 0, 0, 0, 0, 0, 0, 0, 0, 0, 0, 0, 0, 0, 0, 0, 0, 0, 0, 0, 0, 0, 0, 0, 0, 0, 0, 0, 0, 0, 0, 0, 0, 0, 0, 0, 0, 0, 0]
def tabs : List Tabl := [Tabl.mk "strings.asciiSpace" 1 .u8 [0, 0, 0, 0, 0, 0, 0, 0, 0, 1, 1, 1, 1, 1, 0, 0, 0, 0, 0, 0, 0, 0, 0, 0, 0, 0, 0, 0, 0, 0, 0, 0, 1, 0, 0, 0, 0, 0, 0, 0, 0, 0, 0, 0, 0, 0, 0, 0, 0, 0, 0, 0, 0, 0, 0, 0, 0, 0, 0, 0, 0, 0, 0, 0, 0, 0, 0, 0, 0, 0, 0, 0, 0, 0, 0, 0, 0, 0, 0, 0, 0, 0, 0, 0, 0, 0, 0, 0, 0, 0, 0, 0, 0, 0, 0, 0, 0, 0, 0, 0, 0, 0, 0, 0, 0, 0, 0, 0, 0, 0, 0, 0, 0, 0, 0, 0, 0, 0, 0, 0, 0, 0, 0, 0, 0, 0, 0, 0, 0, 0, 0, 0, 0, 0, 0, 0, 0, 0, 0, 0, 0, 0, 0, 0, 0, 0, 0, 0, 0, 0, 0, 0, 0, 0, 0, 0, 0, 0, 0, 0, 0, 0, 0, 0, 0, 0, 0, 0, 0, 0, 0, 0, 0, 0, 0, 0, 0, 0, 0, 0, 0, 0, 0, 0, 0, 0, 0, 0, 0, 0, 0, 0, 0, 0, 0, 0, 0, 0, 0, 0, 0, 0, 0, 0, 0, 0, 0, 0, 0, 0, 0, 0, 0, 0, 0, 0, 0, 0, 0, 0, 0, 0, 0, 0, 0, 0, 0, 0, 0, 0, 0, 0, 0, 0, 0, 0, 0, 0, 0, 0, 0, 0, 0, 0, 0, 0, 0, 0, 0, 0, 0, 0, 0, 0, 0, 0]]
def opq : Option Nat := some 0
def c9 : MFunc := mkM (compF Tryd.prog (globs2 tabs opq) (fun n => Nat.beq n 1) true Tryd.f9) (.s .n (.s .n (.s .n (.s .n (.s (.s .n (.k (.l 1 [0, 3, 4, 5] (.s .n (.s (.k (.s .n (.s .n (.m 2 [0, 3, 4, 5, 6] .n)))) .n))))) (.m 3 [3, 4] (.s .n (.s .n (.s (.s .n (.k (.l 4 [4, 7, 10] .n))) .n)))))))))
def b9_0 (O : Oracle) (R : Jump) (q : Nat) (x0 : TVal) (h : Heap) : Res1 :=
 vcall O (.v (.c (.func 24 []))) [] h 11 fun x11 h =>
 vop O (.un .not (.k x11)) h 12 fun x12 h =>
 vif x12 (
 tcomp (kB false) fun c0 => vfin true q [c0] h)
 (R 1 [x0, (kS []), (.v (.c (.p .nilslice))), (kI 0)] h)
theorem e9_0 (O : Oracle) (R : Jump) (q : Nat) (x0 : TVal) (h : Heap) : b9_0 O R q x0 h = stepF c9 O R q 0 [x0] h := by kernel_rfl
def b9_1 (O : Oracle) (R : Jump) (q : Nat) (x0 x3 x4 x5 : TVal) (h : Heap) : Res1 :=
 vlen O 2 x0 h 15 fun x15 h =>
 vbin .lss 0 x5 x15 h fun x16 h =>
 vguard x16 true (fun kk => kk x5 h) h fun x18 h =>
 vguard x16 true (fun kk => vbin .lss 0 x18 (kI 20) h kk) h fun x19 h =>
 vop O (.pick (.k x16) (.k x19) (.k (kB false))) h 20 fun x20 h =>
 vif x20 (
 viaddr 1 x0 x5 h fun x25 h =>
 vload false 1 x25 h fun x26 h =>
 vcall O (.v (.c (.func 25 []))) [x26, (kI 4)] h 27 fun x27 h =>
 vbin .eql 0 x27 (kI 0) h fun x29 h =>
 vguard x29 true (fun kk => kk x5 h) h fun x31 h =>
 vguard x29 true (fun kk => vbin .gtr 0 x31 (kI 0) h kk) h fun x32 h =>
 vop O (.pick (.k x29) (.k x32) (.k (kB false))) h 33 fun x33 h =>
 vguard x33 true (fun kk => kk x0 h) h fun x35 h =>
 vguard x33 true (fun kk => kk x5 h) h fun x36 h =>
 vguard x33 true (fun kk => vbin .sub 0 x36 (kI 1) h kk) h fun x37 h =>
 vguard x33 true (fun kk => viaddr 1 x35 x37 h kk) h fun x38 h =>
 vguard x33 true (fun kk => vload false 1 x38 h kk) h fun x39 h =>
 vguard x33 true (fun kk => vcall O (.v (.c (.func 25 []))) [x39, (kI 4)] h 40 kk) h fun x40 h =>
 vguard x33 true (fun kk => vbin .eql 0 x40 (kI 0) h kk) h fun x41 h =>
 vop O (.pick (.k x33) (.k x41) (.k (kB false))) h 42 fun x42 h =>
 vif x42 (
 vop O (.bslice 1 0 [(.p (.int .i64 0))] [] true) h 43 fun x43 h =>
 vop O (.append 1 8 true (.k x43) (.k x0)) h 45 fun x45 h =>
 viaddr 1 x45 x5 h fun x48 h =>
 vstore 1 x48 (kI 1) h fun _ h =>
 R 2 [x45, x3, x4, x5, (kI 1)] h)
 (R 2 [x0, x3, x4, x5, x27] h))
 (R 3 [x3, x4] h)
theorem e9_1 (O : Oracle) (R : Jump) (q : Nat) (x0 x3 x4 x5 : TVal) (h : Heap) : b9_1 O R q x0 x3 x4 x5 h = stepF c9 O R q 1 [x0, x3, x4, x5] h := by kernel_rfl
def b9_2 (O : Oracle) (R : Jump) (q : Nat) (x0 x3 x4 x5 x6 : TVal) (h : Heap) : Res1 :=
 vlen O 0 x3 h 51 fun x51 h =>
 vop O (.bslice 1 1 [(.p (.int .i64 0))] [(0, (.k x51))] true) h 52 fun x52 h =>
 vop O (.append 1 8 true (.k x4) (.k x52)) h 53 fun x53 h =>
 vop O (.bslice 1 4 [(.p (.str []))] [(0, (.k (kS [116, 101, 120, 116, 10]))), (1, (.k (kS [123, 123, 46, 125, 125]))), (2, (.k (kS [123, 123, 36, 120, 32, 58, 61, 32, 49, 125, 125]))), (3, (.k (kS [123, 123, 32, 116, 101, 109, 112, 108, 97, 116, 101, 32, 34, 116, 34, 32, 125, 125])))] true) h 55 fun x55 h =>
 viaddr 1 x55 x6 h fun x57 h =>
 vload false 1 x57 h fun x58 h =>
 vbin .add 0 x3 x58 h fun x59 h =>
 vbin .add 0 x5 (kI 1) h fun x22 h =>
 R 1 [x0, x59, x53, x22] h
theorem e9_2 (O : Oracle) (R : Jump) (q : Nat) (x0 x3 x4 x5 x6 : TVal) (h : Heap) : b9_2 O R q x0 x3 x4 x5 x6 h = stepF c9 O R q 2 [x0, x3, x4, x5, x6] h := by kernel_rfl
def b9_3 (O : Oracle) (R : Jump) (q : Nat) (x3 x4 : TVal) (h : Heap) : Res1 :=
 vcall O (.v (.c (.func 26 []))) [x3] h 62 fun x62 h =>
 vext x62 0 h fun x63 h =>
 vext x62 1 h fun x64 h =>
 vext x62 2 h fun x65 h =>
 vbin .neq 0 x65 (kI 0) h fun x67 h =>
 vguard x67 false (fun kk => kk x63 h) h fun x69 h =>
 vguard x67 false (fun kk => vlen O 2 x69 h 70 kk) h fun x70 h =>
 vguard x67 false (fun kk => vbin .neq 0 x70 (kI 1) h kk) h fun x71 h =>
 vop O (.pick (.k x67) (.k (kB true)) (.k x71)) h 72 fun x72 h =>
 vguard x72 false (fun kk => kk x63 h) h fun x74 h =>
 vguard x72 false (fun kk => viaddr 2 x74 (kI 0) h kk) h fun x75 h =>
 vguard x72 false (fun kk => vfaddr 1 x75 h kk) h fun x76 h =>
 vguard x72 false (fun kk => vload false 1 x76 h kk) h fun x77 h =>
 vguard x72 false (fun kk => vlen O 2 x77 h 78 kk) h fun x78 h =>
 vguard x72 false (fun kk => kk x4 h) h fun x79 h =>
 vguard x72 false (fun kk => vlen O 2 x79 h 80 kk) h fun x80 h =>
 vguard x72 false (fun kk => vbin .neq 0 x78 x80 h kk) h fun x81 h =>
 vop O (.pick (.k x72) (.k (kB true)) (.k x81)) h 82 fun x82 h =>
 vif x82 (
 tcomp (kB false) fun c0 => vfin true q [c0] h)
 (R 4 [x4, x63, (kI 0)] h)
theorem e9_3 (O : Oracle) (R : Jump) (q : Nat) (x3 x4 : TVal) (h : Heap) : b9_3 O R q x3 x4 h = stepF c9 O R q 3 [x3, x4] h := by kernel_rfl
def b9_4 (O : Oracle) (R : Jump) (q : Nat) (x4 x7 x10 : TVal) (h : Heap) : Res1 :=
 vlen O 2 x4 h 85 fun x85 h =>
 vbin .lss 0 x10 x85 h fun x86 h =>
 vif x86 (
 viaddr 2 x7 (kI 0) h fun x90 h =>
 vfaddr 1 x90 h fun x91 h =>
 vload false 1 x91 h fun x92 h =>
 viaddr 9 x92 x10 h fun x94 h =>
 vfaddr 1 x94 h fun x95 h =>
 vload false 1 x95 h fun x96 h =>
 viaddr 1 x4 x10 h fun x99 h =>
 vload false 1 x99 h fun x100 h =>
 vbin .neq 0 x96 x100 h fun x101 h =>
 vif x101 (
 tcomp (kB false) fun c0 => vfin true q [c0] h)
 (vbin .add 0 x10 (kI 1) h fun x88 h =>
 R 4 [x4, x7, x88] h))
 (tcomp (kB true) fun c0 => vfin true q [c0] h)
theorem e9_4 (O : Oracle) (R : Jump) (q : Nat) (x4 x7 x10 : TVal) (h : Heap) : b9_4 O R q x4 x7 x10 h = stepF c9 O R q 4 [x4, x7, x10] h := by kernel_rfl
def d9 : BlkF := fun O R Q => [.s fun a => .z (b9_0 O R Q a), .s fun a => .s fun b => .s fun c => .s fun d => .z (b9_1 O R Q a b c d), .s fun a => .s fun b => .s fun c => .s fun d => .s fun e => .z (b9_2 O R Q a b c d e), .s fun a => .s fun b => .z (b9_3 O R Q a b), .s fun a => .s fun b => .s fun c => .z (b9_4 O R Q a b c)]
theorem o9 (O : Oracle) (R : Jump) (q : Nat) : HoldsAll c9 O R q 0 (d9 O R q) := ⟨e9_0 O R q, e9_1 O R q, e9_2 O R q, e9_3 O R q, e9_4 O R q, trivial⟩
def c24 : MFunc := mkM (compF Tryd.prog (globs2 tabs opq) (fun _ => false) true Tryd.f24) .n
def b24_0 (O : Oracle) (R : Jump) (q : Nat) (h : Heap) : Res1 :=
 vcall O (.v (.c (.func 26 []))) [(kS [97, 32, 123, 123, 105, 102, 32, 46, 120, 125, 125, 98, 123, 123, 101, 110, 100, 125, 125])] h 5 fun x5 h =>
 vext x5 0 h fun x6 h =>
 vext x5 1 h fun x7 h =>
 vext x5 2 h fun x8 h =>
 vbin .eql 0 x8 (kI 0) h fun x10 h =>
 vguard x10 true (fun kk => kk x6 h) h fun x12 h =>
 vguard x10 true (fun kk => vlen O 2 x12 h 13 kk) h fun x13 h =>
 vguard x10 true (fun kk => vbin .eql 0 x13 (kI 1) h kk) h fun x14 h =>
 vop O (.pick (.k x10) (.k x14) (.k (kB false))) h 15 fun x15 h =>
 vguard x15 true (fun kk => kk x6 h) h fun x17 h =>
 vguard x15 true (fun kk => viaddr 2 x17 (kI 0) h kk) h fun x18 h =>
 vguard x15 true (fun kk => vfaddr 1 x18 h kk) h fun x19 h =>
 vguard x15 true (fun kk => vload false 1 x19 h kk) h fun x20 h =>
 vguard x15 true (fun kk => vlen O 2 x20 h 21 kk) h fun x21 h =>
 vguard x15 true (fun kk => vbin .eql 0 x21 (kI 2) h kk) h fun x22 h =>
 vop O (.pick (.k x15) (.k x22) (.k (kB false))) h 23 fun x23 h =>
 vguard x23 true (fun kk => kk x6 h) h fun x25 h =>
 vguard x23 true (fun kk => viaddr 2 x25 (kI 0) h kk) h fun x26 h =>
 vguard x23 true (fun kk => vfaddr 1 x26 h kk) h fun x27 h =>
 vguard x23 true (fun kk => vload false 1 x27 h kk) h fun x28 h =>
 vguard x23 true (fun kk => viaddr 9 x28 (kI 1) h kk) h fun x29 h =>
 vguard x23 true (fun kk => vfaddr 0 x29 h kk) h fun x30 h =>
 vguard x23 true (fun kk => vload false 1 x30 h kk) h fun x31 h =>
 vguard x23 true (fun kk => vbin .eql 0 x31 (kI 5) h kk) h fun x32 h =>
 vop O (.pick (.k x23) (.k x32) (.k (kB false))) h 33 fun x33 h =>
 vguard x33 true (fun kk => kk x6 h) h fun x35 h =>
 vguard x33 true (fun kk => viaddr 2 x35 (kI 0) h kk) h fun x36 h =>
 vguard x33 true (fun kk => vfaddr 1 x36 h kk) h fun x37 h =>
 vguard x33 true (fun kk => vload false 1 x37 h kk) h fun x38 h =>
 vguard x33 true (fun kk => viaddr 9 x38 (kI 1) h kk) h fun x39 h =>
 vguard x33 true (fun kk => vfaddr 5 x39 h kk) h fun x40 h =>
 vguard x33 true (fun kk => vload false 1 x40 h kk) h fun x41 h =>
 vguard x33 true (fun kk => vlen O 2 x41 h 42 kk) h fun x42 h =>
 vguard x33 true (fun kk => vbin .eql 0 x42 (kI 1) h kk) h fun x43 h =>
 vop O (.pick (.k x33) (.k x43) (.k (kB false))) h 44 fun x44 h =>
 tcomp x44 fun c0 => vfin true q [c0] h
theorem e24_0 (O : Oracle) (R : Jump) (q : Nat) (h : Heap) : b24_0 O R q  h = stepF c24 O R q 0 [] h := by kernel_rfl
def d24 : BlkF := fun O R Q => [.z (b24_0 O R Q )]
theorem o24 (O : Oracle) (R : Jump) (q : Nat) : HoldsAll c24 O R q 0 (d24 O R q) := ⟨e24_0 O R q, trivial⟩
def c25 : MFunc := mkM (compF Tryd.prog (globs2 tabs opq) (fun _ => false) true Tryd.f25) .n
def b25_0 (O : Oracle) (R : Jump) (q : Nat) (x0 x1 : TVal) (h : Heap) : Res1 :=
 vbin .rem 0 x0 x1 h fun x8 h =>
 vbin .lss 0 x8 (kI 0) h fun x10 h =>
 vif x10 (
 vbin .add 0 x8 x1 h fun x13 h =>
 tcomp x13 fun c0 => vfin true q [c0] h)
 (tcomp x8 fun c0 => vfin true q [c0] h)
theorem e25_0 (O : Oracle) (R : Jump) (q : Nat) (x0 x1 : TVal) (h : Heap) : b25_0 O R q x0 x1 h = stepF c25 O R q 0 [x0, x1] h := by kernel_rfl
def d25 : BlkF := fun O R Q => [.s fun a => .s fun b => .z (b25_0 O R Q a b)]
theorem o25 (O : Oracle) (R : Jump) (q : Nat) : HoldsAll c25 O R q 0 (d25 O R q) := ⟨e25_0 O R q, trivial⟩
def c26 : MFunc := mkM (compF Tryd.prog (globs2 tabs opq) (fun n => Nat.blt n 1000000) true Tryd.f26) (.s .n (.s .n (.s .n (.s .n (.s (.s .n (.k (.l 1 [0, 6, 19, 20, 21] (.s .n (.s .n (.s (.k (.s .n (.s .n (.m 2 [0, 4, 6, 8, 19, 20, 21] .n)))) .n)))))) (.m 3 [0, 6] .n))))))
def b26_0 (O : Oracle) (R : Jump) (q : Nat) (x0 : TVal) (h : Heap) : Res1 :=
 vcall O (.v (.c (.func 49 []))) [x0] h 11 fun x11 h =>
 vext x11 0 h fun x12 h =>
 vext x11 1 h fun x13 h =>
 vbin .neq 0 x13 (kI 0) h fun x15 h =>
 vif x15 (
 tcomp (.v (.c (.p .nilslice))) fun c0 => tcomp (kI 0) fun c1 => tcomp x13 fun c2 => vfin true q [c0, c1, c2] h)
 (vop O (.build [(.p .nilslice), (.p .nilslice), (.p .nilslice), (.p .nilslice)] []) h 17 fun x17 h =>
 vop O (.box (.k x17) true) h 18 fun x18 h =>
 vlen O 2 x12 h 20 fun x20 h =>
 R 1 [x0, x18, x12, x20, (kI 0)] h)
theorem e26_0 (O : Oracle) (R : Jump) (q : Nat) (x0 : TVal) (h : Heap) : b26_0 O R q x0 h = stepF c26 O R q 0 [x0] h := by kernel_rfl
def b26_1 (O : Oracle) (R : Jump) (q : Nat) (x0 x6 x19 x20 x21 : TVal) (h : Heap) : Res1 :=
 vbin .lss 0 x21 x20 h fun x22 h =>
 vif x22 (
 viaddr 3 x19 x21 h fun x23 h =>
 vload true 3 x23 h fun x24 h =>
 vop O (.alloc [(.p (.bool false)), (.p (.str [])), (.p (.int .i64 0))] true) h 8 fun x8 h =>
 vstore 3 x8 x24 h fun _ h =>
 vfaddr 0 x8 h fun x25 h =>
 vload false 1 x25 h fun x26 h =>
 vif x26 (
 vload true 3 x8 h fun x28 h =>
 vcall O (.v (.c (.func 50 []))) [x6, x28] h 29 fun x29 h =>
 R 2 [x0, x29, x6, x8, x19, x20, x21] h)
 (vload true 3 x8 h fun x31 h =>
 vcall O (.v (.c (.func 51 []))) [x6, x31] h 32 fun x32 h =>
 R 2 [x0, x32, x6, x8, x19, x20, x21] h))
 (R 3 [x0, x6] h)
theorem e26_1 (O : Oracle) (R : Jump) (q : Nat) (x0 x6 x19 x20 x21 : TVal) (h : Heap) : b26_1 O R q x0 x6 x19 x20 x21 h = stepF c26 O R q 1 [x0, x6, x19, x20, x21] h := by kernel_rfl
def b26_2 (O : Oracle) (R : Jump) (q : Nat) (x0 x4 x6 x8 x19 x20 x21 : TVal) (h : Heap) : Res1 :=
 vbin .neq 0 x4 (kI 0) h fun x34 h =>
 vif x34 (
 vfaddr 2 x8 h fun x35 h =>
 vload false 1 x35 h fun x36 h =>
 tcomp (.v (.c (.p .nilslice))) fun c0 => tcomp x36 fun c1 => tcomp x4 fun c2 => vfin true q [c0, c1, c2] h)
 (vbin .add 0 x21 (kI 1) h fun x38 h =>
 R 1 [x0, x6, x19, x20, x38] h)
theorem e26_2 (O : Oracle) (R : Jump) (q : Nat) (x0 x4 x6 x8 x19 x20 x21 : TVal) (h : Heap) : b26_2 O R q x0 x4 x6 x8 x19 x20 x21 h = stepF c26 O R q 2 [x0, x4, x6, x8, x19, x20, x21] h := by kernel_rfl
def b26_3 (O : Oracle) (R : Jump) (q : Nat) (x0 x6 : TVal) (h : Heap) : Res1 :=
 vcall O (.v (.c (.func 52 []))) [x6] h 40 fun x40 h =>
 vbin .neq 1 x40 (.v (.c (.p .nilptr))) h fun x41 h =>
 vif x41 (
 vlen O 0 x0 h 43 fun x43 h =>
 tcomp (.v (.c (.p .nilslice))) fun c0 => tcomp x43 fun c1 => tcomp (kI 12) fun c2 => vfin true q [c0, c1, c2] h)
 (vtouch O (.mv (.k x6)) h 44 fun x44 h t0 =>
 vtouch O (.nilck (.k x44)) h 45 fun x45 h t1 =>
 vtouch O (.faddr 0 (.k x45)) h 46 fun x46 h t2 =>
 vtouch O (.load false 1 (.k x46)) h 47 fun x47 h t3 =>
 vtouch O (.build [(.p (.str [])), (.p .nilslice)] [(1, 1, (.k x47))]) h 48 fun x48 h t4 =>
 vtouch O (.bslice 2 1 [(.p (.str [])), (.p .nilslice)] [(0, (.k x48))] true) h 49 fun x49 h t5 =>
 vtouch O (.mv (.k x6)) h 50 fun x50 h t6 =>
 vtouch O (.nilck (.k x50)) h 51 fun x51 h t7 =>
 vtouch O (.faddr 1 (.k x51)) h 52 fun x52 h t8 =>
 vtouch O (.load false 1 (.k x52)) h 53 fun x53 h t9 =>
 vtouch O (.append 2 40 true (.k x49) (.k x53)) h 54 fun x54 h t10 =>
 vtouch O (.mv (.k x54)) h 2 fun x2 h t11 =>
 vtouch O (.mv (.k (kI 0))) h 3 fun x3 h t12 =>
 vtouch O (.mv (.k (kI 0))) h 4 fun x4 h t13 =>
 bif apartAll [t0, t1, t2, t3, t4, t5, t6, t7, t8, t9, t10, t11, t12, t13] [(5, 9)] then
 tcomp x2 fun c0 => tcomp x3 fun c1 => tcomp x4 fun c2 => vfin true q [c0, c1, c2] h
 else none)
theorem e26_3 (O : Oracle) (R : Jump) (q : Nat) (x0 x6 : TVal) (h : Heap) : b26_3 O R q x0 x6 h = stepF c26 O R q 3 [x0, x6] h := by kernel_rfl
def d26 : BlkF := fun O R Q => [.s fun a => .z (b26_0 O R Q a), .s fun a => .s fun b => .s fun c => .s fun d => .s fun e => .z (b26_1 O R Q a b c d e), .s fun a => .s fun b => .s fun c => .s fun d => .s fun e => .s fun f => .s fun g => .z (b26_2 O R Q a b c d e f g), .s fun a => .s fun b => .z (b26_3 O R Q a b)]
theorem o26 (O : Oracle) (R : Jump) (q : Nat) : HoldsAll c26 O R q 0 (d26 O R q) := ⟨e26_0 O R q, e26_1 O R q, e26_2 O R q, e26_3 O R q, trivial⟩
def c49 : MFunc := mkM (compF Tryd.prog (globs2 tabs opq) (fun _ => false) true Tryd.f49) (.s .n (.s .n (.s .n (.s (.s .n (.k (.l 1 [0, 4, 5] (.s .n (.k (.s .n (.s .n (.m 2 [0, 4, 5, 6] .n)))))))) (.m 3 [4] .n)))))
def b49_0 (O : Oracle) (R : Jump) (q : Nat) (x0 : TVal) (h : Heap) : Res1 :=
 vlen O 0 x0 h 8 fun x8 h =>
 vbin .gtr 0 x8 (kI 1500) h fun x9 h =>
 vif x9 (
 tcomp (.v (.c (.p .nilslice))) fun c0 => tcomp (kI 4) fun c1 => vfin true q [c0, c1] h)
 (R 1 [x0, (.v (.c (.p .nilslice))), (kI 0)] h)
theorem e49_0 (O : Oracle) (R : Jump) (q : Nat) (x0 : TVal) (h : Heap) : b49_0 O R q x0 h = stepF c49 O R q 0 [x0] h := by kernel_rfl
def b49_1 (O : Oracle) (R : Jump) (q : Nat) (x0 x4 x5 : TVal) (h : Heap) : Res1 :=
 vlen O 0 x0 h 12 fun x12 h =>
 vbin .lss 0 x5 x12 h fun x13 h =>
 vif x13 (
 vop O (.slice 0 true (.k x0) (some (.k x5)) none none) h 16 fun x16 h =>
 vcall O (.v (.c (.func 71 []))) [x16, (kS [123, 123])] h 17 fun x17 h =>
 vbin .lss 0 x17 (kI 0) h fun x19 h =>
 vif x19 (
 vlen O 0 x0 h 21 fun x21 h =>
 vbin .sub 0 x21 x5 h fun x23 h =>
 R 2 [x0, x4, x5, x23] h)
 (R 2 [x0, x4, x5, x17] h))
 (R 3 [x4] h)
theorem e49_1 (O : Oracle) (R : Jump) (q : Nat) (x0 x4 x5 : TVal) (h : Heap) : b49_1 O R q x0 x4 x5 h = stepF c49 O R q 1 [x0, x4, x5] h := by kernel_rfl
def b49_2 (O : Oracle) (R : Jump) (q : Nat) (x0 x4 x5 x6 : TVal) (h : Heap) : Res1 :=
 vbin .gtr 0 x6 (kI 0) h fun x25 h =>
 vif x25 (
 vbin .add 0 x5 x6 h fun x31 h =>
 vop O (.slice 0 true (.k x0) (some (.k x5)) (some (.k x31)) none) h 32 fun x32 h =>
 vop O (.build [(.p (.bool false)), (.p (.str [])), (.p (.int .i64 0))] [(1, 1, (.k x32)), (2, 1, (.k x5))]) h 34 fun x34 h =>
 vop O (.bslice 3 1 [(.p (.bool false)), (.p (.str [])), (.p (.int .i64 0))] [(0, (.k x34))] false) h 35 fun x35 h =>
 vop O (.append 3 32 false (.k x4) (.k x35)) h 36 fun x36 h =>
 vbin .add 0 x5 x6 h fun x39 h =>
 R 1 [x0, x36, x39] h)
 (vbin .add 0 x5 (kI 2) h fun x42 h =>
 vop O (.slice 0 true (.k x0) (some (.k x42)) none none) h 43 fun x43 h =>
 vcall O (.v (.c (.func 72 []))) [x43] h 44 fun x44 h =>
 vbin .lss 0 x44 (kI 0) h fun x46 h =>
 vif x46 (
 tcomp (.v (.c (.p .nilslice))) fun c0 => tcomp (kI 11) fun c1 => vfin true q [c0, c1] h)
 (vbin .add 0 x5 (kI 2) h fun x50 h =>
 vbin .add 0 x5 (kI 2) h fun x52 h =>
 vbin .add 0 x52 x44 h fun x54 h =>
 vop O (.slice 0 true (.k x0) (some (.k x50)) (some (.k x54)) none) h 55 fun x55 h =>
 vop O (.build [(.p (.bool false)), (.p (.str [])), (.p (.int .i64 0))] [(0, 1, (.k (kB true))), (1, 1, (.k x55)), (2, 1, (.k x5))]) h 57 fun x57 h =>
 vop O (.bslice 3 1 [(.p (.bool false)), (.p (.str [])), (.p (.int .i64 0))] [(0, (.k x57))] false) h 58 fun x58 h =>
 vop O (.append 3 32 false (.k x4) (.k x58)) h 59 fun x59 h =>
 vbin .add 0 (kI 2) x44 h fun x62 h =>
 vbin .add 0 x62 (kI 2) h fun x63 h =>
 vbin .add 0 x5 x63 h fun x64 h =>
 R 1 [x0, x59, x64] h))
theorem e49_2 (O : Oracle) (R : Jump) (q : Nat) (x0 x4 x5 x6 : TVal) (h : Heap) : b49_2 O R q x0 x4 x5 x6 h = stepF c49 O R q 2 [x0, x4, x5, x6] h := by kernel_rfl
def b49_3 (O : Oracle) (R : Jump) (q : Nat) (x4 : TVal) (h : Heap) : Res1 :=
 vlen O 2 x4 h 66 fun x66 h =>
 vbin .gtr 0 x66 (kI 200) h fun x67 h =>
 vif x67 (
 tcomp (.v (.c (.p .nilslice))) fun c0 => tcomp (kI 3) fun c1 => vfin true q [c0, c1] h)
 (tcomp x4 fun c0 => tcomp (kI 0) fun c1 => vfin true q [c0, c1] h)
theorem e49_3 (O : Oracle) (R : Jump) (q : Nat) (x4 : TVal) (h : Heap) : b49_3 O R q x4 h = stepF c49 O R q 3 [x4] h := by kernel_rfl
def d49 : BlkF := fun O R Q => [.s fun a => .z (b49_0 O R Q a), .s fun a => .s fun b => .s fun c => .z (b49_1 O R Q a b c), .s fun a => .s fun b => .s fun c => .s fun d => .z (b49_2 O R Q a b c d), .s fun a => .z (b49_3 O R Q a)]
theorem o49 (O : Oracle) (R : Jump) (q : Nat) : HoldsAll c49 O R q 0 (d49 O R q) := ⟨e49_0 O R q, e49_1 O R q, e49_2 O R q, e49_3 O R q, trivial⟩
def c50 : MFunc := mkM (compF Tryd.prog (globs2 tabs opq) (fun n => Nat.blt n 1000000) true Tryd.f50) (.s .n (.s .n (.s .n (.s .n (.s .n (.s .n (.s (.s .n (.k (.s (.k (.s (.k (.s (.k (.s (.k (.s (.k (.s (.k (.s (.s .n (.s .n (.s .n (.s (.s .n (.m 1 [0, 5, 28, 35] .n)) .n)))) .n)) .n)) .n)) .n)) .n)) .n)) (.m 2 [0, 5] .n)))) .n)))))))
def b50_0 (O : Oracle) (R : Jump) (q : Nat) (x0 x1 : TVal) (h : Heap) : Res1 :=
 vop O (.box (.k x1) true) h 3 fun x3 h =>
 vfaddr 1 x3 h fun x9 h =>
 vload false 1 x9 h fun x10 h =>
 vcall O (.v (.c (.func 73 []))) [x10] h 11 fun x11 h =>
 vext x11 0 h fun x12 h =>
 vext x11 1 h fun x13 h =>
 vop O (.alloc [(.p (.int .i64 0)), (.p (.int .i64 0)), (.p (.str [])), (.p (.str [])), (.p .nilslice), (.p .nilslice), (.p .nilslice), (.p (.bool false)), (.p .nilslice), (.p (.str []))] true) h 5 fun x5 h =>
 vstore 10 x5 x12 h fun _ h =>
 vbin .neq 0 x13 (kI 0) h fun x15 h =>
 vif x15 (
 tcomp x13 fun c0 => vfin true q [c0] h)
 (vload true 10 x5 h fun x18 h =>
 vcall O (.v (.c (.func 74 []))) [x0, x18] h 19 fun x19 h =>
 vif x19 (
 tcomp (kI 12) fun c0 => vfin true q [c0] h)
 (vfaddr 2 x3 h fun x20 h =>
 vload false 1 x20 h fun x21 h =>
 vfaddr 0 x5 h fun x22 h =>
 vfaddr 1 x22 h fun x23 h =>
 vstore 1 x23 x21 h fun _ h =>
 vcall O (.v (.c (.func 52 []))) [x0] h 25 fun x25 h =>
 vfaddr 0 x5 h fun x26 h =>
 vfaddr 0 x26 h fun x27 h =>
 vload false 1 x27 h fun x28 h =>
 vbin .eql 0 x28 (kI (-2)) h fun x30 h =>
 vif x30 (
 vcall O (.v (.c (.func 75 []))) [x0] h 44 fun x44 h =>
 tcomp (kI 0) fun c0 => vfin true q [c0] h)
 (vbin .eql 0 x28 (kI (-1)) h fun x32 h =>
 vif x32 (
 vop O (.nilck (.k x25)) h 46 fun x46 h =>
 vfaddr 11 x46 h fun x47 h =>
 vstore 1 x47 (kB true) h fun _ h =>
 vop O (.nilck (.k x25)) h 50 fun x50 h =>
 vfaddr 10 x50 h fun x51 h =>
 vload false 1 x51 h fun x52 h =>
 vop O (.bslice 1 1 [(.p .nilslice)] [(0, (.k (.v (.c (.p .nilslice)))))] true) h 53 fun x53 h =>
 vop O (.append 1 24 true (.k x52) (.k x53)) h 54 fun x54 h =>
 vop O (.nilck (.k x25)) h 55 fun x55 h =>
 vfaddr 10 x55 h fun x56 h =>
 vstore 1 x56 x54 h fun _ h =>
 tcomp (kI 0) fun c0 => vfin true q [c0] h)
 (vbin .eql 0 x28 (kI (-3)) h fun x34 h =>
 vif x34 (
 vop O (.nilck (.k x25)) h 58 fun x58 h =>
 vfaddr 12 x58 h fun x59 h =>
 vstore 1 x59 (kB true) h fun _ h =>
 vtouch O (.mv (.k x25)) h 60 fun x60 h t0 =>
 vtouch O (.mv (.k x25)) h 61 fun x61 h t1 =>
 vtouch O (.nilck (.k x61)) h 62 fun x62 h t2 =>
 vtouch O (.faddr 0 (.k x62)) h 63 fun x63 h t3 =>
 vtouch O (.faddr 8 (.k x63)) h 64 fun x64 h t4 =>
 vtouch O (.load false 1 (.k x64)) h 65 fun x65 h t5 =>
 vtouch O (.faddr 0 (.k x5)) h 66 fun x66 h t6 =>
 vtouch O (.faddr 3 (.k x66)) h 67 fun x67 h t7 =>
 vtouch O (.load false 1 (.k x67)) h 68 fun x68 h t8 =>
 vtouch O (.build [(.p (.str [])), (.p .nilslice)] [(0, 1, (.k x68))]) h 69 fun x69 h t9 =>
 vtouch O (.bslice 2 1 [(.p (.str [])), (.p .nilslice)] [(0, (.k x69))] true) h 70 fun x70 h t10 =>
 vtouch O (.append 2 40 true (.k x65) (.k x70)) h 71 fun x71 h t11 =>
 vtouch O (.nilck (.k x60)) h 72 fun x72 h t12 =>
 vtouch O (.faddr 0 (.k x72)) h 73 fun x73 h t13 =>
 vtouch O (.faddr 8 (.k x73)) h 74 fun x74 h t14 =>
 vtouch O (.store 1 (.k x74) (.k x71)) h 1000000 fun _ h t15 =>
 bif apartAll [t0, t1, t2, t3, t4, t5, t6, t7, t8, t9, t10, t11, t12, t13, t14, t15] [(5, 10)] then
 vop O (.nilck (.k x25)) h 77 fun x77 h =>
 vfaddr 10 x77 h fun x78 h =>
 vload false 1 x78 h fun x79 h =>
 vop O (.bslice 1 1 [(.p .nilslice)] [(0, (.k (.v (.c (.p .nilslice)))))] true) h 80 fun x80 h =>
 vop O (.append 1 24 true (.k x79) (.k x80)) h 81 fun x81 h =>
 vop O (.nilck (.k x25)) h 82 fun x82 h =>
 vfaddr 10 x82 h fun x83 h =>
 vstore 1 x83 x81 h fun _ h =>
 tcomp (kI 0) fun c0 => vfin true q [c0] h
 else none)
 (vbin .eql 0 x28 (kI (-4)) h fun x36 h =>
 vif x36 (
 R 1 [x0, x5, x28, x36] h)
 (vbin .eql 0 x28 (kI 5) h fun x37 h =>
 vif x37 (
 R 1 [x0, x5, x28, x37] h)
 (vbin .eql 0 x28 (kI 6) h fun x38 h =>
 vif x38 (
 R 1 [x0, x5, x28, x38] h)
 (vbin .eql 0 x28 (kI 7) h fun x39 h =>
 vif x39 (
 R 1 [x0, x5, x28, x39] h)
 (vbin .eql 0 x28 (kI 8) h fun x40 h =>
 R 1 [x0, x5, x28, x40] h)))))))))
theorem e50_0 (O : Oracle) (R : Jump) (q : Nat) (x0 x1 : TVal) (h : Heap) : b50_0 O R q x0 x1 h = stepF c50 O R q 0 [x0, x1] h := by kernel_rfl
def b50_1 (O : Oracle) (R : Jump) (q : Nat) (x0 x5 x28 x35 : TVal) (h : Heap) : Res1 :=
 vif x35 (
 vload true 10 x5 h fun x85 h =>
 vcall O (.v (.c (.func 76 []))) [x0, x85] h 86 fun x86 h =>
 tcomp x86 fun c0 => vfin true q [c0] h)
 (vbin .eql 0 x28 (kI 9) h fun x42 h =>
 vif x42 (
 vfaddr 0 x5 h fun x87 h =>
 vfaddr 3 x87 h fun x88 h =>
 vload false 1 x88 h fun x89 h =>
 vcall O (.v (.c (.func 77 []))) [x89] h 90 fun x90 h =>
 vop O (.un .not (.k x90)) h 91 fun x91 h =>
 vif x91 (
 tcomp (kI 15) fun c0 => vfin true q [c0] h)
 (R 2 [x0, x5] h))
 (R 2 [x0, x5] h))
theorem e50_1 (O : Oracle) (R : Jump) (q : Nat) (x0 x5 x28 x35 : TVal) (h : Heap) : b50_1 O R q x0 x5 x28 x35 h = stepF c50 O R q 1 [x0, x5, x28, x35] h := by kernel_rfl
def b50_2 (O : Oracle) (R : Jump) (q : Nat) (x0 x5 : TVal) (h : Heap) : Res1 :=
 vfaddr 0 x5 h fun x93 h =>
 vload true 9 x93 h fun x94 h =>
 vcall O (.v (.c (.func 78 []))) [x0, x94] h 95 fun x95 h =>
 tcomp (kI 0) fun c0 => vfin true q [c0] h
theorem e50_2 (O : Oracle) (R : Jump) (q : Nat) (x0 x5 : TVal) (h : Heap) : b50_2 O R q x0 x5 h = stepF c50 O R q 2 [x0, x5] h := by kernel_rfl
def d50 : BlkF := fun O R Q => [.s fun a => .s fun b => .z (b50_0 O R Q a b), .s fun a => .s fun b => .s fun c => .s fun d => .z (b50_1 O R Q a b c d), .s fun a => .s fun b => .z (b50_2 O R Q a b)]
theorem o50 (O : Oracle) (R : Jump) (q : Nat) : HoldsAll c50 O R q 0 (d50 O R q) := ⟨e50_0 O R q, e50_1 O R q, e50_2 O R q, trivial⟩
def c51 : MFunc := mkM (compF Tryd.prog (globs2 tabs opq) (fun n => Nat.blt n 1000000) true Tryd.f51) .n
def b51_0 (O : Oracle) (R : Jump) (q : Nat) (x0 x1 : TVal) (h : Heap) : Res1 :=
 vop O (.box (.k x1) true) h 3 fun x3 h =>
 vcall O (.v (.c (.func 52 []))) [x0] h 6 fun x6 h =>
 vcall O (.v (.c (.func 79 []))) [x6] h 7 fun x7 h =>
 vif x7 (
 vfaddr 1 x3 h fun x8 h =>
 vload false 1 x8 h fun x9 h =>
 vcall O (.v (.c (.func 80 []))) [x9, (kS [32, 9, 10, 13])] h 10 fun x10 h =>
 vbin .neq 0 x10 (kS []) h fun x11 h =>
 vif x11 (
 tcomp (kI 12) fun c0 => vfin true q [c0] h)
 (tcomp (kI 0) fun c0 => vfin true q [c0] h))
 (vfaddr 2 x3 h fun x13 h =>
 vload false 1 x13 h fun x14 h =>
 vfaddr 1 x3 h fun x15 h =>
 vload false 1 x15 h fun x16 h =>
 vop O (.build [(.p (.int .i64 0)), (.p (.int .i64 0)), (.p (.str [])), (.p (.str [])), (.p .nilslice), (.p .nilslice), (.p .nilslice), (.p (.bool false)), (.p .nilslice)] [(0, 1, (.k (kI 1))), (1, 1, (.k x14)), (2, 1, (.k x16))]) h 17 fun x17 h =>
 vcall O (.v (.c (.func 78 []))) [x0, x17] h 18 fun x18 h =>
 tcomp (kI 0) fun c0 => vfin true q [c0] h)
theorem e51_0 (O : Oracle) (R : Jump) (q : Nat) (x0 x1 : TVal) (h : Heap) : b51_0 O R q x0 x1 h = stepF c51 O R q 0 [x0, x1] h := by kernel_rfl
def d51 : BlkF := fun O R Q => [.s fun a => .s fun b => .z (b51_0 O R Q a b)]
theorem o51 (O : Oracle) (R : Jump) (q : Nat) : HoldsAll c51 O R q 0 (d51 O R q) := ⟨e51_0 O R q, trivial⟩
def c52 : MFunc := mkM (compF Tryd.prog (globs2 tabs opq) (fun n => Nat.blt n 1000000) false Tryd.f52) .n
def b52_0 (O : Oracle) (R : Jump) (q : Nat) (x0 : TVal) (h : Heap) : Res1 :=
 vop O (.nilck (.k x0)) h 4 fun x4 h =>
 vfaddr 2 x4 h fun x5 h =>
 vload false 1 x5 h fun x6 h =>
 vlen O 2 x6 h 7 fun x7 h =>
 vbin .eql 0 x7 (kI 0) h fun x8 h =>
 vif x8 (
 tcomp (.v (.c (.p .nilptr))) fun c0 => vfin false q [c0] h)
 (vop O (.nilck (.k x0)) h 10 fun x10 h =>
 vfaddr 2 x10 h fun x11 h =>
 vload false 1 x11 h fun x12 h =>
 vop O (.nilck (.k x0)) h 14 fun x14 h =>
 vfaddr 2 x14 h fun x15 h =>
 vload false 1 x15 h fun x16 h =>
 vlen O 2 x16 h 17 fun x17 h =>
 vbin .sub 0 x17 (kI 1) h fun x18 h =>
 viaddr 1 x12 x18 h fun x19 h =>
 vload false 1 x19 h fun x20 h =>
 tcomp x20 fun c0 => vfin false q [c0] h)
theorem e52_0 (O : Oracle) (R : Jump) (q : Nat) (x0 : TVal) (h : Heap) : b52_0 O R q x0 h = stepF c52 O R q 0 [x0] h := by kernel_rfl
def d52 : BlkF := fun O R Q => [.s fun a => .z (b52_0 O R Q a)]
theorem o52 (O : Oracle) (R : Jump) (q : Nat) : HoldsAll c52 O R q 0 (d52 O R q) := ⟨e52_0 O R q, trivial⟩
def c54 : MFunc := mkM (compF Tryd.prog (globs2 tabs opq) (fun _ => false) true Tryd.f54) (.s .n (.s .n (.s .n (.s (.s .n (.k (.l 1 [0, 4, 5] (.k (.s (.k (.l 2 [0, 4, 5] .n)) (.m 3 [0, 4, 5] .n)))))) (.m 4 [4] .n)))))
def b54_0 (O : Oracle) (R : Jump) (q : Nat) (x0 : TVal) (h : Heap) : Res1 :=
 vlen O 0 x0 h 10 fun x10 h =>
 vbin .gtr 0 x10 (kI 1500) h fun x11 h =>
 vif x11 (
 tcomp (.v (.c (.p .nilslice))) fun c0 => tcomp (kI 4) fun c1 => vfin true q [c0, c1] h)
 (R 1 [x0, (.v (.c (.p .nilslice))), (kI 0)] h)
theorem e54_0 (O : Oracle) (R : Jump) (q : Nat) (x0 : TVal) (h : Heap) : b54_0 O R q x0 h = stepF c54 O R q 0 [x0] h := by kernel_rfl
def b54_1 (O : Oracle) (R : Jump) (q : Nat) (x0 x4 x5 : TVal) (h : Heap) : Res1 :=
 R 2 [x0, x4, x5] h
theorem e54_1 (O : Oracle) (R : Jump) (q : Nat) (x0 x4 x5 : TVal) (h : Heap) : b54_1 O R q x0 x4 x5 h = stepF c54 O R q 1 [x0, x4, x5] h := by kernel_rfl
def b54_2 (O : Oracle) (R : Jump) (q : Nat) (x0 x4 x5 : TVal) (h : Heap) : Res1 :=
 vlen O 0 x0 h 14 fun x14 h =>
 vbin .lss 0 x5 x14 h fun x15 h =>
 vguard x15 true (fun kk => kk x0 h) h fun x17 h =>
 vguard x15 true (fun kk => kk x5 h) h fun x18 h =>
 vguard x15 true (fun kk => kk x5 h) h fun x19 h =>
 vguard x15 true (fun kk => vbin .add 0 x19 (kI 1) h kk) h fun x20 h =>
 vguard x15 true (fun kk => vop O (.slice 0 true (.k x17) (some (.k x18)) (some (.k x20)) none) h 21 kk) h fun x21 h =>
 vguard x15 true (fun kk => vcall O (.v (.c (.func 84 []))) [(kS [32, 9, 10, 13]), x21] h 22 kk) h fun x22 h =>
 vop O (.pick (.k x15) (.k x22) (.k (kB false))) h 23 fun x23 h =>
 vif x23 (
 vbin .add 0 x5 (kI 1) h fun x25 h =>
 R 2 [x0, x4, x25] h)
 (R 3 [x0, x4, x5] h)
theorem e54_2 (O : Oracle) (R : Jump) (q : Nat) (x0 x4 x5 : TVal) (h : Heap) : b54_2 O R q x0 x4 x5 h = stepF c54 O R q 2 [x0, x4, x5] h := by kernel_rfl
def b54_3 (O : Oracle) (R : Jump) (q : Nat) (x0 x4 x5 : TVal) (h : Heap) : Res1 :=
 vlen O 0 x0 h 28 fun x28 h =>
 vbin .eql 0 x5 x28 h fun x29 h =>
 vif x29 (
 R 4 [x4] h)
 (vop O (.slice 0 true (.k x0) (some (.k x5)) none none) h 33 fun x33 h =>
 vcall O (.v (.c (.func 85 []))) [x33] h 34 fun x34 h =>
 vext x34 0 h fun x35 h =>
 vext x34 1 h fun x36 h =>
 vext x34 2 h fun x37 h =>
 vop O (.alloc [(.p (.int .i64 0)), (.p (.str [])), (.p (.int .i64 0)), (.p (.int .i64 0))] false) h 6 fun x6 h =>
 vstore 4 x6 x35 h fun _ h =>
 vbin .neq 0 x37 (kI 0) h fun x39 h =>
 vif x39 (
 tcomp (.v (.c (.p .nilslice))) fun c0 => tcomp x37 fun c1 => vfin true q [c0, c1] h)
 (vfaddr 3 x6 h fun x42 h =>
 vstore 1 x42 x5 h fun _ h =>
 vload true 4 x6 h fun x44 h =>
 vop O (.bslice 4 1 [(.p (.int .i64 0)), (.p (.str [])), (.p (.int .i64 0)), (.p (.int .i64 0))] [(0, (.k x44))] false) h 45 fun x45 h =>
 vop O (.append 4 40 false (.k x4) (.k x45)) h 46 fun x46 h =>
 vbin .add 0 x5 x36 h fun x49 h =>
 R 1 [x0, x46, x49] h))
theorem e54_3 (O : Oracle) (R : Jump) (q : Nat) (x0 x4 x5 : TVal) (h : Heap) : b54_3 O R q x0 x4 x5 h = stepF c54 O R q 3 [x0, x4, x5] h := by kernel_rfl
def b54_4 (O : Oracle) (R : Jump) (q : Nat) (x4 : TVal) (h : Heap) : Res1 :=
 vlen O 2 x4 h 51 fun x51 h =>
 vbin .gtr 0 x51 (kI 400) h fun x52 h =>
 vif x52 (
 tcomp (.v (.c (.p .nilslice))) fun c0 => tcomp (kI 3) fun c1 => vfin true q [c0, c1] h)
 (tcomp x4 fun c0 => tcomp (kI 0) fun c1 => vfin true q [c0, c1] h)
theorem e54_4 (O : Oracle) (R : Jump) (q : Nat) (x4 : TVal) (h : Heap) : b54_4 O R q x4 h = stepF c54 O R q 4 [x4] h := by kernel_rfl
def d54 : BlkF := fun O R Q => [.s fun a => .z (b54_0 O R Q a), .s fun a => .s fun b => .s fun c => .z (b54_1 O R Q a b c), .s fun a => .s fun b => .s fun c => .z (b54_2 O R Q a b c), .s fun a => .s fun b => .s fun c => .z (b54_3 O R Q a b c), .s fun a => .z (b54_4 O R Q a)]
theorem o54 (O : Oracle) (R : Jump) (q : Nat) : HoldsAll c54 O R q 0 (d54 O R q) := ⟨e54_0 O R q, e54_1 O R q, e54_2 O R q, e54_3 O R q, e54_4 O R q, trivial⟩
def c71 : MFunc := mkM (compF Tryd.prog (globs2 tabs opq) (fun _ => false) true Tryd.f71) .n
def b71_0 (O : Oracle) (R : Jump) (q : Nat) (x0 x1 : TVal) (h : Heap) : Res1 :=
 vcall O (.v (.c (.func 98 []))) [x0, x1] h 7 fun x7 h =>
 tcomp x7 fun c0 => vfin true q [c0] h
theorem e71_0 (O : Oracle) (R : Jump) (q : Nat) (x0 x1 : TVal) (h : Heap) : b71_0 O R q x0 x1 h = stepF c71 O R q 0 [x0, x1] h := by kernel_rfl
def d71 : BlkF := fun O R Q => [.s fun a => .s fun b => .z (b71_0 O R Q a b)]
theorem o71 (O : Oracle) (R : Jump) (q : Nat) : HoldsAll c71 O R q 0 (d71 O R q) := ⟨e71_0 O R q, trivial⟩
def c72 : MFunc := mkM (compF Tryd.prog (globs2 tabs opq) (fun _ => false) true Tryd.f72) (.s .n (.s .n (.s (.s .n (.k (.l 1 [0, 3, 4, 7, 8] (.s .n (.s .n (.s (.k (.s .n (.s .n (.m 2 [0, 3, 4, 5, 7, 8] .n)))) (.m 3 [0, 3, 4, 7, 8] .n))))))) .n)))
def b72_0 (O : Oracle) (R : Jump) (q : Nat) (x0 : TVal) (h : Heap) : Res1 :=
 vlen O 0 x0 h 7 fun x7 h =>
 R 1 [x0, (kB false), (kI 0), x7, (kI 0)] h
theorem e72_0 (O : Oracle) (R : Jump) (q : Nat) (x0 : TVal) (h : Heap) : b72_0 O R q x0 h = stepF c72 O R q 0 [x0] h := by kernel_rfl
def b72_1 (O : Oracle) (R : Jump) (q : Nat) (x0 x3 x4 x7 x8 : TVal) (h : Heap) : Res1 :=
 vbin .lss 0 x8 x7 h fun x9 h =>
 vif x9 (
 vindex x0 x8 h fun x14 h =>
 vbin .eql 0 x14 (.v (.c (.p (.int .u8 34)))) h fun x15 h =>
 vguard x15 true (fun kk => kk x3 h) h fun x17 h =>
 vguard x15 true (fun kk => vop O (.un .not (.k x17)) h 18 kk) h fun x18 h =>
 vguard x15 true (fun kk => kk x18 h) h fun x19 h =>
 vguard x19 false (fun kk => kk x4 h) h fun x20 h =>
 vguard x19 false (fun kk => vbin .rem 0 x20 (kI 2) h kk) h fun x21 h =>
 vguard x19 false (fun kk => vbin .eql 0 x21 (kI 0) h kk) h fun x22 h =>
 vguard x15 true (fun kk => vop O (.pick (.k x19) (.k (kB true)) (.k x22)) h 23 kk) h fun x23 h =>
 vop O (.pick (.k x15) (.k x23) (.k (kB false))) h 24 fun x24 h =>
 vif x24 (
 vop O (.un .not (.k x3)) h 26 fun x26 h =>
 R 2 [x0, x26, x4, x8, x7, x8] h)
 (vop O (.un .not (.k x3)) h 29 fun x29 h =>
 vguard x29 true (fun kk => kk x0 h) h fun x31 h =>
 vguard x29 true (fun kk => kk x8 h) h fun x32 h =>
 vguard x29 true (fun kk => vop O (.slice 0 true (.k x31) (some (.k x32)) none none) h 33 kk) h fun x33 h =>
 vguard x29 true (fun kk => vcall O (.v (.c (.func 99 []))) [x33, (kS [125, 125])] h 34 kk) h fun x34 h =>
 vop O (.pick (.k x29) (.k x34) (.k (kB false))) h 35 fun x35 h =>
 vif x35 (
 tcomp x8 fun c0 => vfin true q [c0] h)
 (R 2 [x0, x3, x4, x8, x7, x8] h)))
 (tcomp (kI (-1)) fun c0 => vfin true q [c0] h)
theorem e72_1 (O : Oracle) (R : Jump) (q : Nat) (x0 x3 x4 x7 x8 : TVal) (h : Heap) : b72_1 O R q x0 x3 x4 x7 x8 h = stepF c72 O R q 1 [x0, x3, x4, x7, x8] h := by kernel_rfl
def b72_2 (O : Oracle) (R : Jump) (q : Nat) (x0 x3 x4 x5 x7 x8 : TVal) (h : Heap) : Res1 :=
 vindex x0 x5 h fun x39 h =>
 vbin .eql 0 x39 (.v (.c (.p (.int .u8 92)))) h fun x40 h =>
 vif x40 (
 vbin .add 0 x4 (kI 1) h fun x42 h =>
 R 3 [x0, x3, x42, x7, x8] h)
 (R 3 [x0, x3, (kI 0), x7, x8] h)
theorem e72_2 (O : Oracle) (R : Jump) (q : Nat) (x0 x3 x4 x5 x7 x8 : TVal) (h : Heap) : b72_2 O R q x0 x3 x4 x5 x7 x8 h = stepF c72 O R q 2 [x0, x3, x4, x5, x7, x8] h := by kernel_rfl
def b72_3 (O : Oracle) (R : Jump) (q : Nat) (x0 x3 x4 x7 x8 : TVal) (h : Heap) : Res1 :=
 vbin .add 0 x8 (kI 1) h fun x43 h =>
 R 1 [x0, x3, x4, x7, x43] h
theorem e72_3 (O : Oracle) (R : Jump) (q : Nat) (x0 x3 x4 x7 x8 : TVal) (h : Heap) : b72_3 O R q x0 x3 x4 x7 x8 h = stepF c72 O R q 3 [x0, x3, x4, x7, x8] h := by kernel_rfl
def d72 : BlkF := fun O R Q => [.s fun a => .z (b72_0 O R Q a), .s fun a => .s fun b => .s fun c => .s fun d => .s fun e => .z (b72_1 O R Q a b c d e), .s fun a => .s fun b => .s fun c => .s fun d => .s fun e => .s fun f => .z (b72_2 O R Q a b c d e f), .s fun a => .s fun b => .s fun c => .s fun d => .s fun e => .z (b72_3 O R Q a b c d e)]
theorem o72 (O : Oracle) (R : Jump) (q : Nat) : HoldsAll c72 O R q 0 (d72 O R q) := ⟨e72_0 O R q, e72_1 O R q, e72_2 O R q, e72_3 O R q, trivial⟩
def c73 : MFunc := mkM (compF Tryd.prog (globs2 tabs opq) (fun _ => false) true Tryd.f73) (.s .n (.s .n (.s .n (.s .n (.s .n (.m 1 [2, 4, 5, 6] (.s .n (.s (.k (.s .n (.s (.s .n (.s .n (.m 2 [2, 4, 5] .n))) .n))) (.m 3 [2, 4, 5] .n)))))))))
def b73_0 (O : Oracle) (R : Jump) (q : Nat) (x0 : TVal) (h : Heap) : Res1 :=
 vop O (.alloc [(.p (.int .i64 0)), (.p (.int .i64 0)), (.p (.str [])), (.p (.str [])), (.p .nilslice), (.p .nilslice), (.p .nilslice), (.p (.bool false)), (.p .nilslice), (.p (.str []))] false) h 2 fun x2 h =>
 vcall O (.v (.c (.func 100 []))) [x0] h 10 fun x10 h =>
 vop O (.alloc [(.p (.int .i64 0)), (.p (.int .i64 0)), (.p (.str [])), (.p (.str [])), (.p .nilslice), (.p .nilslice), (.p .nilslice), (.p (.bool false)), (.p .nilslice), (.p (.str []))] false) h 5 fun x5 h =>
 vcall O (.v (.c (.func 101 []))) [x10, (kI 0)] h 12 fun x12 h =>
 vop O (.alloc [(.p (.int .i64 0)), (.p (.str [])), (.p (.int .i64 0)), (.p (.int .i64 0))] false) h 6 fun x6 h =>
 vstore 4 x6 x12 h fun _ h =>
 vfaddr 0 x6 h fun x13 h =>
 vload false 1 x13 h fun x14 h =>
 vbin .eql 0 x14 (kI 1) h fun x15 h =>
 vif x15 (
 vfaddr 1 x6 h fun x16 h =>
 vload false 1 x16 h fun x17 h =>
 vfaddr 9 x5 h fun x18 h =>
 vstore 1 x18 x17 h fun _ h =>
 R 1 [x2, x10, x5, x6] h)
 (R 1 [x2, x10, x5, x6] h)
theorem e73_0 (O : Oracle) (R : Jump) (q : Nat) (x0 : TVal) (h : Heap) : b73_0 O R q x0 h = stepF c73 O R q 0 [x0] h := by kernel_rfl
def b73_1 (O : Oracle) (R : Jump) (q : Nat) (x2 x4 x5 x6 : TVal) (h : Heap) : Res1 :=
 vload true 4 x6 h fun x19 h =>
 vcall O (.v (.c (.func 102 []))) [x19, (kS [36])] h 20 fun x20 h =>
 vguard x20 true (fun kk => kk x4 h) h fun x22 h =>
 vguard x20 true (fun kk => vcall O (.v (.c (.func 101 []))) [x22, (kI 1)] h 23 kk) h fun x23 h =>
 vguard x20 true (fun kk => vfield 0 1 false x23 h kk) h fun x24 h =>
 vguard x20 true (fun kk => vbin .eql 0 x24 (kI 1) h kk) h fun x25 h =>
 vop O (.pick (.k x20) (.k x25) (.k (kB false))) h 26 fun x26 h =>
 vguard x26 true (fun kk => kk x4 h) h fun x30 h =>
 vguard x26 true (fun kk => vcall O (.v (.c (.func 101 []))) [x30, (kI 2)] h 31 kk) h fun x31 h =>
 vguard x26 true (fun kk => vcall O (.v (.c (.func 102 []))) [x31, (kS [58, 61])] h 32 kk) h fun x32 h =>
 vguard x26 true (fun kk => kk x32 h) h fun x33 h =>
 vguard x33 false (fun kk => kk x4 h) h fun x34 h =>
 vguard x33 false (fun kk => vcall O (.v (.c (.func 101 []))) [x34, (kI 2)] h 35 kk) h fun x35 h =>
 vguard x33 false (fun kk => vcall O (.v (.c (.func 102 []))) [x35, (kS [61])] h 36 kk) h fun x36 h =>
 vguard x26 true (fun kk => vop O (.pick (.k x33) (.k (kB true)) (.k x36)) h 37 kk) h fun x37 h =>
 vop O (.pick (.k x26) (.k x37) (.k (kB false))) h 38 fun x38 h =>
 vif x38 (
 vcall O (.v (.c (.func 101 []))) [x4, (kI 1)] h 40 fun x40 h =>
 vfield 1 1 false x40 h fun x41 h =>
 vfaddr 0 x5 h fun x42 h =>
 vfaddr 0 x42 h fun x43 h =>
 vstore 1 x43 (kI 3) h fun _ h =>
 vfaddr 0 x5 h fun x44 h =>
 vfaddr 3 x44 h fun x45 h =>
 vstore 1 x45 x41 h fun _ h =>
 vcall O (.v (.c (.func 101 []))) [x4, (kI 2)] h 47 fun x47 h =>
 vcall O (.v (.c (.func 102 []))) [x47, (kS [61])] h 48 fun x48 h =>
 vif x48 (
 vfaddr 0 x5 h fun x49 h =>
 vfaddr 0 x49 h fun x50 h =>
 vstore 1 x50 (kI 4) h fun _ h =>
 R 2 [x2, x4, x5] h)
 (R 2 [x2, x4, x5] h))
 (vcall O (.v (.c (.func 104 []))) [x4, x5] h 64 fun x64 h =>
 vop O (.un .not (.k x64)) h 65 fun x65 h =>
 vif x65 (
 vfaddr 0 x5 h fun x66 h =>
 vfaddr 0 x66 h fun x67 h =>
 vstore 1 x67 (kI 2) h fun _ h =>
 vcall O (.v (.c (.func 103 []))) [x4] h 69 fun x69 h =>
 vfaddr 0 x5 h fun x70 h =>
 vfaddr 4 x70 h fun x71 h =>
 vstore 1 x71 x69 h fun _ h =>
 R 3 [x2, x4, x5] h)
 (R 3 [x2, x4, x5] h))
theorem e73_1 (O : Oracle) (R : Jump) (q : Nat) (x2 x4 x5 x6 : TVal) (h : Heap) : b73_1 O R q x2 x4 x5 x6 h = stepF c73 O R q 1 [x2, x4, x5, x6] h := by kernel_rfl
def b73_2 (O : Oracle) (R : Jump) (q : Nat) (x2 x4 x5 : TVal) (h : Heap) : Res1 :=
 vop O (.nilck (.k x4)) h 52 fun x52 h =>
 vfaddr 1 x52 h fun x53 h =>
 vload false 1 x53 h fun x54 h =>
 vbin .add 0 x54 (kI 3) h fun x55 h =>
 vop O (.nilck (.k x4)) h 56 fun x56 h =>
 vfaddr 1 x56 h fun x57 h =>
 vstore 1 x57 x55 h fun _ h =>
 vcall O (.v (.c (.func 103 []))) [x4] h 59 fun x59 h =>
 vfaddr 0 x5 h fun x60 h =>
 vfaddr 4 x60 h fun x61 h =>
 vstore 1 x61 x59 h fun _ h =>
 R 3 [x2, x4, x5] h
theorem e73_2 (O : Oracle) (R : Jump) (q : Nat) (x2 x4 x5 : TVal) (h : Heap) : b73_2 O R q x2 x4 x5 h = stepF c73 O R q 2 [x2, x4, x5] h := by kernel_rfl
def b73_3 (O : Oracle) (R : Jump) (q : Nat) (x2 x4 x5 : TVal) (h : Heap) : Res1 :=
 vcall O (.v (.c (.func 105 []))) [x4] h 73 fun x73 h =>
 vbin .neq 0 x73 (kI 0) h fun x75 h =>
 vif x75 (
 vop O (.build [(.p (.int .i64 0)), (.p (.int .i64 0)), (.p (.str [])), (.p (.str [])), (.p .nilslice), (.p .nilslice), (.p .nilslice), (.p (.bool false)), (.p .nilslice), (.p (.str []))] []) h 76 fun x76 h =>
 vstore 10 x2 x76 h fun _ h =>
 vcell true 10 x2 h fun c0 => tcomp x73 fun c1 => vfin true q [c0, c1] h)
 (vload true 10 x5 h fun x78 h =>
 vstore 10 x2 x78 h fun _ h =>
 vcell true 10 x2 h fun c0 => tcomp (kI 0) fun c1 => vfin true q [c0, c1] h)
theorem e73_3 (O : Oracle) (R : Jump) (q : Nat) (x2 x4 x5 : TVal) (h : Heap) : b73_3 O R q x2 x4 x5 h = stepF c73 O R q 3 [x2, x4, x5] h := by kernel_rfl
def d73 : BlkF := fun O R Q => [.s fun a => .z (b73_0 O R Q a), .s fun a => .s fun b => .s fun c => .s fun d => .z (b73_1 O R Q a b c d), .s fun a => .s fun b => .s fun c => .z (b73_2 O R Q a b c), .s fun a => .s fun b => .s fun c => .z (b73_3 O R Q a b c)]
theorem o73 (O : Oracle) (R : Jump) (q : Nat) : HoldsAll c73 O R q 0 (d73 O R q) := ⟨e73_0 O R q, e73_1 O R q, e73_2 O R q, e73_3 O R q, trivial⟩
def c74 : MFunc := mkM (compF Tryd.prog (globs2 tabs opq) (fun n => Nat.blt n 1000000) true Tryd.f74) .n
def b74_0 (O : Oracle) (R : Jump) (q : Nat) (x0 x1 : TVal) (h : Heap) : Res1 :=
 vop O (.box (.k x1) true) h 3 fun x3 h =>
 vcall O (.v (.c (.func 52 []))) [x0] h 7 fun x7 h =>
 vfaddr 0 x3 h fun x8 h =>
 vfaddr 0 x8 h fun x9 h =>
 vload false 1 x9 h fun x10 h =>
 vbin .eql 0 x10 (kI (-2)) h fun x12 h =>
 vif x12 (
 vbin .eql 1 x7 (.v (.c (.p .nilptr))) h fun x14 h =>
 tcomp x14 fun c0 => vfin true q [c0] h)
 (vbin .eql 0 x10 (kI (-1)) h fun x16 h =>
 vif x16 (
 vbin .eql 1 x7 (.v (.c (.p .nilptr))) h fun x18 h =>
 vguard x18 false (fun kk => kk x7 h) h fun x20 h =>
 vguard x18 false (fun kk => vop O (.nilck (.k x20)) h 21 kk) h fun x21 h =>
 vguard x18 false (fun kk => vfaddr 9 x21 h kk) h fun x22 h =>
 vguard x18 false (fun kk => vload false 1 x22 h kk) h fun x23 h =>
 vop O (.pick (.k x18) (.k (kB true)) (.k x23)) h 24 fun x24 h =>
 vguard x24 false (fun kk => kk x7 h) h fun x26 h =>
 vguard x24 false (fun kk => vop O (.nilck (.k x26)) h 27 kk) h fun x27 h =>
 vguard x24 false (fun kk => vfaddr 11 x27 h kk) h fun x28 h =>
 vguard x24 false (fun kk => vload false 1 x28 h kk) h fun x29 h =>
 vop O (.pick (.k x24) (.k (kB true)) (.k x29)) h 30 fun x30 h =>
 tcomp x30 fun c0 => vfin true q [c0] h)
 (vbin .eql 0 x10 (kI (-3)) h fun x32 h =>
 vif x32 (
 vbin .eql 1 x7 (.v (.c (.p .nilptr))) h fun x34 h =>
 vguard x34 false (fun kk => kk x7 h) h fun x36 h =>
 vguard x34 false (fun kk => vop O (.nilck (.k x36)) h 37 kk) h fun x37 h =>
 vguard x34 false (fun kk => vfaddr 0 x37 h kk) h fun x38 h =>
 vguard x34 false (fun kk => vfaddr 0 x38 h kk) h fun x39 h =>
 vguard x34 false (fun kk => vload false 1 x39 h kk) h fun x40 h =>
 vguard x34 false (fun kk => vbin .neq 0 x40 (kI 8) h kk) h fun x41 h =>
 vop O (.pick (.k x34) (.k (kB true)) (.k x41)) h 42 fun x42 h =>
 vguard x42 false (fun kk => kk x7 h) h fun x44 h =>
 vguard x42 false (fun kk => vop O (.nilck (.k x44)) h 45 kk) h fun x45 h =>
 vguard x42 false (fun kk => vfaddr 11 x45 h kk) h fun x46 h =>
 vguard x42 false (fun kk => vload false 1 x46 h kk) h fun x47 h =>
 vop O (.pick (.k x42) (.k (kB true)) (.k x47)) h 48 fun x48 h =>
 tcomp x48 fun c0 => vfin true q [c0] h)
 (vbin .eql 0 x10 (kI (-4)) h fun x50 h =>
 vif x50 (
 vbin .neq 1 x7 (.v (.c (.p .nilptr))) h fun x52 h =>
 tcomp x52 fun c0 => vfin true q [c0] h)
 (vcall O (.v (.c (.func 79 []))) [x7] h 54 fun x54 h =>
 tcomp x54 fun c0 => vfin true q [c0] h))))
theorem e74_0 (O : Oracle) (R : Jump) (q : Nat) (x0 x1 : TVal) (h : Heap) : b74_0 O R q x0 x1 h = stepF c74 O R q 0 [x0, x1] h := by kernel_rfl
def d74 : BlkF := fun O R Q => [.s fun a => .s fun b => .z (b74_0 O R Q a b)]
theorem o74 (O : Oracle) (R : Jump) (q : Nat) : HoldsAll c74 O R q 0 (d74 O R q) := ⟨e74_0 O R q, trivial⟩
def c75 : MFunc := mkM (compF Tryd.prog (globs2 tabs opq) (fun n => Nat.blt n 1000000) true Tryd.f75) (.s .n (.s .n (.s .n (.m 1 [0, 2] (.s (.k (.s .n (.s .n (.s .n (.s (.s .n (.k (.l 2 [0, 2, 106, 107, 108] .n))) .n))))) (.m 3 [0, 2] .n))))))
def b75_0 (O : Oracle) (R : Jump) (q : Nat) (x0 : TVal) (h : Heap) : Res1 :=
 vcall O (.v (.c (.func 52 []))) [x0] h 6 fun x6 h =>
 vop O (.nilck (.k x0)) h 9 fun x9 h =>
 vfaddr 2 x9 h fun x10 h =>
 vload false 1 x10 h fun x11 h =>
 vop O (.nilck (.k x0)) h 13 fun x13 h =>
 vfaddr 2 x13 h fun x14 h =>
 vload false 1 x14 h fun x15 h =>
 vlen O 2 x15 h 16 fun x16 h =>
 vbin .sub 0 x16 (kI 1) h fun x17 h =>
 vop O (.slice 1 false (.k x11) none (some (.k x17)) none) h 18 fun x18 h =>
 vop O (.nilck (.k x0)) h 19 fun x19 h =>
 vfaddr 2 x19 h fun x20 h =>
 vstore 1 x20 x18 h fun _ h =>
 vop O (.nilck (.k x6)) h 22 fun x22 h =>
 vfaddr 11 x22 h fun x23 h =>
 vload false 1 x23 h fun x24 h =>
 vif x24 (
 vop O (.nilck (.k x6)) h 28 fun x28 h =>
 vfaddr 10 x28 h fun x29 h =>
 vload false 1 x29 h fun x30 h =>
 vop O (.nilck (.k x6)) h 32 fun x32 h =>
 vfaddr 10 x32 h fun x33 h =>
 vload false 1 x33 h fun x34 h =>
 vlen O 2 x34 h 35 fun x35 h =>
 vbin .sub 0 x35 (kI 1) h fun x36 h =>
 viaddr 1 x30 x36 h fun x37 h =>
 vload false 1 x37 h fun x38 h =>
 vop O (.nilck (.k x6)) h 39 fun x39 h =>
 vfaddr 0 x39 h fun x40 h =>
 vfaddr 7 x40 h fun x41 h =>
 vstore 1 x41 (kB true) h fun _ h =>
 vop O (.nilck (.k x6)) h 42 fun x42 h =>
 vfaddr 0 x42 h fun x43 h =>
 vfaddr 6 x43 h fun x44 h =>
 vstore 1 x44 x38 h fun _ h =>
 vop O (.nilck (.k x6)) h 47 fun x47 h =>
 vfaddr 10 x47 h fun x48 h =>
 vload false 1 x48 h fun x49 h =>
 vop O (.nilck (.k x6)) h 51 fun x51 h =>
 vfaddr 10 x51 h fun x52 h =>
 vload false 1 x52 h fun x53 h =>
 vlen O 2 x53 h 54 fun x54 h =>
 vbin .sub 0 x54 (kI 1) h fun x55 h =>
 vop O (.slice 1 false (.k x49) none (some (.k x55)) none) h 56 fun x56 h =>
 vop O (.nilck (.k x6)) h 57 fun x57 h =>
 vfaddr 10 x57 h fun x58 h =>
 vstore 1 x58 x56 h fun _ h =>
 R 1 [x0, x6] h)
 (R 1 [x0, x6] h)
theorem e75_0 (O : Oracle) (R : Jump) (q : Nat) (x0 : TVal) (h : Heap) : b75_0 O R q x0 h = stepF c75 O R q 0 [x0] h := by kernel_rfl
def b75_1 (O : Oracle) (R : Jump) (q : Nat) (x0 x2 : TVal) (h : Heap) : Res1 :=
 vop O (.nilck (.k x2)) h 71 fun x71 h =>
 vfaddr 9 x71 h fun x72 h =>
 vload false 1 x72 h fun x73 h =>
 vif x73 (
 vtouch O (.mv (.k x0)) h 74 fun x74 h t0 =>
 vtouch O (.mv (.k x0)) h 75 fun x75 h t1 =>
 vtouch O (.nilck (.k x75)) h 76 fun x76 h t2 =>
 vtouch O (.faddr 1 (.k x76)) h 77 fun x77 h t3 =>
 vtouch O (.load false 1 (.k x77)) h 78 fun x78 h t4 =>
 vtouch O (.mv (.k x2)) h 79 fun x79 h t5 =>
 vtouch O (.nilck (.k x79)) h 80 fun x80 h t6 =>
 vtouch O (.faddr 0 (.k x80)) h 81 fun x81 h t7 =>
 vtouch O (.faddr 3 (.k x81)) h 82 fun x82 h t8 =>
 vtouch O (.load false 1 (.k x82)) h 83 fun x83 h t9 =>
 vtouch O (.mv (.k x2)) h 84 fun x84 h t10 =>
 vtouch O (.nilck (.k x84)) h 85 fun x85 h t11 =>
 vtouch O (.faddr 10 (.k x85)) h 86 fun x86 h t12 =>
 vtouch O (.load false 1 (.k x86)) h 87 fun x87 h t13 =>
 vtouch O (.iaddr 1 (.k x87) (.k (kI 0))) h 88 fun x88 h t14 =>
 vtouch O (.load false 1 (.k x88)) h 89 fun x89 h t15 =>
 vtouch O (.build [(.p (.str [])), (.p .nilslice)] [(0, 1, (.k x83)), (1, 1, (.k x89))]) h 90 fun x90 h t16 =>
 vtouch O (.bslice 2 1 [(.p (.str [])), (.p .nilslice)] [(0, (.k x90))] true) h 91 fun x91 h t17 =>
 vtouch O (.append 2 40 true (.k x78) (.k x91)) h 92 fun x92 h t18 =>
 vtouch O (.nilck (.k x74)) h 93 fun x93 h t19 =>
 vtouch O (.faddr 1 (.k x93)) h 94 fun x94 h t20 =>
 vtouch O (.store 1 (.k x94) (.k x92)) h 1000000 fun _ h t21 =>
 bif apartAll [t0, t1, t2, t3, t4, t5, t6, t7, t8, t9, t10, t11, t12, t13, t14, t15, t16, t17, t18, t19, t20, t21] [(4, 17)] then
 vfin true q [] h
 else none)
 (vop O (.nilck (.k x2)) h 97 fun x97 h =>
 vfaddr 0 x97 h fun x98 h =>
 vfaddr 0 x98 h fun x99 h =>
 vload false 1 x99 h fun x100 h =>
 vbin .eql 0 x100 (kI 8) h fun x101 h =>
 vif x101 (
 vop O (.nilck (.k x2)) h 103 fun x103 h =>
 vfaddr 10 x103 h fun x104 h =>
 vload false 1 x104 h fun x105 h =>
 vop O (.slice 1 false (.k x105) (some (.k (kI 1))) none none) h 106 fun x106 h =>
 vlen O 2 x106 h 107 fun x107 h =>
 R 2 [x0, x2, x106, x107, (kI 0)] h)
 (vop O (.nilck (.k x2)) h 61 fun x61 h =>
 vfaddr 10 x61 h fun x62 h =>
 vload false 1 x62 h fun x63 h =>
 viaddr 1 x63 (kI 0) h fun x64 h =>
 vload false 1 x64 h fun x65 h =>
 vop O (.nilck (.k x2)) h 66 fun x66 h =>
 vfaddr 0 x66 h fun x67 h =>
 vfaddr 5 x67 h fun x68 h =>
 vstore 1 x68 x65 h fun _ h =>
 R 3 [x0, x2] h))
theorem e75_1 (O : Oracle) (R : Jump) (q : Nat) (x0 x2 : TVal) (h : Heap) : b75_1 O R q x0 x2 h = stepF c75 O R q 1 [x0, x2] h := by kernel_rfl
def b75_2 (O : Oracle) (R : Jump) (q : Nat) (x0 x2 x106 x107 x108 : TVal) (h : Heap) : Res1 :=
 vbin .lss 0 x108 x107 h fun x109 h =>
 vif x109 (
 viaddr 1 x106 x108 h fun x111 h =>
 vload false 1 x111 h fun x112 h =>
 vop O (.nilck (.k x2)) h 114 fun x114 h =>
 vfaddr 0 x114 h fun x115 h =>
 vfaddr 8 x115 h fun x116 h =>
 vload false 1 x116 h fun x117 h =>
 viaddr 2 x117 x108 h fun x120 h =>
 vfaddr 1 x120 h fun x121 h =>
 vstore 1 x121 x112 h fun _ h =>
 vbin .add 0 x108 (kI 1) h fun x122 h =>
 R 2 [x0, x2, x106, x107, x122] h)
 (R 3 [x0, x2] h)
theorem e75_2 (O : Oracle) (R : Jump) (q : Nat) (x0 x2 x106 x107 x108 : TVal) (h : Heap) : b75_2 O R q x0 x2 x106 x107 x108 h = stepF c75 O R q 2 [x0, x2, x106, x107, x108] h := by kernel_rfl
def b75_3 (O : Oracle) (R : Jump) (q : Nat) (x0 x2 : TVal) (h : Heap) : Res1 :=
 vop O (.nilck (.k x2)) h 125 fun x125 h =>
 vfaddr 0 x125 h fun x126 h =>
 vload true 9 x126 h fun x127 h =>
 vcall O (.v (.c (.func 78 []))) [x0, x127] h 128 fun x128 h =>
 vfin true q [] h
theorem e75_3 (O : Oracle) (R : Jump) (q : Nat) (x0 x2 : TVal) (h : Heap) : b75_3 O R q x0 x2 h = stepF c75 O R q 3 [x0, x2] h := by kernel_rfl
def d75 : BlkF := fun O R Q => [.s fun a => .z (b75_0 O R Q a), .s fun a => .s fun b => .z (b75_1 O R Q a b), .s fun a => .s fun b => .s fun c => .s fun d => .s fun e => .z (b75_2 O R Q a b c d e), .s fun a => .s fun b => .z (b75_3 O R Q a b)]
theorem o75 (O : Oracle) (R : Jump) (q : Nat) : HoldsAll c75 O R q 0 (d75 O R q) := ⟨e75_0 O R q, e75_1 O R q, e75_2 O R q, e75_3 O R q, trivial⟩
def c76 : MFunc := mkM (compF Tryd.prog (globs2 tabs opq) (fun n => Nat.blt n 1000000) true Tryd.f76) (.s .n (.s .n (.s .n (.s .n (.m 1 [0, 5] .n)))))
def b76_0 (O : Oracle) (R : Jump) (q : Nat) (x0 x1 : TVal) (h : Heap) : Res1 :=
 vop O (.box (.k x1) true) h 3 fun x3 h =>
 vop O (.nilck (.k x0)) h 7 fun x7 h =>
 vfaddr 2 x7 h fun x8 h =>
 vload false 1 x8 h fun x9 h =>
 vlen O 2 x9 h 10 fun x10 h =>
 vbin .geq 0 x10 (kI 12) h fun x11 h =>
 vif x11 (
 tcomp (kI 13) fun c0 => vfin true q [c0] h)
 (vfaddr 0 x3 h fun x12 h =>
 vload true 9 x12 h fun x13 h =>
 vfaddr 0 x3 h fun x14 h =>
 vfaddr 0 x14 h fun x15 h =>
 vload false 1 x15 h fun x16 h =>
 vbin .eql 0 x16 (kI (-4)) h fun x17 h =>
 vop O (.bslice 1 1 [(.p .nilslice)] [(0, (.k (.v (.c (.p .nilslice)))))] true) h 18 fun x18 h =>
 vop O (.build [(.p (.int .i64 0)), (.p (.int .i64 0)), (.p (.str [])), (.p (.str [])), (.p .nilslice), (.p .nilslice), (.p .nilslice), (.p (.bool false)), (.p .nilslice), (.p (.bool false)), (.p .nilslice), (.p (.bool false)), (.p (.bool false))] [(0, 9, (.k x13)), (9, 1, (.k x17)), (10, 1, (.k x18))]) h 19 fun x19 h =>
 vop O (.box (.k x19) true) h 20 fun x20 h =>
 vop O (.nilck (.k x20)) h 22 fun x22 h =>
 vfaddr 9 x22 h fun x23 h =>
 vload false 1 x23 h fun x24 h =>
 vif x24 (
 vfaddr 0 x3 h fun x26 h =>
 vfaddr 3 x26 h fun x27 h =>
 vload false 1 x27 h fun x28 h =>
 vcall O (.v (.c (.func 77 []))) [x28] h 29 fun x29 h =>
 vop O (.un .not (.k x29)) h 30 fun x30 h =>
 vif x30 (
 tcomp (kI 15) fun c0 => vfin true q [c0] h)
 (vop O (.nilck (.k x0)) h 33 fun x33 h =>
 vfaddr 3 x33 h fun x34 h =>
 vload false 1 x34 h fun x35 h =>
 vfaddr 0 x3 h fun x36 h =>
 vfaddr 3 x36 h fun x37 h =>
 vload false 1 x37 h fun x38 h =>
 vcall O (.v (.c (.func 106 []))) [x35, x38] h 39 fun x39 h =>
 vif x39 (
 tcomp (kI 6) fun c0 => vfin true q [c0] h)
 (vop O (.nilck (.k x0)) h 42 fun x42 h =>
 vfaddr 3 x42 h fun x43 h =>
 vload false 1 x43 h fun x44 h =>
 vlen O 2 x44 h 45 fun x45 h =>
 vbin .geq 0 x45 (kI 12) h fun x46 h =>
 vif x46 (
 tcomp (kI 3) fun c0 => vfin true q [c0] h)
 (vtouch O (.mv (.k x0)) h 47 fun x47 h t0 =>
 vtouch O (.mv (.k x0)) h 48 fun x48 h t1 =>
 vtouch O (.nilck (.k x48)) h 49 fun x49 h t2 =>
 vtouch O (.faddr 3 (.k x49)) h 50 fun x50 h t3 =>
 vtouch O (.load false 1 (.k x50)) h 51 fun x51 h t4 =>
 vtouch O (.faddr 0 (.k x3)) h 52 fun x52 h t5 =>
 vtouch O (.faddr 3 (.k x52)) h 53 fun x53 h t6 =>
 vtouch O (.load false 1 (.k x53)) h 54 fun x54 h t7 =>
 vtouch O (.bslice 1 1 [(.p (.str []))] [(0, (.k x54))] true) h 55 fun x55 h t8 =>
 vtouch O (.append 1 16 true (.k x51) (.k x55)) h 56 fun x56 h t9 =>
 vtouch O (.nilck (.k x47)) h 57 fun x57 h t10 =>
 vtouch O (.faddr 3 (.k x57)) h 58 fun x58 h t11 =>
 vtouch O (.store 1 (.k x58) (.k x56)) h 1000000 fun _ h t12 =>
 bif apartAll [t0, t1, t2, t3, t4, t5, t6, t7, t8, t9, t10, t11, t12] [(4, 8)] then
 R 1 [x0, x20] h
 else none))))
 (R 1 [x0, x20] h))
theorem e76_0 (O : Oracle) (R : Jump) (q : Nat) (x0 x1 : TVal) (h : Heap) : b76_0 O R q x0 x1 h = stepF c76 O R q 0 [x0, x1] h := by kernel_rfl
def b76_1 (O : Oracle) (R : Jump) (q : Nat) (x0 x5 : TVal) (h : Heap) : Res1 :=
 vop O (.nilck (.k x0)) h 61 fun x61 h =>
 vfaddr 2 x61 h fun x62 h =>
 vload false 1 x62 h fun x63 h =>
 vop O (.bslice 1 1 [(.p .nilptr)] [(0, (.k x5))] true) h 65 fun x65 h =>
 vop O (.append 1 8 true (.k x63) (.k x65)) h 66 fun x66 h =>
 vop O (.nilck (.k x0)) h 67 fun x67 h =>
 vfaddr 2 x67 h fun x68 h =>
 vstore 1 x68 x66 h fun _ h =>
 tcomp (kI 0) fun c0 => vfin true q [c0] h
theorem e76_1 (O : Oracle) (R : Jump) (q : Nat) (x0 x5 : TVal) (h : Heap) : b76_1 O R q x0 x5 h = stepF c76 O R q 1 [x0, x5] h := by kernel_rfl
def d76 : BlkF := fun O R Q => [.s fun a => .s fun b => .z (b76_0 O R Q a b), .s fun a => .s fun b => .z (b76_1 O R Q a b)]
theorem o76 (O : Oracle) (R : Jump) (q : Nat) : HoldsAll c76 O R q 0 (d76 O R q) := ⟨e76_0 O R q, e76_1 O R q, trivial⟩
def c77 : MFunc := mkM (compF Tryd.prog (globs2 tabs opq) (fun _ => false) true Tryd.f77) .n
def b77_0 (O : Oracle) (R : Jump) (q : Nat) (x0 : TVal) (h : Heap) : Res1 :=
 vbin .neq 0 x0 (kS []) h fun x4 h =>
 vguard x4 true (fun kk => kk x0 h) h fun x6 h =>
 vguard x4 true (fun kk => vlen O 0 x6 h 7 kk) h fun x7 h =>
 vguard x4 true (fun kk => vbin .leq 0 x7 (kI 16) h kk) h fun x8 h =>
 vop O (.pick (.k x4) (.k x8) (.k (kB false))) h 9 fun x9 h =>
 vguard x9 true (fun kk => kk x0 h) h fun x11 h =>
 vguard x9 true (fun kk => vindex x11 (kI 0) h kk) h fun x12 h =>
 vguard x9 true (fun kk => vcall O (.v (.c (.func 107 []))) [x12] h 13 kk) h fun x13 h =>
 vguard x9 true (fun kk => vop O (.un .not (.k x13)) h 14 kk) h fun x14 h =>
 vop O (.pick (.k x9) (.k x14) (.k (kB false))) h 15 fun x15 h =>
 vguard x15 true (fun kk => kk x0 h) h fun x17 h =>
 vguard x15 true (fun kk => vcall O (.v (.c (.func 108 []))) [x17] h 18 kk) h fun x18 h =>
 vguard x15 true (fun kk => kk x0 h) h fun x19 h =>
 vguard x15 true (fun kk => vlen O 0 x19 h 20 kk) h fun x20 h =>
 vguard x15 true (fun kk => vbin .eql 0 x18 x20 h kk) h fun x21 h =>
 vop O (.pick (.k x15) (.k x21) (.k (kB false))) h 22 fun x22 h =>
 tcomp x22 fun c0 => vfin true q [c0] h
theorem e77_0 (O : Oracle) (R : Jump) (q : Nat) (x0 : TVal) (h : Heap) : b77_0 O R q x0 h = stepF c77 O R q 0 [x0] h := by kernel_rfl
def d77 : BlkF := fun O R Q => [.s fun a => .z (b77_0 O R Q a)]
theorem o77 (O : Oracle) (R : Jump) (q : Nat) : HoldsAll c77 O R q 0 (d77 O R q) := ⟨e77_0 O R q, trivial⟩
def c78 : MFunc := mkM (compF Tryd.prog (globs2 tabs opq) (fun n => Nat.blt n 1000000) true Tryd.f78) .n
def b78_0 (O : Oracle) (R : Jump) (q : Nat) (x0 x1 : TVal) (h : Heap) : Res1 :=
 vop O (.box (.k x1) true) h 3 fun x3 h =>
 vcall O (.v (.c (.func 52 []))) [x0] h 7 fun x7 h =>
 vbin .eql 1 x7 (.v (.c (.p .nilptr))) h fun x9 h =>
 vif x9 (
 vtouch O (.mv (.k x0)) h 10 fun x10 h t0 =>
 vtouch O (.nilck (.k x10)) h 11 fun x11 h t1 =>
 vtouch O (.faddr 0 (.k x11)) h 12 fun x12 h t2 =>
 vtouch O (.load false 1 (.k x12)) h 13 fun x13 h t3 =>
 vtouch O (.load true 9 (.k x3)) h 14 fun x14 h t4 =>
 vtouch O (.len 2 (.k x13)) h 15 fun x15 h t5 =>
 vtouch O (.bslice 9 1 [(.p (.int .i64 0)), (.p (.int .i64 0)), (.p (.str [])), (.p (.str [])), (.p .nilslice), (.p .nilslice), (.p .nilslice), (.p (.bool false)), (.p .nilslice)] [(0, (.k (.v (.agg [(.p (.int .i64 0)), (.p (.int .i64 0)), (.p (.str [])), (.p (.str [])), (.p .nilslice), (.p .nilslice), (.p .nilslice), (.p (.bool false)), (.p .nilslice)]))))] true) h 16 fun x16 h t6 =>
 vtouch O (.append 9 152 true (.k x13) (.k x16)) h 17 fun x17 h t7 =>
 vtouch O (.iaddr 9 (.k x17) (.k x15)) h 18 fun x18 h t8 =>
 vtouch O (.store 9 (.k x18) (.k x14)) h 1000000 fun _ h t9 =>
 vtouch O (.nilck (.k x10)) h 19 fun x19 h t10 =>
 vtouch O (.faddr 0 (.k x19)) h 20 fun x20 h t11 =>
 vtouch O (.store 1 (.k x20) (.k x17)) h 1000000 fun _ h t12 =>
 bif apartAll [t0, t1, t2, t3, t4, t5, t6, t7, t8, t9, t10, t11, t12] [(3, 6), (4, 6), (5, 6), (9, 12)] then
 vfin true q [] h
 else none)
 (vop O (.nilck (.k x7)) h 22 fun x22 h =>
 vfaddr 10 x22 h fun x23 h =>
 vload false 1 x23 h fun x24 h =>
 vlen O 2 x24 h 25 fun x25 h =>
 vbin .sub 0 x25 (kI 1) h fun x26 h =>
 vtouch O (.alloc [(.p (.bool false))] true) h 27 fun x27 h t0 =>
 vtouch O (.store 1 (.k x27) (.k (kB true))) h 1000000 fun _ h t1 =>
 vtouch O (.store 1 (.k x27) (.k (kB false))) h 1000000 fun _ h t2 =>
 vtouch O (.load false 1 (.k x27)) h 28 fun x28 h t3 =>
 bif apartAll [t0, t1, t2, t3] [(1, 2)] then
 vif x28 (
 vtouch O (.mv (.k x7)) h 29 fun x29 h t0 =>
 vtouch O (.nilck (.k x29)) h 30 fun x30 h t1 =>
 vtouch O (.faddr 10 (.k x30)) h 31 fun x31 h t2 =>
 vtouch O (.load false 1 (.k x31)) h 32 fun x32 h t3 =>
 vtouch O (.mv (.k x26)) h 33 fun x33 h t4 =>
 vtouch O (.iaddr 1 (.k x32) (.k x33)) h 34 fun x34 h t5 =>
 vtouch O (.load false 1 (.k x34)) h 35 fun x35 h t6 =>
 vtouch O (.load true 9 (.k x3)) h 36 fun x36 h t7 =>
 vtouch O (.len 2 (.k x35)) h 37 fun x37 h t8 =>
 vtouch O (.bslice 9 1 [(.p (.int .i64 0)), (.p (.int .i64 0)), (.p (.str [])), (.p (.str [])), (.p .nilslice), (.p .nilslice), (.p .nilslice), (.p (.bool false)), (.p .nilslice)] [(0, (.k (.v (.agg [(.p (.int .i64 0)), (.p (.int .i64 0)), (.p (.str [])), (.p (.str [])), (.p .nilslice), (.p .nilslice), (.p .nilslice), (.p (.bool false)), (.p .nilslice)]))))] true) h 38 fun x38 h t9 =>
 vtouch O (.append 9 152 true (.k x35) (.k x38)) h 39 fun x39 h t10 =>
 vtouch O (.iaddr 1 (.k x32) (.k x33)) h 40 fun x40 h t11 =>
 vtouch O (.store 1 (.k x40) (.k x39)) h 1000000 fun _ h t12 =>
 bif apartAll [t0, t1, t2, t3, t4, t5, t6, t7, t8, t9, t10, t11, t12] [(3, 9), (6, 9), (7, 9), (8, 9)] then
 viaddr 9 x39 x37 h fun x41 h =>
 vstore 9 x41 x36 h fun _ h =>
 vfin true q [] h
 else none)
 (vtouch O (.mv (.k x7)) h 42 fun x42 h t0 =>
 vtouch O (.nilck (.k x42)) h 43 fun x43 h t1 =>
 vtouch O (.faddr 10 (.k x43)) h 44 fun x44 h t2 =>
 vtouch O (.load false 1 (.k x44)) h 45 fun x45 h t3 =>
 vtouch O (.mv (.k x26)) h 46 fun x46 h t4 =>
 vtouch O (.mv (.k x7)) h 47 fun x47 h t5 =>
 vtouch O (.nilck (.k x47)) h 48 fun x48 h t6 =>
 vtouch O (.faddr 10 (.k x48)) h 49 fun x49 h t7 =>
 vtouch O (.load false 1 (.k x49)) h 50 fun x50 h t8 =>
 vtouch O (.mv (.k x26)) h 51 fun x51 h t9 =>
 vtouch O (.iaddr 1 (.k x50) (.k x51)) h 52 fun x52 h t10 =>
 vtouch O (.load false 1 (.k x52)) h 53 fun x53 h t11 =>
 vtouch O (.load true 9 (.k x3)) h 54 fun x54 h t12 =>
 vtouch O (.bslice 9 1 [(.p (.int .i64 0)), (.p (.int .i64 0)), (.p (.str [])), (.p (.str [])), (.p .nilslice), (.p .nilslice), (.p .nilslice), (.p (.bool false)), (.p .nilslice)] [(0, (.k x54))] true) h 55 fun x55 h t13 =>
 vtouch O (.append 9 152 true (.k x53) (.k x55)) h 56 fun x56 h t14 =>
 vtouch O (.iaddr 1 (.k x45) (.k x46)) h 57 fun x57 h t15 =>
 vtouch O (.store 1 (.k x57) (.k x56)) h 1000000 fun _ h t16 =>
 bif apartAll [t0, t1, t2, t3, t4, t5, t6, t7, t8, t9, t10, t11, t12, t13, t14, t15, t16] [(3, 13), (8, 13), (11, 13), (3, 14)] then
 vfin true q [] h
 else none)
 else none)
theorem e78_0 (O : Oracle) (R : Jump) (q : Nat) (x0 x1 : TVal) (h : Heap) : b78_0 O R q x0 x1 h = stepF c78 O R q 0 [x0, x1] h := by kernel_rfl
def d78 : BlkF := fun O R Q => [.s fun a => .s fun b => .z (b78_0 O R Q a b)]
theorem o78 (O : Oracle) (R : Jump) (q : Nat) : HoldsAll c78 O R q 0 (d78 O R q) := ⟨e78_0 O R q, trivial⟩
def c79 : MFunc := mkM (compF Tryd.prog (globs2 tabs opq) (fun _ => false) true Tryd.f79) .n
def b79_0 (O : Oracle) (R : Jump) (q : Nat) (x0 : TVal) (h : Heap) : Res1 :=
 vbin .neq 1 x0 (.v (.c (.p .nilptr))) h fun x4 h =>
 vguard x4 true (fun kk => kk x0 h) h fun x6 h =>
 vguard x4 true (fun kk => vop O (.nilck (.k x6)) h 7 kk) h fun x7 h =>
 vguard x4 true (fun kk => vfaddr 0 x7 h kk) h fun x8 h =>
 vguard x4 true (fun kk => vfaddr 0 x8 h kk) h fun x9 h =>
 vguard x4 true (fun kk => vload false 1 x9 h kk) h fun x10 h =>
 vguard x4 true (fun kk => vbin .eql 0 x10 (kI 8) h kk) h fun x11 h =>
 vop O (.pick (.k x4) (.k x11) (.k (kB false))) h 12 fun x12 h =>
 vguard x12 true (fun kk => kk x0 h) h fun x14 h =>
 vguard x12 true (fun kk => vop O (.nilck (.k x14)) h 15 kk) h fun x15 h =>
 vguard x12 true (fun kk => vfaddr 12 x15 h kk) h fun x16 h =>
 vguard x12 true (fun kk => vload false 1 x16 h kk) h fun x17 h =>
 vguard x12 true (fun kk => vop O (.un .not (.k x17)) h 18 kk) h fun x18 h =>
 vop O (.pick (.k x12) (.k x18) (.k (kB false))) h 19 fun x19 h =>
 vguard x19 true (fun kk => kk x0 h) h fun x21 h =>
 vguard x19 true (fun kk => vop O (.nilck (.k x21)) h 22 kk) h fun x22 h =>
 vguard x19 true (fun kk => vfaddr 11 x22 h kk) h fun x23 h =>
 vguard x19 true (fun kk => vload false 1 x23 h kk) h fun x24 h =>
 vguard x19 true (fun kk => vop O (.un .not (.k x24)) h 25 kk) h fun x25 h =>
 vop O (.pick (.k x19) (.k x25) (.k (kB false))) h 26 fun x26 h =>
 tcomp x26 fun c0 => vfin true q [c0] h
theorem e79_0 (O : Oracle) (R : Jump) (q : Nat) (x0 : TVal) (h : Heap) : b79_0 O R q x0 h = stepF c79 O R q 0 [x0] h := by kernel_rfl
def d79 : BlkF := fun O R Q => [.s fun a => .z (b79_0 O R Q a)]
theorem o79 (O : Oracle) (R : Jump) (q : Nat) : HoldsAll c79 O R q 0 (d79 O R q) := ⟨e79_0 O R q, trivial⟩
def c80 : MFunc := mkM (compF Tryd.prog (globs2 tabs opq) (fun _ => false) true Tryd.f80) .n
def b80_0 (O : Oracle) (R : Jump) (q : Nat) (x0 x1 : TVal) (h : Heap) : Res1 :=
 vbin .eql 0 x0 (kS []) h fun x8 h =>
 vguard x8 false (fun kk => kk x1 h) h fun x10 h =>
 vguard x8 false (fun kk => vbin .eql 0 x10 (kS []) h kk) h fun x11 h =>
 vop O (.pick (.k x8) (.k (kB true)) (.k x11)) h 12 fun x12 h =>
 vif x12 (
 tcomp x0 fun c0 => vfin true q [c0] h)
 (vlen O 0 x1 h 15 fun x15 h =>
 vbin .eql 0 x15 (kI 1) h fun x16 h =>
 vguard x16 true (fun kk => kk x1 h) h fun x18 h =>
 vguard x16 true (fun kk => vindex x18 (kI 0) h kk) h fun x19 h =>
 vguard x16 true (fun kk => vbin .lss 0 x19 (.v (.c (.p (.int .u8 128)))) h kk) h fun x20 h =>
 vop O (.pick (.k x16) (.k x20) (.k (kB false))) h 21 fun x21 h =>
 vif x21 (
 vindex x1 (kI 0) h fun x24 h =>
 vcall O (.v (.c (.func 110 []))) [x0, x24] h 25 fun x25 h =>
 vindex x1 (kI 0) h fun x27 h =>
 vcall O (.v (.c (.func 109 []))) [x25, x27] h 28 fun x28 h =>
 tcomp x28 fun c0 => vfin true q [c0] h)
 (vcall O (.v (.c (.func 111 []))) [x1] h 31 fun x31 h =>
 vext x31 0 h fun x32 h =>
 vext x31 1 h fun x33 h =>
 vop O (.alloc [(.p (.bool false)), (.p (.bool false)), (.p (.bool false)), (.p (.bool false)), (.p (.bool false)), (.p (.bool false)), (.p (.bool false)), (.p (.bool false)), (.p (.bool false)), (.p (.bool false)), (.p (.bool false)), (.p (.bool false)), (.p (.bool false)), (.p (.bool false)), (.p (.bool false)), (.p (.bool false)), (.p (.bool false)), (.p (.bool false)), (.p (.bool false)), (.p (.bool false)), (.p (.bool false)), (.p (.bool false)), (.p (.bool false)), (.p (.bool false)), (.p (.bool false)), (.p (.bool false)), (.p (.bool false)), (.p (.bool false)), (.p (.bool false)), (.p (.bool false)), (.p (.bool false)), (.p (.bool false)), (.p (.bool false)), (.p (.bool false)), (.p (.bool false)), (.p (.bool false)), (.p (.bool false)), (.p (.bool false)), (.p (.bool false)), (.p (.bool false)), (.p (.bool false)), (.p (.bool false)), (.p (.bool false)), (.p (.bool false)), (.p (.bool false)), (.p (.bool false)), (.p (.bool false)), (.p (.bool false)), (.p (.bool false)), (.p (.bool false)), (.p (.bool false)), (.p (.bool false)), (.p (.bool false)), (.p (.bool false)), (.p (.bool false)), (.p (.bool false)), (.p (.bool false)), (.p (.bool false)), (.p (.bool false)), (.p (.bool false)), (.p (.bool false)), (.p (.bool false)), (.p (.bool false)), (.p (.bool false)), (.p (.bool false)), (.p (.bool false)), (.p (.bool false)), (.p (.bool false)), (.p (.bool false)), (.p (.bool false)), (.p (.bool false)), (.p (.bool false)), (.p (.bool false)), (.p (.bool false)), (.p (.bool false)), (.p (.bool false)), (.p (.bool false)), (.p (.bool false)), (.p (.bool false)), (.p (.bool false)), (.p (.bool false)), (.p (.bool false)), (.p (.bool false)), (.p (.bool false)), (.p (.bool false)), (.p (.bool false)), (.p (.bool false)), (.p (.bool false)), (.p (.bool false)), (.p (.bool false)), (.p (.bool false)), (.p (.bool false)), (.p (.bool false)), (.p (.bool false)), (.p (.bool false)), (.p (.bool false)), (.p (.bool false)), (.p (.bool false)), (.p (.bool false)), (.p (.bool false)), (.p (.bool false)), (.p (.bool false)), (.p (.bool false)), (.p (.bool false)), (.p (.bool false)), (.p (.bool false)), (.p (.bool false)), (.p (.bool false)), (.p (.bool false)), (.p (.bool false)), (.p (.bool false)), (.p (.bool false)), (.p (.bool false)), (.p (.bool false)), (.p (.bool false)), (.p (.bool false)), (.p (.bool false)), (.p (.bool false)), (.p (.bool false)), (.p (.bool false)), (.p (.bool false)), (.p (.bool false)), (.p (.bool false)), (.p (.bool false)), (.p (.bool false)), (.p (.bool false)), (.p (.bool false)), (.p (.bool false)), (.p (.bool false)), (.p (.bool false)), (.p (.bool false)), (.p (.bool false)), (.p (.bool false)), (.p (.bool false)), (.p (.bool false)), (.p (.bool false)), (.p (.bool false)), (.p (.bool false)), (.p (.bool false)), (.p (.bool false)), (.p (.bool false)), (.p (.bool false)), (.p (.bool false)), (.p (.bool false)), (.p (.bool false)), (.p (.bool false)), (.p (.bool false)), (.p (.bool false)), (.p (.bool false)), (.p (.bool false)), (.p (.bool false)), (.p (.bool false)), (.p (.bool false)), (.p (.bool false)), (.p (.bool false)), (.p (.bool false)), (.p (.bool false)), (.p (.bool false)), (.p (.bool false)), (.p (.bool false)), (.p (.bool false)), (.p (.bool false)), (.p (.bool false)), (.p (.bool false)), (.p (.bool false)), (.p (.bool false)), (.p (.bool false)), (.p (.bool false)), (.p (.bool false)), (.p (.bool false)), (.p (.bool false)), (.p (.bool false)), (.p (.bool false)), (.p (.bool false)), (.p (.bool false)), (.p (.bool false)), (.p (.bool false)), (.p (.bool false)), (.p (.bool false)), (.p (.bool false)), (.p (.bool false)), (.p (.bool false)), (.p (.bool false)), (.p (.bool false)), (.p (.bool false)), (.p (.bool false)), (.p (.bool false)), (.p (.bool false)), (.p (.bool false)), (.p (.bool false)), (.p (.bool false)), (.p (.bool false)), (.p (.bool false)), (.p (.bool false)), (.p (.bool false)), (.p (.bool false)), (.p (.bool false)), (.p (.bool false)), (.p (.bool false)), (.p (.bool false)), (.p (.bool false)), (.p (.bool false)), (.p (.bool false)), (.p (.bool false)), (.p (.bool false)), (.p (.bool false)), (.p (.bool false)), (.p (.bool false)), (.p (.bool false)), (.p (.bool false)), (.p (.bool false)), (.p (.bool false)), (.p (.bool false)), (.p (.bool false)), (.p (.bool false)), (.p (.bool false)), (.p (.bool false)), (.p (.bool false)), (.p (.bool false)), (.p (.bool false)), (.p (.bool false)), (.p (.bool false)), (.p (.bool false)), (.p (.bool false)), (.p (.bool false)), (.p (.bool false)), (.p (.bool false)), (.p (.bool false)), (.p (.bool false)), (.p (.bool false)), (.p (.bool false)), (.p (.bool false)), (.p (.bool false)), (.p (.bool false)), (.p (.bool false)), (.p (.bool false)), (.p (.bool false)), (.p (.bool false)), (.p (.bool false)), (.p (.bool false)), (.p (.bool false)), (.p (.bool false)), (.p (.bool false)), (.p (.bool false)), (.p (.bool false)), (.p (.bool false)), (.p (.bool false)), (.p (.bool false)), (.p (.bool false)), (.p (.bool false)), (.p (.bool false)), (.p (.bool false)), (.p (.bool false)), (.p (.bool false)), (.p (.bool false)), (.p (.bool false))] false) h 5 fun x5 h =>
 vstore 256 x5 x32 h fun _ h =>
 vif x33 (
 vcall O (.v (.c (.func 113 []))) [x0, x5] h 36 fun x36 h =>
 vcall O (.v (.c (.func 112 []))) [x36, x5] h 37 fun x37 h =>
 tcomp x37 fun c0 => vfin true q [c0] h)
 (vcall O (.v (.c (.func 115 []))) [x0, x1] h 40 fun x40 h =>
 vcall O (.v (.c (.func 114 []))) [x40, x1] h 42 fun x42 h =>
 tcomp x42 fun c0 => vfin true q [c0] h)))
theorem e80_0 (O : Oracle) (R : Jump) (q : Nat) (x0 x1 : TVal) (h : Heap) : b80_0 O R q x0 x1 h = stepF c80 O R q 0 [x0, x1] h := by kernel_rfl
def d80 : BlkF := fun O R Q => [.s fun a => .s fun b => .z (b80_0 O R Q a b)]
theorem o80 (O : Oracle) (R : Jump) (q : Nat) : HoldsAll c80 O R q 0 (d80 O R q) := ⟨e80_0 O R q, trivial⟩
def c84 : MFunc := mkM (compF Tryd.prog (globs2 tabs opq) (fun _ => false) true Tryd.f84) .n
def b84_0 (O : Oracle) (R : Jump) (q : Nat) (x0 x1 : TVal) (h : Heap) : Res1 :=
 vcall O (.v (.c (.func 71 []))) [x0, x1] h 7 fun x7 h =>
 vbin .geq 0 x7 (kI 0) h fun x8 h =>
 tcomp x8 fun c0 => vfin true q [c0] h
theorem e84_0 (O : Oracle) (R : Jump) (q : Nat) (x0 x1 : TVal) (h : Heap) : b84_0 O R q x0 x1 h = stepF c84 O R q 0 [x0, x1] h := by kernel_rfl
def d84 : BlkF := fun O R Q => [.s fun a => .s fun b => .z (b84_0 O R Q a b)]
theorem o84 (O : Oracle) (R : Jump) (q : Nat) : HoldsAll c84 O R q 0 (d84 O R q) := ⟨e84_0 O R q, trivial⟩
def c85 : MFunc := mkM (compF Tryd.prog (globs2 tabs opq) (fun _ => false) true Tryd.f85) (.s .n (.s (.s .n (.k (.s .n (.s .n (.s .n (.m 1 [0, 2, 5, 16] .n)))))) .n))
def b85_0 (O : Oracle) (R : Jump) (q : Nat) (x0 : TVal) (h : Heap) : Res1 :=
 vop O (.alloc [(.p (.int .i64 0)), (.p (.str [])), (.p (.int .i64 0)), (.p (.int .i64 0))] false) h 2 fun x2 h =>
 vindex x0 (kI 0) h fun x7 h =>
 vcall O (.v (.c (.func 118 []))) [x7] h 10 fun x10 h =>
 vif x10 (
 vcall O (.v (.c (.func 119 []))) [x0] h 12 fun x12 h =>
 vext x12 0 h fun x13 h =>
 vext x12 1 h fun x14 h =>
 vext x12 2 h fun x15 h =>
 vstore 4 x2 x13 h fun _ h =>
 vcell true 4 x2 h fun c0 => tcomp x14 fun c1 => tcomp x15 fun c2 => vfin true q [c0, c1, c2] h)
 (vcall O (.v (.c (.func 107 []))) [x7] h 18 fun x18 h =>
 vif x18 (
 R 1 [x0, x2, x7, x18] h)
 (vbin .eql 0 x7 (.v (.c (.p (.int .u8 45)))) h fun x20 h =>
 vguard x20 true (fun kk => kk x0 h) h fun x22 h =>
 vguard x20 true (fun kk => vlen O 0 x22 h 23 kk) h fun x23 h =>
 vguard x20 true (fun kk => vbin .gtr 0 x23 (kI 1) h kk) h fun x24 h =>
 vop O (.pick (.k x20) (.k x24) (.k (kB false))) h 25 fun x25 h =>
 vguard x25 true (fun kk => kk x0 h) h fun x27 h =>
 vguard x25 true (fun kk => vindex x27 (kI 1) h kk) h fun x28 h =>
 vguard x25 true (fun kk => vcall O (.v (.c (.func 107 []))) [x28] h 29 kk) h fun x29 h =>
 vop O (.pick (.k x25) (.k x29) (.k (kB false))) h 30 fun x30 h =>
 R 1 [x0, x2, x7, x30] h))
theorem e85_0 (O : Oracle) (R : Jump) (q : Nat) (x0 : TVal) (h : Heap) : b85_0 O R q x0 h = stepF c85 O R q 0 [x0] h := by kernel_rfl
def b85_1 (O : Oracle) (R : Jump) (q : Nat) (x0 x2 x5 x16 : TVal) (h : Heap) : Res1 :=
 vif x16 (
 vcall O (.v (.c (.func 120 []))) [x0] h 32 fun x32 h =>
 vext x32 0 h fun x33 h =>
 vext x32 1 h fun x34 h =>
 vext x32 2 h fun x35 h =>
 vstore 4 x2 x33 h fun _ h =>
 vcell true 4 x2 h fun c0 => tcomp x34 fun c1 => tcomp x35 fun c2 => vfin true q [c0, c1, c2] h)
 (vbin .eql 0 x5 (.v (.c (.p (.int .u8 34)))) h fun x38 h =>
 vif x38 (
 vcall O (.v (.c (.func 121 []))) [x0] h 40 fun x40 h =>
 vext x40 0 h fun x41 h =>
 vext x40 1 h fun x42 h =>
 vext x40 2 h fun x43 h =>
 vstore 4 x2 x41 h fun _ h =>
 vcell true 4 x2 h fun c0 => tcomp x42 fun c1 => tcomp x43 fun c2 => vfin true q [c0, c1, c2] h)
 (vcall O (.v (.c (.func 122 []))) [x0] h 45 fun x45 h =>
 vext x45 0 h fun x46 h =>
 vext x45 1 h fun x47 h =>
 vext x45 2 h fun x48 h =>
 vstore 4 x2 x46 h fun _ h =>
 vcell true 4 x2 h fun c0 => tcomp x47 fun c1 => tcomp x48 fun c2 => vfin true q [c0, c1, c2] h))
theorem e85_1 (O : Oracle) (R : Jump) (q : Nat) (x0 x2 x5 x16 : TVal) (h : Heap) : b85_1 O R q x0 x2 x5 x16 h = stepF c85 O R q 1 [x0, x2, x5, x16] h := by kernel_rfl
def d85 : BlkF := fun O R Q => [.s fun a => .z (b85_0 O R Q a), .s fun a => .s fun b => .s fun c => .s fun d => .z (b85_1 O R Q a b c d)]
theorem o85 (O : Oracle) (R : Jump) (q : Nat) : HoldsAll c85 O R q 0 (d85 O R q) := ⟨e85_0 O R q, e85_1 O R q, trivial⟩
def c98 : MFunc := mkM (compF Tryd.prog (globs2 tabs opq) (fun _ => false) true Tryd.f98) (.s .n (.s .n (.s .n (.s .n (.s .n (.s .n (.s .n (.s .n (.s (.k (.l 1 [0, 1, 5, 6, 7, 8, 9, 10] (.s .n (.k (.s .n (.m 2 [0, 1, 5, 6, 7, 8, 9, 10] .n)))))) .n)))))))))
def b98_0 (O : Oracle) (R : Jump) (q : Nat) (x0 x1 : TVal) (h : Heap) : Res1 :=
 vlen O 0 x1 h 15 fun x15 h =>
 vbin .eql 0 x15 (kI 0) h fun x18 h =>
 vguard x18 false (fun kk => kk x1 h) h fun x20 h =>
 vguard x18 false (fun kk => kk x0 h) h fun x21 h =>
 vguard x18 false (fun kk => vbin .eql 0 x20 x21 h kk) h fun x22 h =>
 vop O (.pick (.k x18) (.k (kB true)) (.k x22)) h 23 fun x23 h =>
 vif x23 (
 tcomp (kI 0) fun c0 => vfin true q [c0] h)
 (vbin .eql 0 x15 (kI 1) h fun x26 h =>
 vif x26 (
 vindex x1 (kI 0) h fun x29 h =>
 vcall O (.v (.c (.func 126 []))) [x0, x29] h 30 fun x30 h =>
 tcomp x30 fun c0 => vfin true q [c0] h)
 (vlen O 0 x0 h 34 fun x34 h =>
 vbin .geq 0 x15 x34 h fun x35 h =>
 vif x35 (
 tcomp (kI (-1)) fun c0 => vfin true q [c0] h)
 (vload false 1 (.v (.c (.p (.pptr [(.sym .i64 63 (.ofNat 0) (.ofNat 1) (.ofNat 0))] 0)))) h fun x38 h =>
 vbin .leq 0 x15 x38 h fun x39 h =>
 vguard x39 true (fun kk => kk x0 h) h fun x41 h =>
 vguard x39 true (fun kk => vlen O 0 x41 h 42 kk) h fun x42 h =>
 vguard x39 true (fun kk => vbin .leq 0 x42 (kI 64) h kk) h fun x43 h =>
 vop O (.pick (.k x39) (.k x43) (.k (kB false))) h 44 fun x44 h =>
 vif x44 (
 vcall O (.v (.c (.func 127 []))) [x0, x1] h 47 fun x47 h =>
 tcomp x47 fun c0 => vfin true q [c0] h)
 (vindex x1 (kI 0) h fun x49 h =>
 vindex x1 (kI 1) h fun x51 h =>
 vlen O 0 x0 h 53 fun x53 h =>
 vbin .sub 0 x53 x15 h fun x55 h =>
 vbin .add 0 x55 (kI 1) h fun x56 h =>
 R 1 [x0, x1, x15, x49, x51, (kI 0), x56, (kI 0)] h))))
theorem e98_0 (O : Oracle) (R : Jump) (q : Nat) (x0 x1 : TVal) (h : Heap) : b98_0 O R q x0 x1 h = stepF c98 O R q 0 [x0, x1] h := by kernel_rfl
def b98_1 (O : Oracle) (R : Jump) (q : Nat) (x0 x1 x5 x6 x7 x8 x9 x10 : TVal) (h : Heap) : Res1 :=
 vbin .lss 0 x8 x9 h fun x59 h =>
 vif x59 (
 vindex x0 x8 h fun x62 h =>
 vbin .neq 0 x62 x6 h fun x64 h =>
 vif x64 (
 vbin .add 0 x8 (kI 1) h fun x67 h =>
 vop O (.slice 0 true (.k x0) (some (.k x67)) (some (.k x9)) none) h 69 fun x69 h =>
 vcall O (.v (.c (.func 126 []))) [x69, x6] h 71 fun x71 h =>
 vbin .lss 0 x71 (kI 0) h fun x73 h =>
 vif x73 (
 tcomp (kI (-1)) fun c0 => vfin true q [c0] h)
 (vbin .add 0 x71 (kI 1) h fun x76 h =>
 vbin .add 0 x8 x76 h fun x77 h =>
 R 2 [x0, x1, x5, x6, x7, x77, x9, x10] h))
 (R 2 [x0, x1, x5, x6, x7, x8, x9, x10] h))
 (tcomp (kI (-1)) fun c0 => vfin true q [c0] h)
theorem e98_1 (O : Oracle) (R : Jump) (q : Nat) (x0 x1 x5 x6 x7 x8 x9 x10 : TVal) (h : Heap) : b98_1 O R q x0 x1 x5 x6 x7 x8 x9 x10 h = stepF c98 O R q 1 [x0, x1, x5, x6, x7, x8, x9, x10] h := by kernel_rfl
def b98_2 (O : Oracle) (R : Jump) (q : Nat) (x0 x1 x5 x6 x7 x8 x9 x10 : TVal) (h : Heap) : Res1 :=
 vbin .add 0 x8 (kI 1) h fun x80 h =>
 vindex x0 x80 h fun x81 h =>
 vbin .eql 0 x81 x7 h fun x83 h =>
 vguard x83 true (fun kk => kk x0 h) h fun x85 h =>
 vguard x83 true (fun kk => kk x8 h) h fun x86 h =>
 vguard x83 true (fun kk => kk x8 h) h fun x87 h =>
 vguard x83 true (fun kk => kk x5 h) h fun x88 h =>
 vguard x83 true (fun kk => vbin .add 0 x87 x88 h kk) h fun x89 h =>
 vguard x83 true (fun kk => vop O (.slice 0 true (.k x85) (some (.k x86)) (some (.k x89)) none) h 90 kk) h fun x90 h =>
 vguard x83 true (fun kk => kk x1 h) h fun x91 h =>
 vguard x83 true (fun kk => vbin .eql 0 x90 x91 h kk) h fun x92 h =>
 vop O (.pick (.k x83) (.k x92) (.k (kB false))) h 93 fun x93 h =>
 vif x93 (
 tcomp x8 fun c0 => vfin true q [c0] h)
 (vbin .add 0 x8 (kI 1) h fun x96 h =>
 vbin .add 0 x10 (kI 1) h fun x98 h =>
 vload false 1 (.v (.c (.p (.pptr [(.sym .i64 63 (.ofNat 0) (.ofNat 1) (.ofNat 0))] 0)))) h fun x100 h =>
 vbin .leq 0 x5 x100 h fun x101 h =>
 vguard x101 true (fun kk => kk x98 h) h fun x103 h =>
 vguard x101 true (fun kk => kk x96 h) h fun x104 h =>
 vguard x101 true (fun kk => vcall O (.v (.c (.func 128 []))) [x104] h 105 kk) h fun x105 h =>
 vguard x101 true (fun kk => vbin .gtr 0 x103 x105 h kk) h fun x106 h =>
 vop O (.pick (.k x101) (.k x106) (.k (kB false))) h 107 fun x107 h =>
 vif x107 (
 vop O (.slice 0 true (.k x0) (some (.k x96)) none none) h 110 fun x110 h =>
 vcall O (.v (.c (.func 127 []))) [x110, x1] h 112 fun x112 h =>
 vbin .geq 0 x112 (kI 0) h fun x114 h =>
 vif x114 (
 vbin .add 0 x112 x96 h fun x117 h =>
 tcomp x117 fun c0 => vfin true q [c0] h)
 (tcomp (kI (-1)) fun c0 => vfin true q [c0] h))
 (vload false 1 (.v (.c (.p (.pptr [(.sym .i64 63 (.ofNat 0) (.ofNat 1) (.ofNat 0))] 0)))) h fun x119 h =>
 vbin .gtr 0 x5 x119 h fun x120 h =>
 vguard x120 true (fun kk => kk x98 h) h fun x122 h =>
 vguard x120 true (fun kk => kk x96 h) h fun x123 h =>
 vguard x120 true (fun kk => vbin .shr 0 x123 (.v (.c (.p (.int .u64 4)))) h kk) h fun x124 h =>
 vguard x120 true (fun kk => vbin .add 0 (kI 4) x124 h kk) h fun x125 h =>
 vguard x120 true (fun kk => vbin .geq 0 x122 x125 h kk) h fun x126 h =>
 vop O (.pick (.k x120) (.k x126) (.k (kB false))) h 127 fun x127 h =>
 vguard x127 true (fun kk => kk x96 h) h fun x129 h =>
 vguard x127 true (fun kk => kk x9 h) h fun x130 h =>
 vguard x127 true (fun kk => vbin .lss 0 x129 x130 h kk) h fun x131 h =>
 vop O (.pick (.k x127) (.k x131) (.k (kB false))) h 132 fun x132 h =>
 vif x132 (
 vop O (.slice 0 true (.k x0) (some (.k x96)) none none) h 135 fun x135 h =>
 vcall O (.v (.c (.func 129 []))) [x135, x1] h 137 fun x137 h =>
 vbin .lss 0 x137 (kI 0) h fun x139 h =>
 vif x139 (
 tcomp (kI (-1)) fun c0 => vfin true q [c0] h)
 (vbin .add 0 x96 x137 h fun x142 h =>
 tcomp x142 fun c0 => vfin true q [c0] h))
 (R 1 [x0, x1, x5, x6, x7, x96, x9, x98] h)))
theorem e98_2 (O : Oracle) (R : Jump) (q : Nat) (x0 x1 x5 x6 x7 x8 x9 x10 : TVal) (h : Heap) : b98_2 O R q x0 x1 x5 x6 x7 x8 x9 x10 h = stepF c98 O R q 2 [x0, x1, x5, x6, x7, x8, x9, x10] h := by kernel_rfl
def d98 : BlkF := fun O R Q => [.s fun a => .s fun b => .z (b98_0 O R Q a b), .s fun a => .s fun b => .s fun c => .s fun d => .s fun e => .s fun f => .s fun g => .s fun h => .z (b98_1 O R Q a b c d e f g h), .s fun a => .s fun b => .s fun c => .s fun d => .s fun e => .s fun f => .s fun g => .s fun h => .z (b98_2 O R Q a b c d e f g h)]
theorem o98 (O : Oracle) (R : Jump) (q : Nat) : HoldsAll c98 O R q 0 (d98 O R q) := ⟨e98_0 O R q, e98_1 O R q, e98_2 O R q, trivial⟩
def c99 : MFunc := mkM (compF Tryd.prog (globs2 tabs opq) (fun _ => false) true Tryd.f99) .n
def b99_0 (O : Oracle) (R : Jump) (q : Nat) (x0 x1 : TVal) (h : Heap) : Res1 :=
 vcall O (.v (.c (.func 130 []))) [x0, x1] h 7 fun x7 h =>
 tcomp x7 fun c0 => vfin true q [c0] h
theorem e99_0 (O : Oracle) (R : Jump) (q : Nat) (x0 x1 : TVal) (h : Heap) : b99_0 O R q x0 x1 h = stepF c99 O R q 0 [x0, x1] h := by kernel_rfl
def d99 : BlkF := fun O R Q => [.s fun a => .s fun b => .z (b99_0 O R Q a b)]
theorem o99 (O : Oracle) (R : Jump) (q : Nat) : HoldsAll c99 O R q 0 (d99 O R q) := ⟨e99_0 O R q, trivial⟩
def c100 : MFunc := mkM (compF Tryd.prog (globs2 tabs opq) (fun _ => false) false Tryd.f100) .n
def b100_0 (O : Oracle) (R : Jump) (q : Nat) (x0 : TVal) (h : Heap) : Res1 :=
 vcall O (.v (.c (.func 54 []))) [x0] h 7 fun x7 h =>
 vext x7 0 h fun x8 h =>
 vext x7 1 h fun x9 h =>
 vop O (.build [(.p .nilslice), (.p (.int .i64 0)), (.p (.int .i64 0)), (.p (.int .i64 0))] [(0, 1, (.k x8)), (2, 1, (.k x9))]) h 12 fun x12 h =>
 vop O (.box (.k x12) false) h 13 fun x13 h =>
 tcomp x13 fun c0 => vfin false q [c0] h
theorem e100_0 (O : Oracle) (R : Jump) (q : Nat) (x0 : TVal) (h : Heap) : b100_0 O R q x0 h = stepF c100 O R q 0 [x0] h := by kernel_rfl
def d100 : BlkF := fun O R Q => [.s fun a => .z (b100_0 O R Q a)]
theorem o100 (O : Oracle) (R : Jump) (q : Nat) : HoldsAll c100 O R q 0 (d100 O R q) := ⟨e100_0 O R q, trivial⟩
def c101 : MFunc := mkM (compF Tryd.prog (globs2 tabs opq) (fun _ => false) true Tryd.f101) .n
def b101_0 (O : Oracle) (R : Jump) (q : Nat) (x0 x1 : TVal) (h : Heap) : Res1 :=
 vop O (.alloc [(.p (.int .i64 0)), (.p (.str [])), (.p (.int .i64 0)), (.p (.int .i64 0))] false) h 4 fun x4 h =>
 vop O (.nilck (.k x0)) h 6 fun x6 h =>
 vfaddr 2 x6 h fun x7 h =>
 vload false 1 x7 h fun x8 h =>
 vbin .neq 0 x8 (kI 0) h fun x9 h =>
 vguard x9 false (fun kk => kk x0 h) h fun x11 h =>
 vguard x9 false (fun kk => vop O (.nilck (.k x11)) h 12 kk) h fun x12 h =>
 vguard x9 false (fun kk => vfaddr 1 x12 h kk) h fun x13 h =>
 vguard x9 false (fun kk => vload false 1 x13 h kk) h fun x14 h =>
 vguard x9 false (fun kk => kk x1 h) h fun x15 h =>
 vguard x9 false (fun kk => vbin .add 0 x14 x15 h kk) h fun x16 h =>
 vguard x9 false (fun kk => kk x0 h) h fun x17 h =>
 vguard x9 false (fun kk => vop O (.nilck (.k x17)) h 18 kk) h fun x18 h =>
 vguard x9 false (fun kk => vfaddr 0 x18 h kk) h fun x19 h =>
 vguard x9 false (fun kk => vload false 1 x19 h kk) h fun x20 h =>
 vguard x9 false (fun kk => vlen O 2 x20 h 21 kk) h fun x21 h =>
 vguard x9 false (fun kk => vbin .geq 0 x16 x21 h kk) h fun x22 h =>
 vop O (.pick (.k x9) (.k (kB true)) (.k x22)) h 23 fun x23 h =>
 vif x23 (
 vop O (.build [(.p (.int .i64 0)), (.p (.str [])), (.p (.int .i64 0)), (.p (.int .i64 0))] []) h 24 fun x24 h =>
 vstore 4 x4 x24 h fun _ h =>
 vcell true 4 x4 h fun c0 => vfin true q [c0] h)
 (vop O (.nilck (.k x0)) h 26 fun x26 h =>
 vfaddr 0 x26 h fun x27 h =>
 vload false 1 x27 h fun x28 h =>
 vop O (.nilck (.k x0)) h 30 fun x30 h =>
 vfaddr 1 x30 h fun x31 h =>
 vload false 1 x31 h fun x32 h =>
 vbin .add 0 x32 x1 h fun x34 h =>
 viaddr 4 x28 x34 h fun x35 h =>
 vload true 4 x35 h fun x36 h =>
 vstore 4 x4 x36 h fun _ h =>
 vcell true 4 x4 h fun c0 => vfin true q [c0] h)
theorem e101_0 (O : Oracle) (R : Jump) (q : Nat) (x0 x1 : TVal) (h : Heap) : b101_0 O R q x0 x1 h = stepF c101 O R q 0 [x0, x1] h := by kernel_rfl
def d101 : BlkF := fun O R Q => [.s fun a => .s fun b => .z (b101_0 O R Q a b)]
theorem o101 (O : Oracle) (R : Jump) (q : Nat) : HoldsAll c101 O R q 0 (d101 O R q) := ⟨e101_0 O R q, trivial⟩
def c102 : MFunc := mkM (compF Tryd.prog (globs2 tabs opq) (fun _ => false) true Tryd.f102) .n
def b102_0 (O : Oracle) (R : Jump) (q : Nat) (x0 x1 : TVal) (h : Heap) : Res1 :=
 vop O (.box (.k x0) false) h 2 fun x2 h =>
 vfaddr 0 x2 h fun x5 h =>
 vload false 1 x5 h fun x6 h =>
 vbin .eql 0 x6 (kI 4) h fun x7 h =>
 vguard x7 true (fun kk => vfaddr 1 x2 h kk) h fun x9 h =>
 vguard x7 true (fun kk => vload false 1 x9 h kk) h fun x10 h =>
 vguard x7 true (fun kk => kk x1 h) h fun x11 h =>
 vguard x7 true (fun kk => vbin .eql 0 x10 x11 h kk) h fun x12 h =>
 vop O (.pick (.k x7) (.k x12) (.k (kB false))) h 13 fun x13 h =>
 tcomp x13 fun c0 => vfin true q [c0] h
theorem e102_0 (O : Oracle) (R : Jump) (q : Nat) (x0 x1 : TVal) (h : Heap) : b102_0 O R q x0 x1 h = stepF c102 O R q 0 [x0, x1] h := by kernel_rfl
def d102 : BlkF := fun O R Q => [.s fun a => .s fun b => .z (b102_0 O R Q a b)]
theorem o102 (O : Oracle) (R : Jump) (q : Nat) : HoldsAll c102 O R q 0 (d102 O R q) := ⟨e102_0 O R q, trivial⟩
def c103 : MFunc := mkM (compF Tryd.prog (globs2 tabs opq) (fun _ => false) true Tryd.f103) (.s .n (.s .n (.s (.k (.l 1 [0, 3] .n)) .n)))
def b103_0 (O : Oracle) (R : Jump) (q : Nat) (x0 : TVal) (h : Heap) : Res1 :=
 vcall O (.v (.c (.func 131 []))) [x0] h 5 fun x5 h =>
 vop O (.bslice 1 1 [(.p .nilslice)] [(0, (.k x5))] false) h 6 fun x6 h =>
 R 1 [x0, x6] h
theorem e103_0 (O : Oracle) (R : Jump) (q : Nat) (x0 : TVal) (h : Heap) : b103_0 O R q x0 h = stepF c103 O R q 0 [x0] h := by kernel_rfl
def b103_1 (O : Oracle) (R : Jump) (q : Nat) (x0 x3 : TVal) (h : Heap) : Res1 :=
 vcall O (.v (.c (.func 132 []))) [x0, (kS [124])] h 8 fun x8 h =>
 vif x8 (
 vcall O (.v (.c (.func 131 []))) [x0] h 11 fun x11 h =>
 vop O (.bslice 1 1 [(.p .nilslice)] [(0, (.k x11))] false) h 12 fun x12 h =>
 vop O (.append 1 24 false (.k x3) (.k x12)) h 13 fun x13 h =>
 R 1 [x0, x13] h)
 (tcomp x3 fun c0 => vfin true q [c0] h)
theorem e103_1 (O : Oracle) (R : Jump) (q : Nat) (x0 x3 : TVal) (h : Heap) : b103_1 O R q x0 x3 h = stepF c103 O R q 1 [x0, x3] h := by kernel_rfl
def d103 : BlkF := fun O R Q => [.s fun a => .z (b103_0 O R Q a), .s fun a => .s fun b => .z (b103_1 O R Q a b)]
theorem o103 (O : Oracle) (R : Jump) (q : Nat) : HoldsAll c103 O R q 0 (d103 O R q) := ⟨e103_0 O R q, e103_1 O R q, trivial⟩
def c104 : MFunc := mkM (compF Tryd.prog (globs2 tabs opq) (fun _ => false) true Tryd.f104) (.s .n (.s .n (.m 1 [0, 1] (.s .n (.s (.s .n (.k (.s (.k (.s (.k (.s (.k (.s (.k (.s (.k (.s (.s (.s .n (.m 2 [0, 1, 74, 75] .n)) .n) .n)) .n)) .n)) .n)) .n)) (.m 3 [0, 1] .n)))) .n)))))
def b104_0 (O : Oracle) (R : Jump) (q : Nat) (x0 x1 : TVal) (h : Heap) : Res1 :=
 vop O (.nilck (.k x1)) h 6 fun x6 h =>
 vfaddr 9 x6 h fun x7 h =>
 vload false 1 x7 h fun x8 h =>
 vbin .eql 0 x8 (kS [105, 102]) h fun x10 h =>
 vif x10 (
 vop O (.nilck (.k x1)) h 12 fun x12 h =>
 vfaddr 0 x12 h fun x13 h =>
 vfaddr 0 x13 h fun x14 h =>
 vstore 1 x14 (kI 5) h fun _ h =>
 R 1 [x0, x1] h)
 (vbin .eql 0 x8 (kS [119, 105, 116, 104]) h fun x16 h =>
 vif x16 (
 vop O (.nilck (.k x1)) h 18 fun x18 h =>
 vfaddr 0 x18 h fun x19 h =>
 vfaddr 0 x19 h fun x20 h =>
 vstore 1 x20 (kI 6) h fun _ h =>
 R 1 [x0, x1] h)
 (vbin .eql 0 x8 (kS [114, 97, 110, 103, 101]) h fun x22 h =>
 vif x22 (
 vop O (.nilck (.k x1)) h 24 fun x24 h =>
 vfaddr 0 x24 h fun x25 h =>
 vfaddr 0 x25 h fun x26 h =>
 vstore 1 x26 (kI 7) h fun _ h =>
 R 1 [x0, x1] h)
 (vbin .eql 0 x8 (kS [109, 97, 116, 99, 104]) h fun x28 h =>
 vif x28 (
 vop O (.nilck (.k x1)) h 30 fun x30 h =>
 vfaddr 0 x30 h fun x31 h =>
 vfaddr 0 x31 h fun x32 h =>
 vstore 1 x32 (kI 8) h fun _ h =>
 R 1 [x0, x1] h)
 (vbin .eql 0 x8 (kS [101, 108, 115, 101]) h fun x34 h =>
 vif x34 (
 vop O (.nilck (.k x1)) h 36 fun x36 h =>
 vfaddr 0 x36 h fun x37 h =>
 vfaddr 0 x37 h fun x38 h =>
 vstore 1 x38 (kI (-1)) h fun _ h =>
 R 1 [x0, x1] h)
 (vbin .eql 0 x8 (kS [101, 110, 100]) h fun x40 h =>
 vif x40 (
 vop O (.nilck (.k x1)) h 42 fun x42 h =>
 vfaddr 0 x42 h fun x43 h =>
 vfaddr 0 x43 h fun x44 h =>
 vstore 1 x44 (kI (-2)) h fun _ h =>
 R 1 [x0, x1] h)
 (vbin .eql 0 x8 (kS [99, 97, 115, 101]) h fun x46 h =>
 vif x46 (
 vop O (.nilck (.k x1)) h 48 fun x48 h =>
 vfaddr 0 x48 h fun x49 h =>
 vfaddr 0 x49 h fun x50 h =>
 vstore 1 x50 (kI (-3)) h fun _ h =>
 R 1 [x0, x1] h)
 (vbin .eql 0 x8 (kS [116, 101, 109, 112, 108, 97, 116, 101]) h fun x52 h =>
 vif x52 (
 vop O (.nilck (.k x1)) h 54 fun x54 h =>
 vfaddr 0 x54 h fun x55 h =>
 vfaddr 0 x55 h fun x56 h =>
 vstore 1 x56 (kI 9) h fun _ h =>
 R 1 [x0, x1] h)
 (vbin .eql 0 x8 (kS [100, 101, 102, 105, 110, 101]) h fun x58 h =>
 vif x58 (
 vop O (.nilck (.k x1)) h 60 fun x60 h =>
 vfaddr 0 x60 h fun x61 h =>
 vfaddr 0 x61 h fun x62 h =>
 vstore 1 x62 (kI (-4)) h fun _ h =>
 R 1 [x0, x1] h)
 (tcomp (kB false) fun c0 => vfin true q [c0] h)))))))))
theorem e104_0 (O : Oracle) (R : Jump) (q : Nat) (x0 x1 : TVal) (h : Heap) : b104_0 O R q x0 x1 h = stepF c104 O R q 0 [x0, x1] h := by kernel_rfl
def b104_1 (O : Oracle) (R : Jump) (q : Nat) (x0 x1 : TVal) (h : Heap) : Res1 :=
 vop O (.nilck (.k x0)) h 64 fun x64 h =>
 vfaddr 1 x64 h fun x65 h =>
 vload false 1 x65 h fun x66 h =>
 vbin .add 0 x66 (kI 1) h fun x67 h =>
 vop O (.nilck (.k x0)) h 68 fun x68 h =>
 vfaddr 1 x68 h fun x69 h =>
 vstore 1 x69 x67 h fun _ h =>
 vop O (.nilck (.k x1)) h 71 fun x71 h =>
 vfaddr 0 x71 h fun x72 h =>
 vfaddr 0 x72 h fun x73 h =>
 vload false 1 x73 h fun x74 h =>
 vbin .eql 0 x74 (kI (-1)) h fun x76 h =>
 vif x76 (
 R 2 [x0, x1, x74, x76] h)
 (vbin .eql 0 x74 (kI (-2)) h fun x77 h =>
 R 2 [x0, x1, x74, x77] h)
theorem e104_1 (O : Oracle) (R : Jump) (q : Nat) (x0 x1 : TVal) (h : Heap) : b104_1 O R q x0 x1 h = stepF c104 O R q 1 [x0, x1] h := by kernel_rfl
def b104_2 (O : Oracle) (R : Jump) (q : Nat) (x0 x1 x74 x75 : TVal) (h : Heap) : Res1 :=
 vif x75 (
 tcomp (kB true) fun c0 => vfin true q [c0] h)
 (vbin .eql 0 x74 (kI (-3)) h fun x79 h =>
 vif x79 (
 vcall O (.v (.c (.func 133 []))) [x0] h 86 fun x86 h =>
 vop O (.nilck (.k x1)) h 87 fun x87 h =>
 vfaddr 0 x87 h fun x88 h =>
 vfaddr 3 x88 h fun x89 h =>
 vstore 1 x89 x86 h fun _ h =>
 tcomp (kB true) fun c0 => vfin true q [c0] h)
 (vbin .eql 0 x74 (kI (-4)) h fun x81 h =>
 vif x81 (
 vcall O (.v (.c (.func 134 []))) [x0] h 92 fun x92 h =>
 vop O (.nilck (.k x1)) h 93 fun x93 h =>
 vfaddr 0 x93 h fun x94 h =>
 vfaddr 3 x94 h fun x95 h =>
 vstore 1 x95 x92 h fun _ h =>
 tcomp (kB true) fun c0 => vfin true q [c0] h)
 (vbin .eql 0 x74 (kI 9) h fun x83 h =>
 vif x83 (
 vcall O (.v (.c (.func 134 []))) [x0] h 98 fun x98 h =>
 vop O (.nilck (.k x1)) h 99 fun x99 h =>
 vfaddr 0 x99 h fun x100 h =>
 vfaddr 3 x100 h fun x101 h =>
 vstore 1 x101 x98 h fun _ h =>
 vop O (.nilck (.k x0)) h 103 fun x103 h =>
 vfaddr 1 x103 h fun x104 h =>
 vload false 1 x104 h fun x105 h =>
 vop O (.nilck (.k x0)) h 107 fun x107 h =>
 vfaddr 0 x107 h fun x108 h =>
 vload false 1 x108 h fun x109 h =>
 vlen O 2 x109 h 110 fun x110 h =>
 vbin .geq 0 x105 x110 h fun x111 h =>
 vif x111 (
 tcomp (kB true) fun c0 => vfin true q [c0] h)
 (R 3 [x0, x1] h))
 (R 3 [x0, x1] h))))
theorem e104_2 (O : Oracle) (R : Jump) (q : Nat) (x0 x1 x74 x75 : TVal) (h : Heap) : b104_2 O R q x0 x1 x74 x75 h = stepF c104 O R q 2 [x0, x1, x74, x75] h := by kernel_rfl
def b104_3 (O : Oracle) (R : Jump) (q : Nat) (x0 x1 : TVal) (h : Heap) : Res1 :=
 vcall O (.v (.c (.func 103 []))) [x0] h 114 fun x114 h =>
 vop O (.nilck (.k x1)) h 115 fun x115 h =>
 vfaddr 0 x115 h fun x116 h =>
 vfaddr 4 x116 h fun x117 h =>
 vstore 1 x117 x114 h fun _ h =>
 tcomp (kB true) fun c0 => vfin true q [c0] h
theorem e104_3 (O : Oracle) (R : Jump) (q : Nat) (x0 x1 : TVal) (h : Heap) : b104_3 O R q x0 x1 h = stepF c104 O R q 3 [x0, x1] h := by kernel_rfl
def d104 : BlkF := fun O R Q => [.s fun a => .s fun b => .z (b104_0 O R Q a b), .s fun a => .s fun b => .z (b104_1 O R Q a b), .s fun a => .s fun b => .s fun c => .s fun d => .z (b104_2 O R Q a b c d), .s fun a => .s fun b => .z (b104_3 O R Q a b)]
theorem o104 (O : Oracle) (R : Jump) (q : Nat) : HoldsAll c104 O R q 0 (d104 O R q) := ⟨e104_0 O R q, e104_1 O R q, e104_2 O R q, e104_3 O R q, trivial⟩
def c105 : MFunc := mkM (compF Tryd.prog (globs2 tabs opq) (fun _ => false) true Tryd.f105) .n
def b105_0 (O : Oracle) (R : Jump) (q : Nat) (x0 : TVal) (h : Heap) : Res1 :=
 vop O (.nilck (.k x0)) h 5 fun x5 h =>
 vfaddr 1 x5 h fun x6 h =>
 vload false 1 x6 h fun x7 h =>
 vop O (.nilck (.k x0)) h 9 fun x9 h =>
 vfaddr 0 x9 h fun x10 h =>
 vload false 1 x10 h fun x11 h =>
 vlen O 2 x11 h 12 fun x12 h =>
 vbin .geq 0 x7 x12 h fun x13 h =>
 vcall O (.v (.c (.func 135 []))) [x0, x13] h 14 fun x14 h =>
 vop O (.nilck (.k x0)) h 16 fun x16 h =>
 vfaddr 2 x16 h fun x17 h =>
 vload false 1 x17 h fun x18 h =>
 tcomp x18 fun c0 => vfin true q [c0] h
theorem e105_0 (O : Oracle) (R : Jump) (q : Nat) (x0 : TVal) (h : Heap) : b105_0 O R q x0 h = stepF c105 O R q 0 [x0] h := by kernel_rfl
def d105 : BlkF := fun O R Q => [.s fun a => .z (b105_0 O R Q a)]
theorem o105 (O : Oracle) (R : Jump) (q : Nat) : HoldsAll c105 O R q 0 (d105 O R q) := ⟨e105_0 O R q, trivial⟩
def c106 : MFunc := mkM (compF Tryd.prog (globs2 tabs opq) (fun _ => false) true Tryd.f106) .n
def b106_0 (O : Oracle) (R : Jump) (q : Nat) (x0 x1 : TVal) (h : Heap) : Res1 :=
 vcall O (.v (.c (.func 136 []))) [x0, x1] h 7 fun x7 h =>
 vbin .geq 0 x7 (kI 0) h fun x8 h =>
 tcomp x8 fun c0 => vfin true q [c0] h
theorem e106_0 (O : Oracle) (R : Jump) (q : Nat) (x0 x1 : TVal) (h : Heap) : b106_0 O R q x0 x1 h = stepF c106 O R q 0 [x0, x1] h := by kernel_rfl
def d106 : BlkF := fun O R Q => [.s fun a => .s fun b => .z (b106_0 O R Q a b)]
theorem o106 (O : Oracle) (R : Jump) (q : Nat) : HoldsAll c106 O R q 0 (d106 O R q) := ⟨e106_0 O R q, trivial⟩
def c107 : MFunc := mkM (compF Tryd.prog (globs2 tabs opq) (fun _ => false) true Tryd.f107) .n
def b107_0 (O : Oracle) (R : Jump) (q : Nat) (x0 : TVal) (h : Heap) : Res1 :=
 vbin .geq 0 x0 (.v (.c (.p (.int .u8 48)))) h fun x4 h =>
 vguard x4 true (fun kk => kk x0 h) h fun x6 h =>
 vguard x4 true (fun kk => vbin .leq 0 x6 (.v (.c (.p (.int .u8 57)))) h kk) h fun x7 h =>
 vop O (.pick (.k x4) (.k x7) (.k (kB false))) h 8 fun x8 h =>
 tcomp x8 fun c0 => vfin true q [c0] h
theorem e107_0 (O : Oracle) (R : Jump) (q : Nat) (x0 : TVal) (h : Heap) : b107_0 O R q x0 h = stepF c107 O R q 0 [x0] h := by kernel_rfl
def d107 : BlkF := fun O R Q => [.s fun a => .z (b107_0 O R Q a)]
theorem o107 (O : Oracle) (R : Jump) (q : Nat) : HoldsAll c107 O R q 0 (d107 O R q) := ⟨e107_0 O R q, trivial⟩
def c108 : MFunc := mkM (compF Tryd.prog (globs2 tabs opq) (fun _ => false) true Tryd.f108) .n
def b108_0 (O : Oracle) (R : Jump) (q : Nat) (x0 : TVal) (h : Heap) : Res1 :=
 vcall O (.v (.c (.func 137 []))) [x0, (.v (.c (.func 138 [])))] h 4 fun x4 h =>
 tcomp x4 fun c0 => vfin true q [c0] h
theorem e108_0 (O : Oracle) (R : Jump) (q : Nat) (x0 : TVal) (h : Heap) : b108_0 O R q x0 h = stepF c108 O R q 0 [x0] h := by kernel_rfl
def d108 : BlkF := fun O R Q => [.s fun a => .z (b108_0 O R Q a)]
theorem o108 (O : Oracle) (R : Jump) (q : Nat) : HoldsAll c108 O R q 0 (d108 O R q) := ⟨e108_0 O R q, trivial⟩
def c109 : MFunc := mkM (compF Tryd.prog (globs2 tabs opq) (fun _ => false) true Tryd.f109) (.s .n (.s (.k (.l 1 [0, 1] .n)) .n))
def b109_0 (O : Oracle) (R : Jump) (q : Nat) (x0 x1 : TVal) (h : Heap) : Res1 :=
 R 1 [x0, x1] h
theorem e109_0 (O : Oracle) (R : Jump) (q : Nat) (x0 x1 : TVal) (h : Heap) : b109_0 O R q x0 x1 h = stepF c109 O R q 0 [x0, x1] h := by kernel_rfl
def b109_1 (O : Oracle) (R : Jump) (q : Nat) (x0 x1 : TVal) (h : Heap) : Res1 :=
 vlen O 0 x0 h 6 fun x6 h =>
 vbin .gtr 0 x6 (kI 0) h fun x7 h =>
 vguard x7 true (fun kk => kk x0 h) h fun x9 h =>
 vguard x7 true (fun kk => vindex x9 (kI 0) h kk) h fun x10 h =>
 vguard x7 true (fun kk => kk x1 h) h fun x11 h =>
 vguard x7 true (fun kk => vbin .eql 0 x10 x11 h kk) h fun x12 h =>
 vop O (.pick (.k x7) (.k x12) (.k (kB false))) h 13 fun x13 h =>
 vif x13 (
 vop O (.slice 0 true (.k x0) (some (.k (kI 1))) none none) h 15 fun x15 h =>
 R 1 [x15, x1] h)
 (tcomp x0 fun c0 => vfin true q [c0] h)
theorem e109_1 (O : Oracle) (R : Jump) (q : Nat) (x0 x1 : TVal) (h : Heap) : b109_1 O R q x0 x1 h = stepF c109 O R q 1 [x0, x1] h := by kernel_rfl
def d109 : BlkF := fun O R Q => [.s fun a => .s fun b => .z (b109_0 O R Q a b), .s fun a => .s fun b => .z (b109_1 O R Q a b)]
theorem o109 (O : Oracle) (R : Jump) (q : Nat) : HoldsAll c109 O R q 0 (d109 O R q) := ⟨e109_0 O R q, e109_1 O R q, trivial⟩
def c110 : MFunc := mkM (compF Tryd.prog (globs2 tabs opq) (fun _ => false) true Tryd.f110) (.s .n (.s (.k (.l 1 [0, 1] .n)) .n))
def b110_0 (O : Oracle) (R : Jump) (q : Nat) (x0 x1 : TVal) (h : Heap) : Res1 :=
 R 1 [x0, x1] h
theorem e110_0 (O : Oracle) (R : Jump) (q : Nat) (x0 x1 : TVal) (h : Heap) : b110_0 O R q x0 x1 h = stepF c110 O R q 0 [x0, x1] h := by kernel_rfl
def b110_1 (O : Oracle) (R : Jump) (q : Nat) (x0 x1 : TVal) (h : Heap) : Res1 :=
 vlen O 0 x0 h 6 fun x6 h =>
 vbin .gtr 0 x6 (kI 0) h fun x7 h =>
 vguard x7 true (fun kk => kk x0 h) h fun x9 h =>
 vguard x7 true (fun kk => kk x0 h) h fun x10 h =>
 vguard x7 true (fun kk => vlen O 0 x10 h 11 kk) h fun x11 h =>
 vguard x7 true (fun kk => vbin .sub 0 x11 (kI 1) h kk) h fun x12 h =>
 vguard x7 true (fun kk => vindex x9 x12 h kk) h fun x13 h =>
 vguard x7 true (fun kk => kk x1 h) h fun x14 h =>
 vguard x7 true (fun kk => vbin .eql 0 x13 x14 h kk) h fun x15 h =>
 vop O (.pick (.k x7) (.k x15) (.k (kB false))) h 16 fun x16 h =>
 vif x16 (
 vlen O 0 x0 h 19 fun x19 h =>
 vbin .sub 0 x19 (kI 1) h fun x20 h =>
 vop O (.slice 0 true (.k x0) none (some (.k x20)) none) h 21 fun x21 h =>
 R 1 [x21, x1] h)
 (tcomp x0 fun c0 => vfin true q [c0] h)
theorem e110_1 (O : Oracle) (R : Jump) (q : Nat) (x0 x1 : TVal) (h : Heap) : b110_1 O R q x0 x1 h = stepF c110 O R q 1 [x0, x1] h := by kernel_rfl
def d110 : BlkF := fun O R Q => [.s fun a => .s fun b => .z (b110_0 O R Q a b), .s fun a => .s fun b => .z (b110_1 O R Q a b)]
theorem o110 (O : Oracle) (R : Jump) (q : Nat) : HoldsAll c110 O R q 0 (d110 O R q) := ⟨e110_0 O R q, e110_1 O R q, trivial⟩
def c111 : MFunc := mkM (compF Tryd.prog (globs2 tabs opq) (fun _ => false) true Tryd.f111) (.s .n (.s (.s .n (.k (.l 1 [0, 2, 4] .n))) (.m 2 [2] .n)))
def b111_0 (O : Oracle) (R : Jump) (q : Nat) (x0 : TVal) (h : Heap) : Res1 :=
 vop O (.alloc [(.p (.bool false)), (.p (.bool false)), (.p (.bool false)), (.p (.bool false)), (.p (.bool false)), (.p (.bool false)), (.p (.bool false)), (.p (.bool false)), (.p (.bool false)), (.p (.bool false)), (.p (.bool false)), (.p (.bool false)), (.p (.bool false)), (.p (.bool false)), (.p (.bool false)), (.p (.bool false)), (.p (.bool false)), (.p (.bool false)), (.p (.bool false)), (.p (.bool false)), (.p (.bool false)), (.p (.bool false)), (.p (.bool false)), (.p (.bool false)), (.p (.bool false)), (.p (.bool false)), (.p (.bool false)), (.p (.bool false)), (.p (.bool false)), (.p (.bool false)), (.p (.bool false)), (.p (.bool false)), (.p (.bool false)), (.p (.bool false)), (.p (.bool false)), (.p (.bool false)), (.p (.bool false)), (.p (.bool false)), (.p (.bool false)), (.p (.bool false)), (.p (.bool false)), (.p (.bool false)), (.p (.bool false)), (.p (.bool false)), (.p (.bool false)), (.p (.bool false)), (.p (.bool false)), (.p (.bool false)), (.p (.bool false)), (.p (.bool false)), (.p (.bool false)), (.p (.bool false)), (.p (.bool false)), (.p (.bool false)), (.p (.bool false)), (.p (.bool false)), (.p (.bool false)), (.p (.bool false)), (.p (.bool false)), (.p (.bool false)), (.p (.bool false)), (.p (.bool false)), (.p (.bool false)), (.p (.bool false)), (.p (.bool false)), (.p (.bool false)), (.p (.bool false)), (.p (.bool false)), (.p (.bool false)), (.p (.bool false)), (.p (.bool false)), (.p (.bool false)), (.p (.bool false)), (.p (.bool false)), (.p (.bool false)), (.p (.bool false)), (.p (.bool false)), (.p (.bool false)), (.p (.bool false)), (.p (.bool false)), (.p (.bool false)), (.p (.bool false)), (.p (.bool false)), (.p (.bool false)), (.p (.bool false)), (.p (.bool false)), (.p (.bool false)), (.p (.bool false)), (.p (.bool false)), (.p (.bool false)), (.p (.bool false)), (.p (.bool false)), (.p (.bool false)), (.p (.bool false)), (.p (.bool false)), (.p (.bool false)), (.p (.bool false)), (.p (.bool false)), (.p (.bool false)), (.p (.bool false)), (.p (.bool false)), (.p (.bool false)), (.p (.bool false)), (.p (.bool false)), (.p (.bool false)), (.p (.bool false)), (.p (.bool false)), (.p (.bool false)), (.p (.bool false)), (.p (.bool false)), (.p (.bool false)), (.p (.bool false)), (.p (.bool false)), (.p (.bool false)), (.p (.bool false)), (.p (.bool false)), (.p (.bool false)), (.p (.bool false)), (.p (.bool false)), (.p (.bool false)), (.p (.bool false)), (.p (.bool false)), (.p (.bool false)), (.p (.bool false)), (.p (.bool false)), (.p (.bool false)), (.p (.bool false)), (.p (.bool false)), (.p (.bool false)), (.p (.bool false)), (.p (.bool false)), (.p (.bool false)), (.p (.bool false)), (.p (.bool false)), (.p (.bool false)), (.p (.bool false)), (.p (.bool false)), (.p (.bool false)), (.p (.bool false)), (.p (.bool false)), (.p (.bool false)), (.p (.bool false)), (.p (.bool false)), (.p (.bool false)), (.p (.bool false)), (.p (.bool false)), (.p (.bool false)), (.p (.bool false)), (.p (.bool false)), (.p (.bool false)), (.p (.bool false)), (.p (.bool false)), (.p (.bool false)), (.p (.bool false)), (.p (.bool false)), (.p (.bool false)), (.p (.bool false)), (.p (.bool false)), (.p (.bool false)), (.p (.bool false)), (.p (.bool false)), (.p (.bool false)), (.p (.bool false)), (.p (.bool false)), (.p (.bool false)), (.p (.bool false)), (.p (.bool false)), (.p (.bool false)), (.p (.bool false)), (.p (.bool false)), (.p (.bool false)), (.p (.bool false)), (.p (.bool false)), (.p (.bool false)), (.p (.bool false)), (.p (.bool false)), (.p (.bool false)), (.p (.bool false)), (.p (.bool false)), (.p (.bool false)), (.p (.bool false)), (.p (.bool false)), (.p (.bool false)), (.p (.bool false)), (.p (.bool false)), (.p (.bool false)), (.p (.bool false)), (.p (.bool false)), (.p (.bool false)), (.p (.bool false)), (.p (.bool false)), (.p (.bool false)), (.p (.bool false)), (.p (.bool false)), (.p (.bool false)), (.p (.bool false)), (.p (.bool false)), (.p (.bool false)), (.p (.bool false)), (.p (.bool false)), (.p (.bool false)), (.p (.bool false)), (.p (.bool false)), (.p (.bool false)), (.p (.bool false)), (.p (.bool false)), (.p (.bool false)), (.p (.bool false)), (.p (.bool false)), (.p (.bool false)), (.p (.bool false)), (.p (.bool false)), (.p (.bool false)), (.p (.bool false)), (.p (.bool false)), (.p (.bool false)), (.p (.bool false)), (.p (.bool false)), (.p (.bool false)), (.p (.bool false)), (.p (.bool false)), (.p (.bool false)), (.p (.bool false)), (.p (.bool false)), (.p (.bool false)), (.p (.bool false)), (.p (.bool false)), (.p (.bool false)), (.p (.bool false)), (.p (.bool false)), (.p (.bool false)), (.p (.bool false)), (.p (.bool false)), (.p (.bool false)), (.p (.bool false)), (.p (.bool false)), (.p (.bool false)), (.p (.bool false)), (.p (.bool false)), (.p (.bool false)), (.p (.bool false)), (.p (.bool false)), (.p (.bool false)), (.p (.bool false)), (.p (.bool false)), (.p (.bool false)), (.p (.bool false)), (.p (.bool false)), (.p (.bool false)), (.p (.bool false)), (.p (.bool false)), (.p (.bool false)), (.p (.bool false)), (.p (.bool false)), (.p (.bool false)), (.p (.bool false))] false) h 2 fun x2 h =>
 R 1 [x0, x2, (kI 0)] h
theorem e111_0 (O : Oracle) (R : Jump) (q : Nat) (x0 : TVal) (h : Heap) : b111_0 O R q x0 h = stepF c111 O R q 0 [x0] h := by kernel_rfl
def b111_1 (O : Oracle) (R : Jump) (q : Nat) (x0 x2 x4 : TVal) (h : Heap) : Res1 :=
 vlen O 0 x0 h 8 fun x8 h =>
 vbin .lss 0 x4 x8 h fun x9 h =>
 vif x9 (
 vindex x0 x4 h fun x14 h =>
 vbin .geq 0 x14 (.v (.c (.p (.int .u8 128)))) h fun x16 h =>
 vif x16 (
 vload true 256 x2 h fun x17 h =>
 vstore 256 x2 x17 h fun _ h =>
 vcell true 256 x2 h fun c0 => tcomp (kB false) fun c1 => vfin true q [c0, c1] h)
 (vop O (.iaddrA 256 1 (.k x2) (.k x14)) h 19 fun x19 h =>
 vstore 1 x19 (kB true) h fun _ h =>
 vbin .add 0 x4 (kI 1) h fun x11 h =>
 R 1 [x0, x2, x11] h))
 (R 2 [x2] h)
theorem e111_1 (O : Oracle) (R : Jump) (q : Nat) (x0 x2 x4 : TVal) (h : Heap) : b111_1 O R q x0 x2 x4 h = stepF c111 O R q 1 [x0, x2, x4] h := by kernel_rfl
def b111_2 (O : Oracle) (R : Jump) (q : Nat) (x2 : TVal) (h : Heap) : Res1 :=
 vload true 256 x2 h fun x20 h =>
 vstore 256 x2 x20 h fun _ h =>
 vcell true 256 x2 h fun c0 => tcomp (kB true) fun c1 => vfin true q [c0, c1] h
theorem e111_2 (O : Oracle) (R : Jump) (q : Nat) (x2 : TVal) (h : Heap) : b111_2 O R q x2 h = stepF c111 O R q 2 [x2] h := by kernel_rfl
def d111 : BlkF := fun O R Q => [.s fun a => .z (b111_0 O R Q a), .s fun a => .s fun b => .s fun c => .z (b111_1 O R Q a b c), .s fun a => .z (b111_2 O R Q a)]
theorem o111 (O : Oracle) (R : Jump) (q : Nat) : HoldsAll c111 O R q 0 (d111 O R q) := ⟨e111_0 O R q, e111_1 O R q, e111_2 O R q, trivial⟩
def c112 : MFunc := mkM (compF Tryd.prog (globs2 tabs opq) (fun _ => false) true Tryd.f112) (.s .n (.s (.k (.l 1 [0, 1] .n)) .n))
def b112_0 (O : Oracle) (R : Jump) (q : Nat) (x0 x1 : TVal) (h : Heap) : Res1 :=
 R 1 [x0, x1] h
theorem e112_0 (O : Oracle) (R : Jump) (q : Nat) (x0 x1 : TVal) (h : Heap) : b112_0 O R q x0 x1 h = stepF c112 O R q 0 [x0, x1] h := by kernel_rfl
def b112_1 (O : Oracle) (R : Jump) (q : Nat) (x0 x1 : TVal) (h : Heap) : Res1 :=
 vlen O 0 x0 h 6 fun x6 h =>
 vbin .gtr 0 x6 (kI 0) h fun x7 h =>
 vif x7 (
 vindex x0 (kI 0) h fun x10 h =>
 vcall O (.v (.c (.func 139 []))) [x1, x10] h 11 fun x11 h =>
 vop O (.un .not (.k x11)) h 12 fun x12 h =>
 vif x12 (
 tcomp x0 fun c0 => vfin true q [c0] h)
 (vop O (.slice 0 true (.k x0) (some (.k (kI 1))) none none) h 14 fun x14 h =>
 R 1 [x14, x1] h))
 (tcomp x0 fun c0 => vfin true q [c0] h)
theorem e112_1 (O : Oracle) (R : Jump) (q : Nat) (x0 x1 : TVal) (h : Heap) : b112_1 O R q x0 x1 h = stepF c112 O R q 1 [x0, x1] h := by kernel_rfl
def d112 : BlkF := fun O R Q => [.s fun a => .s fun b => .z (b112_0 O R Q a b), .s fun a => .s fun b => .z (b112_1 O R Q a b)]
theorem o112 (O : Oracle) (R : Jump) (q : Nat) : HoldsAll c112 O R q 0 (d112 O R q) := ⟨e112_0 O R q, e112_1 O R q, trivial⟩
def c113 : MFunc := mkM (compF Tryd.prog (globs2 tabs opq) (fun _ => false) true Tryd.f113) (.s .n (.s (.k (.l 1 [0, 1] .n)) .n))
def b113_0 (O : Oracle) (R : Jump) (q : Nat) (x0 x1 : TVal) (h : Heap) : Res1 :=
 R 1 [x0, x1] h
theorem e113_0 (O : Oracle) (R : Jump) (q : Nat) (x0 x1 : TVal) (h : Heap) : b113_0 O R q x0 x1 h = stepF c113 O R q 0 [x0, x1] h := by kernel_rfl
def b113_1 (O : Oracle) (R : Jump) (q : Nat) (x0 x1 : TVal) (h : Heap) : Res1 :=
 vlen O 0 x0 h 6 fun x6 h =>
 vbin .gtr 0 x6 (kI 0) h fun x7 h =>
 vif x7 (
 vlen O 0 x0 h 11 fun x11 h =>
 vbin .sub 0 x11 (kI 1) h fun x12 h =>
 vindex x0 x12 h fun x13 h =>
 vcall O (.v (.c (.func 139 []))) [x1, x13] h 14 fun x14 h =>
 vop O (.un .not (.k x14)) h 15 fun x15 h =>
 vif x15 (
 tcomp x0 fun c0 => vfin true q [c0] h)
 (vlen O 0 x0 h 18 fun x18 h =>
 vbin .sub 0 x18 (kI 1) h fun x19 h =>
 vop O (.slice 0 true (.k x0) none (some (.k x19)) none) h 20 fun x20 h =>
 R 1 [x20, x1] h))
 (tcomp x0 fun c0 => vfin true q [c0] h)
theorem e113_1 (O : Oracle) (R : Jump) (q : Nat) (x0 x1 : TVal) (h : Heap) : b113_1 O R q x0 x1 h = stepF c113 O R q 1 [x0, x1] h := by kernel_rfl
def d113 : BlkF := fun O R Q => [.s fun a => .s fun b => .z (b113_0 O R Q a b), .s fun a => .s fun b => .z (b113_1 O R Q a b)]
theorem o113 (O : Oracle) (R : Jump) (q : Nat) : HoldsAll c113 O R q 0 (d113 O R q) := ⟨e113_0 O R q, e113_1 O R q, trivial⟩
def c114 : MFunc := mkM (compF Tryd.prog (globs2 tabs opq) (fun _ => false) true Tryd.f114) (.s .n (.s (.k (.l 1 [0, 1] .n)) .n))
def b114_0 (O : Oracle) (R : Jump) (q : Nat) (x0 x1 : TVal) (h : Heap) : Res1 :=
 R 1 [x0, x1] h
theorem e114_0 (O : Oracle) (R : Jump) (q : Nat) (x0 x1 : TVal) (h : Heap) : b114_0 O R q x0 x1 h = stepF c114 O R q 0 [x0, x1] h := by kernel_rfl
def b114_1 (O : Oracle) (R : Jump) (q : Nat) (x0 x1 : TVal) (h : Heap) : Res1 :=
 vlen O 0 x0 h 8 fun x8 h =>
 vbin .gtr 0 x8 (kI 0) h fun x9 h =>
 vif x9 (
 vcall O (.v (.c (.func 140 []))) [x0] h 12 fun x12 h =>
 vext x12 0 h fun x13 h =>
 vext x12 1 h fun x14 h =>
 vcall O (.v (.c (.func 141 []))) [x1, x13] h 17 fun x17 h =>
 vop O (.un .not (.k x17)) h 18 fun x18 h =>
 vif x18 (
 tcomp x0 fun c0 => vfin true q [c0] h)
 (vop O (.slice 0 true (.k x0) (some (.k x14)) none none) h 21 fun x21 h =>
 R 1 [x21, x1] h))
 (tcomp x0 fun c0 => vfin true q [c0] h)
theorem e114_1 (O : Oracle) (R : Jump) (q : Nat) (x0 x1 : TVal) (h : Heap) : b114_1 O R q x0 x1 h = stepF c114 O R q 1 [x0, x1] h := by kernel_rfl
def d114 : BlkF := fun O R Q => [.s fun a => .s fun b => .z (b114_0 O R Q a b), .s fun a => .s fun b => .z (b114_1 O R Q a b)]
theorem o114 (O : Oracle) (R : Jump) (q : Nat) : HoldsAll c114 O R q 0 (d114 O R q) := ⟨e114_0 O R q, e114_1 O R q, trivial⟩
def c115 : MFunc := mkM (compF Tryd.prog (globs2 tabs opq) (fun _ => false) true Tryd.f115) (.s .n (.s (.k (.l 1 [0, 1] (.s .n (.k (.s .n (.s .n (.m 2 [0, 1, 5, 6] .n))))))) .n))
def b115_0 (O : Oracle) (R : Jump) (q : Nat) (x0 x1 : TVal) (h : Heap) : Res1 :=
 R 1 [x0, x1] h
theorem e115_0 (O : Oracle) (R : Jump) (q : Nat) (x0 x1 : TVal) (h : Heap) : b115_0 O R q x0 x1 h = stepF c115 O R q 0 [x0, x1] h := by kernel_rfl
def b115_1 (O : Oracle) (R : Jump) (q : Nat) (x0 x1 : TVal) (h : Heap) : Res1 :=
 vlen O 0 x0 h 8 fun x8 h =>
 vbin .gtr 0 x8 (kI 0) h fun x9 h =>
 vif x9 (
 vlen O 0 x0 h 12 fun x12 h =>
 vbin .sub 0 x12 (kI 1) h fun x13 h =>
 vindex x0 x13 h fun x14 h =>
 vtoInt .i32 x14 h fun x15 h =>
 vbin .geq 0 x15 (.v (.c (.p (.int .i32 128)))) h fun x17 h =>
 vif x17 (
 vcall O (.v (.c (.func 142 []))) [x0] h 20 fun x20 h =>
 vext x20 0 h fun x21 h =>
 vext x20 1 h fun x22 h =>
 R 2 [x0, x1, x21, x22] h)
 (R 2 [x0, x1, x15, (kI 1)] h))
 (tcomp x0 fun c0 => vfin true q [c0] h)
theorem e115_1 (O : Oracle) (R : Jump) (q : Nat) (x0 x1 : TVal) (h : Heap) : b115_1 O R q x0 x1 h = stepF c115 O R q 1 [x0, x1] h := by kernel_rfl
def b115_2 (O : Oracle) (R : Jump) (q : Nat) (x0 x1 x5 x6 : TVal) (h : Heap) : Res1 :=
 vcall O (.v (.c (.func 141 []))) [x1, x5] h 25 fun x25 h =>
 vop O (.un .not (.k x25)) h 26 fun x26 h =>
 vif x26 (
 tcomp x0 fun c0 => vfin true q [c0] h)
 (vlen O 0 x0 h 29 fun x29 h =>
 vbin .sub 0 x29 x6 h fun x31 h =>
 vop O (.slice 0 true (.k x0) none (some (.k x31)) none) h 32 fun x32 h =>
 R 1 [x32, x1] h)
theorem e115_2 (O : Oracle) (R : Jump) (q : Nat) (x0 x1 x5 x6 : TVal) (h : Heap) : b115_2 O R q x0 x1 x5 x6 h = stepF c115 O R q 2 [x0, x1, x5, x6] h := by kernel_rfl
def d115 : BlkF := fun O R Q => [.s fun a => .s fun b => .z (b115_0 O R Q a b), .s fun a => .s fun b => .z (b115_1 O R Q a b), .s fun a => .s fun b => .s fun c => .s fun d => .z (b115_2 O R Q a b c d)]
theorem o115 (O : Oracle) (R : Jump) (q : Nat) : HoldsAll c115 O R q 0 (d115 O R q) := ⟨e115_0 O R q, e115_1 O R q, e115_2 O R q, trivial⟩
def c118 : MFunc := mkM (compF Tryd.prog (globs2 tabs opq) (fun _ => false) true Tryd.f118) .n
def b118_0 (O : Oracle) (R : Jump) (q : Nat) (x0 : TVal) (h : Heap) : Res1 :=
 vbin .eql 0 x0 (.v (.c (.p (.int .u8 95)))) h fun x4 h =>
 vguard x4 false (fun kk => kk x0 h) h fun x6 h =>
 vguard x4 false (fun kk => vbin .or 0 x6 (.v (.c (.p (.int .u8 32)))) h kk) h fun x7 h =>
 vguard x4 false (fun kk => vbin .geq 0 x7 (.v (.c (.p (.int .u8 97)))) h kk) h fun x8 h =>
 vguard x4 false (fun kk => kk x8 h) h fun x9 h =>
 vguard x9 true (fun kk => kk x0 h) h fun x10 h =>
 vguard x9 true (fun kk => vbin .or 0 x10 (.v (.c (.p (.int .u8 32)))) h kk) h fun x11 h =>
 vguard x9 true (fun kk => vbin .leq 0 x11 (.v (.c (.p (.int .u8 122)))) h kk) h fun x12 h =>
 vguard x4 false (fun kk => vop O (.pick (.k x9) (.k x12) (.k (kB false))) h 13 kk) h fun x13 h =>
 vop O (.pick (.k x4) (.k (kB true)) (.k x13)) h 14 fun x14 h =>
 tcomp x14 fun c0 => vfin true q [c0] h
theorem e118_0 (O : Oracle) (R : Jump) (q : Nat) (x0 : TVal) (h : Heap) : b118_0 O R q x0 h = stepF c118 O R q 0 [x0] h := by kernel_rfl
def d118 : BlkF := fun O R Q => [.s fun a => .z (b118_0 O R Q a)]
theorem o118 (O : Oracle) (R : Jump) (q : Nat) : HoldsAll c118 O R q 0 (d118 O R q) := ⟨e118_0 O R q, trivial⟩
def c119 : MFunc := mkM (compF Tryd.prog (globs2 tabs opq) (fun _ => false) true Tryd.f119) .n
def b119_0 (O : Oracle) (R : Jump) (q : Nat) (x0 : TVal) (h : Heap) : Res1 :=
 vop O (.alloc [(.p (.int .i64 0)), (.p (.str [])), (.p (.int .i64 0)), (.p (.int .i64 0))] false) h 2 fun x2 h =>
 vcall O (.v (.c (.func 108 []))) [x0] h 7 fun x7 h =>
 vbin .gtr 0 x7 (kI 16) h fun x9 h =>
 vif x9 (
 vop O (.build [(.p (.int .i64 0)), (.p (.str [])), (.p (.int .i64 0)), (.p (.int .i64 0))] []) h 10 fun x10 h =>
 vstore 4 x2 x10 h fun _ h =>
 vcell true 4 x2 h fun c0 => tcomp (kI 0) fun c1 => tcomp (kI 4) fun c2 => vfin true q [c0, c1, c2] h)
 (vop O (.slice 0 true (.k x0) none (some (.k x7)) none) h 13 fun x13 h =>
 vop O (.build [(.p (.int .i64 0)), (.p (.str [])), (.p (.int .i64 0)), (.p (.int .i64 0))] [(0, 1, (.k (kI 1))), (1, 1, (.k x13))]) h 14 fun x14 h =>
 vstore 4 x2 x14 h fun _ h =>
 vcell true 4 x2 h fun c0 => tcomp x7 fun c1 => tcomp (kI 0) fun c2 => vfin true q [c0, c1, c2] h)
theorem e119_0 (O : Oracle) (R : Jump) (q : Nat) (x0 : TVal) (h : Heap) : b119_0 O R q x0 h = stepF c119 O R q 0 [x0] h := by kernel_rfl
def d119 : BlkF := fun O R Q => [.s fun a => .z (b119_0 O R Q a)]
theorem o119 (O : Oracle) (R : Jump) (q : Nat) : HoldsAll c119 O R q 0 (d119 O R q) := ⟨e119_0 O R q, trivial⟩
def c120 : MFunc := mkM (compF Tryd.prog (globs2 tabs opq) (fun _ => false) true Tryd.f120) (.s .n (.s .n (.s .n (.s .n (.s .n (.s (.s .n (.k (.l 1 [2, 5, 6, 7, 29] .n))) (.m 2 [2, 5, 6, 7] .n)))))))
def b120_0 (O : Oracle) (R : Jump) (q : Nat) (x0 : TVal) (h : Heap) : Res1 :=
 vop O (.alloc [(.p (.int .i64 0)), (.p (.str [])), (.p (.int .i64 0)), (.p (.int .i64 0))] false) h 2 fun x2 h =>
 vlen O 0 x0 h 11 fun x11 h =>
 vcall O (.v (.c (.func 145 []))) [x0, (kS [45])] h 13 fun x13 h =>
 vlen O 0 x13 h 14 fun x14 h =>
 vbin .sub 0 x11 x14 h fun x15 h =>
 vop O (.slice 0 true (.k x0) (some (.k x15)) none none) h 18 fun x18 h =>
 vcall O (.v (.c (.func 137 []))) [x18, (.v (.c (.func 107 [])))] h 19 fun x19 h =>
 vbin .gtr 0 x19 (kI 19) h fun x21 h =>
 vif x21 (
 vop O (.build [(.p (.int .i64 0)), (.p (.str [])), (.p (.int .i64 0)), (.p (.int .i64 0))] []) h 22 fun x22 h =>
 vstore 4 x2 x22 h fun _ h =>
 vcell true 4 x2 h fun c0 => tcomp (kI 0) fun c1 => tcomp (kI 4) fun c2 => vfin true q [c0, c1, c2] h)
 (vbin .add 0 x15 x19 h fun x27 h =>
 vop O (.slice 0 true (.k x0) (some (.k x15)) (some (.k x27)) none) h 28 fun x28 h =>
 vop O (.rangeS (.k x28)) h 29 fun x29 h =>
 R 1 [x2, x15, x19, (.v (.c (.p (.int .u64 0)))), x29] h)
theorem e120_0 (O : Oracle) (R : Jump) (q : Nat) (x0 : TVal) (h : Heap) : b120_0 O R q x0 h = stepF c120 O R q 0 [x0] h := by kernel_rfl
def b120_1 (O : Oracle) (R : Jump) (q : Nat) (x2 x5 x6 x7 x29 : TVal) (h : Heap) : Res1 :=
 vop O (.nextS (.k x29)) h 30 fun x30 h =>
 vext x30 0 h fun x31 h =>
 vif x31 (
 vext x30 2 h fun x32 h =>
 vbin .mul 0 (.v (.c (.p (.int .u64 10)))) x7 h fun x34 h =>
 vbin .sub 0 x32 (.v (.c (.p (.int .i32 48)))) h fun x36 h =>
 vtoInt .u64 x36 h fun x37 h =>
 vbin .add 0 x34 x37 h fun x38 h =>
 R 1 [x2, x5, x6, x38, x29] h)
 (R 2 [x2, x5, x6, x7] h)
theorem e120_1 (O : Oracle) (R : Jump) (q : Nat) (x2 x5 x6 x7 x29 : TVal) (h : Heap) : b120_1 O R q x2 x5 x6 x7 x29 h = stepF c120 O R q 1 [x2, x5, x6, x7, x29] h := by kernel_rfl
def b120_2 (O : Oracle) (R : Jump) (q : Nat) (x2 x5 x6 x7 : TVal) (h : Heap) : Res1 :=
 vtoInt .u64 x5 h fun x42 h =>
 vbin .add 0 (.v (.c (.p (.int .u64 9223372036854775807)))) x42 h fun x43 h =>
 vbin .gtr 0 x7 x43 h fun x44 h =>
 vif x44 (
 vop O (.build [(.p (.int .i64 0)), (.p (.str [])), (.p (.int .i64 0)), (.p (.int .i64 0))] []) h 45 fun x45 h =>
 vstore 4 x2 x45 h fun _ h =>
 vcell true 4 x2 h fun c0 => tcomp (kI 0) fun c1 => tcomp (kI 11) fun c2 => vfin true q [c0, c1, c2] h)
 (vbin .gtr 0 x5 (kI 0) h fun x48 h =>
 vif x48 (
 vtoInt .i64 x7 h fun x50 h =>
 vop O (.un .neg (.k x50)) h 51 fun x51 h =>
 vop O (.build [(.p (.int .i64 0)), (.p (.str [])), (.p (.int .i64 0)), (.p (.int .i64 0))] [(0, 1, (.k (kI 3))), (2, 1, (.k x51))]) h 52 fun x52 h =>
 vbin .add 0 x5 x6 h fun x55 h =>
 vstore 4 x2 x52 h fun _ h =>
 vcell true 4 x2 h fun c0 => tcomp x55 fun c1 => tcomp (kI 0) fun c2 => vfin true q [c0, c1, c2] h)
 (vtoInt .i64 x7 h fun x57 h =>
 vop O (.build [(.p (.int .i64 0)), (.p (.str [])), (.p (.int .i64 0)), (.p (.int .i64 0))] [(0, 1, (.k (kI 3))), (2, 1, (.k x57))]) h 58 fun x58 h =>
 vstore 4 x2 x58 h fun _ h =>
 vcell true 4 x2 h fun c0 => tcomp x6 fun c1 => tcomp (kI 0) fun c2 => vfin true q [c0, c1, c2] h))
theorem e120_2 (O : Oracle) (R : Jump) (q : Nat) (x2 x5 x6 x7 : TVal) (h : Heap) : b120_2 O R q x2 x5 x6 x7 h = stepF c120 O R q 2 [x2, x5, x6, x7] h := by kernel_rfl
def d120 : BlkF := fun O R Q => [.s fun a => .z (b120_0 O R Q a), .s fun a => .s fun b => .s fun c => .s fun d => .s fun e => .z (b120_1 O R Q a b c d e), .s fun a => .s fun b => .s fun c => .s fun d => .z (b120_2 O R Q a b c d)]
theorem o120 (O : Oracle) (R : Jump) (q : Nat) : HoldsAll c120 O R q 0 (d120 O R q) := ⟨e120_0 O R q, e120_1 O R q, e120_2 O R q, trivial⟩
def c121 : MFunc := mkM (compF Tryd.prog (globs2 tabs opq) (fun _ => false) true Tryd.f121) (.s .n (.s .n (.s (.s .n (.k (.l 1 [0, 2, 5, 6] (.s .n (.s .n (.m 2 [0, 2, 5, 6] .n)))))) (.m 3 [2] .n))))
def b121_0 (O : Oracle) (R : Jump) (q : Nat) (x0 : TVal) (h : Heap) : Res1 :=
 vop O (.alloc [(.p (.int .i64 0)), (.p (.str [])), (.p (.int .i64 0)), (.p (.int .i64 0))] false) h 2 fun x2 h =>
 R 1 [x0, x2, (.v (.c (.p .nilslice))), (kI 1)] h
theorem e121_0 (O : Oracle) (R : Jump) (q : Nat) (x0 : TVal) (h : Heap) : b121_0 O R q x0 h = stepF c121 O R q 0 [x0] h := by kernel_rfl
def b121_1 (O : Oracle) (R : Jump) (q : Nat) (x0 x2 x5 x6 : TVal) (h : Heap) : Res1 :=
 vlen O 0 x0 h 12 fun x12 h =>
 vbin .lss 0 x6 x12 h fun x13 h =>
 vif x13 (
 vindex x0 x6 h fun x18 h =>
 vbin .lss 0 x18 (.v (.c (.p (.int .u8 32)))) h fun x25 h =>
 vif x25 (
 vop O (.build [(.p (.int .i64 0)), (.p (.str [])), (.p (.int .i64 0)), (.p (.int .i64 0))] []) h 26 fun x26 h =>
 vstore 4 x2 x26 h fun _ h =>
 vcell true 4 x2 h fun c0 => tcomp (kI 0) fun c1 => tcomp (kI 11) fun c2 => vfin true q [c0, c1, c2] h)
 (vbin .eql 0 x18 (.v (.c (.p (.int .u8 34)))) h fun x29 h =>
 vguard x29 true (fun kk => kk x5 h) h fun x31 h =>
 vguard x29 true (fun kk => vlen O 2 x31 h 32 kk) h fun x32 h =>
 vguard x29 true (fun kk => vbin .gtr 0 x32 (kI 200) h kk) h fun x33 h =>
 vop O (.pick (.k x29) (.k x33) (.k (kB false))) h 34 fun x34 h =>
 vif x34 (
 vop O (.build [(.p (.int .i64 0)), (.p (.str [])), (.p (.int .i64 0)), (.p (.int .i64 0))] []) h 35 fun x35 h =>
 vstore 4 x2 x35 h fun _ h =>
 vcell true 4 x2 h fun c0 => tcomp (kI 0) fun c1 => tcomp (kI 4) fun c2 => vfin true q [c0, c1, c2] h)
 (vbin .eql 0 x18 (.v (.c (.p (.int .u8 34)))) h fun x38 h =>
 vif x38 (
 vop O (.toStr (.k x5)) h 40 fun x40 h =>
 vop O (.build [(.p (.int .i64 0)), (.p (.str [])), (.p (.int .i64 0)), (.p (.int .i64 0))] [(0, 1, (.k (kI 2))), (1, 1, (.k x40))]) h 41 fun x41 h =>
 vbin .add 0 x6 (kI 1) h fun x43 h =>
 vstore 4 x2 x41 h fun _ h =>
 vcell true 4 x2 h fun c0 => tcomp x43 fun c1 => tcomp (kI 0) fun c2 => vfin true q [c0, c1, c2] h)
 (vbin .eql 0 x18 (.v (.c (.p (.int .u8 92)))) h fun x46 h =>
 vguard x46 true (fun kk => kk x6 h) h fun x48 h =>
 vguard x46 true (fun kk => vbin .add 0 x48 (kI 1) h kk) h fun x49 h =>
 vguard x46 true (fun kk => kk x0 h) h fun x50 h =>
 vguard x46 true (fun kk => vlen O 0 x50 h 51 kk) h fun x51 h =>
 vguard x46 true (fun kk => vbin .lss 0 x49 x51 h kk) h fun x52 h =>
 vop O (.pick (.k x46) (.k x52) (.k (kB false))) h 53 fun x53 h =>
 vif x53 (
 vbin .add 0 x6 (kI 1) h fun x57 h =>
 vindex x0 x57 h fun x58 h =>
 vcall O (.v (.c (.func 146 []))) [x58] h 59 fun x59 h =>
 vext x59 0 h fun x60 h =>
 vext x59 1 h fun x61 h =>
 vop O (.un .not (.k x61)) h 63 fun x63 h =>
 vif x63 (
 vop O (.build [(.p (.int .i64 0)), (.p (.str [])), (.p (.int .i64 0)), (.p (.int .i64 0))] []) h 64 fun x64 h =>
 vstore 4 x2 x64 h fun _ h =>
 vcell true 4 x2 h fun c0 => tcomp (kI 0) fun c1 => tcomp (kI 11) fun c2 => vfin true q [c0, c1, c2] h)
 (vop O (.bslice 1 1 [(.p (.int .u8 0))] [(0, (.k x60))] false) h 67 fun x67 h =>
 vop O (.append 1 1 false (.k x5) (.k x67)) h 68 fun x68 h =>
 vbin .add 0 x6 (kI 1) h fun x70 h =>
 R 2 [x0, x2, x68, x70] h))
 (vop O (.bslice 1 1 [(.p (.int .u8 0))] [(0, (.k x18))] false) h 21 fun x21 h =>
 vop O (.append 1 1 false (.k x5) (.k x21)) h 22 fun x22 h =>
 R 2 [x0, x2, x22, x6] h)))))
 (R 3 [x2] h)
theorem e121_1 (O : Oracle) (R : Jump) (q : Nat) (x0 x2 x5 x6 : TVal) (h : Heap) : b121_1 O R q x0 x2 x5 x6 h = stepF c121 O R q 1 [x0, x2, x5, x6] h := by kernel_rfl
def b121_2 (O : Oracle) (R : Jump) (q : Nat) (x0 x2 x5 x6 : TVal) (h : Heap) : Res1 :=
 vbin .add 0 x6 (kI 1) h fun x15 h =>
 R 1 [x0, x2, x5, x15] h
theorem e121_2 (O : Oracle) (R : Jump) (q : Nat) (x0 x2 x5 x6 : TVal) (h : Heap) : b121_2 O R q x0 x2 x5 x6 h = stepF c121 O R q 2 [x0, x2, x5, x6] h := by kernel_rfl
def b121_3 (O : Oracle) (R : Jump) (q : Nat) (x2 : TVal) (h : Heap) : Res1 :=
 vop O (.build [(.p (.int .i64 0)), (.p (.str [])), (.p (.int .i64 0)), (.p (.int .i64 0))] []) h 71 fun x71 h =>
 vstore 4 x2 x71 h fun _ h =>
 vcell true 4 x2 h fun c0 => tcomp (kI 0) fun c1 => tcomp (kI 11) fun c2 => vfin true q [c0, c1, c2] h
theorem e121_3 (O : Oracle) (R : Jump) (q : Nat) (x2 : TVal) (h : Heap) : b121_3 O R q x2 h = stepF c121 O R q 3 [x2] h := by kernel_rfl
def d121 : BlkF := fun O R Q => [.s fun a => .z (b121_0 O R Q a), .s fun a => .s fun b => .s fun c => .s fun d => .z (b121_1 O R Q a b c d), .s fun a => .s fun b => .s fun c => .s fun d => .z (b121_2 O R Q a b c d), .s fun a => .z (b121_3 O R Q a)]
theorem o121 (O : Oracle) (R : Jump) (q : Nat) : HoldsAll c121 O R q 0 (d121 O R q) := ⟨e121_0 O R q, e121_1 O R q, e121_2 O R q, e121_3 O R q, trivial⟩
def c122 : MFunc := mkM (compF Tryd.prog (globs2 tabs opq) (fun _ => false) true Tryd.f122) (.s .n (.s (.s .n (.k (.l 1 [0, 2, 7, 8, 9] .n))) (.m 2 [0, 2] .n)))
def b122_0 (O : Oracle) (R : Jump) (q : Nat) (x0 : TVal) (h : Heap) : Res1 :=
 vop O (.alloc [(.p (.int .i64 0)), (.p (.str [])), (.p (.int .i64 0)), (.p (.int .i64 0))] false) h 2 fun x2 h =>
 vcall O (.v (.c (.func 147 []))) [(kS [45, 62, 32, 58, 61])] h 7 fun x7 h =>
 vlen O 2 x7 h 8 fun x8 h =>
 R 1 [x0, x2, x7, x8, (kI 0)] h
theorem e122_0 (O : Oracle) (R : Jump) (q : Nat) (x0 : TVal) (h : Heap) : b122_0 O R q x0 h = stepF c122 O R q 0 [x0] h := by kernel_rfl
def b122_1 (O : Oracle) (R : Jump) (q : Nat) (x0 x2 x7 x8 x9 : TVal) (h : Heap) : Res1 :=
 vbin .lss 0 x9 x8 h fun x10 h =>
 vif x10 (
 viaddr 1 x7 x9 h fun x11 h =>
 vload false 1 x11 h fun x12 h =>
 vcall O (.v (.c (.func 99 []))) [x0, x12] h 15 fun x15 h =>
 vif x15 (
 vop O (.build [(.p (.int .i64 0)), (.p (.str [])), (.p (.int .i64 0)), (.p (.int .i64 0))] [(0, 1, (.k (kI 4))), (1, 1, (.k x12))]) h 17 fun x17 h =>
 vlen O 0 x12 h 19 fun x19 h =>
 vstore 4 x2 x17 h fun _ h =>
 vcell true 4 x2 h fun c0 => tcomp x19 fun c1 => tcomp (kI 0) fun c2 => vfin true q [c0, c1, c2] h)
 (vbin .add 0 x9 (kI 1) h fun x20 h =>
 R 1 [x0, x2, x7, x8, x20] h))
 (R 2 [x0, x2] h)
theorem e122_1 (O : Oracle) (R : Jump) (q : Nat) (x0 x2 x7 x8 x9 : TVal) (h : Heap) : b122_1 O R q x0 x2 x7 x8 x9 h = stepF c122 O R q 1 [x0, x2, x7, x8, x9] h := by kernel_rfl
def b122_2 (O : Oracle) (R : Jump) (q : Nat) (x0 x2 : TVal) (h : Heap) : Res1 :=
 vop O (.slice 0 true (.k x0) none (some (.k (kI 1))) none) h 22 fun x22 h =>
 vcall O (.v (.c (.func 84 []))) [(kS [123, 125, 60, 62, 44, 58, 40, 41, 46, 36, 124, 61, 59]), x22] h 23 fun x23 h =>
 vop O (.un .not (.k x23)) h 24 fun x24 h =>
 vif x24 (
 vop O (.build [(.p (.int .i64 0)), (.p (.str [])), (.p (.int .i64 0)), (.p (.int .i64 0))] []) h 25 fun x25 h =>
 vstore 4 x2 x25 h fun _ h =>
 vcell true 4 x2 h fun c0 => tcomp (kI 0) fun c1 => tcomp (kI 11) fun c2 => vfin true q [c0, c1, c2] h)
 (vop O (.slice 0 true (.k x0) none (some (.k (kI 1))) none) h 27 fun x27 h =>
 vop O (.build [(.p (.int .i64 0)), (.p (.str [])), (.p (.int .i64 0)), (.p (.int .i64 0))] [(0, 1, (.k (kI 4))), (1, 1, (.k x27))]) h 28 fun x28 h =>
 vstore 4 x2 x28 h fun _ h =>
 vcell true 4 x2 h fun c0 => tcomp (kI 1) fun c1 => tcomp (kI 0) fun c2 => vfin true q [c0, c1, c2] h)
theorem e122_2 (O : Oracle) (R : Jump) (q : Nat) (x0 x2 : TVal) (h : Heap) : b122_2 O R q x0 x2 h = stepF c122 O R q 2 [x0, x2] h := by kernel_rfl
def d122 : BlkF := fun O R Q => [.s fun a => .z (b122_0 O R Q a), .s fun a => .s fun b => .s fun c => .s fun d => .s fun e => .z (b122_1 O R Q a b c d e), .s fun a => .s fun b => .z (b122_2 O R Q a b)]
theorem o122 (O : Oracle) (R : Jump) (q : Nat) : HoldsAll c122 O R q 0 (d122 O R q) := ⟨e122_0 O R q, e122_1 O R q, e122_2 O R q, trivial⟩
def c126 : MFunc := mkM (compF Tryd.prog (globs2 tabs opq) (fun _ => false) true Tryd.f126) .n
def b126_0 (O : Oracle) (R : Jump) (q : Nat) (x0 x1 : TVal) (h : Heap) : Res1 :=
 vcall O (.v (.c (.func 152 []))) [x0, x1] h 7 fun x7 h =>
 tcomp x7 fun c0 => vfin true q [c0] h
theorem e126_0 (O : Oracle) (R : Jump) (q : Nat) (x0 x1 : TVal) (h : Heap) : b126_0 O R q x0 x1 h = stepF c126 O R q 0 [x0, x1] h := by kernel_rfl
def d126 : BlkF := fun O R Q => [.s fun a => .s fun b => .z (b126_0 O R Q a b)]
theorem o126 (O : Oracle) (R : Jump) (q : Nat) : HoldsAll c126 O R q 0 (d126 O R q) := ⟨e126_0 O R q, trivial⟩
def c128 : MFunc := mkM (compF Tryd.prog (globs2 tabs opq) (fun _ => false) true Tryd.f128) .n
def b128_0 (O : Oracle) (R : Jump) (q : Nat) (x0 : TVal) (h : Heap) : Res1 :=
 vbin .add 0 x0 (kI 16) h fun x4 h =>
 vbin .quo 0 x4 (kI 8) h fun x5 h =>
 tcomp x5 fun c0 => vfin true q [c0] h
theorem e128_0 (O : Oracle) (R : Jump) (q : Nat) (x0 : TVal) (h : Heap) : b128_0 O R q x0 h = stepF c128 O R q 0 [x0] h := by kernel_rfl
def d128 : BlkF := fun O R Q => [.s fun a => .z (b128_0 O R Q a)]
theorem o128 (O : Oracle) (R : Jump) (q : Nat) : HoldsAll c128 O R q 0 (d128 O R q) := ⟨e128_0 O R q, trivial⟩
def c129 : MFunc := mkM (compF Tryd.prog (globs2 tabs opq) (fun _ => false) true Tryd.f129) (.s .n (.s .n (.s .n (.s .n (.s (.s .n (.k (.l 1 [0, 1, 5, 6, 7, 8, 9] .n))) (.m 2 [0, 1, 5, 6, 7, 8] (.s .n (.s (.s .n (.k (.l 3 [0, 1, 5, 6, 7, 8, 10] .n))) .n))))))))
def b129_0 (O : Oracle) (R : Jump) (q : Nat) (x0 x1 : TVal) (h : Heap) : Res1 :=
 vcall O (.v (.c (.func 153 []))) [x1] h 13 fun x13 h =>
 vext x13 0 h fun x14 h =>
 vext x13 1 h fun x15 h =>
 vlen O 0 x1 h 17 fun x17 h =>
 R 1 [x0, x1, x14, x15, x17, (.v (.c (.p (.int .u32 0)))), (kI 0)] h
theorem e129_0 (O : Oracle) (R : Jump) (q : Nat) (x0 x1 : TVal) (h : Heap) : b129_0 O R q x0 x1 h = stepF c129 O R q 0 [x0, x1] h := by kernel_rfl
def b129_1 (O : Oracle) (R : Jump) (q : Nat) (x0 x1 x5 x6 x7 x8 x9 : TVal) (h : Heap) : Res1 :=
 vbin .lss 0 x9 x7 h fun x20 h =>
 vif x20 (
 vbin .mul 0 x8 (.v (.c (.p (.int .u32 16777619)))) h fun x24 h =>
 vindex x0 x9 h fun x27 h =>
 vtoInt .u32 x27 h fun x28 h =>
 vbin .add 0 x24 x28 h fun x29 h =>
 vbin .add 0 x9 (kI 1) h fun x22 h =>
 R 1 [x0, x1, x5, x6, x7, x29, x22] h)
 (R 2 [x0, x1, x5, x6, x7, x8] h)
theorem e129_1 (O : Oracle) (R : Jump) (q : Nat) (x0 x1 x5 x6 x7 x8 x9 : TVal) (h : Heap) : b129_1 O R q x0 x1 x5 x6 x7 x8 x9 h = stepF c129 O R q 1 [x0, x1, x5, x6, x7, x8, x9] h := by kernel_rfl
def b129_2 (O : Oracle) (R : Jump) (q : Nat) (x0 x1 x5 x6 x7 x8 : TVal) (h : Heap) : Res1 :=
 vbin .eql 0 x8 x5 h fun x32 h =>
 vguard x32 true (fun kk => kk x0 h) h fun x34 h =>
 vguard x32 true (fun kk => kk x7 h) h fun x35 h =>
 vguard x32 true (fun kk => vop O (.slice 0 true (.k x34) none (some (.k x35)) none) h 36 kk) h fun x36 h =>
 vguard x32 true (fun kk => kk x1 h) h fun x37 h =>
 vguard x32 true (fun kk => vbin .eql 0 x36 x37 h kk) h fun x38 h =>
 vop O (.pick (.k x32) (.k x38) (.k (kB false))) h 39 fun x39 h =>
 vif x39 (
 tcomp (kI 0) fun c0 => vfin true q [c0] h)
 (R 3 [x0, x1, x5, x6, x7, x8, x7] h)
theorem e129_2 (O : Oracle) (R : Jump) (q : Nat) (x0 x1 x5 x6 x7 x8 : TVal) (h : Heap) : b129_2 O R q x0 x1 x5 x6 x7 x8 h = stepF c129 O R q 2 [x0, x1, x5, x6, x7, x8] h := by kernel_rfl
def b129_3 (O : Oracle) (R : Jump) (q : Nat) (x0 x1 x5 x6 x7 x8 x10 : TVal) (h : Heap) : Res1 :=
 vlen O 0 x0 h 43 fun x43 h =>
 vbin .lss 0 x10 x43 h fun x44 h =>
 vif x44 (
 vbin .mul 0 x8 (.v (.c (.p (.int .u32 16777619)))) h fun x46 h =>
 vindex x0 x10 h fun x50 h =>
 vtoInt .u32 x50 h fun x51 h =>
 vbin .add 0 x46 x51 h fun x52 h =>
 vbin .sub 0 x10 x7 h fun x58 h =>
 vindex x0 x58 h fun x59 h =>
 vtoInt .u32 x59 h fun x60 h =>
 vbin .mul 0 x6 x60 h fun x61 h =>
 vbin .sub 0 x52 x61 h fun x62 h =>
 vbin .add 0 x10 (kI 1) h fun x64 h =>
 vbin .eql 0 x62 x5 h fun x67 h =>
 vguard x67 true (fun kk => kk x0 h) h fun x69 h =>
 vguard x67 true (fun kk => kk x64 h) h fun x70 h =>
 vguard x67 true (fun kk => kk x7 h) h fun x71 h =>
 vguard x67 true (fun kk => vbin .sub 0 x70 x71 h kk) h fun x72 h =>
 vguard x67 true (fun kk => kk x64 h) h fun x73 h =>
 vguard x67 true (fun kk => vop O (.slice 0 true (.k x69) (some (.k x72)) (some (.k x73)) none) h 74 kk) h fun x74 h =>
 vguard x67 true (fun kk => kk x1 h) h fun x75 h =>
 vguard x67 true (fun kk => vbin .eql 0 x74 x75 h kk) h fun x76 h =>
 vop O (.pick (.k x67) (.k x76) (.k (kB false))) h 77 fun x77 h =>
 vif x77 (
 vbin .sub 0 x64 x7 h fun x80 h =>
 tcomp x80 fun c0 => vfin true q [c0] h)
 (R 3 [x0, x1, x5, x6, x7, x62, x64] h))
 (tcomp (kI (-1)) fun c0 => vfin true q [c0] h)
theorem e129_3 (O : Oracle) (R : Jump) (q : Nat) (x0 x1 x5 x6 x7 x8 x10 : TVal) (h : Heap) : b129_3 O R q x0 x1 x5 x6 x7 x8 x10 h = stepF c129 O R q 3 [x0, x1, x5, x6, x7, x8, x10] h := by kernel_rfl
def d129 : BlkF := fun O R Q => [.s fun a => .s fun b => .z (b129_0 O R Q a b), .s fun a => .s fun b => .s fun c => .s fun d => .s fun e => .s fun f => .s fun g => .z (b129_1 O R Q a b c d e f g), .s fun a => .s fun b => .s fun c => .s fun d => .s fun e => .s fun f => .z (b129_2 O R Q a b c d e f), .s fun a => .s fun b => .s fun c => .s fun d => .s fun e => .s fun f => .s fun g => .z (b129_3 O R Q a b c d e f g)]
theorem o129 (O : Oracle) (R : Jump) (q : Nat) : HoldsAll c129 O R q 0 (d129 O R q) := ⟨e129_0 O R q, e129_1 O R q, e129_2 O R q, e129_3 O R q, trivial⟩
def c130 : MFunc := mkM (compF Tryd.prog (globs2 tabs opq) (fun _ => false) true Tryd.f130) .n
def b130_0 (O : Oracle) (R : Jump) (q : Nat) (x0 x1 : TVal) (h : Heap) : Res1 :=
 vlen O 0 x0 h 6 fun x6 h =>
 vlen O 0 x1 h 8 fun x8 h =>
 vbin .geq 0 x6 x8 h fun x9 h =>
 vguard x9 true (fun kk => kk x0 h) h fun x11 h =>
 vguard x9 true (fun kk => kk x1 h) h fun x12 h =>
 vguard x9 true (fun kk => vlen O 0 x12 h 13 kk) h fun x13 h =>
 vguard x9 true (fun kk => vop O (.slice 0 true (.k x11) none (some (.k x13)) none) h 14 kk) h fun x14 h =>
 vguard x9 true (fun kk => kk x1 h) h fun x15 h =>
 vguard x9 true (fun kk => vbin .eql 0 x14 x15 h kk) h fun x16 h =>
 vop O (.pick (.k x9) (.k x16) (.k (kB false))) h 17 fun x17 h =>
 tcomp x17 fun c0 => vfin true q [c0] h
theorem e130_0 (O : Oracle) (R : Jump) (q : Nat) (x0 x1 : TVal) (h : Heap) : b130_0 O R q x0 x1 h = stepF c130 O R q 0 [x0, x1] h := by kernel_rfl
def d130 : BlkF := fun O R Q => [.s fun a => .s fun b => .z (b130_0 O R Q a b)]
theorem o130 (O : Oracle) (R : Jump) (q : Nat) : HoldsAll c130 O R q 0 (d130 O R q) := ⟨e130_0 O R q, trivial⟩
def c131 : MFunc := mkM (compF Tryd.prog (globs2 tabs opq) (fun _ => false) true Tryd.f131) (.s .n (.s .n (.s .n (.s .n (.s .n (.s (.k (.l 1 [0, 2, 4] .n)) (.m 2 [2, 4] .n)))))))
def b131_0 (O : Oracle) (R : Jump) (q : Nat) (x0 : TVal) (h : Heap) : Res1 :=
 vop O (.alloc [(.p .nilslice)] false) h 2 fun x2 h =>
 vcall O (.v (.c (.func 101 []))) [x0, (kI 0)] h 6 fun x6 h =>
 vop O (.alloc [(.p (.int .i64 0)), (.p (.str [])), (.p (.int .i64 0)), (.p (.int .i64 0))] false) h 3 fun x3 h =>
 vstore 4 x3 x6 h fun _ h =>
 vtouch O (.faddr 0 (.k x3)) h 7 fun x7 h t0 =>
 vtouch O (.load false 1 (.k x7)) h 8 fun x8 h t1 =>
 vtouch O (.bin .neq 0 (.k x8) (.k (kI 1))) h 9 fun x9 h t2 =>
 vtouch O (.mv (.k x9)) h 10 fun x10 h t3 =>
 vguardT x10 false (fun kk => vtouch O (.call (.k (.v (.c (.func 154 [])))) []) h 11 kk) h fun x11 h t4 =>
 vguardT x10 false (fun kk => vtouch O (.faddr 1 (.k x3)) h 12 kk) h fun x12 h t5 =>
 vguardT x10 false (fun kk => vtouch O (.load false 1 (.k x12)) h 13 kk) h fun x13 h t6 =>
 vguardT x10 false (fun kk => vtouch O (.call (.k (.v (.c (.func 106 [])))) [(.k x11), (.k x13)]) h 14 kk) h fun x14 h t7 =>
 vtouch O (.pick (.k x10) (.k (kB true)) (.k x14)) h 15 fun x15 h t8 =>
 bif apartAll [t0, t1, t2, t3, t4, t5, t6, t7, t8] [(4, 6)] then
 vif x15 (
 vcall O (.v (.c (.func 155 []))) [x0] h 17 fun x17 h =>
 vop O (.bslice 7 1 [(.p (.int .i64 0)), (.p (.str [])), (.p .nilslice), (.p (.str [])), (.p (.int .i64 0)), (.p (.bool false)), (.p .nilslice)] [(0, (.k x17))] false) h 18 fun x18 h =>
 vop O (.build [(.p .nilslice)] [(0, 1, (.k x18))]) h 19 fun x19 h =>
 vstore 1 x2 x19 h fun _ h =>
 vcell true 1 x2 h fun c0 => vfin true q [c0] h)
 (vop O (.nilck (.k x0)) h 21 fun x21 h =>
 vfaddr 1 x21 h fun x22 h =>
 vload false 1 x22 h fun x23 h =>
 vbin .add 0 x23 (kI 1) h fun x24 h =>
 vop O (.nilck (.k x0)) h 25 fun x25 h =>
 vfaddr 1 x25 h fun x26 h =>
 vstore 1 x26 x24 h fun _ h =>
 vfaddr 1 x3 h fun x27 h =>
 vload false 1 x27 h fun x28 h =>
 vop O (.build [(.p (.int .i64 0)), (.p (.str [])), (.p .nilslice), (.p (.str [])), (.p (.int .i64 0)), (.p (.bool false)), (.p .nilslice)] [(0, 1, (.k (kI 6))), (3, 1, (.k x28))]) h 29 fun x29 h =>
 vop O (.bslice 7 1 [(.p (.int .i64 0)), (.p (.str [])), (.p .nilslice), (.p (.str [])), (.p (.int .i64 0)), (.p (.bool false)), (.p .nilslice)] [(0, (.k x29))] false) h 30 fun x30 h =>
 vop O (.build [(.p .nilslice)] [(0, 1, (.k x30))]) h 31 fun x31 h =>
 vop O (.alloc [(.p .nilslice)] false) h 4 fun x4 h =>
 vstore 1 x4 x31 h fun _ h =>
 R 1 [x0, x2, x4] h)
 else none
theorem e131_0 (O : Oracle) (R : Jump) (q : Nat) (x0 : TVal) (h : Heap) : b131_0 O R q x0 h = stepF c131 O R q 0 [x0] h := by kernel_rfl
def b131_1 (O : Oracle) (R : Jump) (q : Nat) (x0 x2 x4 : TVal) (h : Heap) : Res1 :=
 vcall O (.v (.c (.func 156 []))) [x0] h 33 fun x33 h =>
 vif x33 (
 vfaddr 0 x4 h fun x34 h =>
 vload false 1 x34 h fun x35 h =>
 vlen O 2 x35 h 36 fun x36 h =>
 vbin .gtr 0 x36 (kI 4) h fun x37 h =>
 vif x37 (
 vcall O (.v (.c (.func 157 []))) [x0, (kI 18)] h 39 fun x39 h =>
 R 2 [x2, x4] h)
 (vtouch O (.faddr 0 (.k x4)) h 40 fun x40 h t0 =>
 vtouch O (.load false 1 (.k x40)) h 41 fun x41 h t1 =>
 vtouch O (.mv (.k x0)) h 42 fun x42 h t2 =>
 vtouch O (.call (.k (.v (.c (.func 155 [])))) [(.k x42)]) h 43 fun x43 h t3 =>
 vtouch O (.bslice 7 1 [(.p (.int .i64 0)), (.p (.str [])), (.p .nilslice), (.p (.str [])), (.p (.int .i64 0)), (.p (.bool false)), (.p .nilslice)] [(0, (.k x43))] false) h 44 fun x44 h t4 =>
 vtouch O (.append 7 104 false (.k x41) (.k x44)) h 45 fun x45 h t5 =>
 vtouch O (.faddr 0 (.k x4)) h 46 fun x46 h t6 =>
 vtouch O (.store 1 (.k x46) (.k x45)) h 1000000 fun _ h t7 =>
 bif apartAll [t0, t1, t2, t3, t4, t5, t6, t7] [(1, 3), (1, 4)] then
 R 1 [x0, x2, x4] h
 else none))
 (R 2 [x2, x4] h)
theorem e131_1 (O : Oracle) (R : Jump) (q : Nat) (x0 x2 x4 : TVal) (h : Heap) : b131_1 O R q x0 x2 x4 h = stepF c131 O R q 1 [x0, x2, x4] h := by kernel_rfl
def b131_2 (O : Oracle) (R : Jump) (q : Nat) (x2 x4 : TVal) (h : Heap) : Res1 :=
 vload true 1 x4 h fun x47 h =>
 vstore 1 x2 x47 h fun _ h =>
 vcell true 1 x2 h fun c0 => vfin true q [c0] h
theorem e131_2 (O : Oracle) (R : Jump) (q : Nat) (x2 x4 : TVal) (h : Heap) : b131_2 O R q x2 x4 h = stepF c131 O R q 2 [x2, x4] h := by kernel_rfl
def d131 : BlkF := fun O R Q => [.s fun a => .z (b131_0 O R Q a), .s fun a => .s fun b => .s fun c => .z (b131_1 O R Q a b c), .s fun a => .s fun b => .z (b131_2 O R Q a b)]
theorem o131 (O : Oracle) (R : Jump) (q : Nat) : HoldsAll c131 O R q 0 (d131 O R q) := ⟨e131_0 O R q, e131_1 O R q, e131_2 O R q, trivial⟩
def c132 : MFunc := mkM (compF Tryd.prog (globs2 tabs opq) (fun _ => false) true Tryd.f132) .n
def b132_0 (O : Oracle) (R : Jump) (q : Nat) (x0 x1 : TVal) (h : Heap) : Res1 :=
 vcall O (.v (.c (.func 101 []))) [x0, (kI 0)] h 6 fun x6 h =>
 vcall O (.v (.c (.func 102 []))) [x6, x1] h 8 fun x8 h =>
 vop O (.un .not (.k x8)) h 9 fun x9 h =>
 vif x9 (
 tcomp (kB false) fun c0 => vfin true q [c0] h)
 (vop O (.nilck (.k x0)) h 11 fun x11 h =>
 vfaddr 1 x11 h fun x12 h =>
 vload false 1 x12 h fun x13 h =>
 vbin .add 0 x13 (kI 1) h fun x14 h =>
 vop O (.nilck (.k x0)) h 15 fun x15 h =>
 vfaddr 1 x15 h fun x16 h =>
 vstore 1 x16 x14 h fun _ h =>
 tcomp (kB true) fun c0 => vfin true q [c0] h)
theorem e132_0 (O : Oracle) (R : Jump) (q : Nat) (x0 x1 : TVal) (h : Heap) : b132_0 O R q x0 x1 h = stepF c132 O R q 0 [x0, x1] h := by kernel_rfl
def d132 : BlkF := fun O R Q => [.s fun a => .s fun b => .z (b132_0 O R Q a b)]
theorem o132 (O : Oracle) (R : Jump) (q : Nat) : HoldsAll c132 O R q 0 (d132 O R q) := ⟨e132_0 O R q, trivial⟩
def c133 : MFunc := mkM (compF Tryd.prog (globs2 tabs opq) (fun _ => false) true Tryd.f133) .n
def b133_0 (O : Oracle) (R : Jump) (q : Nat) (x0 : TVal) (h : Heap) : Res1 :=
 vcall O (.v (.c (.func 101 []))) [x0, (kI 0)] h 5 fun x5 h =>
 vop O (.alloc [(.p (.int .i64 0)), (.p (.str [])), (.p (.int .i64 0)), (.p (.int .i64 0))] false) h 3 fun x3 h =>
 vstore 4 x3 x5 h fun _ h =>
 vfaddr 0 x3 h fun x7 h =>
 vload false 1 x7 h fun x8 h =>
 vbin .eql 0 x8 (kI 1) h fun x9 h =>
 vcall O (.v (.c (.func 135 []))) [x0, x9] h 10 fun x10 h =>
 vop O (.nilck (.k x0)) h 12 fun x12 h =>
 vfaddr 1 x12 h fun x13 h =>
 vload false 1 x13 h fun x14 h =>
 vbin .add 0 x14 (kI 1) h fun x15 h =>
 vop O (.nilck (.k x0)) h 16 fun x16 h =>
 vfaddr 1 x16 h fun x17 h =>
 vstore 1 x17 x15 h fun _ h =>
 vfaddr 1 x3 h fun x18 h =>
 vload false 1 x18 h fun x19 h =>
 tcomp x19 fun c0 => vfin true q [c0] h
theorem e133_0 (O : Oracle) (R : Jump) (q : Nat) (x0 : TVal) (h : Heap) : b133_0 O R q x0 h = stepF c133 O R q 0 [x0] h := by kernel_rfl
def d133 : BlkF := fun O R Q => [.s fun a => .z (b133_0 O R Q a)]
theorem o133 (O : Oracle) (R : Jump) (q : Nat) : HoldsAll c133 O R q 0 (d133 O R q) := ⟨e133_0 O R q, trivial⟩
def c134 : MFunc := mkM (compF Tryd.prog (globs2 tabs opq) (fun _ => false) true Tryd.f134) .n
def b134_0 (O : Oracle) (R : Jump) (q : Nat) (x0 : TVal) (h : Heap) : Res1 :=
 vcall O (.v (.c (.func 101 []))) [x0, (kI 0)] h 5 fun x5 h =>
 vop O (.alloc [(.p (.int .i64 0)), (.p (.str [])), (.p (.int .i64 0)), (.p (.int .i64 0))] false) h 3 fun x3 h =>
 vstore 4 x3 x5 h fun _ h =>
 vfaddr 0 x3 h fun x7 h =>
 vload false 1 x7 h fun x8 h =>
 vbin .eql 0 x8 (kI 2) h fun x9 h =>
 vcall O (.v (.c (.func 135 []))) [x0, x9] h 10 fun x10 h =>
 vop O (.nilck (.k x0)) h 12 fun x12 h =>
 vfaddr 1 x12 h fun x13 h =>
 vload false 1 x13 h fun x14 h =>
 vbin .add 0 x14 (kI 1) h fun x15 h =>
 vop O (.nilck (.k x0)) h 16 fun x16 h =>
 vfaddr 1 x16 h fun x17 h =>
 vstore 1 x17 x15 h fun _ h =>
 vfaddr 1 x3 h fun x18 h =>
 vload false 1 x18 h fun x19 h =>
 tcomp x19 fun c0 => vfin true q [c0] h
theorem e134_0 (O : Oracle) (R : Jump) (q : Nat) (x0 : TVal) (h : Heap) : b134_0 O R q x0 h = stepF c134 O R q 0 [x0] h := by kernel_rfl
def d134 : BlkF := fun O R Q => [.s fun a => .z (b134_0 O R Q a)]
theorem o134 (O : Oracle) (R : Jump) (q : Nat) : HoldsAll c134 O R q 0 (d134 O R q) := ⟨e134_0 O R q, trivial⟩
def c135 : MFunc := mkM (compF Tryd.prog (globs2 tabs opq) (fun _ => false) true Tryd.f135) .n
def b135_0 (O : Oracle) (R : Jump) (q : Nat) (x0 x1 : TVal) (h : Heap) : Res1 :=
 vop O (.un .not (.k x1)) h 5 fun x5 h =>
 vif x5 (
 vcall O (.v (.c (.func 157 []))) [x0, (kI 12)] h 7 fun x7 h =>
 vfin true q [] h)
 (vfin true q [] h)
theorem e135_0 (O : Oracle) (R : Jump) (q : Nat) (x0 x1 : TVal) (h : Heap) : b135_0 O R q x0 x1 h = stepF c135 O R q 0 [x0, x1] h := by kernel_rfl
def d135 : BlkF := fun O R Q => [.s fun a => .s fun b => .z (b135_0 O R Q a b)]
theorem o135 (O : Oracle) (R : Jump) (q : Nat) : HoldsAll c135 O R q 0 (d135 O R q) := ⟨e135_0 O R q, trivial⟩
def c136 : MFunc := mkM (compF Tryd.prog (globs2 tabs opq) (fun _ => false) true Tryd.f136) (.s .n (.s (.s .n (.k (.l 1 [0, 1, 7, 8] .n))) .n))
def b136_0 (O : Oracle) (R : Jump) (q : Nat) (x0 x1 : TVal) (h : Heap) : Res1 :=
 vlen O 2 x0 h 7 fun x7 h =>
 R 1 [x0, x1, x7, (kI 0)] h
theorem e136_0 (O : Oracle) (R : Jump) (q : Nat) (x0 x1 : TVal) (h : Heap) : b136_0 O R q x0 x1 h = stepF c136 O R q 0 [x0, x1] h := by kernel_rfl
def b136_1 (O : Oracle) (R : Jump) (q : Nat) (x0 x1 x7 x8 : TVal) (h : Heap) : Res1 :=
 vbin .lss 0 x8 x7 h fun x9 h =>
 vif x9 (
 viaddr 1 x0 x8 h fun x14 h =>
 vload false 1 x14 h fun x15 h =>
 vbin .eql 0 x1 x15 h fun x16 h =>
 vif x16 (
 tcomp x8 fun c0 => vfin true q [c0] h)
 (vbin .add 0 x8 (kI 1) h fun x18 h =>
 R 1 [x0, x1, x7, x18] h))
 (tcomp (kI (-1)) fun c0 => vfin true q [c0] h)
theorem e136_1 (O : Oracle) (R : Jump) (q : Nat) (x0 x1 x7 x8 : TVal) (h : Heap) : b136_1 O R q x0 x1 x7 x8 h = stepF c136 O R q 1 [x0, x1, x7, x8] h := by kernel_rfl
def d136 : BlkF := fun O R Q => [.s fun a => .s fun b => .z (b136_0 O R Q a b), .s fun a => .s fun b => .s fun c => .s fun d => .z (b136_1 O R Q a b c d)]
theorem o136 (O : Oracle) (R : Jump) (q : Nat) : HoldsAll c136 O R q 0 (d136 O R q) := ⟨e136_0 O R q, e136_1 O R q, trivial⟩
def c137 : MFunc := mkM (compF Tryd.prog (globs2 tabs opq) (fun _ => false) true Tryd.f137) (.s .n (.s (.s .n (.k (.l 1 [0, 1, 7] .n))) (.m 2 [0] .n)))
def b137_0 (O : Oracle) (R : Jump) (q : Nat) (x0 x1 : TVal) (h : Heap) : Res1 :=
 vop O (.rangeS (.k x0)) h 7 fun x7 h =>
 R 1 [x0, x1, x7] h
theorem e137_0 (O : Oracle) (R : Jump) (q : Nat) (x0 x1 : TVal) (h : Heap) : b137_0 O R q x0 x1 h = stepF c137 O R q 0 [x0, x1] h := by kernel_rfl
def b137_1 (O : Oracle) (R : Jump) (q : Nat) (x0 x1 x7 : TVal) (h : Heap) : Res1 :=
 vop O (.nextS (.k x7)) h 8 fun x8 h =>
 vext x8 0 h fun x9 h =>
 vif x9 (
 vext x8 1 h fun x10 h =>
 vindex x0 x10 h fun x14 h =>
 vcall O x1 [x14] h 15 fun x15 h =>
 vop O (.un .not (.k x15)) h 16 fun x16 h =>
 vif x16 (
 tcomp x10 fun c0 => vfin true q [c0] h)
 (R 1 [x0, x1, x7] h))
 (R 2 [x0] h)
theorem e137_1 (O : Oracle) (R : Jump) (q : Nat) (x0 x1 x7 : TVal) (h : Heap) : b137_1 O R q x0 x1 x7 h = stepF c137 O R q 1 [x0, x1, x7] h := by kernel_rfl
def b137_2 (O : Oracle) (R : Jump) (q : Nat) (x0 : TVal) (h : Heap) : Res1 :=
 vlen O 0 x0 h 19 fun x19 h =>
 tcomp x19 fun c0 => vfin true q [c0] h
theorem e137_2 (O : Oracle) (R : Jump) (q : Nat) (x0 : TVal) (h : Heap) : b137_2 O R q x0 h = stepF c137 O R q 2 [x0] h := by kernel_rfl
def d137 : BlkF := fun O R Q => [.s fun a => .s fun b => .z (b137_0 O R Q a b), .s fun a => .s fun b => .s fun c => .z (b137_1 O R Q a b c), .s fun a => .z (b137_2 O R Q a)]
theorem o137 (O : Oracle) (R : Jump) (q : Nat) : HoldsAll c137 O R q 0 (d137 O R q) := ⟨e137_0 O R q, e137_1 O R q, e137_2 O R q, trivial⟩
def c138 : MFunc := mkM (compF Tryd.prog (globs2 tabs opq) (fun _ => false) true Tryd.f138) .n
def b138_0 (O : Oracle) (R : Jump) (q : Nat) (x0 : TVal) (h : Heap) : Res1 :=
 vcall O (.v (.c (.func 118 []))) [x0] h 4 fun x4 h =>
 vguard x4 false (fun kk => kk x0 h) h fun x6 h =>
 vguard x4 false (fun kk => vcall O (.v (.c (.func 107 []))) [x6] h 7 kk) h fun x7 h =>
 vop O (.pick (.k x4) (.k (kB true)) (.k x7)) h 8 fun x8 h =>
 tcomp x8 fun c0 => vfin true q [c0] h
theorem e138_0 (O : Oracle) (R : Jump) (q : Nat) (x0 : TVal) (h : Heap) : b138_0 O R q x0 h = stepF c138 O R q 0 [x0] h := by kernel_rfl
def d138 : BlkF := fun O R Q => [.s fun a => .z (b138_0 O R Q a)]
theorem o138 (O : Oracle) (R : Jump) (q : Nat) : HoldsAll c138 O R q 0 (d138 O R q) := ⟨e138_0 O R q, trivial⟩
def c139 : MFunc := mkM (compF Tryd.prog (globs2 tabs opq) (fun _ => false) true Tryd.f139) .n
def b139_0 (O : Oracle) (R : Jump) (q : Nat) (x0 x1 : TVal) (h : Heap) : Res1 :=
 vop O (.nilck (.k x0)) h 7 fun x7 h =>
 vop O (.iaddrA 256 1 (.k x7) (.k x1)) h 8 fun x8 h =>
 vload false 1 x8 h fun x9 h =>
 tcomp x9 fun c0 => vfin true q [c0] h
theorem e139_0 (O : Oracle) (R : Jump) (q : Nat) (x0 x1 : TVal) (h : Heap) : b139_0 O R q x0 x1 h = stepF c139 O R q 0 [x0, x1] h := by kernel_rfl
def d139 : BlkF := fun O R Q => [.s fun a => .s fun b => .z (b139_0 O R Q a b)]
theorem o139 (O : Oracle) (R : Jump) (q : Nat) : HoldsAll c139 O R q 0 (d139 O R q) := ⟨e139_0 O R q, trivial⟩
def c140 : MFunc := mkM (compF Tryd.prog (globs2 tabs opq) (fun _ => false) true Tryd.f140) .n
def b140_0 (O : Oracle) (R : Jump) (q : Nat) (x0 : TVal) (h : Heap) : Res1 :=
 vbin .neq 0 x0 (kS []) h fun x5 h =>
 vguard x5 true (fun kk => kk x0 h) h fun x7 h =>
 vguard x5 true (fun kk => vindex x7 (kI 0) h kk) h fun x8 h =>
 vguard x5 true (fun kk => vbin .lss 0 x8 (.v (.c (.p (.int .u8 128)))) h kk) h fun x9 h =>
 vop O (.pick (.k x5) (.k x9) (.k (kB false))) h 10 fun x10 h =>
 vif x10 (
 vindex x0 (kI 0) h fun x12 h =>
 vtoInt .i32 x12 h fun x13 h =>
 tcomp x13 fun c0 => tcomp (kI 1) fun c1 => vfin true q [c0, c1] h)
 (vcall O (.v (.c (.func 158 []))) [x0] h 16 fun x16 h =>
 vext x16 0 h fun x17 h =>
 vext x16 1 h fun x18 h =>
 tcomp x17 fun c0 => tcomp x18 fun c1 => vfin true q [c0, c1] h)
theorem e140_0 (O : Oracle) (R : Jump) (q : Nat) (x0 : TVal) (h : Heap) : b140_0 O R q x0 h = stepF c140 O R q 0 [x0] h := by kernel_rfl
def d140 : BlkF := fun O R Q => [.s fun a => .z (b140_0 O R Q a)]
theorem o140 (O : Oracle) (R : Jump) (q : Nat) : HoldsAll c140 O R q 0 (d140 O R q) := ⟨e140_0 O R q, trivial⟩
def c141 : MFunc := mkM (compF Tryd.prog (globs2 tabs opq) (fun _ => false) true Tryd.f141) .n
def b141_0 (O : Oracle) (R : Jump) (q : Nat) (x0 x1 : TVal) (h : Heap) : Res1 :=
 vcall O (.v (.c (.func 159 []))) [x0, x1] h 7 fun x7 h =>
 vbin .geq 0 x7 (kI 0) h fun x8 h =>
 tcomp x8 fun c0 => vfin true q [c0] h
theorem e141_0 (O : Oracle) (R : Jump) (q : Nat) (x0 x1 : TVal) (h : Heap) : b141_0 O R q x0 x1 h = stepF c141 O R q 0 [x0, x1] h := by kernel_rfl
def d141 : BlkF := fun O R Q => [.s fun a => .s fun b => .z (b141_0 O R Q a b)]
theorem o141 (O : Oracle) (R : Jump) (q : Nat) : HoldsAll c141 O R q 0 (d141 O R q) := ⟨e141_0 O R q, trivial⟩
def c142 : MFunc := mkM (compF Tryd.prog (globs2 tabs opq) (fun _ => false) true Tryd.f142) (.s .n (.s .n (.s .n (.s .n (.s .n (.s .n (.s .n (.s (.s .n (.k (.l 1 [0, 4, 5, 6] .n))) (.m 2 [0, 4, 5] (.s .n (.m 3 [0, 4, 5] .n)))))))))))
def b142_0 (O : Oracle) (R : Jump) (q : Nat) (x0 : TVal) (h : Heap) : Res1 :=
 vlen O 0 x0 h 8 fun x8 h =>
 vbin .eql 0 x8 (kI 0) h fun x10 h =>
 vif x10 (
 tcomp (.v (.c (.p (.int .i32 65533)))) fun c0 => tcomp (kI 0) fun c1 => vfin true q [c0, c1] h)
 (vbin .sub 0 x8 (kI 1) h fun x12 h =>
 vindex x0 x12 h fun x15 h =>
 vtoInt .i32 x15 h fun x16 h =>
 vbin .lss 0 x16 (.v (.c (.p (.int .i32 128)))) h fun x18 h =>
 vif x18 (
 tcomp x16 fun c0 => tcomp (kI 1) fun c1 => vfin true q [c0, c1] h)
 (vbin .sub 0 x8 (kI 4) h fun x21 h =>
 vop O (.minmax true [(.k x21), (.k (kI 0))]) h 22 fun x22 h =>
 vbin .sub 0 x12 (kI 1) h fun x24 h =>
 R 1 [x0, x8, x24, x22] h))
theorem e142_0 (O : Oracle) (R : Jump) (q : Nat) (x0 : TVal) (h : Heap) : b142_0 O R q x0 h = stepF c142 O R q 0 [x0] h := by kernel_rfl
def b142_1 (O : Oracle) (R : Jump) (q : Nat) (x0 x4 x5 x6 : TVal) (h : Heap) : Res1 :=
 vbin .geq 0 x5 x6 h fun x27 h =>
 vif x27 (
 vindex x0 x5 h fun x32 h =>
 vcall O (.v (.c (.func 160 []))) [x32] h 33 fun x33 h =>
 vif x33 (
 R 2 [x0, x4, x5] h)
 (vbin .sub 0 x5 (kI 1) h fun x29 h =>
 R 1 [x0, x4, x29, x6] h))
 (R 2 [x0, x4, x5] h)
theorem e142_1 (O : Oracle) (R : Jump) (q : Nat) (x0 x4 x5 x6 : TVal) (h : Heap) : b142_1 O R q x0 x4 x5 x6 h = stepF c142 O R q 1 [x0, x4, x5, x6] h := by kernel_rfl
def b142_2 (O : Oracle) (R : Jump) (q : Nat) (x0 x4 x5 : TVal) (h : Heap) : Res1 :=
 vbin .lss 0 x5 (kI 0) h fun x35 h =>
 vif x35 (
 R 3 [x0, x4, (kI 0)] h)
 (R 3 [x0, x4, x5] h)
theorem e142_2 (O : Oracle) (R : Jump) (q : Nat) (x0 x4 x5 : TVal) (h : Heap) : b142_2 O R q x0 x4 x5 h = stepF c142 O R q 2 [x0, x4, x5] h := by kernel_rfl
def b142_3 (O : Oracle) (R : Jump) (q : Nat) (x0 x4 x5 : TVal) (h : Heap) : Res1 :=
 vop O (.slice 0 true (.k x0) (some (.k x5)) (some (.k x4)) none) h 40 fun x40 h =>
 vcall O (.v (.c (.func 140 []))) [x40] h 41 fun x41 h =>
 vext x41 0 h fun x42 h =>
 vext x41 1 h fun x43 h =>
 vbin .add 0 x5 x43 h fun x46 h =>
 vbin .neq 0 x46 x4 h fun x48 h =>
 vif x48 (
 tcomp (.v (.c (.p (.int .i32 65533)))) fun c0 => tcomp (kI 1) fun c1 => vfin true q [c0, c1] h)
 (tcomp x42 fun c0 => tcomp x43 fun c1 => vfin true q [c0, c1] h)
theorem e142_3 (O : Oracle) (R : Jump) (q : Nat) (x0 x4 x5 : TVal) (h : Heap) : b142_3 O R q x0 x4 x5 h = stepF c142 O R q 3 [x0, x4, x5] h := by kernel_rfl
def d142 : BlkF := fun O R Q => [.s fun a => .z (b142_0 O R Q a), .s fun a => .s fun b => .s fun c => .s fun d => .z (b142_1 O R Q a b c d), .s fun a => .s fun b => .s fun c => .z (b142_2 O R Q a b c), .s fun a => .s fun b => .s fun c => .z (b142_3 O R Q a b c)]
theorem o142 (O : Oracle) (R : Jump) (q : Nat) : HoldsAll c142 O R q 0 (d142 O R q) := ⟨e142_0 O R q, e142_1 O R q, e142_2 O R q, e142_3 O R q, trivial⟩
def c145 : MFunc := mkM (compF Tryd.prog (globs2 tabs opq) (fun _ => false) true Tryd.f145) .n
def b145_0 (O : Oracle) (R : Jump) (q : Nat) (x0 x1 : TVal) (h : Heap) : Res1 :=
 vcall O (.v (.c (.func 161 []))) [x0, x1] h 7 fun x7 h =>
 tcomp x7 fun c0 => vfin true q [c0] h
theorem e145_0 (O : Oracle) (R : Jump) (q : Nat) (x0 x1 : TVal) (h : Heap) : b145_0 O R q x0 x1 h = stepF c145 O R q 0 [x0, x1] h := by kernel_rfl
def d145 : BlkF := fun O R Q => [.s fun a => .s fun b => .z (b145_0 O R Q a b)]
theorem o145 (O : Oracle) (R : Jump) (q : Nat) : HoldsAll c145 O R q 0 (d145 O R q) := ⟨e145_0 O R q, trivial⟩
def c146 : MFunc := mkM (compF Tryd.prog (globs2 tabs opq) (fun _ => false) true Tryd.f146) .n
def b146_0 (O : Oracle) (R : Jump) (q : Nat) (x0 : TVal) (h : Heap) : Res1 :=
 vbin .eql 0 x0 (.v (.c (.p (.int .u8 110)))) h fun x6 h =>
 vif x6 (
 tcomp (.v (.c (.p (.int .u8 10)))) fun c0 => tcomp (kB true) fun c1 => vfin true q [c0, c1] h)
 (vbin .eql 0 x0 (.v (.c (.p (.int .u8 116)))) h fun x8 h =>
 vif x8 (
 tcomp (.v (.c (.p (.int .u8 9)))) fun c0 => tcomp (kB true) fun c1 => vfin true q [c0, c1] h)
 (vbin .eql 0 x0 (.v (.c (.p (.int .u8 34)))) h fun x10 h =>
 vif x10 (
 tcomp x0 fun c0 => tcomp (kB true) fun c1 => vfin true q [c0, c1] h)
 (vbin .eql 0 x0 (.v (.c (.p (.int .u8 92)))) h fun x12 h =>
 vif x12 (
 tcomp x0 fun c0 => tcomp (kB true) fun c1 => vfin true q [c0, c1] h)
 (tcomp (.v (.c (.p (.int .u8 0)))) fun c0 => tcomp (kB false) fun c1 => vfin true q [c0, c1] h))))
theorem e146_0 (O : Oracle) (R : Jump) (q : Nat) (x0 : TVal) (h : Heap) : b146_0 O R q x0 h = stepF c146 O R q 0 [x0] h := by kernel_rfl
def d146 : BlkF := fun O R Q => [.s fun a => .z (b146_0 O R Q a)]
theorem o146 (O : Oracle) (R : Jump) (q : Nat) : HoldsAll c146 O R q 0 (d146 O R q) := ⟨e146_0 O R q, trivial⟩
def c147 : MFunc := mkM (compF Tryd.prog (globs2 tabs opq) (fun _ => false) true Tryd.f147) (.s .n (.s .n (.s .n (.s .n (.s (.s .n (.k (.l 1 [0, 3, 4, 5, 6] .n))) (.m 2 [0, 3, 5] (.s .n (.s .n (.s .n (.s .n (.s .n (.s (.k (.l 3 [0, 9, 10, 12] .n)) (.m 4 [0, 9, 10, 12] (.s .n (.s (.k (.l 5 [0, 9, 10, 11, 12] (.s .n (.k (.s .n (.s .n (.s .n (.s .n (.s (.k (.l 6 [0, 9, 10, 12] .n)) .n))))))))) (.m 7 [0, 9, 10, 11] .n))))))))))))))))
def b147_0 (O : Oracle) (R : Jump) (q : Nat) (x0 : TVal) (h : Heap) : Res1 :=
 R 1 [x0, (kI 0), (kI 1), (.v (.c (.p (.int .u8 0)))), (kI 0)] h
theorem e147_0 (O : Oracle) (R : Jump) (q : Nat) (x0 : TVal) (h : Heap) : b147_0 O R q x0 h = stepF c147 O R q 0 [x0] h := by kernel_rfl
def b147_1 (O : Oracle) (R : Jump) (q : Nat) (x0 x3 x4 x5 x6 : TVal) (h : Heap) : Res1 :=
 vlen O 0 x0 h 15 fun x15 h =>
 vbin .lss 0 x6 x15 h fun x16 h =>
 vif x16 (
 vindex x0 x6 h fun x21 h =>
 vbin .or 0 x5 x21 h fun x24 h =>
 vop O (.iaddrA 256 1 (.k (.v (.c (.p (.pptr [(.int .u8 0), (.int .u8 0), (.int .u8 0), (.int .u8 0), (.int .u8 0), (.int .u8 0), (.int .u8 0), (.int .u8 0), (.int .u8 0), (.int .u8 1), (.int .u8 1), (.int .u8 1), (.int .u8 1), (.int .u8 1), (.int .u8 0), (.int .u8 0), (.int .u8 0), (.int .u8 0), (.int .u8 0), (.int .u8 0), (.int .u8 0), (.int .u8 0), (.int .u8 0), (.int .u8 0), (.int .u8 0), (.int .u8 0), (.int .u8 0), (.int .u8 0), (.int .u8 0), (.int .u8 0), (.int .u8 0), (.int .u8 0), (.int .u8 1), (.int .u8 0), (.int .u8 0), (.int .u8 0), (.int .u8 0), (.int .u8 0), (.int .u8 0), (.int .u8 0), (.int .u8 0), (.int .u8 0), (.int .u8 0), (.int .u8 0), (.int .u8 0), (.int .u8 0), (.int .u8 0), (.int .u8 0), (.int .u8 0), (.int .u8 0), (.int .u8 0), (.int .u8 0), (.int .u8 0), (.int .u8 0), (.int .u8 0), (.int .u8 0), (.int .u8 0), (.int .u8 0), (.int .u8 0), (.int .u8 0), (.int .u8 0), (.int .u8 0), (.int .u8 0), (.int .u8 0), (.int .u8 0), (.int .u8 0), (.int .u8 0), (.int .u8 0), (.int .u8 0), (.int .u8 0), (.int .u8 0), (.int .u8 0), (.int .u8 0), (.int .u8 0), (.int .u8 0), (.int .u8 0), (.int .u8 0), (.int .u8 0), (.int .u8 0), (.int .u8 0), (.int .u8 0), (.int .u8 0), (.int .u8 0), (.int .u8 0), (.int .u8 0), (.int .u8 0), (.int .u8 0), (.int .u8 0), (.int .u8 0), (.int .u8 0), (.int .u8 0), (.int .u8 0), (.int .u8 0), (.int .u8 0), (.int .u8 0), (.int .u8 0), (.int .u8 0), (.int .u8 0), (.int .u8 0), (.int .u8 0), (.int .u8 0), (.int .u8 0), (.int .u8 0), (.int .u8 0), (.int .u8 0), (.int .u8 0), (.int .u8 0), (.int .u8 0), (.int .u8 0), (.int .u8 0), (.int .u8 0), (.int .u8 0), (.int .u8 0), (.int .u8 0), (.int .u8 0), (.int .u8 0), (.int .u8 0), (.int .u8 0), (.int .u8 0), (.int .u8 0), (.int .u8 0), (.int .u8 0), (.int .u8 0), (.int .u8 0), (.int .u8 0), (.int .u8 0), (.int .u8 0), (.int .u8 0), (.int .u8 0), (.int .u8 0), (.int .u8 0), (.int .u8 0), (.int .u8 0), (.int .u8 0), (.int .u8 0), (.int .u8 0), (.int .u8 0), (.int .u8 0), (.int .u8 0), (.int .u8 0), (.int .u8 0), (.int .u8 0), (.int .u8 0), (.int .u8 0), (.int .u8 0), (.int .u8 0), (.int .u8 0), (.int .u8 0), (.int .u8 0), (.int .u8 0), (.int .u8 0), (.int .u8 0), (.int .u8 0), (.int .u8 0), (.int .u8 0), (.int .u8 0), (.int .u8 0), (.int .u8 0), (.int .u8 0), (.int .u8 0), (.int .u8 0), (.int .u8 0), (.int .u8 0), (.int .u8 0), (.int .u8 0), (.int .u8 0), (.int .u8 0), (.int .u8 0), (.int .u8 0), (.int .u8 0), (.int .u8 0), (.int .u8 0), (.int .u8 0), (.int .u8 0), (.int .u8 0), (.int .u8 0), (.int .u8 0), (.int .u8 0), (.int .u8 0), (.int .u8 0), (.int .u8 0), (.int .u8 0), (.int .u8 0), (.int .u8 0), (.int .u8 0), (.int .u8 0), (.int .u8 0), (.int .u8 0), (.int .u8 0), (.int .u8 0), (.int .u8 0), (.int .u8 0), (.int .u8 0), (.int .u8 0), (.int .u8 0), (.int .u8 0), (.int .u8 0), (.int .u8 0), (.int .u8 0), (.int .u8 0), (.int .u8 0), (.int .u8 0), (.int .u8 0), (.int .u8 0), (.int .u8 0), (.int .u8 0), (.int .u8 0), (.int .u8 0), (.int .u8 0), (.int .u8 0), (.int .u8 0), (.int .u8 0), (.int .u8 0), (.int .u8 0), (.int .u8 0), (.int .u8 0), (.int .u8 0), (.int .u8 0), (.int .u8 0), (.int .u8 0), (.int .u8 0), (.int .u8 0), (.int .u8 0), (.int .u8 0), (.int .u8 0), (.int .u8 0), (.int .u8 0), (.int .u8 0), (.int .u8 0), (.int .u8 0), (.int .u8 0), (.int .u8 0), (.int .u8 0), (.int .u8 0), (.int .u8 0), (.int .u8 0), (.int .u8 0), (.int .u8 0), (.int .u8 0), (.int .u8 0), (.int .u8 0), (.int .u8 0), (.int .u8 0), (.int .u8 0), (.int .u8 0), (.int .u8 0), (.int .u8 0), (.int .u8 0), (.int .u8 0), (.int .u8 0), (.int .u8 0), (.int .u8 0), (.int .u8 0), (.int .u8 0), (.int .u8 0), (.int .u8 0)] 0))))) (.k x21)) h 26 fun x26 h =>
 vload false 1 x26 h fun x27 h =>
 vtoInt .i64 x27 h fun x28 h =>
 vop O (.un .xor (.k x28)) h 32 fun x32 h =>
 vbin .and 0 x4 x32 h fun x33 h =>
 vbin .add 0 x3 x33 h fun x34 h =>
 vbin .add 0 x6 (kI 1) h fun x18 h =>
 R 1 [x0, x34, x28, x24, x18] h)
 (R 2 [x0, x3, x5] h)
theorem e147_1 (O : Oracle) (R : Jump) (q : Nat) (x0 x3 x4 x5 x6 : TVal) (h : Heap) : b147_1 O R q x0 x3 x4 x5 x6 h = stepF c147 O R q 1 [x0, x3, x4, x5, x6] h := by kernel_rfl
def b147_2 (O : Oracle) (R : Jump) (q : Nat) (x0 x3 x5 : TVal) (h : Heap) : Res1 :=
 vbin .geq 0 x5 (.v (.c (.p (.int .u8 128)))) h fun x37 h =>
 vif x37 (
 vcall O (.v (.c (.func 162 []))) [x0, (.v (.c (.func 163 [])))] h 39 fun x39 h =>
 tcomp x39 fun c0 => vfin true q [c0] h)
 (vop O (.mkslice 1 16 [(.p (.str []))] (.k x3) (.k x3) false) h 41 fun x41 h =>
 R 3 [x0, x41, (kI 0), (kI 0)] h)
theorem e147_2 (O : Oracle) (R : Jump) (q : Nat) (x0 x3 x5 : TVal) (h : Heap) : b147_2 O R q x0 x3 x5 h = stepF c147 O R q 2 [x0, x3, x5] h := by kernel_rfl
def b147_3 (O : Oracle) (R : Jump) (q : Nat) (x0 x9 x10 x12 : TVal) (h : Heap) : Res1 :=
 vlen O 0 x0 h 44 fun x44 h =>
 vbin .lss 0 x12 x44 h fun x45 h =>
 vguard x45 true (fun kk => kk x0 h) h fun x47 h =>
 vguard x45 true (fun kk => kk x12 h) h fun x48 h =>
 vguard x45 true (fun kk => vindex x47 x48 h kk) h fun x49 h =>
 vguard x45 true (fun kk => vop O (.iaddrA 256 1 (.k (.v (.c (.p (.pptr [(.int .u8 0), (.int .u8 0), (.int .u8 0), (.int .u8 0), (.int .u8 0), (.int .u8 0), (.int .u8 0), (.int .u8 0), (.int .u8 0), (.int .u8 1), (.int .u8 1), (.int .u8 1), (.int .u8 1), (.int .u8 1), (.int .u8 0), (.int .u8 0), (.int .u8 0), (.int .u8 0), (.int .u8 0), (.int .u8 0), (.int .u8 0), (.int .u8 0), (.int .u8 0), (.int .u8 0), (.int .u8 0), (.int .u8 0), (.int .u8 0), (.int .u8 0), (.int .u8 0), (.int .u8 0), (.int .u8 0), (.int .u8 0), (.int .u8 1), (.int .u8 0), (.int .u8 0), (.int .u8 0), (.int .u8 0), (.int .u8 0), (.int .u8 0), (.int .u8 0), (.int .u8 0), (.int .u8 0), (.int .u8 0), (.int .u8 0), (.int .u8 0), (.int .u8 0), (.int .u8 0), (.int .u8 0), (.int .u8 0), (.int .u8 0), (.int .u8 0), (.int .u8 0), (.int .u8 0), (.int .u8 0), (.int .u8 0), (.int .u8 0), (.int .u8 0), (.int .u8 0), (.int .u8 0), (.int .u8 0), (.int .u8 0), (.int .u8 0), (.int .u8 0), (.int .u8 0), (.int .u8 0), (.int .u8 0), (.int .u8 0), (.int .u8 0), (.int .u8 0), (.int .u8 0), (.int .u8 0), (.int .u8 0), (.int .u8 0), (.int .u8 0), (.int .u8 0), (.int .u8 0), (.int .u8 0), (.int .u8 0), (.int .u8 0), (.int .u8 0), (.int .u8 0), (.int .u8 0), (.int .u8 0), (.int .u8 0), (.int .u8 0), (.int .u8 0), (.int .u8 0), (.int .u8 0), (.int .u8 0), (.int .u8 0), (.int .u8 0), (.int .u8 0), (.int .u8 0), (.int .u8 0), (.int .u8 0), (.int .u8 0), (.int .u8 0), (.int .u8 0), (.int .u8 0), (.int .u8 0), (.int .u8 0), (.int .u8 0), (.int .u8 0), (.int .u8 0), (.int .u8 0), (.int .u8 0), (.int .u8 0), (.int .u8 0), (.int .u8 0), (.int .u8 0), (.int .u8 0), (.int .u8 0), (.int .u8 0), (.int .u8 0), (.int .u8 0), (.int .u8 0), (.int .u8 0), (.int .u8 0), (.int .u8 0), (.int .u8 0), (.int .u8 0), (.int .u8 0), (.int .u8 0), (.int .u8 0), (.int .u8 0), (.int .u8 0), (.int .u8 0), (.int .u8 0), (.int .u8 0), (.int .u8 0), (.int .u8 0), (.int .u8 0), (.int .u8 0), (.int .u8 0), (.int .u8 0), (.int .u8 0), (.int .u8 0), (.int .u8 0), (.int .u8 0), (.int .u8 0), (.int .u8 0), (.int .u8 0), (.int .u8 0), (.int .u8 0), (.int .u8 0), (.int .u8 0), (.int .u8 0), (.int .u8 0), (.int .u8 0), (.int .u8 0), (.int .u8 0), (.int .u8 0), (.int .u8 0), (.int .u8 0), (.int .u8 0), (.int .u8 0), (.int .u8 0), (.int .u8 0), (.int .u8 0), (.int .u8 0), (.int .u8 0), (.int .u8 0), (.int .u8 0), (.int .u8 0), (.int .u8 0), (.int .u8 0), (.int .u8 0), (.int .u8 0), (.int .u8 0), (.int .u8 0), (.int .u8 0), (.int .u8 0), (.int .u8 0), (.int .u8 0), (.int .u8 0), (.int .u8 0), (.int .u8 0), (.int .u8 0), (.int .u8 0), (.int .u8 0), (.int .u8 0), (.int .u8 0), (.int .u8 0), (.int .u8 0), (.int .u8 0), (.int .u8 0), (.int .u8 0), (.int .u8 0), (.int .u8 0), (.int .u8 0), (.int .u8 0), (.int .u8 0), (.int .u8 0), (.int .u8 0), (.int .u8 0), (.int .u8 0), (.int .u8 0), (.int .u8 0), (.int .u8 0), (.int .u8 0), (.int .u8 0), (.int .u8 0), (.int .u8 0), (.int .u8 0), (.int .u8 0), (.int .u8 0), (.int .u8 0), (.int .u8 0), (.int .u8 0), (.int .u8 0), (.int .u8 0), (.int .u8 0), (.int .u8 0), (.int .u8 0), (.int .u8 0), (.int .u8 0), (.int .u8 0), (.int .u8 0), (.int .u8 0), (.int .u8 0), (.int .u8 0), (.int .u8 0), (.int .u8 0), (.int .u8 0), (.int .u8 0), (.int .u8 0), (.int .u8 0), (.int .u8 0), (.int .u8 0), (.int .u8 0), (.int .u8 0), (.int .u8 0), (.int .u8 0), (.int .u8 0), (.int .u8 0), (.int .u8 0), (.int .u8 0), (.int .u8 0), (.int .u8 0), (.int .u8 0), (.int .u8 0), (.int .u8 0), (.int .u8 0), (.int .u8 0), (.int .u8 0), (.int .u8 0), (.int .u8 0), (.int .u8 0), (.int .u8 0), (.int .u8 0), (.int .u8 0), (.int .u8 0), (.int .u8 0), (.int .u8 0), (.int .u8 0), (.int .u8 0)] 0))))) (.k x49)) h 50 kk) h fun x50 h =>
 vguard x45 true (fun kk => vload false 1 x50 h kk) h fun x51 h =>
 vguard x45 true (fun kk => vbin .neq 0 x51 (.v (.c (.p (.int .u8 0)))) h kk) h fun x52 h =>
 vop O (.pick (.k x45) (.k x52) (.k (kB false))) h 53 fun x53 h =>
 vif x53 (
 vbin .add 0 x12 (kI 1) h fun x55 h =>
 R 3 [x0, x9, x10, x55] h)
 (R 4 [x0, x9, x10, x12] h)
theorem e147_3 (O : Oracle) (R : Jump) (q : Nat) (x0 x9 x10 x12 : TVal) (h : Heap) : b147_3 O R q x0 x9 x10 x12 h = stepF c147 O R q 3 [x0, x9, x10, x12] h := by kernel_rfl
def b147_4 (O : Oracle) (R : Jump) (q : Nat) (x0 x9 x10 x12 : TVal) (h : Heap) : Res1 :=
 R 5 [x0, x9, x10, x12, x12] h
theorem e147_4 (O : Oracle) (R : Jump) (q : Nat) (x0 x9 x10 x12 : TVal) (h : Heap) : b147_4 O R q x0 x9 x10 x12 h = stepF c147 O R q 4 [x0, x9, x10, x12] h := by kernel_rfl
def b147_5 (O : Oracle) (R : Jump) (q : Nat) (x0 x9 x10 x11 x12 : TVal) (h : Heap) : Res1 :=
 vlen O 0 x0 h 59 fun x59 h =>
 vbin .lss 0 x12 x59 h fun x60 h =>
 vif x60 (
 vindex x0 x12 h fun x63 h =>
 vop O (.iaddrA 256 1 (.k (.v (.c (.p (.pptr [(.int .u8 0), (.int .u8 0), (.int .u8 0), (.int .u8 0), (.int .u8 0), (.int .u8 0), (.int .u8 0), (.int .u8 0), (.int .u8 0), (.int .u8 1), (.int .u8 1), (.int .u8 1), (.int .u8 1), (.int .u8 1), (.int .u8 0), (.int .u8 0), (.int .u8 0), (.int .u8 0), (.int .u8 0), (.int .u8 0), (.int .u8 0), (.int .u8 0), (.int .u8 0), (.int .u8 0), (.int .u8 0), (.int .u8 0), (.int .u8 0), (.int .u8 0), (.int .u8 0), (.int .u8 0), (.int .u8 0), (.int .u8 0), (.int .u8 1), (.int .u8 0), (.int .u8 0), (.int .u8 0), (.int .u8 0), (.int .u8 0), (.int .u8 0), (.int .u8 0), (.int .u8 0), (.int .u8 0), (.int .u8 0), (.int .u8 0), (.int .u8 0), (.int .u8 0), (.int .u8 0), (.int .u8 0), (.int .u8 0), (.int .u8 0), (.int .u8 0), (.int .u8 0), (.int .u8 0), (.int .u8 0), (.int .u8 0), (.int .u8 0), (.int .u8 0), (.int .u8 0), (.int .u8 0), (.int .u8 0), (.int .u8 0), (.int .u8 0), (.int .u8 0), (.int .u8 0), (.int .u8 0), (.int .u8 0), (.int .u8 0), (.int .u8 0), (.int .u8 0), (.int .u8 0), (.int .u8 0), (.int .u8 0), (.int .u8 0), (.int .u8 0), (.int .u8 0), (.int .u8 0), (.int .u8 0), (.int .u8 0), (.int .u8 0), (.int .u8 0), (.int .u8 0), (.int .u8 0), (.int .u8 0), (.int .u8 0), (.int .u8 0), (.int .u8 0), (.int .u8 0), (.int .u8 0), (.int .u8 0), (.int .u8 0), (.int .u8 0), (.int .u8 0), (.int .u8 0), (.int .u8 0), (.int .u8 0), (.int .u8 0), (.int .u8 0), (.int .u8 0), (.int .u8 0), (.int .u8 0), (.int .u8 0), (.int .u8 0), (.int .u8 0), (.int .u8 0), (.int .u8 0), (.int .u8 0), (.int .u8 0), (.int .u8 0), (.int .u8 0), (.int .u8 0), (.int .u8 0), (.int .u8 0), (.int .u8 0), (.int .u8 0), (.int .u8 0), (.int .u8 0), (.int .u8 0), (.int .u8 0), (.int .u8 0), (.int .u8 0), (.int .u8 0), (.int .u8 0), (.int .u8 0), (.int .u8 0), (.int .u8 0), (.int .u8 0), (.int .u8 0), (.int .u8 0), (.int .u8 0), (.int .u8 0), (.int .u8 0), (.int .u8 0), (.int .u8 0), (.int .u8 0), (.int .u8 0), (.int .u8 0), (.int .u8 0), (.int .u8 0), (.int .u8 0), (.int .u8 0), (.int .u8 0), (.int .u8 0), (.int .u8 0), (.int .u8 0), (.int .u8 0), (.int .u8 0), (.int .u8 0), (.int .u8 0), (.int .u8 0), (.int .u8 0), (.int .u8 0), (.int .u8 0), (.int .u8 0), (.int .u8 0), (.int .u8 0), (.int .u8 0), (.int .u8 0), (.int .u8 0), (.int .u8 0), (.int .u8 0), (.int .u8 0), (.int .u8 0), (.int .u8 0), (.int .u8 0), (.int .u8 0), (.int .u8 0), (.int .u8 0), (.int .u8 0), (.int .u8 0), (.int .u8 0), (.int .u8 0), (.int .u8 0), (.int .u8 0), (.int .u8 0), (.int .u8 0), (.int .u8 0), (.int .u8 0), (.int .u8 0), (.int .u8 0), (.int .u8 0), (.int .u8 0), (.int .u8 0), (.int .u8 0), (.int .u8 0), (.int .u8 0), (.int .u8 0), (.int .u8 0), (.int .u8 0), (.int .u8 0), (.int .u8 0), (.int .u8 0), (.int .u8 0), (.int .u8 0), (.int .u8 0), (.int .u8 0), (.int .u8 0), (.int .u8 0), (.int .u8 0), (.int .u8 0), (.int .u8 0), (.int .u8 0), (.int .u8 0), (.int .u8 0), (.int .u8 0), (.int .u8 0), (.int .u8 0), (.int .u8 0), (.int .u8 0), (.int .u8 0), (.int .u8 0), (.int .u8 0), (.int .u8 0), (.int .u8 0), (.int .u8 0), (.int .u8 0), (.int .u8 0), (.int .u8 0), (.int .u8 0), (.int .u8 0), (.int .u8 0), (.int .u8 0), (.int .u8 0), (.int .u8 0), (.int .u8 0), (.int .u8 0), (.int .u8 0), (.int .u8 0), (.int .u8 0), (.int .u8 0), (.int .u8 0), (.int .u8 0), (.int .u8 0), (.int .u8 0), (.int .u8 0), (.int .u8 0), (.int .u8 0), (.int .u8 0), (.int .u8 0), (.int .u8 0), (.int .u8 0), (.int .u8 0), (.int .u8 0), (.int .u8 0), (.int .u8 0), (.int .u8 0), (.int .u8 0), (.int .u8 0), (.int .u8 0), (.int .u8 0), (.int .u8 0), (.int .u8 0), (.int .u8 0), (.int .u8 0), (.int .u8 0), (.int .u8 0), (.int .u8 0)] 0))))) (.k x63)) h 64 fun x64 h =>
 vload false 1 x64 h fun x65 h =>
 vbin .eql 0 x65 (.v (.c (.p (.int .u8 0)))) h fun x66 h =>
 vif x66 (
 vbin .add 0 x12 (kI 1) h fun x68 h =>
 R 5 [x0, x9, x10, x11, x68] h)
 (vop O (.slice 0 true (.k x0) (some (.k x11)) (some (.k x12)) none) h 74 fun x74 h =>
 viaddr 1 x9 x10 h fun x75 h =>
 vstore 1 x75 x74 h fun _ h =>
 vbin .add 0 x10 (kI 1) h fun x77 h =>
 vbin .add 0 x12 (kI 1) h fun x79 h =>
 R 6 [x0, x9, x77, x79] h))
 (R 7 [x0, x9, x10, x11] h)
theorem e147_5 (O : Oracle) (R : Jump) (q : Nat) (x0 x9 x10 x11 x12 : TVal) (h : Heap) : b147_5 O R q x0 x9 x10 x11 x12 h = stepF c147 O R q 5 [x0, x9, x10, x11, x12] h := by kernel_rfl
def b147_6 (O : Oracle) (R : Jump) (q : Nat) (x0 x9 x10 x12 : TVal) (h : Heap) : Res1 :=
 vlen O 0 x0 h 82 fun x82 h =>
 vbin .lss 0 x12 x82 h fun x83 h =>
 vguard x83 true (fun kk => kk x0 h) h fun x85 h =>
 vguard x83 true (fun kk => kk x12 h) h fun x86 h =>
 vguard x83 true (fun kk => vindex x85 x86 h kk) h fun x87 h =>
 vguard x83 true (fun kk => vop O (.iaddrA 256 1 (.k (.v (.c (.p (.pptr [(.int .u8 0), (.int .u8 0), (.int .u8 0), (.int .u8 0), (.int .u8 0), (.int .u8 0), (.int .u8 0), (.int .u8 0), (.int .u8 0), (.int .u8 1), (.int .u8 1), (.int .u8 1), (.int .u8 1), (.int .u8 1), (.int .u8 0), (.int .u8 0), (.int .u8 0), (.int .u8 0), (.int .u8 0), (.int .u8 0), (.int .u8 0), (.int .u8 0), (.int .u8 0), (.int .u8 0), (.int .u8 0), (.int .u8 0), (.int .u8 0), (.int .u8 0), (.int .u8 0), (.int .u8 0), (.int .u8 0), (.int .u8 0), (.int .u8 1), (.int .u8 0), (.int .u8 0), (.int .u8 0), (.int .u8 0), (.int .u8 0), (.int .u8 0), (.int .u8 0), (.int .u8 0), (.int .u8 0), (.int .u8 0), (.int .u8 0), (.int .u8 0), (.int .u8 0), (.int .u8 0), (.int .u8 0), (.int .u8 0), (.int .u8 0), (.int .u8 0), (.int .u8 0), (.int .u8 0), (.int .u8 0), (.int .u8 0), (.int .u8 0), (.int .u8 0), (.int .u8 0), (.int .u8 0), (.int .u8 0), (.int .u8 0), (.int .u8 0), (.int .u8 0), (.int .u8 0), (.int .u8 0), (.int .u8 0), (.int .u8 0), (.int .u8 0), (.int .u8 0), (.int .u8 0), (.int .u8 0), (.int .u8 0), (.int .u8 0), (.int .u8 0), (.int .u8 0), (.int .u8 0), (.int .u8 0), (.int .u8 0), (.int .u8 0), (.int .u8 0), (.int .u8 0), (.int .u8 0), (.int .u8 0), (.int .u8 0), (.int .u8 0), (.int .u8 0), (.int .u8 0), (.int .u8 0), (.int .u8 0), (.int .u8 0), (.int .u8 0), (.int .u8 0), (.int .u8 0), (.int .u8 0), (.int .u8 0), (.int .u8 0), (.int .u8 0), (.int .u8 0), (.int .u8 0), (.int .u8 0), (.int .u8 0), (.int .u8 0), (.int .u8 0), (.int .u8 0), (.int .u8 0), (.int .u8 0), (.int .u8 0), (.int .u8 0), (.int .u8 0), (.int .u8 0), (.int .u8 0), (.int .u8 0), (.int .u8 0), (.int .u8 0), (.int .u8 0), (.int .u8 0), (.int .u8 0), (.int .u8 0), (.int .u8 0), (.int .u8 0), (.int .u8 0), (.int .u8 0), (.int .u8 0), (.int .u8 0), (.int .u8 0), (.int .u8 0), (.int .u8 0), (.int .u8 0), (.int .u8 0), (.int .u8 0), (.int .u8 0), (.int .u8 0), (.int .u8 0), (.int .u8 0), (.int .u8 0), (.int .u8 0), (.int .u8 0), (.int .u8 0), (.int .u8 0), (.int .u8 0), (.int .u8 0), (.int .u8 0), (.int .u8 0), (.int .u8 0), (.int .u8 0), (.int .u8 0), (.int .u8 0), (.int .u8 0), (.int .u8 0), (.int .u8 0), (.int .u8 0), (.int .u8 0), (.int .u8 0), (.int .u8 0), (.int .u8 0), (.int .u8 0), (.int .u8 0), (.int .u8 0), (.int .u8 0), (.int .u8 0), (.int .u8 0), (.int .u8 0), (.int .u8 0), (.int .u8 0), (.int .u8 0), (.int .u8 0), (.int .u8 0), (.int .u8 0), (.int .u8 0), (.int .u8 0), (.int .u8 0), (.int .u8 0), (.int .u8 0), (.int .u8 0), (.int .u8 0), (.int .u8 0), (.int .u8 0), (.int .u8 0), (.int .u8 0), (.int .u8 0), (.int .u8 0), (.int .u8 0), (.int .u8 0), (.int .u8 0), (.int .u8 0), (.int .u8 0), (.int .u8 0), (.int .u8 0), (.int .u8 0), (.int .u8 0), (.int .u8 0), (.int .u8 0), (.int .u8 0), (.int .u8 0), (.int .u8 0), (.int .u8 0), (.int .u8 0), (.int .u8 0), (.int .u8 0), (.int .u8 0), (.int .u8 0), (.int .u8 0), (.int .u8 0), (.int .u8 0), (.int .u8 0), (.int .u8 0), (.int .u8 0), (.int .u8 0), (.int .u8 0), (.int .u8 0), (.int .u8 0), (.int .u8 0), (.int .u8 0), (.int .u8 0), (.int .u8 0), (.int .u8 0), (.int .u8 0), (.int .u8 0), (.int .u8 0), (.int .u8 0), (.int .u8 0), (.int .u8 0), (.int .u8 0), (.int .u8 0), (.int .u8 0), (.int .u8 0), (.int .u8 0), (.int .u8 0), (.int .u8 0), (.int .u8 0), (.int .u8 0), (.int .u8 0), (.int .u8 0), (.int .u8 0), (.int .u8 0), (.int .u8 0), (.int .u8 0), (.int .u8 0), (.int .u8 0), (.int .u8 0), (.int .u8 0), (.int .u8 0), (.int .u8 0), (.int .u8 0), (.int .u8 0), (.int .u8 0), (.int .u8 0), (.int .u8 0), (.int .u8 0), (.int .u8 0), (.int .u8 0), (.int .u8 0), (.int .u8 0), (.int .u8 0), (.int .u8 0), (.int .u8 0)] 0))))) (.k x87)) h 88 kk) h fun x88 h =>
 vguard x83 true (fun kk => vload false 1 x88 h kk) h fun x89 h =>
 vguard x83 true (fun kk => vbin .neq 0 x89 (.v (.c (.p (.int .u8 0)))) h kk) h fun x90 h =>
 vop O (.pick (.k x83) (.k x90) (.k (kB false))) h 91 fun x91 h =>
 vif x91 (
 vbin .add 0 x12 (kI 1) h fun x93 h =>
 R 6 [x0, x9, x10, x93] h)
 (R 5 [x0, x9, x10, x12, x12] h)
theorem e147_6 (O : Oracle) (R : Jump) (q : Nat) (x0 x9 x10 x12 : TVal) (h : Heap) : b147_6 O R q x0 x9 x10 x12 h = stepF c147 O R q 6 [x0, x9, x10, x12] h := by kernel_rfl
def b147_7 (O : Oracle) (R : Jump) (q : Nat) (x0 x9 x10 x11 : TVal) (h : Heap) : Res1 :=
 vlen O 0 x0 h 97 fun x97 h =>
 vbin .lss 0 x11 x97 h fun x98 h =>
 vif x98 (
 vop O (.slice 0 true (.k x0) (some (.k x11)) none none) h 103 fun x103 h =>
 viaddr 1 x9 x10 h fun x104 h =>
 vstore 1 x104 x103 h fun _ h =>
 tcomp x9 fun c0 => vfin true q [c0] h)
 (tcomp x9 fun c0 => vfin true q [c0] h)
theorem e147_7 (O : Oracle) (R : Jump) (q : Nat) (x0 x9 x10 x11 : TVal) (h : Heap) : b147_7 O R q x0 x9 x10 x11 h = stepF c147 O R q 7 [x0, x9, x10, x11] h := by kernel_rfl
def d147 : BlkF := fun O R Q => [.s fun a => .z (b147_0 O R Q a), .s fun a => .s fun b => .s fun c => .s fun d => .s fun e => .z (b147_1 O R Q a b c d e), .s fun a => .s fun b => .s fun c => .z (b147_2 O R Q a b c), .s fun a => .s fun b => .s fun c => .s fun d => .z (b147_3 O R Q a b c d), .s fun a => .s fun b => .s fun c => .s fun d => .z (b147_4 O R Q a b c d), .s fun a => .s fun b => .s fun c => .s fun d => .s fun e => .z (b147_5 O R Q a b c d e), .s fun a => .s fun b => .s fun c => .s fun d => .z (b147_6 O R Q a b c d), .s fun a => .s fun b => .s fun c => .s fun d => .z (b147_7 O R Q a b c d)]
theorem o147 (O : Oracle) (R : Jump) (q : Nat) : HoldsAll c147 O R q 0 (d147 O R q) := ⟨e147_0 O R q, e147_1 O R q, e147_2 O R q, e147_3 O R q, e147_4 O R q, e147_5 O R q, e147_6 O R q, e147_7 O R q, trivial⟩
def c153 : MFunc := mkM (compF Tryd.prog (globs2 tabs opq) (fun _ => false) true Tryd.f153) (.s .n (.s .n (.s (.s .n (.k (.l 1 [0, 4, 5] .n))) (.m 2 [0, 4] (.s .n (.s (.s .n (.k (.l 3 [4, 6, 7, 8] (.s .n (.s (.k (.s .n (.m 4 [4, 6, 7, 8] .n))) .n))))) .n))))))
def b153_0 (O : Oracle) (R : Jump) (q : Nat) (x0 : TVal) (h : Heap) : Res1 :=
 R 1 [x0, (.v (.c (.p (.int .u32 0)))), (kI 0)] h
theorem e153_0 (O : Oracle) (R : Jump) (q : Nat) (x0 : TVal) (h : Heap) : b153_0 O R q x0 h = stepF c153 O R q 0 [x0] h := by kernel_rfl
def b153_1 (O : Oracle) (R : Jump) (q : Nat) (x0 x4 x5 : TVal) (h : Heap) : Res1 :=
 vlen O 0 x0 h 11 fun x11 h =>
 vbin .lss 0 x5 x11 h fun x12 h =>
 vif x12 (
 vbin .mul 0 x4 (.v (.c (.p (.int .u32 16777619)))) h fun x16 h =>
 vindex x0 x5 h fun x19 h =>
 vtoInt .u32 x19 h fun x20 h =>
 vbin .add 0 x16 x20 h fun x21 h =>
 vbin .add 0 x5 (kI 1) h fun x14 h =>
 R 1 [x0, x21, x14] h)
 (R 2 [x0, x4] h)
theorem e153_1 (O : Oracle) (R : Jump) (q : Nat) (x0 x4 x5 : TVal) (h : Heap) : b153_1 O R q x0 x4 x5 h = stepF c153 O R q 1 [x0, x4, x5] h := by kernel_rfl
def b153_2 (O : Oracle) (R : Jump) (q : Nat) (x0 x4 : TVal) (h : Heap) : Res1 :=
 vlen O 0 x0 h 23 fun x23 h =>
 R 3 [x4, (.v (.c (.p (.int .u32 1)))), (.v (.c (.p (.int .u32 16777619)))), x23] h
theorem e153_2 (O : Oracle) (R : Jump) (q : Nat) (x0 x4 : TVal) (h : Heap) : b153_2 O R q x0 x4 h = stepF c153 O R q 2 [x0, x4] h := by kernel_rfl
def b153_3 (O : Oracle) (R : Jump) (q : Nat) (x4 x6 x7 x8 : TVal) (h : Heap) : Res1 :=
 vbin .gtr 0 x8 (kI 0) h fun x25 h =>
 vif x25 (
 vbin .and 0 x8 (kI 1) h fun x29 h =>
 vbin .neq 0 x29 (kI 0) h fun x30 h =>
 vif x30 (
 vbin .mul 0 x6 x7 h fun x33 h =>
 R 4 [x4, x33, x7, x8] h)
 (R 4 [x4, x6, x7, x8] h))
 (tcomp x4 fun c0 => tcomp x6 fun c1 => vfin true q [c0, c1] h)
theorem e153_3 (O : Oracle) (R : Jump) (q : Nat) (x4 x6 x7 x8 : TVal) (h : Heap) : b153_3 O R q x4 x6 x7 x8 h = stepF c153 O R q 3 [x4, x6, x7, x8] h := by kernel_rfl
def b153_4 (O : Oracle) (R : Jump) (q : Nat) (x4 x6 x7 x8 : TVal) (h : Heap) : Res1 :=
 vbin .mul 0 x7 x7 h fun x36 h =>
 vbin .shr 0 x8 (.v (.c (.p (.int .u64 1)))) h fun x27 h =>
 R 3 [x4, x6, x36, x27] h
theorem e153_4 (O : Oracle) (R : Jump) (q : Nat) (x4 x6 x7 x8 : TVal) (h : Heap) : b153_4 O R q x4 x6 x7 x8 h = stepF c153 O R q 4 [x4, x6, x7, x8] h := by kernel_rfl
def d153 : BlkF := fun O R Q => [.s fun a => .z (b153_0 O R Q a), .s fun a => .s fun b => .s fun c => .z (b153_1 O R Q a b c), .s fun a => .s fun b => .z (b153_2 O R Q a b), .s fun a => .s fun b => .s fun c => .s fun d => .z (b153_3 O R Q a b c d), .s fun a => .s fun b => .s fun c => .s fun d => .z (b153_4 O R Q a b c d)]
theorem o153 (O : Oracle) (R : Jump) (q : Nat) : HoldsAll c153 O R q 0 (d153 O R q) := ⟨e153_0 O R q, e153_1 O R q, e153_2 O R q, e153_3 O R q, e153_4 O R q, trivial⟩
def c154 : MFunc := mkM (compF Tryd.prog (globs2 tabs opq) (fun _ => false) true Tryd.f154) .n
def b154_0 (O : Oracle) (R : Jump) (q : Nat) (h : Heap) : Res1 :=
 vop O (.bslice 1 11 [(.p (.str []))] [(0, (.k (kS [105, 102]))), (1, (.k (kS [119, 105, 116, 104]))), (2, (.k (kS [114, 97, 110, 103, 101]))), (3, (.k (kS [109, 97, 116, 99, 104]))), (4, (.k (kS [101, 108, 115, 101]))), (5, (.k (kS [101, 110, 100]))), (6, (.k (kS [99, 97, 115, 101]))), (7, (.k (kS [116, 101, 109, 112, 108, 97, 116, 101]))), (8, (.k (kS [100, 101, 102, 105, 110, 101]))), (9, (.k (kS [116, 114, 117, 101]))), (10, (.k (kS [102, 97, 108, 115, 101])))] false) h 1 fun x1 h =>
 tcomp x1 fun c0 => vfin true q [c0] h
theorem e154_0 (O : Oracle) (R : Jump) (q : Nat) (h : Heap) : b154_0 O R q  h = stepF c154 O R q 0 [] h := by kernel_rfl
def d154 : BlkF := fun O R Q => [.z (b154_0 O R Q )]
theorem o154 (O : Oracle) (R : Jump) (q : Nat) : HoldsAll c154 O R q 0 (d154 O R q) := ⟨e154_0 O R q, trivial⟩
def c155 : MFunc := mkM (compF Tryd.prog (globs2 tabs opq) (fun _ => false) true Tryd.f155) (.s .n (.s .n (.s .n (.s .n (.s .n (.s .n (.s .n (.s .n (.m 1 [2, 6] .n)))))))))
def b155_0 (O : Oracle) (R : Jump) (q : Nat) (x0 : TVal) (h : Heap) : Res1 :=
 vop O (.alloc [(.p (.int .i64 0)), (.p (.str [])), (.p .nilslice), (.p (.str [])), (.p (.int .i64 0)), (.p (.bool false)), (.p .nilslice)] false) h 2 fun x2 h =>
 vcall O (.v (.c (.func 101 []))) [x0, (kI 0)] h 8 fun x8 h =>
 vop O (.alloc [(.p (.int .i64 0)), (.p (.str [])), (.p (.int .i64 0)), (.p (.int .i64 0))] false) h 3 fun x3 h =>
 vstore 4 x3 x8 h fun _ h =>
 vcall O (.v (.c (.func 156 []))) [x0] h 11 fun x11 h =>
 vcall O (.v (.c (.func 135 []))) [x0, x11] h 12 fun x12 h =>
 vop O (.nilck (.k x0)) h 14 fun x14 h =>
 vfaddr 1 x14 h fun x15 h =>
 vload false 1 x15 h fun x16 h =>
 vbin .add 0 x16 (kI 1) h fun x17 h =>
 vop O (.nilck (.k x0)) h 18 fun x18 h =>
 vfaddr 1 x18 h fun x19 h =>
 vstore 1 x19 x17 h fun _ h =>
 vfaddr 0 x3 h fun x21 h =>
 vload false 1 x21 h fun x22 h =>
 vbin .eql 0 x22 (kI 2) h fun x23 h =>
 vif x23 (
 vfaddr 1 x3 h fun x24 h =>
 vload false 1 x24 h fun x25 h =>
 vop O (.build [(.p (.int .i64 0)), (.p (.str [])), (.p .nilslice), (.p (.str [])), (.p (.int .i64 0)), (.p (.bool false)), (.p .nilslice)] [(0, 1, (.k (kI 2))), (3, 1, (.k x25))]) h 26 fun x26 h =>
 vstore 7 x2 x26 h fun _ h =>
 vcell true 7 x2 h fun c0 => vfin true q [c0] h)
 (vfaddr 0 x3 h fun x28 h =>
 vload false 1 x28 h fun x29 h =>
 vbin .eql 0 x29 (kI 3) h fun x30 h =>
 vif x30 (
 vfaddr 2 x3 h fun x31 h =>
 vload false 1 x31 h fun x32 h =>
 vop O (.build [(.p (.int .i64 0)), (.p (.str [])), (.p .nilslice), (.p (.str [])), (.p (.int .i64 0)), (.p (.bool false)), (.p .nilslice)] [(0, 1, (.k (kI 3))), (4, 1, (.k x32))]) h 33 fun x33 h =>
 vstore 7 x2 x33 h fun _ h =>
 vcell true 7 x2 h fun c0 => vfin true q [c0] h)
 (vfaddr 0 x3 h fun x35 h =>
 vload false 1 x35 h fun x36 h =>
 vbin .eql 0 x36 (kI 1) h fun x37 h =>
 vif x37 (
 vfaddr 1 x3 h fun x38 h =>
 vload false 1 x38 h fun x39 h =>
 vbin .eql 0 x39 (kS [116, 114, 117, 101]) h fun x40 h =>
 vop O (.build [(.p (.int .i64 0)), (.p (.str [])), (.p .nilslice), (.p (.str [])), (.p (.int .i64 0)), (.p (.bool false)), (.p .nilslice)] [(0, 1, (.k (kI 4))), (5, 1, (.k x40))]) h 41 fun x41 h =>
 vstore 7 x2 x41 h fun _ h =>
 vcell true 7 x2 h fun c0 => vfin true q [c0] h)
 (vload true 4 x3 h fun x43 h =>
 vcall O (.v (.c (.func 102 []))) [x43, (kS [36])] h 44 fun x44 h =>
 vif x44 (
 vcall O (.v (.c (.func 101 []))) [x0, (kI 0)] h 46 fun x46 h =>
 vop O (.alloc [(.p (.int .i64 0)), (.p (.str [])), (.p (.int .i64 0)), (.p (.int .i64 0))] false) h 4 fun x4 h =>
 vstore 4 x4 x46 h fun _ h =>
 vcall O (.v (.c (.func 133 []))) [x0] h 48 fun x48 h =>
 vfaddr 3 x4 h fun x51 h =>
 vload false 1 x51 h fun x52 h =>
 vfaddr 1 x4 h fun x53 h =>
 vload false 1 x53 h fun x54 h =>
 vlen O 0 x54 h 55 fun x55 h =>
 vbin .add 0 x52 x55 h fun x56 h =>
 vcall O (.v (.c (.func 165 []))) [x0, x56] h 57 fun x57 h =>
 vop O (.build [(.p (.int .i64 0)), (.p (.str [])), (.p .nilslice), (.p (.str [])), (.p (.int .i64 0)), (.p (.bool false)), (.p .nilslice)] [(0, 1, (.k (kI 1))), (1, 1, (.k x48)), (2, 1, (.k x57))]) h 58 fun x58 h =>
 vstore 7 x2 x58 h fun _ h =>
 vcell true 7 x2 h fun c0 => vfin true q [c0] h)
 (vload true 4 x3 h fun x60 h =>
 vcall O (.v (.c (.func 102 []))) [x60, (kS [40])] h 61 fun x61 h =>
 vif x61 (
 vcall O (.v (.c (.func 166 []))) [x0] h 63 fun x63 h =>
 vstore 7 x2 x63 h fun _ h =>
 vcell true 7 x2 h fun c0 => vfin true q [c0] h)
 (vop O (.nilck (.k x0)) h 65 fun x65 h =>
 vfaddr 1 x65 h fun x66 h =>
 vload false 1 x66 h fun x67 h =>
 vbin .sub 0 x67 (kI 1) h fun x68 h =>
 vop O (.nilck (.k x0)) h 69 fun x69 h =>
 vfaddr 1 x69 h fun x70 h =>
 vstore 1 x70 x68 h fun _ h =>
 vfaddr 3 x3 h fun x72 h =>
 vload false 1 x72 h fun x73 h =>
 vcall O (.v (.c (.func 165 []))) [x0, x73] h 74 fun x74 h =>
 vlen O 2 x74 h 76 fun x76 h =>
 vbin .eql 0 x76 (kI 0) h fun x77 h =>
 vif x77 (
 vop O (.nilck (.k x0)) h 79 fun x79 h =>
 vfaddr 1 x79 h fun x80 h =>
 vload false 1 x80 h fun x81 h =>
 vbin .add 0 x81 (kI 1) h fun x82 h =>
 vop O (.nilck (.k x0)) h 83 fun x83 h =>
 vfaddr 1 x83 h fun x84 h =>
 vstore 1 x84 x82 h fun _ h =>
 R 1 [x2, x74] h)
 (R 1 [x2, x74] h))))))
theorem e155_0 (O : Oracle) (R : Jump) (q : Nat) (x0 : TVal) (h : Heap) : b155_0 O R q x0 h = stepF c155 O R q 0 [x0] h := by kernel_rfl
def b155_1 (O : Oracle) (R : Jump) (q : Nat) (x2 x6 : TVal) (h : Heap) : Res1 :=
 vop O (.build [(.p (.int .i64 0)), (.p (.str [])), (.p .nilslice), (.p (.str [])), (.p (.int .i64 0)), (.p (.bool false)), (.p .nilslice)] [(0, 1, (.k (kI 1))), (2, 1, (.k x6))]) h 86 fun x86 h =>
 vstore 7 x2 x86 h fun _ h =>
 vcell true 7 x2 h fun c0 => vfin true q [c0] h
theorem e155_1 (O : Oracle) (R : Jump) (q : Nat) (x2 x6 : TVal) (h : Heap) : b155_1 O R q x2 x6 h = stepF c155 O R q 1 [x2, x6] h := by kernel_rfl
def d155 : BlkF := fun O R Q => [.s fun a => .z (b155_0 O R Q a), .s fun a => .s fun b => .z (b155_1 O R Q a b)]
theorem o155 (O : Oracle) (R : Jump) (q : Nat) : HoldsAll c155 O R q 0 (d155 O R q) := ⟨e155_0 O R q, e155_1 O R q, trivial⟩
def c156 : MFunc := mkM (compF Tryd.prog (globs2 tabs opq) (fun _ => false) true Tryd.f156) (.s .n (.s (.s .n (.s .n (.k (.s .n (.m 1 [3, 7, 8] .n))))) .n))
def b156_0 (O : Oracle) (R : Jump) (q : Nat) (x0 : TVal) (h : Heap) : Res1 :=
 vcall O (.v (.c (.func 101 []))) [x0, (kI 0)] h 5 fun x5 h =>
 vop O (.alloc [(.p (.int .i64 0)), (.p (.str [])), (.p (.int .i64 0)), (.p (.int .i64 0))] false) h 3 fun x3 h =>
 vstore 4 x3 x5 h fun _ h =>
 vfaddr 0 x3 h fun x6 h =>
 vload false 1 x6 h fun x7 h =>
 vbin .eql 0 x7 (kI 2) h fun x9 h =>
 vif x9 (
 R 1 [x3, x7, x9] h)
 (vbin .eql 0 x7 (kI 3) h fun x10 h =>
 R 1 [x3, x7, x10] h)
theorem e156_0 (O : Oracle) (R : Jump) (q : Nat) (x0 : TVal) (h : Heap) : b156_0 O R q x0 h = stepF c156 O R q 0 [x0] h := by kernel_rfl
def b156_1 (O : Oracle) (R : Jump) (q : Nat) (x3 x7 x8 : TVal) (h : Heap) : Res1 :=
 vif x8 (
 tcomp (kB true) fun c0 => vfin true q [c0] h)
 (vbin .eql 0 x7 (kI 1) h fun x12 h =>
 vif x12 (
 vfaddr 1 x3 h fun x13 h =>
 vload false 1 x13 h fun x14 h =>
 vbin .eql 0 x14 (kS [116, 114, 117, 101]) h fun x15 h =>
 vguard x15 false (fun kk => vfaddr 1 x3 h kk) h fun x17 h =>
 vguard x15 false (fun kk => vload false 1 x17 h kk) h fun x18 h =>
 vguard x15 false (fun kk => vbin .eql 0 x18 (kS [102, 97, 108, 115, 101]) h kk) h fun x19 h =>
 vop O (.pick (.k x15) (.k (kB true)) (.k x19)) h 20 fun x20 h =>
 tcomp x20 fun c0 => vfin true q [c0] h)
 (vbin .eql 0 x7 (kI 4) h fun x22 h =>
 vif x22 (
 vfaddr 1 x3 h fun x23 h =>
 vload false 1 x23 h fun x24 h =>
 vbin .eql 0 x24 (kS [46]) h fun x25 h =>
 vguard x25 false (fun kk => vfaddr 1 x3 h kk) h fun x27 h =>
 vguard x25 false (fun kk => vload false 1 x27 h kk) h fun x28 h =>
 vguard x25 false (fun kk => vbin .eql 0 x28 (kS [36]) h kk) h fun x29 h =>
 vop O (.pick (.k x25) (.k (kB true)) (.k x29)) h 30 fun x30 h =>
 vguard x30 false (fun kk => vfaddr 1 x3 h kk) h fun x32 h =>
 vguard x30 false (fun kk => vload false 1 x32 h kk) h fun x33 h =>
 vguard x30 false (fun kk => vbin .eql 0 x33 (kS [40]) h kk) h fun x34 h =>
 vop O (.pick (.k x30) (.k (kB true)) (.k x34)) h 35 fun x35 h =>
 tcomp x35 fun c0 => vfin true q [c0] h)
 (tcomp (kB false) fun c0 => vfin true q [c0] h)))
theorem e156_1 (O : Oracle) (R : Jump) (q : Nat) (x3 x7 x8 : TVal) (h : Heap) : b156_1 O R q x3 x7 x8 h = stepF c156 O R q 1 [x3, x7, x8] h := by kernel_rfl
def d156 : BlkF := fun O R Q => [.s fun a => .z (b156_0 O R Q a), .s fun a => .s fun b => .s fun c => .z (b156_1 O R Q a b c)]
theorem o156 (O : Oracle) (R : Jump) (q : Nat) : HoldsAll c156 O R q 0 (d156 O R q) := ⟨e156_0 O R q, e156_1 O R q, trivial⟩
def c157 : MFunc := mkM (compF Tryd.prog (globs2 tabs opq) (fun _ => false) true Tryd.f157) .n
def b157_0 (O : Oracle) (R : Jump) (q : Nat) (x0 x1 : TVal) (h : Heap) : Res1 :=
 vop O (.nilck (.k x0)) h 5 fun x5 h =>
 vfaddr 2 x5 h fun x6 h =>
 vload false 1 x6 h fun x7 h =>
 vbin .eql 0 x7 (kI 0) h fun x8 h =>
 vif x8 (
 vop O (.nilck (.k x0)) h 11 fun x11 h =>
 vfaddr 2 x11 h fun x12 h =>
 vstore 1 x12 x1 h fun _ h =>
 vfin true q [] h)
 (vfin true q [] h)
theorem e157_0 (O : Oracle) (R : Jump) (q : Nat) (x0 x1 : TVal) (h : Heap) : b157_0 O R q x0 x1 h = stepF c157 O R q 0 [x0, x1] h := by kernel_rfl
def d157 : BlkF := fun O R Q => [.s fun a => .s fun b => .z (b157_0 O R Q a b)]
theorem o157 (O : Oracle) (R : Jump) (q : Nat) : HoldsAll c157 O R q 0 (d157 O R q) := ⟨e157_0 O R q, trivial⟩
def c158 : MFunc := mkM (compF Tryd.prog (globs2 tabs opq) (fun _ => false) true Tryd.f158) .n
def b158_0 (O : Oracle) (R : Jump) (q : Nat) (x0 : TVal) (h : Heap) : Res1 :=
 vlen O 0 x0 h 14 fun x14 h =>
 vbin .lss 0 x14 (kI 1) h fun x16 h =>
 vif x16 (
 tcomp (.v (.c (.p (.int .i32 65533)))) fun c0 => tcomp (kI 0) fun c1 => vfin true q [c0, c1] h)
 (vindex x0 (kI 0) h fun x18 h =>
 none)
theorem e158_0 (O : Oracle) (R : Jump) (q : Nat) (x0 : TVal) (h : Heap) : b158_0 O R q x0 h = stepF c158 O R q 0 [x0] h := by kernel_rfl
def d158 : BlkF := fun O R Q => [.s fun a => .z (b158_0 O R Q a)]
theorem o158 (O : Oracle) (R : Jump) (q : Nat) : HoldsAll c158 O R q 0 (d158 O R q) := ⟨e158_0 O R q, trivial⟩
end
end Go.Proofs.YtnlmlcfipbnpgaaDoor.Ab
