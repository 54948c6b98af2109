/- Functions of the given program as the abstract interpreter has them (part 1), printed by a program of our own; each is shown to be what 'compF' makes of the given program's. No condition. -/
import Derived.Test.YtlkejchbcchecaaGreatDoorTabR0
namespace Go.Proofs.YtlkejchbcchecaaGreatDoor.Ab
open Go Go.AI
noncomputable section
set_option linter.all false
set_option linter.unusedVariables false
set_option maxRecDepth 100000
def c94 : MFunc := mkM (compF Tryz.prog (globs2 tabs opq) (fun _ => false) true Tryz.f94) (.s .n (.s .n (.s .n (.m 1 [3, 4, 6] (.s (.s .n (.k (.l 2 [4, 6, 28, 29, 30] .n))) (.m 3 [4, 6] .n))))))
def b94_0 (O : Oracle) (R : Jump) (q : Nat) (x0 x1 : TVal) (h : Heap) : Res1 :=
 vop O (.box (.k x0) false) h 2 fun x2 h =>
 vop O (.box (.k x1) false) h 3 fun x3 h =>
 vop O (.alloc [(.p (.int .i64 0)), (.p (.bool false)), (.p (.int .i64 0)), (.p (.str [])), (.p .nilslice), (.p .nilslice)] false) h 4 fun x4 h =>
 vfaddr 0 x2 h fun x11 h =>
 vload true 6 x11 h fun x12 h =>
 vop O (.alloc [(.p (.int .i64 0)), (.p (.bool false)), (.p (.int .i64 0)), (.p (.str [])), (.p .nilslice), (.p .nilslice)] false) h 6 fun x6 h =>
 vstore 6 x6 x12 h fun _ h =>
 vfaddr 1 x3 h fun x13 h =>
 vload false 1 x13 h fun x14 h =>
 vbin .neq 0 x14 (kS []) h fun x15 h =>
 vif x15 (
 vload true 8 x2 h fun x16 h =>
 vfaddr 1 x3 h fun x17 h =>
 vload false 1 x17 h fun x18 h =>
 vcall O (.v (.c (.func 58 []))) [x16, x18] h 19 fun x19 h =>
 vbin .eql 1 x19 (.v (.c (.p .nilptr))) h fun x21 h =>
 vif x21 (
 vop O (.build [(.p (.int .i64 0)), (.p (.bool false)), (.p (.int .i64 0)), (.p (.str [])), (.p .nilslice), (.p .nilslice)] []) h 22 fun x22 h =>
 vstore 6 x4 x22 h fun _ h =>
 vcell true 6 x4 h fun c0 => tcomp (kI 15) fun c1 => vfin true q [c0, c1] h)
 (vop O (.nilck (.k x19)) h 24 fun x24 h =>
 vfaddr 1 x24 h fun x25 h =>
 vload true 6 x25 h fun x26 h =>
 vstore 6 x6 x26 h fun _ h =>
 R 1 [x3, x4, x6] h))
 (R 1 [x3, x4, x6] h)
theorem e94_0 (O : Oracle) (R : Jump) (q : Nat) (x0 x1 : TVal) (h : Heap) : b94_0 O R q x0 x1 h = stepF c94 O R q 0 [x0, x1] h := by kernel_rfl
def b94_1 (O : Oracle) (R : Jump) (q : Nat) (x3 x4 x6 : TVal) (h : Heap) : Res1 :=
 vfaddr 2 x3 h fun x27 h =>
 vload false 1 x27 h fun x28 h =>
 vlen O 2 x28 h 29 fun x29 h =>
 R 2 [x4, x6, x28, x29, (kI 0)] h
theorem e94_1 (O : Oracle) (R : Jump) (q : Nat) (x3 x4 x6 : TVal) (h : Heap) : b94_1 O R q x3 x4 x6 h = stepF c94 O R q 1 [x3, x4, x6] h := by kernel_rfl
def b94_2 (O : Oracle) (R : Jump) (q : Nat) (x4 x6 x28 x29 x30 : TVal) (h : Heap) : Res1 :=
 vbin .lss 0 x30 x29 h fun x31 h =>
 vif x31 (
 viaddr 1 x28 x30 h fun x32 h =>
 vload false 1 x32 h fun x33 h =>
 vfaddr 4 x6 h fun x34 h =>
 vload false 1 x34 h fun x35 h =>
 vcall O (.v (.c (.func 63 []))) [x35, x33] h 37 fun x37 h =>
 vfaddr 0 x6 h fun x38 h =>
 vload false 1 x38 h fun x39 h =>
 vbin .neq 0 x39 (kI 5) h fun x40 h =>
 vguard x40 false (fun kk => kk x37 h) h fun x42 h =>
 vguard x40 false (fun kk => vbin .lss 0 x42 (kI 0) h kk) h fun x43 h =>
 vop O (.pick (.k x40) (.k (kB true)) (.k x43)) h 44 fun x44 h =>
 vguard x44 false (fun kk => kk x37 h) h fun x46 h =>
 vguard x44 false (fun kk => vfaddr 5 x6 h kk) h fun x47 h =>
 vguard x44 false (fun kk => vload false 1 x47 h kk) h fun x48 h =>
 vguard x44 false (fun kk => vlen O 2 x48 h 49 kk) h fun x49 h =>
 vguard x44 false (fun kk => vbin .geq 0 x46 x49 h kk) h fun x50 h =>
 vop O (.pick (.k x44) (.k (kB true)) (.k x50)) h 51 fun x51 h =>
 vif x51 (
 vop O (.build [(.p (.int .i64 0)), (.p (.bool false)), (.p (.int .i64 0)), (.p (.str [])), (.p .nilslice), (.p .nilslice)] []) h 52 fun x52 h =>
 vstore 6 x4 x52 h fun _ h =>
 vcell true 6 x4 h fun c0 => tcomp (kI 16) fun c1 => vfin true q [c0, c1] h)
 (vfaddr 5 x6 h fun x53 h =>
 vload false 1 x53 h fun x54 h =>
 viaddr 6 x54 x37 h fun x56 h =>
 vload true 6 x56 h fun x57 h =>
 vstore 6 x6 x57 h fun _ h =>
 vbin .add 0 x30 (kI 1) h fun x58 h =>
 R 2 [x4, x6, x28, x29, x58] h))
 (R 3 [x4, x6] h)
theorem e94_2 (O : Oracle) (R : Jump) (q : Nat) (x4 x6 x28 x29 x30 : TVal) (h : Heap) : b94_2 O R q x4 x6 x28 x29 x30 h = stepF c94 O R q 2 [x4, x6, x28, x29, x30] h := by kernel_rfl
def b94_3 (O : Oracle) (R : Jump) (q : Nat) (x4 x6 : TVal) (h : Heap) : Res1 :=
 vload true 6 x6 h fun x59 h =>
 vstore 6 x4 x59 h fun _ h =>
 vcell true 6 x4 h fun c0 => tcomp (kI 0) fun c1 => vfin true q [c0, c1] h
theorem e94_3 (O : Oracle) (R : Jump) (q : Nat) (x4 x6 : TVal) (h : Heap) : b94_3 O R q x4 x6 h = stepF c94 O R q 3 [x4, x6] h := by kernel_rfl
def d94 : BlkF := fun O R Q => [.s fun a => .s fun b => .z (b94_0 O R Q a b), .s fun a => .s fun b => .s fun c => .z (b94_1 O R Q a b c), .s fun a => .s fun b => .s fun c => .s fun d => .s fun e => .z (b94_2 O R Q a b c d e), .s fun a => .s fun b => .z (b94_3 O R Q a b)]
theorem o94 (O : Oracle) (R : Jump) (q : Nat) : HoldsAll c94 O R q 0 (d94 O R q) := ⟨e94_0 O R q, e94_1 O R q, e94_2 O R q, e94_3 O R q, trivial⟩
def c95 : MFunc := mkM (compF Tryz.prog (globs2 tabs opq) (fun _ => false) true Tryz.f95) .n
def b95_0 (O : Oracle) (R : Jump) (q : Nat) (x0 : TVal) (h : Heap) : Res1 :=
 vif x0 (
 tcomp (kS [116, 114, 117, 101]) fun c0 => vfin true q [c0] h)
 (tcomp (kS [102, 97, 108, 115, 101]) fun c0 => vfin true q [c0] h)
theorem e95_0 (O : Oracle) (R : Jump) (q : Nat) (x0 : TVal) (h : Heap) : b95_0 O R q x0 h = stepF c95 O R q 0 [x0] h := by kernel_rfl
def d95 : BlkF := fun O R Q => [.s fun a => .z (b95_0 O R Q a)]
theorem o95 (O : Oracle) (R : Jump) (q : Nat) : HoldsAll c95 O R q 0 (d95 O R q) := ⟨e95_0 O R q, trivial⟩
def c96 : MFunc := mkM (compF Tryz.prog (globs2 tabs opq) (fun _ => false) true Tryz.f96) (.s .n (.s (.s .n (.s (.s .n (.s .n (.s .n (.s .n (.m 1 [0, 5, 6] .n))))) .n)) .n))
def b96_0 (O : Oracle) (R : Jump) (q : Nat) (x0 x1 : TVal) (h : Heap) : Res1 :=
 vbin .eql 0 x1 (kI 10) h fun x11 h =>
 vif x11 (
 vbin .leq 0 (kI 0) x0 h fun x13 h =>
 vguard x13 true (fun kk => kk x0 h) h fun x15 h =>
 vguard x13 true (fun kk => vbin .lss 0 x15 (kI 100) h kk) h fun x16 h =>
 vop O (.pick (.k x13) (.k x16) (.k (kB false))) h 17 fun x17 h =>
 vif x17 (
 vcall O (.v (.c (.func 110 []))) [x0] h 19 fun x19 h =>
 tcomp x19 fun c0 => vfin true q [c0] h)
 (vop O (.alloc [(.p (.int .u8 0)), (.p (.int .u8 0)), (.p (.int .u8 0)), (.p (.int .u8 0)), (.p (.int .u8 0)), (.p (.int .u8 0)), (.p (.int .u8 0)), (.p (.int .u8 0)), (.p (.int .u8 0)), (.p (.int .u8 0)), (.p (.int .u8 0)), (.p (.int .u8 0)), (.p (.int .u8 0)), (.p (.int .u8 0)), (.p (.int .u8 0)), (.p (.int .u8 0)), (.p (.int .u8 0)), (.p (.int .u8 0)), (.p (.int .u8 0)), (.p (.int .u8 0)), (.p (.int .u8 0)), (.p (.int .u8 0)), (.p (.int .u8 0)), (.p (.int .u8 0))] false) h 5 fun x5 h =>
 vtoInt .u64 x0 h fun x21 h =>
 vbin .lss 0 x0 (kI 0) h fun x23 h =>
 vif x23 (
 vop O (.un .neg (.k x21)) h 25 fun x25 h =>
 R 1 [x0, x5, x25] h)
 (R 1 [x0, x5, x21] h)))
 (vtoInt .u64 x0 h fun x46 h =>
 vbin .lss 0 x0 (kI 0) h fun x49 h =>
 vcall O (.v (.c (.func 113 []))) [(.v (.c (.p .nilslice))), x46, x1, x49, (kB false)] h 50 fun x50 h =>
 vext x50 0 h fun x51 h =>
 vext x50 1 h fun x52 h =>
 tcomp x52 fun c0 => vfin true q [c0] h)
theorem e96_0 (O : Oracle) (R : Jump) (q : Nat) (x0 x1 : TVal) (h : Heap) : b96_0 O R q x0 x1 h = stepF c96 O R q 0 [x0, x1] h := by kernel_rfl
def b96_1 (O : Oracle) (R : Jump) (q : Nat) (x0 x5 x6 : TVal) (h : Heap) : Res1 :=
 vcall O (.v (.c (.func 111 []))) [x6] h 27 fun x27 h =>
 vbin .add 0 (kI 1) x27 h fun x29 h =>
 vop O (.sliceA 24 1 (.k x5) (some (.k (kI 1))) (some (.k x29))) h 30 fun x30 h =>
 vcall O (.v (.c (.func 112 []))) [x30, x6] h 32 fun x32 h =>
 vbin .lss 0 x0 (kI 0) h fun x34 h =>
 vif x34 (
 vop O (.iaddrA 24 1 (.k x5) (.k (kI 0))) h 35 fun x35 h =>
 vstore 1 x35 (.v (.c (.p (.int .u8 45)))) h fun _ h =>
 vbin .add 0 (kI 1) x27 h fun x37 h =>
 vop O (.sliceA 24 1 (.k x5) none (some (.k x37))) h 38 fun x38 h =>
 vop O (.toStr (.k x38)) h 39 fun x39 h =>
 tcomp x39 fun c0 => vfin true q [c0] h)
 (vbin .add 0 (kI 1) x27 h fun x41 h =>
 vop O (.sliceA 24 1 (.k x5) (some (.k (kI 1))) (some (.k x41))) h 42 fun x42 h =>
 vop O (.toStr (.k x42)) h 43 fun x43 h =>
 tcomp x43 fun c0 => vfin true q [c0] h)
theorem e96_1 (O : Oracle) (R : Jump) (q : Nat) (x0 x5 x6 : TVal) (h : Heap) : b96_1 O R q x0 x5 x6 h = stepF c96 O R q 1 [x0, x5, x6] h := by kernel_rfl
def d96 : BlkF := fun O R Q => [.s fun a => .s fun b => .z (b96_0 O R Q a b), .s fun a => .s fun b => .s fun c => .z (b96_1 O R Q a b c)]
theorem o96 (O : Oracle) (R : Jump) (q : Nat) : HoldsAll c96 O R q 0 (d96 O R q) := ⟨e96_0 O R q, e96_1 O R q, trivial⟩
def c110 : MFunc := mkM (compF Tryz.prog (globs2 tabs opq) (fun _ => false) true Tryz.f110) .n
def b110_0 (O : Oracle) (R : Jump) (q : Nat) (x0 : TVal) (h : Heap) : Res1 :=
 vbin .lss 0 x0 (kI 10) h fun x4 h =>
 vif x4 (
 vbin .add 0 x0 (kI 1) h fun x7 h =>
 vop O (.slice 0 true (.k (kS [48, 49, 50, 51, 52, 53, 54, 55, 56, 57, 97, 98, 99, 100, 101, 102, 103, 104, 105, 106, 107, 108, 109, 110, 111, 112, 113, 114, 115, 116, 117, 118, 119, 120, 121, 122])) (some (.k x0)) (some (.k x7)) none) h 8 fun x8 h =>
 tcomp x8 fun c0 => vfin true q [c0] h)
 (vbin .mul 0 x0 (kI 2) h fun x10 h =>
 vbin .mul 0 x0 (kI 2) h fun x12 h =>
 vbin .add 0 x12 (kI 2) h fun x13 h =>
 vop O (.slice 0 true (.k (kS z53fdd7c2)) (some (.k x10)) (some (.k x13)) none) h 14 fun x14 h =>
 tcomp x14 fun c0 => vfin true q [c0] h)
theorem e110_0 (O : Oracle) (R : Jump) (q : Nat) (x0 : TVal) (h : Heap) : b110_0 O R q x0 h = stepF c110 O R q 0 [x0] h := by kernel_rfl
def d110 : BlkF := fun O R Q => [.s fun a => .z (b110_0 O R Q a)]
theorem o110 (O : Oracle) (R : Jump) (q : Nat) : HoldsAll c110 O R q 0 (d110 O R q) := ⟨e110_0 O R q, trivial⟩
def c111 : MFunc := mkM (compF Tryz.prog (globs2 tabs opq) (fun _ => false) true Tryz.f111) .n
def b111_0 (O : Oracle) (R : Jump) (q : Nat) (x0 : TVal) (h : Heap) : Res1 :=
 vcall O (.v (.c (.func 125 []))) [x0] h 5 fun x5 h =>
 vcall O (.v (.c (.func 124 []))) [x5] h 6 fun x6 h =>
 vop O (.iaddrA 20 1 (.k (.v (.c (.p (.pptr [(.int .u64 1), (.int .u64 10), (.int .u64 100), (.int .u64 1000), (.int .u64 10000), (.int .u64 100000), (.int .u64 1000000), (.int .u64 10000000), (.int .u64 100000000), (.int .u64 1000000000), (.int .u64 10000000000), (.int .u64 100000000000), (.int .u64 1000000000000), (.int .u64 10000000000000), (.int .u64 100000000000000), (.int .u64 1000000000000000), (.int .u64 10000000000000000), (.int .u64 100000000000000000), (.int .u64 1000000000000000000), (.int .u64 10000000000000000000)] 0))))) (.k x6)) h 10 fun x10 h =>
 vload false 1 x10 h fun x11 h =>
 vbin .geq 0 x0 x11 h fun x12 h =>
 vcall O (.v (.c (.func 126 []))) [x12] h 13 fun x13 h =>
 vbin .add 0 x6 x13 h fun x14 h =>
 tcomp x14 fun c0 => vfin true q [c0] h
theorem e111_0 (O : Oracle) (R : Jump) (q : Nat) (x0 : TVal) (h : Heap) : b111_0 O R q x0 h = stepF c111 O R q 0 [x0] h := by kernel_rfl
def d111 : BlkF := fun O R Q => [.s fun a => .z (b111_0 O R Q a)]
theorem o111 (O : Oracle) (R : Jump) (q : Nat) : HoldsAll c111 O R q 0 (d111 O R q) := ⟨e111_0 O R q, trivial⟩
def c112 : MFunc := mkM (compF Tryz.prog (globs2 tabs opq) (fun _ => false) true Tryz.f112) (.s .n (.s (.k (.l 1 [0, 1, 4] .n)) (.m 2 [0, 1, 4] (.s .n (.s .n (.m 3 [0, 4, 12] (.s .n (.m 4 [0, 4, 12] .n))))))))
def b112_0 (O : Oracle) (R : Jump) (q : Nat) (x0 x1 : TVal) (h : Heap) : Res1 :=
 vlen O 2 x0 h 18 fun x18 h =>
 R 1 [x0, x1, x18] h
theorem e112_0 (O : Oracle) (R : Jump) (q : Nat) (x0 x1 : TVal) (h : Heap) : b112_0 O R q x0 x1 h = stepF c112 O R q 0 [x0, x1] h := by kernel_rfl
def b112_1 (O : Oracle) (R : Jump) (q : Nat) (x0 x1 x4 : TVal) (h : Heap) : Res1 :=
 vbin .geq 0 x4 (kI 8) h fun x20 h =>
 vif x20 (
 vbin .rem 0 x1 (.v (.c (.p (.int .u64 100000000)))) h fun x22 h =>
 vtoInt .u32 x22 h fun x23 h =>
 vbin .quo 0 x1 (.v (.c (.p (.int .u64 100000000)))) h fun x25 h =>
 vbin .quo 0 x23 (.v (.c (.p (.int .u32 10000)))) h fun x27 h =>
 vbin .rem 0 x23 (.v (.c (.p (.int .u32 10000)))) h fun x29 h =>
 vbin .quo 0 x29 (.v (.c (.p (.int .u32 100)))) h fun x31 h =>
 vbin .mul 0 x31 (.v (.c (.p (.int .u32 2)))) h fun x32 h =>
 vbin .rem 0 x29 (.v (.c (.p (.int .u32 100)))) h fun x34 h =>
 vbin .mul 0 x34 (.v (.c (.p (.int .u32 2)))) h fun x35 h =>
 vbin .quo 0 x27 (.v (.c (.p (.int .u32 100)))) h fun x37 h =>
 vbin .mul 0 x37 (.v (.c (.p (.int .u32 2)))) h fun x38 h =>
 vbin .rem 0 x27 (.v (.c (.p (.int .u32 100)))) h fun x40 h =>
 vbin .mul 0 x40 (.v (.c (.p (.int .u32 2)))) h fun x41 h =>
 vbin .sub 0 x4 (kI 1) h fun x44 h =>
 vbin .sub 0 x4 (kI 2) h fun x47 h =>
 vbin .add 0 x35 (.v (.c (.p (.int .u32 1)))) h fun x49 h =>
 vindex (kS z53fdd7c2) x49 h fun x50 h =>
 vindex (kS z53fdd7c2) x35 h fun x52 h =>
 viaddr 1 x0 x44 h fun x53 h =>
 vstore 1 x53 x50 h fun _ h =>
 viaddr 1 x0 x47 h fun x54 h =>
 vstore 1 x54 x52 h fun _ h =>
 vbin .sub 0 x4 (kI 3) h fun x57 h =>
 vbin .sub 0 x4 (kI 4) h fun x60 h =>
 vbin .add 0 x32 (.v (.c (.p (.int .u32 1)))) h fun x62 h =>
 vindex (kS z53fdd7c2) x62 h fun x63 h =>
 vindex (kS z53fdd7c2) x32 h fun x65 h =>
 viaddr 1 x0 x57 h fun x66 h =>
 vstore 1 x66 x63 h fun _ h =>
 viaddr 1 x0 x60 h fun x67 h =>
 vstore 1 x67 x65 h fun _ h =>
 vbin .sub 0 x4 (kI 5) h fun x70 h =>
 vbin .sub 0 x4 (kI 6) h fun x73 h =>
 vbin .add 0 x41 (.v (.c (.p (.int .u32 1)))) h fun x75 h =>
 vindex (kS z53fdd7c2) x75 h fun x76 h =>
 vindex (kS z53fdd7c2) x41 h fun x78 h =>
 viaddr 1 x0 x70 h fun x79 h =>
 vstore 1 x79 x76 h fun _ h =>
 viaddr 1 x0 x73 h fun x80 h =>
 vstore 1 x80 x78 h fun _ h =>
 vbin .sub 0 x4 (kI 7) h fun x83 h =>
 vbin .sub 0 x4 (kI 8) h fun x86 h =>
 vbin .add 0 x38 (.v (.c (.p (.int .u32 1)))) h fun x88 h =>
 vindex (kS z53fdd7c2) x88 h fun x89 h =>
 vindex (kS z53fdd7c2) x38 h fun x91 h =>
 viaddr 1 x0 x83 h fun x92 h =>
 vstore 1 x92 x89 h fun _ h =>
 viaddr 1 x0 x86 h fun x93 h =>
 vstore 1 x93 x91 h fun _ h =>
 vbin .sub 0 x4 (kI 8) h fun x95 h =>
 R 1 [x0, x25, x95] h)
 (R 2 [x0, x1, x4] h)
theorem e112_1 (O : Oracle) (R : Jump) (q : Nat) (x0 x1 x4 : TVal) (h : Heap) : b112_1 O R q x0 x1 x4 h = stepF c112 O R q 1 [x0, x1, x4] h := by kernel_rfl
def b112_2 (O : Oracle) (R : Jump) (q : Nat) (x0 x1 x4 : TVal) (h : Heap) : Res1 :=
 vtoInt .u32 x1 h fun x97 h =>
 vbin .geq 0 x4 (kI 4) h fun x99 h =>
 vif x99 (
 vbin .rem 0 x97 (.v (.c (.p (.int .u32 10000)))) h fun x101 h =>
 vbin .quo 0 x97 (.v (.c (.p (.int .u32 10000)))) h fun x103 h =>
 vbin .quo 0 x101 (.v (.c (.p (.int .u32 100)))) h fun x105 h =>
 vbin .mul 0 x105 (.v (.c (.p (.int .u32 2)))) h fun x106 h =>
 vbin .rem 0 x101 (.v (.c (.p (.int .u32 100)))) h fun x108 h =>
 vbin .mul 0 x108 (.v (.c (.p (.int .u32 2)))) h fun x109 h =>
 vbin .sub 0 x4 (kI 1) h fun x112 h =>
 vbin .sub 0 x4 (kI 2) h fun x115 h =>
 vbin .add 0 x109 (.v (.c (.p (.int .u32 1)))) h fun x117 h =>
 vindex (kS z53fdd7c2) x117 h fun x118 h =>
 vindex (kS z53fdd7c2) x109 h fun x120 h =>
 viaddr 1 x0 x112 h fun x121 h =>
 vstore 1 x121 x118 h fun _ h =>
 viaddr 1 x0 x115 h fun x122 h =>
 vstore 1 x122 x120 h fun _ h =>
 vbin .sub 0 x4 (kI 3) h fun x125 h =>
 vbin .sub 0 x4 (kI 4) h fun x128 h =>
 vbin .add 0 x106 (.v (.c (.p (.int .u32 1)))) h fun x130 h =>
 vindex (kS z53fdd7c2) x130 h fun x131 h =>
 vindex (kS z53fdd7c2) x106 h fun x133 h =>
 viaddr 1 x0 x125 h fun x134 h =>
 vstore 1 x134 x131 h fun _ h =>
 viaddr 1 x0 x128 h fun x135 h =>
 vstore 1 x135 x133 h fun _ h =>
 vbin .sub 0 x4 (kI 4) h fun x137 h =>
 R 3 [x0, x137, x103] h)
 (R 3 [x0, x4, x97] h)
theorem e112_2 (O : Oracle) (R : Jump) (q : Nat) (x0 x1 x4 : TVal) (h : Heap) : b112_2 O R q x0 x1 x4 h = stepF c112 O R q 2 [x0, x1, x4] h := by kernel_rfl
def b112_3 (O : Oracle) (R : Jump) (q : Nat) (x0 x4 x12 : TVal) (h : Heap) : Res1 :=
 vbin .geq 0 x4 (kI 2) h fun x139 h =>
 vif x139 (
 vbin .rem 0 x12 (.v (.c (.p (.int .u32 100)))) h fun x141 h =>
 vbin .mul 0 x141 (.v (.c (.p (.int .u32 2)))) h fun x142 h =>
 vbin .quo 0 x12 (.v (.c (.p (.int .u32 100)))) h fun x144 h =>
 vbin .sub 0 x4 (kI 1) h fun x147 h =>
 vbin .sub 0 x4 (kI 2) h fun x150 h =>
 vbin .add 0 x142 (.v (.c (.p (.int .u32 1)))) h fun x152 h =>
 vindex (kS z53fdd7c2) x152 h fun x153 h =>
 vindex (kS z53fdd7c2) x142 h fun x155 h =>
 viaddr 1 x0 x147 h fun x156 h =>
 vstore 1 x156 x153 h fun _ h =>
 viaddr 1 x0 x150 h fun x157 h =>
 vstore 1 x157 x155 h fun _ h =>
 vbin .sub 0 x4 (kI 2) h fun x159 h =>
 R 4 [x0, x159, x144] h)
 (R 4 [x0, x4, x12] h)
theorem e112_3 (O : Oracle) (R : Jump) (q : Nat) (x0 x4 x12 : TVal) (h : Heap) : b112_3 O R q x0 x4 x12 h = stepF c112 O R q 3 [x0, x4, x12] h := by kernel_rfl
def b112_4 (O : Oracle) (R : Jump) (q : Nat) (x0 x4 x12 : TVal) (h : Heap) : Res1 :=
 vbin .gtr 0 x4 (kI 0) h fun x161 h =>
 vif x161 (
 vbin .add 0 (.v (.c (.p (.int .u32 48)))) x12 h fun x164 h =>
 vtoInt .u8 x164 h fun x165 h =>
 viaddr 1 x0 (kI 0) h fun x166 h =>
 vstore 1 x166 x165 h fun _ h =>
 vfin true q [] h)
 (vfin true q [] h)
theorem e112_4 (O : Oracle) (R : Jump) (q : Nat) (x0 x4 x12 : TVal) (h : Heap) : b112_4 O R q x0 x4 x12 h = stepF c112 O R q 4 [x0, x4, x12] h := by kernel_rfl
def d112 : BlkF := fun O R Q => [.s fun a => .s fun b => .z (b112_0 O R Q a b), .s fun a => .s fun b => .s fun c => .z (b112_1 O R Q a b c), .s fun a => .s fun b => .s fun c => .z (b112_2 O R Q a b c), .s fun a => .s fun b => .s fun c => .z (b112_3 O R Q a b c), .s fun a => .s fun b => .s fun c => .z (b112_4 O R Q a b c)]
theorem o112 (O : Oracle) (R : Jump) (q : Nat) : HoldsAll c112 O R q 0 (d112 O R q) := ⟨e112_0 O R q, e112_1 O R q, e112_2 O R q, e112_3 O R q, e112_4 O R q, trivial⟩
def c124 : MFunc := mkM (compF Tryz.prog (globs2 tabs opq) (fun _ => false) true Tryz.f124) .n
def b124_0 (O : Oracle) (R : Jump) (q : Nat) (x0 : TVal) (h : Heap) : Res1 :=
 vbin .mul 0 x0 (kI 78913) h fun x4 h =>
 vbin .shr 0 x4 (.v (.c (.p (.int .u64 18)))) h fun x5 h =>
 tcomp x5 fun c0 => vfin true q [c0] h
theorem e124_0 (O : Oracle) (R : Jump) (q : Nat) (x0 : TVal) (h : Heap) : b124_0 O R q x0 h = stepF c124 O R q 0 [x0] h := by kernel_rfl
def d124 : BlkF := fun O R Q => [.s fun a => .z (b124_0 O R Q a)]
theorem o124 (O : Oracle) (R : Jump) (q : Nat) : HoldsAll c124 O R q 0 (d124 O R q) := ⟨e124_0 O R q, trivial⟩
def c125 : MFunc := mkM (compF Tryz.prog (globs2 tabs opq) (fun _ => false) true Tryz.f125) (.s .n (.s .n (.m 1 [0, 2] (.s .n (.m 2 [0, 2] (.s .n (.m 3 [0, 2] .n)))))))
def b125_0 (O : Oracle) (R : Jump) (q : Nat) (x0 : TVal) (h : Heap) : Res1 :=
 vbin .geq 0 x0 (.v (.c (.p (.int .u64 4294967296)))) h fun x4 h =>
 vif x4 (
 vbin .shr 0 x0 (.v (.c (.p (.int .u64 32)))) h fun x6 h =>
 R 1 [x6, (kI 32)] h)
 (R 1 [x0, (kI 0)] h)
theorem e125_0 (O : Oracle) (R : Jump) (q : Nat) (x0 : TVal) (h : Heap) : b125_0 O R q x0 h = stepF c125 O R q 0 [x0] h := by kernel_rfl
def b125_1 (O : Oracle) (R : Jump) (q : Nat) (x0 x2 : TVal) (h : Heap) : Res1 :=
 vbin .geq 0 x0 (.v (.c (.p (.int .u64 65536)))) h fun x8 h =>
 vif x8 (
 vbin .shr 0 x0 (.v (.c (.p (.int .u64 16)))) h fun x10 h =>
 vbin .add 0 x2 (kI 16) h fun x12 h =>
 R 2 [x10, x12] h)
 (R 2 [x0, x2] h)
theorem e125_1 (O : Oracle) (R : Jump) (q : Nat) (x0 x2 : TVal) (h : Heap) : b125_1 O R q x0 x2 h = stepF c125 O R q 1 [x0, x2] h := by kernel_rfl
def b125_2 (O : Oracle) (R : Jump) (q : Nat) (x0 x2 : TVal) (h : Heap) : Res1 :=
 vbin .geq 0 x0 (.v (.c (.p (.int .u64 256)))) h fun x14 h =>
 vif x14 (
 vbin .shr 0 x0 (.v (.c (.p (.int .u64 8)))) h fun x16 h =>
 vbin .add 0 x2 (kI 8) h fun x18 h =>
 R 3 [x16, x18] h)
 (R 3 [x0, x2] h)
theorem e125_2 (O : Oracle) (R : Jump) (q : Nat) (x0 x2 : TVal) (h : Heap) : b125_2 O R q x0 x2 h = stepF c125 O R q 2 [x0, x2] h := by kernel_rfl
def b125_3 (O : Oracle) (R : Jump) (q : Nat) (x0 x2 : TVal) (h : Heap) : Res1 :=
 vtoInt .u8 x0 h fun x21 h =>
 vindex (kS z0a4518d3) x21 h fun x22 h =>
 vtoInt .i64 x22 h fun x23 h =>
 vbin .add 0 x2 x23 h fun x24 h =>
 tcomp x24 fun c0 => vfin true q [c0] h
theorem e125_3 (O : Oracle) (R : Jump) (q : Nat) (x0 x2 : TVal) (h : Heap) : b125_3 O R q x0 x2 h = stepF c125 O R q 3 [x0, x2] h := by kernel_rfl
def d125 : BlkF := fun O R Q => [.s fun a => .z (b125_0 O R Q a), .s fun a => .s fun b => .z (b125_1 O R Q a b), .s fun a => .s fun b => .z (b125_2 O R Q a b), .s fun a => .s fun b => .z (b125_3 O R Q a b)]
theorem o125 (O : Oracle) (R : Jump) (q : Nat) : HoldsAll c125 O R q 0 (d125 O R q) := ⟨e125_0 O R q, e125_1 O R q, e125_2 O R q, e125_3 O R q, trivial⟩
def c126 : MFunc := mkM (compF Tryz.prog (globs2 tabs opq) (fun _ => false) true Tryz.f126) .n
def b126_0 (O : Oracle) (R : Jump) (q : Nat) (x0 : TVal) (h : Heap) : Res1 :=
 vif x0 (
 tcomp (kI 1) fun c0 => vfin true q [c0] h)
 (tcomp (kI 0) fun c0 => vfin true q [c0] h)
theorem e126_0 (O : Oracle) (R : Jump) (q : Nat) (x0 : TVal) (h : Heap) : b126_0 O R q x0 h = stepF c126 O R q 0 [x0] h := by kernel_rfl
def d126 : BlkF := fun O R Q => [.s fun a => .z (b126_0 O R Q a)]
theorem o126 (O : Oracle) (R : Jump) (q : Nat) : HoldsAll c126 O R q 0 (d126 O R q) := ⟨e126_0 O R q, trivial⟩
def c132 : MFunc := mkM (compF Tryz.prog (globs2 tabs opq) (fun _ => false) true Tryz.f132) (.s .n (.s .n (.s .n (.s .n (.s .n (.s .n (.s .n (.s .n (.s (.k (.l 1 [0, 1, 5, 6, 7, 8, 9, 10] (.s .n (.k (.s .n (.m 2 [0, 1, 5, 6, 7, 8, 9, 10] .n)))))) .n)))))))))
def b132_0 (O : Oracle) (R : Jump) (q : Nat) (x0 x1 : TVal) (h : Heap) : Res1 :=
 vlen O 0 x1 h 15 fun x15 h =>
 vbin .eql 0 x15 (kI 0) h fun x18 h =>
 vguard x18 false (fun kk => kk x1 h) h fun x20 h =>
 vguard x18 false (fun kk => kk x0 h) h fun x21 h =>
 vguard x18 false (fun kk => vbin .eql 0 x20 x21 h kk) h fun x22 h =>
 vop O (.pick (.k x18) (.k (kB true)) (.k x22)) h 23 fun x23 h =>
 vif x23 (
 tcomp (kI 0) fun c0 => vfin true q [c0] h)
 (vbin .eql 0 x15 (kI 1) h fun x26 h =>
 vif x26 (
 vindex x1 (kI 0) h fun x29 h =>
 vcall O (.v (.c (.func 136 []))) [x0, x29] h 30 fun x30 h =>
 tcomp x30 fun c0 => vfin true q [c0] h)
 (vlen O 0 x0 h 34 fun x34 h =>
 vbin .geq 0 x15 x34 h fun x35 h =>
 vif x35 (
 tcomp (kI (-1)) fun c0 => vfin true q [c0] h)
 (vload false 1 (.v (.c (.p (.pptr [(.sym .i64 63 (.ofNat 0) (.ofNat 1) (.ofNat 0))] 0)))) h fun x38 h =>
 vbin .leq 0 x15 x38 h fun x39 h =>
 vguard x39 true (fun kk => kk x0 h) h fun x41 h =>
 vguard x39 true (fun kk => vlen O 0 x41 h 42 kk) h fun x42 h =>
 vguard x39 true (fun kk => vbin .leq 0 x42 (kI 64) h kk) h fun x43 h =>
 vop O (.pick (.k x39) (.k x43) (.k (kB false))) h 44 fun x44 h =>
 vif x44 (
 vcall O (.v (.c (.func 137 []))) [x0, x1] h 47 fun x47 h =>
 tcomp x47 fun c0 => vfin true q [c0] h)
 (vindex x1 (kI 0) h fun x49 h =>
 vindex x1 (kI 1) h fun x51 h =>
 vlen O 0 x0 h 53 fun x53 h =>
 vbin .sub 0 x53 x15 h fun x55 h =>
 vbin .add 0 x55 (kI 1) h fun x56 h =>
 R 1 [x0, x1, x15, x49, x51, (kI 0), x56, (kI 0)] h))))
theorem e132_0 (O : Oracle) (R : Jump) (q : Nat) (x0 x1 : TVal) (h : Heap) : b132_0 O R q x0 x1 h = stepF c132 O R q 0 [x0, x1] h := by kernel_rfl
def b132_1 (O : Oracle) (R : Jump) (q : Nat) (x0 x1 x5 x6 x7 x8 x9 x10 : TVal) (h : Heap) : Res1 :=
 vbin .lss 0 x8 x9 h fun x59 h =>
 vif x59 (
 vindex x0 x8 h fun x62 h =>
 vbin .neq 0 x62 x6 h fun x64 h =>
 vif x64 (
 vbin .add 0 x8 (kI 1) h fun x67 h =>
 vop O (.slice 0 true (.k x0) (some (.k x67)) (some (.k x9)) none) h 69 fun x69 h =>
 vcall O (.v (.c (.func 136 []))) [x69, x6] h 71 fun x71 h =>
 vbin .lss 0 x71 (kI 0) h fun x73 h =>
 vif x73 (
 tcomp (kI (-1)) fun c0 => vfin true q [c0] h)
 (vbin .add 0 x71 (kI 1) h fun x76 h =>
 vbin .add 0 x8 x76 h fun x77 h =>
 R 2 [x0, x1, x5, x6, x7, x77, x9, x10] h))
 (R 2 [x0, x1, x5, x6, x7, x8, x9, x10] h))
 (tcomp (kI (-1)) fun c0 => vfin true q [c0] h)
theorem e132_1 (O : Oracle) (R : Jump) (q : Nat) (x0 x1 x5 x6 x7 x8 x9 x10 : TVal) (h : Heap) : b132_1 O R q x0 x1 x5 x6 x7 x8 x9 x10 h = stepF c132 O R q 1 [x0, x1, x5, x6, x7, x8, x9, x10] h := by kernel_rfl
def b132_2 (O : Oracle) (R : Jump) (q : Nat) (x0 x1 x5 x6 x7 x8 x9 x10 : TVal) (h : Heap) : Res1 :=
 vbin .add 0 x8 (kI 1) h fun x80 h =>
 vindex x0 x80 h fun x81 h =>
 vbin .eql 0 x81 x7 h fun x83 h =>
 vguard x83 true (fun kk => kk x0 h) h fun x85 h =>
 vguard x83 true (fun kk => kk x8 h) h fun x86 h =>
 vguard x83 true (fun kk => kk x8 h) h fun x87 h =>
 vguard x83 true (fun kk => kk x5 h) h fun x88 h =>
 vguard x83 true (fun kk => vbin .add 0 x87 x88 h kk) h fun x89 h =>
 vguard x83 true (fun kk => vop O (.slice 0 true (.k x85) (some (.k x86)) (some (.k x89)) none) h 90 kk) h fun x90 h =>
 vguard x83 true (fun kk => kk x1 h) h fun x91 h =>
 vguard x83 true (fun kk => vbin .eql 0 x90 x91 h kk) h fun x92 h =>
 vop O (.pick (.k x83) (.k x92) (.k (kB false))) h 93 fun x93 h =>
 vif x93 (
 tcomp x8 fun c0 => vfin true q [c0] h)
 (vbin .add 0 x8 (kI 1) h fun x96 h =>
 vbin .add 0 x10 (kI 1) h fun x98 h =>
 vload false 1 (.v (.c (.p (.pptr [(.sym .i64 63 (.ofNat 0) (.ofNat 1) (.ofNat 0))] 0)))) h fun x100 h =>
 vbin .leq 0 x5 x100 h fun x101 h =>
 vguard x101 true (fun kk => kk x98 h) h fun x103 h =>
 vguard x101 true (fun kk => kk x96 h) h fun x104 h =>
 vguard x101 true (fun kk => vcall O (.v (.c (.func 138 []))) [x104] h 105 kk) h fun x105 h =>
 vguard x101 true (fun kk => vbin .gtr 0 x103 x105 h kk) h fun x106 h =>
 vop O (.pick (.k x101) (.k x106) (.k (kB false))) h 107 fun x107 h =>
 vif x107 (
 vop O (.slice 0 true (.k x0) (some (.k x96)) none none) h 110 fun x110 h =>
 vcall O (.v (.c (.func 137 []))) [x110, x1] h 112 fun x112 h =>
 vbin .geq 0 x112 (kI 0) h fun x114 h =>
 vif x114 (
 vbin .add 0 x112 x96 h fun x117 h =>
 tcomp x117 fun c0 => vfin true q [c0] h)
 (tcomp (kI (-1)) fun c0 => vfin true q [c0] h))
 (vload false 1 (.v (.c (.p (.pptr [(.sym .i64 63 (.ofNat 0) (.ofNat 1) (.ofNat 0))] 0)))) h fun x119 h =>
 vbin .gtr 0 x5 x119 h fun x120 h =>
 vguard x120 true (fun kk => kk x98 h) h fun x122 h =>
 vguard x120 true (fun kk => kk x96 h) h fun x123 h =>
 vguard x120 true (fun kk => vbin .shr 0 x123 (.v (.c (.p (.int .u64 4)))) h kk) h fun x124 h =>
 vguard x120 true (fun kk => vbin .add 0 (kI 4) x124 h kk) h fun x125 h =>
 vguard x120 true (fun kk => vbin .geq 0 x122 x125 h kk) h fun x126 h =>
 vop O (.pick (.k x120) (.k x126) (.k (kB false))) h 127 fun x127 h =>
 vguard x127 true (fun kk => kk x96 h) h fun x129 h =>
 vguard x127 true (fun kk => kk x9 h) h fun x130 h =>
 vguard x127 true (fun kk => vbin .lss 0 x129 x130 h kk) h fun x131 h =>
 vop O (.pick (.k x127) (.k x131) (.k (kB false))) h 132 fun x132 h =>
 vif x132 (
 vop O (.slice 0 true (.k x0) (some (.k x96)) none none) h 135 fun x135 h =>
 vcall O (.v (.c (.func 139 []))) [x135, x1] h 137 fun x137 h =>
 vbin .lss 0 x137 (kI 0) h fun x139 h =>
 vif x139 (
 tcomp (kI (-1)) fun c0 => vfin true q [c0] h)
 (vbin .add 0 x96 x137 h fun x142 h =>
 tcomp x142 fun c0 => vfin true q [c0] h))
 (R 1 [x0, x1, x5, x6, x7, x96, x9, x98] h)))
theorem e132_2 (O : Oracle) (R : Jump) (q : Nat) (x0 x1 x5 x6 x7 x8 x9 x10 : TVal) (h : Heap) : b132_2 O R q x0 x1 x5 x6 x7 x8 x9 x10 h = stepF c132 O R q 2 [x0, x1, x5, x6, x7, x8, x9, x10] h := by kernel_rfl
def d132 : BlkF := fun O R Q => [.s fun a => .s fun b => .z (b132_0 O R Q a b), .s fun a => .s fun b => .s fun c => .s fun d => .s fun e => .s fun f => .s fun g => .s fun h => .z (b132_1 O R Q a b c d e f g h), .s fun a => .s fun b => .s fun c => .s fun d => .s fun e => .s fun f => .s fun g => .s fun h => .z (b132_2 O R Q a b c d e f g h)]
theorem o132 (O : Oracle) (R : Jump) (q : Nat) : HoldsAll c132 O R q 0 (d132 O R q) := ⟨e132_0 O R q, e132_1 O R q, e132_2 O R q, trivial⟩
end
end Go.Proofs.YtlkejchbcchecaaGreatDoor.Ab
