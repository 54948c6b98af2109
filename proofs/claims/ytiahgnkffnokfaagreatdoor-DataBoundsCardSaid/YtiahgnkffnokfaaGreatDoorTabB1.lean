/- Functions of the given program as the abstract interpreter has them (part 1), printed by a program of our own; each is shown to be what 'compF' makes of the given program's. No condition. -/
import Derived.Test.YtiahgnkffnokfaaGreatDoorTabB0
namespace Go.Proofs.YtiahgnkffnokfaaGreatDoor.Ab
open Go Go.AI
set_option linter.all false
set_option linter.unusedVariables false
set_option maxRecDepth 100000
/- slices.symMergeCmpFunc[sprue/data.entry] -/
noncomputable def c126 : MFunc := mkM (compF Tryz.prog (globs2 tabs opq) (fun _ => false) true Tryz.f126) (.s (.s .n (.s (.s .n (.s .n (.s (.k (.l 1 [0, 1, 4, 10, 11] .n)) (.m 2 [0, 1, 10] (.s (.s .n (.k (.l 3 [0, 10, 13] .n))) (.m 4 [] .n)))))) .n)) (.m 5 [0, 1, 2, 3, 4] (.s (.s .n (.s (.s .n (.s .n (.s (.k (.l 6 [0, 2, 4, 14, 15] .n)) (.m 7 [0, 2, 14] (.s (.s .n (.k (.l 8 [0, 14, 17] .n))) (.m 9 [] .n)))))) .n)) (.m 10 [0, 1, 2, 3, 4] (.s .n (.s .n (.s .n (.s .n (.m 11 [0, 1, 2, 3, 4, 18, 19, 20, 21] (.s .n (.s (.k (.l 12 [0, 1, 2, 3, 4, 18, 19, 20, 21, 22] .n)) (.m 13 [0, 1, 2, 3, 4, 18, 19, 20] (.s .n (.s .n (.m 14 [0, 1, 3, 4, 18, 20, 24] (.s .n (.m 15 [0, 3, 4, 18, 24] .n)))))))))))))))))
noncomputable def b126_0 (O : Oracle) (R : Jump) (q : Nat) (x0 x1 x2 x3 x4 : TVal) (h : Heap) : Res1 :=
 vbin .sub 0 x2 x1 h fun x27 h =>
 vbin .eql 0 x27 (kI 1) h fun x28 h =>
 vif x28 (
 R 1 [x0, x1, x4, x2, x3] h)
 (R 5 [x0, x1, x2, x3, x4] h)
theorem e126_0 (O : Oracle) (R : Jump) (q : Nat) (x0 x1 x2 x3 x4 : TVal) (h : Heap) : b126_0 O R q x0 x1 x2 x3 x4 h = stepF c126 O R q 0 [x0, x1, x2, x3, x4] h := by kernel_rfl
noncomputable def b126_1 (O : Oracle) (R : Jump) (q : Nat) (x0 x1 x4 x10 x11 : TVal) (h : Heap) : Res1 :=
 vbin .lss 0 x10 x11 h fun x33 h =>
 vif x33 (
 vbin .add 0 x10 x11 h fun x36 h =>
 vtoInt .u64 x36 h fun x37 h =>
 vbin .shr 0 x37 (.v (.c (.p (.int .u64 1)))) h fun x38 h =>
 vtoInt .i64 x38 h fun x39 h =>
 viaddr 7 x0 x39 h fun x43 h =>
 vload true 7 x43 h fun x44 h =>
 viaddr 7 x0 x1 h fun x47 h =>
 vload true 7 x47 h fun x48 h =>
 vcall O x4 [x44, x48] h 49 fun x49 h =>
 vbin .lss 0 x49 (kI 0) h fun x50 h =>
 vif x50 (
 vbin .add 0 x39 (kI 1) h fun x52 h =>
 R 1 [x0, x1, x4, x52, x11] h)
 (R 1 [x0, x1, x4, x10, x39] h))
 (R 2 [x0, x1, x10] h)
theorem e126_1 (O : Oracle) (R : Jump) (q : Nat) (x0 x1 x4 x10 x11 : TVal) (h : Heap) : b126_1 O R q x0 x1 x4 x10 x11 h = stepF c126 O R q 1 [x0, x1, x4, x10, x11] h := by kernel_rfl
noncomputable def b126_2 (O : Oracle) (R : Jump) (q : Nat) (x0 x1 x10 : TVal) (h : Heap) : Res1 :=
 R 3 [x0, x10, x1] h
theorem e126_2 (O : Oracle) (R : Jump) (q : Nat) (x0 x1 x10 : TVal) (h : Heap) : b126_2 O R q x0 x1 x10 h = stepF c126 O R q 2 [x0, x1, x10] h := by kernel_rfl
noncomputable def b126_3 (O : Oracle) (R : Jump) (q : Nat) (x0 x10 x13 : TVal) (h : Heap) : Res1 :=
 vbin .sub 0 x10 (kI 1) h fun x57 h =>
 vbin .lss 0 x13 x57 h fun x58 h =>
 vif x58 (
 vbin .add 0 x13 (kI 1) h fun x65 h =>
 vbin .add 0 x13 (kI 1) h fun x68 h =>
 viaddr 7 x0 x68 h fun x69 h =>
 vload true 7 x69 h fun x70 h =>
 viaddr 7 x0 x13 h fun x73 h =>
 vload true 7 x73 h fun x74 h =>
 viaddr 7 x0 x13 h fun x75 h =>
 vstore 7 x75 x70 h fun _ h =>
 viaddr 7 x0 x65 h fun x76 h =>
 vstore 7 x76 x74 h fun _ h =>
 vbin .add 0 x13 (kI 1) h fun x60 h =>
 R 3 [x0, x10, x60] h)
 (R 4 [] h)
theorem e126_3 (O : Oracle) (R : Jump) (q : Nat) (x0 x10 x13 : TVal) (h : Heap) : b126_3 O R q x0 x10 x13 h = stepF c126 O R q 3 [x0, x10, x13] h := by kernel_rfl
noncomputable def b126_4 (O : Oracle) (R : Jump) (q : Nat) (h : Heap) : Res1 :=
 vfin true q [] h
theorem e126_4 (O : Oracle) (R : Jump) (q : Nat) (h : Heap) : b126_4 O R q  h = stepF c126 O R q 4 [] h := by kernel_rfl
noncomputable def b126_5 (O : Oracle) (R : Jump) (q : Nat) (x0 x1 x2 x3 x4 : TVal) (h : Heap) : Res1 :=
 vbin .sub 0 x3 x2 h fun x79 h =>
 vbin .eql 0 x79 (kI 1) h fun x80 h =>
 vif x80 (
 R 6 [x0, x2, x4, x1, x2] h)
 (R 10 [x0, x1, x2, x3, x4] h)
theorem e126_5 (O : Oracle) (R : Jump) (q : Nat) (x0 x1 x2 x3 x4 : TVal) (h : Heap) : b126_5 O R q x0 x1 x2 x3 x4 h = stepF c126 O R q 5 [x0, x1, x2, x3, x4] h := by kernel_rfl
noncomputable def b126_6 (O : Oracle) (R : Jump) (q : Nat) (x0 x2 x4 x14 x15 : TVal) (h : Heap) : Res1 :=
 vbin .lss 0 x14 x15 h fun x85 h =>
 vif x85 (
 vbin .add 0 x14 x15 h fun x88 h =>
 vtoInt .u64 x88 h fun x89 h =>
 vbin .shr 0 x89 (.v (.c (.p (.int .u64 1)))) h fun x90 h =>
 vtoInt .i64 x90 h fun x91 h =>
 viaddr 7 x0 x2 h fun x95 h =>
 vload true 7 x95 h fun x96 h =>
 viaddr 7 x0 x91 h fun x99 h =>
 vload true 7 x99 h fun x100 h =>
 vcall O x4 [x96, x100] h 101 fun x101 h =>
 vbin .lss 0 x101 (kI 0) h fun x102 h =>
 vop O (.un .not (.k x102)) h 103 fun x103 h =>
 vif x103 (
 vbin .add 0 x91 (kI 1) h fun x105 h =>
 R 6 [x0, x2, x4, x105, x15] h)
 (R 6 [x0, x2, x4, x14, x91] h))
 (R 7 [x0, x2, x14] h)
theorem e126_6 (O : Oracle) (R : Jump) (q : Nat) (x0 x2 x4 x14 x15 : TVal) (h : Heap) : b126_6 O R q x0 x2 x4 x14 x15 h = stepF c126 O R q 6 [x0, x2, x4, x14, x15] h := by kernel_rfl
noncomputable def b126_7 (O : Oracle) (R : Jump) (q : Nat) (x0 x2 x14 : TVal) (h : Heap) : Res1 :=
 R 8 [x0, x14, x2] h
theorem e126_7 (O : Oracle) (R : Jump) (q : Nat) (x0 x2 x14 : TVal) (h : Heap) : b126_7 O R q x0 x2 x14 h = stepF c126 O R q 7 [x0, x2, x14] h := by kernel_rfl
noncomputable def b126_8 (O : Oracle) (R : Jump) (q : Nat) (x0 x14 x17 : TVal) (h : Heap) : Res1 :=
 vbin .gtr 0 x17 x14 h fun x110 h =>
 vif x110 (
 vbin .sub 0 x17 (kI 1) h fun x117 h =>
 vbin .sub 0 x17 (kI 1) h fun x120 h =>
 viaddr 7 x0 x120 h fun x121 h =>
 vload true 7 x121 h fun x122 h =>
 viaddr 7 x0 x17 h fun x125 h =>
 vload true 7 x125 h fun x126 h =>
 viaddr 7 x0 x17 h fun x127 h =>
 vstore 7 x127 x122 h fun _ h =>
 viaddr 7 x0 x117 h fun x128 h =>
 vstore 7 x128 x126 h fun _ h =>
 vbin .sub 0 x17 (kI 1) h fun x112 h =>
 R 8 [x0, x14, x112] h)
 (R 9 [] h)
theorem e126_8 (O : Oracle) (R : Jump) (q : Nat) (x0 x14 x17 : TVal) (h : Heap) : b126_8 O R q x0 x14 x17 h = stepF c126 O R q 8 [x0, x14, x17] h := by kernel_rfl
noncomputable def b126_9 (O : Oracle) (R : Jump) (q : Nat) (h : Heap) : Res1 :=
 vfin true q [] h
theorem e126_9 (O : Oracle) (R : Jump) (q : Nat) (h : Heap) : b126_9 O R q  h = stepF c126 O R q 9 [] h := by kernel_rfl
noncomputable def b126_10 (O : Oracle) (R : Jump) (q : Nat) (x0 x1 x2 x3 x4 : TVal) (h : Heap) : Res1 :=
 vbin .add 0 x1 x3 h fun x131 h =>
 vtoInt .u64 x131 h fun x132 h =>
 vbin .shr 0 x132 (.v (.c (.p (.int .u64 1)))) h fun x133 h =>
 vtoInt .i64 x133 h fun x134 h =>
 vbin .add 0 x134 x2 h fun x137 h =>
 vbin .gtr 0 x2 x134 h fun x140 h =>
 vif x140 (
 vbin .sub 0 x137 x3 h fun x143 h =>
 R 11 [x0, x1, x2, x3, x4, x134, x137, x143, x134] h)
 (R 11 [x0, x1, x2, x3, x4, x134, x137, x1, x2] h)
theorem e126_10 (O : Oracle) (R : Jump) (q : Nat) (x0 x1 x2 x3 x4 : TVal) (h : Heap) : b126_10 O R q x0 x1 x2 x3 x4 h = stepF c126 O R q 10 [x0, x1, x2, x3, x4] h := by kernel_rfl
noncomputable def b126_11 (O : Oracle) (R : Jump) (q : Nat) (x0 x1 x2 x3 x4 x18 x19 x20 x21 : TVal) (h : Heap) : Res1 :=
 vbin .sub 0 x19 (kI 1) h fun x148 h =>
 R 12 [x0, x1, x2, x3, x4, x18, x19, x20, x21, x148] h
theorem e126_11 (O : Oracle) (R : Jump) (q : Nat) (x0 x1 x2 x3 x4 x18 x19 x20 x21 : TVal) (h : Heap) : b126_11 O R q x0 x1 x2 x3 x4 x18 x19 x20 x21 h = stepF c126 O R q 11 [x0, x1, x2, x3, x4, x18, x19, x20, x21] h := by kernel_rfl
noncomputable def b126_12 (O : Oracle) (R : Jump) (q : Nat) (x0 x1 x2 x3 x4 x18 x19 x20 x21 x22 : TVal) (h : Heap) : Res1 :=
 vbin .lss 0 x20 x21 h fun x151 h =>
 vif x151 (
 vbin .add 0 x20 x21 h fun x154 h =>
 vtoInt .u64 x154 h fun x155 h =>
 vbin .shr 0 x155 (.v (.c (.p (.int .u64 1)))) h fun x156 h =>
 vtoInt .i64 x156 h fun x157 h =>
 vbin .sub 0 x22 x157 h fun x162 h =>
 viaddr 7 x0 x162 h fun x163 h =>
 vload true 7 x163 h fun x164 h =>
 viaddr 7 x0 x157 h fun x167 h =>
 vload true 7 x167 h fun x168 h =>
 vcall O x4 [x164, x168] h 169 fun x169 h =>
 vbin .lss 0 x169 (kI 0) h fun x170 h =>
 vop O (.un .not (.k x170)) h 171 fun x171 h =>
 vif x171 (
 vbin .add 0 x157 (kI 1) h fun x173 h =>
 R 12 [x0, x1, x2, x3, x4, x18, x19, x173, x21, x22] h)
 (R 12 [x0, x1, x2, x3, x4, x18, x19, x20, x157, x22] h))
 (R 13 [x0, x1, x2, x3, x4, x18, x19, x20] h)
theorem e126_12 (O : Oracle) (R : Jump) (q : Nat) (x0 x1 x2 x3 x4 x18 x19 x20 x21 x22 : TVal) (h : Heap) : b126_12 O R q x0 x1 x2 x3 x4 x18 x19 x20 x21 x22 h = stepF c126 O R q 12 [x0, x1, x2, x3, x4, x18, x19, x20, x21, x22] h := by kernel_rfl
noncomputable def b126_13 (O : Oracle) (R : Jump) (q : Nat) (x0 x1 x2 x3 x4 x18 x19 x20 : TVal) (h : Heap) : Res1 :=
 vbin .sub 0 x19 x20 h fun x177 h =>
 vbin .lss 0 x20 x2 h fun x180 h =>
 vguard x180 true (fun kk => kk x2 h) h fun x182 h =>
 vguard x180 true (fun kk => kk x177 h) h fun x183 h =>
 vguard x180 true (fun kk => vbin .lss 0 x182 x183 h kk) h fun x184 h =>
 vop O (.pick (.k x180) (.k x184) (.k (kB false))) h 185 fun x185 h =>
 vif x185 (
 vcall O (.v (.c (.func 139 []))) [x0, x20, x2, x177, x4] h 191 fun x191 h =>
 R 14 [x0, x1, x3, x4, x18, x20, x177] h)
 (R 14 [x0, x1, x3, x4, x18, x20, x177] h)
theorem e126_13 (O : Oracle) (R : Jump) (q : Nat) (x0 x1 x2 x3 x4 x18 x19 x20 : TVal) (h : Heap) : b126_13 O R q x0 x1 x2 x3 x4 x18 x19 x20 h = stepF c126 O R q 13 [x0, x1, x2, x3, x4, x18, x19, x20] h := by kernel_rfl
noncomputable def b126_14 (O : Oracle) (R : Jump) (q : Nat) (x0 x1 x3 x4 x18 x20 x24 : TVal) (h : Heap) : Res1 :=
 vbin .lss 0 x1 x20 h fun x194 h =>
 vguard x194 true (fun kk => kk x20 h) h fun x196 h =>
 vguard x194 true (fun kk => kk x18 h) h fun x197 h =>
 vguard x194 true (fun kk => vbin .lss 0 x196 x197 h kk) h fun x198 h =>
 vop O (.pick (.k x194) (.k x198) (.k (kB false))) h 199 fun x199 h =>
 vif x199 (
 vcall O (.v (.c (.func 126 []))) [x0, x1, x20, x18, x4] h 205 fun x205 h =>
 R 15 [x0, x3, x4, x18, x24] h)
 (R 15 [x0, x3, x4, x18, x24] h)
theorem e126_14 (O : Oracle) (R : Jump) (q : Nat) (x0 x1 x3 x4 x18 x20 x24 : TVal) (h : Heap) : b126_14 O R q x0 x1 x3 x4 x18 x20 x24 h = stepF c126 O R q 14 [x0, x1, x3, x4, x18, x20, x24] h := by kernel_rfl
noncomputable def b126_15 (O : Oracle) (R : Jump) (q : Nat) (x0 x3 x4 x18 x24 : TVal) (h : Heap) : Res1 :=
 vbin .lss 0 x18 x24 h fun x208 h =>
 vguard x208 true (fun kk => kk x24 h) h fun x210 h =>
 vguard x208 true (fun kk => kk x3 h) h fun x211 h =>
 vguard x208 true (fun kk => vbin .lss 0 x210 x211 h kk) h fun x212 h =>
 vop O (.pick (.k x208) (.k x212) (.k (kB false))) h 213 fun x213 h =>
 vif x213 (
 vcall O (.v (.c (.func 126 []))) [x0, x18, x24, x3, x4] h 219 fun x219 h =>
 vfin true q [] h)
 (vfin true q [] h)
theorem e126_15 (O : Oracle) (R : Jump) (q : Nat) (x0 x3 x4 x18 x24 : TVal) (h : Heap) : b126_15 O R q x0 x3 x4 x18 x24 h = stepF c126 O R q 15 [x0, x3, x4, x18, x24] h := by kernel_rfl
noncomputable def d126 : BlkF := fun O R Q => [.s fun a => .s fun b => .s fun c => .s fun d => .s fun e => .z (b126_0 O R Q a b c d e), .s fun a => .s fun b => .s fun c => .s fun d => .s fun e => .z (b126_1 O R Q a b c d e), .s fun a => .s fun b => .s fun c => .z (b126_2 O R Q a b c), .s fun a => .s fun b => .s fun c => .z (b126_3 O R Q a b c), .z (b126_4 O R Q ), .s fun a => .s fun b => .s fun c => .s fun d => .s fun e => .z (b126_5 O R Q a b c d e), .s fun a => .s fun b => .s fun c => .s fun d => .s fun e => .z (b126_6 O R Q a b c d e), .s fun a => .s fun b => .s fun c => .z (b126_7 O R Q a b c), .s fun a => .s fun b => .s fun c => .z (b126_8 O R Q a b c), .z (b126_9 O R Q ), .s fun a => .s fun b => .s fun c => .s fun d => .s fun e => .z (b126_10 O R Q a b c d e), .s fun a => .s fun b => .s fun c => .s fun d => .s fun e => .s fun f => .s fun g => .s fun h => .s fun i => .z (b126_11 O R Q a b c d e f g h i), .s fun a => .s fun b => .s fun c => .s fun d => .s fun e => .s fun f => .s fun g => .s fun h => .s fun i => .s fun j => .z (b126_12 O R Q a b c d e f g h i j), .s fun a => .s fun b => .s fun c => .s fun d => .s fun e => .s fun f => .s fun g => .s fun h => .z (b126_13 O R Q a b c d e f g h), .s fun a => .s fun b => .s fun c => .s fun d => .s fun e => .s fun f => .s fun g => .z (b126_14 O R Q a b c d e f g), .s fun a => .s fun b => .s fun c => .s fun d => .s fun e => .z (b126_15 O R Q a b c d e)]
theorem o126 (O : Oracle) (R : Jump) (q : Nat) : HoldsAll c126 O R q 0 (d126 O R q) := ⟨e126_0 O R q, e126_1 O R q, e126_2 O R q, e126_3 O R q, e126_4 O R q, e126_5 O R q, e126_6 O R q, e126_7 O R q, e126_8 O R q, e126_9 O R q, e126_10 O R q, e126_11 O R q, e126_12 O R q, e126_13 O R q, e126_14 O R q, e126_15 O R q, trivial⟩
/- unicode/utf8.decodeRuneInStringSlow -/
noncomputable def c127 : MFunc := mkM (compF Tryz.prog (globs2 tabs opq) (fun _ => false) true Tryz.f127) .n
noncomputable def b127_0 (O : Oracle) (R : Jump) (q : Nat) (x0 : TVal) (h : Heap) : Res1 :=
 vlen O 0 x0 h 14 fun x14 h =>
 vbin .lss 0 x14 (kI 1) h fun x16 h =>
 vif x16 (
 tcomp (.v (.c (.p (.int .i32 65533)))) fun c0 => tcomp (kI 0) fun c1 => vfin true q [c0, c1] h)
 (vindex x0 (kI 0) h fun x18 h =>
 none)
theorem e127_0 (O : Oracle) (R : Jump) (q : Nat) (x0 : TVal) (h : Heap) : b127_0 O R q x0 h = stepF c127 O R q 0 [x0] h := by kernel_rfl
noncomputable def d127 : BlkF := fun O R Q => [.s fun a => .z (b127_0 O R Q a)]
theorem o127 (O : Oracle) (R : Jump) (q : Nat) : HoldsAll c127 O R q 0 (d127 O R q) := ⟨e127_0 O R q, trivial⟩
/- strings.IndexRune -/
noncomputable def c128 : MFunc := mkM (compF Tryz.prog (globs2 tabs opq) (fun _ => false) true Tryz.f128) (.s .n (.k (.s .n (.s .n (.s .n (.s (.s (.s .n (.k (.l 1 [175] .n))) .n) (.s .n (.s .n (.k (.s .n (.s .n (.s .n (.s .n (.s (.k (.l 2 [0, 7, 8, 9] (.s .n (.k (.k (.s .n (.m 3 [0, 7, 8, 9] (.s (.s .n (.k (.l 4 [0, 7, 8, 9, 12] .n))) (.m 5 [8, 9] .n))))))))) (.m 6 [] (.s .n (.s .n (.s (.s .n (.k (.s .n (.s .n (.s .n (.k (.l 7 [0, 7, 8, 9, 14, 15] (.s .n (.s (.k (.s .n (.s (.s (.s .n (.k (.l 8 [0, 7, 8, 9, 14, 15, 16] .n))) (.m 9 [8, 9] .n)) .n))) (.m 10 [0, 7, 8, 9, 14, 15] .n)))))))))) .n))))))))))))))))))
noncomputable def b128_0 (O : Oracle) (R : Jump) (q : Nat) (x0 x1 : TVal) (h : Heap) : Res1 :=
 vbin .leq 0 (.v (.c (.p (.int .i32 0)))) x1 h fun x162 h =>
 vguard x162 true (fun kk => kk x1 h) h fun x164 h =>
 vguard x162 true (fun kk => vbin .lss 0 x164 (.v (.c (.p (.int .i32 128)))) h kk) h fun x165 h =>
 vop O (.pick (.k x162) (.k x165) (.k (kB false))) h 166 fun x166 h =>
 vif x166 (
 vtoInt .u8 x1 h fun x169 h =>
 vcall O (.v (.c (.func 140 []))) [x0, x169] h 170 fun x170 h =>
 tcomp x170 fun c0 => vfin true q [c0] h)
 (vbin .eql 0 x1 (.v (.c (.p (.int .i32 65533)))) h fun x173 h =>
 vif x173 (
 vop O (.rangeS (.k x0)) h 175 fun x175 h =>
 R 1 [x175] h)
 (vcall O (.v (.c (.func 141 []))) [x1] h 185 fun x185 h =>
 vop O (.un .not (.k x185)) h 186 fun x186 h =>
 vif x186 (
 tcomp (kI (-1)) fun c0 => vfin true q [c0] h)
 (none)))
theorem e128_0 (O : Oracle) (R : Jump) (q : Nat) (x0 x1 : TVal) (h : Heap) : b128_0 O R q x0 x1 h = stepF c128 O R q 0 [x0, x1] h := by kernel_rfl
noncomputable def b128_1 (O : Oracle) (R : Jump) (q : Nat) (x175 : TVal) (h : Heap) : Res1 :=
 vop O (.nextS (.k x175)) h 176 fun x176 h =>
 vext x176 0 h fun x177 h =>
 vif x177 (
 vext x176 1 h fun x178 h =>
 vext x176 2 h fun x179 h =>
 vbin .eql 0 x179 (.v (.c (.p (.int .i32 65533)))) h fun x181 h =>
 vif x181 (
 tcomp x178 fun c0 => vfin true q [c0] h)
 (R 1 [x175] h))
 (tcomp (kI (-1)) fun c0 => vfin true q [c0] h)
theorem e128_1 (O : Oracle) (R : Jump) (q : Nat) (x175 : TVal) (h : Heap) : b128_1 O R q x175 h = stepF c128 O R q 1 [x175] h := by kernel_rfl
noncomputable def b128_2 (O : Oracle) (R : Jump) (q : Nat) (x0 x7 x8 x9 : TVal) (h : Heap) : Res1 :=
 vlen O 0 x0 h 25 fun x25 h =>
 vbin .lss 0 x9 x25 h fun x26 h =>
 vif x26 (
 vindex x0 x9 h fun x29 h =>
 vindex x7 x8 h fun x32 h =>
 vbin .neq 0 x29 x32 h fun x33 h =>
 vif x33 (
 vbin .add 0 x9 (kI 1) h fun x36 h =>
 vop O (.slice 0 true (.k x0) (some (.k x36)) none none) h 37 fun x37 h =>
 vindex x7 x8 h fun x40 h =>
 vcall O (.v (.c (.func 140 []))) [x37, x40] h 41 fun x41 h =>
 vbin .lss 0 x41 (kI 0) h fun x43 h =>
 vif x43 (
 tcomp (kI (-1)) fun c0 => vfin true q [c0] h)
 (vbin .add 0 x41 (kI 1) h fun x46 h =>
 vbin .add 0 x9 x46 h fun x47 h =>
 R 3 [x0, x7, x8, x47] h))
 (R 3 [x0, x7, x8, x9] h))
 (R 6 [] h)
theorem e128_2 (O : Oracle) (R : Jump) (q : Nat) (x0 x7 x8 x9 : TVal) (h : Heap) : b128_2 O R q x0 x7 x8 x9 h = stepF c128 O R q 2 [x0, x7, x8, x9] h := by kernel_rfl
noncomputable def b128_3 (O : Oracle) (R : Jump) (q : Nat) (x0 x7 x8 x9 : TVal) (h : Heap) : Res1 :=
 R 4 [x0, x7, x8, x9, (kI 1)] h
theorem e128_3 (O : Oracle) (R : Jump) (q : Nat) (x0 x7 x8 x9 : TVal) (h : Heap) : b128_3 O R q x0 x7 x8 x9 h = stepF c128 O R q 3 [x0, x7, x8, x9] h := by kernel_rfl
noncomputable def b128_4 (O : Oracle) (R : Jump) (q : Nat) (x0 x7 x8 x9 x12 : TVal) (h : Heap) : Res1 :=
 vlen O 0 x7 h 50 fun x50 h =>
 vbin .lss 0 x12 x50 h fun x51 h =>
 vif x51 (
 vbin .sub 0 x9 x12 h fun x57 h =>
 vindex x0 x57 h fun x58 h =>
 vbin .sub 0 x8 x12 h fun x62 h =>
 vindex x7 x62 h fun x63 h =>
 vbin .neq 0 x58 x63 h fun x64 h =>
 vif x64 (
 none)
 (vbin .add 0 x12 (kI 1) h fun x53 h =>
 R 4 [x0, x7, x8, x9, x53] h))
 (R 5 [x8, x9] h)
theorem e128_4 (O : Oracle) (R : Jump) (q : Nat) (x0 x7 x8 x9 x12 : TVal) (h : Heap) : b128_4 O R q x0 x7 x8 x9 x12 h = stepF c128 O R q 4 [x0, x7, x8, x9, x12] h := by kernel_rfl
noncomputable def b128_5 (O : Oracle) (R : Jump) (q : Nat) (x8 x9 : TVal) (h : Heap) : Res1 :=
 vbin .sub 0 x9 x8 h fun x67 h =>
 tcomp x67 fun c0 => vfin true q [c0] h
theorem e128_5 (O : Oracle) (R : Jump) (q : Nat) (x8 x9 : TVal) (h : Heap) : b128_5 O R q x8 x9 h = stepF c128 O R q 5 [x8, x9] h := by kernel_rfl
noncomputable def b128_6 (O : Oracle) (R : Jump) (q : Nat) (h : Heap) : Res1 :=
 tcomp (kI (-1)) fun c0 => vfin true q [c0] h
theorem e128_6 (O : Oracle) (R : Jump) (q : Nat) (h : Heap) : b128_6 O R q  h = stepF c128 O R q 6 [] h := by kernel_rfl
noncomputable def b128_7 (O : Oracle) (R : Jump) (q : Nat) (x0 x7 x8 x9 x14 x15 : TVal) (h : Heap) : Res1 :=
 vlen O 0 x0 h 123 fun x123 h =>
 vbin .lss 0 x9 x123 h fun x124 h =>
 vif x124 (
 vindex x0 x9 h fun x129 h =>
 vbin .eql 0 x129 x14 h fun x131 h =>
 vguard x131 true (fun kk => kk x0 h) h fun x133 h =>
 vguard x131 true (fun kk => kk x9 h) h fun x134 h =>
 vguard x131 true (fun kk => vbin .sub 0 x134 (kI 1) h kk) h fun x135 h =>
 vguard x131 true (fun kk => vindex x133 x135 h kk) h fun x136 h =>
 vguard x131 true (fun kk => kk x15 h) h fun x137 h =>
 vguard x131 true (fun kk => vbin .eql 0 x136 x137 h kk) h fun x138 h =>
 vop O (.pick (.k x131) (.k x138) (.k (kB false))) h 139 fun x139 h =>
 vif x139 (
 R 8 [x0, x7, x8, x9, x14, x15, (kI 2)] h)
 (R 10 [x0, x7, x8, x9, x14, x15] h))
 (tcomp (kI (-1)) fun c0 => vfin true q [c0] h)
theorem e128_7 (O : Oracle) (R : Jump) (q : Nat) (x0 x7 x8 x9 x14 x15 : TVal) (h : Heap) : b128_7 O R q x0 x7 x8 x9 x14 x15 h = stepF c128 O R q 7 [x0, x7, x8, x9, x14, x15] h := by kernel_rfl
noncomputable def b128_8 (O : Oracle) (R : Jump) (q : Nat) (x0 x7 x8 x9 x14 x15 x16 : TVal) (h : Heap) : Res1 :=
 vlen O 0 x7 h 142 fun x142 h =>
 vbin .lss 0 x16 x142 h fun x143 h =>
 vif x143 (
 vbin .sub 0 x9 x16 h fun x149 h =>
 vindex x0 x149 h fun x150 h =>
 vbin .sub 0 x8 x16 h fun x154 h =>
 vindex x7 x154 h fun x155 h =>
 vbin .neq 0 x150 x155 h fun x156 h =>
 vif x156 (
 R 10 [x0, x7, x8, x9, x14, x15] h)
 (vbin .add 0 x16 (kI 1) h fun x145 h =>
 R 8 [x0, x7, x8, x9, x14, x15, x145] h))
 (R 9 [x8, x9] h)
theorem e128_8 (O : Oracle) (R : Jump) (q : Nat) (x0 x7 x8 x9 x14 x15 x16 : TVal) (h : Heap) : b128_8 O R q x0 x7 x8 x9 x14 x15 x16 h = stepF c128 O R q 8 [x0, x7, x8, x9, x14, x15, x16] h := by kernel_rfl
noncomputable def b128_9 (O : Oracle) (R : Jump) (q : Nat) (x8 x9 : TVal) (h : Heap) : Res1 :=
 vbin .sub 0 x9 x8 h fun x159 h =>
 tcomp x159 fun c0 => vfin true q [c0] h
theorem e128_9 (O : Oracle) (R : Jump) (q : Nat) (x8 x9 : TVal) (h : Heap) : b128_9 O R q x8 x9 h = stepF c128 O R q 9 [x8, x9] h := by kernel_rfl
noncomputable def b128_10 (O : Oracle) (R : Jump) (q : Nat) (x0 x7 x8 x9 x14 x15 : TVal) (h : Heap) : Res1 :=
 vbin .add 0 x9 (kI 1) h fun x126 h =>
 R 7 [x0, x7, x8, x126, x14, x15] h
theorem e128_10 (O : Oracle) (R : Jump) (q : Nat) (x0 x7 x8 x9 x14 x15 : TVal) (h : Heap) : b128_10 O R q x0 x7 x8 x9 x14 x15 h = stepF c128 O R q 10 [x0, x7, x8, x9, x14, x15] h := by kernel_rfl
noncomputable def d128 : BlkF := fun O R Q => [.s fun a => .s fun b => .z (b128_0 O R Q a b), .s fun a => .z (b128_1 O R Q a), .s fun a => .s fun b => .s fun c => .s fun d => .z (b128_2 O R Q a b c d), .s fun a => .s fun b => .s fun c => .s fun d => .z (b128_3 O R Q a b c d), .s fun a => .s fun b => .s fun c => .s fun d => .s fun e => .z (b128_4 O R Q a b c d e), .s fun a => .s fun b => .z (b128_5 O R Q a b), .z (b128_6 O R Q ), .s fun a => .s fun b => .s fun c => .s fun d => .s fun e => .s fun f => .z (b128_7 O R Q a b c d e f), .s fun a => .s fun b => .s fun c => .s fun d => .s fun e => .s fun f => .s fun g => .z (b128_8 O R Q a b c d e f g), .s fun a => .s fun b => .z (b128_9 O R Q a b), .s fun a => .s fun b => .s fun c => .s fun d => .s fun e => .s fun f => .z (b128_10 O R Q a b c d e f)]
theorem o128 (O : Oracle) (R : Jump) (q : Nat) : HoldsAll c128 O R q 0 (d128 O R q) := ⟨e128_0 O R q, e128_1 O R q, e128_2 O R q, e128_3 O R q, e128_4 O R q, e128_5 O R q, e128_6 O R q, e128_7 O R q, e128_8 O R q, e128_9 O R q, e128_10 O R q, trivial⟩
/- math/bits.TrailingZeros32 -/
noncomputable def c129 : MFunc := mkM (compF Tryz.prog (globs2 tabs opq) (fun _ => false) true Tryz.f129) .n
noncomputable def b129_0 (O : Oracle) (R : Jump) (q : Nat) (x0 : TVal) (h : Heap) : Res1 :=
 vbin .eql 0 x0 (.v (.c (.p (.int .u32 0)))) h fun x4 h =>
 vif x4 (
 tcomp (kI 32) fun c0 => vfin true q [c0] h)
 (vop O (.un .neg (.k x0)) h 7 fun x7 h =>
 vbin .and 0 x0 x7 h fun x8 h =>
 vbin .mul 0 x8 (.v (.c (.p (.int .u32 125613361)))) h fun x9 h =>
 vbin .shr 0 x9 (.v (.c (.p (.int .u64 27)))) h fun x10 h =>
 vop O (.iaddrA 32 1 (.k (.v (.c (.p (.pptr [(.int .u8 0), (.int .u8 1), (.int .u8 28), (.int .u8 2), (.int .u8 29), (.int .u8 14), (.int .u8 24), (.int .u8 3), (.int .u8 30), (.int .u8 22), (.int .u8 20), (.int .u8 15), (.int .u8 25), (.int .u8 17), (.int .u8 4), (.int .u8 8), (.int .u8 31), (.int .u8 27), (.int .u8 13), (.int .u8 23), (.int .u8 21), (.int .u8 19), (.int .u8 16), (.int .u8 7), (.int .u8 26), (.int .u8 12), (.int .u8 18), (.int .u8 6), (.int .u8 11), (.int .u8 5), (.int .u8 10), (.int .u8 9)] 0))))) (.k x10)) h 11 fun x11 h =>
 vload false 1 x11 h fun x12 h =>
 vtoInt .i64 x12 h fun x13 h =>
 tcomp x13 fun c0 => vfin true q [c0] h)
theorem e129_0 (O : Oracle) (R : Jump) (q : Nat) (x0 : TVal) (h : Heap) : b129_0 O R q x0 h = stepF c129 O R q 0 [x0] h := by kernel_rfl
noncomputable def d129 : BlkF := fun O R Q => [.s fun a => .z (b129_0 O R Q a)]
theorem o129 (O : Oracle) (R : Jump) (q : Nat) : HoldsAll c129 O R q 0 (d129 O R q) := ⟨e129_0 O R q, trivial⟩
/- math/bits.TrailingZeros64 -/
noncomputable def c130 : MFunc := mkM (compF Tryz.prog (globs2 tabs opq) (fun _ => false) true Tryz.f130) .n
noncomputable def b130_0 (O : Oracle) (R : Jump) (q : Nat) (x0 : TVal) (h : Heap) : Res1 :=
 vbin .eql 0 x0 (.v (.c (.p (.int .u64 0)))) h fun x4 h =>
 vif x4 (
 tcomp (kI 64) fun c0 => vfin true q [c0] h)
 (vop O (.un .neg (.k x0)) h 7 fun x7 h =>
 vbin .and 0 x0 x7 h fun x8 h =>
 vbin .mul 0 x8 (.v (.c (.p (.int .u64 285870213051353865)))) h fun x9 h =>
 vbin .shr 0 x9 (.v (.c (.p (.int .u64 58)))) h fun x10 h =>
 vop O (.iaddrA 64 1 (.k (.v (.c (.p (.pptr [(.int .u8 0), (.int .u8 1), (.int .u8 56), (.int .u8 2), (.int .u8 57), (.int .u8 49), (.int .u8 28), (.int .u8 3), (.int .u8 61), (.int .u8 58), (.int .u8 42), (.int .u8 50), (.int .u8 38), (.int .u8 29), (.int .u8 17), (.int .u8 4), (.int .u8 62), (.int .u8 47), (.int .u8 59), (.int .u8 36), (.int .u8 45), (.int .u8 43), (.int .u8 51), (.int .u8 22), (.int .u8 53), (.int .u8 39), (.int .u8 33), (.int .u8 30), (.int .u8 24), (.int .u8 18), (.int .u8 12), (.int .u8 5), (.int .u8 63), (.int .u8 55), (.int .u8 48), (.int .u8 27), (.int .u8 60), (.int .u8 41), (.int .u8 37), (.int .u8 16), (.int .u8 46), (.int .u8 35), (.int .u8 44), (.int .u8 21), (.int .u8 52), (.int .u8 32), (.int .u8 23), (.int .u8 11), (.int .u8 54), (.int .u8 26), (.int .u8 40), (.int .u8 15), (.int .u8 34), (.int .u8 20), (.int .u8 31), (.int .u8 10), (.int .u8 25), (.int .u8 14), (.int .u8 19), (.int .u8 9), (.int .u8 13), (.int .u8 8), (.int .u8 7), (.int .u8 6)] 0))))) (.k x10)) h 11 fun x11 h =>
 vload false 1 x11 h fun x12 h =>
 vtoInt .i64 x12 h fun x13 h =>
 tcomp x13 fun c0 => vfin true q [c0] h)
theorem e130_0 (O : Oracle) (R : Jump) (q : Nat) (x0 : TVal) (h : Heap) : b130_0 O R q x0 h = stepF c130 O R q 0 [x0] h := by kernel_rfl
noncomputable def d130 : BlkF := fun O R Q => [.s fun a => .z (b130_0 O R Q a)]
theorem o130 (O : Oracle) (R : Jump) (q : Nat) : HoldsAll c130 O R q 0 (d130 O R q) := ⟨e130_0 O R q, trivial⟩
/- (*sync.Mutex).Lock -/
noncomputable def c132 : MFunc := mkM (compF Tryz.prog (globs2 tabs opq) (fun _ => false) true Tryz.f132) .n
noncomputable def b132_0 (O : Oracle) (R : Jump) (q : Nat) (x0 : TVal) (h : Heap) : Res1 :=
 vop O (.nilck (.k x0)) h 3 fun x3 h =>
 vfaddr 0 x3 h fun x4 h =>
 vcall O (.v (.c (.func 142 []))) [x4] h 5 fun x5 h =>
 vfin true q [] h
theorem e132_0 (O : Oracle) (R : Jump) (q : Nat) (x0 : TVal) (h : Heap) : b132_0 O R q x0 h = stepF c132 O R q 0 [x0] h := by kernel_rfl
noncomputable def d132 : BlkF := fun O R Q => [.s fun a => .z (b132_0 O R Q a)]
theorem o132 (O : Oracle) (R : Jump) (q : Nat) : HoldsAll c132 O R q 0 (d132 O R q) := ⟨e132_0 O R q, trivial⟩
/- internal/bytealg.hashStr[string] -/
noncomputable def c138 : MFunc := mkM (compF Tryz.prog (globs2 tabs opq) (fun _ => false) true Tryz.f138) (.s .n (.s .n (.s (.s .n (.k (.l 1 [0, 4, 5] .n))) (.m 2 [0, 4] (.s .n (.s (.s .n (.k (.l 3 [4, 6, 7, 8] (.s .n (.s (.k (.s .n (.m 4 [4, 6, 7, 8] .n))) .n))))) .n))))))
noncomputable def b138_0 (O : Oracle) (R : Jump) (q : Nat) (x0 : TVal) (h : Heap) : Res1 :=
 R 1 [x0, (.v (.c (.p (.int .u32 0)))), (kI 0)] h
theorem e138_0 (O : Oracle) (R : Jump) (q : Nat) (x0 : TVal) (h : Heap) : b138_0 O R q x0 h = stepF c138 O R q 0 [x0] h := by kernel_rfl
noncomputable def b138_1 (O : Oracle) (R : Jump) (q : Nat) (x0 x4 x5 : TVal) (h : Heap) : Res1 :=
 vlen O 0 x0 h 11 fun x11 h =>
 vbin .lss 0 x5 x11 h fun x12 h =>
 vif x12 (
 vbin .mul 0 x4 (.v (.c (.p (.int .u32 16777619)))) h fun x16 h =>
 vindex x0 x5 h fun x19 h =>
 vtoInt .u32 x19 h fun x20 h =>
 vbin .add 0 x16 x20 h fun x21 h =>
 vbin .add 0 x5 (kI 1) h fun x14 h =>
 R 1 [x0, x21, x14] h)
 (R 2 [x0, x4] h)
theorem e138_1 (O : Oracle) (R : Jump) (q : Nat) (x0 x4 x5 : TVal) (h : Heap) : b138_1 O R q x0 x4 x5 h = stepF c138 O R q 1 [x0, x4, x5] h := by kernel_rfl
noncomputable def b138_2 (O : Oracle) (R : Jump) (q : Nat) (x0 x4 : TVal) (h : Heap) : Res1 :=
 vlen O 0 x0 h 23 fun x23 h =>
 R 3 [x4, (.v (.c (.p (.int .u32 1)))), (.v (.c (.p (.int .u32 16777619)))), x23] h
theorem e138_2 (O : Oracle) (R : Jump) (q : Nat) (x0 x4 : TVal) (h : Heap) : b138_2 O R q x0 x4 h = stepF c138 O R q 2 [x0, x4] h := by kernel_rfl
noncomputable def b138_3 (O : Oracle) (R : Jump) (q : Nat) (x4 x6 x7 x8 : TVal) (h : Heap) : Res1 :=
 vbin .gtr 0 x8 (kI 0) h fun x25 h =>
 vif x25 (
 vbin .and 0 x8 (kI 1) h fun x29 h =>
 vbin .neq 0 x29 (kI 0) h fun x30 h =>
 vif x30 (
 vbin .mul 0 x6 x7 h fun x33 h =>
 R 4 [x4, x33, x7, x8] h)
 (R 4 [x4, x6, x7, x8] h))
 (tcomp x4 fun c0 => tcomp x6 fun c1 => vfin true q [c0, c1] h)
theorem e138_3 (O : Oracle) (R : Jump) (q : Nat) (x4 x6 x7 x8 : TVal) (h : Heap) : b138_3 O R q x4 x6 x7 x8 h = stepF c138 O R q 3 [x4, x6, x7, x8] h := by kernel_rfl
noncomputable def b138_4 (O : Oracle) (R : Jump) (q : Nat) (x4 x6 x7 x8 : TVal) (h : Heap) : Res1 :=
 vbin .mul 0 x7 x7 h fun x36 h =>
 vbin .shr 0 x8 (.v (.c (.p (.int .u64 1)))) h fun x27 h =>
 R 3 [x4, x6, x36, x27] h
theorem e138_4 (O : Oracle) (R : Jump) (q : Nat) (x4 x6 x7 x8 : TVal) (h : Heap) : b138_4 O R q x4 x6 x7 x8 h = stepF c138 O R q 4 [x4, x6, x7, x8] h := by kernel_rfl
noncomputable def d138 : BlkF := fun O R Q => [.s fun a => .z (b138_0 O R Q a), .s fun a => .s fun b => .s fun c => .z (b138_1 O R Q a b c), .s fun a => .s fun b => .z (b138_2 O R Q a b), .s fun a => .s fun b => .s fun c => .s fun d => .z (b138_3 O R Q a b c d), .s fun a => .s fun b => .s fun c => .s fun d => .z (b138_4 O R Q a b c d)]
theorem o138 (O : Oracle) (R : Jump) (q : Nat) : HoldsAll c138 O R q 0 (d138 O R q) := ⟨e138_0 O R q, e138_1 O R q, e138_2 O R q, e138_3 O R q, e138_4 O R q, trivial⟩
/- slices.rotateCmpFunc[sprue/data.entry] -/
noncomputable def c139 : MFunc := mkM (compF Tryz.prog (globs2 tabs opq) (fun _ => false) true Tryz.f139) (.s .n (.s .n (.s (.k (.l 1 [0, 2, 4, 10, 11] .n)) (.m 2 [0, 2, 4, 10] .n))))
noncomputable def b139_0 (O : Oracle) (R : Jump) (q : Nat) (x0 x1 x2 x3 x4 : TVal) (h : Heap) : Res1 :=
 vbin .sub 0 x2 x1 h fun x14 h =>
 vbin .sub 0 x3 x2 h fun x17 h =>
 R 1 [x0, x2, x4, x14, x17] h
theorem e139_0 (O : Oracle) (R : Jump) (q : Nat) (x0 x1 x2 x3 x4 : TVal) (h : Heap) : b139_0 O R q x0 x1 x2 x3 x4 h = stepF c139 O R q 0 [x0, x1, x2, x3, x4] h := by kernel_rfl
noncomputable def b139_1 (O : Oracle) (R : Jump) (q : Nat) (x0 x2 x4 x10 x11 : TVal) (h : Heap) : Res1 :=
 vbin .neq 0 x10 x11 h fun x20 h =>
 vif x20 (
 vbin .gtr 0 x10 x11 h fun x23 h =>
 vif x23 (
 vbin .sub 0 x2 x10 h fun x27 h =>
 vcall O (.v (.c (.func 148 []))) [x0, x27, x2, x11, x4] h 31 fun x31 h =>
 vbin .sub 0 x10 x11 h fun x34 h =>
 R 1 [x0, x2, x4, x34, x11] h)
 (vbin .sub 0 x2 x10 h fun x38 h =>
 vbin .add 0 x2 x11 h fun x41 h =>
 vbin .sub 0 x41 x10 h fun x43 h =>
 vcall O (.v (.c (.func 148 []))) [x0, x38, x43, x10, x4] h 46 fun x46 h =>
 vbin .sub 0 x11 x10 h fun x49 h =>
 R 1 [x0, x2, x4, x10, x49] h))
 (R 2 [x0, x2, x4, x10] h)
theorem e139_1 (O : Oracle) (R : Jump) (q : Nat) (x0 x2 x4 x10 x11 : TVal) (h : Heap) : b139_1 O R q x0 x2 x4 x10 x11 h = stepF c139 O R q 1 [x0, x2, x4, x10, x11] h := by kernel_rfl
noncomputable def b139_2 (O : Oracle) (R : Jump) (q : Nat) (x0 x2 x4 x10 : TVal) (h : Heap) : Res1 :=
 vbin .sub 0 x2 x10 h fun x53 h =>
 vcall O (.v (.c (.func 148 []))) [x0, x53, x2, x10, x4] h 57 fun x57 h =>
 vfin true q [] h
theorem e139_2 (O : Oracle) (R : Jump) (q : Nat) (x0 x2 x4 x10 : TVal) (h : Heap) : b139_2 O R q x0 x2 x4 x10 h = stepF c139 O R q 2 [x0, x2, x4, x10] h := by kernel_rfl
noncomputable def d139 : BlkF := fun O R Q => [.s fun a => .s fun b => .s fun c => .s fun d => .s fun e => .z (b139_0 O R Q a b c d e), .s fun a => .s fun b => .s fun c => .s fun d => .s fun e => .z (b139_1 O R Q a b c d e), .s fun a => .s fun b => .s fun c => .s fun d => .z (b139_2 O R Q a b c d)]
theorem o139 (O : Oracle) (R : Jump) (q : Nat) : HoldsAll c139 O R q 0 (d139 O R q) := ⟨e139_0 O R q, e139_1 O R q, e139_2 O R q, trivial⟩
/- strings.IndexByte -/
noncomputable def c140 : MFunc := mkM (compF Tryz.prog (globs2 tabs opq) (fun _ => false) true Tryz.f140) .n
noncomputable def b140_0 (O : Oracle) (R : Jump) (q : Nat) (x0 x1 : TVal) (h : Heap) : Res1 :=
 vcall O (.v (.c (.func 121 []))) [x0, x1] h 7 fun x7 h =>
 tcomp x7 fun c0 => vfin true q [c0] h
theorem e140_0 (O : Oracle) (R : Jump) (q : Nat) (x0 x1 : TVal) (h : Heap) : b140_0 O R q x0 x1 h = stepF c140 O R q 0 [x0, x1] h := by kernel_rfl
noncomputable def d140 : BlkF := fun O R Q => [.s fun a => .s fun b => .z (b140_0 O R Q a b)]
theorem o140 (O : Oracle) (R : Jump) (q : Nat) : HoldsAll c140 O R q 0 (d140 O R q) := ⟨e140_0 O R q, trivial⟩
/- unicode/utf8.ValidRune -/
noncomputable def c141 : MFunc := mkM (compF Tryz.prog (globs2 tabs opq) (fun _ => false) true Tryz.f141) .n
noncomputable def b141_0 (O : Oracle) (R : Jump) (q : Nat) (x0 : TVal) (h : Heap) : Res1 :=
 vbin .leq 0 (.v (.c (.p (.int .i32 0)))) x0 h fun x5 h =>
 vguard x5 true (fun kk => kk x0 h) h fun x7 h =>
 vguard x5 true (fun kk => vbin .lss 0 x7 (.v (.c (.p (.int .i32 55296)))) h kk) h fun x8 h =>
 vop O (.pick (.k x5) (.k x8) (.k (kB false))) h 9 fun x9 h =>
 vif x9 (
 tcomp (kB true) fun c0 => vfin true q [c0] h)
 (vbin .lss 0 (.v (.c (.p (.int .i32 57343)))) x0 h fun x12 h =>
 vguard x12 true (fun kk => kk x0 h) h fun x14 h =>
 vguard x12 true (fun kk => vbin .leq 0 x14 (.v (.c (.p (.int .i32 1114111)))) h kk) h fun x15 h =>
 vop O (.pick (.k x12) (.k x15) (.k (kB false))) h 16 fun x16 h =>
 vif x16 (
 tcomp (kB true) fun c0 => vfin true q [c0] h)
 (tcomp (kB false) fun c0 => vfin true q [c0] h))
theorem e141_0 (O : Oracle) (R : Jump) (q : Nat) (x0 : TVal) (h : Heap) : b141_0 O R q x0 h = stepF c141 O R q 0 [x0] h := by kernel_rfl
noncomputable def d141 : BlkF := fun O R Q => [.s fun a => .z (b141_0 O R Q a)]
theorem o141 (O : Oracle) (R : Jump) (q : Nat) : HoldsAll c141 O R q 0 (d141 O R q) := ⟨e141_0 O R q, trivial⟩
/- (*internal/sync.Mutex).Lock -/
noncomputable def c142 : MFunc := mkM (compF Tryz.prog (globs2 tabs opq) (fun _ => false) true Tryz.f142) (.s .n (.s (.s .n (.s (.s .n (.m 1 [] .n)) .n)) .n))
noncomputable def b142_0 (O : Oracle) (R : Jump) (q : Nat) (x0 : TVal) (h : Heap) : Res1 :=
 vcall O (.v (.c (.func 149 []))) [] h 2 fun x2 h =>
 vop O (.nilck (.k x0)) h 4 fun x4 h =>
 vfaddr 0 x4 h fun x5 h =>
 vcall O (.v (.c (.func 150 []))) [x5, (.v (.c (.p (.int .i32 0)))), (.v (.c (.p (.int .i32 1))))] h 6 fun x6 h =>
 vif x6 (
 vif (kB true) (
 vcall O (.v (.c (.func 151 []))) [] h 7 fun x7 h =>
 none)
 (R 1 [] h))
 (vcall O (.v (.c (.func 153 []))) [x0] h 12 fun x12 h =>
 vfin true q [] h)
theorem e142_0 (O : Oracle) (R : Jump) (q : Nat) (x0 : TVal) (h : Heap) : b142_0 O R q x0 h = stepF c142 O R q 0 [x0] h := by kernel_rfl
noncomputable def b142_1 (O : Oracle) (R : Jump) (q : Nat) (h : Heap) : Res1 :=
 vfin true q [] h
theorem e142_1 (O : Oracle) (R : Jump) (q : Nat) (h : Heap) : b142_1 O R q  h = stepF c142 O R q 1 [] h := by kernel_rfl
noncomputable def d142 : BlkF := fun O R Q => [.s fun a => .z (b142_0 O R Q a), .z (b142_1 O R Q )]
theorem o142 (O : Oracle) (R : Jump) (q : Nat) : HoldsAll c142 O R q 0 (d142 O R q) := ⟨e142_0 O R q, e142_1 O R q, trivial⟩
/- slices.swapRangeCmpFunc[sprue/data.entry] -/
noncomputable def c148 : MFunc := mkM (compF Tryz.prog (globs2 tabs opq) (fun _ => false) true Tryz.f148) (.s .n (.k (.l 1 [0, 1, 2, 3, 10] .n)))
noncomputable def b148_0 (O : Oracle) (R : Jump) (q : Nat) (x0 x1 x2 x3 x4 : TVal) (h : Heap) : Res1 :=
 R 1 [x0, x1, x2, x3, (kI 0)] h
theorem e148_0 (O : Oracle) (R : Jump) (q : Nat) (x0 x1 x2 x3 x4 : TVal) (h : Heap) : b148_0 O R q x0 x1 x2 x3 x4 h = stepF c148 O R q 0 [x0, x1, x2, x3, x4] h := by kernel_rfl
noncomputable def b148_1 (O : Oracle) (R : Jump) (q : Nat) (x0 x1 x2 x3 x10 : TVal) (h : Heap) : Res1 :=
 vbin .lss 0 x10 x3 h fun x13 h =>
 vif x13 (
 vbin .add 0 x1 x10 h fun x19 h =>
 vbin .add 0 x2 x10 h fun x23 h =>
 vbin .add 0 x2 x10 h fun x27 h =>
 viaddr 7 x0 x27 h fun x28 h =>
 vload true 7 x28 h fun x29 h =>
 vbin .add 0 x1 x10 h fun x33 h =>
 viaddr 7 x0 x33 h fun x34 h =>
 vload true 7 x34 h fun x35 h =>
 viaddr 7 x0 x19 h fun x36 h =>
 vstore 7 x36 x29 h fun _ h =>
 viaddr 7 x0 x23 h fun x37 h =>
 vstore 7 x37 x35 h fun _ h =>
 vbin .add 0 x10 (kI 1) h fun x15 h =>
 R 1 [x0, x1, x2, x3, x15] h)
 (vfin true q [] h)
theorem e148_1 (O : Oracle) (R : Jump) (q : Nat) (x0 x1 x2 x3 x10 : TVal) (h : Heap) : b148_1 O R q x0 x1 x2 x3 x10 h = stepF c148 O R q 1 [x0, x1, x2, x3, x10] h := by kernel_rfl
noncomputable def d148 : BlkF := fun O R Q => [.s fun a => .s fun b => .s fun c => .s fun d => .s fun e => .z (b148_0 O R Q a b c d e), .s fun a => .s fun b => .s fun c => .s fun d => .s fun e => .z (b148_1 O R Q a b c d e)]
theorem o148 (O : Oracle) (R : Jump) (q : Nat) : HoldsAll c148 O R q 0 (d148 O R q) := ⟨e148_0 O R q, e148_1 O R q, trivial⟩
/- (*internal/sync.Mutex).lockSlow -/
noncomputable def c153 : MFunc := mkM (compF Tryz.prog (globs2 tabs opq) (fun _ => false) true Tryz.f153) (.s .n (.s .n (.s .n (.s .n (.s .n (.s (.k (.l 1 [0, 2, 3, 4, 5, 6] (.k (.s (.s .n (.s (.s .n (.m 2 [0, 2, 3, 4, 5] .n)) .n)) (.s .n (.s .n (.m 3 [0, 2, 3, 4, 5, 6, 7] (.s .n (.m 4 [0, 2, 3, 4, 5, 6, 7] (.s .n (.m 5 [0, 2, 3, 4, 5, 6, 7] (.s (.s .n (.s (.s .n (.m 6 [0, 2, 3, 4, 5, 6, 7] .n)) .n)) (.m 7 [0, 2, 3, 4, 5, 6, 7] (.s .n (.s (.s .n (.s .n (.s .n (.m 8 [0, 2, 3, 8] (.s .n (.s .n (.s .n (.s (.s .n (.s (.s .n (.m 9 [0, 3, 6] (.s .n (.s .n (.m 10 [0, 9] .n))))) .n)) .n)))))))) .n))))))))))))))) (.m 11 [0] .n)))))))
noncomputable def b153_0 (O : Oracle) (R : Jump) (q : Nat) (x0 : TVal) (h : Heap) : Res1 :=
 vop O (.nilck (.k x0)) h 11 fun x11 h =>
 vfaddr 0 x11 h fun x12 h =>
 vload false 1 x12 h fun x13 h =>
 R 1 [x0, (kI 0), (kB false), (kB false), (kI 0), x13] h
theorem e153_0 (O : Oracle) (R : Jump) (q : Nat) (x0 : TVal) (h : Heap) : b153_0 O R q x0 h = stepF c153 O R q 0 [x0] h := by kernel_rfl
noncomputable def b153_1 (O : Oracle) (R : Jump) (q : Nat) (x0 x2 x3 x4 x5 x6 : TVal) (h : Heap) : Res1 :=
 vbin .and 0 x6 (.v (.c (.p (.int .i32 5)))) h fun x15 h =>
 vbin .eql 0 x15 (.v (.c (.p (.int .i32 1)))) h fun x16 h =>
 vguard x16 true (fun kk => kk x5 h) h fun x18 h =>
 vguard x16 true (fun kk => vcall O (.v (.c (.func 158 []))) [x18] h 19 kk) h fun x19 h =>
 vop O (.pick (.k x16) (.k x19) (.k (kB false))) h 20 fun x20 h =>
 vif x20 (
 vop O (.un .not (.k x4)) h 22 fun x22 h =>
 vguard x22 true (fun kk => kk x6 h) h fun x24 h =>
 vguard x22 true (fun kk => vbin .and 0 x24 (.v (.c (.p (.int .i32 2)))) h kk) h fun x25 h =>
 vguard x22 true (fun kk => vbin .eql 0 x25 (.v (.c (.p (.int .i32 0)))) h kk) h fun x26 h =>
 vop O (.pick (.k x22) (.k x26) (.k (kB false))) h 27 fun x27 h =>
 vguard x27 true (fun kk => kk x6 h) h fun x29 h =>
 vguard x27 true (fun kk => vbin .shr 0 x29 (.v (.c (.p (.int .u64 3)))) h kk) h fun x30 h =>
 vguard x27 true (fun kk => vbin .neq 0 x30 (.v (.c (.p (.int .i32 0)))) h kk) h fun x31 h =>
 vop O (.pick (.k x27) (.k x31) (.k (kB false))) h 32 fun x32 h =>
 vguard x32 true (fun kk => kk x0 h) h fun x34 h =>
 vguard x32 true (fun kk => vop O (.nilck (.k x34)) h 35 kk) h fun x35 h =>
 vguard x32 true (fun kk => vfaddr 0 x35 h kk) h fun x36 h =>
 vguard x32 true (fun kk => kk x6 h) h fun x37 h =>
 vguard x32 true (fun kk => kk x6 h) h fun x38 h =>
 vguard x32 true (fun kk => vbin .or 0 x38 (.v (.c (.p (.int .i32 2)))) h kk) h fun x39 h =>
 vguard x32 true (fun kk => vcall O (.v (.c (.func 150 []))) [x36, x37, x39] h 40 kk) h fun x40 h =>
 vop O (.pick (.k x32) (.k x40) (.k (kB false))) h 41 fun x41 h =>
 vif x41 (
 R 2 [x0, x2, x3, (kB true), x5] h)
 (R 2 [x0, x2, x3, x4, x5] h))
 (vbin .and 0 x6 (.v (.c (.p (.int .i32 4)))) h fun x51 h =>
 vbin .eql 0 x51 (.v (.c (.p (.int .i32 0)))) h fun x52 h =>
 vif x52 (
 vbin .or 0 x6 (.v (.c (.p (.int .i32 1)))) h fun x54 h =>
 R 3 [x0, x2, x3, x4, x5, x6, x54] h)
 (R 3 [x0, x2, x3, x4, x5, x6, x6] h))
theorem e153_1 (O : Oracle) (R : Jump) (q : Nat) (x0 x2 x3 x4 x5 x6 : TVal) (h : Heap) : b153_1 O R q x0 x2 x3 x4 x5 x6 h = stepF c153 O R q 1 [x0, x2, x3, x4, x5, x6] h := by kernel_rfl
noncomputable def b153_2 (O : Oracle) (R : Jump) (q : Nat) (x0 x2 x3 x4 x5 : TVal) (h : Heap) : Res1 :=
 vcall O (.v (.c (.func 159 []))) [] h 42 fun x42 h =>
 vbin .add 0 x5 (kI 1) h fun x44 h =>
 vop O (.nilck (.k x0)) h 46 fun x46 h =>
 vfaddr 0 x46 h fun x47 h =>
 vload false 1 x47 h fun x48 h =>
 R 1 [x0, x2, x3, x4, x44, x48] h
theorem e153_2 (O : Oracle) (R : Jump) (q : Nat) (x0 x2 x3 x4 x5 : TVal) (h : Heap) : b153_2 O R q x0 x2 x3 x4 x5 h = stepF c153 O R q 2 [x0, x2, x3, x4, x5] h := by kernel_rfl
noncomputable def b153_3 (O : Oracle) (R : Jump) (q : Nat) (x0 x2 x3 x4 x5 x6 x7 : TVal) (h : Heap) : Res1 :=
 vbin .and 0 x6 (.v (.c (.p (.int .i32 5)))) h fun x56 h =>
 vbin .neq 0 x56 (.v (.c (.p (.int .i32 0)))) h fun x57 h =>
 vif x57 (
 vbin .add 0 x7 (.v (.c (.p (.int .i32 8)))) h fun x59 h =>
 R 4 [x0, x2, x3, x4, x5, x6, x59] h)
 (R 4 [x0, x2, x3, x4, x5, x6, x7] h)
theorem e153_3 (O : Oracle) (R : Jump) (q : Nat) (x0 x2 x3 x4 x5 x6 x7 : TVal) (h : Heap) : b153_3 O R q x0 x2 x3 x4 x5 x6 x7 h = stepF c153 O R q 3 [x0, x2, x3, x4, x5, x6, x7] h := by kernel_rfl
noncomputable def b153_4 (O : Oracle) (R : Jump) (q : Nat) (x0 x2 x3 x4 x5 x6 x7 : TVal) (h : Heap) : Res1 :=
 vguard x3 true (fun kk => kk x6 h) h fun x62 h =>
 vguard x3 true (fun kk => vbin .and 0 x62 (.v (.c (.p (.int .i32 1)))) h kk) h fun x63 h =>
 vguard x3 true (fun kk => vbin .neq 0 x63 (.v (.c (.p (.int .i32 0)))) h kk) h fun x64 h =>
 vop O (.pick (.k x3) (.k x64) (.k (kB false))) h 65 fun x65 h =>
 vif x65 (
 vbin .or 0 x7 (.v (.c (.p (.int .i32 4)))) h fun x67 h =>
 R 5 [x0, x2, x3, x4, x5, x6, x67] h)
 (R 5 [x0, x2, x3, x4, x5, x6, x7] h)
theorem e153_4 (O : Oracle) (R : Jump) (q : Nat) (x0 x2 x3 x4 x5 x6 x7 : TVal) (h : Heap) : b153_4 O R q x0 x2 x3 x4 x5 x6 x7 h = stepF c153 O R q 4 [x0, x2, x3, x4, x5, x6, x7] h := by kernel_rfl
noncomputable def b153_5 (O : Oracle) (R : Jump) (q : Nat) (x0 x2 x3 x4 x5 x6 x7 : TVal) (h : Heap) : Res1 :=
 vif x4 (
 vbin .and 0 x7 (.v (.c (.p (.int .i32 2)))) h fun x70 h =>
 vbin .eql 0 x70 (.v (.c (.p (.int .i32 0)))) h fun x71 h =>
 vif x71 (
 vcall O (.v (.c (.func 160 []))) [(kS [115, 121, 110, 99, 58, 32, 105, 110, 99, 111, 110, 115, 105, 115, 116, 101, 110, 116, 32, 109, 117, 116, 101, 120, 32, 115, 116, 97, 116, 101])] h 72 fun x72 h =>
 R 6 [x0, x2, x3, x4, x5, x6, x7] h)
 (R 6 [x0, x2, x3, x4, x5, x6, x7] h))
 (R 7 [x0, x2, x3, x4, x5, x6, x7] h)
theorem e153_5 (O : Oracle) (R : Jump) (q : Nat) (x0 x2 x3 x4 x5 x6 x7 : TVal) (h : Heap) : b153_5 O R q x0 x2 x3 x4 x5 x6 x7 h = stepF c153 O R q 5 [x0, x2, x3, x4, x5, x6, x7] h := by kernel_rfl
noncomputable def b153_6 (O : Oracle) (R : Jump) (q : Nat) (x0 x2 x3 x4 x5 x6 x7 : TVal) (h : Heap) : Res1 :=
 vbin .andNot 0 x7 (.v (.c (.p (.int .i32 2)))) h fun x74 h =>
 R 7 [x0, x2, x3, x4, x5, x6, x74] h
theorem e153_6 (O : Oracle) (R : Jump) (q : Nat) (x0 x2 x3 x4 x5 x6 x7 : TVal) (h : Heap) : b153_6 O R q x0 x2 x3 x4 x5 x6 x7 h = stepF c153 O R q 6 [x0, x2, x3, x4, x5, x6, x7] h := by kernel_rfl
noncomputable def b153_7 (O : Oracle) (R : Jump) (q : Nat) (x0 x2 x3 x4 x5 x6 x7 : TVal) (h : Heap) : Res1 :=
 vop O (.nilck (.k x0)) h 76 fun x76 h =>
 vfaddr 0 x76 h fun x77 h =>
 vcall O (.v (.c (.func 150 []))) [x77, x6, x7] h 80 fun x80 h =>
 vif x80 (
 vbin .and 0 x6 (.v (.c (.p (.int .i32 5)))) h fun x82 h =>
 vbin .eql 0 x82 (.v (.c (.p (.int .i32 0)))) h fun x83 h =>
 vif x83 (
 R 11 [x0] h)
 (vbin .neq 0 x2 (kI 0) h fun x85 h =>
 vbin .eql 0 x2 (kI 0) h fun x87 h =>
 vif x87 (
 vcall O (.v (.c (.func 161 []))) [] h 88 fun x88 h =>
 R 8 [x0, x88, x3, x85] h)
 (R 8 [x0, x2, x3, x85] h)))
 (vop O (.nilck (.k x0)) h 132 fun x132 h =>
 vfaddr 0 x132 h fun x133 h =>
 vload false 1 x133 h fun x134 h =>
 R 1 [x0, x2, x3, x4, x5, x134] h)
theorem e153_7 (O : Oracle) (R : Jump) (q : Nat) (x0 x2 x3 x4 x5 x6 x7 : TVal) (h : Heap) : b153_7 O R q x0 x2 x3 x4 x5 x6 x7 h = stepF c153 O R q 7 [x0, x2, x3, x4, x5, x6, x7] h := by kernel_rfl
noncomputable def b153_8 (O : Oracle) (R : Jump) (q : Nat) (x0 x2 x3 x8 : TVal) (h : Heap) : Res1 :=
 vop O (.nilck (.k x0)) h 90 fun x90 h =>
 vfaddr 1 x90 h fun x91 h =>
 vcall O (.v (.c (.func 162 []))) [x91, x8, (kI 2)] h 93 fun x93 h =>
 vguard x3 false (fun kk => vcall O (.v (.c (.func 161 []))) [] h 96 kk) h fun x96 h =>
 vguard x3 false (fun kk => kk x2 h) h fun x97 h =>
 vguard x3 false (fun kk => vbin .sub 0 x96 x97 h kk) h fun x98 h =>
 vguard x3 false (fun kk => vbin .gtr 0 x98 (kI 1000000) h kk) h fun x99 h =>
 vop O (.pick (.k x3) (.k (kB true)) (.k x99)) h 100 fun x100 h =>
 vop O (.nilck (.k x0)) h 102 fun x102 h =>
 vfaddr 0 x102 h fun x103 h =>
 vload false 1 x103 h fun x104 h =>
 vbin .and 0 x104 (.v (.c (.p (.int .i32 4)))) h fun x106 h =>
 vbin .neq 0 x106 (.v (.c (.p (.int .i32 0)))) h fun x107 h =>
 vif x107 (
 vbin .and 0 x104 (.v (.c (.p (.int .i32 3)))) h fun x109 h =>
 vbin .neq 0 x109 (.v (.c (.p (.int .i32 0)))) h fun x110 h =>
 vguard x110 false (fun kk => kk x104 h) h fun x112 h =>
 vguard x110 false (fun kk => vbin .shr 0 x112 (.v (.c (.p (.int .u64 3)))) h kk) h fun x113 h =>
 vguard x110 false (fun kk => vbin .eql 0 x113 (.v (.c (.p (.int .i32 0)))) h kk) h fun x114 h =>
 vop O (.pick (.k x110) (.k (kB true)) (.k x114)) h 115 fun x115 h =>
 vif x115 (
 vcall O (.v (.c (.func 160 []))) [(kS [115, 121, 110, 99, 58, 32, 105, 110, 99, 111, 110, 115, 105, 115, 116, 101, 110, 116, 32, 109, 117, 116, 101, 120, 32, 115, 116, 97, 116, 101])] h 116 fun x116 h =>
 R 9 [x0, x100, x104] h)
 (R 9 [x0, x100, x104] h))
 (R 1 [x0, x2, x100, (kB true), (kI 0), x104] h)
theorem e153_8 (O : Oracle) (R : Jump) (q : Nat) (x0 x2 x3 x8 : TVal) (h : Heap) : b153_8 O R q x0 x2 x3 x8 h = stepF c153 O R q 8 [x0, x2, x3, x8] h := by kernel_rfl
noncomputable def b153_9 (O : Oracle) (R : Jump) (q : Nat) (x0 x3 x6 : TVal) (h : Heap) : Res1 :=
 vop O (.un .not (.k x3)) h 118 fun x118 h =>
 vguard x118 false (fun kk => kk x6 h) h fun x120 h =>
 vguard x118 false (fun kk => vbin .shr 0 x120 (.v (.c (.p (.int .u64 3)))) h kk) h fun x121 h =>
 vguard x118 false (fun kk => vbin .eql 0 x121 (.v (.c (.p (.int .i32 1)))) h kk) h fun x122 h =>
 vop O (.pick (.k x118) (.k (kB true)) (.k x122)) h 123 fun x123 h =>
 vif x123 (
 vbin .sub 0 (.v (.c (.p (.int .i32 (-7))))) (.v (.c (.p (.int .i32 4)))) h fun x125 h =>
 R 10 [x0, x125] h)
 (R 10 [x0, (.v (.c (.p (.int .i32 (-7)))))] h)
theorem e153_9 (O : Oracle) (R : Jump) (q : Nat) (x0 x3 x6 : TVal) (h : Heap) : b153_9 O R q x0 x3 x6 h = stepF c153 O R q 9 [x0, x3, x6] h := by kernel_rfl
noncomputable def b153_10 (O : Oracle) (R : Jump) (q : Nat) (x0 x9 : TVal) (h : Heap) : Res1 :=
 vop O (.nilck (.k x0)) h 127 fun x127 h =>
 vfaddr 0 x127 h fun x128 h =>
 vcall O (.v (.c (.func 155 []))) [x128, x9] h 130 fun x130 h =>
 R 11 [x0] h
theorem e153_10 (O : Oracle) (R : Jump) (q : Nat) (x0 x9 : TVal) (h : Heap) : b153_10 O R q x0 x9 h = stepF c153 O R q 10 [x0, x9] h := by kernel_rfl
noncomputable def b153_11 (O : Oracle) (R : Jump) (q : Nat) (x0 : TVal) (h : Heap) : Res1 :=
 vif (kB true) (
 vcall O (.v (.c (.func 151 []))) [] h 135 fun x135 h =>
 none)
 (vfin true q [] h)
theorem e153_11 (O : Oracle) (R : Jump) (q : Nat) (x0 : TVal) (h : Heap) : b153_11 O R q x0 h = stepF c153 O R q 11 [x0] h := by kernel_rfl
noncomputable def d153 : BlkF := fun O R Q => [.s fun a => .z (b153_0 O R Q a), .s fun a => .s fun b => .s fun c => .s fun d => .s fun e => .s fun f => .z (b153_1 O R Q a b c d e f), .s fun a => .s fun b => .s fun c => .s fun d => .s fun e => .z (b153_2 O R Q a b c d e), .s fun a => .s fun b => .s fun c => .s fun d => .s fun e => .s fun f => .s fun g => .z (b153_3 O R Q a b c d e f g), .s fun a => .s fun b => .s fun c => .s fun d => .s fun e => .s fun f => .s fun g => .z (b153_4 O R Q a b c d e f g), .s fun a => .s fun b => .s fun c => .s fun d => .s fun e => .s fun f => .s fun g => .z (b153_5 O R Q a b c d e f g), .s fun a => .s fun b => .s fun c => .s fun d => .s fun e => .s fun f => .s fun g => .z (b153_6 O R Q a b c d e f g), .s fun a => .s fun b => .s fun c => .s fun d => .s fun e => .s fun f => .s fun g => .z (b153_7 O R Q a b c d e f g), .s fun a => .s fun b => .s fun c => .s fun d => .z (b153_8 O R Q a b c d), .s fun a => .s fun b => .s fun c => .z (b153_9 O R Q a b c), .s fun a => .s fun b => .z (b153_10 O R Q a b), .s fun a => .z (b153_11 O R Q a)]
theorem o153 (O : Oracle) (R : Jump) (q : Nat) : HoldsAll c153 O R q 0 (d153 O R q) := ⟨e153_0 O R q, e153_1 O R q, e153_2 O R q, e153_3 O R q, e153_4 O R q, e153_5 O R q, e153_6 O R q, e153_7 O R q, e153_8 O R q, e153_9 O R q, e153_10 O R q, e153_11 O R q, trivial⟩
end Go.Proofs.YtiahgnkffnokfaaGreatDoor.Ab
