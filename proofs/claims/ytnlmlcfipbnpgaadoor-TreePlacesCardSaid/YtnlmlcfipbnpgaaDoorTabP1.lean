/- Functions of the given program as the abstract interpreter has them (part 1), printed by a program of our own; each is shown to be what 'compF' makes of the given program's. No condition. -/
import Derived.Test.YtnlmlcfipbnpgaaDoorTabP0
namespace Go.Proofs.YtnlmlcfipbnpgaaDoor.Ab
open Go Go.AI
noncomputable section
set_option linter.all false
set_option linter.unusedVariables false
set_option maxRecDepth 100000
def c159 : MFunc := mkM (compF Tryd.prog (globs2 tabs opq) (fun _ => false) true Tryd.f159) (.s .n (.k (.s .n (.s .n (.s .n (.s (.s (.s .n (.k (.l 1 [175] .n))) .n) (.s .n (.s .n (.k (.s .n (.s .n (.s .n (.s .n (.s (.k (.l 2 [0, 7, 8, 9] (.s .n (.k (.k (.s .n (.m 3 [0, 7, 8, 9] (.s (.s .n (.k (.l 4 [0, 7, 8, 9, 12] .n))) (.m 5 [8, 9] .n))))))))) (.m 6 [] (.s .n (.s .n (.s (.s .n (.k (.s .n (.s .n (.s .n (.k (.l 7 [0, 7, 8, 9, 14, 15] (.s .n (.s (.k (.s .n (.s (.s (.s .n (.k (.l 8 [0, 7, 8, 9, 14, 15, 16] .n))) (.m 9 [8, 9] .n)) .n))) (.m 10 [0, 7, 8, 9, 14, 15] .n)))))))))) .n))))))))))))))))))
def b159_0 (O : Oracle) (R : Jump) (q : Nat) (x0 x1 : TVal) (h : Heap) : Res1 :=
 vbin .leq 0 (.v (.c (.p (.int .i32 0)))) x1 h fun x162 h =>
 vguard x162 true (fun kk => kk x1 h) h fun x164 h =>
 vguard x162 true (fun kk => vbin .lss 0 x164 (.v (.c (.p (.int .i32 128)))) h kk) h fun x165 h =>
 vop O (.pick (.k x162) (.k x165) (.k (kB false))) h 166 fun x166 h =>
 vif x166 (
 vtoInt .u8 x1 h fun x169 h =>
 vcall O (.v (.c (.func 167 []))) [x0, x169] h 170 fun x170 h =>
 tcomp x170 fun c0 => vfin true q [c0] h)
 (vbin .eql 0 x1 (.v (.c (.p (.int .i32 65533)))) h fun x173 h =>
 vif x173 (
 vop O (.rangeS (.k x0)) h 175 fun x175 h =>
 R 1 [x175] h)
 (vcall O (.v (.c (.func 168 []))) [x1] h 185 fun x185 h =>
 vop O (.un .not (.k x185)) h 186 fun x186 h =>
 vif x186 (
 tcomp (kI (-1)) fun c0 => vfin true q [c0] h)
 (none)))
theorem e159_0 (O : Oracle) (R : Jump) (q : Nat) (x0 x1 : TVal) (h : Heap) : b159_0 O R q x0 x1 h = stepF c159 O R q 0 [x0, x1] h := by kernel_rfl
def b159_1 (O : Oracle) (R : Jump) (q : Nat) (x175 : TVal) (h : Heap) : Res1 :=
 vop O (.nextS (.k x175)) h 176 fun x176 h =>
 vext x176 0 h fun x177 h =>
 vif x177 (
 vext x176 1 h fun x178 h =>
 vext x176 2 h fun x179 h =>
 vbin .eql 0 x179 (.v (.c (.p (.int .i32 65533)))) h fun x181 h =>
 vif x181 (
 tcomp x178 fun c0 => vfin true q [c0] h)
 (R 1 [x175] h))
 (tcomp (kI (-1)) fun c0 => vfin true q [c0] h)
theorem e159_1 (O : Oracle) (R : Jump) (q : Nat) (x175 : TVal) (h : Heap) : b159_1 O R q x175 h = stepF c159 O R q 1 [x175] h := by kernel_rfl
def b159_2 (O : Oracle) (R : Jump) (q : Nat) (x0 x7 x8 x9 : TVal) (h : Heap) : Res1 :=
 vlen O 0 x0 h 25 fun x25 h =>
 vbin .lss 0 x9 x25 h fun x26 h =>
 vif x26 (
 vindex x0 x9 h fun x29 h =>
 vindex x7 x8 h fun x32 h =>
 vbin .neq 0 x29 x32 h fun x33 h =>
 vif x33 (
 vbin .add 0 x9 (kI 1) h fun x36 h =>
 vop O (.slice 0 true (.k x0) (some (.k x36)) none none) h 37 fun x37 h =>
 vindex x7 x8 h fun x40 h =>
 vcall O (.v (.c (.func 167 []))) [x37, x40] h 41 fun x41 h =>
 vbin .lss 0 x41 (kI 0) h fun x43 h =>
 vif x43 (
 tcomp (kI (-1)) fun c0 => vfin true q [c0] h)
 (vbin .add 0 x41 (kI 1) h fun x46 h =>
 vbin .add 0 x9 x46 h fun x47 h =>
 R 3 [x0, x7, x8, x47] h))
 (R 3 [x0, x7, x8, x9] h))
 (R 6 [] h)
theorem e159_2 (O : Oracle) (R : Jump) (q : Nat) (x0 x7 x8 x9 : TVal) (h : Heap) : b159_2 O R q x0 x7 x8 x9 h = stepF c159 O R q 2 [x0, x7, x8, x9] h := by kernel_rfl
def b159_3 (O : Oracle) (R : Jump) (q : Nat) (x0 x7 x8 x9 : TVal) (h : Heap) : Res1 :=
 R 4 [x0, x7, x8, x9, (kI 1)] h
theorem e159_3 (O : Oracle) (R : Jump) (q : Nat) (x0 x7 x8 x9 : TVal) (h : Heap) : b159_3 O R q x0 x7 x8 x9 h = stepF c159 O R q 3 [x0, x7, x8, x9] h := by kernel_rfl
def b159_4 (O : Oracle) (R : Jump) (q : Nat) (x0 x7 x8 x9 x12 : TVal) (h : Heap) : Res1 :=
 vlen O 0 x7 h 50 fun x50 h =>
 vbin .lss 0 x12 x50 h fun x51 h =>
 vif x51 (
 vbin .sub 0 x9 x12 h fun x57 h =>
 vindex x0 x57 h fun x58 h =>
 vbin .sub 0 x8 x12 h fun x62 h =>
 vindex x7 x62 h fun x63 h =>
 vbin .neq 0 x58 x63 h fun x64 h =>
 vif x64 (
 none)
 (vbin .add 0 x12 (kI 1) h fun x53 h =>
 R 4 [x0, x7, x8, x9, x53] h))
 (R 5 [x8, x9] h)
theorem e159_4 (O : Oracle) (R : Jump) (q : Nat) (x0 x7 x8 x9 x12 : TVal) (h : Heap) : b159_4 O R q x0 x7 x8 x9 x12 h = stepF c159 O R q 4 [x0, x7, x8, x9, x12] h := by kernel_rfl
def b159_5 (O : Oracle) (R : Jump) (q : Nat) (x8 x9 : TVal) (h : Heap) : Res1 :=
 vbin .sub 0 x9 x8 h fun x67 h =>
 tcomp x67 fun c0 => vfin true q [c0] h
theorem e159_5 (O : Oracle) (R : Jump) (q : Nat) (x8 x9 : TVal) (h : Heap) : b159_5 O R q x8 x9 h = stepF c159 O R q 5 [x8, x9] h := by kernel_rfl
def b159_6 (O : Oracle) (R : Jump) (q : Nat) (h : Heap) : Res1 :=
 tcomp (kI (-1)) fun c0 => vfin true q [c0] h
theorem e159_6 (O : Oracle) (R : Jump) (q : Nat) (h : Heap) : b159_6 O R q  h = stepF c159 O R q 6 [] h := by kernel_rfl
def b159_7 (O : Oracle) (R : Jump) (q : Nat) (x0 x7 x8 x9 x14 x15 : TVal) (h : Heap) : Res1 :=
 vlen O 0 x0 h 123 fun x123 h =>
 vbin .lss 0 x9 x123 h fun x124 h =>
 vif x124 (
 vindex x0 x9 h fun x129 h =>
 vbin .eql 0 x129 x14 h fun x131 h =>
 vguard x131 true (fun kk => kk x0 h) h fun x133 h =>
 vguard x131 true (fun kk => kk x9 h) h fun x134 h =>
 vguard x131 true (fun kk => vbin .sub 0 x134 (kI 1) h kk) h fun x135 h =>
 vguard x131 true (fun kk => vindex x133 x135 h kk) h fun x136 h =>
 vguard x131 true (fun kk => kk x15 h) h fun x137 h =>
 vguard x131 true (fun kk => vbin .eql 0 x136 x137 h kk) h fun x138 h =>
 vop O (.pick (.k x131) (.k x138) (.k (kB false))) h 139 fun x139 h =>
 vif x139 (
 R 8 [x0, x7, x8, x9, x14, x15, (kI 2)] h)
 (R 10 [x0, x7, x8, x9, x14, x15] h))
 (tcomp (kI (-1)) fun c0 => vfin true q [c0] h)
theorem e159_7 (O : Oracle) (R : Jump) (q : Nat) (x0 x7 x8 x9 x14 x15 : TVal) (h : Heap) : b159_7 O R q x0 x7 x8 x9 x14 x15 h = stepF c159 O R q 7 [x0, x7, x8, x9, x14, x15] h := by kernel_rfl
def b159_8 (O : Oracle) (R : Jump) (q : Nat) (x0 x7 x8 x9 x14 x15 x16 : TVal) (h : Heap) : Res1 :=
 vlen O 0 x7 h 142 fun x142 h =>
 vbin .lss 0 x16 x142 h fun x143 h =>
 vif x143 (
 vbin .sub 0 x9 x16 h fun x149 h =>
 vindex x0 x149 h fun x150 h =>
 vbin .sub 0 x8 x16 h fun x154 h =>
 vindex x7 x154 h fun x155 h =>
 vbin .neq 0 x150 x155 h fun x156 h =>
 vif x156 (
 R 10 [x0, x7, x8, x9, x14, x15] h)
 (vbin .add 0 x16 (kI 1) h fun x145 h =>
 R 8 [x0, x7, x8, x9, x14, x15, x145] h))
 (R 9 [x8, x9] h)
theorem e159_8 (O : Oracle) (R : Jump) (q : Nat) (x0 x7 x8 x9 x14 x15 x16 : TVal) (h : Heap) : b159_8 O R q x0 x7 x8 x9 x14 x15 x16 h = stepF c159 O R q 8 [x0, x7, x8, x9, x14, x15, x16] h := by kernel_rfl
def b159_9 (O : Oracle) (R : Jump) (q : Nat) (x8 x9 : TVal) (h : Heap) : Res1 :=
 vbin .sub 0 x9 x8 h fun x159 h =>
 tcomp x159 fun c0 => vfin true q [c0] h
theorem e159_9 (O : Oracle) (R : Jump) (q : Nat) (x8 x9 : TVal) (h : Heap) : b159_9 O R q x8 x9 h = stepF c159 O R q 9 [x8, x9] h := by kernel_rfl
def b159_10 (O : Oracle) (R : Jump) (q : Nat) (x0 x7 x8 x9 x14 x15 : TVal) (h : Heap) : Res1 :=
 vbin .add 0 x9 (kI 1) h fun x126 h =>
 R 7 [x0, x7, x8, x126, x14, x15] h
theorem e159_10 (O : Oracle) (R : Jump) (q : Nat) (x0 x7 x8 x9 x14 x15 : TVal) (h : Heap) : b159_10 O R q x0 x7 x8 x9 x14 x15 h = stepF c159 O R q 10 [x0, x7, x8, x9, x14, x15] h := by kernel_rfl
def d159 : BlkF := fun O R Q => [.s fun a => .s fun b => .z (b159_0 O R Q a b), .s fun a => .z (b159_1 O R Q a), .s fun a => .s fun b => .s fun c => .s fun d => .z (b159_2 O R Q a b c d), .s fun a => .s fun b => .s fun c => .s fun d => .z (b159_3 O R Q a b c d), .s fun a => .s fun b => .s fun c => .s fun d => .s fun e => .z (b159_4 O R Q a b c d e), .s fun a => .s fun b => .z (b159_5 O R Q a b), .z (b159_6 O R Q ), .s fun a => .s fun b => .s fun c => .s fun d => .s fun e => .s fun f => .z (b159_7 O R Q a b c d e f), .s fun a => .s fun b => .s fun c => .s fun d => .s fun e => .s fun f => .s fun g => .z (b159_8 O R Q a b c d e f g), .s fun a => .s fun b => .z (b159_9 O R Q a b), .s fun a => .s fun b => .s fun c => .s fun d => .s fun e => .s fun f => .z (b159_10 O R Q a b c d e f)]
theorem o159 (O : Oracle) (R : Jump) (q : Nat) : HoldsAll c159 O R q 0 (d159 O R q) := ⟨e159_0 O R q, e159_1 O R q, e159_2 O R q, e159_3 O R q, e159_4 O R q, e159_5 O R q, e159_6 O R q, e159_7 O R q, e159_8 O R q, e159_9 O R q, e159_10 O R q, trivial⟩
def c160 : MFunc := mkM (compF Tryd.prog (globs2 tabs opq) (fun _ => false) true Tryd.f160) .n
def b160_0 (O : Oracle) (R : Jump) (q : Nat) (x0 : TVal) (h : Heap) : Res1 :=
 vbin .and 0 x0 (.v (.c (.p (.int .u8 192)))) h fun x4 h =>
 vbin .neq 0 x4 (.v (.c (.p (.int .u8 128)))) h fun x5 h =>
 tcomp x5 fun c0 => vfin true q [c0] h
theorem e160_0 (O : Oracle) (R : Jump) (q : Nat) (x0 : TVal) (h : Heap) : b160_0 O R q x0 h = stepF c160 O R q 0 [x0] h := by kernel_rfl
def d160 : BlkF := fun O R Q => [.s fun a => .z (b160_0 O R Q a)]
theorem o160 (O : Oracle) (R : Jump) (q : Nat) : HoldsAll c160 O R q 0 (d160 O R q) := ⟨e160_0 O R q, trivial⟩
def c161 : MFunc := mkM (compF Tryd.prog (globs2 tabs opq) (fun _ => false) true Tryd.f161) .n
def b161_0 (O : Oracle) (R : Jump) (q : Nat) (x0 x1 : TVal) (h : Heap) : Res1 :=
 vcall O (.v (.c (.func 130 []))) [x0, x1] h 7 fun x7 h =>
 vif x7 (
 vlen O 0 x1 h 10 fun x10 h =>
 vop O (.slice 0 true (.k x0) (some (.k x10)) none none) h 11 fun x11 h =>
 tcomp x11 fun c0 => vfin true q [c0] h)
 (tcomp x0 fun c0 => vfin true q [c0] h)
theorem e161_0 (O : Oracle) (R : Jump) (q : Nat) (x0 x1 : TVal) (h : Heap) : b161_0 O R q x0 x1 h = stepF c161 O R q 0 [x0, x1] h := by kernel_rfl
def d161 : BlkF := fun O R Q => [.s fun a => .s fun b => .z (b161_0 O R Q a b)]
theorem o161 (O : Oracle) (R : Jump) (q : Nat) : HoldsAll c161 O R q 0 (d161 O R q) := ⟨e161_0 O R q, trivial⟩
def c162 : MFunc := mkM (compF Tryd.prog (globs2 tabs opq) (fun _ => false) true Tryd.f162) (.s .n (.s .n (.s .n (.s (.s .n (.k (.l 1 [0, 1, 5, 6, 14] .n))) (.m 2 [0, 5, 6] (.s .n (.m 3 [0, 5] (.s .n (.s (.s .n (.k (.l 4 [0, 9, 47, 48, 49] .n))) .n)))))))))
def b162_0 (O : Oracle) (R : Jump) (q : Nat) (x0 x1 : TVal) (h : Heap) : Res1 :=
 vop O (.mkslice 2 16 [(.p (.int .i64 0)), (.p (.int .i64 0))] (.k (kI 0)) (.k (kI 32)) false) h 12 fun x12 h =>
 vop O (.rangeS (.k x0)) h 14 fun x14 h =>
 R 1 [x0, x1, x12, (kI (-1)), x14] h
theorem e162_0 (O : Oracle) (R : Jump) (q : Nat) (x0 x1 : TVal) (h : Heap) : b162_0 O R q x0 x1 h = stepF c162 O R q 0 [x0, x1] h := by kernel_rfl
def b162_1 (O : Oracle) (R : Jump) (q : Nat) (x0 x1 x5 x6 x14 : TVal) (h : Heap) : Res1 :=
 vop O (.nextS (.k x14)) h 15 fun x15 h =>
 vext x15 0 h fun x16 h =>
 vif x16 (
 vext x15 1 h fun x17 h =>
 vext x15 2 h fun x18 h =>
 vcall O x1 [x18] h 21 fun x21 h =>
 vif x21 (
 vbin .geq 0 x6 (kI 0) h fun x23 h =>
 vif x23 (
 vop O (.build [(.p (.int .i64 0)), (.p (.int .i64 0))] [(0, 1, (.k x6)), (1, 1, (.k x17))]) h 27 fun x27 h =>
 vop O (.bslice 2 1 [(.p (.int .i64 0)), (.p (.int .i64 0))] [(0, (.k x27))] false) h 28 fun x28 h =>
 vop O (.append 2 16 false (.k x5) (.k x28)) h 29 fun x29 h =>
 vop O (.un .xor (.k x6)) h 31 fun x31 h =>
 R 1 [x0, x1, x29, x31, x14] h)
 (R 1 [x0, x1, x5, x6, x14] h))
 (vbin .lss 0 x6 (kI 0) h fun x33 h =>
 vif x33 (
 R 1 [x0, x1, x5, x17, x14] h)
 (R 1 [x0, x1, x5, x6, x14] h)))
 (R 2 [x0, x5, x6] h)
theorem e162_1 (O : Oracle) (R : Jump) (q : Nat) (x0 x1 x5 x6 x14 : TVal) (h : Heap) : b162_1 O R q x0 x1 x5 x6 x14 h = stepF c162 O R q 1 [x0, x1, x5, x6, x14] h := by kernel_rfl
def b162_2 (O : Oracle) (R : Jump) (q : Nat) (x0 x5 x6 : TVal) (h : Heap) : Res1 :=
 vbin .geq 0 x6 (kI 0) h fun x36 h =>
 vif x36 (
 vlen O 0 x0 h 40 fun x40 h =>
 vop O (.build [(.p (.int .i64 0)), (.p (.int .i64 0))] [(0, 1, (.k x6)), (1, 1, (.k x40))]) h 41 fun x41 h =>
 vop O (.bslice 2 1 [(.p (.int .i64 0)), (.p (.int .i64 0))] [(0, (.k x41))] false) h 42 fun x42 h =>
 vop O (.append 2 16 false (.k x5) (.k x42)) h 43 fun x43 h =>
 R 3 [x0, x43] h)
 (R 3 [x0, x5] h)
theorem e162_2 (O : Oracle) (R : Jump) (q : Nat) (x0 x5 x6 : TVal) (h : Heap) : b162_2 O R q x0 x5 x6 h = stepF c162 O R q 2 [x0, x5, x6] h := by kernel_rfl
def b162_3 (O : Oracle) (R : Jump) (q : Nat) (x0 x5 : TVal) (h : Heap) : Res1 :=
 vlen O 2 x5 h 45 fun x45 h =>
 vop O (.mkslice 1 16 [(.p (.str []))] (.k x45) (.k x45) false) h 46 fun x46 h =>
 vlen O 2 x5 h 48 fun x48 h =>
 R 4 [x0, x46, x5, x48, (kI 0)] h
theorem e162_3 (O : Oracle) (R : Jump) (q : Nat) (x0 x5 : TVal) (h : Heap) : b162_3 O R q x0 x5 h = stepF c162 O R q 3 [x0, x5] h := by kernel_rfl
def b162_4 (O : Oracle) (R : Jump) (q : Nat) (x0 x9 x47 x48 x49 : TVal) (h : Heap) : Res1 :=
 vbin .lss 0 x49 x48 h fun x50 h =>
 vif x50 (
 viaddr 2 x47 x49 h fun x52 h =>
 vload true 2 x52 h fun x53 h =>
 vop O (.alloc [(.p (.int .i64 0)), (.p (.int .i64 0))] false) h 11 fun x11 h =>
 vstore 2 x11 x53 h fun _ h =>
 vfaddr 0 x11 h fun x57 h =>
 vload false 1 x57 h fun x58 h =>
 vfaddr 1 x11 h fun x59 h =>
 vload false 1 x59 h fun x60 h =>
 vop O (.slice 0 true (.k x0) (some (.k x58)) (some (.k x60)) none) h 61 fun x61 h =>
 viaddr 1 x9 x49 h fun x62 h =>
 vstore 1 x62 x61 h fun _ h =>
 vbin .add 0 x49 (kI 1) h fun x63 h =>
 R 4 [x0, x9, x47, x48, x63] h)
 (tcomp x9 fun c0 => vfin true q [c0] h)
theorem e162_4 (O : Oracle) (R : Jump) (q : Nat) (x0 x9 x47 x48 x49 : TVal) (h : Heap) : b162_4 O R q x0 x9 x47 x48 x49 h = stepF c162 O R q 4 [x0, x9, x47, x48, x49] h := by kernel_rfl
def d162 : BlkF := fun O R Q => [.s fun a => .s fun b => .z (b162_0 O R Q a b), .s fun a => .s fun b => .s fun c => .s fun d => .s fun e => .z (b162_1 O R Q a b c d e), .s fun a => .s fun b => .s fun c => .z (b162_2 O R Q a b c), .s fun a => .s fun b => .z (b162_3 O R Q a b), .s fun a => .s fun b => .s fun c => .s fun d => .s fun e => .z (b162_4 O R Q a b c d e)]
theorem o162 (O : Oracle) (R : Jump) (q : Nat) : HoldsAll c162 O R q 0 (d162 O R q) := ⟨e162_0 O R q, e162_1 O R q, e162_2 O R q, e162_3 O R q, e162_4 O R q, trivial⟩
def c163 : MFunc := mkM (compF Tryd.prog (globs2 tabs opq) (fun _ => false) true Tryd.f163) (.s .n (.s (.s .n (.s (.s (.s .n (.k (.s .n (.m 1 [7] .n)))) .n) .n)) .n))
def b163_0 (O : Oracle) (R : Jump) (q : Nat) (x0 : TVal) (h : Heap) : Res1 :=
 vtoInt .u32 x0 h fun x4 h =>
 vbin .leq 0 x4 (.v (.c (.p (.int .u32 255)))) h fun x5 h =>
 vif x5 (
 vbin .eql 0 x0 (.v (.c (.p (.int .i32 9)))) h fun x8 h =>
 vif x8 (
 R 1 [x8] h)
 (vbin .eql 0 x0 (.v (.c (.p (.int .i32 10)))) h fun x9 h =>
 vif x9 (
 R 1 [x9] h)
 (vbin .eql 0 x0 (.v (.c (.p (.int .i32 11)))) h fun x10 h =>
 vif x10 (
 R 1 [x10] h)
 (vbin .eql 0 x0 (.v (.c (.p (.int .i32 12)))) h fun x11 h =>
 vif x11 (
 R 1 [x11] h)
 (vbin .eql 0 x0 (.v (.c (.p (.int .i32 13)))) h fun x12 h =>
 vif x12 (
 R 1 [x12] h)
 (vbin .eql 0 x0 (.v (.c (.p (.int .i32 32)))) h fun x13 h =>
 vif x13 (
 R 1 [x13] h)
 (vbin .eql 0 x0 (.v (.c (.p (.int .i32 133)))) h fun x14 h =>
 vif x14 (
 R 1 [x14] h)
 (vbin .eql 0 x0 (.v (.c (.p (.int .i32 160)))) h fun x15 h =>
 R 1 [x15] h))))))))
 (none)
theorem e163_0 (O : Oracle) (R : Jump) (q : Nat) (x0 : TVal) (h : Heap) : b163_0 O R q x0 h = stepF c163 O R q 0 [x0] h := by kernel_rfl
def b163_1 (O : Oracle) (R : Jump) (q : Nat) (x7 : TVal) (h : Heap) : Res1 :=
 vif x7 (
 tcomp (kB true) fun c0 => vfin true q [c0] h)
 (tcomp (kB false) fun c0 => vfin true q [c0] h)
theorem e163_1 (O : Oracle) (R : Jump) (q : Nat) (x7 : TVal) (h : Heap) : b163_1 O R q x7 h = stepF c163 O R q 1 [x7] h := by kernel_rfl
def d163 : BlkF := fun O R Q => [.s fun a => .z (b163_0 O R Q a), .s fun a => .z (b163_1 O R Q a)]
theorem o163 (O : Oracle) (R : Jump) (q : Nat) : HoldsAll c163 O R q 0 (d163 O R q) := ⟨e163_0 O R q, e163_1 O R q, trivial⟩
def c165 : MFunc := mkM (compF Tryd.prog (globs2 tabs opq) (fun _ => false) true Tryd.f165) (.s .n (.s .n (.k (.l 1 [0, 1, 5] .n))))
def b165_0 (O : Oracle) (R : Jump) (q : Nat) (x0 x1 : TVal) (h : Heap) : Res1 :=
 R 1 [x0, x1, (.v (.c (.p .nilslice)))] h
theorem e165_0 (O : Oracle) (R : Jump) (q : Nat) (x0 x1 : TVal) (h : Heap) : b165_0 O R q x0 x1 h = stepF c165 O R q 0 [x0, x1] h := by kernel_rfl
def b165_1 (O : Oracle) (R : Jump) (q : Nat) (x0 x1 x5 : TVal) (h : Heap) : Res1 :=
 vcall O (.v (.c (.func 101 []))) [x0, (kI 0)] h 9 fun x9 h =>
 vcall O (.v (.c (.func 101 []))) [x0, (kI 1)] h 11 fun x11 h =>
 vop O (.alloc [(.p (.int .i64 0)), (.p (.str [])), (.p (.int .i64 0)), (.p (.int .i64 0))] false) h 6 fun x6 h =>
 vop O (.alloc [(.p (.int .i64 0)), (.p (.str [])), (.p (.int .i64 0)), (.p (.int .i64 0))] false) h 7 fun x7 h =>
 vstore 4 x6 x9 h fun _ h =>
 vstore 4 x7 x11 h fun _ h =>
 vload true 4 x6 h fun x12 h =>
 vcall O (.v (.c (.func 102 []))) [x12, (kS [46])] h 13 fun x13 h =>
 vop O (.un .not (.k x13)) h 14 fun x14 h =>
 vguard x14 false (fun kk => vfaddr 3 x6 h kk) h fun x16 h =>
 vguard x14 false (fun kk => vload false 1 x16 h kk) h fun x17 h =>
 vguard x14 false (fun kk => kk x1 h) h fun x18 h =>
 vguard x14 false (fun kk => vbin .neq 0 x17 x18 h kk) h fun x19 h =>
 vop O (.pick (.k x14) (.k (kB true)) (.k x19)) h 20 fun x20 h =>
 vguard x20 false (fun kk => vfaddr 0 x7 h kk) h fun x22 h =>
 vguard x20 false (fun kk => vload false 1 x22 h kk) h fun x23 h =>
 vguard x20 false (fun kk => vbin .neq 0 x23 (kI 1) h kk) h fun x24 h =>
 vop O (.pick (.k x20) (.k (kB true)) (.k x24)) h 25 fun x25 h =>
 vguard x25 false (fun kk => vfaddr 3 x7 h kk) h fun x27 h =>
 vguard x25 false (fun kk => vload false 1 x27 h kk) h fun x28 h =>
 vguard x25 false (fun kk => kk x1 h) h fun x29 h =>
 vguard x25 false (fun kk => vbin .add 0 x29 (kI 1) h kk) h fun x30 h =>
 vguard x25 false (fun kk => vbin .neq 0 x28 x30 h kk) h fun x31 h =>
 vop O (.pick (.k x25) (.k (kB true)) (.k x31)) h 32 fun x32 h =>
 vif x32 (
 tcomp x5 fun c0 => vfin true q [c0] h)
 (vfaddr 1 x7 h fun x35 h =>
 vload false 1 x35 h fun x36 h =>
 vop O (.bslice 1 1 [(.p (.str []))] [(0, (.k x36))] false) h 37 fun x37 h =>
 vop O (.append 1 16 false (.k x5) (.k x37)) h 38 fun x38 h =>
 vfaddr 3 x7 h fun x39 h =>
 vload false 1 x39 h fun x40 h =>
 vfaddr 1 x7 h fun x41 h =>
 vload false 1 x41 h fun x42 h =>
 vlen O 0 x42 h 43 fun x43 h =>
 vbin .add 0 x40 x43 h fun x44 h =>
 vop O (.nilck (.k x0)) h 46 fun x46 h =>
 vfaddr 1 x46 h fun x47 h =>
 vload false 1 x47 h fun x48 h =>
 vbin .add 0 x48 (kI 2) h fun x49 h =>
 vop O (.nilck (.k x0)) h 50 fun x50 h =>
 vfaddr 1 x50 h fun x51 h =>
 vstore 1 x51 x49 h fun _ h =>
 R 1 [x0, x44, x38] h)
theorem e165_1 (O : Oracle) (R : Jump) (q : Nat) (x0 x1 x5 : TVal) (h : Heap) : b165_1 O R q x0 x1 x5 h = stepF c165 O R q 1 [x0, x1, x5] h := by kernel_rfl
def d165 : BlkF := fun O R Q => [.s fun a => .s fun b => .z (b165_0 O R Q a b), .s fun a => .s fun b => .s fun c => .z (b165_1 O R Q a b c)]
theorem o165 (O : Oracle) (R : Jump) (q : Nat) : HoldsAll c165 O R q 0 (d165 O R q) := ⟨e165_0 O R q, e165_1 O R q, trivial⟩
def c166 : MFunc := mkM (compF Tryd.prog (globs2 tabs opq) (fun _ => false) true Tryd.f166) .n
def b166_0 (O : Oracle) (R : Jump) (q : Nat) (x0 : TVal) (h : Heap) : Res1 :=
 vop O (.alloc [(.p (.int .i64 0)), (.p (.str [])), (.p .nilslice), (.p (.str [])), (.p (.int .i64 0)), (.p (.bool false)), (.p .nilslice)] false) h 2 fun x2 h =>
 vop O (.nilck (.k x0)) h 5 fun x5 h =>
 vfaddr 3 x5 h fun x6 h =>
 vload false 1 x6 h fun x7 h =>
 vbin .add 0 x7 (kI 1) h fun x8 h =>
 vop O (.nilck (.k x0)) h 9 fun x9 h =>
 vfaddr 3 x9 h fun x10 h =>
 vstore 1 x10 x8 h fun _ h =>
 vop O (.nilck (.k x0)) h 12 fun x12 h =>
 vfaddr 3 x12 h fun x13 h =>
 vload false 1 x13 h fun x14 h =>
 vbin .gtr 0 x14 (kI 12) h fun x15 h =>
 vif x15 (
 vcall O (.v (.c (.func 157 []))) [x0, (kI 13)] h 17 fun x17 h =>
 vop O (.build [(.p (.int .i64 0)), (.p (.str [])), (.p .nilslice), (.p (.str [])), (.p (.int .i64 0)), (.p (.bool false)), (.p .nilslice)] []) h 18 fun x18 h =>
 vstore 7 x2 x18 h fun _ h =>
 vcell true 7 x2 h fun c0 => vfin true q [c0] h)
 (vcall O (.v (.c (.func 103 []))) [x0] h 20 fun x20 h =>
 vcall O (.v (.c (.func 132 []))) [x0, (kS [41])] h 23 fun x23 h =>
 vcall O (.v (.c (.func 135 []))) [x0, x23] h 24 fun x24 h =>
 vop O (.nilck (.k x0)) h 26 fun x26 h =>
 vfaddr 3 x26 h fun x27 h =>
 vload false 1 x27 h fun x28 h =>
 vbin .sub 0 x28 (kI 1) h fun x29 h =>
 vop O (.nilck (.k x0)) h 30 fun x30 h =>
 vfaddr 3 x30 h fun x31 h =>
 vstore 1 x31 x29 h fun _ h =>
 vop O (.build [(.p (.int .i64 0)), (.p (.str [])), (.p .nilslice), (.p (.str [])), (.p (.int .i64 0)), (.p (.bool false)), (.p .nilslice)] [(0, 1, (.k (kI 5))), (6, 1, (.k x20))]) h 33 fun x33 h =>
 vstore 7 x2 x33 h fun _ h =>
 vcell true 7 x2 h fun c0 => vfin true q [c0] h)
theorem e166_0 (O : Oracle) (R : Jump) (q : Nat) (x0 : TVal) (h : Heap) : b166_0 O R q x0 h = stepF c166 O R q 0 [x0] h := by kernel_rfl
def d166 : BlkF := fun O R Q => [.s fun a => .z (b166_0 O R Q a)]
theorem o166 (O : Oracle) (R : Jump) (q : Nat) : HoldsAll c166 O R q 0 (d166 O R q) := ⟨e166_0 O R q, trivial⟩
def c167 : MFunc := mkM (compF Tryd.prog (globs2 tabs opq) (fun _ => false) true Tryd.f167) .n
def b167_0 (O : Oracle) (R : Jump) (q : Nat) (x0 x1 : TVal) (h : Heap) : Res1 :=
 vcall O (.v (.c (.func 126 []))) [x0, x1] h 7 fun x7 h =>
 tcomp x7 fun c0 => vfin true q [c0] h
theorem e167_0 (O : Oracle) (R : Jump) (q : Nat) (x0 x1 : TVal) (h : Heap) : b167_0 O R q x0 x1 h = stepF c167 O R q 0 [x0, x1] h := by kernel_rfl
def d167 : BlkF := fun O R Q => [.s fun a => .s fun b => .z (b167_0 O R Q a b)]
theorem o167 (O : Oracle) (R : Jump) (q : Nat) : HoldsAll c167 O R q 0 (d167 O R q) := ⟨e167_0 O R q, trivial⟩
def c168 : MFunc := mkM (compF Tryd.prog (globs2 tabs opq) (fun _ => false) true Tryd.f168) .n
def b168_0 (O : Oracle) (R : Jump) (q : Nat) (x0 : TVal) (h : Heap) : Res1 :=
 vbin .leq 0 (.v (.c (.p (.int .i32 0)))) x0 h fun x5 h =>
 vguard x5 true (fun kk => kk x0 h) h fun x7 h =>
 vguard x5 true (fun kk => vbin .lss 0 x7 (.v (.c (.p (.int .i32 55296)))) h kk) h fun x8 h =>
 vop O (.pick (.k x5) (.k x8) (.k (kB false))) h 9 fun x9 h =>
 vif x9 (
 tcomp (kB true) fun c0 => vfin true q [c0] h)
 (vbin .lss 0 (.v (.c (.p (.int .i32 57343)))) x0 h fun x12 h =>
 vguard x12 true (fun kk => kk x0 h) h fun x14 h =>
 vguard x12 true (fun kk => vbin .leq 0 x14 (.v (.c (.p (.int .i32 1114111)))) h kk) h fun x15 h =>
 vop O (.pick (.k x12) (.k x15) (.k (kB false))) h 16 fun x16 h =>
 vif x16 (
 tcomp (kB true) fun c0 => vfin true q [c0] h)
 (tcomp (kB false) fun c0 => vfin true q [c0] h))
theorem e168_0 (O : Oracle) (R : Jump) (q : Nat) (x0 : TVal) (h : Heap) : b168_0 O R q x0 h = stepF c168 O R q 0 [x0] h := by kernel_rfl
def d168 : BlkF := fun O R Q => [.s fun a => .z (b168_0 O R Q a)]
theorem o168 (O : Oracle) (R : Jump) (q : Nat) : HoldsAll c168 O R q 0 (d168 O R q) := ⟨e168_0 O R q, trivial⟩
def c169 : MFunc := mkM (compF Tryd.prog (globs2 tabs opq) (fun _ => false) true Tryd.f169) .n
def b169_0 (O : Oracle) (R : Jump) (q : Nat) (x0 x1 : TVal) (h : Heap) : Res1 :=
 vop O (.nilck (.k x0)) h 9 fun x9 h =>
 vfaddr 0 x9 h fun x10 h =>
 vload false 1 x10 h fun x11 h =>
 vop O (.nilck (.k x0)) h 13 fun x13 h =>
 vfaddr 2 x13 h fun x14 h =>
 vload false 1 x14 h fun x15 h =>
 vlen O 2 x11 h 17 fun x17 h =>
 vbin .gtr 0 x17 x15 h fun x19 h =>
 vguard x19 true (fun kk => kk x1 h) h fun x21 h =>
 vguard x19 true (fun kk => vtoInt .u32 x21 h kk) h fun x22 h =>
 vguard x19 true (fun kk => kk x11 h) h fun x23 h =>
 vguard x19 true (fun kk => kk x11 h) h fun x24 h =>
 vguard x19 true (fun kk => vlen O 2 x24 h 25 kk) h fun x25 h =>
 vguard x19 true (fun kk => vbin .sub 0 x25 (kI 1) h kk) h fun x26 h =>
 vguard x19 true (fun kk => viaddr 3 x23 x26 h kk) h fun x27 h =>
 vguard x19 true (fun kk => vfaddr 1 x27 h kk) h fun x28 h =>
 vguard x19 true (fun kk => vload false 1 x28 h kk) h fun x29 h =>
 vguard x19 true (fun kk => vtoInt .u32 x29 h kk) h fun x30 h =>
 vguard x19 true (fun kk => vbin .leq 0 x22 x30 h kk) h fun x31 h =>
 vop O (.pick (.k x19) (.k x31) (.k (kB false))) h 32 fun x32 h =>
 vif x32 (
 vop O (.slice 3 false (.k x11) (some (.k x15)) none none) h 35 fun x35 h =>
 vtoInt .u16 x1 h fun x37 h =>
 vcall O (.v (.c (.func 171 []))) [x35, x37] h 38 fun x38 h =>
 tcomp x38 fun c0 => vfin true q [c0] h)
 (vop O (.nilck (.k x0)) h 40 fun x40 h =>
 vfaddr 1 x40 h fun x41 h =>
 vload false 1 x41 h fun x42 h =>
 vlen O 2 x42 h 44 fun x44 h =>
 vbin .gtr 0 x44 (kI 0) h fun x45 h =>
 vguard x45 true (fun kk => kk x1 h) h fun x47 h =>
 vguard x45 true (fun kk => kk x42 h) h fun x48 h =>
 vguard x45 true (fun kk => viaddr 3 x48 (kI 0) h kk) h fun x49 h =>
 vguard x45 true (fun kk => vfaddr 0 x49 h kk) h fun x50 h =>
 vguard x45 true (fun kk => vload false 1 x50 h kk) h fun x51 h =>
 vguard x45 true (fun kk => vtoInt .i32 x51 h kk) h fun x52 h =>
 vguard x45 true (fun kk => vbin .geq 0 x47 x52 h kk) h fun x53 h =>
 vop O (.pick (.k x45) (.k x53) (.k (kB false))) h 54 fun x54 h =>
 vif x54 (
 vtoInt .u32 x1 h fun x57 h =>
 vcall O (.v (.c (.func 172 []))) [x42, x57] h 58 fun x58 h =>
 tcomp x58 fun c0 => vfin true q [c0] h)
 (tcomp (kB false) fun c0 => vfin true q [c0] h))
theorem e169_0 (O : Oracle) (R : Jump) (q : Nat) (x0 x1 : TVal) (h : Heap) : b169_0 O R q x0 x1 h = stepF c169 O R q 0 [x0, x1] h := by kernel_rfl
def d169 : BlkF := fun O R Q => [.s fun a => .s fun b => .z (b169_0 O R Q a b)]
theorem o169 (O : Oracle) (R : Jump) (q : Nat) : HoldsAll c169 O R q 0 (d169 O R q) := ⟨e169_0 O R q, trivial⟩
def c171 : MFunc := mkM (compF Tryd.prog (globs2 tabs opq) (fun _ => false) true Tryd.f171) (.s .n (.s (.s .n (.s (.s (.s .n (.k (.l 1 [0, 1, 19, 20] .n))) (.m 2 [] .n)) .n)) (.m 3 [0, 1] (.s .n (.s .n (.s (.k (.l 4 [0, 1, 7, 8] .n)) .n))))))
def b171_0 (O : Oracle) (R : Jump) (q : Nat) (x0 x1 : TVal) (h : Heap) : Res1 :=
 vlen O 2 x0 h 12 fun x12 h =>
 vbin .leq 0 x12 (kI 18) h fun x13 h =>
 vguard x13 false (fun kk => kk x1 h) h fun x15 h =>
 vguard x13 false (fun kk => vbin .leq 0 x15 (.v (.c (.p (.int .u16 255)))) h kk) h fun x16 h =>
 vop O (.pick (.k x13) (.k (kB true)) (.k x16)) h 17 fun x17 h =>
 vif x17 (
 vlen O 2 x0 h 19 fun x19 h =>
 R 1 [x0, x1, x19, (kI 0)] h)
 (R 3 [x0, x1] h)
theorem e171_0 (O : Oracle) (R : Jump) (q : Nat) (x0 x1 : TVal) (h : Heap) : b171_0 O R q x0 x1 h = stepF c171 O R q 0 [x0, x1] h := by kernel_rfl
def b171_1 (O : Oracle) (R : Jump) (q : Nat) (x0 x1 x19 x20 : TVal) (h : Heap) : Res1 :=
 vbin .lss 0 x20 x19 h fun x21 h =>
 vif x21 (
 viaddr 3 x0 x20 h fun x25 h =>
 vop O (.nilck (.k x25)) h 28 fun x28 h =>
 vfaddr 0 x28 h fun x29 h =>
 vload false 1 x29 h fun x30 h =>
 vbin .lss 0 x1 x30 h fun x31 h =>
 vif x31 (
 tcomp (kB false) fun c0 => vfin true q [c0] h)
 (vop O (.nilck (.k x25)) h 34 fun x34 h =>
 vfaddr 1 x34 h fun x35 h =>
 vload false 1 x35 h fun x36 h =>
 vbin .leq 0 x1 x36 h fun x37 h =>
 vif x37 (
 vop O (.nilck (.k x25)) h 39 fun x39 h =>
 vfaddr 2 x39 h fun x40 h =>
 vload false 1 x40 h fun x41 h =>
 vbin .eql 0 x41 (.v (.c (.p (.int .u16 1)))) h fun x42 h =>
 vguard x42 false (fun kk => kk x1 h) h fun x44 h =>
 vguard x42 false (fun kk => kk x25 h) h fun x45 h =>
 vguard x42 false (fun kk => vop O (.nilck (.k x45)) h 46 kk) h fun x46 h =>
 vguard x42 false (fun kk => vfaddr 0 x46 h kk) h fun x47 h =>
 vguard x42 false (fun kk => vload false 1 x47 h kk) h fun x48 h =>
 vguard x42 false (fun kk => vbin .sub 0 x44 x48 h kk) h fun x49 h =>
 vguard x42 false (fun kk => kk x25 h) h fun x50 h =>
 vguard x42 false (fun kk => vop O (.nilck (.k x50)) h 51 kk) h fun x51 h =>
 vguard x42 false (fun kk => vfaddr 2 x51 h kk) h fun x52 h =>
 vguard x42 false (fun kk => vload false 1 x52 h kk) h fun x53 h =>
 vguard x42 false (fun kk => vbin .rem 0 x49 x53 h kk) h fun x54 h =>
 vguard x42 false (fun kk => vbin .eql 0 x54 (.v (.c (.p (.int .u16 0)))) h kk) h fun x55 h =>
 vop O (.pick (.k x42) (.k (kB true)) (.k x55)) h 56 fun x56 h =>
 tcomp x56 fun c0 => vfin true q [c0] h)
 (vbin .add 0 x20 (kI 1) h fun x57 h =>
 R 1 [x0, x1, x19, x57] h)))
 (R 2 [] h)
theorem e171_1 (O : Oracle) (R : Jump) (q : Nat) (x0 x1 x19 x20 : TVal) (h : Heap) : b171_1 O R q x0 x1 x19 x20 h = stepF c171 O R q 1 [x0, x1, x19, x20] h := by kernel_rfl
def b171_2 (O : Oracle) (R : Jump) (q : Nat) (h : Heap) : Res1 :=
 tcomp (kB false) fun c0 => vfin true q [c0] h
theorem e171_2 (O : Oracle) (R : Jump) (q : Nat) (h : Heap) : b171_2 O R q  h = stepF c171 O R q 2 [] h := by kernel_rfl
def b171_3 (O : Oracle) (R : Jump) (q : Nat) (x0 x1 : TVal) (h : Heap) : Res1 :=
 vlen O 2 x0 h 59 fun x59 h =>
 R 4 [x0, x1, (kI 0), x59] h
theorem e171_3 (O : Oracle) (R : Jump) (q : Nat) (x0 x1 : TVal) (h : Heap) : b171_3 O R q x0 x1 h = stepF c171 O R q 3 [x0, x1] h := by kernel_rfl
def b171_4 (O : Oracle) (R : Jump) (q : Nat) (x0 x1 x7 x8 : TVal) (h : Heap) : Res1 :=
 vbin .lss 0 x7 x8 h fun x62 h =>
 vif x62 (
 vbin .add 0 x7 x8 h fun x65 h =>
 vtoInt .u64 x65 h fun x66 h =>
 vbin .shr 0 x66 (.v (.c (.p (.int .u64 1)))) h fun x67 h =>
 vtoInt .i64 x67 h fun x68 h =>
 viaddr 3 x0 x68 h fun x71 h =>
 vop O (.nilck (.k x71)) h 73 fun x73 h =>
 vfaddr 0 x73 h fun x74 h =>
 vload false 1 x74 h fun x75 h =>
 vbin .leq 0 x75 x1 h fun x77 h =>
 vguard x77 true (fun kk => kk x1 h) h fun x79 h =>
 vguard x77 true (fun kk => kk x71 h) h fun x80 h =>
 vguard x77 true (fun kk => vop O (.nilck (.k x80)) h 81 kk) h fun x81 h =>
 vguard x77 true (fun kk => vfaddr 1 x81 h kk) h fun x82 h =>
 vguard x77 true (fun kk => vload false 1 x82 h kk) h fun x83 h =>
 vguard x77 true (fun kk => vbin .leq 0 x79 x83 h kk) h fun x84 h =>
 vop O (.pick (.k x77) (.k x84) (.k (kB false))) h 85 fun x85 h =>
 vif x85 (
 vop O (.nilck (.k x71)) h 87 fun x87 h =>
 vfaddr 2 x87 h fun x88 h =>
 vload false 1 x88 h fun x89 h =>
 vbin .eql 0 x89 (.v (.c (.p (.int .u16 1)))) h fun x90 h =>
 vguard x90 false (fun kk => kk x1 h) h fun x92 h =>
 vguard x90 false (fun kk => kk x71 h) h fun x93 h =>
 vguard x90 false (fun kk => vop O (.nilck (.k x93)) h 94 kk) h fun x94 h =>
 vguard x90 false (fun kk => vfaddr 0 x94 h kk) h fun x95 h =>
 vguard x90 false (fun kk => vload false 1 x95 h kk) h fun x96 h =>
 vguard x90 false (fun kk => vbin .sub 0 x92 x96 h kk) h fun x97 h =>
 vguard x90 false (fun kk => kk x71 h) h fun x98 h =>
 vguard x90 false (fun kk => vop O (.nilck (.k x98)) h 99 kk) h fun x99 h =>
 vguard x90 false (fun kk => vfaddr 2 x99 h kk) h fun x100 h =>
 vguard x90 false (fun kk => vload false 1 x100 h kk) h fun x101 h =>
 vguard x90 false (fun kk => vbin .rem 0 x97 x101 h kk) h fun x102 h =>
 vguard x90 false (fun kk => vbin .eql 0 x102 (.v (.c (.p (.int .u16 0)))) h kk) h fun x103 h =>
 vop O (.pick (.k x90) (.k (kB true)) (.k x103)) h 104 fun x104 h =>
 tcomp x104 fun c0 => vfin true q [c0] h)
 (vop O (.nilck (.k x71)) h 107 fun x107 h =>
 vfaddr 0 x107 h fun x108 h =>
 vload false 1 x108 h fun x109 h =>
 vbin .lss 0 x1 x109 h fun x110 h =>
 vif x110 (
 R 4 [x0, x1, x7, x68] h)
 (vbin .add 0 x68 (kI 1) h fun x113 h =>
 R 4 [x0, x1, x113, x8] h)))
 (tcomp (kB false) fun c0 => vfin true q [c0] h)
theorem e171_4 (O : Oracle) (R : Jump) (q : Nat) (x0 x1 x7 x8 : TVal) (h : Heap) : b171_4 O R q x0 x1 x7 x8 h = stepF c171 O R q 4 [x0, x1, x7, x8] h := by kernel_rfl
def d171 : BlkF := fun O R Q => [.s fun a => .s fun b => .z (b171_0 O R Q a b), .s fun a => .s fun b => .s fun c => .s fun d => .z (b171_1 O R Q a b c d), .z (b171_2 O R Q ), .s fun a => .s fun b => .z (b171_3 O R Q a b), .s fun a => .s fun b => .s fun c => .s fun d => .z (b171_4 O R Q a b c d)]
theorem o171 (O : Oracle) (R : Jump) (q : Nat) : HoldsAll c171 O R q 0 (d171 O R q) := ⟨e171_0 O R q, e171_1 O R q, e171_2 O R q, e171_3 O R q, e171_4 O R q, trivial⟩
def c172 : MFunc := mkM (compF Tryd.prog (globs2 tabs opq) (fun _ => false) true Tryd.f172) (.s .n (.s (.s .n (.s (.s (.s .n (.k (.l 1 [0, 1, 15, 16] .n))) (.m 2 [] .n)) .n)) (.m 3 [0, 1] (.s .n (.s .n (.s (.k (.l 4 [0, 1, 7, 8] .n)) .n))))))
def b172_0 (O : Oracle) (R : Jump) (q : Nat) (x0 x1 : TVal) (h : Heap) : Res1 :=
 vlen O 2 x0 h 12 fun x12 h =>
 vbin .leq 0 x12 (kI 18) h fun x13 h =>
 vif x13 (
 vlen O 2 x0 h 15 fun x15 h =>
 R 1 [x0, x1, x15, (kI 0)] h)
 (R 3 [x0, x1] h)
theorem e172_0 (O : Oracle) (R : Jump) (q : Nat) (x0 x1 : TVal) (h : Heap) : b172_0 O R q x0 x1 h = stepF c172 O R q 0 [x0, x1] h := by kernel_rfl
def b172_1 (O : Oracle) (R : Jump) (q : Nat) (x0 x1 x15 x16 : TVal) (h : Heap) : Res1 :=
 vbin .lss 0 x16 x15 h fun x17 h =>
 vif x17 (
 viaddr 3 x0 x16 h fun x21 h =>
 vop O (.nilck (.k x21)) h 24 fun x24 h =>
 vfaddr 0 x24 h fun x25 h =>
 vload false 1 x25 h fun x26 h =>
 vbin .lss 0 x1 x26 h fun x27 h =>
 vif x27 (
 tcomp (kB false) fun c0 => vfin true q [c0] h)
 (vop O (.nilck (.k x21)) h 30 fun x30 h =>
 vfaddr 1 x30 h fun x31 h =>
 vload false 1 x31 h fun x32 h =>
 vbin .leq 0 x1 x32 h fun x33 h =>
 vif x33 (
 vop O (.nilck (.k x21)) h 35 fun x35 h =>
 vfaddr 2 x35 h fun x36 h =>
 vload false 1 x36 h fun x37 h =>
 vbin .eql 0 x37 (.v (.c (.p (.int .u32 1)))) h fun x38 h =>
 vguard x38 false (fun kk => kk x1 h) h fun x40 h =>
 vguard x38 false (fun kk => kk x21 h) h fun x41 h =>
 vguard x38 false (fun kk => vop O (.nilck (.k x41)) h 42 kk) h fun x42 h =>
 vguard x38 false (fun kk => vfaddr 0 x42 h kk) h fun x43 h =>
 vguard x38 false (fun kk => vload false 1 x43 h kk) h fun x44 h =>
 vguard x38 false (fun kk => vbin .sub 0 x40 x44 h kk) h fun x45 h =>
 vguard x38 false (fun kk => kk x21 h) h fun x46 h =>
 vguard x38 false (fun kk => vop O (.nilck (.k x46)) h 47 kk) h fun x47 h =>
 vguard x38 false (fun kk => vfaddr 2 x47 h kk) h fun x48 h =>
 vguard x38 false (fun kk => vload false 1 x48 h kk) h fun x49 h =>
 vguard x38 false (fun kk => vbin .rem 0 x45 x49 h kk) h fun x50 h =>
 vguard x38 false (fun kk => vbin .eql 0 x50 (.v (.c (.p (.int .u32 0)))) h kk) h fun x51 h =>
 vop O (.pick (.k x38) (.k (kB true)) (.k x51)) h 52 fun x52 h =>
 tcomp x52 fun c0 => vfin true q [c0] h)
 (vbin .add 0 x16 (kI 1) h fun x53 h =>
 R 1 [x0, x1, x15, x53] h)))
 (R 2 [] h)
theorem e172_1 (O : Oracle) (R : Jump) (q : Nat) (x0 x1 x15 x16 : TVal) (h : Heap) : b172_1 O R q x0 x1 x15 x16 h = stepF c172 O R q 1 [x0, x1, x15, x16] h := by kernel_rfl
def b172_2 (O : Oracle) (R : Jump) (q : Nat) (h : Heap) : Res1 :=
 tcomp (kB false) fun c0 => vfin true q [c0] h
theorem e172_2 (O : Oracle) (R : Jump) (q : Nat) (h : Heap) : b172_2 O R q  h = stepF c172 O R q 2 [] h := by kernel_rfl
def b172_3 (O : Oracle) (R : Jump) (q : Nat) (x0 x1 : TVal) (h : Heap) : Res1 :=
 vlen O 2 x0 h 55 fun x55 h =>
 R 4 [x0, x1, (kI 0), x55] h
theorem e172_3 (O : Oracle) (R : Jump) (q : Nat) (x0 x1 : TVal) (h : Heap) : b172_3 O R q x0 x1 h = stepF c172 O R q 3 [x0, x1] h := by kernel_rfl
def b172_4 (O : Oracle) (R : Jump) (q : Nat) (x0 x1 x7 x8 : TVal) (h : Heap) : Res1 :=
 vbin .lss 0 x7 x8 h fun x58 h =>
 vif x58 (
 vbin .add 0 x7 x8 h fun x61 h =>
 vtoInt .u64 x61 h fun x62 h =>
 vbin .shr 0 x62 (.v (.c (.p (.int .u64 1)))) h fun x63 h =>
 vtoInt .i64 x63 h fun x64 h =>
 viaddr 3 x0 x64 h fun x67 h =>
 vload true 3 x67 h fun x68 h =>
 vop O (.alloc [(.p (.int .u32 0)), (.p (.int .u32 0)), (.p (.int .u32 0))] false) h 10 fun x10 h =>
 vstore 3 x10 x68 h fun _ h =>
 vfaddr 0 x10 h fun x69 h =>
 vload false 1 x69 h fun x70 h =>
 vbin .leq 0 x70 x1 h fun x72 h =>
 vguard x72 true (fun kk => kk x1 h) h fun x74 h =>
 vguard x72 true (fun kk => vfaddr 1 x10 h kk) h fun x75 h =>
 vguard x72 true (fun kk => vload false 1 x75 h kk) h fun x76 h =>
 vguard x72 true (fun kk => vbin .leq 0 x74 x76 h kk) h fun x77 h =>
 vop O (.pick (.k x72) (.k x77) (.k (kB false))) h 78 fun x78 h =>
 vif x78 (
 vfaddr 2 x10 h fun x79 h =>
 vload false 1 x79 h fun x80 h =>
 vbin .eql 0 x80 (.v (.c (.p (.int .u32 1)))) h fun x81 h =>
 vguard x81 false (fun kk => kk x1 h) h fun x83 h =>
 vguard x81 false (fun kk => vfaddr 0 x10 h kk) h fun x84 h =>
 vguard x81 false (fun kk => vload false 1 x84 h kk) h fun x85 h =>
 vguard x81 false (fun kk => vbin .sub 0 x83 x85 h kk) h fun x86 h =>
 vguard x81 false (fun kk => vfaddr 2 x10 h kk) h fun x87 h =>
 vguard x81 false (fun kk => vload false 1 x87 h kk) h fun x88 h =>
 vguard x81 false (fun kk => vbin .rem 0 x86 x88 h kk) h fun x89 h =>
 vguard x81 false (fun kk => vbin .eql 0 x89 (.v (.c (.p (.int .u32 0)))) h kk) h fun x90 h =>
 vop O (.pick (.k x81) (.k (kB true)) (.k x90)) h 91 fun x91 h =>
 tcomp x91 fun c0 => vfin true q [c0] h)
 (vfaddr 0 x10 h fun x93 h =>
 vload false 1 x93 h fun x94 h =>
 vbin .lss 0 x1 x94 h fun x95 h =>
 vif x95 (
 R 4 [x0, x1, x7, x64] h)
 (vbin .add 0 x64 (kI 1) h fun x98 h =>
 R 4 [x0, x1, x98, x8] h)))
 (tcomp (kB false) fun c0 => vfin true q [c0] h)
theorem e172_4 (O : Oracle) (R : Jump) (q : Nat) (x0 x1 x7 x8 : TVal) (h : Heap) : b172_4 O R q x0 x1 x7 x8 h = stepF c172 O R q 4 [x0, x1, x7, x8] h := by kernel_rfl
def d172 : BlkF := fun O R Q => [.s fun a => .s fun b => .z (b172_0 O R Q a b), .s fun a => .s fun b => .s fun c => .s fun d => .z (b172_1 O R Q a b c d), .z (b172_2 O R Q ), .s fun a => .s fun b => .z (b172_3 O R Q a b), .s fun a => .s fun b => .s fun c => .s fun d => .z (b172_4 O R Q a b c d)]
theorem o172 (O : Oracle) (R : Jump) (q : Nat) : HoldsAll c172 O R q 0 (d172 O R q) := ⟨e172_0 O R q, e172_1 O R q, e172_2 O R q, e172_3 O R q, e172_4 O R q, trivial⟩
end
end Go.Proofs.YtnlmlcfipbnpgaaDoor.Ab
