/- Functions of the given program as the abstract interpreter has them (part 2), printed by a program of our own; each is shown to be what 'compF' makes of the given program's. No condition. -/
import Derived.Test.YtkkbfljipfndgaaDoorTabR1
namespace Go.Proofs.YtkkbfljipfndgaaDoor.Ab
open Go Go.AI
set_option linter.all false
set_option linter.unusedVariables false
set_option maxRecDepth 100000
/- sprue/sprueref7.operandText -/
def c92 : MFunc := { np := 1, res := [.t 2], frz := true, body := (.seq (.reg [⟨(some 1), (.box (.t 0) false), none⟩, ⟨(some 2), (.mv (.k (.v (.c (.p (.str [])))))), none⟩] []) (.seq (.seq (.reg [⟨(some 5), (.faddr 0 (.t 1)), none⟩, ⟨(some 6), (.load false 1 (.t 5)), none⟩] []) (.block 0 (.seq (.reg [⟨(some 8), (.bin .eql 0 (.t 6) (.k (.v (.c (.p (.int .i64 2)))))), none⟩, ⟨(some 7), (.mv (.t 8)), none⟩] []) (.cond (.t 7) (.seq (.reg [⟨(some 9), (.faddr 3 (.t 1)), none⟩, ⟨(some 10), (.load false 1 (.t 9)), none⟩, ⟨(some 11), (.call (.k (.v (.c (.func 55 [])))) [(.t 10)]), none⟩, ⟨(some 2), (.mv (.t 11)), none⟩] []) .ret) (.seq (.reg [⟨(some 13), (.bin .eql 0 (.t 6) (.k (.v (.c (.p (.int .i64 3)))))), none⟩, ⟨(some 12), (.mv (.t 13)), none⟩] []) (.cond (.t 12) (.seq (.reg [⟨(some 14), (.faddr 4 (.t 1)), none⟩, ⟨(some 15), (.load false 1 (.t 14)), none⟩, ⟨(some 16), (.call (.k (.v (.c (.func 113 [])))) [(.t 15)]), none⟩, ⟨(some 2), (.mv (.t 16)), none⟩] []) .ret) (.seq (.reg [⟨(some 18), (.bin .eql 0 (.t 6) (.k (.v (.c (.p (.int .i64 4)))))), none⟩, ⟨(some 17), (.mv (.t 18)), none⟩] []) (.cond (.t 17) (.seq (.seq (.reg [⟨(some 19), (.faddr 5 (.t 1)), none⟩, ⟨(some 20), (.load false 1 (.t 19)), none⟩] []) (.cond (.t 20) (.seq (.reg [⟨(some 2), (.mv (.k (.v (.c (.p (.str [116, 114, 117, 101])))))), none⟩] []) .ret) .skip)) (.seq (.reg [⟨(some 2), (.mv (.k (.v (.c (.p (.str [102, 97, 108, 115, 101])))))), none⟩] []) .ret)) (.seq (.reg [⟨(some 22), (.bin .eql 0 (.t 6) (.k (.v (.c (.p (.int .i64 5)))))), none⟩, ⟨(some 21), (.mv (.t 22)), none⟩] []) (.cond (.t 21) (.seq (.reg [⟨(some 23), (.faddr 6 (.t 1)), none⟩, ⟨(some 24), (.load false 1 (.t 23)), none⟩, ⟨(some 25), (.call (.k (.v (.c (.func 54 [])))) [(.t 24)]), none⟩, ⟨(some 26), (.bin .add 0 (.k (.v (.c (.p (.str [40]))))) (.t 25)), none⟩, ⟨(some 27), (.bin .add 0 (.t 26) (.k (.v (.c (.p (.str [41])))))), none⟩, ⟨(some 2), (.mv (.t 27)), none⟩] []) .ret) (.seq (.reg [⟨(some 29), (.bin .eql 0 (.t 6) (.k (.v (.c (.p (.int .i64 6)))))), none⟩, ⟨(some 28), (.mv (.t 29)), none⟩] []) (.cond (.t 28) (.seq (.reg [⟨(some 30), (.faddr 3 (.t 1)), none⟩, ⟨(some 31), (.load false 1 (.t 30)), none⟩, ⟨(some 2), (.mv (.t 31)), none⟩] []) .ret) .skip)))))))))))) (.seq (.reg [⟨(some 3), (.mv (.k (.v (.c (.p (.str [])))))), none⟩] []) (.seq (.seq (.reg [⟨(some 32), (.faddr 1 (.t 1)), none⟩, ⟨(some 33), (.load false 1 (.t 32)), none⟩, ⟨(some 34), (.bin .neq 0 (.t 33) (.k (.v (.c (.p (.str [])))))), none⟩] []) (.cond (.t 34) (.reg [⟨(some 35), (.faddr 1 (.t 1)), none⟩, ⟨(some 36), (.load false 1 (.t 35)), none⟩, ⟨(some 37), (.bin .add 0 (.k (.v (.c (.p (.str [36]))))) (.t 36)), none⟩, ⟨(some 3), (.mv (.t 37)), none⟩] []) .skip)) (.mark 1 [1, 3] (.seq (.seq (.reg [⟨(some 4), (.mv (.k (.v (.c (.p (.int .i64 0)))))), none⟩] []) (.block 1 (.loop 2 [1, 3, 4] (.seq (.seq (.reg [⟨(some 38), (.mv (.t 4)), none⟩, ⟨(some 39), (.faddr 2 (.t 1)), none⟩, ⟨(some 40), (.load false 1 (.t 39)), none⟩, ⟨(some 41), (.len 2 (.t 40)), none⟩, ⟨(some 42), (.bin .lss 0 (.t 38) (.t 41)), none⟩] []) (.cond (.t 42) .skip (.exit 1))) (.seq (.block 2 (.reg [⟨(some 45), (.mv (.t 3)), none⟩, ⟨(some 46), (.bin .add 0 (.t 45) (.k (.v (.c (.p (.str [46])))))), none⟩, ⟨(some 47), (.faddr 2 (.t 1)), none⟩, ⟨(some 48), (.load false 1 (.t 47)), none⟩, ⟨(some 49), (.mv (.t 4)), none⟩, ⟨(some 50), (.iaddr 1 (.t 48) (.t 49)), none⟩, ⟨(some 51), (.load false 1 (.t 50)), none⟩, ⟨(some 52), (.bin .add 0 (.t 46) (.t 51)), none⟩, ⟨(some 3), (.mv (.t 52)), none⟩] [])) (.reg [⟨(some 43), (.mv (.t 4)), none⟩, ⟨(some 44), (.bin .add 0 (.t 43) (.k (.v (.c (.p (.int .i64 1)))))), none⟩, ⟨(some 4), (.mv (.t 44)), none⟩] [])))))) (.mark 3 [3] (.seq (.seq (.reg [⟨(some 53), (.mv (.t 3)), none⟩, ⟨(some 54), (.bin .eql 0 (.t 53) (.k (.v (.c (.p (.str [])))))), none⟩] []) (.cond (.t 54) (.seq (.reg [⟨(some 2), (.mv (.k (.v (.c (.p (.str [46])))))), none⟩] []) .ret) .skip)) (.seq (.reg [⟨(some 55), (.mv (.t 3)), none⟩, ⟨(some 2), (.mv (.t 55)), none⟩] []) .ret))))))))) }
theorem t92 : compF Tryd.prog (globs2 tabs opq) false true Tryd.f92 = some c92.erase := by kernel_rfl
noncomputable def b92_0 (O : Oracle) (R : Jump) (q : Nat) (x0 : TVal) (h : Heap) : Res1 :=
  vop O (.box (.k x0) false) h 1 fun x1 h =>
  vfaddr 0 x1 h fun x5 h =>
  vload false 1 x5 h fun x6 h =>
  vbin .eql 0 x6 (kI 2) h fun x8 h =>
  vif x8 (
  vfaddr 3 x1 h fun x9 h =>
  vload false 1 x9 h fun x10 h =>
  vcall O (.v (.c (.func 55 []))) [x10] h 11 fun x11 h =>
  tcomp x11 fun c0 => vfin true q [c0] h)
  (vbin .eql 0 x6 (kI 3) h fun x13 h =>
  vif x13 (
  vfaddr 4 x1 h fun x14 h =>
  vload false 1 x14 h fun x15 h =>
  vcall O (.v (.c (.func 113 []))) [x15] h 16 fun x16 h =>
  tcomp x16 fun c0 => vfin true q [c0] h)
  (vbin .eql 0 x6 (kI 4) h fun x18 h =>
  vif x18 (
  vfaddr 5 x1 h fun x19 h =>
  vload false 1 x19 h fun x20 h =>
  vif x20 (
  tcomp (kS [116, 114, 117, 101]) fun c0 => vfin true q [c0] h)
  (tcomp (kS [102, 97, 108, 115, 101]) fun c0 => vfin true q [c0] h))
  (vbin .eql 0 x6 (kI 5) h fun x22 h =>
  vif x22 (
  vfaddr 6 x1 h fun x23 h =>
  vload false 1 x23 h fun x24 h =>
  vcall O (.v (.c (.func 54 []))) [x24] h 25 fun x25 h =>
  vbin .add 0 (kS [40]) x25 h fun x26 h =>
  vbin .add 0 x26 (kS [41]) h fun x27 h =>
  tcomp x27 fun c0 => vfin true q [c0] h)
  (vbin .eql 0 x6 (kI 6) h fun x29 h =>
  vif x29 (
  vfaddr 3 x1 h fun x30 h =>
  vload false 1 x30 h fun x31 h =>
  tcomp x31 fun c0 => vfin true q [c0] h)
  (vfaddr 1 x1 h fun x32 h =>
  vload false 1 x32 h fun x33 h =>
  vbin .neq 0 x33 (kS []) h fun x34 h =>
  vif x34 (
  vfaddr 1 x1 h fun x35 h =>
  vload false 1 x35 h fun x36 h =>
  vbin .add 0 (kS [36]) x36 h fun x37 h =>
  R 1 [x1, x37] h)
  (R 1 [x1, (kS [])] h))))))
theorem e92_0 (O : Oracle) (R : Jump) (q : Nat) (x0 : TVal) (h : Heap) : b92_0 O R q x0 h = stepF c92 O R q 0 [x0] h := by kernel_rfl
noncomputable def b92_1 (O : Oracle) (R : Jump) (q : Nat) (x1 x3 : TVal) (h : Heap) : Res1 :=
  R 2 [x1, x3, (kI 0)] h
theorem e92_1 (O : Oracle) (R : Jump) (q : Nat) (x1 x3 : TVal) (h : Heap) : b92_1 O R q x1 x3 h = stepF c92 O R q 1 [x1, x3] h := by kernel_rfl
noncomputable def b92_2 (O : Oracle) (R : Jump) (q : Nat) (x1 x3 x4 : TVal) (h : Heap) : Res1 :=
  vfaddr 2 x1 h fun x39 h =>
  vload false 1 x39 h fun x40 h =>
  vlen O 2 x40 h 41 fun x41 h =>
  vbin .lss 0 x4 x41 h fun x42 h =>
  vif x42 (
  vbin .add 0 x3 (kS [46]) h fun x46 h =>
  vfaddr 2 x1 h fun x47 h =>
  vload false 1 x47 h fun x48 h =>
  viaddr 1 x48 x4 h fun x50 h =>
  vload false 1 x50 h fun x51 h =>
  vbin .add 0 x46 x51 h fun x52 h =>
  vbin .add 0 x4 (kI 1) h fun x44 h =>
  R 2 [x1, x52, x44] h)
  (R 3 [x3] h)
theorem e92_2 (O : Oracle) (R : Jump) (q : Nat) (x1 x3 x4 : TVal) (h : Heap) : b92_2 O R q x1 x3 x4 h = stepF c92 O R q 2 [x1, x3, x4] h := by kernel_rfl
noncomputable def b92_3 (O : Oracle) (R : Jump) (q : Nat) (x3 : TVal) (h : Heap) : Res1 :=
  vbin .eql 0 x3 (kS []) h fun x54 h =>
  vif x54 (
  tcomp (kS [46]) fun c0 => vfin true q [c0] h)
  (tcomp x3 fun c0 => vfin true q [c0] h)
theorem e92_3 (O : Oracle) (R : Jump) (q : Nat) (x3 : TVal) (h : Heap) : b92_3 O R q x3 h = stepF c92 O R q 3 [x3] h := by kernel_rfl
noncomputable def d92 : BlkF := fun O R q => [.s fun y0 => .z fun h => b92_0 O R q y0 h, .s fun y0 => .s fun y1 => .z fun h => b92_1 O R q y0 y1 h, .s fun y0 => .s fun y1 => .s fun y2 => .z fun h => b92_2 O R q y0 y1 y2 h, .s fun y0 => .z fun h => b92_3 O R q y0 h]
theorem o92 (O : Oracle) (R : Jump) (q : Nat) : HoldsAll c92 O R q 0 (d92 O R q) := ⟨fun y0 h => e92_0 O R q y0 h, fun y0 y1 h => e92_1 O R q y0 y1 h, fun y0 y1 y2 h => e92_2 O R q y0 y1 y2 h, fun y0 h => e92_3 O R q y0 h, trivial⟩
/- internal/strconv.FormatInt -/
def c97 : MFunc := { np := 2, res := [.t 4], frz := true, body := (.seq (.reg [⟨(some 4), (.mv (.k (.v (.c (.p (.str [])))))), none⟩] []) (.seq (.seq (.reg [⟨(some 10), (.mv (.t 1)), none⟩, ⟨(some 11), (.bin .eql 0 (.t 10) (.k (.v (.c (.p (.int .i64 10)))))), none⟩] []) (.cond (.t 11) (.seq (.seq (.reg [⟨(some 12), (.mv (.t 0)), none⟩, ⟨(some 13), (.bin .leq 0 (.k (.v (.c (.p (.int .i64 0))))) (.t 12)), none⟩, ⟨(some 14), (.mv (.t 13)), none⟩, ⟨(some 15), (.mv (.t 0)), (some (14, true))⟩, ⟨(some 16), (.bin .lss 0 (.t 15) (.k (.v (.c (.p (.int .i64 100)))))), (some (14, true))⟩, ⟨(some 17), (.pick (.t 14) (.t 16) (.k (.v (.c (.p (.bool false)))))), none⟩] []) (.cond (.t 17) (.seq (.reg [⟨(some 18), (.mv (.t 0)), none⟩, ⟨(some 19), (.call (.k (.v (.c (.func 118 [])))) [(.t 18)]), none⟩, ⟨(some 4), (.mv (.t 19)), none⟩] []) .ret) .skip)) (.seq (.reg [⟨(some 5), (.alloc [(.p (.int .u8 0)), (.p (.int .u8 0)), (.p (.int .u8 0)), (.p (.int .u8 0)), (.p (.int .u8 0)), (.p (.int .u8 0)), (.p (.int .u8 0)), (.p (.int .u8 0)), (.p (.int .u8 0)), (.p (.int .u8 0)), (.p (.int .u8 0)), (.p (.int .u8 0)), (.p (.int .u8 0)), (.p (.int .u8 0)), (.p (.int .u8 0)), (.p (.int .u8 0)), (.p (.int .u8 0)), (.p (.int .u8 0)), (.p (.int .u8 0)), (.p (.int .u8 0)), (.p (.int .u8 0)), (.p (.int .u8 0)), (.p (.int .u8 0)), (.p (.int .u8 0))] false), none⟩] []) (.seq (.reg [⟨(some 20), (.mv (.t 0)), none⟩, ⟨(some 21), (.toInt .u64 (.t 20)), none⟩, ⟨(some 6), (.mv (.t 21)), none⟩] []) (.seq (.seq (.reg [⟨(some 22), (.mv (.t 0)), none⟩, ⟨(some 23), (.bin .lss 0 (.t 22) (.k (.v (.c (.p (.int .i64 0)))))), none⟩] []) (.cond (.t 23) (.reg [⟨(some 24), (.mv (.t 6)), none⟩, ⟨(some 25), (.un .neg (.t 24)), none⟩, ⟨(some 6), (.mv (.t 25)), none⟩] []) .skip)) (.mark 1 [0, 5, 6] (.seq (.reg [⟨(some 26), (.mv (.t 6)), none⟩, ⟨(some 27), (.call (.k (.v (.c (.func 119 [])))) [(.t 26)]), none⟩, ⟨(some 7), (.mv (.t 27)), none⟩] []) (.seq (.reg [⟨(some 28), (.mv (.t 7)), none⟩, ⟨(some 29), (.bin .add 0 (.k (.v (.c (.p (.int .i64 1))))) (.t 28)), none⟩, ⟨(some 30), (.sliceA 24 1 (.t 5) (some (.k (.v (.c (.p (.int .i64 1)))))) (some (.t 29))), none⟩, ⟨(some 31), (.mv (.t 6)), none⟩, ⟨(some 32), (.call (.k (.v (.c (.func 120 [])))) [(.t 30), (.t 31)]), none⟩] []) (.seq (.seq (.reg [⟨(some 33), (.mv (.t 0)), none⟩, ⟨(some 34), (.bin .lss 0 (.t 33) (.k (.v (.c (.p (.int .i64 0)))))), none⟩] []) (.cond (.t 34) (.seq (.reg [⟨(some 35), (.iaddrA 24 1 (.t 5) (.k (.v (.c (.p (.int .i64 0)))))), none⟩, ⟨none, (.store 1 (.t 35) (.k (.v (.c (.p (.int .u8 45)))))), none⟩] []) (.seq (.reg [⟨(some 36), (.mv (.t 7)), none⟩, ⟨(some 37), (.bin .add 0 (.k (.v (.c (.p (.int .i64 1))))) (.t 36)), none⟩, ⟨(some 38), (.sliceA 24 1 (.t 5) none (some (.t 37))), none⟩, ⟨(some 39), (.toStr (.t 38)), none⟩, ⟨(some 4), (.mv (.t 39)), none⟩] []) .ret)) .skip)) (.seq (.reg [⟨(some 40), (.mv (.t 7)), none⟩, ⟨(some 41), (.bin .add 0 (.k (.v (.c (.p (.int .i64 1))))) (.t 40)), none⟩, ⟨(some 42), (.sliceA 24 1 (.t 5) (some (.k (.v (.c (.p (.int .i64 1)))))) (some (.t 41))), none⟩, ⟨(some 43), (.toStr (.t 42)), none⟩, ⟨(some 4), (.mv (.t 43)), none⟩] []) .ret))))))))) .skip)) (.seq (.reg [⟨(some 45), (.mv (.t 0)), none⟩, ⟨(some 46), (.toInt .u64 (.t 45)), none⟩, ⟨(some 47), (.mv (.t 1)), none⟩, ⟨(some 48), (.mv (.t 0)), none⟩, ⟨(some 49), (.bin .lss 0 (.t 48) (.k (.v (.c (.p (.int .i64 0)))))), none⟩, ⟨(some 50), (.call (.k (.v (.c (.func 121 [])))) [(.k (.v (.c (.p .nilslice)))), (.t 46), (.t 47), (.t 49), (.k (.v (.c (.p (.bool false)))))]), none⟩, ⟨(some 44), (.mv (.t 50)), none⟩, ⟨(some 51), (.extract (.t 44) 0), none⟩, ⟨(some 52), (.extract (.t 44) 1), none⟩, ⟨(some 8), (.mv (.t 51)), none⟩, ⟨(some 9), (.mv (.t 52)), none⟩] []) (.seq (.reg [⟨(some 53), (.mv (.t 9)), none⟩, ⟨(some 4), (.mv (.t 53)), none⟩] []) .ret)))) }
theorem t97 : compF Tryd.prog (globs2 tabs opq) false true Tryd.f97 = some c97.erase := by kernel_rfl
noncomputable def b97_0 (O : Oracle) (R : Jump) (q : Nat) (x0 x1 : TVal) (h : Heap) : Res1 :=
  vbin .eql 0 x1 (kI 10) h fun x11 h =>
  vif x11 (
  vbin .leq 0 (kI 0) x0 h fun x13 h =>
  vguard x13 true (fun kk => kk x0 h) h fun x15 h =>
  vguard x13 true (fun kk => vbin .lss 0 x15 (kI 100) h kk) h fun x16 h =>
  vop O (.pick (.k x13) (.k x16) (.k (kB false))) h 17 fun x17 h =>
  vif x17 (
  vcall O (.v (.c (.func 118 []))) [x0] h 19 fun x19 h =>
  tcomp x19 fun c0 => vfin true q [c0] h)
  (vop O (.alloc [(.p (.int .u8 0)), (.p (.int .u8 0)), (.p (.int .u8 0)), (.p (.int .u8 0)), (.p (.int .u8 0)), (.p (.int .u8 0)), (.p (.int .u8 0)), (.p (.int .u8 0)), (.p (.int .u8 0)), (.p (.int .u8 0)), (.p (.int .u8 0)), (.p (.int .u8 0)), (.p (.int .u8 0)), (.p (.int .u8 0)), (.p (.int .u8 0)), (.p (.int .u8 0)), (.p (.int .u8 0)), (.p (.int .u8 0)), (.p (.int .u8 0)), (.p (.int .u8 0)), (.p (.int .u8 0)), (.p (.int .u8 0)), (.p (.int .u8 0)), (.p (.int .u8 0))] false) h 5 fun x5 h =>
  vtoInt .u64 x0 h fun x21 h =>
  vbin .lss 0 x0 (kI 0) h fun x23 h =>
  vif x23 (
  vop O (.un .neg (.k x21)) h 25 fun x25 h =>
  R 1 [x0, x5, x25] h)
  (R 1 [x0, x5, x21] h)))
  (vtoInt .u64 x0 h fun x46 h =>
  vbin .lss 0 x0 (kI 0) h fun x49 h =>
  vcall O (.v (.c (.func 121 []))) [(.v (.c (.p .nilslice))), x46, x1, x49, (kB false)] h 50 fun x50 h =>
  vext x50 0 h fun x51 h =>
  vext x50 1 h fun x52 h =>
  tcomp x52 fun c0 => vfin true q [c0] h)
theorem e97_0 (O : Oracle) (R : Jump) (q : Nat) (x0 x1 : TVal) (h : Heap) : b97_0 O R q x0 x1 h = stepF c97 O R q 0 [x0, x1] h := by kernel_rfl
noncomputable def b97_1 (O : Oracle) (R : Jump) (q : Nat) (x0 x5 x6 : TVal) (h : Heap) : Res1 :=
  vcall O (.v (.c (.func 119 []))) [x6] h 27 fun x27 h =>
  vbin .add 0 (kI 1) x27 h fun x29 h =>
  vop O (.sliceA 24 1 (.k x5) (some (.k (kI 1))) (some (.k x29))) h 30 fun x30 h =>
  vcall O (.v (.c (.func 120 []))) [x30, x6] h 32 fun x32 h =>
  vbin .lss 0 x0 (kI 0) h fun x34 h =>
  vif x34 (
  vop O (.iaddrA 24 1 (.k x5) (.k (kI 0))) h 35 fun x35 h =>
  vstore 1 x35 (.v (.c (.p (.int .u8 45)))) h fun _ h =>
  vbin .add 0 (kI 1) x27 h fun x37 h =>
  vop O (.sliceA 24 1 (.k x5) none (some (.k x37))) h 38 fun x38 h =>
  vop O (.toStr (.k x38)) h 39 fun x39 h =>
  tcomp x39 fun c0 => vfin true q [c0] h)
  (vbin .add 0 (kI 1) x27 h fun x41 h =>
  vop O (.sliceA 24 1 (.k x5) (some (.k (kI 1))) (some (.k x41))) h 42 fun x42 h =>
  vop O (.toStr (.k x42)) h 43 fun x43 h =>
  tcomp x43 fun c0 => vfin true q [c0] h)
theorem e97_1 (O : Oracle) (R : Jump) (q : Nat) (x0 x5 x6 : TVal) (h : Heap) : b97_1 O R q x0 x5 x6 h = stepF c97 O R q 1 [x0, x5, x6] h := by kernel_rfl
noncomputable def d97 : BlkF := fun O R q => [.s fun y0 => .s fun y1 => .z fun h => b97_0 O R q y0 y1 h, .s fun y0 => .s fun y1 => .s fun y2 => .z fun h => b97_1 O R q y0 y1 y2 h]
theorem o97 (O : Oracle) (R : Jump) (q : Nat) : HoldsAll c97 O R q 0 (d97 O R q) := ⟨fun y0 y1 h => e97_0 O R q y0 y1 h, fun y0 y1 y2 h => e97_1 O R q y0 y1 y2 h, trivial⟩
/- (sprue/fits.fitter).open -/
def c100 : MFunc := { np := 2, res := [.cell 4 true 4], frz := true, body := (.seq (.reg [⟨(some 3), (.box (.t 1) false), none⟩, ⟨(some 4), (.alloc [(.p (.int .i64 0)), (.p (.str [])), (.p .nilslice), (.p .nilslice)] false), none⟩] []) (.seq (.seq (.reg [⟨(some 5), (.mv (.t 0)), none⟩, ⟨(some 6), (.len 3 (.t 5)), none⟩, ⟨(some 7), (.mv (.k (.v (.c (.p (.int .i64 0)))))), none⟩] []) (.block 0 (.loop 1 [0, 3, 4, 6, 7] (.seq (.reg [⟨(some 8), (.bin .lss 0 (.t 7) (.t 6)), none⟩] []) (.seq (.cond (.t 8) .skip (.exit 0)) (.seq (.block 1 (.seq (.reg [⟨(some 9), (.faddr 0 (.t 3)), none⟩, ⟨(some 10), (.load false 1 (.t 9)), none⟩, ⟨(some 11), (.bin .eql 0 (.t 10) (.k (.v (.c (.p (.int .i64 9)))))), none⟩] []) (.cond (.t 11) (.reg [⟨(some 12), (.mv (.t 0)), none⟩, ⟨(some 13), (.faddr 1 (.t 3)), none⟩, ⟨(some 14), (.load false 1 (.t 13)), none⟩, ⟨(some 15), (.lookup 2 (.agg [(.p (.int .i64 0)), (.p (.str [])), (.p .nilslice), (.p .nilslice)]) (.t 12) (.t 14) false), none⟩, ⟨none, (.store 4 (.t 3) (.t 15)), none⟩] []) .skip))) (.mark 2 [0, 3, 4, 6, 7] (.reg [⟨(some 16), (.bin .add 0 (.t 7) (.k (.v (.c (.p (.int .i64 1)))))), none⟩, ⟨(some 7), (.mv (.t 16)), none⟩] [])))))))) (.mark 3 [3, 4] (.seq (.reg [⟨(some 17), (.load true 4 (.t 3)), none⟩, ⟨none, (.store 4 (.t 4) (.t 17)), none⟩] []) .ret)))) }
theorem t100 : compF Tryd.prog (globs2 tabs opq) false true Tryd.f100 = some c100.erase := by kernel_rfl
noncomputable def b100_0 (O : Oracle) (R : Jump) (q : Nat) (x0 x1 : TVal) (h : Heap) : Res1 :=
  vop O (.box (.k x1) false) h 3 fun x3 h =>
  vop O (.alloc [(.p (.int .i64 0)), (.p (.str [])), (.p .nilslice), (.p .nilslice)] false) h 4 fun x4 h =>
  vlen O 3 x0 h 6 fun x6 h =>
  R 1 [x0, x3, x4, x6, (kI 0)] h
theorem e100_0 (O : Oracle) (R : Jump) (q : Nat) (x0 x1 : TVal) (h : Heap) : b100_0 O R q x0 x1 h = stepF c100 O R q 0 [x0, x1] h := by kernel_rfl
noncomputable def b100_1 (O : Oracle) (R : Jump) (q : Nat) (x0 x3 x4 x6 x7 : TVal) (h : Heap) : Res1 :=
  vbin .lss 0 x7 x6 h fun x8 h =>
  vif x8 (
  vfaddr 0 x3 h fun x9 h =>
  vload false 1 x9 h fun x10 h =>
  vbin .eql 0 x10 (kI 9) h fun x11 h =>
  vif x11 (
  vfaddr 1 x3 h fun x13 h =>
  vload false 1 x13 h fun x14 h =>
  vop O (.lookup 2 (.agg [(.p (.int .i64 0)), (.p (.str [])), (.p .nilslice), (.p .nilslice)]) (.k x0) (.k x14) false) h 15 fun x15 h =>
  vstore 4 x3 x15 h fun _ h =>
  R 2 [x0, x3, x4, x6, x7] h)
  (R 2 [x0, x3, x4, x6, x7] h))
  (R 3 [x3, x4] h)
theorem e100_1 (O : Oracle) (R : Jump) (q : Nat) (x0 x3 x4 x6 x7 : TVal) (h : Heap) : b100_1 O R q x0 x3 x4 x6 x7 h = stepF c100 O R q 1 [x0, x3, x4, x6, x7] h := by kernel_rfl
noncomputable def b100_2 (O : Oracle) (R : Jump) (q : Nat) (x0 x3 x4 x6 x7 : TVal) (h : Heap) : Res1 :=
  vbin .add 0 x7 (kI 1) h fun x16 h =>
  R 1 [x0, x3, x4, x6, x16] h
theorem e100_2 (O : Oracle) (R : Jump) (q : Nat) (x0 x3 x4 x6 x7 : TVal) (h : Heap) : b100_2 O R q x0 x3 x4 x6 x7 h = stepF c100 O R q 2 [x0, x3, x4, x6, x7] h := by kernel_rfl
noncomputable def b100_3 (O : Oracle) (R : Jump) (q : Nat) (x3 x4 : TVal) (h : Heap) : Res1 :=
  vload true 4 x3 h fun x17 h =>
  vstore 4 x4 x17 h fun _ h =>
  vcell true 4 x4 h fun c0 => vfin true q [c0] h
theorem e100_3 (O : Oracle) (R : Jump) (q : Nat) (x3 x4 : TVal) (h : Heap) : b100_3 O R q x3 x4 h = stepF c100 O R q 3 [x3, x4] h := by kernel_rfl
noncomputable def d100 : BlkF := fun O R q => [.s fun y0 => .s fun y1 => .z fun h => b100_0 O R q y0 y1 h, .s fun y0 => .s fun y1 => .s fun y2 => .s fun y3 => .s fun y4 => .z fun h => b100_1 O R q y0 y1 y2 y3 y4 h, .s fun y0 => .s fun y1 => .s fun y2 => .s fun y3 => .s fun y4 => .z fun h => b100_2 O R q y0 y1 y2 y3 y4 h, .s fun y0 => .s fun y1 => .z fun h => b100_3 O R q y0 y1 h]
theorem o100 (O : Oracle) (R : Jump) (q : Nat) : HoldsAll c100 O R q 0 (d100 O R q) := ⟨fun y0 y1 h => e100_0 O R q y0 y1 h, fun y0 y1 y2 y3 y4 h => e100_1 O R q y0 y1 y2 y3 y4 h, fun y0 y1 y2 y3 y4 h => e100_2 O R q y0 y1 y2 y3 y4 h, fun y0 y1 h => e100_3 O R q y0 y1 h, trivial⟩
/- (sprue/fits.fitter).each -/
def c101 : MFunc := { np := 5, res := [.t 10, .t 11], frz := true, body := (.seq (.reg [⟨(some 6), (.box (.t 1) false), none⟩, ⟨(some 7), (.box (.t 2) false), none⟩, ⟨(some 10), (.mv (.k (.v (.c (.p (.str [])))))), none⟩, ⟨(some 11), (.mv (.k (.v (.c (.p (.bool false)))))), none⟩] []) (.seq (.seq (.reg [⟨(some 16), (.faddr 0 (.t 7)), none⟩, ⟨(some 17), (.load false 1 (.t 16)), none⟩, ⟨(some 18), (.mv (.t 3)), none⟩, ⟨(some 19), (.bin .neq 0 (.t 17) (.t 18)), none⟩, ⟨(some 20), (.mv (.t 19)), none⟩, ⟨(some 21), (.faddr 3 (.t 6)), (some (20, false))⟩, ⟨(some 22), (.load false 1 (.t 21)), (some (20, false))⟩, ⟨(some 23), (.len 2 (.t 22)), (some (20, false))⟩, ⟨(some 24), (.bin .neq 0 (.t 23) (.k (.v (.c (.p (.int .i64 1)))))), (some (20, false))⟩, ⟨(some 25), (.pick (.t 20) (.k (.v (.c (.p (.bool true))))) (.t 24)), none⟩] []) (.cond (.t 25) (.seq (.reg [⟨(some 10), (.mv (.k (.v (.c (.p (.str [])))))), none⟩, ⟨(some 11), (.mv (.k (.v (.c (.p (.bool false)))))), none⟩] []) .ret) .skip)) (.seq (.seq (.reg [⟨(some 26), (.faddr 5 (.t 7)), none⟩, ⟨(some 27), (.load false 1 (.t 26)), none⟩, ⟨(some 28), (.len 2 (.t 27)), none⟩, ⟨(some 29), (.mv (.k (.v (.c (.p (.int .i64 0)))))), none⟩] []) (.block 0 (.loop 1 [0, 4, 6, 27, 28, 29] (.seq (.reg [⟨(some 30), (.bin .lss 0 (.t 29) (.t 28)), none⟩] []) (.seq (.cond (.t 30) .skip (.exit 0)) (.seq (.block 1 (.seq (.reg [⟨(some 31), (.mv (.t 29)), none⟩, ⟨(some 32), (.iaddr 6 (.t 27) (.t 29)), none⟩, ⟨(some 33), (.load true 6 (.t 32)), none⟩, ⟨(some 13), (.alloc [(.p (.int .i64 0)), (.p (.bool false)), (.p (.int .i64 0)), (.p (.str [])), (.p .nilslice), (.p .nilslice)] false), none⟩, ⟨(some 12), (.mv (.t 31)), none⟩, ⟨none, (.store 6 (.t 13) (.t 33)), none⟩] []) (.seq (.reg [⟨(some 35), (.mv (.t 0)), none⟩, ⟨(some 36), (.faddr 3 (.t 6)), none⟩, ⟨(some 37), (.load false 1 (.t 36)), none⟩, ⟨(some 38), (.iaddr 4 (.t 37) (.k (.v (.c (.p (.int .i64 0)))))), none⟩, ⟨(some 39), (.load true 4 (.t 38)), none⟩, ⟨(some 40), (.load true 6 (.t 13)), none⟩, ⟨(some 41), (.call (.k (.v (.c (.func 70 [])))) [(.t 35), (.t 39), (.t 40)]), none⟩, ⟨(some 34), (.mv (.t 41)), none⟩, ⟨(some 42), (.extract (.t 34) 0), none⟩, ⟨(some 43), (.extract (.t 34) 1), none⟩, ⟨(some 14), (.mv (.t 42)), none⟩, ⟨(some 15), (.mv (.t 43)), none⟩] []) (.seq (.reg [⟨(some 44), (.mv (.t 15)), none⟩, ⟨(some 45), (.un .not (.t 44)), none⟩] []) (.cond (.t 45) (.seq (.reg [⟨(some 46), (.mv (.t 4)), none⟩, ⟨(some 47), (.mv (.t 12)), none⟩, ⟨(some 48), (.call (.t 46) [(.t 47)]), none⟩, ⟨(some 49), (.mv (.t 14)), none⟩, ⟨(some 50), (.bin .add 0 (.t 48) (.t 49)), none⟩, ⟨(some 10), (.mv (.t 50)), none⟩, ⟨(some 11), (.mv (.k (.v (.c (.p (.bool false)))))), none⟩] []) .ret) .skip))))) (.reg [⟨(some 51), (.bin .add 0 (.t 29) (.k (.v (.c (.p (.int .i64 1)))))), none⟩, ⟨(some 29), (.mv (.t 51)), none⟩] []))))))) (.seq (.reg [⟨(some 10), (.mv (.k (.v (.c (.p (.str [])))))), none⟩, ⟨(some 11), (.mv (.k (.v (.c (.p (.bool true)))))), none⟩] []) .ret)))) }
theorem t101 : compF Tryd.prog (globs2 tabs opq) false true Tryd.f101 = some c101.erase := by kernel_rfl
noncomputable def b101_0 (O : Oracle) (R : Jump) (q : Nat) (x0 x1 x2 x3 x4 : TVal) (h : Heap) : Res1 :=
  vop O (.box (.k x1) false) h 6 fun x6 h =>
  vop O (.box (.k x2) false) h 7 fun x7 h =>
  vfaddr 0 x7 h fun x16 h =>
  vload false 1 x16 h fun x17 h =>
  vbin .neq 0 x17 x3 h fun x19 h =>
  vguard x19 false (fun kk => vfaddr 3 x6 h kk) h fun x21 h =>
  vguard x19 false (fun kk => vload false 1 x21 h kk) h fun x22 h =>
  vguard x19 false (fun kk => vlen O 2 x22 h 23 kk) h fun x23 h =>
  vguard x19 false (fun kk => vbin .neq 0 x23 (kI 1) h kk) h fun x24 h =>
  vop O (.pick (.k x19) (.k (kB true)) (.k x24)) h 25 fun x25 h =>
  vif x25 (
  tcomp (kS []) fun c0 => tcomp (kB false) fun c1 => vfin true q [c0, c1] h)
  (vfaddr 5 x7 h fun x26 h =>
  vload false 1 x26 h fun x27 h =>
  vlen O 2 x27 h 28 fun x28 h =>
  R 1 [x0, x4, x6, x27, x28, (kI 0)] h)
theorem e101_0 (O : Oracle) (R : Jump) (q : Nat) (x0 x1 x2 x3 x4 : TVal) (h : Heap) : b101_0 O R q x0 x1 x2 x3 x4 h = stepF c101 O R q 0 [x0, x1, x2, x3, x4] h := by kernel_rfl
noncomputable def b101_1 (O : Oracle) (R : Jump) (q : Nat) (x0 x4 x6 x27 x28 x29 : TVal) (h : Heap) : Res1 :=
  vbin .lss 0 x29 x28 h fun x30 h =>
  vif x30 (
  viaddr 6 x27 x29 h fun x32 h =>
  vload true 6 x32 h fun x33 h =>
  vop O (.alloc [(.p (.int .i64 0)), (.p (.bool false)), (.p (.int .i64 0)), (.p (.str [])), (.p .nilslice), (.p .nilslice)] false) h 13 fun x13 h =>
  vstore 6 x13 x33 h fun _ h =>
  vfaddr 3 x6 h fun x36 h =>
  vload false 1 x36 h fun x37 h =>
  viaddr 4 x37 (kI 0) h fun x38 h =>
  vload true 4 x38 h fun x39 h =>
  vload true 6 x13 h fun x40 h =>
  vcall O (.v (.c (.func 70 []))) [x0, x39, x40] h 41 fun x41 h =>
  vext x41 0 h fun x42 h =>
  vext x41 1 h fun x43 h =>
  vop O (.un .not (.k x43)) h 45 fun x45 h =>
  vif x45 (
  vcall O x4 [x29] h 48 fun x48 h =>
  vbin .add 0 x48 x42 h fun x50 h =>
  tcomp x50 fun c0 => tcomp (kB false) fun c1 => vfin true q [c0, c1] h)
  (vbin .add 0 x29 (kI 1) h fun x51 h =>
  R 1 [x0, x4, x6, x27, x28, x51] h))
  (tcomp (kS []) fun c0 => tcomp (kB true) fun c1 => vfin true q [c0, c1] h)
theorem e101_1 (O : Oracle) (R : Jump) (q : Nat) (x0 x4 x6 x27 x28 x29 : TVal) (h : Heap) : b101_1 O R q x0 x4 x6 x27 x28 x29 h = stepF c101 O R q 1 [x0, x4, x6, x27, x28, x29] h := by kernel_rfl
noncomputable def d101 : BlkF := fun O R q => [.s fun y0 => .s fun y1 => .s fun y2 => .s fun y3 => .s fun y4 => .z fun h => b101_0 O R q y0 y1 y2 y3 y4 h, .s fun y0 => .s fun y1 => .s fun y2 => .s fun y3 => .s fun y4 => .s fun y5 => .z fun h => b101_1 O R q y0 y1 y2 y3 y4 y5 h]
theorem o101 (O : Oracle) (R : Jump) (q : Nat) : HoldsAll c101 O R q 0 (d101 O R q) := ⟨fun y0 y1 y2 y3 y4 h => e101_0 O R q y0 y1 y2 y3 y4 h, fun y0 y1 y2 y3 y4 y5 h => e101_1 O R q y0 y1 y2 y3 y4 y5 h, trivial⟩
/- (sprue/fits.fitter).fit$1 -/
def c102 : MFunc := { np := 1, res := [.t 2], frz := true, body := (.seq (.reg [⟨(some 2), (.mv (.k (.v (.c (.p (.str [])))))), none⟩] []) (.seq (.reg [⟨(some 3), (.mv (.t 0)), none⟩, ⟨(some 4), (.call (.k (.v (.c (.func 103 [])))) [(.t 3)]), none⟩, ⟨(some 5), (.bin .add 0 (.k (.v (.c (.p (.str [91]))))) (.t 4)), none⟩, ⟨(some 6), (.bin .add 0 (.t 5) (.k (.v (.c (.p (.str [93])))))), none⟩, ⟨(some 2), (.mv (.t 6)), none⟩] []) .ret)) }
theorem t102 : compF Tryd.prog (globs2 tabs opq) false true Tryd.f102 = some c102.erase := by kernel_rfl
noncomputable def b102_0 (O : Oracle) (R : Jump) (q : Nat) (x0 : TVal) (h : Heap) : Res1 :=
  vcall O (.v (.c (.func 103 []))) [x0] h 4 fun x4 h =>
  vbin .add 0 (kS [91]) x4 h fun x5 h =>
  vbin .add 0 x5 (kS [93]) h fun x6 h =>
  tcomp x6 fun c0 => vfin true q [c0] h
theorem e102_0 (O : Oracle) (R : Jump) (q : Nat) (x0 : TVal) (h : Heap) : b102_0 O R q x0 h = stepF c102 O R q 0 [x0] h := by kernel_rfl
noncomputable def d102 : BlkF := fun O R q => [.s fun y0 => .z fun h => b102_0 O R q y0 h]
theorem o102 (O : Oracle) (R : Jump) (q : Nat) : HoldsAll c102 O R q 0 (d102 O R q) := ⟨fun y0 h => e102_0 O R q y0 h, trivial⟩
/- strconv.Itoa -/
def c103 : MFunc := { np := 1, res := [.t 2], frz := true, body := (.seq (.reg [⟨(some 2), (.mv (.k (.v (.c (.p (.str [])))))), none⟩] []) (.seq (.reg [⟨(some 3), (.mv (.t 0)), none⟩, ⟨(some 4), (.call (.k (.v (.c (.func 122 [])))) [(.t 3)]), none⟩, ⟨(some 2), (.mv (.t 4)), none⟩] []) .ret)) }
theorem t103 : compF Tryd.prog (globs2 tabs opq) false true Tryd.f103 = some c103.erase := by kernel_rfl
noncomputable def b103_0 (O : Oracle) (R : Jump) (q : Nat) (x0 : TVal) (h : Heap) : Res1 :=
  vcall O (.v (.c (.func 122 []))) [x0] h 4 fun x4 h =>
  tcomp x4 fun c0 => vfin true q [c0] h
theorem e103_0 (O : Oracle) (R : Jump) (q : Nat) (x0 : TVal) (h : Heap) : b103_0 O R q x0 h = stepF c103 O R q 0 [x0] h := by kernel_rfl
noncomputable def d103 : BlkF := fun O R q => [.s fun y0 => .z fun h => b103_0 O R q y0 h]
theorem o103 (O : Oracle) (R : Jump) (q : Nat) : HoldsAll c103 O R q 0 (d103 O R q) := ⟨fun y0 h => e103_0 O R q y0 h, trivial⟩
/- (sprue/fits.fitter).fit$2 -/
def c104 : MFunc := { np := 2, res := [.t 3], frz := true, body := (.seq (.reg [⟨(some 3), (.mv (.k (.v (.c (.p (.str [])))))), none⟩] []) (.seq (.seq (.reg [⟨(some 4), (.mv (.t 0)), none⟩, ⟨(some 5), (.faddr 4 (.t 1)), none⟩, ⟨(some 6), (.load false 1 (.t 5)), none⟩, ⟨(some 7), (.len 2 (.t 6)), none⟩, ⟨(some 8), (.bin .geq 0 (.t 4) (.t 7)), none⟩] []) (.cond (.t 8) (.seq (.reg [⟨(some 3), (.mv (.k (.v (.c (.p (.str [])))))), none⟩] []) .ret) .skip)) (.seq (.reg [⟨(some 9), (.faddr 4 (.t 1)), none⟩, ⟨(some 10), (.load false 1 (.t 9)), none⟩, ⟨(some 11), (.mv (.t 0)), none⟩, ⟨(some 12), (.iaddr 1 (.t 10) (.t 11)), none⟩, ⟨(some 13), (.load false 1 (.t 12)), none⟩, ⟨(some 14), (.bin .add 0 (.k (.v (.c (.p (.str [91, 34]))))) (.t 13)), none⟩, ⟨(some 15), (.bin .add 0 (.t 14) (.k (.v (.c (.p (.str [34, 93])))))), none⟩, ⟨(some 3), (.mv (.t 15)), none⟩] []) .ret))) }
theorem t104 : compF Tryd.prog (globs2 tabs opq) false true Tryd.f104 = some c104.erase := by kernel_rfl
noncomputable def b104_0 (O : Oracle) (R : Jump) (q : Nat) (x0 x1 : TVal) (h : Heap) : Res1 :=
  vfaddr 4 x1 h fun x5 h =>
  vload false 1 x5 h fun x6 h =>
  vlen O 2 x6 h 7 fun x7 h =>
  vbin .geq 0 x0 x7 h fun x8 h =>
  vif x8 (
  tcomp (kS []) fun c0 => vfin true q [c0] h)
  (vfaddr 4 x1 h fun x9 h =>
  vload false 1 x9 h fun x10 h =>
  viaddr 1 x10 x0 h fun x12 h =>
  vload false 1 x12 h fun x13 h =>
  vbin .add 0 (kS [91, 34]) x13 h fun x14 h =>
  vbin .add 0 x14 (kS [34, 93]) h fun x15 h =>
  tcomp x15 fun c0 => vfin true q [c0] h)
theorem e104_0 (O : Oracle) (R : Jump) (q : Nat) (x0 x1 : TVal) (h : Heap) : b104_0 O R q x0 x1 h = stepF c104 O R q 0 [x0, x1] h := by kernel_rfl
noncomputable def d104 : BlkF := fun O R q => [.s fun y0 => .s fun y1 => .z fun h => b104_0 O R q y0 y1 h]
theorem o104 (O : Oracle) (R : Jump) (q : Nat) : HoldsAll c104 O R q 0 (d104 O R q) := ⟨fun y0 y1 h => e104_0 O R q y0 y1 h, trivial⟩
/- (sprue/fits.fitter).rec -/
def c105 : MFunc := { np := 3, res := [.t 6, .t 7], frz := true, body := (.seq (.reg [⟨(some 4), (.box (.t 1) false), none⟩, ⟨(some 5), (.box (.t 2) false), none⟩, ⟨(some 6), (.mv (.k (.v (.c (.p (.str [])))))), none⟩, ⟨(some 7), (.mv (.k (.v (.c (.p (.bool false)))))), none⟩] []) (.seq (.seq (.reg [⟨(some 15), (.faddr 0 (.t 5)), none⟩, ⟨(some 16), (.load false 1 (.t 15)), none⟩, ⟨(some 17), (.bin .neq 0 (.t 16) (.k (.v (.c (.p (.int .i64 5)))))), none⟩] []) (.cond (.t 17) (.seq (.reg [⟨(some 6), (.mv (.k (.v (.c (.p (.str [])))))), none⟩, ⟨(some 7), (.mv (.k (.v (.c (.p (.bool false)))))), none⟩] []) .ret) .skip)) (.seq (.seq (.reg [⟨(some 18), (.faddr 2 (.t 4)), none⟩, ⟨(some 19), (.load false 1 (.t 18)), none⟩, ⟨(some 20), (.len 2 (.t 19)), none⟩, ⟨(some 21), (.mv (.k (.v (.c (.p (.int .i64 0)))))), none⟩] []) (.block 0 (.loop 1 [0, 4, 5, 19, 20, 21] (.seq (.reg [⟨(some 22), (.bin .lss 0 (.t 21) (.t 20)), none⟩] []) (.seq (.cond (.t 22) .skip (.exit 0)) (.seq (.block 1 (.seq (.reg [⟨(some 23), (.mv (.t 21)), none⟩, ⟨(some 24), (.iaddr 1 (.t 19) (.t 21)), none⟩, ⟨(some 25), (.load false 1 (.t 24)), none⟩, ⟨(some 8), (.mv (.t 23)), none⟩, ⟨(some 9), (.mv (.t 25)), none⟩] []) (.seq (.seq (.reg [⟨(some 26), (.mv (.t 8)), none⟩, ⟨(some 27), (.faddr 3 (.t 4)), none⟩, ⟨(some 28), (.load false 1 (.t 27)), none⟩, ⟨(some 29), (.len 2 (.t 28)), none⟩, ⟨(some 30), (.bin .geq 0 (.t 26) (.t 29)), none⟩] []) (.cond (.t 30) (.seq (.reg [⟨(some 31), (.mv (.t 9)), none⟩, ⟨(some 32), (.bin .add 0 (.k (.v (.c (.p (.str [46]))))) (.t 31)), none⟩, ⟨(some 6), (.mv (.t 32)), none⟩, ⟨(some 7), (.mv (.k (.v (.c (.p (.bool false)))))), none⟩] []) .ret) .skip)) (.seq (.reg [⟨(some 33), (.faddr 4 (.t 5)), none⟩, ⟨(some 34), (.load false 1 (.t 33)), none⟩, ⟨(some 35), (.mv (.t 9)), none⟩, ⟨(some 36), (.call (.k (.v (.c (.func 64 [])))) [(.t 34), (.t 35)]), none⟩, ⟨(some 10), (.mv (.t 36)), none⟩] []) (.seq (.seq (.reg [⟨(some 37), (.mv (.t 10)), none⟩, ⟨(some 38), (.bin .lss 0 (.t 37) (.k (.v (.c (.p (.int .i64 0)))))), none⟩, ⟨(some 39), (.mv (.t 38)), none⟩, ⟨(some 40), (.mv (.t 10)), (some (39, false))⟩, ⟨(some 41), (.faddr 5 (.t 5)), (some (39, false))⟩, ⟨(some 42), (.load false 1 (.t 41)), (some (39, false))⟩, ⟨(some 43), (.len 2 (.t 42)), (some (39, false))⟩, ⟨(some 44), (.bin .geq 0 (.t 40) (.t 43)), (some (39, false))⟩, ⟨(some 45), (.pick (.t 39) (.k (.v (.c (.p (.bool true))))) (.t 44)), none⟩] []) (.cond (.t 45) (.seq (.seq (.reg [⟨(some 46), (.mv (.t 0)), none⟩, ⟨(some 47), (.faddr 3 (.t 4)), none⟩, ⟨(some 48), (.load false 1 (.t 47)), none⟩, ⟨(some 49), (.mv (.t 8)), none⟩, ⟨(some 50), (.iaddr 4 (.t 48) (.t 49)), none⟩, ⟨(some 51), (.load true 4 (.t 50)), none⟩, ⟨(some 52), (.call (.k (.v (.c (.func 100 [])))) [(.t 46), (.t 51)]), none⟩, ⟨(some 53), (.field 0 1 false (.t 52)), none⟩, ⟨(some 54), (.bin .neq 0 (.t 53) (.k (.v (.c (.p (.int .i64 6)))))), none⟩] []) (.cond (.t 54) (.seq (.reg [⟨(some 55), (.mv (.t 9)), none⟩, ⟨(some 56), (.bin .add 0 (.k (.v (.c (.p (.str [46]))))) (.t 55)), none⟩, ⟨(some 6), (.mv (.t 56)), none⟩, ⟨(some 7), (.mv (.k (.v (.c (.p (.bool false)))))), none⟩] []) .ret) .skip)) (.exit 1)) .skip)) (.seq (.reg [⟨(some 58), (.mv (.t 0)), none⟩, ⟨(some 59), (.faddr 3 (.t 4)), none⟩, ⟨(some 60), (.load false 1 (.t 59)), none⟩, ⟨(some 61), (.mv (.t 8)), none⟩, ⟨(some 62), (.iaddr 4 (.t 60) (.t 61)), none⟩, ⟨(some 63), (.load true 4 (.t 62)), none⟩, ⟨(some 64), (.faddr 5 (.t 5)), none⟩, ⟨(some 65), (.load false 1 (.t 64)), none⟩, ⟨(some 66), (.mv (.t 10)), none⟩, ⟨(some 67), (.iaddr 6 (.t 65) (.t 66)), none⟩, ⟨(some 68), (.load true 6 (.t 67)), none⟩, ⟨(some 69), (.call (.k (.v (.c (.func 70 [])))) [(.t 58), (.t 63), (.t 68)]), none⟩, ⟨(some 57), (.mv (.t 69)), none⟩, ⟨(some 70), (.extract (.t 57) 0), none⟩, ⟨(some 71), (.extract (.t 57) 1), none⟩, ⟨(some 11), (.mv (.t 70)), none⟩, ⟨(some 12), (.mv (.t 71)), none⟩] []) (.seq (.reg [⟨(some 72), (.mv (.t 12)), none⟩, ⟨(some 73), (.un .not (.t 72)), none⟩] []) (.cond (.t 73) (.seq (.reg [⟨(some 74), (.mv (.t 9)), none⟩, ⟨(some 75), (.bin .add 0 (.k (.v (.c (.p (.str [46]))))) (.t 74)), none⟩, ⟨(some 76), (.mv (.t 11)), none⟩, ⟨(some 77), (.bin .add 0 (.t 75) (.t 76)), none⟩, ⟨(some 6), (.mv (.t 77)), none⟩, ⟨(some 7), (.mv (.k (.v (.c (.p (.bool false)))))), none⟩] []) .ret) .skip)))))))) (.mark 2 [0, 4, 5, 19, 20, 21] (.reg [⟨(some 78), (.bin .add 0 (.t 21) (.k (.v (.c (.p (.int .i64 1)))))), none⟩, ⟨(some 21), (.mv (.t 78)), none⟩] [])))))))) (.mark 3 [4, 5] (.seq (.seq (.reg [⟨(some 79), (.faddr 4 (.t 5)), none⟩, ⟨(some 80), (.load false 1 (.t 79)), none⟩, ⟨(some 81), (.len 2 (.t 80)), none⟩, ⟨(some 82), (.mv (.k (.v (.c (.p (.int .i64 0)))))), none⟩] []) (.block 2 (.loop 4 [4, 80, 81, 82] (.seq (.reg [⟨(some 83), (.bin .lss 0 (.t 82) (.t 81)), none⟩] []) (.seq (.cond (.t 83) .skip (.exit 2)) (.seq (.block 3 (.seq (.reg [⟨(some 84), (.iaddr 1 (.t 80) (.t 82)), none⟩, ⟨(some 85), (.load false 1 (.t 84)), none⟩, ⟨(some 14), (.mv (.t 85)), none⟩] []) (.seq (.reg [⟨(some 86), (.faddr 2 (.t 4)), none⟩, ⟨(some 87), (.load false 1 (.t 86)), none⟩, ⟨(some 88), (.mv (.t 14)), none⟩, ⟨(some 89), (.call (.k (.v (.c (.func 76 [])))) [(.t 87), (.t 88)]), none⟩, ⟨(some 90), (.un .not (.t 89)), none⟩] []) (.cond (.t 90) (.seq (.reg [⟨(some 91), (.mv (.t 14)), none⟩, ⟨(some 92), (.bin .add 0 (.k (.v (.c (.p (.str [46]))))) (.t 91)), none⟩, ⟨(some 6), (.mv (.t 92)), none⟩, ⟨(some 7), (.mv (.k (.v (.c (.p (.bool false)))))), none⟩] []) .ret) .skip)))) (.reg [⟨(some 93), (.bin .add 0 (.t 82) (.k (.v (.c (.p (.int .i64 1)))))), none⟩, ⟨(some 82), (.mv (.t 93)), none⟩] []))))))) (.seq (.reg [⟨(some 6), (.mv (.k (.v (.c (.p (.str [])))))), none⟩, ⟨(some 7), (.mv (.k (.v (.c (.p (.bool true)))))), none⟩] []) .ret)))))) }
theorem t105 : compF Tryd.prog (globs2 tabs opq) false true Tryd.f105 = some c105.erase := by kernel_rfl
noncomputable def b105_0 (O : Oracle) (R : Jump) (q : Nat) (x0 x1 x2 : TVal) (h : Heap) : Res1 :=
  vop O (.box (.k x1) false) h 4 fun x4 h =>
  vop O (.box (.k x2) false) h 5 fun x5 h =>
  vfaddr 0 x5 h fun x15 h =>
  vload false 1 x15 h fun x16 h =>
  vbin .neq 0 x16 (kI 5) h fun x17 h =>
  vif x17 (
  tcomp (kS []) fun c0 => tcomp (kB false) fun c1 => vfin true q [c0, c1] h)
  (vfaddr 2 x4 h fun x18 h =>
  vload false 1 x18 h fun x19 h =>
  vlen O 2 x19 h 20 fun x20 h =>
  R 1 [x0, x4, x5, x19, x20, (kI 0)] h)
theorem e105_0 (O : Oracle) (R : Jump) (q : Nat) (x0 x1 x2 : TVal) (h : Heap) : b105_0 O R q x0 x1 x2 h = stepF c105 O R q 0 [x0, x1, x2] h := by kernel_rfl
noncomputable def b105_1 (O : Oracle) (R : Jump) (q : Nat) (x0 x4 x5 x19 x20 x21 : TVal) (h : Heap) : Res1 :=
  vbin .lss 0 x21 x20 h fun x22 h =>
  vif x22 (
  viaddr 1 x19 x21 h fun x24 h =>
  vload false 1 x24 h fun x25 h =>
  vfaddr 3 x4 h fun x27 h =>
  vload false 1 x27 h fun x28 h =>
  vlen O 2 x28 h 29 fun x29 h =>
  vbin .geq 0 x21 x29 h fun x30 h =>
  vif x30 (
  vbin .add 0 (kS [46]) x25 h fun x32 h =>
  tcomp x32 fun c0 => tcomp (kB false) fun c1 => vfin true q [c0, c1] h)
  (vfaddr 4 x5 h fun x33 h =>
  vload false 1 x33 h fun x34 h =>
  vcall O (.v (.c (.func 64 []))) [x34, x25] h 36 fun x36 h =>
  vbin .lss 0 x36 (kI 0) h fun x38 h =>
  vguard x38 false (fun kk => kk x36 h) h fun x40 h =>
  vguard x38 false (fun kk => vfaddr 5 x5 h kk) h fun x41 h =>
  vguard x38 false (fun kk => vload false 1 x41 h kk) h fun x42 h =>
  vguard x38 false (fun kk => vlen O 2 x42 h 43 kk) h fun x43 h =>
  vguard x38 false (fun kk => vbin .geq 0 x40 x43 h kk) h fun x44 h =>
  vop O (.pick (.k x38) (.k (kB true)) (.k x44)) h 45 fun x45 h =>
  vif x45 (
  vfaddr 3 x4 h fun x47 h =>
  vload false 1 x47 h fun x48 h =>
  viaddr 4 x48 x21 h fun x50 h =>
  vload true 4 x50 h fun x51 h =>
  vcall O (.v (.c (.func 100 []))) [x0, x51] h 52 fun x52 h =>
  vfield 0 1 false x52 h fun x53 h =>
  vbin .neq 0 x53 (kI 6) h fun x54 h =>
  vif x54 (
  vbin .add 0 (kS [46]) x25 h fun x56 h =>
  tcomp x56 fun c0 => tcomp (kB false) fun c1 => vfin true q [c0, c1] h)
  (R 2 [x0, x4, x5, x19, x20, x21] h))
  (vfaddr 3 x4 h fun x59 h =>
  vload false 1 x59 h fun x60 h =>
  viaddr 4 x60 x21 h fun x62 h =>
  vload true 4 x62 h fun x63 h =>
  vfaddr 5 x5 h fun x64 h =>
  vload false 1 x64 h fun x65 h =>
  viaddr 6 x65 x36 h fun x67 h =>
  vload true 6 x67 h fun x68 h =>
  vcall O (.v (.c (.func 70 []))) [x0, x63, x68] h 69 fun x69 h =>
  vext x69 0 h fun x70 h =>
  vext x69 1 h fun x71 h =>
  vop O (.un .not (.k x71)) h 73 fun x73 h =>
  vif x73 (
  vbin .add 0 (kS [46]) x25 h fun x75 h =>
  vbin .add 0 x75 x70 h fun x77 h =>
  tcomp x77 fun c0 => tcomp (kB false) fun c1 => vfin true q [c0, c1] h)
  (R 2 [x0, x4, x5, x19, x20, x21] h))))
  (R 3 [x4, x5] h)
theorem e105_1 (O : Oracle) (R : Jump) (q : Nat) (x0 x4 x5 x19 x20 x21 : TVal) (h : Heap) : b105_1 O R q x0 x4 x5 x19 x20 x21 h = stepF c105 O R q 1 [x0, x4, x5, x19, x20, x21] h := by kernel_rfl
noncomputable def b105_2 (O : Oracle) (R : Jump) (q : Nat) (x0 x4 x5 x19 x20 x21 : TVal) (h : Heap) : Res1 :=
  vbin .add 0 x21 (kI 1) h fun x78 h =>
  R 1 [x0, x4, x5, x19, x20, x78] h
theorem e105_2 (O : Oracle) (R : Jump) (q : Nat) (x0 x4 x5 x19 x20 x21 : TVal) (h : Heap) : b105_2 O R q x0 x4 x5 x19 x20 x21 h = stepF c105 O R q 2 [x0, x4, x5, x19, x20, x21] h := by kernel_rfl
noncomputable def b105_3 (O : Oracle) (R : Jump) (q : Nat) (x4 x5 : TVal) (h : Heap) : Res1 :=
  vfaddr 4 x5 h fun x79 h =>
  vload false 1 x79 h fun x80 h =>
  vlen O 2 x80 h 81 fun x81 h =>
  R 4 [x4, x80, x81, (kI 0)] h
theorem e105_3 (O : Oracle) (R : Jump) (q : Nat) (x4 x5 : TVal) (h : Heap) : b105_3 O R q x4 x5 h = stepF c105 O R q 3 [x4, x5] h := by kernel_rfl
noncomputable def b105_4 (O : Oracle) (R : Jump) (q : Nat) (x4 x80 x81 x82 : TVal) (h : Heap) : Res1 :=
  vbin .lss 0 x82 x81 h fun x83 h =>
  vif x83 (
  viaddr 1 x80 x82 h fun x84 h =>
  vload false 1 x84 h fun x85 h =>
  vfaddr 2 x4 h fun x86 h =>
  vload false 1 x86 h fun x87 h =>
  vcall O (.v (.c (.func 76 []))) [x87, x85] h 89 fun x89 h =>
  vop O (.un .not (.k x89)) h 90 fun x90 h =>
  vif x90 (
  vbin .add 0 (kS [46]) x85 h fun x92 h =>
  tcomp x92 fun c0 => tcomp (kB false) fun c1 => vfin true q [c0, c1] h)
  (vbin .add 0 x82 (kI 1) h fun x93 h =>
  R 4 [x4, x80, x81, x93] h))
  (tcomp (kS []) fun c0 => tcomp (kB true) fun c1 => vfin true q [c0, c1] h)
theorem e105_4 (O : Oracle) (R : Jump) (q : Nat) (x4 x80 x81 x82 : TVal) (h : Heap) : b105_4 O R q x4 x80 x81 x82 h = stepF c105 O R q 4 [x4, x80, x81, x82] h := by kernel_rfl
noncomputable def d105 : BlkF := fun O R q => [.s fun y0 => .s fun y1 => .s fun y2 => .z fun h => b105_0 O R q y0 y1 y2 h, .s fun y0 => .s fun y1 => .s fun y2 => .s fun y3 => .s fun y4 => .s fun y5 => .z fun h => b105_1 O R q y0 y1 y2 y3 y4 y5 h, .s fun y0 => .s fun y1 => .s fun y2 => .s fun y3 => .s fun y4 => .s fun y5 => .z fun h => b105_2 O R q y0 y1 y2 y3 y4 y5 h, .s fun y0 => .s fun y1 => .z fun h => b105_3 O R q y0 y1 h, .s fun y0 => .s fun y1 => .s fun y2 => .s fun y3 => .z fun h => b105_4 O R q y0 y1 y2 y3 h]
theorem o105 (O : Oracle) (R : Jump) (q : Nat) : HoldsAll c105 O R q 0 (d105 O R q) := ⟨fun y0 y1 y2 h => e105_0 O R q y0 y1 y2 h, fun y0 y1 y2 y3 y4 y5 h => e105_1 O R q y0 y1 y2 y3 y4 y5 h, fun y0 y1 y2 y3 y4 y5 h => e105_2 O R q y0 y1 y2 y3 y4 y5 h, fun y0 y1 h => e105_3 O R q y0 y1 h, fun y0 y1 y2 y3 h => e105_4 O R q y0 y1 y2 y3 h, trivial⟩
/- (sprue/fits.fitter).union -/
def c106 : MFunc := { np := 3, res := [.t 6, .t 7], frz := true, body := (.seq (.reg [⟨(some 4), (.box (.t 1) false), none⟩, ⟨(some 5), (.box (.t 2) false), none⟩, ⟨(some 6), (.mv (.k (.v (.c (.p (.str [])))))), none⟩, ⟨(some 7), (.mv (.k (.v (.c (.p (.bool false)))))), none⟩] []) (.seq (.seq (.reg [⟨(some 11), (.faddr 0 (.t 5)), none⟩, ⟨(some 12), (.load false 1 (.t 11)), none⟩, ⟨(some 13), (.bin .neq 0 (.t 12) (.k (.v (.c (.p (.int .i64 5)))))), none⟩, ⟨(some 14), (.mv (.t 13)), none⟩, ⟨(some 15), (.faddr 4 (.t 5)), (some (14, false))⟩, ⟨(some 16), (.load false 1 (.t 15)), (some (14, false))⟩, ⟨(some 17), (.len 2 (.t 16)), (some (14, false))⟩, ⟨(some 18), (.bin .neq 0 (.t 17) (.k (.v (.c (.p (.int .i64 1)))))), (some (14, false))⟩, ⟨(some 19), (.pick (.t 14) (.k (.v (.c (.p (.bool true))))) (.t 18)), none⟩, ⟨(some 20), (.mv (.t 19)), none⟩, ⟨(some 21), (.faddr 5 (.t 5)), (some (20, false))⟩, ⟨(some 22), (.load false 1 (.t 21)), (some (20, false))⟩, ⟨(some 23), (.len 2 (.t 22)), (some (20, false))⟩, ⟨(some 24), (.bin .neq 0 (.t 23) (.k (.v (.c (.p (.int .i64 1)))))), (some (20, false))⟩, ⟨(some 25), (.pick (.t 20) (.k (.v (.c (.p (.bool true))))) (.t 24)), none⟩] []) (.cond (.t 25) (.seq (.reg [⟨(some 6), (.mv (.k (.v (.c (.p (.str [])))))), none⟩, ⟨(some 7), (.mv (.k (.v (.c (.p (.bool false)))))), none⟩] []) .ret) .skip)) (.seq (.reg [⟨(some 26), (.faddr 2 (.t 4)), none⟩, ⟨(some 27), (.load false 1 (.t 26)), none⟩, ⟨(some 28), (.faddr 4 (.t 5)), none⟩, ⟨(some 29), (.load false 1 (.t 28)), none⟩, ⟨(some 30), (.iaddr 1 (.t 29) (.k (.v (.c (.p (.int .i64 0)))))), none⟩, ⟨(some 31), (.load false 1 (.t 30)), none⟩, ⟨(some 32), (.call (.k (.v (.c (.func 64 [])))) [(.t 27), (.t 31)]), none⟩, ⟨(some 8), (.mv (.t 32)), none⟩] []) (.seq (.seq (.reg [⟨(some 33), (.mv (.t 8)), none⟩, ⟨(some 34), (.bin .lss 0 (.t 33) (.k (.v (.c (.p (.int .i64 0)))))), none⟩, ⟨(some 35), (.mv (.t 34)), none⟩, ⟨(some 36), (.mv (.t 8)), (some (35, false))⟩, ⟨(some 37), (.faddr 3 (.t 4)), (some (35, false))⟩, ⟨(some 38), (.load false 1 (.t 37)), (some (35, false))⟩, ⟨(some 39), (.len 2 (.t 38)), (some (35, false))⟩, ⟨(some 40), (.bin .geq 0 (.t 36) (.t 39)), (some (35, false))⟩, ⟨(some 41), (.pick (.t 35) (.k (.v (.c (.p (.bool true))))) (.t 40)), none⟩] []) (.cond (.t 41) (.seq (.reg [⟨(some 6), (.mv (.k (.v (.c (.p (.str [])))))), none⟩, ⟨(some 7), (.mv (.k (.v (.c (.p (.bool false)))))), none⟩] []) .ret) .skip)) (.seq (.reg [⟨(some 43), (.mv (.t 0)), none⟩, ⟨(some 44), (.faddr 3 (.t 4)), none⟩, ⟨(some 45), (.load false 1 (.t 44)), none⟩, ⟨(some 46), (.mv (.t 8)), none⟩, ⟨(some 47), (.iaddr 4 (.t 45) (.t 46)), none⟩, ⟨(some 48), (.load true 4 (.t 47)), none⟩, ⟨(some 49), (.faddr 5 (.t 5)), none⟩, ⟨(some 50), (.load false 1 (.t 49)), none⟩, ⟨(some 51), (.iaddr 6 (.t 50) (.k (.v (.c (.p (.int .i64 0)))))), none⟩, ⟨(some 52), (.load true 6 (.t 51)), none⟩, ⟨(some 53), (.call (.k (.v (.c (.func 70 [])))) [(.t 43), (.t 48), (.t 52)]), none⟩, ⟨(some 42), (.mv (.t 53)), none⟩, ⟨(some 54), (.extract (.t 42) 0), none⟩, ⟨(some 55), (.extract (.t 42) 1), none⟩, ⟨(some 9), (.mv (.t 54)), none⟩, ⟨(some 10), (.mv (.t 55)), none⟩] []) (.seq (.seq (.reg [⟨(some 56), (.mv (.t 10)), none⟩, ⟨(some 57), (.un .not (.t 56)), none⟩] []) (.cond (.t 57) (.reg [⟨(some 58), (.faddr 4 (.t 5)), none⟩, ⟨(some 59), (.load false 1 (.t 58)), none⟩, ⟨(some 60), (.iaddr 1 (.t 59) (.k (.v (.c (.p (.int .i64 0)))))), none⟩, ⟨(some 61), (.load false 1 (.t 60)), none⟩, ⟨(some 62), (.bin .add 0 (.k (.v (.c (.p (.str [46]))))) (.t 61)), none⟩, ⟨(some 63), (.mv (.t 9)), none⟩, ⟨(some 64), (.bin .add 0 (.t 62) (.t 63)), none⟩, ⟨(some 9), (.mv (.t 64)), none⟩] []) .skip)) (.seq (.reg [⟨(some 65), (.mv (.t 9)), none⟩, ⟨(some 66), (.mv (.t 10)), none⟩, ⟨(some 6), (.mv (.t 65)), none⟩, ⟨(some 7), (.mv (.t 66)), none⟩] []) .ret))))))) }
theorem t106 : compF Tryd.prog (globs2 tabs opq) false true Tryd.f106 = some c106.erase := by kernel_rfl
noncomputable def b106_0 (O : Oracle) (R : Jump) (q : Nat) (x0 x1 x2 : TVal) (h : Heap) : Res1 :=
  vop O (.box (.k x1) false) h 4 fun x4 h =>
  vop O (.box (.k x2) false) h 5 fun x5 h =>
  vfaddr 0 x5 h fun x11 h =>
  vload false 1 x11 h fun x12 h =>
  vbin .neq 0 x12 (kI 5) h fun x13 h =>
  vguard x13 false (fun kk => vfaddr 4 x5 h kk) h fun x15 h =>
  vguard x13 false (fun kk => vload false 1 x15 h kk) h fun x16 h =>
  vguard x13 false (fun kk => vlen O 2 x16 h 17 kk) h fun x17 h =>
  vguard x13 false (fun kk => vbin .neq 0 x17 (kI 1) h kk) h fun x18 h =>
  vop O (.pick (.k x13) (.k (kB true)) (.k x18)) h 19 fun x19 h =>
  vguard x19 false (fun kk => vfaddr 5 x5 h kk) h fun x21 h =>
  vguard x19 false (fun kk => vload false 1 x21 h kk) h fun x22 h =>
  vguard x19 false (fun kk => vlen O 2 x22 h 23 kk) h fun x23 h =>
  vguard x19 false (fun kk => vbin .neq 0 x23 (kI 1) h kk) h fun x24 h =>
  vop O (.pick (.k x19) (.k (kB true)) (.k x24)) h 25 fun x25 h =>
  vif x25 (
  tcomp (kS []) fun c0 => tcomp (kB false) fun c1 => vfin true q [c0, c1] h)
  (vfaddr 2 x4 h fun x26 h =>
  vload false 1 x26 h fun x27 h =>
  vfaddr 4 x5 h fun x28 h =>
  vload false 1 x28 h fun x29 h =>
  viaddr 1 x29 (kI 0) h fun x30 h =>
  vload false 1 x30 h fun x31 h =>
  vcall O (.v (.c (.func 64 []))) [x27, x31] h 32 fun x32 h =>
  vbin .lss 0 x32 (kI 0) h fun x34 h =>
  vguard x34 false (fun kk => kk x32 h) h fun x36 h =>
  vguard x34 false (fun kk => vfaddr 3 x4 h kk) h fun x37 h =>
  vguard x34 false (fun kk => vload false 1 x37 h kk) h fun x38 h =>
  vguard x34 false (fun kk => vlen O 2 x38 h 39 kk) h fun x39 h =>
  vguard x34 false (fun kk => vbin .geq 0 x36 x39 h kk) h fun x40 h =>
  vop O (.pick (.k x34) (.k (kB true)) (.k x40)) h 41 fun x41 h =>
  vif x41 (
  tcomp (kS []) fun c0 => tcomp (kB false) fun c1 => vfin true q [c0, c1] h)
  (vfaddr 3 x4 h fun x44 h =>
  vload false 1 x44 h fun x45 h =>
  viaddr 4 x45 x32 h fun x47 h =>
  vload true 4 x47 h fun x48 h =>
  vfaddr 5 x5 h fun x49 h =>
  vload false 1 x49 h fun x50 h =>
  viaddr 6 x50 (kI 0) h fun x51 h =>
  vload true 6 x51 h fun x52 h =>
  vcall O (.v (.c (.func 70 []))) [x0, x48, x52] h 53 fun x53 h =>
  vext x53 0 h fun x54 h =>
  vext x53 1 h fun x55 h =>
  vop O (.un .not (.k x55)) h 57 fun x57 h =>
  vif x57 (
  vfaddr 4 x5 h fun x58 h =>
  vload false 1 x58 h fun x59 h =>
  viaddr 1 x59 (kI 0) h fun x60 h =>
  vload false 1 x60 h fun x61 h =>
  vbin .add 0 (kS [46]) x61 h fun x62 h =>
  vbin .add 0 x62 x54 h fun x64 h =>
  tcomp x64 fun c0 => tcomp x55 fun c1 => vfin true q [c0, c1] h)
  (tcomp x54 fun c0 => tcomp x55 fun c1 => vfin true q [c0, c1] h)))
theorem e106_0 (O : Oracle) (R : Jump) (q : Nat) (x0 x1 x2 : TVal) (h : Heap) : b106_0 O R q x0 x1 x2 h = stepF c106 O R q 0 [x0, x1, x2] h := by kernel_rfl
noncomputable def d106 : BlkF := fun O R q => [.s fun y0 => .s fun y1 => .s fun y2 => .z fun h => b106_0 O R q y0 y1 y2 h]
theorem o106 (O : Oracle) (R : Jump) (q : Nat) : HoldsAll c106 O R q 0 (d106 O R q) := ⟨fun y0 y1 y2 h => e106_0 O R q y0 y1 y2 h, trivial⟩
/- sprue/sprueref1.letter -/
def c107 : MFunc := { np := 1, res := [.t 2], frz := true, body := (.seq (.reg [⟨(some 2), (.mv (.k (.v (.c (.p (.bool false)))))), none⟩] []) (.seq (.reg [⟨(some 3), (.mv (.t 0)), none⟩, ⟨(some 4), (.bin .geq 0 (.t 3) (.k (.v (.c (.p (.int .u8 97)))))), none⟩, ⟨(some 5), (.mv (.t 4)), none⟩, ⟨(some 6), (.mv (.t 0)), (some (5, true))⟩, ⟨(some 7), (.bin .leq 0 (.t 6) (.k (.v (.c (.p (.int .u8 122)))))), (some (5, true))⟩, ⟨(some 8), (.pick (.t 5) (.t 7) (.k (.v (.c (.p (.bool false)))))), none⟩, ⟨(some 9), (.mv (.t 8)), none⟩, ⟨(some 10), (.mv (.t 0)), (some (9, false))⟩, ⟨(some 11), (.bin .geq 0 (.t 10) (.k (.v (.c (.p (.int .u8 65)))))), (some (9, false))⟩, ⟨(some 12), (.mv (.t 11)), (some (9, false))⟩, ⟨(some 13), (.mv (.t 0)), (some (12, true))⟩, ⟨(some 14), (.bin .leq 0 (.t 13) (.k (.v (.c (.p (.int .u8 90)))))), (some (12, true))⟩, ⟨(some 15), (.pick (.t 12) (.t 14) (.k (.v (.c (.p (.bool false)))))), (some (9, false))⟩, ⟨(some 16), (.pick (.t 9) (.k (.v (.c (.p (.bool true))))) (.t 15)), none⟩, ⟨(some 17), (.mv (.t 16)), none⟩, ⟨(some 18), (.mv (.t 0)), (some (17, false))⟩, ⟨(some 19), (.bin .eql 0 (.t 18) (.k (.v (.c (.p (.int .u8 95)))))), (some (17, false))⟩, ⟨(some 20), (.pick (.t 17) (.k (.v (.c (.p (.bool true))))) (.t 19)), none⟩, ⟨(some 2), (.mv (.t 20)), none⟩] []) .ret)) }
theorem t107 : compF Tryd.prog (globs2 tabs opq) false true Tryd.f107 = some c107.erase := by kernel_rfl
noncomputable def b107_0 (O : Oracle) (R : Jump) (q : Nat) (x0 : TVal) (h : Heap) : Res1 :=
  vbin .geq 0 x0 (.v (.c (.p (.int .u8 97)))) h fun x4 h =>
  vguard x4 true (fun kk => kk x0 h) h fun x6 h =>
  vguard x4 true (fun kk => vbin .leq 0 x6 (.v (.c (.p (.int .u8 122)))) h kk) h fun x7 h =>
  vop O (.pick (.k x4) (.k x7) (.k (kB false))) h 8 fun x8 h =>
  vguard x8 false (fun kk => kk x0 h) h fun x10 h =>
  vguard x8 false (fun kk => vbin .geq 0 x10 (.v (.c (.p (.int .u8 65)))) h kk) h fun x11 h =>
  vguard x8 false (fun kk => kk x11 h) h fun x12 h =>
  vguard x12 true (fun kk => kk x0 h) h fun x13 h =>
  vguard x12 true (fun kk => vbin .leq 0 x13 (.v (.c (.p (.int .u8 90)))) h kk) h fun x14 h =>
  vguard x8 false (fun kk => vop O (.pick (.k x12) (.k x14) (.k (kB false))) h 15 kk) h fun x15 h =>
  vop O (.pick (.k x8) (.k (kB true)) (.k x15)) h 16 fun x16 h =>
  vguard x16 false (fun kk => kk x0 h) h fun x18 h =>
  vguard x16 false (fun kk => vbin .eql 0 x18 (.v (.c (.p (.int .u8 95)))) h kk) h fun x19 h =>
  vop O (.pick (.k x16) (.k (kB true)) (.k x19)) h 20 fun x20 h =>
  tcomp x20 fun c0 => vfin true q [c0] h
theorem e107_0 (O : Oracle) (R : Jump) (q : Nat) (x0 : TVal) (h : Heap) : b107_0 O R q x0 h = stepF c107 O R q 0 [x0] h := by kernel_rfl
noncomputable def d107 : BlkF := fun O R q => [.s fun y0 => .z fun h => b107_0 O R q y0 h]
theorem o107 (O : Oracle) (R : Jump) (q : Nat) : HoldsAll c107 O R q 0 (d107 O R q) := ⟨fun y0 h => e107_0 O R q y0 h, trivial⟩
/- sprue/sprueref1.digit -/
def c108 : MFunc := { np := 1, res := [.t 2], frz := true, body := (.seq (.reg [⟨(some 2), (.mv (.k (.v (.c (.p (.bool false)))))), none⟩] []) (.seq (.reg [⟨(some 3), (.mv (.t 0)), none⟩, ⟨(some 4), (.bin .geq 0 (.t 3) (.k (.v (.c (.p (.int .u8 48)))))), none⟩, ⟨(some 5), (.mv (.t 4)), none⟩, ⟨(some 6), (.mv (.t 0)), (some (5, true))⟩, ⟨(some 7), (.bin .leq 0 (.t 6) (.k (.v (.c (.p (.int .u8 57)))))), (some (5, true))⟩, ⟨(some 8), (.pick (.t 5) (.t 7) (.k (.v (.c (.p (.bool false)))))), none⟩, ⟨(some 2), (.mv (.t 8)), none⟩] []) .ret)) }
theorem t108 : compF Tryd.prog (globs2 tabs opq) false true Tryd.f108 = some c108.erase := by kernel_rfl
noncomputable def b108_0 (O : Oracle) (R : Jump) (q : Nat) (x0 : TVal) (h : Heap) : Res1 :=
  vbin .geq 0 x0 (.v (.c (.p (.int .u8 48)))) h fun x4 h =>
  vguard x4 true (fun kk => kk x0 h) h fun x6 h =>
  vguard x4 true (fun kk => vbin .leq 0 x6 (.v (.c (.p (.int .u8 57)))) h kk) h fun x7 h =>
  vop O (.pick (.k x4) (.k x7) (.k (kB false))) h 8 fun x8 h =>
  tcomp x8 fun c0 => vfin true q [c0] h
theorem e108_0 (O : Oracle) (R : Jump) (q : Nat) (x0 : TVal) (h : Heap) : b108_0 O R q x0 h = stepF c108 O R q 0 [x0] h := by kernel_rfl
noncomputable def d108 : BlkF := fun O R q => [.s fun y0 => .z fun h => b108_0 O R q y0 h]
theorem o108 (O : Oracle) (R : Jump) (q : Nat) : HoldsAll c108 O R q 0 (d108 O R q) := ⟨fun y0 h => e108_0 O R q y0 h, trivial⟩
/- sprue/sprueref1.Number -/
def c109 : MFunc := { np := 1, res := [.t 2, .t 3], frz := true, body := (.seq (.reg [⟨(some 2), (.mv (.k (.v (.c (.p (.int .i64 0)))))), none⟩, ⟨(some 3), (.mv (.k (.v (.c (.p (.int .i64 0)))))), none⟩] []) (.seq (.reg [⟨(some 7), (.mv (.t 0)), none⟩, ⟨(some 4), (.mv (.t 7)), none⟩] []) (.seq (.seq (.reg [⟨(some 8), (.mv (.t 0)), none⟩, ⟨(some 9), (.index (.t 8) (.k (.v (.c (.p (.int .i64 0)))))), none⟩, ⟨(some 10), (.bin .eql 0 (.t 9) (.k (.v (.c (.p (.int .u8 45)))))), none⟩] []) (.cond (.t 10) (.reg [⟨(some 11), (.mv (.t 0)), none⟩, ⟨(some 12), (.slice 0 true (.t 11) (some (.k (.v (.c (.p (.int .i64 1)))))) none none), none⟩, ⟨(some 4), (.mv (.t 12)), none⟩] []) .skip)) (.mark 1 [0, 4] (.seq (.seq (.reg [⟨(some 13), (.mv (.t 4)), none⟩, ⟨(some 14), (.len 0 (.t 13)), none⟩, ⟨(some 15), (.bin .gtr 0 (.t 14) (.k (.v (.c (.p (.int .i64 19)))))), none⟩] []) (.cond (.t 15) (.seq (.reg [⟨(some 2), (.mv (.k (.v (.c (.p (.int .i64 0)))))), none⟩, ⟨(some 3), (.mv (.k (.v (.c (.p (.int .i64 4)))))), none⟩] []) .ret) .skip)) (.seq (.reg [⟨(some 5), (.mv (.k (.v (.c (.p (.int .u64 0)))))), none⟩] []) (.seq (.seq (.reg [⟨(some 6), (.mv (.k (.v (.c (.p (.int .i64 0)))))), none⟩] []) (.block 0 (.loop 2 [0, 4, 5, 6] (.seq (.seq (.reg [⟨(some 16), (.mv (.t 6)), none⟩, ⟨(some 17), (.mv (.t 4)), none⟩, ⟨(some 18), (.len 0 (.t 17)), none⟩, ⟨(some 19), (.bin .lss 0 (.t 16) (.t 18)), none⟩] []) (.cond (.t 19) .skip (.exit 0))) (.seq (.block 1 (.reg [⟨(some 22), (.mv (.t 5)), none⟩, ⟨(some 23), (.bin .mul 0 (.t 22) (.k (.v (.c (.p (.int .u64 10)))))), none⟩, ⟨(some 24), (.mv (.t 4)), none⟩, ⟨(some 25), (.mv (.t 6)), none⟩, ⟨(some 26), (.index (.t 24) (.t 25)), none⟩, ⟨(some 27), (.bin .sub 0 (.t 26) (.k (.v (.c (.p (.int .u8 48)))))), none⟩, ⟨(some 28), (.toInt .u64 (.t 27)), none⟩, ⟨(some 29), (.bin .add 0 (.t 23) (.t 28)), none⟩, ⟨(some 5), (.mv (.t 29)), none⟩] [])) (.reg [⟨(some 20), (.mv (.t 6)), none⟩, ⟨(some 21), (.bin .add 0 (.t 20) (.k (.v (.c (.p (.int .i64 1)))))), none⟩, ⟨(some 6), (.mv (.t 21)), none⟩] [])))))) (.mark 3 [0, 5] (.seq (.seq (.reg [⟨(some 30), (.mv (.t 0)), none⟩, ⟨(some 31), (.index (.t 30) (.k (.v (.c (.p (.int .i64 0)))))), none⟩, ⟨(some 32), (.bin .eql 0 (.t 31) (.k (.v (.c (.p (.int .u8 45)))))), none⟩] []) (.cond (.t 32) (.seq (.seq (.reg [⟨(some 33), (.mv (.t 5)), none⟩, ⟨(some 34), (.bin .gtr 0 (.t 33) (.k (.v (.c (.p (.int .u64 9223372036854775808)))))), none⟩] []) (.cond (.t 34) (.seq (.reg [⟨(some 2), (.mv (.k (.v (.c (.p (.int .i64 0)))))), none⟩, ⟨(some 3), (.mv (.k (.v (.c (.p (.int .i64 11)))))), none⟩] []) .ret) .skip)) (.seq (.reg [⟨(some 35), (.mv (.t 5)), none⟩, ⟨(some 36), (.un .neg (.t 35)), none⟩, ⟨(some 37), (.toInt .i64 (.t 36)), none⟩, ⟨(some 2), (.mv (.t 37)), none⟩, ⟨(some 3), (.mv (.k (.v (.c (.p (.int .i64 0)))))), none⟩] []) .ret)) .skip)) (.seq (.seq (.reg [⟨(some 38), (.mv (.t 5)), none⟩, ⟨(some 39), (.bin .gtr 0 (.t 38) (.k (.v (.c (.p (.int .u64 9223372036854775807)))))), none⟩] []) (.cond (.t 39) (.seq (.reg [⟨(some 2), (.mv (.k (.v (.c (.p (.int .i64 0)))))), none⟩, ⟨(some 3), (.mv (.k (.v (.c (.p (.int .i64 11)))))), none⟩] []) .ret) .skip)) (.seq (.reg [⟨(some 40), (.mv (.t 5)), none⟩, ⟨(some 41), (.toInt .i64 (.t 40)), none⟩, ⟨(some 2), (.mv (.t 41)), none⟩, ⟨(some 3), (.mv (.k (.v (.c (.p (.int .i64 0)))))), none⟩] []) .ret))))))))))) }
theorem t109 : compF Tryd.prog (globs2 tabs opq) false true Tryd.f109 = some c109.erase := by kernel_rfl
noncomputable def b109_0 (O : Oracle) (R : Jump) (q : Nat) (x0 : TVal) (h : Heap) : Res1 :=
  vindex x0 (kI 0) h fun x9 h =>
  vbin .eql 0 x9 (.v (.c (.p (.int .u8 45)))) h fun x10 h =>
  vif x10 (
  vop O (.slice 0 true (.k x0) (some (.k (kI 1))) none none) h 12 fun x12 h =>
  R 1 [x0, x12] h)
  (R 1 [x0, x0] h)
theorem e109_0 (O : Oracle) (R : Jump) (q : Nat) (x0 : TVal) (h : Heap) : b109_0 O R q x0 h = stepF c109 O R q 0 [x0] h := by kernel_rfl
noncomputable def b109_1 (O : Oracle) (R : Jump) (q : Nat) (x0 x4 : TVal) (h : Heap) : Res1 :=
  vlen O 0 x4 h 14 fun x14 h =>
  vbin .gtr 0 x14 (kI 19) h fun x15 h =>
  vif x15 (
  tcomp (kI 0) fun c0 => tcomp (kI 4) fun c1 => vfin true q [c0, c1] h)
  (R 2 [x0, x4, (.v (.c (.p (.int .u64 0)))), (kI 0)] h)
theorem e109_1 (O : Oracle) (R : Jump) (q : Nat) (x0 x4 : TVal) (h : Heap) : b109_1 O R q x0 x4 h = stepF c109 O R q 1 [x0, x4] h := by kernel_rfl
noncomputable def b109_2 (O : Oracle) (R : Jump) (q : Nat) (x0 x4 x5 x6 : TVal) (h : Heap) : Res1 :=
  vlen O 0 x4 h 18 fun x18 h =>
  vbin .lss 0 x6 x18 h fun x19 h =>
  vif x19 (
  vbin .mul 0 x5 (.v (.c (.p (.int .u64 10)))) h fun x23 h =>
  vindex x4 x6 h fun x26 h =>
  vbin .sub 0 x26 (.v (.c (.p (.int .u8 48)))) h fun x27 h =>
  vtoInt .u64 x27 h fun x28 h =>
  vbin .add 0 x23 x28 h fun x29 h =>
  vbin .add 0 x6 (kI 1) h fun x21 h =>
  R 2 [x0, x4, x29, x21] h)
  (R 3 [x0, x5] h)
theorem e109_2 (O : Oracle) (R : Jump) (q : Nat) (x0 x4 x5 x6 : TVal) (h : Heap) : b109_2 O R q x0 x4 x5 x6 h = stepF c109 O R q 2 [x0, x4, x5, x6] h := by kernel_rfl
noncomputable def b109_3 (O : Oracle) (R : Jump) (q : Nat) (x0 x5 : TVal) (h : Heap) : Res1 :=
  vindex x0 (kI 0) h fun x31 h =>
  vbin .eql 0 x31 (.v (.c (.p (.int .u8 45)))) h fun x32 h =>
  vif x32 (
  vbin .gtr 0 x5 (.v (.c (.p (.int .u64 9223372036854775808)))) h fun x34 h =>
  vif x34 (
  tcomp (kI 0) fun c0 => tcomp (kI 11) fun c1 => vfin true q [c0, c1] h)
  (vop O (.un .neg (.k x5)) h 36 fun x36 h =>
  vtoInt .i64 x36 h fun x37 h =>
  tcomp x37 fun c0 => tcomp (kI 0) fun c1 => vfin true q [c0, c1] h))
  (vbin .gtr 0 x5 (.v (.c (.p (.int .u64 9223372036854775807)))) h fun x39 h =>
  vif x39 (
  tcomp (kI 0) fun c0 => tcomp (kI 11) fun c1 => vfin true q [c0, c1] h)
  (vtoInt .i64 x5 h fun x41 h =>
  tcomp x41 fun c0 => tcomp (kI 0) fun c1 => vfin true q [c0, c1] h))
theorem e109_3 (O : Oracle) (R : Jump) (q : Nat) (x0 x5 : TVal) (h : Heap) : b109_3 O R q x0 x5 h = stepF c109 O R q 3 [x0, x5] h := by kernel_rfl
noncomputable def d109 : BlkF := fun O R q => [.s fun y0 => .z fun h => b109_0 O R q y0 h, .s fun y0 => .s fun y1 => .z fun h => b109_1 O R q y0 y1 h, .s fun y0 => .s fun y1 => .s fun y2 => .s fun y3 => .z fun h => b109_2 O R q y0 y1 y2 y3 h, .s fun y0 => .s fun y1 => .z fun h => b109_3 O R q y0 y1 h]
theorem o109 (O : Oracle) (R : Jump) (q : Nat) : HoldsAll c109 O R q 0 (d109 O R q) := ⟨fun y0 h => e109_0 O R q y0 h, fun y0 y1 h => e109_1 O R q y0 y1 h, fun y0 y1 y2 y3 h => e109_2 O R q y0 y1 y2 y3 h, fun y0 y1 h => e109_3 O R q y0 y1 h, trivial⟩
/- sprue/sprueref1.Quoted -/
def c110 : MFunc := { np := 2, res := [.t 4, .t 5], frz := true, body := (.seq (.reg [⟨(some 4), (.mv (.k (.v (.c (.p (.str [])))))), none⟩, ⟨(some 5), (.mv (.k (.v (.c (.p (.int .i64 0)))))), none⟩] []) (.seq (.reg [⟨(some 6), (.mv (.k (.v (.c (.p (.str [])))))), none⟩] []) (.seq (.reg [⟨(some 8), (.mv (.t 1)), none⟩, ⟨(some 9), (.bin .add 0 (.t 8) (.k (.v (.c (.p (.int .i64 1)))))), none⟩, ⟨(some 1), (.mv (.t 9)), none⟩] []) (.seq (.block 0 (.loop 1 [0, 1, 6] (.seq (.seq (.reg [⟨(some 10), (.mv (.t 1)), none⟩, ⟨(some 11), (.mv (.t 0)), none⟩, ⟨(some 12), (.len 0 (.t 11)), none⟩, ⟨(some 13), (.bin .lss 0 (.t 10) (.t 12)), none⟩] []) (.cond (.t 13) .skip (.exit 0))) (.block 1 (.seq (.reg [⟨(some 14), (.mv (.t 0)), none⟩, ⟨(some 15), (.mv (.t 1)), none⟩, ⟨(some 16), (.index (.t 14) (.t 15)), none⟩, ⟨(some 7), (.mv (.t 16)), none⟩] []) (.seq (.block 2 (.seq (.reg [⟨(some 18), (.mv (.t 7)), none⟩, ⟨(some 19), (.bin .eql 0 (.t 18) (.k (.v (.c (.p (.int .u8 34)))))), none⟩, ⟨(some 17), (.mv (.t 19)), none⟩] []) (.cond (.t 17) (.seq (.reg [⟨(some 20), (.mv (.t 6)), none⟩, ⟨(some 21), (.mv (.t 1)), none⟩, ⟨(some 22), (.bin .add 0 (.t 21) (.k (.v (.c (.p (.int .i64 1)))))), none⟩, ⟨(some 4), (.mv (.t 20)), none⟩, ⟨(some 5), (.mv (.t 22)), none⟩] []) .ret) (.seq (.reg [⟨(some 24), (.mv (.t 7)), none⟩, ⟨(some 25), (.bin .lss 0 (.t 24) (.k (.v (.c (.p (.int .u8 32)))))), none⟩, ⟨(some 23), (.mv (.t 25)), none⟩] []) (.cond (.t 23) (.seq (.reg [⟨(some 4), (.mv (.k (.v (.c (.p (.str [])))))), none⟩, ⟨(some 5), (.mv (.k (.v (.c (.p (.int .i64 (-1))))))), none⟩] []) .ret) (.seq (.reg [⟨(some 27), (.mv (.t 7)), none⟩, ⟨(some 28), (.bin .neq 0 (.t 27) (.k (.v (.c (.p (.int .u8 92)))))), none⟩, ⟨(some 26), (.mv (.t 28)), none⟩] []) (.cond (.t 26) (.seq (.reg [⟨(some 29), (.mv (.t 6)), none⟩, ⟨(some 30), (.mv (.t 0)), none⟩, ⟨(some 31), (.mv (.t 1)), none⟩, ⟨(some 32), (.mv (.t 1)), none⟩, ⟨(some 33), (.bin .add 0 (.t 32) (.k (.v (.c (.p (.int .i64 1)))))), none⟩, ⟨(some 34), (.slice 0 true (.t 30) (some (.t 31)) (some (.t 33)) none), none⟩, ⟨(some 35), (.bin .add 0 (.t 29) (.t 34)), none⟩, ⟨(some 6), (.mv (.t 35)), none⟩] []) (.seq (.reg [⟨(some 36), (.mv (.t 1)), none⟩, ⟨(some 37), (.bin .add 0 (.t 36) (.k (.v (.c (.p (.int .i64 1)))))), none⟩, ⟨(some 1), (.mv (.t 37)), none⟩] []) (.exit 1))) .skip))))))) (.seq (.seq (.reg [⟨(some 38), (.mv (.t 1)), none⟩, ⟨(some 39), (.bin .add 0 (.t 38) (.k (.v (.c (.p (.int .i64 1)))))), none⟩, ⟨(some 40), (.mv (.t 0)), none⟩, ⟨(some 41), (.len 0 (.t 40)), none⟩, ⟨(some 42), (.bin .geq 0 (.t 39) (.t 41)), none⟩] []) (.cond (.t 42) (.seq (.reg [⟨(some 4), (.mv (.k (.v (.c (.p (.str [])))))), none⟩, ⟨(some 5), (.mv (.k (.v (.c (.p (.int .i64 (-1))))))), none⟩] []) .ret) .skip)) (.seq (.seq (.reg [⟨(some 43), (.mv (.t 0)), none⟩, ⟨(some 44), (.mv (.t 1)), none⟩, ⟨(some 45), (.bin .add 0 (.t 44) (.k (.v (.c (.p (.int .i64 1)))))), none⟩, ⟨(some 46), (.index (.t 43) (.t 45)), none⟩] []) (.block 3 (.seq (.seq (.reg [⟨(some 48), (.bin .eql 0 (.t 46) (.k (.v (.c (.p (.int .u8 92)))))), none⟩, ⟨(some 47), (.mv (.t 48)), none⟩] []) (.cond (.t 47) .skip (.reg [⟨(some 49), (.bin .eql 0 (.t 46) (.k (.v (.c (.p (.int .u8 34)))))), none⟩, ⟨(some 47), (.mv (.t 49)), none⟩] []))) (.mark 2 [0, 1, 6, 46, 47] (.cond (.t 47) (.reg [⟨(some 50), (.mv (.t 6)), none⟩, ⟨(some 51), (.mv (.t 0)), none⟩, ⟨(some 52), (.mv (.t 1)), none⟩, ⟨(some 53), (.bin .add 0 (.t 52) (.k (.v (.c (.p (.int .i64 1)))))), none⟩, ⟨(some 54), (.mv (.t 1)), none⟩, ⟨(some 55), (.bin .add 0 (.t 54) (.k (.v (.c (.p (.int .i64 2)))))), none⟩, ⟨(some 56), (.slice 0 true (.t 51) (some (.t 53)) (some (.t 55)) none), none⟩, ⟨(some 57), (.bin .add 0 (.t 50) (.t 56)), none⟩, ⟨(some 6), (.mv (.t 57)), none⟩] []) (.seq (.reg [⟨(some 59), (.bin .eql 0 (.t 46) (.k (.v (.c (.p (.int .u8 110)))))), none⟩, ⟨(some 58), (.mv (.t 59)), none⟩] []) (.cond (.t 58) (.reg [⟨(some 60), (.mv (.t 6)), none⟩, ⟨(some 61), (.bin .add 0 (.t 60) (.k (.v (.c (.p (.str [10])))))), none⟩, ⟨(some 6), (.mv (.t 61)), none⟩] []) (.seq (.reg [⟨(some 63), (.bin .eql 0 (.t 46) (.k (.v (.c (.p (.int .u8 116)))))), none⟩, ⟨(some 62), (.mv (.t 63)), none⟩] []) (.cond (.t 62) (.reg [⟨(some 64), (.mv (.t 6)), none⟩, ⟨(some 65), (.bin .add 0 (.t 64) (.k (.v (.c (.p (.str [9])))))), none⟩, ⟨(some 6), (.mv (.t 65)), none⟩] []) (.seq (.reg [⟨(some 4), (.mv (.k (.v (.c (.p (.str [])))))), none⟩, ⟨(some 5), (.mv (.k (.v (.c (.p (.int .i64 (-1))))))), none⟩] []) .ret)))))))))) (.mark 3 [0, 1, 6] (.reg [⟨(some 66), (.mv (.t 1)), none⟩, ⟨(some 67), (.bin .add 0 (.t 66) (.k (.v (.c (.p (.int .i64 2)))))), none⟩, ⟨(some 1), (.mv (.t 67)), none⟩] [])))))))))) (.seq (.reg [⟨(some 4), (.mv (.k (.v (.c (.p (.str [])))))), none⟩, ⟨(some 5), (.mv (.k (.v (.c (.p (.int .i64 (-1))))))), none⟩] []) .ret))))) }
theorem t110 : compF Tryd.prog (globs2 tabs opq) false true Tryd.f110 = some c110.erase := by kernel_rfl
noncomputable def b110_0 (O : Oracle) (R : Jump) (q : Nat) (x0 x1 : TVal) (h : Heap) : Res1 :=
  vbin .add 0 x1 (kI 1) h fun x9 h =>
  R 1 [x0, x9, (kS [])] h
theorem e110_0 (O : Oracle) (R : Jump) (q : Nat) (x0 x1 : TVal) (h : Heap) : b110_0 O R q x0 x1 h = stepF c110 O R q 0 [x0, x1] h := by kernel_rfl
noncomputable def b110_1 (O : Oracle) (R : Jump) (q : Nat) (x0 x1 x6 : TVal) (h : Heap) : Res1 :=
  vlen O 0 x0 h 12 fun x12 h =>
  vbin .lss 0 x1 x12 h fun x13 h =>
  vif x13 (
  vindex x0 x1 h fun x16 h =>
  vbin .eql 0 x16 (.v (.c (.p (.int .u8 34)))) h fun x19 h =>
  vif x19 (
  vbin .add 0 x1 (kI 1) h fun x22 h =>
  tcomp x6 fun c0 => tcomp x22 fun c1 => vfin true q [c0, c1] h)
  (vbin .lss 0 x16 (.v (.c (.p (.int .u8 32)))) h fun x25 h =>
  vif x25 (
  tcomp (kS []) fun c0 => tcomp (kI (-1)) fun c1 => vfin true q [c0, c1] h)
  (vbin .neq 0 x16 (.v (.c (.p (.int .u8 92)))) h fun x28 h =>
  vif x28 (
  vbin .add 0 x1 (kI 1) h fun x33 h =>
  vop O (.slice 0 true (.k x0) (some (.k x1)) (some (.k x33)) none) h 34 fun x34 h =>
  vbin .add 0 x6 x34 h fun x35 h =>
  vbin .add 0 x1 (kI 1) h fun x37 h =>
  R 1 [x0, x37, x35] h)
  (vbin .add 0 x1 (kI 1) h fun x39 h =>
  vlen O 0 x0 h 41 fun x41 h =>
  vbin .geq 0 x39 x41 h fun x42 h =>
  vif x42 (
  tcomp (kS []) fun c0 => tcomp (kI (-1)) fun c1 => vfin true q [c0, c1] h)
  (vbin .add 0 x1 (kI 1) h fun x45 h =>
  vindex x0 x45 h fun x46 h =>
  vbin .eql 0 x46 (.v (.c (.p (.int .u8 92)))) h fun x48 h =>
  vif x48 (
  R 2 [x0, x1, x6, x46, x48] h)
  (vbin .eql 0 x46 (.v (.c (.p (.int .u8 34)))) h fun x49 h =>
  R 2 [x0, x1, x6, x46, x49] h))))))
  (tcomp (kS []) fun c0 => tcomp (kI (-1)) fun c1 => vfin true q [c0, c1] h)
theorem e110_1 (O : Oracle) (R : Jump) (q : Nat) (x0 x1 x6 : TVal) (h : Heap) : b110_1 O R q x0 x1 x6 h = stepF c110 O R q 1 [x0, x1, x6] h := by kernel_rfl
noncomputable def b110_2 (O : Oracle) (R : Jump) (q : Nat) (x0 x1 x6 x46 x47 : TVal) (h : Heap) : Res1 :=
  vif x47 (
  vbin .add 0 x1 (kI 1) h fun x53 h =>
  vbin .add 0 x1 (kI 2) h fun x55 h =>
  vop O (.slice 0 true (.k x0) (some (.k x53)) (some (.k x55)) none) h 56 fun x56 h =>
  vbin .add 0 x6 x56 h fun x57 h =>
  R 3 [x0, x1, x57] h)
  (vbin .eql 0 x46 (.v (.c (.p (.int .u8 110)))) h fun x59 h =>
  vif x59 (
  vbin .add 0 x6 (kS [10]) h fun x61 h =>
  R 3 [x0, x1, x61] h)
  (vbin .eql 0 x46 (.v (.c (.p (.int .u8 116)))) h fun x63 h =>
  vif x63 (
  vbin .add 0 x6 (kS [9]) h fun x65 h =>
  R 3 [x0, x1, x65] h)
  (tcomp (kS []) fun c0 => tcomp (kI (-1)) fun c1 => vfin true q [c0, c1] h)))
theorem e110_2 (O : Oracle) (R : Jump) (q : Nat) (x0 x1 x6 x46 x47 : TVal) (h : Heap) : b110_2 O R q x0 x1 x6 x46 x47 h = stepF c110 O R q 2 [x0, x1, x6, x46, x47] h := by kernel_rfl
noncomputable def b110_3 (O : Oracle) (R : Jump) (q : Nat) (x0 x1 x6 : TVal) (h : Heap) : Res1 :=
  vbin .add 0 x1 (kI 2) h fun x67 h =>
  R 1 [x0, x67, x6] h
theorem e110_3 (O : Oracle) (R : Jump) (q : Nat) (x0 x1 x6 : TVal) (h : Heap) : b110_3 O R q x0 x1 x6 h = stepF c110 O R q 3 [x0, x1, x6] h := by kernel_rfl
noncomputable def d110 : BlkF := fun O R q => [.s fun y0 => .s fun y1 => .z fun h => b110_0 O R q y0 y1 h, .s fun y0 => .s fun y1 => .s fun y2 => .z fun h => b110_1 O R q y0 y1 y2 h, .s fun y0 => .s fun y1 => .s fun y2 => .s fun y3 => .s fun y4 => .z fun h => b110_2 O R q y0 y1 y2 y3 y4 h, .s fun y0 => .s fun y1 => .s fun y2 => .z fun h => b110_3 O R q y0 y1 y2 h]
theorem o110 (O : Oracle) (R : Jump) (q : Nat) : HoldsAll c110 O R q 0 (d110 O R q) := ⟨fun y0 y1 h => e110_0 O R q y0 y1 h, fun y0 y1 y2 h => e110_1 O R q y0 y1 y2 h, fun y0 y1 y2 y3 y4 h => e110_2 O R q y0 y1 y2 y3 y4 h, fun y0 y1 y2 h => e110_3 O R q y0 y1 y2 h, trivial⟩
/- (*sprue/sprueref13.reader).is -/
def c111 : MFunc := { np := 2, res := [.t 4], frz := true, body := (.seq (.reg [⟨(some 4), (.mv (.k (.v (.c (.p (.bool false)))))), none⟩] []) (.seq (.reg [⟨(some 5), (.mv (.t 0)), none⟩, ⟨(some 6), (.call (.k (.v (.c (.func 51 [])))) [(.t 5)]), none⟩] []) (.seq (.seq (.reg [⟨(some 7), (.mv (.t 0)), none⟩, ⟨(some 8), (.nilck (.t 7)), none⟩, ⟨(some 9), (.faddr 2 (.t 8)), none⟩, ⟨(some 10), (.load false 1 (.t 9)), none⟩, ⟨(some 11), (.bin .eql 0 (.t 10) (.k (.v (.c (.p (.int .i64 0)))))), none⟩, ⟨(some 12), (.mv (.t 11)), none⟩, ⟨(some 13), (.mv (.t 0)), (some (12, true))⟩, ⟨(some 14), (.nilck (.t 13)), (some (12, true))⟩, ⟨(some 15), (.faddr 1 (.t 14)), (some (12, true))⟩, ⟨(some 16), (.load false 1 (.t 15)), (some (12, true))⟩, ⟨(some 17), (.mv (.t 0)), (some (12, true))⟩, ⟨(some 18), (.nilck (.t 17)), (some (12, true))⟩, ⟨(some 19), (.faddr 0 (.t 18)), (some (12, true))⟩, ⟨(some 20), (.load false 1 (.t 19)), (some (12, true))⟩, ⟨(some 21), (.len 0 (.t 20)), (some (12, true))⟩, ⟨(some 22), (.bin .lss 0 (.t 16) (.t 21)), (some (12, true))⟩, ⟨(some 23), (.pick (.t 12) (.t 22) (.k (.v (.c (.p (.bool false)))))), none⟩, ⟨(some 24), (.mv (.t 23)), none⟩, ⟨(some 25), (.mv (.t 0)), (some (24, true))⟩, ⟨(some 26), (.nilck (.t 25)), (some (24, true))⟩, ⟨(some 27), (.faddr 0 (.t 26)), (some (24, true))⟩, ⟨(some 28), (.load false 1 (.t 27)), (some (24, true))⟩, ⟨(some 29), (.mv (.t 0)), (some (24, true))⟩, ⟨(some 30), (.nilck (.t 29)), (some (24, true))⟩, ⟨(some 31), (.faddr 1 (.t 30)), (some (24, true))⟩, ⟨(some 32), (.load false 1 (.t 31)), (some (24, true))⟩, ⟨(some 33), (.index (.t 28) (.t 32)), (some (24, true))⟩, ⟨(some 34), (.mv (.t 1)), (some (24, true))⟩, ⟨(some 35), (.bin .eql 0 (.t 33) (.t 34)), (some (24, true))⟩, ⟨(some 36), (.pick (.t 24) (.t 35) (.k (.v (.c (.p (.bool false)))))), none⟩] []) (.cond (.t 36) (.seq (.reg [⟨(some 37), (.mv (.t 0)), none⟩, ⟨(some 38), (.nilck (.t 37)), none⟩, ⟨(some 39), (.faddr 1 (.t 38)), none⟩, ⟨(some 40), (.load false 1 (.t 39)), none⟩, ⟨(some 41), (.bin .add 0 (.t 40) (.k (.v (.c (.p (.int .i64 1)))))), none⟩, ⟨(some 42), (.nilck (.t 37)), none⟩, ⟨(some 43), (.faddr 1 (.t 42)), none⟩, ⟨none, (.store 1 (.t 43) (.t 41)), none⟩] []) (.seq (.reg [⟨(some 4), (.mv (.k (.v (.c (.p (.bool true)))))), none⟩] []) .ret)) .skip)) (.seq (.reg [⟨(some 4), (.mv (.k (.v (.c (.p (.bool false)))))), none⟩] []) .ret)))) }
theorem t111 : compF Tryd.prog (globs2 tabs opq) false true Tryd.f111 = some c111.erase := by kernel_rfl
noncomputable def b111_0 (O : Oracle) (R : Jump) (q : Nat) (x0 x1 : TVal) (h : Heap) : Res1 :=
  vcall O (.v (.c (.func 51 []))) [x0] h 6 fun x6 h =>
  vop O (.nilck (.k x0)) h 8 fun x8 h =>
  vfaddr 2 x8 h fun x9 h =>
  vload false 1 x9 h fun x10 h =>
  vbin .eql 0 x10 (kI 0) h fun x11 h =>
  vguard x11 true (fun kk => kk x0 h) h fun x13 h =>
  vguard x11 true (fun kk => vop O (.nilck (.k x13)) h 14 kk) h fun x14 h =>
  vguard x11 true (fun kk => vfaddr 1 x14 h kk) h fun x15 h =>
  vguard x11 true (fun kk => vload false 1 x15 h kk) h fun x16 h =>
  vguard x11 true (fun kk => kk x0 h) h fun x17 h =>
  vguard x11 true (fun kk => vop O (.nilck (.k x17)) h 18 kk) h fun x18 h =>
  vguard x11 true (fun kk => vfaddr 0 x18 h kk) h fun x19 h =>
  vguard x11 true (fun kk => vload false 1 x19 h kk) h fun x20 h =>
  vguard x11 true (fun kk => vlen O 0 x20 h 21 kk) h fun x21 h =>
  vguard x11 true (fun kk => vbin .lss 0 x16 x21 h kk) h fun x22 h =>
  vop O (.pick (.k x11) (.k x22) (.k (kB false))) h 23 fun x23 h =>
  vguard x23 true (fun kk => kk x0 h) h fun x25 h =>
  vguard x23 true (fun kk => vop O (.nilck (.k x25)) h 26 kk) h fun x26 h =>
  vguard x23 true (fun kk => vfaddr 0 x26 h kk) h fun x27 h =>
  vguard x23 true (fun kk => vload false 1 x27 h kk) h fun x28 h =>
  vguard x23 true (fun kk => kk x0 h) h fun x29 h =>
  vguard x23 true (fun kk => vop O (.nilck (.k x29)) h 30 kk) h fun x30 h =>
  vguard x23 true (fun kk => vfaddr 1 x30 h kk) h fun x31 h =>
  vguard x23 true (fun kk => vload false 1 x31 h kk) h fun x32 h =>
  vguard x23 true (fun kk => vindex x28 x32 h kk) h fun x33 h =>
  vguard x23 true (fun kk => kk x1 h) h fun x34 h =>
  vguard x23 true (fun kk => vbin .eql 0 x33 x34 h kk) h fun x35 h =>
  vop O (.pick (.k x23) (.k x35) (.k (kB false))) h 36 fun x36 h =>
  vif x36 (
  vop O (.nilck (.k x0)) h 38 fun x38 h =>
  vfaddr 1 x38 h fun x39 h =>
  vload false 1 x39 h fun x40 h =>
  vbin .add 0 x40 (kI 1) h fun x41 h =>
  vop O (.nilck (.k x0)) h 42 fun x42 h =>
  vfaddr 1 x42 h fun x43 h =>
  vstore 1 x43 x41 h fun _ h =>
  tcomp (kB true) fun c0 => vfin true q [c0] h)
  (tcomp (kB false) fun c0 => vfin true q [c0] h)
theorem e111_0 (O : Oracle) (R : Jump) (q : Nat) (x0 x1 : TVal) (h : Heap) : b111_0 O R q x0 x1 h = stepF c111 O R q 0 [x0, x1] h := by kernel_rfl
noncomputable def d111 : BlkF := fun O R q => [.s fun y0 => .s fun y1 => .z fun h => b111_0 O R q y0 y1 h]
theorem o111 (O : Oracle) (R : Jump) (q : Nat) : HoldsAll c111 O R q 0 (d111 O R q) := ⟨fun y0 y1 h => e111_0 O R q y0 y1 h, trivial⟩
/- sprue/sprueref13.clean -/
def c112 : MFunc := { np := 1, res := [.t 2], frz := true, body := (.seq (.reg [⟨(some 1), (.box (.t 0) false), none⟩, ⟨(some 2), (.mv (.k (.v (.c (.p (.bool false)))))), none⟩] []) (.seq (.reg [⟨(some 4), (.faddr 0 (.t 1)), none⟩, ⟨(some 5), (.load false 1 (.t 4)), none⟩, ⟨(some 3), (.mv (.t 5)), none⟩] []) (.seq (.seq (.reg [⟨(some 6), (.mv (.t 3)), none⟩, ⟨(some 7), (.bin .lss 0 (.t 6) (.k (.v (.c (.p (.int .i64 0)))))), none⟩, ⟨(some 8), (.mv (.t 7)), none⟩, ⟨(some 9), (.mv (.t 3)), (some (8, false))⟩, ⟨(some 10), (.bin .gtr 0 (.t 9) (.k (.v (.c (.p (.int .i64 5)))))), (some (8, false))⟩, ⟨(some 11), (.pick (.t 8) (.k (.v (.c (.p (.bool true))))) (.t 10)), none⟩] []) (.cond (.t 11) (.seq (.reg [⟨(some 2), (.mv (.k (.v (.c (.p (.bool false)))))), none⟩] []) .ret) .skip)) (.seq (.reg [⟨(some 12), (.mv (.t 3)), none⟩, ⟨(some 13), (.bin .eql 0 (.t 12) (.k (.v (.c (.p (.int .i64 1)))))), none⟩, ⟨(some 14), (.mv (.t 13)), none⟩, ⟨(some 15), (.faddr 1 (.t 1)), (some (14, false))⟩, ⟨(some 16), (.load false 1 (.t 15)), (some (14, false))⟩, ⟨(some 17), (.un .not (.t 16)), (some (14, false))⟩, ⟨(some 18), (.pick (.t 14) (.k (.v (.c (.p (.bool true))))) (.t 17)), none⟩, ⟨(some 19), (.mv (.t 18)), none⟩, ⟨(some 20), (.mv (.t 3)), (some (19, true))⟩, ⟨(some 21), (.bin .eql 0 (.t 20) (.k (.v (.c (.p (.int .i64 2)))))), (some (19, true))⟩, ⟨(some 22), (.mv (.t 21)), (some (19, true))⟩, ⟨(some 23), (.faddr 2 (.t 1)), (some (22, false))⟩, ⟨(some 24), (.load false 1 (.t 23)), (some (22, false))⟩, ⟨(some 25), (.bin .eql 0 (.t 24) (.k (.v (.c (.p (.int .i64 0)))))), (some (22, false))⟩, ⟨(some 26), (.pick (.t 22) (.k (.v (.c (.p (.bool true))))) (.t 25)), (some (19, true))⟩, ⟨(some 27), (.pick (.t 19) (.t 26) (.k (.v (.c (.p (.bool false)))))), none⟩, ⟨(some 28), (.mv (.t 27)), none⟩, ⟨(some 29), (.mv (.t 3)), (some (28, true))⟩, ⟨(some 30), (.bin .eql 0 (.t 29) (.k (.v (.c (.p (.int .i64 3)))))), (some (28, true))⟩, ⟨(some 31), (.mv (.t 30)), (some (28, true))⟩, ⟨(some 32), (.faddr 3 (.t 1)), (some (31, false))⟩, ⟨(some 33), (.load false 1 (.t 32)), (some (31, false))⟩, ⟨(some 34), (.bin .eql 0 (.t 33) (.k (.v (.c (.p (.str [])))))), (some (31, false))⟩, ⟨(some 35), (.pick (.t 31) (.k (.v (.c (.p (.bool true))))) (.t 34)), (some (28, true))⟩, ⟨(some 36), (.pick (.t 28) (.t 35) (.k (.v (.c (.p (.bool false)))))), none⟩, ⟨(some 37), (.mv (.t 36)), none⟩, ⟨(some 38), (.mv (.t 3)), (some (37, true))⟩, ⟨(some 39), (.bin .geq 0 (.t 38) (.k (.v (.c (.p (.int .i64 4)))))), (some (37, true))⟩, ⟨(some 40), (.mv (.t 39)), (some (37, true))⟩, ⟨(some 41), (.faddr 5 (.t 1)), (some (40, false))⟩, ⟨(some 42), (.load false 1 (.t 41)), (some (40, false))⟩, ⟨(some 43), (.len 2 (.t 42)), (some (40, false))⟩, ⟨(some 44), (.bin .eql 0 (.t 43) (.k (.v (.c (.p (.int .i64 0)))))), (some (40, false))⟩, ⟨(some 45), (.pick (.t 40) (.k (.v (.c (.p (.bool true))))) (.t 44)), (some (37, true))⟩, ⟨(some 46), (.pick (.t 37) (.t 45) (.k (.v (.c (.p (.bool false)))))), none⟩, ⟨(some 47), (.mv (.t 46)), none⟩, ⟨(some 48), (.mv (.t 3)), (some (47, true))⟩, ⟨(some 49), (.bin .eql 0 (.t 48) (.k (.v (.c (.p (.int .i64 5)))))), (some (47, true))⟩, ⟨(some 50), (.mv (.t 49)), (some (47, true))⟩, ⟨(some 51), (.faddr 4 (.t 1)), (some (50, true))⟩, ⟨(some 52), (.load false 1 (.t 51)), (some (50, true))⟩, ⟨(some 53), (.len 2 (.t 52)), (some (50, true))⟩, ⟨(some 54), (.faddr 5 (.t 1)), (some (50, true))⟩, ⟨(some 55), (.load false 1 (.t 54)), (some (50, true))⟩, ⟨(some 56), (.len 2 (.t 55)), (some (50, true))⟩, ⟨(some 57), (.bin .eql 0 (.t 53) (.t 56)), (some (50, true))⟩, ⟨(some 58), (.pick (.t 50) (.t 57) (.k (.v (.c (.p (.bool false)))))), (some (47, true))⟩, ⟨(some 59), (.mv (.t 58)), (some (47, true))⟩, ⟨(some 60), (.mv (.t 3)), (some (59, false))⟩, ⟨(some 61), (.bin .neq 0 (.t 60) (.k (.v (.c (.p (.int .i64 5)))))), (some (59, false))⟩, ⟨(some 62), (.mv (.t 61)), (some (59, false))⟩, ⟨(some 63), (.faddr 4 (.t 1)), (some (62, true))⟩, ⟨(some 64), (.load false 1 (.t 63)), (some (62, true))⟩, ⟨(some 65), (.len 2 (.t 64)), (some (62, true))⟩, ⟨(some 66), (.bin .eql 0 (.t 65) (.k (.v (.c (.p (.int .i64 0)))))), (some (62, true))⟩, ⟨(some 67), (.pick (.t 62) (.t 66) (.k (.v (.c (.p (.bool false)))))), (some (59, false))⟩, ⟨(some 68), (.pick (.t 59) (.k (.v (.c (.p (.bool true))))) (.t 67)), (some (47, true))⟩, ⟨(some 69), (.pick (.t 47) (.t 68) (.k (.v (.c (.p (.bool false)))))), none⟩, ⟨(some 2), (.mv (.t 69)), none⟩] []) .ret)))) }
theorem t112 : compF Tryd.prog (globs2 tabs opq) false true Tryd.f112 = some c112.erase := by kernel_rfl
noncomputable def b112_0 (O : Oracle) (R : Jump) (q : Nat) (x0 : TVal) (h : Heap) : Res1 :=
  vop O (.box (.k x0) false) h 1 fun x1 h =>
  vfaddr 0 x1 h fun x4 h =>
  vload false 1 x4 h fun x5 h =>
  vbin .lss 0 x5 (kI 0) h fun x7 h =>
  vguard x7 false (fun kk => kk x5 h) h fun x9 h =>
  vguard x7 false (fun kk => vbin .gtr 0 x9 (kI 5) h kk) h fun x10 h =>
  vop O (.pick (.k x7) (.k (kB true)) (.k x10)) h 11 fun x11 h =>
  vif x11 (
  tcomp (kB false) fun c0 => vfin true q [c0] h)
  (vbin .eql 0 x5 (kI 1) h fun x13 h =>
  vguard x13 false (fun kk => vfaddr 1 x1 h kk) h fun x15 h =>
  vguard x13 false (fun kk => vload false 1 x15 h kk) h fun x16 h =>
  vguard x13 false (fun kk => vop O (.un .not (.k x16)) h 17 kk) h fun x17 h =>
  vop O (.pick (.k x13) (.k (kB true)) (.k x17)) h 18 fun x18 h =>
  vguard x18 true (fun kk => kk x5 h) h fun x20 h =>
  vguard x18 true (fun kk => vbin .eql 0 x20 (kI 2) h kk) h fun x21 h =>
  vguard x18 true (fun kk => kk x21 h) h fun x22 h =>
  vguard x22 false (fun kk => vfaddr 2 x1 h kk) h fun x23 h =>
  vguard x22 false (fun kk => vload false 1 x23 h kk) h fun x24 h =>
  vguard x22 false (fun kk => vbin .eql 0 x24 (kI 0) h kk) h fun x25 h =>
  vguard x18 true (fun kk => vop O (.pick (.k x22) (.k (kB true)) (.k x25)) h 26 kk) h fun x26 h =>
  vop O (.pick (.k x18) (.k x26) (.k (kB false))) h 27 fun x27 h =>
  vguard x27 true (fun kk => kk x5 h) h fun x29 h =>
  vguard x27 true (fun kk => vbin .eql 0 x29 (kI 3) h kk) h fun x30 h =>
  vguard x27 true (fun kk => kk x30 h) h fun x31 h =>
  vguard x31 false (fun kk => vfaddr 3 x1 h kk) h fun x32 h =>
  vguard x31 false (fun kk => vload false 1 x32 h kk) h fun x33 h =>
  vguard x31 false (fun kk => vbin .eql 0 x33 (kS []) h kk) h fun x34 h =>
  vguard x27 true (fun kk => vop O (.pick (.k x31) (.k (kB true)) (.k x34)) h 35 kk) h fun x35 h =>
  vop O (.pick (.k x27) (.k x35) (.k (kB false))) h 36 fun x36 h =>
  vguard x36 true (fun kk => kk x5 h) h fun x38 h =>
  vguard x36 true (fun kk => vbin .geq 0 x38 (kI 4) h kk) h fun x39 h =>
  vguard x36 true (fun kk => kk x39 h) h fun x40 h =>
  vguard x40 false (fun kk => vfaddr 5 x1 h kk) h fun x41 h =>
  vguard x40 false (fun kk => vload false 1 x41 h kk) h fun x42 h =>
  vguard x40 false (fun kk => vlen O 2 x42 h 43 kk) h fun x43 h =>
  vguard x40 false (fun kk => vbin .eql 0 x43 (kI 0) h kk) h fun x44 h =>
  vguard x36 true (fun kk => vop O (.pick (.k x40) (.k (kB true)) (.k x44)) h 45 kk) h fun x45 h =>
  vop O (.pick (.k x36) (.k x45) (.k (kB false))) h 46 fun x46 h =>
  vguard x46 true (fun kk => kk x5 h) h fun x48 h =>
  vguard x46 true (fun kk => vbin .eql 0 x48 (kI 5) h kk) h fun x49 h =>
  vguard x46 true (fun kk => kk x49 h) h fun x50 h =>
  vguard x50 true (fun kk => vfaddr 4 x1 h kk) h fun x51 h =>
  vguard x50 true (fun kk => vload false 1 x51 h kk) h fun x52 h =>
  vguard x50 true (fun kk => vlen O 2 x52 h 53 kk) h fun x53 h =>
  vguard x50 true (fun kk => vfaddr 5 x1 h kk) h fun x54 h =>
  vguard x50 true (fun kk => vload false 1 x54 h kk) h fun x55 h =>
  vguard x50 true (fun kk => vlen O 2 x55 h 56 kk) h fun x56 h =>
  vguard x50 true (fun kk => vbin .eql 0 x53 x56 h kk) h fun x57 h =>
  vguard x46 true (fun kk => vop O (.pick (.k x50) (.k x57) (.k (kB false))) h 58 kk) h fun x58 h =>
  vguard x46 true (fun kk => kk x58 h) h fun x59 h =>
  vguard x59 false (fun kk => kk x5 h) h fun x60 h =>
  vguard x59 false (fun kk => vbin .neq 0 x60 (kI 5) h kk) h fun x61 h =>
  vguard x59 false (fun kk => kk x61 h) h fun x62 h =>
  vguard x62 true (fun kk => vfaddr 4 x1 h kk) h fun x63 h =>
  vguard x62 true (fun kk => vload false 1 x63 h kk) h fun x64 h =>
  vguard x62 true (fun kk => vlen O 2 x64 h 65 kk) h fun x65 h =>
  vguard x62 true (fun kk => vbin .eql 0 x65 (kI 0) h kk) h fun x66 h =>
  vguard x59 false (fun kk => vop O (.pick (.k x62) (.k x66) (.k (kB false))) h 67 kk) h fun x67 h =>
  vguard x46 true (fun kk => vop O (.pick (.k x59) (.k (kB true)) (.k x67)) h 68 kk) h fun x68 h =>
  vop O (.pick (.k x46) (.k x68) (.k (kB false))) h 69 fun x69 h =>
  tcomp x69 fun c0 => vfin true q [c0] h)
theorem e112_0 (O : Oracle) (R : Jump) (q : Nat) (x0 : TVal) (h : Heap) : b112_0 O R q x0 h = stepF c112 O R q 0 [x0] h := by kernel_rfl
noncomputable def d112 : BlkF := fun O R q => [.s fun y0 => .z fun h => b112_0 O R q y0 h]
theorem o112 (O : Oracle) (R : Jump) (q : Nat) : HoldsAll c112 O R q 0 (d112 O R q) := ⟨fun y0 h => e112_0 O R q y0 h, trivial⟩
/- sprue/sprueref7.decimal -/
def c113 : MFunc := { np := 1, res := [.t 2], frz := true, body := (.seq (.reg [⟨(some 2), (.mv (.k (.v (.c (.p (.str [])))))), none⟩] []) (.seq (.seq (.reg [⟨(some 3), (.mv (.t 0)), none⟩, ⟨(some 4), (.bin .lss 0 (.t 3) (.k (.v (.c (.p (.int .i64 0)))))), none⟩] []) (.cond (.t 4) (.seq (.seq (.reg [⟨(some 5), (.mv (.t 0)), none⟩, ⟨(some 6), (.bin .eql 0 (.t 5) (.k (.v (.c (.p (.int .i64 (-9223372036854775808))))))), none⟩] []) (.cond (.t 6) (.seq (.reg [⟨(some 2), (.mv (.k (.v (.c (.p (.str [45, 57, 50, 50, 51, 51, 55, 50, 48, 51, 54, 56, 53, 52, 55, 55, 53, 56, 48, 56])))))), none⟩] []) .ret) .skip)) (.seq (.reg [⟨(some 7), (.mv (.t 0)), none⟩, ⟨(some 8), (.bin .sub 0 (.k (.v (.c (.p (.int .i64 0))))) (.t 7)), none⟩, ⟨(some 9), (.call (.k (.v (.c (.func 113 [])))) [(.t 8)]), none⟩, ⟨(some 10), (.bin .add 0 (.k (.v (.c (.p (.str [45]))))) (.t 9)), none⟩, ⟨(some 2), (.mv (.t 10)), none⟩] []) .ret)) .skip)) (.seq (.seq (.reg [⟨(some 11), (.mv (.t 0)), none⟩, ⟨(some 12), (.bin .geq 0 (.t 11) (.k (.v (.c (.p (.int .i64 10)))))), none⟩] []) (.cond (.t 12) (.seq (.reg [⟨(some 13), (.mv (.t 0)), none⟩, ⟨(some 14), (.bin .quo 0 (.t 13) (.k (.v (.c (.p (.int .i64 10)))))), none⟩, ⟨(some 15), (.call (.k (.v (.c (.func 113 [])))) [(.t 14)]), none⟩, ⟨(some 16), (.mv (.t 0)), none⟩, ⟨(some 17), (.bin .rem 0 (.t 16) (.k (.v (.c (.p (.int .i64 10)))))), none⟩, ⟨(some 18), (.call (.k (.v (.c (.func 113 [])))) [(.t 17)]), none⟩, ⟨(some 19), (.bin .add 0 (.t 15) (.t 18)), none⟩, ⟨(some 2), (.mv (.t 19)), none⟩] []) .ret) .skip)) (.seq (.reg [⟨(some 20), (.mv (.t 0)), none⟩, ⟨(some 21), (.bin .add 0 (.k (.v (.c (.p (.int .i64 48))))) (.t 20)), none⟩, ⟨(some 22), (.toInt .u8 (.t 21)), none⟩, ⟨(some 23), (.bslice 1 1 [(.p (.int .u8 0))] [(0, (.t 22))] false), none⟩, ⟨(some 24), (.toStr (.t 23)), none⟩, ⟨(some 2), (.mv (.t 24)), none⟩] []) .ret)))) }
theorem t113 : compF Tryd.prog (globs2 tabs opq) false true Tryd.f113 = some c113.erase := by kernel_rfl
noncomputable def b113_0 (O : Oracle) (R : Jump) (q : Nat) (x0 : TVal) (h : Heap) : Res1 :=
  vbin .lss 0 x0 (kI 0) h fun x4 h =>
  vif x4 (
  vbin .eql 0 x0 (kI (-9223372036854775808)) h fun x6 h =>
  vif x6 (
  tcomp (kS [45, 57, 50, 50, 51, 51, 55, 50, 48, 51, 54, 56, 53, 52, 55, 55, 53, 56, 48, 56]) fun c0 => vfin true q [c0] h)
  (vbin .sub 0 (kI 0) x0 h fun x8 h =>
  vcall O (.v (.c (.func 113 []))) [x8] h 9 fun x9 h =>
  vbin .add 0 (kS [45]) x9 h fun x10 h =>
  tcomp x10 fun c0 => vfin true q [c0] h))
  (vbin .geq 0 x0 (kI 10) h fun x12 h =>
  vif x12 (
  vbin .quo 0 x0 (kI 10) h fun x14 h =>
  vcall O (.v (.c (.func 113 []))) [x14] h 15 fun x15 h =>
  vbin .rem 0 x0 (kI 10) h fun x17 h =>
  vcall O (.v (.c (.func 113 []))) [x17] h 18 fun x18 h =>
  vbin .add 0 x15 x18 h fun x19 h =>
  tcomp x19 fun c0 => vfin true q [c0] h)
  (vbin .add 0 (kI 48) x0 h fun x21 h =>
  vtoInt .u8 x21 h fun x22 h =>
  vop O (.bslice 1 1 [(.p (.int .u8 0))] [(0, (.k x22))] false) h 23 fun x23 h =>
  vop O (.toStr (.k x23)) h 24 fun x24 h =>
  tcomp x24 fun c0 => vfin true q [c0] h))
theorem e113_0 (O : Oracle) (R : Jump) (q : Nat) (x0 : TVal) (h : Heap) : b113_0 O R q x0 h = stepF c113 O R q 0 [x0] h := by kernel_rfl
noncomputable def d113 : BlkF := fun O R q => [.s fun y0 => .z fun h => b113_0 O R q y0 h]
theorem o113 (O : Oracle) (R : Jump) (q : Nat) : HoldsAll c113 O R q 0 (d113 O R q) := ⟨fun y0 h => e113_0 O R q y0 h, trivial⟩
/- internal/strconv.small -/
def c118 : MFunc := { np := 1, res := [.t 2], frz := true, body := (.seq (.reg [⟨(some 2), (.mv (.k (.v (.c (.p (.str [])))))), none⟩] []) (.seq (.seq (.reg [⟨(some 3), (.mv (.t 0)), none⟩, ⟨(some 4), (.bin .lss 0 (.t 3) (.k (.v (.c (.p (.int .i64 10)))))), none⟩] []) (.cond (.t 4) (.seq (.reg [⟨(some 5), (.mv (.t 0)), none⟩, ⟨(some 6), (.mv (.t 0)), none⟩, ⟨(some 7), (.bin .add 0 (.t 6) (.k (.v (.c (.p (.int .i64 1)))))), none⟩, ⟨(some 8), (.slice 0 true (.k (.v (.c (.p (.str [48, 49, 50, 51, 52, 53, 54, 55, 56, 57, 97, 98, 99, 100, 101, 102, 103, 104, 105, 106, 107, 108, 109, 110, 111, 112, 113, 114, 115, 116, 117, 118, 119, 120, 121, 122]))))) (some (.t 5)) (some (.t 7)) none), none⟩, ⟨(some 2), (.mv (.t 8)), none⟩] []) .ret) .skip)) (.seq (.reg [⟨(some 9), (.mv (.t 0)), none⟩, ⟨(some 10), (.bin .mul 0 (.t 9) (.k (.v (.c (.p (.int .i64 2)))))), none⟩, ⟨(some 11), (.mv (.t 0)), none⟩, ⟨(some 12), (.bin .mul 0 (.t 11) (.k (.v (.c (.p (.int .i64 2)))))), none⟩, ⟨(some 13), (.bin .add 0 (.t 12) (.k (.v (.c (.p (.int .i64 2)))))), none⟩, ⟨(some 14), (.slice 0 true (.k (.v (.c (.p (.str [48, 48, 48, 49, 48, 50, 48, 51, 48, 52, 48, 53, 48, 54, 48, 55, 48, 56, 48, 57, 49, 48, 49, 49, 49, 50, 49, 51, 49, 52, 49, 53, 49, 54, 49, 55, 49, 56, 49, 57, 50, 48, 50, 49, 50, 50, 50, 51, 50, 52, 50, 53, 50, 54, 50, 55, 50, 56, 50, 57, 51, 48, 51, 49, 51, 50, 51, 51, 51, 52, 51, 53, 51, 54, 51, 55, 51, 56, 51, 57, 52, 48, 52, 49, 52, 50, 52, 51, 52, 52, 52, 53, 52, 54, 52, 55, 52, 56, 52, 57, 53, 48, 53, 49, 53, 50, 53, 51, 53, 52, 53, 53, 53, 54, 53, 55, 53, 56, 53, 57, 54, 48, 54, 49, 54, 50, 54, 51, 54, 52, 54, 53, 54, 54, 54, 55, 54, 56, 54, 57, 55, 48, 55, 49, 55, 50, 55, 51, 55, 52, 55, 53, 55, 54, 55, 55, 55, 56, 55, 57, 56, 48, 56, 49, 56, 50, 56, 51, 56, 52, 56, 53, 56, 54, 56, 55, 56, 56, 56, 57, 57, 48, 57, 49, 57, 50, 57, 51, 57, 52, 57, 53, 57, 54, 57, 55, 57, 56, 57, 57]))))) (some (.t 10)) (some (.t 13)) none), none⟩, ⟨(some 2), (.mv (.t 14)), none⟩] []) .ret))) }
theorem t118 : compF Tryd.prog (globs2 tabs opq) false true Tryd.f118 = some c118.erase := by kernel_rfl
noncomputable def b118_0 (O : Oracle) (R : Jump) (q : Nat) (x0 : TVal) (h : Heap) : Res1 :=
  vbin .lss 0 x0 (kI 10) h fun x4 h =>
  vif x4 (
  vbin .add 0 x0 (kI 1) h fun x7 h =>
  vop O (.slice 0 true (.k (kS [48, 49, 50, 51, 52, 53, 54, 55, 56, 57, 97, 98, 99, 100, 101, 102, 103, 104, 105, 106, 107, 108, 109, 110, 111, 112, 113, 114, 115, 116, 117, 118, 119, 120, 121, 122])) (some (.k x0)) (some (.k x7)) none) h 8 fun x8 h =>
  tcomp x8 fun c0 => vfin true q [c0] h)
  (vbin .mul 0 x0 (kI 2) h fun x10 h =>
  vbin .mul 0 x0 (kI 2) h fun x12 h =>
  vbin .add 0 x12 (kI 2) h fun x13 h =>
  vop O (.slice 0 true (.k (kS [48, 48, 48, 49, 48, 50, 48, 51, 48, 52, 48, 53, 48, 54, 48, 55, 48, 56, 48, 57, 49, 48, 49, 49, 49, 50, 49, 51, 49, 52, 49, 53, 49, 54, 49, 55, 49, 56, 49, 57, 50, 48, 50, 49, 50, 50, 50, 51, 50, 52, 50, 53, 50, 54, 50, 55, 50, 56, 50, 57, 51, 48, 51, 49, 51, 50, 51, 51, 51, 52, 51, 53, 51, 54, 51, 55, 51, 56, 51, 57, 52, 48, 52, 49, 52, 50, 52, 51, 52, 52, 52, 53, 52, 54, 52, 55, 52, 56, 52, 57, 53, 48, 53, 49, 53, 50, 53, 51, 53, 52, 53, 53, 53, 54, 53, 55, 53, 56, 53, 57, 54, 48, 54, 49, 54, 50, 54, 51, 54, 52, 54, 53, 54, 54, 54, 55, 54, 56, 54, 57, 55, 48, 55, 49, 55, 50, 55, 51, 55, 52, 55, 53, 55, 54, 55, 55, 55, 56, 55, 57, 56, 48, 56, 49, 56, 50, 56, 51, 56, 52, 56, 53, 56, 54, 56, 55, 56, 56, 56, 57, 57, 48, 57, 49, 57, 50, 57, 51, 57, 52, 57, 53, 57, 54, 57, 55, 57, 56, 57, 57])) (some (.k x10)) (some (.k x13)) none) h 14 fun x14 h =>
  tcomp x14 fun c0 => vfin true q [c0] h)
theorem e118_0 (O : Oracle) (R : Jump) (q : Nat) (x0 : TVal) (h : Heap) : b118_0 O R q x0 h = stepF c118 O R q 0 [x0] h := by kernel_rfl
noncomputable def d118 : BlkF := fun O R q => [.s fun y0 => .z fun h => b118_0 O R q y0 h]
theorem o118 (O : Oracle) (R : Jump) (q : Nat) : HoldsAll c118 O R q 0 (d118 O R q) := ⟨fun y0 h => e118_0 O R q y0 h, trivial⟩
/- internal/strconv.numDigits -/
def c119 : MFunc := { np := 1, res := [.t 2], frz := true, body := (.seq (.reg [⟨(some 2), (.mv (.k (.v (.c (.p (.int .i64 0)))))), none⟩] []) (.seq (.reg [⟨(some 4), (.mv (.t 0)), none⟩, ⟨(some 5), (.call (.k (.v (.c (.func 128 [])))) [(.t 4)]), none⟩, ⟨(some 6), (.call (.k (.v (.c (.func 127 [])))) [(.t 5)]), none⟩, ⟨(some 3), (.mv (.t 6)), none⟩] []) (.seq (.reg [⟨(some 7), (.mv (.t 3)), none⟩, ⟨(some 8), (.mv (.t 0)), none⟩, ⟨(some 9), (.mv (.t 3)), none⟩, ⟨(some 10), .bad, none⟩, ⟨(some 11), (.load false 1 (.t 10)), none⟩, ⟨(some 12), (.bin .geq 0 (.t 8) (.t 11)), none⟩, ⟨(some 13), (.call (.k (.v (.c (.func 129 [])))) [(.t 12)]), none⟩, ⟨(some 14), (.bin .add 0 (.t 7) (.t 13)), none⟩, ⟨(some 2), (.mv (.t 14)), none⟩] []) .ret))) }
theorem t119 : compF Tryd.prog (globs2 tabs opq) false true Tryd.f119 = some c119.erase := by kernel_rfl
noncomputable def b119_0 (O : Oracle) (R : Jump) (q : Nat) (x0 : TVal) (h : Heap) : Res1 :=
  vcall O (.v (.c (.func 128 []))) [x0] h 5 fun x5 h =>
  vcall O (.v (.c (.func 127 []))) [x5] h 6 fun x6 h =>
  none
theorem e119_0 (O : Oracle) (R : Jump) (q : Nat) (x0 : TVal) (h : Heap) : b119_0 O R q x0 h = stepF c119 O R q 0 [x0] h := by kernel_rfl
noncomputable def d119 : BlkF := fun O R q => [.s fun y0 => .z fun h => b119_0 O R q y0 h]
theorem o119 (O : Oracle) (R : Jump) (q : Nat) : HoldsAll c119 O R q 0 (d119 O R q) := ⟨fun y0 h => e119_0 O R q y0 h, trivial⟩
/- internal/strconv.formatBase10 -/
def c120 : MFunc := { np := 2, res := [], frz := true, body := (.seq (.reg [⟨(some 17), (.mv (.t 0)), none⟩, ⟨(some 18), (.len 2 (.t 17)), none⟩, ⟨(some 4), (.mv (.t 18)), none⟩] []) (.seq (.block 0 (.loop 1 [0, 1, 4] (.seq (.seq (.reg [⟨(some 19), (.mv (.t 4)), none⟩, ⟨(some 20), (.bin .geq 0 (.t 19) (.k (.v (.c (.p (.int .i64 8)))))), none⟩] []) (.cond (.t 20) .skip (.exit 0))) (.block 1 (.seq (.reg [⟨(some 21), (.mv (.t 1)), none⟩, ⟨(some 22), (.bin .rem 0 (.t 21) (.k (.v (.c (.p (.int .u64 100000000)))))), none⟩, ⟨(some 23), (.toInt .u32 (.t 22)), none⟩, ⟨(some 5), (.mv (.t 23)), none⟩] []) (.seq (.reg [⟨(some 24), (.mv (.t 1)), none⟩, ⟨(some 25), (.bin .quo 0 (.t 24) (.k (.v (.c (.p (.int .u64 100000000)))))), none⟩, ⟨(some 1), (.mv (.t 25)), none⟩] []) (.seq (.reg [⟨(some 26), (.mv (.t 5)), none⟩, ⟨(some 27), (.bin .quo 0 (.t 26) (.k (.v (.c (.p (.int .u32 10000)))))), none⟩, ⟨(some 28), (.mv (.t 5)), none⟩, ⟨(some 29), (.bin .rem 0 (.t 28) (.k (.v (.c (.p (.int .u32 10000)))))), none⟩, ⟨(some 6), (.mv (.t 27)), none⟩, ⟨(some 7), (.mv (.t 29)), none⟩] []) (.seq (.reg [⟨(some 30), (.mv (.t 7)), none⟩, ⟨(some 31), (.bin .quo 0 (.t 30) (.k (.v (.c (.p (.int .u32 100)))))), none⟩, ⟨(some 32), (.bin .mul 0 (.t 31) (.k (.v (.c (.p (.int .u32 2)))))), none⟩, ⟨(some 33), (.mv (.t 7)), none⟩, ⟨(some 34), (.bin .rem 0 (.t 33) (.k (.v (.c (.p (.int .u32 100)))))), none⟩, ⟨(some 35), (.bin .mul 0 (.t 34) (.k (.v (.c (.p (.int .u32 2)))))), none⟩, ⟨(some 8), (.mv (.t 32)), none⟩, ⟨(some 9), (.mv (.t 35)), none⟩] []) (.seq (.reg [⟨(some 36), (.mv (.t 6)), none⟩, ⟨(some 37), (.bin .quo 0 (.t 36) (.k (.v (.c (.p (.int .u32 100)))))), none⟩, ⟨(some 38), (.bin .mul 0 (.t 37) (.k (.v (.c (.p (.int .u32 2)))))), none⟩, ⟨(some 39), (.mv (.t 6)), none⟩, ⟨(some 40), (.bin .rem 0 (.t 39) (.k (.v (.c (.p (.int .u32 100)))))), none⟩, ⟨(some 41), (.bin .mul 0 (.t 40) (.k (.v (.c (.p (.int .u32 2)))))), none⟩, ⟨(some 10), (.mv (.t 38)), none⟩, ⟨(some 11), (.mv (.t 41)), none⟩] []) (.seq (.reg [⟨(some 42), (.mv (.t 0)), none⟩, ⟨(some 43), (.mv (.t 4)), none⟩, ⟨(some 44), (.bin .sub 0 (.t 43) (.k (.v (.c (.p (.int .i64 1)))))), none⟩, ⟨(some 45), (.mv (.t 0)), none⟩, ⟨(some 46), (.mv (.t 4)), none⟩, ⟨(some 47), (.bin .sub 0 (.t 46) (.k (.v (.c (.p (.int .i64 2)))))), none⟩, ⟨(some 48), (.mv (.t 9)), none⟩, ⟨(some 49), (.bin .add 0 (.t 48) (.k (.v (.c (.p (.int .u32 1)))))), none⟩, ⟨(some 50), (.index (.k (.v (.c (.p (.str [48, 48, 48, 49, 48, 50, 48, 51, 48, 52, 48, 53, 48, 54, 48, 55, 48, 56, 48, 57, 49, 48, 49, 49, 49, 50, 49, 51, 49, 52, 49, 53, 49, 54, 49, 55, 49, 56, 49, 57, 50, 48, 50, 49, 50, 50, 50, 51, 50, 52, 50, 53, 50, 54, 50, 55, 50, 56, 50, 57, 51, 48, 51, 49, 51, 50, 51, 51, 51, 52, 51, 53, 51, 54, 51, 55, 51, 56, 51, 57, 52, 48, 52, 49, 52, 50, 52, 51, 52, 52, 52, 53, 52, 54, 52, 55, 52, 56, 52, 57, 53, 48, 53, 49, 53, 50, 53, 51, 53, 52, 53, 53, 53, 54, 53, 55, 53, 56, 53, 57, 54, 48, 54, 49, 54, 50, 54, 51, 54, 52, 54, 53, 54, 54, 54, 55, 54, 56, 54, 57, 55, 48, 55, 49, 55, 50, 55, 51, 55, 52, 55, 53, 55, 54, 55, 55, 55, 56, 55, 57, 56, 48, 56, 49, 56, 50, 56, 51, 56, 52, 56, 53, 56, 54, 56, 55, 56, 56, 56, 57, 57, 48, 57, 49, 57, 50, 57, 51, 57, 52, 57, 53, 57, 54, 57, 55, 57, 56, 57, 57]))))) (.t 49)), none⟩, ⟨(some 51), (.mv (.t 9)), none⟩, ⟨(some 52), (.index (.k (.v (.c (.p (.str [48, 48, 48, 49, 48, 50, 48, 51, 48, 52, 48, 53, 48, 54, 48, 55, 48, 56, 48, 57, 49, 48, 49, 49, 49, 50, 49, 51, 49, 52, 49, 53, 49, 54, 49, 55, 49, 56, 49, 57, 50, 48, 50, 49, 50, 50, 50, 51, 50, 52, 50, 53, 50, 54, 50, 55, 50, 56, 50, 57, 51, 48, 51, 49, 51, 50, 51, 51, 51, 52, 51, 53, 51, 54, 51, 55, 51, 56, 51, 57, 52, 48, 52, 49, 52, 50, 52, 51, 52, 52, 52, 53, 52, 54, 52, 55, 52, 56, 52, 57, 53, 48, 53, 49, 53, 50, 53, 51, 53, 52, 53, 53, 53, 54, 53, 55, 53, 56, 53, 57, 54, 48, 54, 49, 54, 50, 54, 51, 54, 52, 54, 53, 54, 54, 54, 55, 54, 56, 54, 57, 55, 48, 55, 49, 55, 50, 55, 51, 55, 52, 55, 53, 55, 54, 55, 55, 55, 56, 55, 57, 56, 48, 56, 49, 56, 50, 56, 51, 56, 52, 56, 53, 56, 54, 56, 55, 56, 56, 56, 57, 57, 48, 57, 49, 57, 50, 57, 51, 57, 52, 57, 53, 57, 54, 57, 55, 57, 56, 57, 57]))))) (.t 51)), none⟩, ⟨(some 53), (.iaddr 1 (.t 42) (.t 44)), none⟩, ⟨none, (.store 1 (.t 53) (.t 50)), none⟩, ⟨(some 54), (.iaddr 1 (.t 45) (.t 47)), none⟩, ⟨none, (.store 1 (.t 54) (.t 52)), none⟩] []) (.seq (.reg [⟨(some 55), (.mv (.t 0)), none⟩, ⟨(some 56), (.mv (.t 4)), none⟩, ⟨(some 57), (.bin .sub 0 (.t 56) (.k (.v (.c (.p (.int .i64 3)))))), none⟩, ⟨(some 58), (.mv (.t 0)), none⟩, ⟨(some 59), (.mv (.t 4)), none⟩, ⟨(some 60), (.bin .sub 0 (.t 59) (.k (.v (.c (.p (.int .i64 4)))))), none⟩, ⟨(some 61), (.mv (.t 8)), none⟩, ⟨(some 62), (.bin .add 0 (.t 61) (.k (.v (.c (.p (.int .u32 1)))))), none⟩, ⟨(some 63), (.index (.k (.v (.c (.p (.str [48, 48, 48, 49, 48, 50, 48, 51, 48, 52, 48, 53, 48, 54, 48, 55, 48, 56, 48, 57, 49, 48, 49, 49, 49, 50, 49, 51, 49, 52, 49, 53, 49, 54, 49, 55, 49, 56, 49, 57, 50, 48, 50, 49, 50, 50, 50, 51, 50, 52, 50, 53, 50, 54, 50, 55, 50, 56, 50, 57, 51, 48, 51, 49, 51, 50, 51, 51, 51, 52, 51, 53, 51, 54, 51, 55, 51, 56, 51, 57, 52, 48, 52, 49, 52, 50, 52, 51, 52, 52, 52, 53, 52, 54, 52, 55, 52, 56, 52, 57, 53, 48, 53, 49, 53, 50, 53, 51, 53, 52, 53, 53, 53, 54, 53, 55, 53, 56, 53, 57, 54, 48, 54, 49, 54, 50, 54, 51, 54, 52, 54, 53, 54, 54, 54, 55, 54, 56, 54, 57, 55, 48, 55, 49, 55, 50, 55, 51, 55, 52, 55, 53, 55, 54, 55, 55, 55, 56, 55, 57, 56, 48, 56, 49, 56, 50, 56, 51, 56, 52, 56, 53, 56, 54, 56, 55, 56, 56, 56, 57, 57, 48, 57, 49, 57, 50, 57, 51, 57, 52, 57, 53, 57, 54, 57, 55, 57, 56, 57, 57]))))) (.t 62)), none⟩, ⟨(some 64), (.mv (.t 8)), none⟩, ⟨(some 65), (.index (.k (.v (.c (.p (.str [48, 48, 48, 49, 48, 50, 48, 51, 48, 52, 48, 53, 48, 54, 48, 55, 48, 56, 48, 57, 49, 48, 49, 49, 49, 50, 49, 51, 49, 52, 49, 53, 49, 54, 49, 55, 49, 56, 49, 57, 50, 48, 50, 49, 50, 50, 50, 51, 50, 52, 50, 53, 50, 54, 50, 55, 50, 56, 50, 57, 51, 48, 51, 49, 51, 50, 51, 51, 51, 52, 51, 53, 51, 54, 51, 55, 51, 56, 51, 57, 52, 48, 52, 49, 52, 50, 52, 51, 52, 52, 52, 53, 52, 54, 52, 55, 52, 56, 52, 57, 53, 48, 53, 49, 53, 50, 53, 51, 53, 52, 53, 53, 53, 54, 53, 55, 53, 56, 53, 57, 54, 48, 54, 49, 54, 50, 54, 51, 54, 52, 54, 53, 54, 54, 54, 55, 54, 56, 54, 57, 55, 48, 55, 49, 55, 50, 55, 51, 55, 52, 55, 53, 55, 54, 55, 55, 55, 56, 55, 57, 56, 48, 56, 49, 56, 50, 56, 51, 56, 52, 56, 53, 56, 54, 56, 55, 56, 56, 56, 57, 57, 48, 57, 49, 57, 50, 57, 51, 57, 52, 57, 53, 57, 54, 57, 55, 57, 56, 57, 57]))))) (.t 64)), none⟩, ⟨(some 66), (.iaddr 1 (.t 55) (.t 57)), none⟩, ⟨none, (.store 1 (.t 66) (.t 63)), none⟩, ⟨(some 67), (.iaddr 1 (.t 58) (.t 60)), none⟩, ⟨none, (.store 1 (.t 67) (.t 65)), none⟩] []) (.seq (.reg [⟨(some 68), (.mv (.t 0)), none⟩, ⟨(some 69), (.mv (.t 4)), none⟩, ⟨(some 70), (.bin .sub 0 (.t 69) (.k (.v (.c (.p (.int .i64 5)))))), none⟩, ⟨(some 71), (.mv (.t 0)), none⟩, ⟨(some 72), (.mv (.t 4)), none⟩, ⟨(some 73), (.bin .sub 0 (.t 72) (.k (.v (.c (.p (.int .i64 6)))))), none⟩, ⟨(some 74), (.mv (.t 11)), none⟩, ⟨(some 75), (.bin .add 0 (.t 74) (.k (.v (.c (.p (.int .u32 1)))))), none⟩, ⟨(some 76), (.index (.k (.v (.c (.p (.str [48, 48, 48, 49, 48, 50, 48, 51, 48, 52, 48, 53, 48, 54, 48, 55, 48, 56, 48, 57, 49, 48, 49, 49, 49, 50, 49, 51, 49, 52, 49, 53, 49, 54, 49, 55, 49, 56, 49, 57, 50, 48, 50, 49, 50, 50, 50, 51, 50, 52, 50, 53, 50, 54, 50, 55, 50, 56, 50, 57, 51, 48, 51, 49, 51, 50, 51, 51, 51, 52, 51, 53, 51, 54, 51, 55, 51, 56, 51, 57, 52, 48, 52, 49, 52, 50, 52, 51, 52, 52, 52, 53, 52, 54, 52, 55, 52, 56, 52, 57, 53, 48, 53, 49, 53, 50, 53, 51, 53, 52, 53, 53, 53, 54, 53, 55, 53, 56, 53, 57, 54, 48, 54, 49, 54, 50, 54, 51, 54, 52, 54, 53, 54, 54, 54, 55, 54, 56, 54, 57, 55, 48, 55, 49, 55, 50, 55, 51, 55, 52, 55, 53, 55, 54, 55, 55, 55, 56, 55, 57, 56, 48, 56, 49, 56, 50, 56, 51, 56, 52, 56, 53, 56, 54, 56, 55, 56, 56, 56, 57, 57, 48, 57, 49, 57, 50, 57, 51, 57, 52, 57, 53, 57, 54, 57, 55, 57, 56, 57, 57]))))) (.t 75)), none⟩, ⟨(some 77), (.mv (.t 11)), none⟩, ⟨(some 78), (.index (.k (.v (.c (.p (.str [48, 48, 48, 49, 48, 50, 48, 51, 48, 52, 48, 53, 48, 54, 48, 55, 48, 56, 48, 57, 49, 48, 49, 49, 49, 50, 49, 51, 49, 52, 49, 53, 49, 54, 49, 55, 49, 56, 49, 57, 50, 48, 50, 49, 50, 50, 50, 51, 50, 52, 50, 53, 50, 54, 50, 55, 50, 56, 50, 57, 51, 48, 51, 49, 51, 50, 51, 51, 51, 52, 51, 53, 51, 54, 51, 55, 51, 56, 51, 57, 52, 48, 52, 49, 52, 50, 52, 51, 52, 52, 52, 53, 52, 54, 52, 55, 52, 56, 52, 57, 53, 48, 53, 49, 53, 50, 53, 51, 53, 52, 53, 53, 53, 54, 53, 55, 53, 56, 53, 57, 54, 48, 54, 49, 54, 50, 54, 51, 54, 52, 54, 53, 54, 54, 54, 55, 54, 56, 54, 57, 55, 48, 55, 49, 55, 50, 55, 51, 55, 52, 55, 53, 55, 54, 55, 55, 55, 56, 55, 57, 56, 48, 56, 49, 56, 50, 56, 51, 56, 52, 56, 53, 56, 54, 56, 55, 56, 56, 56, 57, 57, 48, 57, 49, 57, 50, 57, 51, 57, 52, 57, 53, 57, 54, 57, 55, 57, 56, 57, 57]))))) (.t 77)), none⟩, ⟨(some 79), (.iaddr 1 (.t 68) (.t 70)), none⟩, ⟨none, (.store 1 (.t 79) (.t 76)), none⟩, ⟨(some 80), (.iaddr 1 (.t 71) (.t 73)), none⟩, ⟨none, (.store 1 (.t 80) (.t 78)), none⟩] []) (.seq (.reg [⟨(some 81), (.mv (.t 0)), none⟩, ⟨(some 82), (.mv (.t 4)), none⟩, ⟨(some 83), (.bin .sub 0 (.t 82) (.k (.v (.c (.p (.int .i64 7)))))), none⟩, ⟨(some 84), (.mv (.t 0)), none⟩, ⟨(some 85), (.mv (.t 4)), none⟩, ⟨(some 86), (.bin .sub 0 (.t 85) (.k (.v (.c (.p (.int .i64 8)))))), none⟩, ⟨(some 87), (.mv (.t 10)), none⟩, ⟨(some 88), (.bin .add 0 (.t 87) (.k (.v (.c (.p (.int .u32 1)))))), none⟩, ⟨(some 89), (.index (.k (.v (.c (.p (.str [48, 48, 48, 49, 48, 50, 48, 51, 48, 52, 48, 53, 48, 54, 48, 55, 48, 56, 48, 57, 49, 48, 49, 49, 49, 50, 49, 51, 49, 52, 49, 53, 49, 54, 49, 55, 49, 56, 49, 57, 50, 48, 50, 49, 50, 50, 50, 51, 50, 52, 50, 53, 50, 54, 50, 55, 50, 56, 50, 57, 51, 48, 51, 49, 51, 50, 51, 51, 51, 52, 51, 53, 51, 54, 51, 55, 51, 56, 51, 57, 52, 48, 52, 49, 52, 50, 52, 51, 52, 52, 52, 53, 52, 54, 52, 55, 52, 56, 52, 57, 53, 48, 53, 49, 53, 50, 53, 51, 53, 52, 53, 53, 53, 54, 53, 55, 53, 56, 53, 57, 54, 48, 54, 49, 54, 50, 54, 51, 54, 52, 54, 53, 54, 54, 54, 55, 54, 56, 54, 57, 55, 48, 55, 49, 55, 50, 55, 51, 55, 52, 55, 53, 55, 54, 55, 55, 55, 56, 55, 57, 56, 48, 56, 49, 56, 50, 56, 51, 56, 52, 56, 53, 56, 54, 56, 55, 56, 56, 56, 57, 57, 48, 57, 49, 57, 50, 57, 51, 57, 52, 57, 53, 57, 54, 57, 55, 57, 56, 57, 57]))))) (.t 88)), none⟩, ⟨(some 90), (.mv (.t 10)), none⟩, ⟨(some 91), (.index (.k (.v (.c (.p (.str [48, 48, 48, 49, 48, 50, 48, 51, 48, 52, 48, 53, 48, 54, 48, 55, 48, 56, 48, 57, 49, 48, 49, 49, 49, 50, 49, 51, 49, 52, 49, 53, 49, 54, 49, 55, 49, 56, 49, 57, 50, 48, 50, 49, 50, 50, 50, 51, 50, 52, 50, 53, 50, 54, 50, 55, 50, 56, 50, 57, 51, 48, 51, 49, 51, 50, 51, 51, 51, 52, 51, 53, 51, 54, 51, 55, 51, 56, 51, 57, 52, 48, 52, 49, 52, 50, 52, 51, 52, 52, 52, 53, 52, 54, 52, 55, 52, 56, 52, 57, 53, 48, 53, 49, 53, 50, 53, 51, 53, 52, 53, 53, 53, 54, 53, 55, 53, 56, 53, 57, 54, 48, 54, 49, 54, 50, 54, 51, 54, 52, 54, 53, 54, 54, 54, 55, 54, 56, 54, 57, 55, 48, 55, 49, 55, 50, 55, 51, 55, 52, 55, 53, 55, 54, 55, 55, 55, 56, 55, 57, 56, 48, 56, 49, 56, 50, 56, 51, 56, 52, 56, 53, 56, 54, 56, 55, 56, 56, 56, 57, 57, 48, 57, 49, 57, 50, 57, 51, 57, 52, 57, 53, 57, 54, 57, 55, 57, 56, 57, 57]))))) (.t 90)), none⟩, ⟨(some 92), (.iaddr 1 (.t 81) (.t 83)), none⟩, ⟨none, (.store 1 (.t 92) (.t 89)), none⟩, ⟨(some 93), (.iaddr 1 (.t 84) (.t 86)), none⟩, ⟨none, (.store 1 (.t 93) (.t 91)), none⟩] []) (.reg [⟨(some 94), (.mv (.t 4)), none⟩, ⟨(some 95), (.bin .sub 0 (.t 94) (.k (.v (.c (.p (.int .i64 8)))))), none⟩, ⟨(some 4), (.mv (.t 95)), none⟩] [])))))))))))))) (.mark 2 [0, 1, 4] (.seq (.reg [⟨(some 96), (.mv (.t 1)), none⟩, ⟨(some 97), (.toInt .u32 (.t 96)), none⟩, ⟨(some 12), (.mv (.t 97)), none⟩] []) (.seq (.seq (.reg [⟨(some 98), (.mv (.t 4)), none⟩, ⟨(some 99), (.bin .geq 0 (.t 98) (.k (.v (.c (.p (.int .i64 4)))))), none⟩] []) (.cond (.t 99) (.seq (.reg [⟨(some 100), (.mv (.t 12)), none⟩, ⟨(some 101), (.bin .rem 0 (.t 100) (.k (.v (.c (.p (.int .u32 10000)))))), none⟩, ⟨(some 13), (.mv (.t 101)), none⟩] []) (.seq (.reg [⟨(some 102), (.mv (.t 12)), none⟩, ⟨(some 103), (.bin .quo 0 (.t 102) (.k (.v (.c (.p (.int .u32 10000)))))), none⟩, ⟨(some 12), (.mv (.t 103)), none⟩] []) (.seq (.reg [⟨(some 104), (.mv (.t 13)), none⟩, ⟨(some 105), (.bin .quo 0 (.t 104) (.k (.v (.c (.p (.int .u32 100)))))), none⟩, ⟨(some 106), (.bin .mul 0 (.t 105) (.k (.v (.c (.p (.int .u32 2)))))), none⟩, ⟨(some 107), (.mv (.t 13)), none⟩, ⟨(some 108), (.bin .rem 0 (.t 107) (.k (.v (.c (.p (.int .u32 100)))))), none⟩, ⟨(some 109), (.bin .mul 0 (.t 108) (.k (.v (.c (.p (.int .u32 2)))))), none⟩, ⟨(some 14), (.mv (.t 106)), none⟩, ⟨(some 15), (.mv (.t 109)), none⟩] []) (.seq (.reg [⟨(some 110), (.mv (.t 0)), none⟩, ⟨(some 111), (.mv (.t 4)), none⟩, ⟨(some 112), (.bin .sub 0 (.t 111) (.k (.v (.c (.p (.int .i64 1)))))), none⟩, ⟨(some 113), (.mv (.t 0)), none⟩, ⟨(some 114), (.mv (.t 4)), none⟩, ⟨(some 115), (.bin .sub 0 (.t 114) (.k (.v (.c (.p (.int .i64 2)))))), none⟩, ⟨(some 116), (.mv (.t 15)), none⟩, ⟨(some 117), (.bin .add 0 (.t 116) (.k (.v (.c (.p (.int .u32 1)))))), none⟩, ⟨(some 118), (.index (.k (.v (.c (.p (.str [48, 48, 48, 49, 48, 50, 48, 51, 48, 52, 48, 53, 48, 54, 48, 55, 48, 56, 48, 57, 49, 48, 49, 49, 49, 50, 49, 51, 49, 52, 49, 53, 49, 54, 49, 55, 49, 56, 49, 57, 50, 48, 50, 49, 50, 50, 50, 51, 50, 52, 50, 53, 50, 54, 50, 55, 50, 56, 50, 57, 51, 48, 51, 49, 51, 50, 51, 51, 51, 52, 51, 53, 51, 54, 51, 55, 51, 56, 51, 57, 52, 48, 52, 49, 52, 50, 52, 51, 52, 52, 52, 53, 52, 54, 52, 55, 52, 56, 52, 57, 53, 48, 53, 49, 53, 50, 53, 51, 53, 52, 53, 53, 53, 54, 53, 55, 53, 56, 53, 57, 54, 48, 54, 49, 54, 50, 54, 51, 54, 52, 54, 53, 54, 54, 54, 55, 54, 56, 54, 57, 55, 48, 55, 49, 55, 50, 55, 51, 55, 52, 55, 53, 55, 54, 55, 55, 55, 56, 55, 57, 56, 48, 56, 49, 56, 50, 56, 51, 56, 52, 56, 53, 56, 54, 56, 55, 56, 56, 56, 57, 57, 48, 57, 49, 57, 50, 57, 51, 57, 52, 57, 53, 57, 54, 57, 55, 57, 56, 57, 57]))))) (.t 117)), none⟩, ⟨(some 119), (.mv (.t 15)), none⟩, ⟨(some 120), (.index (.k (.v (.c (.p (.str [48, 48, 48, 49, 48, 50, 48, 51, 48, 52, 48, 53, 48, 54, 48, 55, 48, 56, 48, 57, 49, 48, 49, 49, 49, 50, 49, 51, 49, 52, 49, 53, 49, 54, 49, 55, 49, 56, 49, 57, 50, 48, 50, 49, 50, 50, 50, 51, 50, 52, 50, 53, 50, 54, 50, 55, 50, 56, 50, 57, 51, 48, 51, 49, 51, 50, 51, 51, 51, 52, 51, 53, 51, 54, 51, 55, 51, 56, 51, 57, 52, 48, 52, 49, 52, 50, 52, 51, 52, 52, 52, 53, 52, 54, 52, 55, 52, 56, 52, 57, 53, 48, 53, 49, 53, 50, 53, 51, 53, 52, 53, 53, 53, 54, 53, 55, 53, 56, 53, 57, 54, 48, 54, 49, 54, 50, 54, 51, 54, 52, 54, 53, 54, 54, 54, 55, 54, 56, 54, 57, 55, 48, 55, 49, 55, 50, 55, 51, 55, 52, 55, 53, 55, 54, 55, 55, 55, 56, 55, 57, 56, 48, 56, 49, 56, 50, 56, 51, 56, 52, 56, 53, 56, 54, 56, 55, 56, 56, 56, 57, 57, 48, 57, 49, 57, 50, 57, 51, 57, 52, 57, 53, 57, 54, 57, 55, 57, 56, 57, 57]))))) (.t 119)), none⟩, ⟨(some 121), (.iaddr 1 (.t 110) (.t 112)), none⟩, ⟨none, (.store 1 (.t 121) (.t 118)), none⟩, ⟨(some 122), (.iaddr 1 (.t 113) (.t 115)), none⟩, ⟨none, (.store 1 (.t 122) (.t 120)), none⟩] []) (.seq (.reg [⟨(some 123), (.mv (.t 0)), none⟩, ⟨(some 124), (.mv (.t 4)), none⟩, ⟨(some 125), (.bin .sub 0 (.t 124) (.k (.v (.c (.p (.int .i64 3)))))), none⟩, ⟨(some 126), (.mv (.t 0)), none⟩, ⟨(some 127), (.mv (.t 4)), none⟩, ⟨(some 128), (.bin .sub 0 (.t 127) (.k (.v (.c (.p (.int .i64 4)))))), none⟩, ⟨(some 129), (.mv (.t 14)), none⟩, ⟨(some 130), (.bin .add 0 (.t 129) (.k (.v (.c (.p (.int .u32 1)))))), none⟩, ⟨(some 131), (.index (.k (.v (.c (.p (.str [48, 48, 48, 49, 48, 50, 48, 51, 48, 52, 48, 53, 48, 54, 48, 55, 48, 56, 48, 57, 49, 48, 49, 49, 49, 50, 49, 51, 49, 52, 49, 53, 49, 54, 49, 55, 49, 56, 49, 57, 50, 48, 50, 49, 50, 50, 50, 51, 50, 52, 50, 53, 50, 54, 50, 55, 50, 56, 50, 57, 51, 48, 51, 49, 51, 50, 51, 51, 51, 52, 51, 53, 51, 54, 51, 55, 51, 56, 51, 57, 52, 48, 52, 49, 52, 50, 52, 51, 52, 52, 52, 53, 52, 54, 52, 55, 52, 56, 52, 57, 53, 48, 53, 49, 53, 50, 53, 51, 53, 52, 53, 53, 53, 54, 53, 55, 53, 56, 53, 57, 54, 48, 54, 49, 54, 50, 54, 51, 54, 52, 54, 53, 54, 54, 54, 55, 54, 56, 54, 57, 55, 48, 55, 49, 55, 50, 55, 51, 55, 52, 55, 53, 55, 54, 55, 55, 55, 56, 55, 57, 56, 48, 56, 49, 56, 50, 56, 51, 56, 52, 56, 53, 56, 54, 56, 55, 56, 56, 56, 57, 57, 48, 57, 49, 57, 50, 57, 51, 57, 52, 57, 53, 57, 54, 57, 55, 57, 56, 57, 57]))))) (.t 130)), none⟩, ⟨(some 132), (.mv (.t 14)), none⟩, ⟨(some 133), (.index (.k (.v (.c (.p (.str [48, 48, 48, 49, 48, 50, 48, 51, 48, 52, 48, 53, 48, 54, 48, 55, 48, 56, 48, 57, 49, 48, 49, 49, 49, 50, 49, 51, 49, 52, 49, 53, 49, 54, 49, 55, 49, 56, 49, 57, 50, 48, 50, 49, 50, 50, 50, 51, 50, 52, 50, 53, 50, 54, 50, 55, 50, 56, 50, 57, 51, 48, 51, 49, 51, 50, 51, 51, 51, 52, 51, 53, 51, 54, 51, 55, 51, 56, 51, 57, 52, 48, 52, 49, 52, 50, 52, 51, 52, 52, 52, 53, 52, 54, 52, 55, 52, 56, 52, 57, 53, 48, 53, 49, 53, 50, 53, 51, 53, 52, 53, 53, 53, 54, 53, 55, 53, 56, 53, 57, 54, 48, 54, 49, 54, 50, 54, 51, 54, 52, 54, 53, 54, 54, 54, 55, 54, 56, 54, 57, 55, 48, 55, 49, 55, 50, 55, 51, 55, 52, 55, 53, 55, 54, 55, 55, 55, 56, 55, 57, 56, 48, 56, 49, 56, 50, 56, 51, 56, 52, 56, 53, 56, 54, 56, 55, 56, 56, 56, 57, 57, 48, 57, 49, 57, 50, 57, 51, 57, 52, 57, 53, 57, 54, 57, 55, 57, 56, 57, 57]))))) (.t 132)), none⟩, ⟨(some 134), (.iaddr 1 (.t 123) (.t 125)), none⟩, ⟨none, (.store 1 (.t 134) (.t 131)), none⟩, ⟨(some 135), (.iaddr 1 (.t 126) (.t 128)), none⟩, ⟨none, (.store 1 (.t 135) (.t 133)), none⟩] []) (.reg [⟨(some 136), (.mv (.t 4)), none⟩, ⟨(some 137), (.bin .sub 0 (.t 136) (.k (.v (.c (.p (.int .i64 4)))))), none⟩, ⟨(some 4), (.mv (.t 137)), none⟩] [])))))) .skip)) (.mark 3 [0, 4, 12] (.seq (.seq (.reg [⟨(some 138), (.mv (.t 4)), none⟩, ⟨(some 139), (.bin .geq 0 (.t 138) (.k (.v (.c (.p (.int .i64 2)))))), none⟩] []) (.cond (.t 139) (.seq (.reg [⟨(some 140), (.mv (.t 12)), none⟩, ⟨(some 141), (.bin .rem 0 (.t 140) (.k (.v (.c (.p (.int .u32 100)))))), none⟩, ⟨(some 142), (.bin .mul 0 (.t 141) (.k (.v (.c (.p (.int .u32 2)))))), none⟩, ⟨(some 16), (.mv (.t 142)), none⟩] []) (.seq (.reg [⟨(some 143), (.mv (.t 12)), none⟩, ⟨(some 144), (.bin .quo 0 (.t 143) (.k (.v (.c (.p (.int .u32 100)))))), none⟩, ⟨(some 12), (.mv (.t 144)), none⟩] []) (.seq (.reg [⟨(some 145), (.mv (.t 0)), none⟩, ⟨(some 146), (.mv (.t 4)), none⟩, ⟨(some 147), (.bin .sub 0 (.t 146) (.k (.v (.c (.p (.int .i64 1)))))), none⟩, ⟨(some 148), (.mv (.t 0)), none⟩, ⟨(some 149), (.mv (.t 4)), none⟩, ⟨(some 150), (.bin .sub 0 (.t 149) (.k (.v (.c (.p (.int .i64 2)))))), none⟩, ⟨(some 151), (.mv (.t 16)), none⟩, ⟨(some 152), (.bin .add 0 (.t 151) (.k (.v (.c (.p (.int .u32 1)))))), none⟩, ⟨(some 153), (.index (.k (.v (.c (.p (.str [48, 48, 48, 49, 48, 50, 48, 51, 48, 52, 48, 53, 48, 54, 48, 55, 48, 56, 48, 57, 49, 48, 49, 49, 49, 50, 49, 51, 49, 52, 49, 53, 49, 54, 49, 55, 49, 56, 49, 57, 50, 48, 50, 49, 50, 50, 50, 51, 50, 52, 50, 53, 50, 54, 50, 55, 50, 56, 50, 57, 51, 48, 51, 49, 51, 50, 51, 51, 51, 52, 51, 53, 51, 54, 51, 55, 51, 56, 51, 57, 52, 48, 52, 49, 52, 50, 52, 51, 52, 52, 52, 53, 52, 54, 52, 55, 52, 56, 52, 57, 53, 48, 53, 49, 53, 50, 53, 51, 53, 52, 53, 53, 53, 54, 53, 55, 53, 56, 53, 57, 54, 48, 54, 49, 54, 50, 54, 51, 54, 52, 54, 53, 54, 54, 54, 55, 54, 56, 54, 57, 55, 48, 55, 49, 55, 50, 55, 51, 55, 52, 55, 53, 55, 54, 55, 55, 55, 56, 55, 57, 56, 48, 56, 49, 56, 50, 56, 51, 56, 52, 56, 53, 56, 54, 56, 55, 56, 56, 56, 57, 57, 48, 57, 49, 57, 50, 57, 51, 57, 52, 57, 53, 57, 54, 57, 55, 57, 56, 57, 57]))))) (.t 152)), none⟩, ⟨(some 154), (.mv (.t 16)), none⟩, ⟨(some 155), (.index (.k (.v (.c (.p (.str [48, 48, 48, 49, 48, 50, 48, 51, 48, 52, 48, 53, 48, 54, 48, 55, 48, 56, 48, 57, 49, 48, 49, 49, 49, 50, 49, 51, 49, 52, 49, 53, 49, 54, 49, 55, 49, 56, 49, 57, 50, 48, 50, 49, 50, 50, 50, 51, 50, 52, 50, 53, 50, 54, 50, 55, 50, 56, 50, 57, 51, 48, 51, 49, 51, 50, 51, 51, 51, 52, 51, 53, 51, 54, 51, 55, 51, 56, 51, 57, 52, 48, 52, 49, 52, 50, 52, 51, 52, 52, 52, 53, 52, 54, 52, 55, 52, 56, 52, 57, 53, 48, 53, 49, 53, 50, 53, 51, 53, 52, 53, 53, 53, 54, 53, 55, 53, 56, 53, 57, 54, 48, 54, 49, 54, 50, 54, 51, 54, 52, 54, 53, 54, 54, 54, 55, 54, 56, 54, 57, 55, 48, 55, 49, 55, 50, 55, 51, 55, 52, 55, 53, 55, 54, 55, 55, 55, 56, 55, 57, 56, 48, 56, 49, 56, 50, 56, 51, 56, 52, 56, 53, 56, 54, 56, 55, 56, 56, 56, 57, 57, 48, 57, 49, 57, 50, 57, 51, 57, 52, 57, 53, 57, 54, 57, 55, 57, 56, 57, 57]))))) (.t 154)), none⟩, ⟨(some 156), (.iaddr 1 (.t 145) (.t 147)), none⟩, ⟨none, (.store 1 (.t 156) (.t 153)), none⟩, ⟨(some 157), (.iaddr 1 (.t 148) (.t 150)), none⟩, ⟨none, (.store 1 (.t 157) (.t 155)), none⟩] []) (.reg [⟨(some 158), (.mv (.t 4)), none⟩, ⟨(some 159), (.bin .sub 0 (.t 158) (.k (.v (.c (.p (.int .i64 2)))))), none⟩, ⟨(some 4), (.mv (.t 159)), none⟩] [])))) .skip)) (.mark 4 [0, 4, 12] (.seq (.reg [⟨(some 160), (.mv (.t 4)), none⟩, ⟨(some 161), (.bin .gtr 0 (.t 160) (.k (.v (.c (.p (.int .i64 0)))))), none⟩] []) (.cond (.t 161) (.reg [⟨(some 162), (.mv (.t 0)), none⟩, ⟨(some 163), (.mv (.t 12)), none⟩, ⟨(some 164), (.bin .add 0 (.k (.v (.c (.p (.int .u32 48))))) (.t 163)), none⟩, ⟨(some 165), (.toInt .u8 (.t 164)), none⟩, ⟨(some 166), (.iaddr 1 (.t 162) (.k (.v (.c (.p (.int .i64 0)))))), none⟩, ⟨none, (.store 1 (.t 166) (.t 165)), none⟩] []) .skip)))))))))) }
theorem t120 : compF Tryd.prog (globs2 tabs opq) false true Tryd.f120 = some c120.erase := by kernel_rfl
noncomputable def b120_0 (O : Oracle) (R : Jump) (q : Nat) (x0 x1 : TVal) (h : Heap) : Res1 :=
  vlen O 2 x0 h 18 fun x18 h =>
  R 1 [x0, x1, x18] h
theorem e120_0 (O : Oracle) (R : Jump) (q : Nat) (x0 x1 : TVal) (h : Heap) : b120_0 O R q x0 x1 h = stepF c120 O R q 0 [x0, x1] h := by kernel_rfl
noncomputable def b120_1 (O : Oracle) (R : Jump) (q : Nat) (x0 x1 x4 : TVal) (h : Heap) : Res1 :=
  vbin .geq 0 x4 (kI 8) h fun x20 h =>
  vif x20 (
  vbin .rem 0 x1 (.v (.c (.p (.int .u64 100000000)))) h fun x22 h =>
  vtoInt .u32 x22 h fun x23 h =>
  vbin .quo 0 x1 (.v (.c (.p (.int .u64 100000000)))) h fun x25 h =>
  vbin .quo 0 x23 (.v (.c (.p (.int .u32 10000)))) h fun x27 h =>
  vbin .rem 0 x23 (.v (.c (.p (.int .u32 10000)))) h fun x29 h =>
  vbin .quo 0 x29 (.v (.c (.p (.int .u32 100)))) h fun x31 h =>
  vbin .mul 0 x31 (.v (.c (.p (.int .u32 2)))) h fun x32 h =>
  vbin .rem 0 x29 (.v (.c (.p (.int .u32 100)))) h fun x34 h =>
  vbin .mul 0 x34 (.v (.c (.p (.int .u32 2)))) h fun x35 h =>
  vbin .quo 0 x27 (.v (.c (.p (.int .u32 100)))) h fun x37 h =>
  vbin .mul 0 x37 (.v (.c (.p (.int .u32 2)))) h fun x38 h =>
  vbin .rem 0 x27 (.v (.c (.p (.int .u32 100)))) h fun x40 h =>
  vbin .mul 0 x40 (.v (.c (.p (.int .u32 2)))) h fun x41 h =>
  vbin .sub 0 x4 (kI 1) h fun x44 h =>
  vbin .sub 0 x4 (kI 2) h fun x47 h =>
  vbin .add 0 x35 (.v (.c (.p (.int .u32 1)))) h fun x49 h =>
  vindex (kS [48, 48, 48, 49, 48, 50, 48, 51, 48, 52, 48, 53, 48, 54, 48, 55, 48, 56, 48, 57, 49, 48, 49, 49, 49, 50, 49, 51, 49, 52, 49, 53, 49, 54, 49, 55, 49, 56, 49, 57, 50, 48, 50, 49, 50, 50, 50, 51, 50, 52, 50, 53, 50, 54, 50, 55, 50, 56, 50, 57, 51, 48, 51, 49, 51, 50, 51, 51, 51, 52, 51, 53, 51, 54, 51, 55, 51, 56, 51, 57, 52, 48, 52, 49, 52, 50, 52, 51, 52, 52, 52, 53, 52, 54, 52, 55, 52, 56, 52, 57, 53, 48, 53, 49, 53, 50, 53, 51, 53, 52, 53, 53, 53, 54, 53, 55, 53, 56, 53, 57, 54, 48, 54, 49, 54, 50, 54, 51, 54, 52, 54, 53, 54, 54, 54, 55, 54, 56, 54, 57, 55, 48, 55, 49, 55, 50, 55, 51, 55, 52, 55, 53, 55, 54, 55, 55, 55, 56, 55, 57, 56, 48, 56, 49, 56, 50, 56, 51, 56, 52, 56, 53, 56, 54, 56, 55, 56, 56, 56, 57, 57, 48, 57, 49, 57, 50, 57, 51, 57, 52, 57, 53, 57, 54, 57, 55, 57, 56, 57, 57]) x49 h fun x50 h =>
  vindex (kS [48, 48, 48, 49, 48, 50, 48, 51, 48, 52, 48, 53, 48, 54, 48, 55, 48, 56, 48, 57, 49, 48, 49, 49, 49, 50, 49, 51, 49, 52, 49, 53, 49, 54, 49, 55, 49, 56, 49, 57, 50, 48, 50, 49, 50, 50, 50, 51, 50, 52, 50, 53, 50, 54, 50, 55, 50, 56, 50, 57, 51, 48, 51, 49, 51, 50, 51, 51, 51, 52, 51, 53, 51, 54, 51, 55, 51, 56, 51, 57, 52, 48, 52, 49, 52, 50, 52, 51, 52, 52, 52, 53, 52, 54, 52, 55, 52, 56, 52, 57, 53, 48, 53, 49, 53, 50, 53, 51, 53, 52, 53, 53, 53, 54, 53, 55, 53, 56, 53, 57, 54, 48, 54, 49, 54, 50, 54, 51, 54, 52, 54, 53, 54, 54, 54, 55, 54, 56, 54, 57, 55, 48, 55, 49, 55, 50, 55, 51, 55, 52, 55, 53, 55, 54, 55, 55, 55, 56, 55, 57, 56, 48, 56, 49, 56, 50, 56, 51, 56, 52, 56, 53, 56, 54, 56, 55, 56, 56, 56, 57, 57, 48, 57, 49, 57, 50, 57, 51, 57, 52, 57, 53, 57, 54, 57, 55, 57, 56, 57, 57]) x35 h fun x52 h =>
  viaddr 1 x0 x44 h fun x53 h =>
  vstore 1 x53 x50 h fun _ h =>
  viaddr 1 x0 x47 h fun x54 h =>
  vstore 1 x54 x52 h fun _ h =>
  vbin .sub 0 x4 (kI 3) h fun x57 h =>
  vbin .sub 0 x4 (kI 4) h fun x60 h =>
  vbin .add 0 x32 (.v (.c (.p (.int .u32 1)))) h fun x62 h =>
  vindex (kS [48, 48, 48, 49, 48, 50, 48, 51, 48, 52, 48, 53, 48, 54, 48, 55, 48, 56, 48, 57, 49, 48, 49, 49, 49, 50, 49, 51, 49, 52, 49, 53, 49, 54, 49, 55, 49, 56, 49, 57, 50, 48, 50, 49, 50, 50, 50, 51, 50, 52, 50, 53, 50, 54, 50, 55, 50, 56, 50, 57, 51, 48, 51, 49, 51, 50, 51, 51, 51, 52, 51, 53, 51, 54, 51, 55, 51, 56, 51, 57, 52, 48, 52, 49, 52, 50, 52, 51, 52, 52, 52, 53, 52, 54, 52, 55, 52, 56, 52, 57, 53, 48, 53, 49, 53, 50, 53, 51, 53, 52, 53, 53, 53, 54, 53, 55, 53, 56, 53, 57, 54, 48, 54, 49, 54, 50, 54, 51, 54, 52, 54, 53, 54, 54, 54, 55, 54, 56, 54, 57, 55, 48, 55, 49, 55, 50, 55, 51, 55, 52, 55, 53, 55, 54, 55, 55, 55, 56, 55, 57, 56, 48, 56, 49, 56, 50, 56, 51, 56, 52, 56, 53, 56, 54, 56, 55, 56, 56, 56, 57, 57, 48, 57, 49, 57, 50, 57, 51, 57, 52, 57, 53, 57, 54, 57, 55, 57, 56, 57, 57]) x62 h fun x63 h =>
  vindex (kS [48, 48, 48, 49, 48, 50, 48, 51, 48, 52, 48, 53, 48, 54, 48, 55, 48, 56, 48, 57, 49, 48, 49, 49, 49, 50, 49, 51, 49, 52, 49, 53, 49, 54, 49, 55, 49, 56, 49, 57, 50, 48, 50, 49, 50, 50, 50, 51, 50, 52, 50, 53, 50, 54, 50, 55, 50, 56, 50, 57, 51, 48, 51, 49, 51, 50, 51, 51, 51, 52, 51, 53, 51, 54, 51, 55, 51, 56, 51, 57, 52, 48, 52, 49, 52, 50, 52, 51, 52, 52, 52, 53, 52, 54, 52, 55, 52, 56, 52, 57, 53, 48, 53, 49, 53, 50, 53, 51, 53, 52, 53, 53, 53, 54, 53, 55, 53, 56, 53, 57, 54, 48, 54, 49, 54, 50, 54, 51, 54, 52, 54, 53, 54, 54, 54, 55, 54, 56, 54, 57, 55, 48, 55, 49, 55, 50, 55, 51, 55, 52, 55, 53, 55, 54, 55, 55, 55, 56, 55, 57, 56, 48, 56, 49, 56, 50, 56, 51, 56, 52, 56, 53, 56, 54, 56, 55, 56, 56, 56, 57, 57, 48, 57, 49, 57, 50, 57, 51, 57, 52, 57, 53, 57, 54, 57, 55, 57, 56, 57, 57]) x32 h fun x65 h =>
  viaddr 1 x0 x57 h fun x66 h =>
  vstore 1 x66 x63 h fun _ h =>
  viaddr 1 x0 x60 h fun x67 h =>
  vstore 1 x67 x65 h fun _ h =>
  vbin .sub 0 x4 (kI 5) h fun x70 h =>
  vbin .sub 0 x4 (kI 6) h fun x73 h =>
  vbin .add 0 x41 (.v (.c (.p (.int .u32 1)))) h fun x75 h =>
  vindex (kS [48, 48, 48, 49, 48, 50, 48, 51, 48, 52, 48, 53, 48, 54, 48, 55, 48, 56, 48, 57, 49, 48, 49, 49, 49, 50, 49, 51, 49, 52, 49, 53, 49, 54, 49, 55, 49, 56, 49, 57, 50, 48, 50, 49, 50, 50, 50, 51, 50, 52, 50, 53, 50, 54, 50, 55, 50, 56, 50, 57, 51, 48, 51, 49, 51, 50, 51, 51, 51, 52, 51, 53, 51, 54, 51, 55, 51, 56, 51, 57, 52, 48, 52, 49, 52, 50, 52, 51, 52, 52, 52, 53, 52, 54, 52, 55, 52, 56, 52, 57, 53, 48, 53, 49, 53, 50, 53, 51, 53, 52, 53, 53, 53, 54, 53, 55, 53, 56, 53, 57, 54, 48, 54, 49, 54, 50, 54, 51, 54, 52, 54, 53, 54, 54, 54, 55, 54, 56, 54, 57, 55, 48, 55, 49, 55, 50, 55, 51, 55, 52, 55, 53, 55, 54, 55, 55, 55, 56, 55, 57, 56, 48, 56, 49, 56, 50, 56, 51, 56, 52, 56, 53, 56, 54, 56, 55, 56, 56, 56, 57, 57, 48, 57, 49, 57, 50, 57, 51, 57, 52, 57, 53, 57, 54, 57, 55, 57, 56, 57, 57]) x75 h fun x76 h =>
  vindex (kS [48, 48, 48, 49, 48, 50, 48, 51, 48, 52, 48, 53, 48, 54, 48, 55, 48, 56, 48, 57, 49, 48, 49, 49, 49, 50, 49, 51, 49, 52, 49, 53, 49, 54, 49, 55, 49, 56, 49, 57, 50, 48, 50, 49, 50, 50, 50, 51, 50, 52, 50, 53, 50, 54, 50, 55, 50, 56, 50, 57, 51, 48, 51, 49, 51, 50, 51, 51, 51, 52, 51, 53, 51, 54, 51, 55, 51, 56, 51, 57, 52, 48, 52, 49, 52, 50, 52, 51, 52, 52, 52, 53, 52, 54, 52, 55, 52, 56, 52, 57, 53, 48, 53, 49, 53, 50, 53, 51, 53, 52, 53, 53, 53, 54, 53, 55, 53, 56, 53, 57, 54, 48, 54, 49, 54, 50, 54, 51, 54, 52, 54, 53, 54, 54, 54, 55, 54, 56, 54, 57, 55, 48, 55, 49, 55, 50, 55, 51, 55, 52, 55, 53, 55, 54, 55, 55, 55, 56, 55, 57, 56, 48, 56, 49, 56, 50, 56, 51, 56, 52, 56, 53, 56, 54, 56, 55, 56, 56, 56, 57, 57, 48, 57, 49, 57, 50, 57, 51, 57, 52, 57, 53, 57, 54, 57, 55, 57, 56, 57, 57]) x41 h fun x78 h =>
  viaddr 1 x0 x70 h fun x79 h =>
  vstore 1 x79 x76 h fun _ h =>
  viaddr 1 x0 x73 h fun x80 h =>
  vstore 1 x80 x78 h fun _ h =>
  vbin .sub 0 x4 (kI 7) h fun x83 h =>
  vbin .sub 0 x4 (kI 8) h fun x86 h =>
  vbin .add 0 x38 (.v (.c (.p (.int .u32 1)))) h fun x88 h =>
  vindex (kS [48, 48, 48, 49, 48, 50, 48, 51, 48, 52, 48, 53, 48, 54, 48, 55, 48, 56, 48, 57, 49, 48, 49, 49, 49, 50, 49, 51, 49, 52, 49, 53, 49, 54, 49, 55, 49, 56, 49, 57, 50, 48, 50, 49, 50, 50, 50, 51, 50, 52, 50, 53, 50, 54, 50, 55, 50, 56, 50, 57, 51, 48, 51, 49, 51, 50, 51, 51, 51, 52, 51, 53, 51, 54, 51, 55, 51, 56, 51, 57, 52, 48, 52, 49, 52, 50, 52, 51, 52, 52, 52, 53, 52, 54, 52, 55, 52, 56, 52, 57, 53, 48, 53, 49, 53, 50, 53, 51, 53, 52, 53, 53, 53, 54, 53, 55, 53, 56, 53, 57, 54, 48, 54, 49, 54, 50, 54, 51, 54, 52, 54, 53, 54, 54, 54, 55, 54, 56, 54, 57, 55, 48, 55, 49, 55, 50, 55, 51, 55, 52, 55, 53, 55, 54, 55, 55, 55, 56, 55, 57, 56, 48, 56, 49, 56, 50, 56, 51, 56, 52, 56, 53, 56, 54, 56, 55, 56, 56, 56, 57, 57, 48, 57, 49, 57, 50, 57, 51, 57, 52, 57, 53, 57, 54, 57, 55, 57, 56, 57, 57]) x88 h fun x89 h =>
  vindex (kS [48, 48, 48, 49, 48, 50, 48, 51, 48, 52, 48, 53, 48, 54, 48, 55, 48, 56, 48, 57, 49, 48, 49, 49, 49, 50, 49, 51, 49, 52, 49, 53, 49, 54, 49, 55, 49, 56, 49, 57, 50, 48, 50, 49, 50, 50, 50, 51, 50, 52, 50, 53, 50, 54, 50, 55, 50, 56, 50, 57, 51, 48, 51, 49, 51, 50, 51, 51, 51, 52, 51, 53, 51, 54, 51, 55, 51, 56, 51, 57, 52, 48, 52, 49, 52, 50, 52, 51, 52, 52, 52, 53, 52, 54, 52, 55, 52, 56, 52, 57, 53, 48, 53, 49, 53, 50, 53, 51, 53, 52, 53, 53, 53, 54, 53, 55, 53, 56, 53, 57, 54, 48, 54, 49, 54, 50, 54, 51, 54, 52, 54, 53, 54, 54, 54, 55, 54, 56, 54, 57, 55, 48, 55, 49, 55, 50, 55, 51, 55, 52, 55, 53, 55, 54, 55, 55, 55, 56, 55, 57, 56, 48, 56, 49, 56, 50, 56, 51, 56, 52, 56, 53, 56, 54, 56, 55, 56, 56, 56, 57, 57, 48, 57, 49, 57, 50, 57, 51, 57, 52, 57, 53, 57, 54, 57, 55, 57, 56, 57, 57]) x38 h fun x91 h =>
  viaddr 1 x0 x83 h fun x92 h =>
  vstore 1 x92 x89 h fun _ h =>
  viaddr 1 x0 x86 h fun x93 h =>
  vstore 1 x93 x91 h fun _ h =>
  vbin .sub 0 x4 (kI 8) h fun x95 h =>
  R 1 [x0, x25, x95] h)
  (R 2 [x0, x1, x4] h)
theorem e120_1 (O : Oracle) (R : Jump) (q : Nat) (x0 x1 x4 : TVal) (h : Heap) : b120_1 O R q x0 x1 x4 h = stepF c120 O R q 1 [x0, x1, x4] h := by kernel_rfl
noncomputable def b120_2 (O : Oracle) (R : Jump) (q : Nat) (x0 x1 x4 : TVal) (h : Heap) : Res1 :=
  vtoInt .u32 x1 h fun x97 h =>
  vbin .geq 0 x4 (kI 4) h fun x99 h =>
  vif x99 (
  vbin .rem 0 x97 (.v (.c (.p (.int .u32 10000)))) h fun x101 h =>
  vbin .quo 0 x97 (.v (.c (.p (.int .u32 10000)))) h fun x103 h =>
  vbin .quo 0 x101 (.v (.c (.p (.int .u32 100)))) h fun x105 h =>
  vbin .mul 0 x105 (.v (.c (.p (.int .u32 2)))) h fun x106 h =>
  vbin .rem 0 x101 (.v (.c (.p (.int .u32 100)))) h fun x108 h =>
  vbin .mul 0 x108 (.v (.c (.p (.int .u32 2)))) h fun x109 h =>
  vbin .sub 0 x4 (kI 1) h fun x112 h =>
  vbin .sub 0 x4 (kI 2) h fun x115 h =>
  vbin .add 0 x109 (.v (.c (.p (.int .u32 1)))) h fun x117 h =>
  vindex (kS [48, 48, 48, 49, 48, 50, 48, 51, 48, 52, 48, 53, 48, 54, 48, 55, 48, 56, 48, 57, 49, 48, 49, 49, 49, 50, 49, 51, 49, 52, 49, 53, 49, 54, 49, 55, 49, 56, 49, 57, 50, 48, 50, 49, 50, 50, 50, 51, 50, 52, 50, 53, 50, 54, 50, 55, 50, 56, 50, 57, 51, 48, 51, 49, 51, 50, 51, 51, 51, 52, 51, 53, 51, 54, 51, 55, 51, 56, 51, 57, 52, 48, 52, 49, 52, 50, 52, 51, 52, 52, 52, 53, 52, 54, 52, 55, 52, 56, 52, 57, 53, 48, 53, 49, 53, 50, 53, 51, 53, 52, 53, 53, 53, 54, 53, 55, 53, 56, 53, 57, 54, 48, 54, 49, 54, 50, 54, 51, 54, 52, 54, 53, 54, 54, 54, 55, 54, 56, 54, 57, 55, 48, 55, 49, 55, 50, 55, 51, 55, 52, 55, 53, 55, 54, 55, 55, 55, 56, 55, 57, 56, 48, 56, 49, 56, 50, 56, 51, 56, 52, 56, 53, 56, 54, 56, 55, 56, 56, 56, 57, 57, 48, 57, 49, 57, 50, 57, 51, 57, 52, 57, 53, 57, 54, 57, 55, 57, 56, 57, 57]) x117 h fun x118 h =>
  vindex (kS [48, 48, 48, 49, 48, 50, 48, 51, 48, 52, 48, 53, 48, 54, 48, 55, 48, 56, 48, 57, 49, 48, 49, 49, 49, 50, 49, 51, 49, 52, 49, 53, 49, 54, 49, 55, 49, 56, 49, 57, 50, 48, 50, 49, 50, 50, 50, 51, 50, 52, 50, 53, 50, 54, 50, 55, 50, 56, 50, 57, 51, 48, 51, 49, 51, 50, 51, 51, 51, 52, 51, 53, 51, 54, 51, 55, 51, 56, 51, 57, 52, 48, 52, 49, 52, 50, 52, 51, 52, 52, 52, 53, 52, 54, 52, 55, 52, 56, 52, 57, 53, 48, 53, 49, 53, 50, 53, 51, 53, 52, 53, 53, 53, 54, 53, 55, 53, 56, 53, 57, 54, 48, 54, 49, 54, 50, 54, 51, 54, 52, 54, 53, 54, 54, 54, 55, 54, 56, 54, 57, 55, 48, 55, 49, 55, 50, 55, 51, 55, 52, 55, 53, 55, 54, 55, 55, 55, 56, 55, 57, 56, 48, 56, 49, 56, 50, 56, 51, 56, 52, 56, 53, 56, 54, 56, 55, 56, 56, 56, 57, 57, 48, 57, 49, 57, 50, 57, 51, 57, 52, 57, 53, 57, 54, 57, 55, 57, 56, 57, 57]) x109 h fun x120 h =>
  viaddr 1 x0 x112 h fun x121 h =>
  vstore 1 x121 x118 h fun _ h =>
  viaddr 1 x0 x115 h fun x122 h =>
  vstore 1 x122 x120 h fun _ h =>
  vbin .sub 0 x4 (kI 3) h fun x125 h =>
  vbin .sub 0 x4 (kI 4) h fun x128 h =>
  vbin .add 0 x106 (.v (.c (.p (.int .u32 1)))) h fun x130 h =>
  vindex (kS [48, 48, 48, 49, 48, 50, 48, 51, 48, 52, 48, 53, 48, 54, 48, 55, 48, 56, 48, 57, 49, 48, 49, 49, 49, 50, 49, 51, 49, 52, 49, 53, 49, 54, 49, 55, 49, 56, 49, 57, 50, 48, 50, 49, 50, 50, 50, 51, 50, 52, 50, 53, 50, 54, 50, 55, 50, 56, 50, 57, 51, 48, 51, 49, 51, 50, 51, 51, 51, 52, 51, 53, 51, 54, 51, 55, 51, 56, 51, 57, 52, 48, 52, 49, 52, 50, 52, 51, 52, 52, 52, 53, 52, 54, 52, 55, 52, 56, 52, 57, 53, 48, 53, 49, 53, 50, 53, 51, 53, 52, 53, 53, 53, 54, 53, 55, 53, 56, 53, 57, 54, 48, 54, 49, 54, 50, 54, 51, 54, 52, 54, 53, 54, 54, 54, 55, 54, 56, 54, 57, 55, 48, 55, 49, 55, 50, 55, 51, 55, 52, 55, 53, 55, 54, 55, 55, 55, 56, 55, 57, 56, 48, 56, 49, 56, 50, 56, 51, 56, 52, 56, 53, 56, 54, 56, 55, 56, 56, 56, 57, 57, 48, 57, 49, 57, 50, 57, 51, 57, 52, 57, 53, 57, 54, 57, 55, 57, 56, 57, 57]) x130 h fun x131 h =>
  vindex (kS [48, 48, 48, 49, 48, 50, 48, 51, 48, 52, 48, 53, 48, 54, 48, 55, 48, 56, 48, 57, 49, 48, 49, 49, 49, 50, 49, 51, 49, 52, 49, 53, 49, 54, 49, 55, 49, 56, 49, 57, 50, 48, 50, 49, 50, 50, 50, 51, 50, 52, 50, 53, 50, 54, 50, 55, 50, 56, 50, 57, 51, 48, 51, 49, 51, 50, 51, 51, 51, 52, 51, 53, 51, 54, 51, 55, 51, 56, 51, 57, 52, 48, 52, 49, 52, 50, 52, 51, 52, 52, 52, 53, 52, 54, 52, 55, 52, 56, 52, 57, 53, 48, 53, 49, 53, 50, 53, 51, 53, 52, 53, 53, 53, 54, 53, 55, 53, 56, 53, 57, 54, 48, 54, 49, 54, 50, 54, 51, 54, 52, 54, 53, 54, 54, 54, 55, 54, 56, 54, 57, 55, 48, 55, 49, 55, 50, 55, 51, 55, 52, 55, 53, 55, 54, 55, 55, 55, 56, 55, 57, 56, 48, 56, 49, 56, 50, 56, 51, 56, 52, 56, 53, 56, 54, 56, 55, 56, 56, 56, 57, 57, 48, 57, 49, 57, 50, 57, 51, 57, 52, 57, 53, 57, 54, 57, 55, 57, 56, 57, 57]) x106 h fun x133 h =>
  viaddr 1 x0 x125 h fun x134 h =>
  vstore 1 x134 x131 h fun _ h =>
  viaddr 1 x0 x128 h fun x135 h =>
  vstore 1 x135 x133 h fun _ h =>
  vbin .sub 0 x4 (kI 4) h fun x137 h =>
  R 3 [x0, x137, x103] h)
  (R 3 [x0, x4, x97] h)
theorem e120_2 (O : Oracle) (R : Jump) (q : Nat) (x0 x1 x4 : TVal) (h : Heap) : b120_2 O R q x0 x1 x4 h = stepF c120 O R q 2 [x0, x1, x4] h := by kernel_rfl
noncomputable def b120_3 (O : Oracle) (R : Jump) (q : Nat) (x0 x4 x12 : TVal) (h : Heap) : Res1 :=
  vbin .geq 0 x4 (kI 2) h fun x139 h =>
  vif x139 (
  vbin .rem 0 x12 (.v (.c (.p (.int .u32 100)))) h fun x141 h =>
  vbin .mul 0 x141 (.v (.c (.p (.int .u32 2)))) h fun x142 h =>
  vbin .quo 0 x12 (.v (.c (.p (.int .u32 100)))) h fun x144 h =>
  vbin .sub 0 x4 (kI 1) h fun x147 h =>
  vbin .sub 0 x4 (kI 2) h fun x150 h =>
  vbin .add 0 x142 (.v (.c (.p (.int .u32 1)))) h fun x152 h =>
  vindex (kS [48, 48, 48, 49, 48, 50, 48, 51, 48, 52, 48, 53, 48, 54, 48, 55, 48, 56, 48, 57, 49, 48, 49, 49, 49, 50, 49, 51, 49, 52, 49, 53, 49, 54, 49, 55, 49, 56, 49, 57, 50, 48, 50, 49, 50, 50, 50, 51, 50, 52, 50, 53, 50, 54, 50, 55, 50, 56, 50, 57, 51, 48, 51, 49, 51, 50, 51, 51, 51, 52, 51, 53, 51, 54, 51, 55, 51, 56, 51, 57, 52, 48, 52, 49, 52, 50, 52, 51, 52, 52, 52, 53, 52, 54, 52, 55, 52, 56, 52, 57, 53, 48, 53, 49, 53, 50, 53, 51, 53, 52, 53, 53, 53, 54, 53, 55, 53, 56, 53, 57, 54, 48, 54, 49, 54, 50, 54, 51, 54, 52, 54, 53, 54, 54, 54, 55, 54, 56, 54, 57, 55, 48, 55, 49, 55, 50, 55, 51, 55, 52, 55, 53, 55, 54, 55, 55, 55, 56, 55, 57, 56, 48, 56, 49, 56, 50, 56, 51, 56, 52, 56, 53, 56, 54, 56, 55, 56, 56, 56, 57, 57, 48, 57, 49, 57, 50, 57, 51, 57, 52, 57, 53, 57, 54, 57, 55, 57, 56, 57, 57]) x152 h fun x153 h =>
  vindex (kS [48, 48, 48, 49, 48, 50, 48, 51, 48, 52, 48, 53, 48, 54, 48, 55, 48, 56, 48, 57, 49, 48, 49, 49, 49, 50, 49, 51, 49, 52, 49, 53, 49, 54, 49, 55, 49, 56, 49, 57, 50, 48, 50, 49, 50, 50, 50, 51, 50, 52, 50, 53, 50, 54, 50, 55, 50, 56, 50, 57, 51, 48, 51, 49, 51, 50, 51, 51, 51, 52, 51, 53, 51, 54, 51, 55, 51, 56, 51, 57, 52, 48, 52, 49, 52, 50, 52, 51, 52, 52, 52, 53, 52, 54, 52, 55, 52, 56, 52, 57, 53, 48, 53, 49, 53, 50, 53, 51, 53, 52, 53, 53, 53, 54, 53, 55, 53, 56, 53, 57, 54, 48, 54, 49, 54, 50, 54, 51, 54, 52, 54, 53, 54, 54, 54, 55, 54, 56, 54, 57, 55, 48, 55, 49, 55, 50, 55, 51, 55, 52, 55, 53, 55, 54, 55, 55, 55, 56, 55, 57, 56, 48, 56, 49, 56, 50, 56, 51, 56, 52, 56, 53, 56, 54, 56, 55, 56, 56, 56, 57, 57, 48, 57, 49, 57, 50, 57, 51, 57, 52, 57, 53, 57, 54, 57, 55, 57, 56, 57, 57]) x142 h fun x155 h =>
  viaddr 1 x0 x147 h fun x156 h =>
  vstore 1 x156 x153 h fun _ h =>
  viaddr 1 x0 x150 h fun x157 h =>
  vstore 1 x157 x155 h fun _ h =>
  vbin .sub 0 x4 (kI 2) h fun x159 h =>
  R 4 [x0, x159, x144] h)
  (R 4 [x0, x4, x12] h)
theorem e120_3 (O : Oracle) (R : Jump) (q : Nat) (x0 x4 x12 : TVal) (h : Heap) : b120_3 O R q x0 x4 x12 h = stepF c120 O R q 3 [x0, x4, x12] h := by kernel_rfl
noncomputable def b120_4 (O : Oracle) (R : Jump) (q : Nat) (x0 x4 x12 : TVal) (h : Heap) : Res1 :=
  vbin .gtr 0 x4 (kI 0) h fun x161 h =>
  vif x161 (
  vbin .add 0 (.v (.c (.p (.int .u32 48)))) x12 h fun x164 h =>
  vtoInt .u8 x164 h fun x165 h =>
  viaddr 1 x0 (kI 0) h fun x166 h =>
  vstore 1 x166 x165 h fun _ h =>
  vfin true q [] h)
  (vfin true q [] h)
theorem e120_4 (O : Oracle) (R : Jump) (q : Nat) (x0 x4 x12 : TVal) (h : Heap) : b120_4 O R q x0 x4 x12 h = stepF c120 O R q 4 [x0, x4, x12] h := by kernel_rfl
noncomputable def d120 : BlkF := fun O R q => [.s fun y0 => .s fun y1 => .z fun h => b120_0 O R q y0 y1 h, .s fun y0 => .s fun y1 => .s fun y2 => .z fun h => b120_1 O R q y0 y1 y2 h, .s fun y0 => .s fun y1 => .s fun y2 => .z fun h => b120_2 O R q y0 y1 y2 h, .s fun y0 => .s fun y1 => .s fun y2 => .z fun h => b120_3 O R q y0 y1 y2 h, .s fun y0 => .s fun y1 => .s fun y2 => .z fun h => b120_4 O R q y0 y1 y2 h]
theorem o120 (O : Oracle) (R : Jump) (q : Nat) : HoldsAll c120 O R q 0 (d120 O R q) := ⟨fun y0 y1 h => e120_0 O R q y0 y1 h, fun y0 y1 y2 h => e120_1 O R q y0 y1 y2 h, fun y0 y1 y2 h => e120_2 O R q y0 y1 y2 h, fun y0 y1 y2 h => e120_3 O R q y0 y1 y2 h, fun y0 y1 y2 h => e120_4 O R q y0 y1 y2 h, trivial⟩
/- internal/strconv.formatBits -/
def c121 : MFunc := { np := 5, res := [.t 10, .t 11], frz := true, body := (.seq (.reg [⟨(some 10), (.mv (.k (.v (.c (.p .nilslice))))), none⟩, ⟨(some 11), (.mv (.k (.v (.c (.p (.str [])))))), none⟩] []) (.seq (.seq (.reg [⟨(some 19), (.mv (.t 2)), none⟩, ⟨(some 20), (.bin .lss 0 (.t 19) (.k (.v (.c (.p (.int .i64 2)))))), none⟩, ⟨(some 21), (.mv (.t 20)), none⟩, ⟨(some 22), (.mv (.t 2)), (some (21, false))⟩, ⟨(some 23), (.bin .eql 0 (.t 22) (.k (.v (.c (.p (.int .i64 10)))))), (some (21, false))⟩, ⟨(some 24), (.pick (.t 21) (.k (.v (.c (.p (.bool true))))) (.t 23)), none⟩, ⟨(some 25), (.mv (.t 24)), none⟩, ⟨(some 26), (.mv (.t 2)), (some (25, false))⟩, ⟨(some 27), (.bin .gtr 0 (.t 26) (.k (.v (.c (.p (.int .i64 36)))))), (some (25, false))⟩, ⟨(some 28), (.pick (.t 25) (.k (.v (.c (.p (.bool true))))) (.t 27)), none⟩] []) (.cond (.t 28) (.reg [⟨(some 29), .bad, none⟩, ⟨none, .bad, none⟩] []) .skip)) (.mark 1 [0, 1, 2, 3, 4, 10, 11] (.seq (.reg [⟨(some 12), (.alloc [(.p (.int .u8 0)), (.p (.int .u8 0)), (.p (.int .u8 0)), (.p (.int .u8 0)), (.p (.int .u8 0)), (.p (.int .u8 0)), (.p (.int .u8 0)), (.p (.int .u8 0)), (.p (.int .u8 0)), (.p (.int .u8 0)), (.p (.int .u8 0)), (.p (.int .u8 0)), (.p (.int .u8 0)), (.p (.int .u8 0)), (.p (.int .u8 0)), (.p (.int .u8 0)), (.p (.int .u8 0)), (.p (.int .u8 0)), (.p (.int .u8 0)), (.p (.int .u8 0)), (.p (.int .u8 0)), (.p (.int .u8 0)), (.p (.int .u8 0)), (.p (.int .u8 0)), (.p (.int .u8 0)), (.p (.int .u8 0)), (.p (.int .u8 0)), (.p (.int .u8 0)), (.p (.int .u8 0)), (.p (.int .u8 0)), (.p (.int .u8 0)), (.p (.int .u8 0)), (.p (.int .u8 0)), (.p (.int .u8 0)), (.p (.int .u8 0)), (.p (.int .u8 0)), (.p (.int .u8 0)), (.p (.int .u8 0)), (.p (.int .u8 0)), (.p (.int .u8 0)), (.p (.int .u8 0)), (.p (.int .u8 0)), (.p (.int .u8 0)), (.p (.int .u8 0)), (.p (.int .u8 0)), (.p (.int .u8 0)), (.p (.int .u8 0)), (.p (.int .u8 0)), (.p (.int .u8 0)), (.p (.int .u8 0)), (.p (.int .u8 0)), (.p (.int .u8 0)), (.p (.int .u8 0)), (.p (.int .u8 0)), (.p (.int .u8 0)), (.p (.int .u8 0)), (.p (.int .u8 0)), (.p (.int .u8 0)), (.p (.int .u8 0)), (.p (.int .u8 0)), (.p (.int .u8 0)), (.p (.int .u8 0)), (.p (.int .u8 0)), (.p (.int .u8 0)), (.p (.int .u8 0))] false), none⟩] []) (.seq (.reg [⟨(some 13), (.mv (.k (.v (.c (.p (.int .i64 65)))))), none⟩] []) (.seq (.seq (.reg [⟨(some 30), (.mv (.t 3)), none⟩] []) (.cond (.t 30) (.reg [⟨(some 31), (.mv (.t 1)), none⟩, ⟨(some 32), (.un .neg (.t 31)), none⟩, ⟨(some 1), (.mv (.t 32)), none⟩] []) .skip)) (.mark 2 [0, 1, 2, 3, 4, 10, 11, 12, 13] (.seq (.seq (.reg [⟨(some 33), (.mv (.t 2)), none⟩, ⟨(some 34), (.call (.k (.v (.c (.func 130 [])))) [(.t 33)]), none⟩] []) (.cond (.t 34) (.seq (.reg [⟨(some 35), (.mv (.t 2)), none⟩, ⟨(some 36), (.toInt .u64 (.t 35)), none⟩, ⟨(some 37), (.call (.k (.v (.c (.func 131 [])))) [(.t 36)]), none⟩, ⟨(some 38), (.toInt .u64 (.t 37)), none⟩, ⟨(some 14), (.mv (.t 38)), none⟩] []) (.seq (.reg [⟨(some 39), (.mv (.t 2)), none⟩, ⟨(some 40), (.toInt .u64 (.t 39)), none⟩, ⟨(some 15), (.mv (.t 40)), none⟩] []) (.seq (.reg [⟨(some 41), (.mv (.t 2)), none⟩, ⟨(some 42), (.toInt .u64 (.t 41)), none⟩, ⟨(some 43), (.bin .sub 0 (.t 42) (.k (.v (.c (.p (.int .u64 1)))))), none⟩, ⟨(some 16), (.mv (.t 43)), none⟩] []) (.seq (.block 0 (.loop 3 [0, 1, 3, 4, 10, 11, 12, 13, 14, 15, 16] (.seq (.seq (.reg [⟨(some 44), (.mv (.t 1)), none⟩, ⟨(some 45), (.mv (.t 15)), none⟩, ⟨(some 46), (.bin .geq 0 (.t 44) (.t 45)), none⟩] []) (.cond (.t 46) .skip (.exit 0))) (.block 1 (.seq (.reg [⟨(some 47), (.mv (.t 13)), none⟩, ⟨(some 48), (.bin .sub 0 (.t 47) (.k (.v (.c (.p (.int .i64 1)))))), none⟩, ⟨(some 13), (.mv (.t 48)), none⟩] []) (.seq (.reg [⟨(some 49), (.mv (.t 13)), none⟩, ⟨(some 50), (.mv (.t 1)), none⟩, ⟨(some 51), (.mv (.t 16)), none⟩, ⟨(some 52), (.bin .and 0 (.t 50) (.t 51)), none⟩, ⟨(some 53), (.index (.k (.v (.c (.p (.str [48, 49, 50, 51, 52, 53, 54, 55, 56, 57, 97, 98, 99, 100, 101, 102, 103, 104, 105, 106, 107, 108, 109, 110, 111, 112, 113, 114, 115, 116, 117, 118, 119, 120, 121, 122]))))) (.t 52)), none⟩, ⟨(some 54), (.iaddrA 65 1 (.t 12) (.t 49)), none⟩, ⟨none, (.store 1 (.t 54) (.t 53)), none⟩] []) (.reg [⟨(some 55), (.mv (.t 1)), none⟩, ⟨(some 56), (.mv (.t 14)), none⟩, ⟨(some 57), (.bin .shr 0 (.t 55) (.t 56)), none⟩, ⟨(some 1), (.mv (.t 57)), none⟩] []))))))) (.mark 4 [0, 1, 3, 4, 10, 11, 12, 13] (.seq (.reg [⟨(some 58), (.mv (.t 13)), none⟩, ⟨(some 59), (.bin .sub 0 (.t 58) (.k (.v (.c (.p (.int .i64 1)))))), none⟩, ⟨(some 13), (.mv (.t 59)), none⟩] []) (.reg [⟨(some 60), (.mv (.t 13)), none⟩, ⟨(some 61), (.mv (.t 1)), none⟩, ⟨(some 62), (.index (.k (.v (.c (.p (.str [48, 49, 50, 51, 52, 53, 54, 55, 56, 57, 97, 98, 99, 100, 101, 102, 103, 104, 105, 106, 107, 108, 109, 110, 111, 112, 113, 114, 115, 116, 117, 118, 119, 120, 121, 122]))))) (.t 61)), none⟩, ⟨(some 63), (.iaddrA 65 1 (.t 12) (.t 60)), none⟩, ⟨none, (.store 1 (.t 63) (.t 62)), none⟩] []))))))) (.seq (.reg [⟨(some 64), (.mv (.t 2)), none⟩, ⟨(some 65), (.toInt .u64 (.t 64)), none⟩, ⟨(some 17), (.mv (.t 65)), none⟩] []) (.seq (.block 2 (.loop 5 [0, 1, 3, 4, 10, 11, 12, 13, 17] (.seq (.seq (.reg [⟨(some 66), (.mv (.t 1)), none⟩, ⟨(some 67), (.mv (.t 17)), none⟩, ⟨(some 68), (.bin .geq 0 (.t 66) (.t 67)), none⟩] []) (.cond (.t 68) .skip (.exit 2))) (.block 3 (.seq (.reg [⟨(some 69), (.mv (.t 13)), none⟩, ⟨(some 70), (.bin .sub 0 (.t 69) (.k (.v (.c (.p (.int .i64 1)))))), none⟩, ⟨(some 13), (.mv (.t 70)), none⟩] []) (.seq (.reg [⟨(some 71), (.mv (.t 1)), none⟩, ⟨(some 72), (.mv (.t 17)), none⟩, ⟨(some 73), (.bin .quo 0 (.t 71) (.t 72)), none⟩, ⟨(some 18), (.mv (.t 73)), none⟩] []) (.seq (.reg [⟨(some 74), (.mv (.t 13)), none⟩, ⟨(some 75), (.mv (.t 1)), none⟩, ⟨(some 76), (.mv (.t 18)), none⟩, ⟨(some 77), (.mv (.t 17)), none⟩, ⟨(some 78), (.bin .mul 0 (.t 76) (.t 77)), none⟩, ⟨(some 79), (.bin .sub 0 (.t 75) (.t 78)), none⟩, ⟨(some 80), (.index (.k (.v (.c (.p (.str [48, 49, 50, 51, 52, 53, 54, 55, 56, 57, 97, 98, 99, 100, 101, 102, 103, 104, 105, 106, 107, 108, 109, 110, 111, 112, 113, 114, 115, 116, 117, 118, 119, 120, 121, 122]))))) (.t 79)), none⟩, ⟨(some 81), (.iaddrA 65 1 (.t 12) (.t 74)), none⟩, ⟨none, (.store 1 (.t 81) (.t 80)), none⟩] []) (.reg [⟨(some 82), (.mv (.t 18)), none⟩, ⟨(some 1), (.mv (.t 82)), none⟩] [])))))))) (.mark 6 [0, 1, 3, 4, 10, 11, 12, 13] (.seq (.reg [⟨(some 83), (.mv (.t 13)), none⟩, ⟨(some 84), (.bin .sub 0 (.t 83) (.k (.v (.c (.p (.int .i64 1)))))), none⟩, ⟨(some 13), (.mv (.t 84)), none⟩] []) (.reg [⟨(some 85), (.mv (.t 13)), none⟩, ⟨(some 86), (.mv (.t 1)), none⟩, ⟨(some 87), (.index (.k (.v (.c (.p (.str [48, 49, 50, 51, 52, 53, 54, 55, 56, 57, 97, 98, 99, 100, 101, 102, 103, 104, 105, 106, 107, 108, 109, 110, 111, 112, 113, 114, 115, 116, 117, 118, 119, 120, 121, 122]))))) (.t 86)), none⟩, ⟨(some 88), (.iaddrA 65 1 (.t 12) (.t 85)), none⟩, ⟨none, (.store 1 (.t 88) (.t 87)), none⟩] []))))))) (.mark 7 [0, 3, 4, 10, 11, 12, 13] (.seq (.seq (.reg [⟨(some 89), (.mv (.t 3)), none⟩] []) (.cond (.t 89) (.seq (.reg [⟨(some 90), (.mv (.t 13)), none⟩, ⟨(some 91), (.bin .sub 0 (.t 90) (.k (.v (.c (.p (.int .i64 1)))))), none⟩, ⟨(some 13), (.mv (.t 91)), none⟩] []) (.reg [⟨(some 92), (.mv (.t 13)), none⟩, ⟨(some 93), (.iaddrA 65 1 (.t 12) (.t 92)), none⟩, ⟨none, (.store 1 (.t 93) (.k (.v (.c (.p (.int .u8 45)))))), none⟩] [])) .skip)) (.mark 8 [0, 4, 10, 11, 12, 13] (.seq (.seq (.reg [⟨(some 94), (.mv (.t 4)), none⟩] []) (.cond (.t 94) (.seq (.reg [⟨(some 95), (.mv (.t 0)), none⟩, ⟨(some 96), (.mv (.t 13)), none⟩, ⟨(some 97), (.sliceA 65 1 (.t 12) (some (.t 96)) none), none⟩, ⟨(some 98), (.append 1 1 false (.t 95) (.t 97)), none⟩, ⟨(some 10), (.mv (.t 98)), none⟩] []) .ret) .skip)) (.seq (.reg [⟨(some 99), (.mv (.t 13)), none⟩, ⟨(some 100), (.sliceA 65 1 (.t 12) (some (.t 99)) none), none⟩, ⟨(some 101), (.toStr (.t 100)), none⟩, ⟨(some 11), (.mv (.t 101)), none⟩] []) .ret))))))))))))) }
theorem t121 : compF Tryd.prog (globs2 tabs opq) false true Tryd.f121 = some c121.erase := by kernel_rfl
noncomputable def b121_0 (O : Oracle) (R : Jump) (q : Nat) (x0 x1 x2 x3 x4 : TVal) (h : Heap) : Res1 :=
  vbin .lss 0 x2 (kI 2) h fun x20 h =>
  vguard x20 false (fun kk => kk x2 h) h fun x22 h =>
  vguard x20 false (fun kk => vbin .eql 0 x22 (kI 10) h kk) h fun x23 h =>
  vop O (.pick (.k x20) (.k (kB true)) (.k x23)) h 24 fun x24 h =>
  vguard x24 false (fun kk => kk x2 h) h fun x26 h =>
  vguard x24 false (fun kk => vbin .gtr 0 x26 (kI 36) h kk) h fun x27 h =>
  vop O (.pick (.k x24) (.k (kB true)) (.k x27)) h 28 fun x28 h =>
  vif x28 (
  none)
  (R 1 [x0, x1, x2, x3, x4, (.v (.c (.p .nilslice))), (kS [])] h)
theorem e121_0 (O : Oracle) (R : Jump) (q : Nat) (x0 x1 x2 x3 x4 : TVal) (h : Heap) : b121_0 O R q x0 x1 x2 x3 x4 h = stepF c121 O R q 0 [x0, x1, x2, x3, x4] h := by kernel_rfl
noncomputable def b121_1 (O : Oracle) (R : Jump) (q : Nat) (x0 x1 x2 x3 x4 x10 x11 : TVal) (h : Heap) : Res1 :=
  vop O (.alloc [(.p (.int .u8 0)), (.p (.int .u8 0)), (.p (.int .u8 0)), (.p (.int .u8 0)), (.p (.int .u8 0)), (.p (.int .u8 0)), (.p (.int .u8 0)), (.p (.int .u8 0)), (.p (.int .u8 0)), (.p (.int .u8 0)), (.p (.int .u8 0)), (.p (.int .u8 0)), (.p (.int .u8 0)), (.p (.int .u8 0)), (.p (.int .u8 0)), (.p (.int .u8 0)), (.p (.int .u8 0)), (.p (.int .u8 0)), (.p (.int .u8 0)), (.p (.int .u8 0)), (.p (.int .u8 0)), (.p (.int .u8 0)), (.p (.int .u8 0)), (.p (.int .u8 0)), (.p (.int .u8 0)), (.p (.int .u8 0)), (.p (.int .u8 0)), (.p (.int .u8 0)), (.p (.int .u8 0)), (.p (.int .u8 0)), (.p (.int .u8 0)), (.p (.int .u8 0)), (.p (.int .u8 0)), (.p (.int .u8 0)), (.p (.int .u8 0)), (.p (.int .u8 0)), (.p (.int .u8 0)), (.p (.int .u8 0)), (.p (.int .u8 0)), (.p (.int .u8 0)), (.p (.int .u8 0)), (.p (.int .u8 0)), (.p (.int .u8 0)), (.p (.int .u8 0)), (.p (.int .u8 0)), (.p (.int .u8 0)), (.p (.int .u8 0)), (.p (.int .u8 0)), (.p (.int .u8 0)), (.p (.int .u8 0)), (.p (.int .u8 0)), (.p (.int .u8 0)), (.p (.int .u8 0)), (.p (.int .u8 0)), (.p (.int .u8 0)), (.p (.int .u8 0)), (.p (.int .u8 0)), (.p (.int .u8 0)), (.p (.int .u8 0)), (.p (.int .u8 0)), (.p (.int .u8 0)), (.p (.int .u8 0)), (.p (.int .u8 0)), (.p (.int .u8 0)), (.p (.int .u8 0))] false) h 12 fun x12 h =>
  vif x3 (
  vop O (.un .neg (.k x1)) h 32 fun x32 h =>
  R 2 [x0, x32, x2, x3, x4, x10, x11, x12, (kI 65)] h)
  (R 2 [x0, x1, x2, x3, x4, x10, x11, x12, (kI 65)] h)
theorem e121_1 (O : Oracle) (R : Jump) (q : Nat) (x0 x1 x2 x3 x4 x10 x11 : TVal) (h : Heap) : b121_1 O R q x0 x1 x2 x3 x4 x10 x11 h = stepF c121 O R q 1 [x0, x1, x2, x3, x4, x10, x11] h := by kernel_rfl
noncomputable def b121_2 (O : Oracle) (R : Jump) (q : Nat) (x0 x1 x2 x3 x4 x10 x11 x12 x13 : TVal) (h : Heap) : Res1 :=
  vcall O (.v (.c (.func 130 []))) [x2] h 34 fun x34 h =>
  vif x34 (
  vtoInt .u64 x2 h fun x36 h =>
  vcall O (.v (.c (.func 131 []))) [x36] h 37 fun x37 h =>
  vtoInt .u64 x37 h fun x38 h =>
  vtoInt .u64 x2 h fun x40 h =>
  vtoInt .u64 x2 h fun x42 h =>
  vbin .sub 0 x42 (.v (.c (.p (.int .u64 1)))) h fun x43 h =>
  R 3 [x0, x1, x3, x4, x10, x11, x12, x13, x38, x40, x43] h)
  (vtoInt .u64 x2 h fun x65 h =>
  R 5 [x0, x1, x3, x4, x10, x11, x12, x13, x65] h)
theorem e121_2 (O : Oracle) (R : Jump) (q : Nat) (x0 x1 x2 x3 x4 x10 x11 x12 x13 : TVal) (h : Heap) : b121_2 O R q x0 x1 x2 x3 x4 x10 x11 x12 x13 h = stepF c121 O R q 2 [x0, x1, x2, x3, x4, x10, x11, x12, x13] h := by kernel_rfl
noncomputable def b121_3 (O : Oracle) (R : Jump) (q : Nat) (x0 x1 x3 x4 x10 x11 x12 x13 x14 x15 x16 : TVal) (h : Heap) : Res1 :=
  vbin .geq 0 x1 x15 h fun x46 h =>
  vif x46 (
  vbin .sub 0 x13 (kI 1) h fun x48 h =>
  vbin .and 0 x1 x16 h fun x52 h =>
  vindex (kS [48, 49, 50, 51, 52, 53, 54, 55, 56, 57, 97, 98, 99, 100, 101, 102, 103, 104, 105, 106, 107, 108, 109, 110, 111, 112, 113, 114, 115, 116, 117, 118, 119, 120, 121, 122]) x52 h fun x53 h =>
  vop O (.iaddrA 65 1 (.k x12) (.k x48)) h 54 fun x54 h =>
  vstore 1 x54 x53 h fun _ h =>
  vbin .shr 0 x1 x14 h fun x57 h =>
  R 3 [x0, x57, x3, x4, x10, x11, x12, x48, x14, x15, x16] h)
  (R 4 [x0, x1, x3, x4, x10, x11, x12, x13] h)
theorem e121_3 (O : Oracle) (R : Jump) (q : Nat) (x0 x1 x3 x4 x10 x11 x12 x13 x14 x15 x16 : TVal) (h : Heap) : b121_3 O R q x0 x1 x3 x4 x10 x11 x12 x13 x14 x15 x16 h = stepF c121 O R q 3 [x0, x1, x3, x4, x10, x11, x12, x13, x14, x15, x16] h := by kernel_rfl
noncomputable def b121_4 (O : Oracle) (R : Jump) (q : Nat) (x0 x1 x3 x4 x10 x11 x12 x13 : TVal) (h : Heap) : Res1 :=
  vbin .sub 0 x13 (kI 1) h fun x59 h =>
  vindex (kS [48, 49, 50, 51, 52, 53, 54, 55, 56, 57, 97, 98, 99, 100, 101, 102, 103, 104, 105, 106, 107, 108, 109, 110, 111, 112, 113, 114, 115, 116, 117, 118, 119, 120, 121, 122]) x1 h fun x62 h =>
  vop O (.iaddrA 65 1 (.k x12) (.k x59)) h 63 fun x63 h =>
  vstore 1 x63 x62 h fun _ h =>
  R 7 [x0, x3, x4, x10, x11, x12, x59] h
theorem e121_4 (O : Oracle) (R : Jump) (q : Nat) (x0 x1 x3 x4 x10 x11 x12 x13 : TVal) (h : Heap) : b121_4 O R q x0 x1 x3 x4 x10 x11 x12 x13 h = stepF c121 O R q 4 [x0, x1, x3, x4, x10, x11, x12, x13] h := by kernel_rfl
noncomputable def b121_5 (O : Oracle) (R : Jump) (q : Nat) (x0 x1 x3 x4 x10 x11 x12 x13 x17 : TVal) (h : Heap) : Res1 :=
  vbin .geq 0 x1 x17 h fun x68 h =>
  vif x68 (
  vbin .sub 0 x13 (kI 1) h fun x70 h =>
  vbin .quo 0 x1 x17 h fun x73 h =>
  vbin .mul 0 x73 x17 h fun x78 h =>
  vbin .sub 0 x1 x78 h fun x79 h =>
  vindex (kS [48, 49, 50, 51, 52, 53, 54, 55, 56, 57, 97, 98, 99, 100, 101, 102, 103, 104, 105, 106, 107, 108, 109, 110, 111, 112, 113, 114, 115, 116, 117, 118, 119, 120, 121, 122]) x79 h fun x80 h =>
  vop O (.iaddrA 65 1 (.k x12) (.k x70)) h 81 fun x81 h =>
  vstore 1 x81 x80 h fun _ h =>
  R 5 [x0, x73, x3, x4, x10, x11, x12, x70, x17] h)
  (R 6 [x0, x1, x3, x4, x10, x11, x12, x13] h)
theorem e121_5 (O : Oracle) (R : Jump) (q : Nat) (x0 x1 x3 x4 x10 x11 x12 x13 x17 : TVal) (h : Heap) : b121_5 O R q x0 x1 x3 x4 x10 x11 x12 x13 x17 h = stepF c121 O R q 5 [x0, x1, x3, x4, x10, x11, x12, x13, x17] h := by kernel_rfl
noncomputable def b121_6 (O : Oracle) (R : Jump) (q : Nat) (x0 x1 x3 x4 x10 x11 x12 x13 : TVal) (h : Heap) : Res1 :=
  vbin .sub 0 x13 (kI 1) h fun x84 h =>
  vindex (kS [48, 49, 50, 51, 52, 53, 54, 55, 56, 57, 97, 98, 99, 100, 101, 102, 103, 104, 105, 106, 107, 108, 109, 110, 111, 112, 113, 114, 115, 116, 117, 118, 119, 120, 121, 122]) x1 h fun x87 h =>
  vop O (.iaddrA 65 1 (.k x12) (.k x84)) h 88 fun x88 h =>
  vstore 1 x88 x87 h fun _ h =>
  R 7 [x0, x3, x4, x10, x11, x12, x84] h
theorem e121_6 (O : Oracle) (R : Jump) (q : Nat) (x0 x1 x3 x4 x10 x11 x12 x13 : TVal) (h : Heap) : b121_6 O R q x0 x1 x3 x4 x10 x11 x12 x13 h = stepF c121 O R q 6 [x0, x1, x3, x4, x10, x11, x12, x13] h := by kernel_rfl
noncomputable def b121_7 (O : Oracle) (R : Jump) (q : Nat) (x0 x3 x4 x10 x11 x12 x13 : TVal) (h : Heap) : Res1 :=
  vif x3 (
  vbin .sub 0 x13 (kI 1) h fun x91 h =>
  vop O (.iaddrA 65 1 (.k x12) (.k x91)) h 93 fun x93 h =>
  vstore 1 x93 (.v (.c (.p (.int .u8 45)))) h fun _ h =>
  R 8 [x0, x4, x10, x11, x12, x91] h)
  (R 8 [x0, x4, x10, x11, x12, x13] h)
theorem e121_7 (O : Oracle) (R : Jump) (q : Nat) (x0 x3 x4 x10 x11 x12 x13 : TVal) (h : Heap) : b121_7 O R q x0 x3 x4 x10 x11 x12 x13 h = stepF c121 O R q 7 [x0, x3, x4, x10, x11, x12, x13] h := by kernel_rfl
noncomputable def b121_8 (O : Oracle) (R : Jump) (q : Nat) (x0 x4 x10 x11 x12 x13 : TVal) (h : Heap) : Res1 :=
  vif x4 (
  vop O (.sliceA 65 1 (.k x12) (some (.k x13)) none) h 97 fun x97 h =>
  vop O (.append 1 1 false (.k x0) (.k x97)) h 98 fun x98 h =>
  tcomp x98 fun c0 => tcomp x11 fun c1 => vfin true q [c0, c1] h)
  (vop O (.sliceA 65 1 (.k x12) (some (.k x13)) none) h 100 fun x100 h =>
  vop O (.toStr (.k x100)) h 101 fun x101 h =>
  tcomp x10 fun c0 => tcomp x101 fun c1 => vfin true q [c0, c1] h)
theorem e121_8 (O : Oracle) (R : Jump) (q : Nat) (x0 x4 x10 x11 x12 x13 : TVal) (h : Heap) : b121_8 O R q x0 x4 x10 x11 x12 x13 h = stepF c121 O R q 8 [x0, x4, x10, x11, x12, x13] h := by kernel_rfl
noncomputable def d121 : BlkF := fun O R q => [.s fun y0 => .s fun y1 => .s fun y2 => .s fun y3 => .s fun y4 => .z fun h => b121_0 O R q y0 y1 y2 y3 y4 h, .s fun y0 => .s fun y1 => .s fun y2 => .s fun y3 => .s fun y4 => .s fun y5 => .s fun y6 => .z fun h => b121_1 O R q y0 y1 y2 y3 y4 y5 y6 h, .s fun y0 => .s fun y1 => .s fun y2 => .s fun y3 => .s fun y4 => .s fun y5 => .s fun y6 => .s fun y7 => .s fun y8 => .z fun h => b121_2 O R q y0 y1 y2 y3 y4 y5 y6 y7 y8 h, .s fun y0 => .s fun y1 => .s fun y2 => .s fun y3 => .s fun y4 => .s fun y5 => .s fun y6 => .s fun y7 => .s fun y8 => .s fun y9 => .s fun y10 => .z fun h => b121_3 O R q y0 y1 y2 y3 y4 y5 y6 y7 y8 y9 y10 h, .s fun y0 => .s fun y1 => .s fun y2 => .s fun y3 => .s fun y4 => .s fun y5 => .s fun y6 => .s fun y7 => .z fun h => b121_4 O R q y0 y1 y2 y3 y4 y5 y6 y7 h, .s fun y0 => .s fun y1 => .s fun y2 => .s fun y3 => .s fun y4 => .s fun y5 => .s fun y6 => .s fun y7 => .s fun y8 => .z fun h => b121_5 O R q y0 y1 y2 y3 y4 y5 y6 y7 y8 h, .s fun y0 => .s fun y1 => .s fun y2 => .s fun y3 => .s fun y4 => .s fun y5 => .s fun y6 => .s fun y7 => .z fun h => b121_6 O R q y0 y1 y2 y3 y4 y5 y6 y7 h, .s fun y0 => .s fun y1 => .s fun y2 => .s fun y3 => .s fun y4 => .s fun y5 => .s fun y6 => .z fun h => b121_7 O R q y0 y1 y2 y3 y4 y5 y6 h, .s fun y0 => .s fun y1 => .s fun y2 => .s fun y3 => .s fun y4 => .s fun y5 => .z fun h => b121_8 O R q y0 y1 y2 y3 y4 y5 h]
theorem o121 (O : Oracle) (R : Jump) (q : Nat) : HoldsAll c121 O R q 0 (d121 O R q) := ⟨fun y0 y1 y2 y3 y4 h => e121_0 O R q y0 y1 y2 y3 y4 h, fun y0 y1 y2 y3 y4 y5 y6 h => e121_1 O R q y0 y1 y2 y3 y4 y5 y6 h, fun y0 y1 y2 y3 y4 y5 y6 y7 y8 h => e121_2 O R q y0 y1 y2 y3 y4 y5 y6 y7 y8 h, fun y0 y1 y2 y3 y4 y5 y6 y7 y8 y9 y10 h => e121_3 O R q y0 y1 y2 y3 y4 y5 y6 y7 y8 y9 y10 h, fun y0 y1 y2 y3 y4 y5 y6 y7 h => e121_4 O R q y0 y1 y2 y3 y4 y5 y6 y7 h, fun y0 y1 y2 y3 y4 y5 y6 y7 y8 h => e121_5 O R q y0 y1 y2 y3 y4 y5 y6 y7 y8 h, fun y0 y1 y2 y3 y4 y5 y6 y7 h => e121_6 O R q y0 y1 y2 y3 y4 y5 y6 y7 h, fun y0 y1 y2 y3 y4 y5 y6 h => e121_7 O R q y0 y1 y2 y3 y4 y5 y6 h, fun y0 y1 y2 y3 y4 y5 h => e121_8 O R q y0 y1 y2 y3 y4 y5 h, trivial⟩
/- internal/strconv.Itoa -/
def c122 : MFunc := { np := 1, res := [.t 2], frz := true, body := (.seq (.reg [⟨(some 2), (.mv (.k (.v (.c (.p (.str [])))))), none⟩] []) (.seq (.reg [⟨(some 3), (.mv (.t 0)), none⟩, ⟨(some 4), (.call (.k (.v (.c (.func 97 [])))) [(.t 3), (.k (.v (.c (.p (.int .i64 10)))))]), none⟩, ⟨(some 2), (.mv (.t 4)), none⟩] []) .ret)) }
theorem t122 : compF Tryd.prog (globs2 tabs opq) false true Tryd.f122 = some c122.erase := by kernel_rfl
noncomputable def b122_0 (O : Oracle) (R : Jump) (q : Nat) (x0 : TVal) (h : Heap) : Res1 :=
  vcall O (.v (.c (.func 97 []))) [x0, (kI 10)] h 4 fun x4 h =>
  tcomp x4 fun c0 => vfin true q [c0] h
theorem e122_0 (O : Oracle) (R : Jump) (q : Nat) (x0 : TVal) (h : Heap) : b122_0 O R q x0 h = stepF c122 O R q 0 [x0] h := by kernel_rfl
noncomputable def d122 : BlkF := fun O R q => [.s fun y0 => .z fun h => b122_0 O R q y0 h]
theorem o122 (O : Oracle) (R : Jump) (q : Nat) : HoldsAll c122 O R q 0 (d122 O R q) := ⟨fun y0 h => e122_0 O R q y0 h, trivial⟩
/- internal/strconv.log10Pow2 -/
def c127 : MFunc := { np := 1, res := [.t 2], frz := true, body := (.seq (.reg [⟨(some 2), (.mv (.k (.v (.c (.p (.int .i64 0)))))), none⟩] []) (.seq (.reg [⟨(some 3), (.mv (.t 0)), none⟩, ⟨(some 4), (.bin .mul 0 (.t 3) (.k (.v (.c (.p (.int .i64 78913)))))), none⟩, ⟨(some 5), (.bin .shr 0 (.t 4) (.k (.v (.c (.p (.int .u64 18)))))), none⟩, ⟨(some 2), (.mv (.t 5)), none⟩] []) .ret)) }
theorem t127 : compF Tryd.prog (globs2 tabs opq) false true Tryd.f127 = some c127.erase := by kernel_rfl
noncomputable def b127_0 (O : Oracle) (R : Jump) (q : Nat) (x0 : TVal) (h : Heap) : Res1 :=
  vbin .mul 0 x0 (kI 78913) h fun x4 h =>
  vbin .shr 0 x4 (.v (.c (.p (.int .u64 18)))) h fun x5 h =>
  tcomp x5 fun c0 => vfin true q [c0] h
theorem e127_0 (O : Oracle) (R : Jump) (q : Nat) (x0 : TVal) (h : Heap) : b127_0 O R q x0 h = stepF c127 O R q 0 [x0] h := by kernel_rfl
noncomputable def d127 : BlkF := fun O R q => [.s fun y0 => .z fun h => b127_0 O R q y0 h]
theorem o127 (O : Oracle) (R : Jump) (q : Nat) : HoldsAll c127 O R q 0 (d127 O R q) := ⟨fun y0 h => e127_0 O R q y0 h, trivial⟩
/- math/bits.Len64 -/
def c128 : MFunc := { np := 1, res := [.t 2], frz := true, body := (.seq (.reg [⟨(some 2), (.mv (.k (.v (.c (.p (.int .i64 0)))))), none⟩] []) (.seq (.seq (.reg [⟨(some 3), (.mv (.t 0)), none⟩, ⟨(some 4), (.bin .geq 0 (.t 3) (.k (.v (.c (.p (.int .u64 4294967296)))))), none⟩] []) (.cond (.t 4) (.seq (.reg [⟨(some 5), (.mv (.t 0)), none⟩, ⟨(some 6), (.bin .shr 0 (.t 5) (.k (.v (.c (.p (.int .u64 32)))))), none⟩, ⟨(some 0), (.mv (.t 6)), none⟩] []) (.reg [⟨(some 2), (.mv (.k (.v (.c (.p (.int .i64 32)))))), none⟩] [])) .skip)) (.mark 1 [0, 2] (.seq (.seq (.reg [⟨(some 7), (.mv (.t 0)), none⟩, ⟨(some 8), (.bin .geq 0 (.t 7) (.k (.v (.c (.p (.int .u64 65536)))))), none⟩] []) (.cond (.t 8) (.seq (.reg [⟨(some 9), (.mv (.t 0)), none⟩, ⟨(some 10), (.bin .shr 0 (.t 9) (.k (.v (.c (.p (.int .u64 16)))))), none⟩, ⟨(some 0), (.mv (.t 10)), none⟩] []) (.reg [⟨(some 11), (.mv (.t 2)), none⟩, ⟨(some 12), (.bin .add 0 (.t 11) (.k (.v (.c (.p (.int .i64 16)))))), none⟩, ⟨(some 2), (.mv (.t 12)), none⟩] [])) .skip)) (.mark 2 [0, 2] (.seq (.seq (.reg [⟨(some 13), (.mv (.t 0)), none⟩, ⟨(some 14), (.bin .geq 0 (.t 13) (.k (.v (.c (.p (.int .u64 256)))))), none⟩] []) (.cond (.t 14) (.seq (.reg [⟨(some 15), (.mv (.t 0)), none⟩, ⟨(some 16), (.bin .shr 0 (.t 15) (.k (.v (.c (.p (.int .u64 8)))))), none⟩, ⟨(some 0), (.mv (.t 16)), none⟩] []) (.reg [⟨(some 17), (.mv (.t 2)), none⟩, ⟨(some 18), (.bin .add 0 (.t 17) (.k (.v (.c (.p (.int .i64 8)))))), none⟩, ⟨(some 2), (.mv (.t 18)), none⟩] [])) .skip)) (.mark 3 [0, 2] (.seq (.reg [⟨(some 19), (.mv (.t 2)), none⟩, ⟨(some 20), (.mv (.t 0)), none⟩, ⟨(some 21), (.toInt .u8 (.t 20)), none⟩, ⟨(some 22), (.index (.k (.v (.c (.p (.str [0, 1, 2, 2, 3, 3, 3, 3, 4, 4, 4, 4, 4, 4, 4, 4, 5, 5, 5, 5, 5, 5, 5, 5, 5, 5, 5, 5, 5, 5, 5, 5, 6, 6, 6, 6, 6, 6, 6, 6, 6, 6, 6, 6, 6, 6, 6, 6, 6, 6, 6, 6, 6, 6, 6, 6, 6, 6, 6, 6, 6, 6, 6, 6, 7, 7, 7, 7, 7, 7, 7, 7, 7, 7, 7, 7, 7, 7, 7, 7, 7, 7, 7, 7, 7, 7, 7, 7, 7, 7, 7, 7, 7, 7, 7, 7, 7, 7, 7, 7, 7, 7, 7, 7, 7, 7, 7, 7, 7, 7, 7, 7, 7, 7, 7, 7, 7, 7, 7, 7, 7, 7, 7, 7, 7, 7, 7, 7, 8, 8, 8, 8, 8, 8, 8, 8, 8, 8, 8, 8, 8, 8, 8, 8, 8, 8, 8, 8, 8, 8, 8, 8, 8, 8, 8, 8, 8, 8, 8, 8, 8, 8, 8, 8, 8, 8, 8, 8, 8, 8, 8, 8, 8, 8, 8, 8, 8, 8, 8, 8, 8, 8, 8, 8, 8, 8, 8, 8, 8, 8, 8, 8, 8, 8, 8, 8, 8, 8, 8, 8, 8, 8, 8, 8, 8, 8, 8, 8, 8, 8, 8, 8, 8, 8, 8, 8, 8, 8, 8, 8, 8, 8, 8, 8, 8, 8, 8, 8, 8, 8, 8, 8, 8, 8, 8, 8, 8, 8, 8, 8, 8, 8, 8, 8, 8, 8, 8, 8, 8, 8, 8, 8, 8, 8, 8, 8]))))) (.t 21)), none⟩, ⟨(some 23), (.toInt .i64 (.t 22)), none⟩, ⟨(some 24), (.bin .add 0 (.t 19) (.t 23)), none⟩, ⟨(some 2), (.mv (.t 24)), none⟩] []) .ret)))))))) }
theorem t128 : compF Tryd.prog (globs2 tabs opq) false true Tryd.f128 = some c128.erase := by kernel_rfl
noncomputable def b128_0 (O : Oracle) (R : Jump) (q : Nat) (x0 : TVal) (h : Heap) : Res1 :=
  vbin .geq 0 x0 (.v (.c (.p (.int .u64 4294967296)))) h fun x4 h =>
  vif x4 (
  vbin .shr 0 x0 (.v (.c (.p (.int .u64 32)))) h fun x6 h =>
  R 1 [x6, (kI 32)] h)
  (R 1 [x0, (kI 0)] h)
theorem e128_0 (O : Oracle) (R : Jump) (q : Nat) (x0 : TVal) (h : Heap) : b128_0 O R q x0 h = stepF c128 O R q 0 [x0] h := by kernel_rfl
noncomputable def b128_1 (O : Oracle) (R : Jump) (q : Nat) (x0 x2 : TVal) (h : Heap) : Res1 :=
  vbin .geq 0 x0 (.v (.c (.p (.int .u64 65536)))) h fun x8 h =>
  vif x8 (
  vbin .shr 0 x0 (.v (.c (.p (.int .u64 16)))) h fun x10 h =>
  vbin .add 0 x2 (kI 16) h fun x12 h =>
  R 2 [x10, x12] h)
  (R 2 [x0, x2] h)
theorem e128_1 (O : Oracle) (R : Jump) (q : Nat) (x0 x2 : TVal) (h : Heap) : b128_1 O R q x0 x2 h = stepF c128 O R q 1 [x0, x2] h := by kernel_rfl
noncomputable def b128_2 (O : Oracle) (R : Jump) (q : Nat) (x0 x2 : TVal) (h : Heap) : Res1 :=
  vbin .geq 0 x0 (.v (.c (.p (.int .u64 256)))) h fun x14 h =>
  vif x14 (
  vbin .shr 0 x0 (.v (.c (.p (.int .u64 8)))) h fun x16 h =>
  vbin .add 0 x2 (kI 8) h fun x18 h =>
  R 3 [x16, x18] h)
  (R 3 [x0, x2] h)
theorem e128_2 (O : Oracle) (R : Jump) (q : Nat) (x0 x2 : TVal) (h : Heap) : b128_2 O R q x0 x2 h = stepF c128 O R q 2 [x0, x2] h := by kernel_rfl
noncomputable def b128_3 (O : Oracle) (R : Jump) (q : Nat) (x0 x2 : TVal) (h : Heap) : Res1 :=
  vtoInt .u8 x0 h fun x21 h =>
  vindex (kS [0, 1, 2, 2, 3, 3, 3, 3, 4, 4, 4, 4, 4, 4, 4, 4, 5, 5, 5, 5, 5, 5, 5, 5, 5, 5, 5, 5, 5, 5, 5, 5, 6, 6, 6, 6, 6, 6, 6, 6, 6, 6, 6, 6, 6, 6, 6, 6, 6, 6, 6, 6, 6, 6, 6, 6, 6, 6, 6, 6, 6, 6, 6, 6, 7, 7, 7, 7, 7, 7, 7, 7, 7, 7, 7, 7, 7, 7, 7, 7, 7, 7, 7, 7, 7, 7, 7, 7, 7, 7, 7, 7, 7, 7, 7, 7, 7, 7, 7, 7, 7, 7, 7, 7, 7, 7, 7, 7, 7, 7, 7, 7, 7, 7, 7, 7, 7, 7, 7, 7, 7, 7, 7, 7, 7, 7, 7, 7, 8, 8, 8, 8, 8, 8, 8, 8, 8, 8, 8, 8, 8, 8, 8, 8, 8, 8, 8, 8, 8, 8, 8, 8, 8, 8, 8, 8, 8, 8, 8, 8, 8, 8, 8, 8, 8, 8, 8, 8, 8, 8, 8, 8, 8, 8, 8, 8, 8, 8, 8, 8, 8, 8, 8, 8, 8, 8, 8, 8, 8, 8, 8, 8, 8, 8, 8, 8, 8, 8, 8, 8, 8, 8, 8, 8, 8, 8, 8, 8, 8, 8, 8, 8, 8, 8, 8, 8, 8, 8, 8, 8, 8, 8, 8, 8, 8, 8, 8, 8, 8, 8, 8, 8, 8, 8, 8, 8, 8, 8, 8, 8, 8, 8, 8, 8, 8, 8, 8, 8, 8, 8, 8, 8, 8, 8, 8, 8]) x21 h fun x22 h =>
  vtoInt .i64 x22 h fun x23 h =>
  vbin .add 0 x2 x23 h fun x24 h =>
  tcomp x24 fun c0 => vfin true q [c0] h
theorem e128_3 (O : Oracle) (R : Jump) (q : Nat) (x0 x2 : TVal) (h : Heap) : b128_3 O R q x0 x2 h = stepF c128 O R q 3 [x0, x2] h := by kernel_rfl
noncomputable def d128 : BlkF := fun O R q => [.s fun y0 => .z fun h => b128_0 O R q y0 h, .s fun y0 => .s fun y1 => .z fun h => b128_1 O R q y0 y1 h, .s fun y0 => .s fun y1 => .z fun h => b128_2 O R q y0 y1 h, .s fun y0 => .s fun y1 => .z fun h => b128_3 O R q y0 y1 h]
theorem o128 (O : Oracle) (R : Jump) (q : Nat) : HoldsAll c128 O R q 0 (d128 O R q) := ⟨fun y0 h => e128_0 O R q y0 h, fun y0 y1 h => e128_1 O R q y0 y1 h, fun y0 y1 h => e128_2 O R q y0 y1 h, fun y0 y1 h => e128_3 O R q y0 y1 h, trivial⟩
/- internal/strconv.bool2[int] -/
def c129 : MFunc := { np := 1, res := [.t 2], frz := true, body := (.seq (.reg [⟨(some 2), (.mv (.k (.v (.c (.p (.int .i64 0)))))), none⟩] []) (.seq (.seq (.reg [⟨(some 3), (.mv (.t 0)), none⟩] []) (.cond (.t 3) (.seq (.reg [⟨(some 2), (.mv (.k (.v (.c (.p (.int .i64 1)))))), none⟩] []) .ret) .skip)) (.seq (.reg [⟨(some 2), (.mv (.k (.v (.c (.p (.int .i64 0)))))), none⟩] []) .ret))) }
theorem t129 : compF Tryd.prog (globs2 tabs opq) false true Tryd.f129 = some c129.erase := by kernel_rfl
noncomputable def b129_0 (O : Oracle) (R : Jump) (q : Nat) (x0 : TVal) (h : Heap) : Res1 :=
  vif x0 (
  tcomp (kI 1) fun c0 => vfin true q [c0] h)
  (tcomp (kI 0) fun c0 => vfin true q [c0] h)
theorem e129_0 (O : Oracle) (R : Jump) (q : Nat) (x0 : TVal) (h : Heap) : b129_0 O R q x0 h = stepF c129 O R q 0 [x0] h := by kernel_rfl
noncomputable def d129 : BlkF := fun O R q => [.s fun y0 => .z fun h => b129_0 O R q y0 h]
theorem o129 (O : Oracle) (R : Jump) (q : Nat) : HoldsAll c129 O R q 0 (d129 O R q) := ⟨fun y0 h => e129_0 O R q y0 h, trivial⟩
/- internal/strconv.isPowerOfTwo -/
def c130 : MFunc := { np := 1, res := [.t 2], frz := true, body := (.seq (.reg [⟨(some 2), (.mv (.k (.v (.c (.p (.bool false)))))), none⟩] []) (.seq (.reg [⟨(some 3), (.mv (.t 0)), none⟩, ⟨(some 4), (.mv (.t 0)), none⟩, ⟨(some 5), (.bin .sub 0 (.t 4) (.k (.v (.c (.p (.int .i64 1)))))), none⟩, ⟨(some 6), (.bin .and 0 (.t 3) (.t 5)), none⟩, ⟨(some 7), (.bin .eql 0 (.t 6) (.k (.v (.c (.p (.int .i64 0)))))), none⟩, ⟨(some 2), (.mv (.t 7)), none⟩] []) .ret)) }
theorem t130 : compF Tryd.prog (globs2 tabs opq) false true Tryd.f130 = some c130.erase := by kernel_rfl
noncomputable def b130_0 (O : Oracle) (R : Jump) (q : Nat) (x0 : TVal) (h : Heap) : Res1 :=
  vbin .sub 0 x0 (kI 1) h fun x5 h =>
  vbin .and 0 x0 x5 h fun x6 h =>
  vbin .eql 0 x6 (kI 0) h fun x7 h =>
  tcomp x7 fun c0 => vfin true q [c0] h
theorem e130_0 (O : Oracle) (R : Jump) (q : Nat) (x0 : TVal) (h : Heap) : b130_0 O R q x0 h = stepF c130 O R q 0 [x0] h := by kernel_rfl
noncomputable def d130 : BlkF := fun O R q => [.s fun y0 => .z fun h => b130_0 O R q y0 h]
theorem o130 (O : Oracle) (R : Jump) (q : Nat) : HoldsAll c130 O R q 0 (d130 O R q) := ⟨fun y0 h => e130_0 O R q y0 h, trivial⟩
/- math/bits.TrailingZeros -/
def c131 : MFunc := { np := 1, res := [.t 2], frz := true, body := (.seq (.reg [⟨(some 2), (.mv (.k (.v (.c (.p (.int .i64 0)))))), none⟩] []) (.seq (.cond (.k (.v (.c (.p (.bool false))))) (.seq (.reg [⟨(some 3), (.mv (.t 0)), none⟩, ⟨(some 4), (.toInt .u32 (.t 3)), none⟩, ⟨(some 5), (.call (.k (.v (.c (.func 134 [])))) [(.t 4)]), none⟩, ⟨(some 2), (.mv (.t 5)), none⟩] []) .ret) .skip) (.seq (.reg [⟨(some 6), (.mv (.t 0)), none⟩, ⟨(some 7), (.call (.k (.v (.c (.func 135 [])))) [(.t 6)]), none⟩, ⟨(some 2), (.mv (.t 7)), none⟩] []) .ret))) }
theorem t131 : compF Tryd.prog (globs2 tabs opq) false true Tryd.f131 = some c131.erase := by kernel_rfl
noncomputable def b131_0 (O : Oracle) (R : Jump) (q : Nat) (x0 : TVal) (h : Heap) : Res1 :=
  vif (kB false) (
  vtoInt .u32 x0 h fun x4 h =>
  vcall O (.v (.c (.func 134 []))) [x4] h 5 fun x5 h =>
  tcomp x5 fun c0 => vfin true q [c0] h)
  (vcall O (.v (.c (.func 135 []))) [x0] h 7 fun x7 h =>
  tcomp x7 fun c0 => vfin true q [c0] h)
theorem e131_0 (O : Oracle) (R : Jump) (q : Nat) (x0 : TVal) (h : Heap) : b131_0 O R q x0 h = stepF c131 O R q 0 [x0] h := by kernel_rfl
noncomputable def d131 : BlkF := fun O R q => [.s fun y0 => .z fun h => b131_0 O R q y0 h]
theorem o131 (O : Oracle) (R : Jump) (q : Nat) : HoldsAll c131 O R q 0 (d131 O R q) := ⟨fun y0 h => e131_0 O R q y0 h, trivial⟩
/- math/bits.TrailingZeros32 -/
def c134 : MFunc := { np := 1, res := [.t 2], frz := true, body := (.seq (.reg [⟨(some 2), (.mv (.k (.v (.c (.p (.int .i64 0)))))), none⟩] []) (.seq (.seq (.reg [⟨(some 3), (.mv (.t 0)), none⟩, ⟨(some 4), (.bin .eql 0 (.t 3) (.k (.v (.c (.p (.int .u32 0)))))), none⟩] []) (.cond (.t 4) (.seq (.reg [⟨(some 2), (.mv (.k (.v (.c (.p (.int .i64 32)))))), none⟩] []) .ret) .skip)) (.seq (.reg [⟨(some 5), (.mv (.t 0)), none⟩, ⟨(some 6), (.mv (.t 0)), none⟩, ⟨(some 7), (.un .neg (.t 6)), none⟩, ⟨(some 8), (.bin .and 0 (.t 5) (.t 7)), none⟩, ⟨(some 9), (.bin .mul 0 (.t 8) (.k (.v (.c (.p (.int .u32 125613361)))))), none⟩, ⟨(some 10), (.bin .shr 0 (.t 9) (.k (.v (.c (.p (.int .u64 27)))))), none⟩, ⟨(some 11), .bad, none⟩, ⟨(some 12), (.load false 1 (.t 11)), none⟩, ⟨(some 13), (.toInt .i64 (.t 12)), none⟩, ⟨(some 2), (.mv (.t 13)), none⟩] []) .ret))) }
theorem t134 : compF Tryd.prog (globs2 tabs opq) false true Tryd.f134 = some c134.erase := by kernel_rfl
noncomputable def b134_0 (O : Oracle) (R : Jump) (q : Nat) (x0 : TVal) (h : Heap) : Res1 :=
  vbin .eql 0 x0 (.v (.c (.p (.int .u32 0)))) h fun x4 h =>
  vif x4 (
  tcomp (kI 32) fun c0 => vfin true q [c0] h)
  (vop O (.un .neg (.k x0)) h 7 fun x7 h =>
  vbin .and 0 x0 x7 h fun x8 h =>
  vbin .mul 0 x8 (.v (.c (.p (.int .u32 125613361)))) h fun x9 h =>
  vbin .shr 0 x9 (.v (.c (.p (.int .u64 27)))) h fun x10 h =>
  none)
theorem e134_0 (O : Oracle) (R : Jump) (q : Nat) (x0 : TVal) (h : Heap) : b134_0 O R q x0 h = stepF c134 O R q 0 [x0] h := by kernel_rfl
noncomputable def d134 : BlkF := fun O R q => [.s fun y0 => .z fun h => b134_0 O R q y0 h]
theorem o134 (O : Oracle) (R : Jump) (q : Nat) : HoldsAll c134 O R q 0 (d134 O R q) := ⟨fun y0 h => e134_0 O R q y0 h, trivial⟩
/- math/bits.TrailingZeros64 -/
def c135 : MFunc := { np := 1, res := [.t 2], frz := true, body := (.seq (.reg [⟨(some 2), (.mv (.k (.v (.c (.p (.int .i64 0)))))), none⟩] []) (.seq (.seq (.reg [⟨(some 3), (.mv (.t 0)), none⟩, ⟨(some 4), (.bin .eql 0 (.t 3) (.k (.v (.c (.p (.int .u64 0)))))), none⟩] []) (.cond (.t 4) (.seq (.reg [⟨(some 2), (.mv (.k (.v (.c (.p (.int .i64 64)))))), none⟩] []) .ret) .skip)) (.seq (.reg [⟨(some 5), (.mv (.t 0)), none⟩, ⟨(some 6), (.mv (.t 0)), none⟩, ⟨(some 7), (.un .neg (.t 6)), none⟩, ⟨(some 8), (.bin .and 0 (.t 5) (.t 7)), none⟩, ⟨(some 9), (.bin .mul 0 (.t 8) (.k (.v (.c (.p (.int .u64 285870213051353865)))))), none⟩, ⟨(some 10), (.bin .shr 0 (.t 9) (.k (.v (.c (.p (.int .u64 58)))))), none⟩, ⟨(some 11), .bad, none⟩, ⟨(some 12), (.load false 1 (.t 11)), none⟩, ⟨(some 13), (.toInt .i64 (.t 12)), none⟩, ⟨(some 2), (.mv (.t 13)), none⟩] []) .ret))) }
theorem t135 : compF Tryd.prog (globs2 tabs opq) false true Tryd.f135 = some c135.erase := by kernel_rfl
noncomputable def b135_0 (O : Oracle) (R : Jump) (q : Nat) (x0 : TVal) (h : Heap) : Res1 :=
  vbin .eql 0 x0 (.v (.c (.p (.int .u64 0)))) h fun x4 h =>
  vif x4 (
  tcomp (kI 64) fun c0 => vfin true q [c0] h)
  (vop O (.un .neg (.k x0)) h 7 fun x7 h =>
  vbin .and 0 x0 x7 h fun x8 h =>
  vbin .mul 0 x8 (.v (.c (.p (.int .u64 285870213051353865)))) h fun x9 h =>
  vbin .shr 0 x9 (.v (.c (.p (.int .u64 58)))) h fun x10 h =>
  none)
theorem e135_0 (O : Oracle) (R : Jump) (q : Nat) (x0 : TVal) (h : Heap) : b135_0 O R q x0 h = stepF c135 O R q 0 [x0] h := by kernel_rfl
noncomputable def d135 : BlkF := fun O R q => [.s fun y0 => .z fun h => b135_0 O R q y0 h]
theorem o135 (O : Oracle) (R : Jump) (q : Nat) : HoldsAll c135 O R q 0 (d135 O R q) := ⟨fun y0 h => e135_0 O R q y0 h, trivial⟩
end Go.Proofs.YtkkbfljipfndgaaDoor.Ab
