/- Functions of the given program as the abstract interpreter has them (part 2), printed by a program of our own; each is shown to be what 'compF' makes of the given program's. No condition. -/
import Derived.Test.YtoaankpddboioaaGreatDoorTabI1
namespace Go.Proofs.YtoaankpddboioaaGreatDoor.Ab
open Go Go.AI
set_option linter.all false
set_option linter.unusedVariables false
set_option maxRecDepth 100000
/- sprue/data.own -/
def c75 : MFunc := { np := 1, res := [.cell 2 true 6], frz := true, body := (.seq (.reg [(oA 1 (.box (.t 0) false)), (oA 2 (.alloc [(.p (.int .i64 0)), (.p (.bool false)), (.p (.int .i64 0)), (.p (.str [])), (.p .nilslice), (.p .nilslice)] false))] []) (.seq (.reg [(oA 5 (.faddr 4 (.t 1))), (oA 6 (.load false 1 (.t 5))), (oA 7 (.call (.k (.v (.c (.func 88 [])))) [(.t 6)])), (oA 8 (.faddr 5 (.t 1))), (oA 9 (.load false 1 (.t 8))), (oA 10 (.call (.k (.v (.c (.func 28 [])))) [(.t 9)])), (oA 11 (.faddr 4 (.t 1))), (oN (.store 1 (.t 11) (.t 7))), (oA 12 (.faddr 5 (.t 1))), (oN (.store 1 (.t 12) (.t 10)))] [(2, 4)]) (.seq (.seq (.reg [(oA 13 (.faddr 5 (.t 1))), (oA 14 (.load false 1 (.t 13))), (oA 15 (.len 2 (.t 14))), (oA 16 (.mv (.k (.v (.c (.p (.int .i64 0)))))))] []) (.block 0 (.loop 1 [1, 2, 14, 15, 16] (.seq (.reg [(oA 17 (.bin .lss 0 (.t 16) (.t 15)))] []) (.seq (.cond (.t 17) .skip (.exit 0)) (.seq (.block 1 (.seq (.reg [(oA 18 (.mv (.t 16))), (oA 19 (.iaddr 6 (.t 14) (.t 16))), (oA 20 (.load true 6 (.t 19))), (oA 4 (.alloc [(.p (.int .i64 0)), (.p (.bool false)), (.p (.int .i64 0)), (.p (.str [])), (.p .nilslice), (.p .nilslice)] false)), (oA 3 (.mv (.t 18))), (oN (.store 6 (.t 4) (.t 20)))] []) (.reg [(oA 21 (.faddr 5 (.t 1))), (oA 22 (.load false 1 (.t 21))), (oA 23 (.mv (.t 3))), (oA 24 (.load true 6 (.t 4))), (oA 25 (.call (.k (.v (.c (.func 75 [])))) [(.t 24)])), (oA 26 (.iaddr 6 (.t 22) (.t 23))), (oN (.store 6 (.t 26) (.t 25)))] [(1, 4)]))) (.reg [(oA 27 (.bin .add 0 (.t 16) (.k (.v (.c (.p (.int .i64 1))))))), (oA 16 (.mv (.t 27)))] []))))))) (.mark 2 [1, 2] (.seq (.reg [(oA 28 (.load true 6 (.t 1))), (oN (.store 6 (.t 2) (.t 28)))] []) .ret))))) }
theorem t75 : compF Tryz.prog (globs2 tabs opq) (fun _ => false) true Tryz.f75 = some c75.erase := by kernel_rfl
noncomputable def b75_0 (O : Oracle) (R : Jump) (q : Nat) (x0 : TVal) (h : Heap) : Res1 :=
 vop O (.box (.k x0) false) h 1 fun x1 h =>
 vop O (.alloc [(.p (.int .i64 0)), (.p (.bool false)), (.p (.int .i64 0)), (.p (.str [])), (.p .nilslice), (.p .nilslice)] false) h 2 fun x2 h =>
 vtouch O (.faddr 4 (.k x1)) h 5 fun x5 h t0 =>
 vtouch O (.load false 1 (.k x5)) h 6 fun x6 h t1 =>
 vtouch O (.call (.k (.v (.c (.func 88 [])))) [(.k x6)]) h 7 fun x7 h t2 =>
 vtouch O (.faddr 5 (.k x1)) h 8 fun x8 h t3 =>
 vtouch O (.load false 1 (.k x8)) h 9 fun x9 h t4 =>
 vtouch O (.call (.k (.v (.c (.func 28 [])))) [(.k x9)]) h 10 fun x10 h t5 =>
 vtouch O (.faddr 4 (.k x1)) h 11 fun x11 h t6 =>
 vtouch O (.store 1 (.k x11) (.k x7)) h 1000000 fun _ h t7 =>
 vtouch O (.faddr 5 (.k x1)) h 12 fun x12 h t8 =>
 vtouch O (.store 1 (.k x12) (.k x10)) h 1000000 fun _ h t9 =>
 bif apartAll [t0, t1, t2, t3, t4, t5, t6, t7, t8, t9] [(2, 4)] then
 vfaddr 5 x1 h fun x13 h =>
 vload false 1 x13 h fun x14 h =>
 vlen O 2 x14 h 15 fun x15 h =>
 R 1 [x1, x2, x14, x15, (kI 0)] h
 else none
theorem e75_0 (O : Oracle) (R : Jump) (q : Nat) (x0 : TVal) (h : Heap) : b75_0 O R q x0 h = stepF c75 O R q 0 [x0] h := by kernel_rfl
noncomputable def b75_1 (O : Oracle) (R : Jump) (q : Nat) (x1 x2 x14 x15 x16 : TVal) (h : Heap) : Res1 :=
 vbin .lss 0 x16 x15 h fun x17 h =>
 vif x17 (
 viaddr 6 x14 x16 h fun x19 h =>
 vload true 6 x19 h fun x20 h =>
 vop O (.alloc [(.p (.int .i64 0)), (.p (.bool false)), (.p (.int .i64 0)), (.p (.str [])), (.p .nilslice), (.p .nilslice)] false) h 4 fun x4 h =>
 vstore 6 x4 x20 h fun _ h =>
 vtouch O (.faddr 5 (.k x1)) h 21 fun x21 h t0 =>
 vtouch O (.load false 1 (.k x21)) h 22 fun x22 h t1 =>
 vtouch O (.mv (.k x16)) h 23 fun x23 h t2 =>
 vtouch O (.load true 6 (.k x4)) h 24 fun x24 h t3 =>
 vtouch O (.call (.k (.v (.c (.func 75 [])))) [(.k x24)]) h 25 fun x25 h t4 =>
 vtouch O (.iaddr 6 (.k x22) (.k x23)) h 26 fun x26 h t5 =>
 vtouch O (.store 6 (.k x26) (.k x25)) h 1000000 fun _ h t6 =>
 bif apartAll [t0, t1, t2, t3, t4, t5, t6] [(1, 4)] then
 vbin .add 0 x16 (kI 1) h fun x27 h =>
 R 1 [x1, x2, x14, x15, x27] h
 else none)
 (R 2 [x1, x2] h)
theorem e75_1 (O : Oracle) (R : Jump) (q : Nat) (x1 x2 x14 x15 x16 : TVal) (h : Heap) : b75_1 O R q x1 x2 x14 x15 x16 h = stepF c75 O R q 1 [x1, x2, x14, x15, x16] h := by kernel_rfl
noncomputable def b75_2 (O : Oracle) (R : Jump) (q : Nat) (x1 x2 : TVal) (h : Heap) : Res1 :=
 vload true 6 x1 h fun x28 h =>
 vstore 6 x2 x28 h fun _ h =>
 vcell true 6 x2 h fun c0 => vfin true q [c0] h
theorem e75_2 (O : Oracle) (R : Jump) (q : Nat) (x1 x2 : TVal) (h : Heap) : b75_2 O R q x1 x2 h = stepF c75 O R q 2 [x1, x2] h := by kernel_rfl
noncomputable def d75 : BlkF := fun O R q => [.s fun y0 => .z fun h => b75_0 O R q y0 h, .s fun y0 => .s fun y1 => .s fun y2 => .s fun y3 => .s fun y4 => .z fun h => b75_1 O R q y0 y1 y2 y3 y4 h, .s fun y0 => .s fun y1 => .z fun h => b75_2 O R q y0 y1 h]
theorem o75 (O : Oracle) (R : Jump) (q : Nat) : HoldsAll c75 O R q 0 (d75 O R q) := ⟨fun y0 h => e75_0 O R q y0 h, fun y0 y1 y2 y3 y4 h => e75_1 O R q y0 y1 y2 y3 y4 h, fun y0 y1 h => e75_2 O R q y0 y1 h, trivial⟩
/- (*sprue/interp.run).command -/
def c76 : MFunc := { np := 4, res := [.cell 8 true 6, .t 9], frz := true, body := (.seq (.reg [(oA 5 (.box (.t 1) true)), (oA 6 (.box (.t 2) true)), (oA 8 (.alloc [(.p (.int .i64 0)), (.p (.bool false)), (.p (.int .i64 0)), (.p (.str [])), (.p .nilslice), (.p .nilslice)] true)), (oA 9 (.mv (.k (.v (.c (.p (.int .i64 0)))))))] []) (.seq (.seq (.reg [(oA 13 (.mv (.t 0))), (oA 14 (.call (.k (.v (.c (.func 55 [])))) [(.t 13)])), (oA 10 (.mv (.t 14)))] []) (.seq (.reg [(oA 15 (.mv (.t 10))), (oA 16 (.bin .neq 0 (.t 15) (.k (.v (.c (.p (.int .i64 0)))))))] []) (.cond (.t 16) (.seq (.reg [(oA 17 (.build [(.p (.int .i64 0)), (.p (.bool false)), (.p (.int .i64 0)), (.p (.str [])), (.p .nilslice), (.p .nilslice)] [])), (oA 18 (.mv (.t 10))), (oN (.store 6 (.t 8) (.t 17))), (oA 9 (.mv (.t 18)))] []) .ret) .skip))) (.seq (.seq (.reg [(oA 19 (.faddr 0 (.t 6))), (oA 20 (.load false 1 (.t 19))), (oA 21 (.len 2 (.t 20))), (oA 22 (.bin .eql 0 (.t 21) (.k (.v (.c (.p (.int .i64 0)))))))] []) (.cond (.t 22) (.seq (.reg [(oA 23 (.build [(.p (.int .i64 0)), (.p (.bool false)), (.p (.int .i64 0)), (.p (.str [])), (.p .nilslice), (.p .nilslice)] [])), (oN (.store 6 (.t 8) (.t 23))), (oA 9 (.mv (.k (.v (.c (.p (.int .i64 12)))))))] []) .ret) .skip)) (.seq (.seq (.reg [(oA 24 (.faddr 0 (.t 6))), (oA 25 (.load false 1 (.t 24))), (oA 26 (.iaddr 7 (.t 25) (.k (.v (.c (.p (.int .i64 0))))))), (oA 27 (.faddr 0 (.t 26))), (oA 28 (.load false 1 (.t 27))), (oA 29 (.bin .eql 0 (.t 28) (.k (.v (.c (.p (.int .i64 6)))))))] []) (.cond (.t 29) (.seq (.reg [(oA 30 (.mv (.t 0))), (oA 31 (.load true 8 (.t 5))), (oA 32 (.load true 1 (.t 6))), (oA 33 (.mv (.t 3))), (oA 34 (.call (.k (.v (.c (.func 89 [])))) [(.t 30), (.t 31), (.t 32), (.t 33)])), (oA 35 (.extract (.t 34) 0)), (oA 36 (.extract (.t 34) 1)), (oN (.store 6 (.t 8) (.t 35))), (oA 9 (.mv (.t 36)))] []) .ret) .skip)) (.seq (.reg [(oA 38 (.mv (.t 0))), (oA 39 (.load true 8 (.t 5))), (oA 40 (.faddr 0 (.t 6))), (oA 41 (.load false 1 (.t 40))), (oA 42 (.iaddr 7 (.t 41) (.k (.v (.c (.p (.int .i64 0))))))), (oA 43 (.load true 7 (.t 42))), (oA 44 (.call (.k (.v (.c (.func 90 [])))) [(.t 38), (.t 39), (.t 43)])), (oA 37 (.mv (.t 44))), (oA 45 (.extract (.t 37) 0)), (oA 46 (.extract (.t 37) 1)), (oA 11 (.alloc [(.p (.int .i64 0)), (.p (.bool false)), (.p (.int .i64 0)), (.p (.str [])), (.p .nilslice), (.p .nilslice)] true)), (oN (.store 6 (.t 11) (.t 45))), (oA 12 (.mv (.t 46)))] [(1, 10), (3, 10), (5, 10), (6, 10)]) (.seq (.seq (.reg [(oA 47 (.mv (.t 12))), (oA 48 (.bin .eql 0 (.t 47) (.k (.v (.c (.p (.int .i64 0))))))), (oA 49 (.mv (.t 48))), ⟨(some 50), (.mv (.t 3)), (some (49, true))⟩, ⟨(some 51), (.len 2 (.t 50)), (some (49, true))⟩, ⟨(some 52), (.bin .gtr 0 (.t 51) (.k (.v (.c (.p (.int .i64 0)))))), (some (49, true))⟩, (oA 53 (.pick (.t 49) (.t 52) (.k (.v (.c (.p (.bool false)))))))] []) (.cond (.t 53) (.seq (.reg [(oA 54 (.build [(.p (.int .i64 0)), (.p (.bool false)), (.p (.int .i64 0)), (.p (.str [])), (.p .nilslice), (.p .nilslice)] [])), (oN (.store 6 (.t 8) (.t 54))), (oA 9 (.mv (.k (.v (.c (.p (.int .i64 18)))))))] []) .ret) .skip)) (.seq (.reg [(oA 55 (.load true 6 (.t 11))), (oA 56 (.mv (.t 12))), (oN (.store 6 (.t 8) (.t 55))), (oA 9 (.mv (.t 56)))] []) .ret))))))) }
theorem t76 : compF Tryz.prog (globs2 tabs opq) (fun _ => true) true Tryz.f76 = some c76.erase := by kernel_rfl
noncomputable def b76_0 (O : Oracle) (R : Jump) (q : Nat) (x0 x1 x2 x3 : TVal) (h : Heap) : Res1 :=
 vop O (.box (.k x1) true) h 5 fun x5 h =>
 vop O (.box (.k x2) true) h 6 fun x6 h =>
 vop O (.alloc [(.p (.int .i64 0)), (.p (.bool false)), (.p (.int .i64 0)), (.p (.str [])), (.p .nilslice), (.p .nilslice)] true) h 8 fun x8 h =>
 vcall O (.v (.c (.func 55 []))) [x0] h 14 fun x14 h =>
 vbin .neq 0 x14 (kI 0) h fun x16 h =>
 vif x16 (
 vop O (.build [(.p (.int .i64 0)), (.p (.bool false)), (.p (.int .i64 0)), (.p (.str [])), (.p .nilslice), (.p .nilslice)] []) h 17 fun x17 h =>
 vstore 6 x8 x17 h fun _ h =>
 vcell true 6 x8 h fun c0 => tcomp x14 fun c1 => vfin true q [c0, c1] h)
 (vfaddr 0 x6 h fun x19 h =>
 vload false 1 x19 h fun x20 h =>
 vlen O 2 x20 h 21 fun x21 h =>
 vbin .eql 0 x21 (kI 0) h fun x22 h =>
 vif x22 (
 vop O (.build [(.p (.int .i64 0)), (.p (.bool false)), (.p (.int .i64 0)), (.p (.str [])), (.p .nilslice), (.p .nilslice)] []) h 23 fun x23 h =>
 vstore 6 x8 x23 h fun _ h =>
 vcell true 6 x8 h fun c0 => tcomp (kI 12) fun c1 => vfin true q [c0, c1] h)
 (vfaddr 0 x6 h fun x24 h =>
 vload false 1 x24 h fun x25 h =>
 viaddr 7 x25 (kI 0) h fun x26 h =>
 vfaddr 0 x26 h fun x27 h =>
 vload false 1 x27 h fun x28 h =>
 vbin .eql 0 x28 (kI 6) h fun x29 h =>
 vif x29 (
 vload true 8 x5 h fun x31 h =>
 vload true 1 x6 h fun x32 h =>
 vcall O (.v (.c (.func 89 []))) [x0, x31, x32, x3] h 34 fun x34 h =>
 vext x34 0 h fun x35 h =>
 vext x34 1 h fun x36 h =>
 vstore 6 x8 x35 h fun _ h =>
 vcell true 6 x8 h fun c0 => tcomp x36 fun c1 => vfin true q [c0, c1] h)
 (vtouch O (.mv (.k x0)) h 38 fun x38 h t0 =>
 vtouch O (.load true 8 (.k x5)) h 39 fun x39 h t1 =>
 vtouch O (.faddr 0 (.k x6)) h 40 fun x40 h t2 =>
 vtouch O (.load false 1 (.k x40)) h 41 fun x41 h t3 =>
 vtouch O (.iaddr 7 (.k x41) (.k (kI 0))) h 42 fun x42 h t4 =>
 vtouch O (.load true 7 (.k x42)) h 43 fun x43 h t5 =>
 vtouch O (.call (.k (.v (.c (.func 90 [])))) [(.k x38), (.k x39), (.k x43)]) h 44 fun x44 h t6 =>
 vtouch O (.mv (.k x44)) h 37 fun x37 h t7 =>
 vtouch O (.extract (.k x37) 0) h 45 fun x45 h t8 =>
 vtouch O (.extract (.k x37) 1) h 46 fun x46 h t9 =>
 vtouch O (.alloc [(.p (.int .i64 0)), (.p (.bool false)), (.p (.int .i64 0)), (.p (.str [])), (.p .nilslice), (.p .nilslice)] true) h 11 fun x11 h t10 =>
 vtouch O (.store 6 (.k x11) (.k x45)) h 1000000 fun _ h t11 =>
 vtouch O (.mv (.k x46)) h 12 fun x12 h t12 =>
 bif apartAll [t0, t1, t2, t3, t4, t5, t6, t7, t8, t9, t10, t11, t12] [(1, 10), (3, 10), (5, 10), (6, 10)] then
 vbin .eql 0 x12 (kI 0) h fun x48 h =>
 vguard x48 true (fun kk => kk x3 h) h fun x50 h =>
 vguard x48 true (fun kk => vlen O 2 x50 h 51 kk) h fun x51 h =>
 vguard x48 true (fun kk => vbin .gtr 0 x51 (kI 0) h kk) h fun x52 h =>
 vop O (.pick (.k x48) (.k x52) (.k (kB false))) h 53 fun x53 h =>
 vif x53 (
 vop O (.build [(.p (.int .i64 0)), (.p (.bool false)), (.p (.int .i64 0)), (.p (.str [])), (.p .nilslice), (.p .nilslice)] []) h 54 fun x54 h =>
 vstore 6 x8 x54 h fun _ h =>
 vcell true 6 x8 h fun c0 => tcomp (kI 18) fun c1 => vfin true q [c0, c1] h)
 (vload true 6 x11 h fun x55 h =>
 vstore 6 x8 x55 h fun _ h =>
 vcell true 6 x8 h fun c0 => tcomp x12 fun c1 => vfin true q [c0, c1] h)
 else none)))
theorem e76_0 (O : Oracle) (R : Jump) (q : Nat) (x0 x1 x2 x3 : TVal) (h : Heap) : b76_0 O R q x0 x1 x2 x3 h = stepF c76 O R q 0 [x0, x1, x2, x3] h := by kernel_rfl
noncomputable def d76 : BlkF := fun O R q => [.s fun y0 => .s fun y1 => .s fun y2 => .s fun y3 => .z fun h => b76_0 O R q y0 y1 y2 y3 h]
theorem o76 (O : Oracle) (R : Jump) (q : Nat) : HoldsAll c76 O R q 0 (d76 O R q) := ⟨fun y0 y1 y2 y3 h => e76_0 O R q y0 y1 y2 y3 h, trivial⟩
/- (*sprue/interp.run).print -/
def c77 : MFunc := { np := 2, res := [.t 4], frz := true, body := (.seq (.reg [(oA 3 (.box (.t 1) true)), (oA 4 (.mv (.k (.v (.c (.p (.int .i64 0)))))))] []) (.seq (.seq (.reg [(oA 5 (.faddr 0 (.t 3))), (oA 6 (.load false 1 (.t 5)))] []) (.block 0 (.seq (.reg [(oA 8 (.bin .eql 0 (.t 6) (.k (.v (.c (.p (.int .i64 1))))))), (oA 7 (.mv (.t 8)))] []) (.cond (.t 7) (.seq (.reg [(oA 9 (.mv (.t 0))), (oA 10 (.faddr 1 (.t 3))), (oA 11 (.load false 1 (.t 10))), (oA 12 (.call (.k (.v (.c (.func 91 [])))) [(.t 11)])), (oA 13 (.call (.k (.v (.c (.func 56 [])))) [(.t 9), (.t 12)])), (oA 4 (.mv (.t 13)))] []) .ret) (.seq (.reg [(oA 15 (.bin .eql 0 (.t 6) (.k (.v (.c (.p (.int .i64 2))))))), (oA 14 (.mv (.t 15)))] []) (.cond (.t 14) (.seq (.reg [(oA 16 (.mv (.t 0))), (oA 17 (.faddr 2 (.t 3))), (oA 18 (.load false 1 (.t 17))), (oA 19 (.call (.k (.v (.c (.func 92 [])))) [(.t 18), (.k (.v (.c (.p (.int .i64 10)))))])), (oA 20 (.call (.k (.v (.c (.func 56 [])))) [(.t 16), (.t 19)])), (oA 4 (.mv (.t 20)))] []) .ret) (.seq (.reg [(oA 22 (.bin .eql 0 (.t 6) (.k (.v (.c (.p (.int .i64 3))))))), (oA 21 (.mv (.t 22)))] []) (.cond (.t 21) (.seq (.reg [(oA 23 (.mv (.t 0))), (oA 24 (.faddr 3 (.t 3))), (oA 25 (.load false 1 (.t 24))), (oA 26 (.call (.k (.v (.c (.func 56 [])))) [(.t 23), (.t 25)])), (oA 4 (.mv (.t 26)))] []) .ret) .skip)))))))) (.seq (.reg [(oA 4 (.mv (.k (.v (.c (.p (.int .i64 17)))))))] []) .ret))) }
theorem t77 : compF Tryz.prog (globs2 tabs opq) (fun _ => true) true Tryz.f77 = some c77.erase := by kernel_rfl
noncomputable def b77_0 (O : Oracle) (R : Jump) (q : Nat) (x0 x1 : TVal) (h : Heap) : Res1 :=
 vop O (.box (.k x1) true) h 3 fun x3 h =>
 vfaddr 0 x3 h fun x5 h =>
 vload false 1 x5 h fun x6 h =>
 vbin .eql 0 x6 (kI 1) h fun x8 h =>
 vif x8 (
 vfaddr 1 x3 h fun x10 h =>
 vload false 1 x10 h fun x11 h =>
 vcall O (.v (.c (.func 91 []))) [x11] h 12 fun x12 h =>
 vcall O (.v (.c (.func 56 []))) [x0, x12] h 13 fun x13 h =>
 tcomp x13 fun c0 => vfin true q [c0] h)
 (vbin .eql 0 x6 (kI 2) h fun x15 h =>
 vif x15 (
 vfaddr 2 x3 h fun x17 h =>
 vload false 1 x17 h fun x18 h =>
 vcall O (.v (.c (.func 92 []))) [x18, (kI 10)] h 19 fun x19 h =>
 vcall O (.v (.c (.func 56 []))) [x0, x19] h 20 fun x20 h =>
 tcomp x20 fun c0 => vfin true q [c0] h)
 (vbin .eql 0 x6 (kI 3) h fun x22 h =>
 vif x22 (
 vfaddr 3 x3 h fun x24 h =>
 vload false 1 x24 h fun x25 h =>
 vcall O (.v (.c (.func 56 []))) [x0, x25] h 26 fun x26 h =>
 tcomp x26 fun c0 => vfin true q [c0] h)
 (tcomp (kI 17) fun c0 => vfin true q [c0] h)))
theorem e77_0 (O : Oracle) (R : Jump) (q : Nat) (x0 x1 : TVal) (h : Heap) : b77_0 O R q x0 x1 h = stepF c77 O R q 0 [x0, x1] h := by kernel_rfl
noncomputable def d77 : BlkF := fun O R q => [.s fun y0 => .s fun y1 => .z fun h => b77_0 O R q y0 y1 h]
theorem o77 (O : Oracle) (R : Jump) (q : Nat) : HoldsAll c77 O R q 0 (d77 O R q) := ⟨fun y0 y1 h => e77_0 O R q y0 y1 h, trivial⟩
/- (sprue/interp.scope).find -/
def c78 : MFunc := { np := 2, res := [.cell 4 false 1], frz := false, body := (.seq (.reg [(oA 2 (.box (.t 0) false)), (oA 3 (.box (.t 1) false)), (oA 4 (.alloc [(.p .nilptr)] false))] []) (.seq (.seq (.reg [(oA 7 (.faddr 6 (.t 2))), (oA 8 (.load false 1 (.t 7))), (oA 9 (.call (.k (.v (.c (.func 93 [])))) [(.t 8)]))] []) (.block 0 .bad)) (.seq (.reg [(oN (.store 1 (.t 4) (.k (.v (.c (.p .nilptr))))))] []) .ret))) }
theorem t78 : compF Tryz.prog (globs2 tabs opq) (fun _ => false) false Tryz.f78 = some c78.erase := by kernel_rfl
noncomputable def b78_0 (O : Oracle) (R : Jump) (q : Nat) (x0 x1 : TVal) (h : Heap) : Res1 :=
 vop O (.box (.k x0) false) h 2 fun x2 h =>
 vop O (.box (.k x1) false) h 3 fun x3 h =>
 vop O (.alloc [(.p .nilptr)] false) h 4 fun x4 h =>
 vfaddr 6 x2 h fun x7 h =>
 vload false 1 x7 h fun x8 h =>
 vcall O (.v (.c (.func 93 []))) [x8] h 9 fun x9 h =>
 none
theorem e78_0 (O : Oracle) (R : Jump) (q : Nat) (x0 x1 : TVal) (h : Heap) : b78_0 O R q x0 x1 h = stepF c78 O R q 0 [x0, x1] h := by kernel_rfl
noncomputable def d78 : BlkF := fun O R q => [.s fun y0 => .s fun y1 => .z fun h => b78_0 O R q y0 y1 h]
theorem o78 (O : Oracle) (R : Jump) (q : Nat) : HoldsAll c78 O R q 0 (d78 O R q) := ⟨fun y0 y1 h => e78_0 O R q y0 y1 h, trivial⟩
/- (sprue/interp.scope).with -/
def c79 : MFunc := { np := 2, res := [.cell 4 true 8], frz := false, body := (.seq (.reg [(oA 2 (.box (.t 0) false)), (oA 3 (.box (.t 1) false)), (oA 4 (.alloc [(.p (.int .i64 0)), (.p (.bool false)), (.p (.int .i64 0)), (.p (.str [])), (.p .nilslice), (.p .nilslice), (.p .nilslice), (.p (.int .i64 0))] false))] []) (.seq (.reg [(oA 5 (.load true 6 (.t 3))), (oA 6 (.faddr 0 (.t 2))), (oN (.store 6 (.t 6) (.t 5)))] []) (.seq (.reg [(oA 7 (.load true 8 (.t 2))), (oN (.store 8 (.t 4) (.t 7)))] []) .ret))) }
theorem t79 : compF Tryz.prog (globs2 tabs opq) (fun _ => false) false Tryz.f79 = some c79.erase := by kernel_rfl
noncomputable def b79_0 (O : Oracle) (R : Jump) (q : Nat) (x0 x1 : TVal) (h : Heap) : Res1 :=
 vop O (.box (.k x0) false) h 2 fun x2 h =>
 vop O (.box (.k x1) false) h 3 fun x3 h =>
 vop O (.alloc [(.p (.int .i64 0)), (.p (.bool false)), (.p (.int .i64 0)), (.p (.str [])), (.p .nilslice), (.p .nilslice), (.p .nilslice), (.p (.int .i64 0))] false) h 4 fun x4 h =>
 vload true 6 x3 h fun x5 h =>
 vfaddr 0 x2 h fun x6 h =>
 vstore 6 x6 x5 h fun _ h =>
 vload true 8 x2 h fun x7 h =>
 vstore 8 x4 x7 h fun _ h =>
 vcell true 8 x4 h fun c0 => vfin false q [c0] h
theorem e79_0 (O : Oracle) (R : Jump) (q : Nat) (x0 x1 : TVal) (h : Heap) : b79_0 O R q x0 x1 h = stepF c79 O R q 0 [x0, x1] h := by kernel_rfl
noncomputable def d79 : BlkF := fun O R q => [.s fun y0 => .s fun y1 => .z fun h => b79_0 O R q y0 y1 h]
theorem o79 (O : Oracle) (R : Jump) (q : Nat) : HoldsAll c79 O R q 0 (d79 O R q) := ⟨fun y0 y1 h => e79_0 O R q y0 y1 h, trivial⟩
/- (*sprue/interp.run).each -/
def c80 : MFunc := { np := 4, res := [.t 8], frz := true, body := (.seq (.reg [(oA 5 (.box (.t 1) true)), (oA 6 (.box (.t 2) true)), (oA 7 (.box (.t 3) true)), (oA 8 (.mv (.k (.v (.c (.p (.int .i64 0)))))))] []) (.seq (.seq (.reg [(oA 13 (.faddr 0 (.t 7))), (oA 14 (.load false 1 (.t 13)))] []) (.block 0 (.seq (.seq (.reg [(oA 16 (.bin .eql 0 (.t 14) (.k (.v (.c (.p (.int .i64 4))))))), (oA 15 (.mv (.t 16)))] []) (.cond (.t 15) .skip (.reg [(oA 17 (.bin .eql 0 (.t 14) (.k (.v (.c (.p (.int .i64 5))))))), (oA 15 (.mv (.t 17)))] []))) (.mark 1 [0, 5, 6, 7, 15] (.cond (.t 15) (.seq (.reg [(oA 18 (.faddr 5 (.t 7))), (oA 19 (.load false 1 (.t 18))), (oA 20 (.len 2 (.t 19))), (oA 21 (.bin .eql 0 (.t 20) (.k (.v (.c (.p (.int .i64 0)))))))] []) (.cond (.t 21) (.seq (.reg [(oA 22 (.mv (.t 0))), (oA 23 (.load true 8 (.t 5))), (oA 24 (.faddr 6 (.t 6))), (oA 25 (.load false 1 (.t 24))), (oA 26 (.call (.k (.v (.c (.func 31 [])))) [(.t 22), (.t 23), (.t 25)])), (oA 8 (.mv (.t 26)))] []) .ret) .skip)) (.seq (.reg [(oA 8 (.mv (.k (.v (.c (.p (.int .i64 17)))))))] []) .ret)))))) (.seq (.seq (.reg [(oA 27 (.faddr 5 (.t 7))), (oA 28 (.load false 1 (.t 27))), (oA 29 (.len 2 (.t 28))), (oA 30 (.mv (.k (.v (.c (.p (.int .i64 0)))))))] []) (.block 1 (.loop 2 [0, 5, 6, 28, 29, 30] (.seq (.reg [(oA 31 (.bin .lss 0 (.t 30) (.t 29)))] []) (.seq (.cond (.t 31) .skip (.exit 1)) (.seq (.block 2 (.seq (.reg [(oA 32 (.iaddr 6 (.t 28) (.t 30))), (oA 33 (.load true 6 (.t 32))), (oA 10 (.alloc [(.p (.int .i64 0)), (.p (.bool false)), (.p (.int .i64 0)), (.p (.str [])), (.p .nilslice), (.p .nilslice)] true)), (oN (.store 6 (.t 10) (.t 33)))] []) (.seq (.seq (.reg [(oA 34 (.mv (.t 0))), (oA 35 (.call (.k (.v (.c (.func 55 [])))) [(.t 34)])), (oA 11 (.mv (.t 35)))] []) (.seq (.reg [(oA 36 (.mv (.t 11))), (oA 37 (.bin .neq 0 (.t 36) (.k (.v (.c (.p (.int .i64 0)))))))] []) (.cond (.t 37) (.seq (.reg [(oA 38 (.mv (.t 11))), (oA 8 (.mv (.t 38)))] []) .ret) .skip))) (.seq (.reg [(oA 39 (.mv (.t 0))), (oA 40 (.load true 8 (.t 5))), (oA 41 (.load true 6 (.t 10))), (oA 42 (.call (.k (.v (.c (.func 79 [])))) [(.t 40), (.t 41)])), (oA 43 (.faddr 5 (.t 6))), (oA 44 (.load false 1 (.t 43))), (oA 45 (.call (.k (.v (.c (.func 31 [])))) [(.t 39), (.t 42), (.t 44)])), (oA 12 (.mv (.t 45)))] [(3, 5)]) (.seq (.reg [(oA 46 (.mv (.t 12))), (oA 47 (.bin .neq 0 (.t 46) (.k (.v (.c (.p (.int .i64 0)))))))] []) (.cond (.t 47) (.seq (.reg [(oA 48 (.mv (.t 12))), (oA 8 (.mv (.t 48)))] []) .ret) .skip)))))) (.reg [(oA 49 (.bin .add 0 (.t 30) (.k (.v (.c (.p (.int .i64 1))))))), (oA 30 (.mv (.t 49)))] []))))))) (.seq (.reg [(oA 8 (.mv (.k (.v (.c (.p (.int .i64 0)))))))] []) .ret)))) }
theorem t80 : compF Tryz.prog (globs2 tabs opq) (fun _ => true) true Tryz.f80 = some c80.erase := by kernel_rfl
noncomputable def b80_0 (O : Oracle) (R : Jump) (q : Nat) (x0 x1 x2 x3 : TVal) (h : Heap) : Res1 :=
 vop O (.box (.k x1) true) h 5 fun x5 h =>
 vop O (.box (.k x2) true) h 6 fun x6 h =>
 vop O (.box (.k x3) true) h 7 fun x7 h =>
 vfaddr 0 x7 h fun x13 h =>
 vload false 1 x13 h fun x14 h =>
 vbin .eql 0 x14 (kI 4) h fun x16 h =>
 vif x16 (
 R 1 [x0, x5, x6, x7, x16] h)
 (vbin .eql 0 x14 (kI 5) h fun x17 h =>
 R 1 [x0, x5, x6, x7, x17] h)
theorem e80_0 (O : Oracle) (R : Jump) (q : Nat) (x0 x1 x2 x3 : TVal) (h : Heap) : b80_0 O R q x0 x1 x2 x3 h = stepF c80 O R q 0 [x0, x1, x2, x3] h := by kernel_rfl
noncomputable def b80_1 (O : Oracle) (R : Jump) (q : Nat) (x0 x5 x6 x7 x15 : TVal) (h : Heap) : Res1 :=
 vif x15 (
 vfaddr 5 x7 h fun x18 h =>
 vload false 1 x18 h fun x19 h =>
 vlen O 2 x19 h 20 fun x20 h =>
 vbin .eql 0 x20 (kI 0) h fun x21 h =>
 vif x21 (
 vload true 8 x5 h fun x23 h =>
 vfaddr 6 x6 h fun x24 h =>
 vload false 1 x24 h fun x25 h =>
 vcall O (.v (.c (.func 31 []))) [x0, x23, x25] h 26 fun x26 h =>
 tcomp x26 fun c0 => vfin true q [c0] h)
 (vfaddr 5 x7 h fun x27 h =>
 vload false 1 x27 h fun x28 h =>
 vlen O 2 x28 h 29 fun x29 h =>
 R 2 [x0, x5, x6, x28, x29, (kI 0)] h))
 (tcomp (kI 17) fun c0 => vfin true q [c0] h)
theorem e80_1 (O : Oracle) (R : Jump) (q : Nat) (x0 x5 x6 x7 x15 : TVal) (h : Heap) : b80_1 O R q x0 x5 x6 x7 x15 h = stepF c80 O R q 1 [x0, x5, x6, x7, x15] h := by kernel_rfl
noncomputable def b80_2 (O : Oracle) (R : Jump) (q : Nat) (x0 x5 x6 x28 x29 x30 : TVal) (h : Heap) : Res1 :=
 vbin .lss 0 x30 x29 h fun x31 h =>
 vif x31 (
 viaddr 6 x28 x30 h fun x32 h =>
 vload true 6 x32 h fun x33 h =>
 vop O (.alloc [(.p (.int .i64 0)), (.p (.bool false)), (.p (.int .i64 0)), (.p (.str [])), (.p .nilslice), (.p .nilslice)] true) h 10 fun x10 h =>
 vstore 6 x10 x33 h fun _ h =>
 vcall O (.v (.c (.func 55 []))) [x0] h 35 fun x35 h =>
 vbin .neq 0 x35 (kI 0) h fun x37 h =>
 vif x37 (
 tcomp x35 fun c0 => vfin true q [c0] h)
 (vtouch O (.mv (.k x0)) h 39 fun x39 h t0 =>
 vtouch O (.load true 8 (.k x5)) h 40 fun x40 h t1 =>
 vtouch O (.load true 6 (.k x10)) h 41 fun x41 h t2 =>
 vtouch O (.call (.k (.v (.c (.func 79 [])))) [(.k x40), (.k x41)]) h 42 fun x42 h t3 =>
 vtouch O (.faddr 5 (.k x6)) h 43 fun x43 h t4 =>
 vtouch O (.load false 1 (.k x43)) h 44 fun x44 h t5 =>
 vtouch O (.call (.k (.v (.c (.func 31 [])))) [(.k x39), (.k x42), (.k x44)]) h 45 fun x45 h t6 =>
 vtouch O (.mv (.k x45)) h 12 fun x12 h t7 =>
 bif apartAll [t0, t1, t2, t3, t4, t5, t6, t7] [(3, 5)] then
 vbin .neq 0 x12 (kI 0) h fun x47 h =>
 vif x47 (
 tcomp x12 fun c0 => vfin true q [c0] h)
 (vbin .add 0 x30 (kI 1) h fun x49 h =>
 R 2 [x0, x5, x6, x28, x29, x49] h)
 else none))
 (tcomp (kI 0) fun c0 => vfin true q [c0] h)
theorem e80_2 (O : Oracle) (R : Jump) (q : Nat) (x0 x5 x6 x28 x29 x30 : TVal) (h : Heap) : b80_2 O R q x0 x5 x6 x28 x29 x30 h = stepF c80 O R q 2 [x0, x5, x6, x28, x29, x30] h := by kernel_rfl
noncomputable def d80 : BlkF := fun O R q => [.s fun y0 => .s fun y1 => .s fun y2 => .s fun y3 => .z fun h => b80_0 O R q y0 y1 y2 y3 h, .s fun y0 => .s fun y1 => .s fun y2 => .s fun y3 => .s fun y4 => .z fun h => b80_1 O R q y0 y1 y2 y3 y4 h, .s fun y0 => .s fun y1 => .s fun y2 => .s fun y3 => .s fun y4 => .s fun y5 => .z fun h => b80_2 O R q y0 y1 y2 y3 y4 y5 h]
theorem o80 (O : Oracle) (R : Jump) (q : Nat) : HoldsAll c80 O R q 0 (d80 O R q) := ⟨fun y0 y1 y2 y3 h => e80_0 O R q y0 y1 y2 y3 h, fun y0 y1 y2 y3 y4 h => e80_1 O R q y0 y1 y2 y3 y4 h, fun y0 y1 y2 y3 y4 y5 h => e80_2 O R q y0 y1 y2 y3 y4 y5 h, trivial⟩
/- (*sprue/interp.run).match -/
def c81 : MFunc := { np := 4, res := [.t 8], frz := true, body := (.seq (.reg [(oA 5 (.box (.t 1) true)), (oA 6 (.box (.t 2) true)), (oA 7 (.box (.t 3) true)), (oA 8 (.mv (.k (.v (.c (.p (.int .i64 0)))))))] []) (.seq (.seq (.reg [(oA 11 (.faddr 0 (.t 7))), (oA 12 (.load false 1 (.t 11))), (oA 13 (.bin .neq 0 (.t 12) (.k (.v (.c (.p (.int .i64 5))))))), (oA 14 (.mv (.t 13))), ⟨(some 15), (.faddr 4 (.t 7)), (some (14, false))⟩, ⟨(some 16), (.load false 1 (.t 15)), (some (14, false))⟩, ⟨(some 17), (.len 2 (.t 16)), (some (14, false))⟩, ⟨(some 18), (.bin .neq 0 (.t 17) (.k (.v (.c (.p (.int .i64 1)))))), (some (14, false))⟩, (oA 19 (.pick (.t 14) (.k (.v (.c (.p (.bool true))))) (.t 18))), (oA 20 (.mv (.t 19))), ⟨(some 21), (.faddr 5 (.t 7)), (some (20, false))⟩, ⟨(some 22), (.load false 1 (.t 21)), (some (20, false))⟩, ⟨(some 23), (.len 2 (.t 22)), (some (20, false))⟩, ⟨(some 24), (.bin .neq 0 (.t 23) (.k (.v (.c (.p (.int .i64 1)))))), (some (20, false))⟩, (oA 25 (.pick (.t 20) (.k (.v (.c (.p (.bool true))))) (.t 24)))] []) (.cond (.t 25) (.seq (.reg [(oA 8 (.mv (.k (.v (.c (.p (.int .i64 17)))))))] []) .ret) .skip)) (.seq (.seq (.reg [(oA 26 (.faddr 8 (.t 6))), (oA 27 (.load false 1 (.t 26))), (oA 28 (.len 2 (.t 27))), (oA 29 (.mv (.k (.v (.c (.p (.int .i64 0)))))))] []) (.block 0 (.loop 1 [0, 5, 6, 7, 27, 28, 29] (.seq (.reg [(oA 30 (.bin .lss 0 (.t 29) (.t 28)))] []) (.seq (.cond (.t 30) .skip (.exit 0)) (.seq (.block 1 (.seq (.reg [(oA 31 (.iaddr 2 (.t 27) (.t 29))), (oA 32 (.load true 2 (.t 31))), (oA 10 (.alloc [(.p (.str [])), (.p .nilslice)] true)), (oN (.store 2 (.t 10) (.t 32)))] []) (.seq (.reg [(oA 33 (.faddr 0 (.t 10))), (oA 34 (.load false 1 (.t 33))), (oA 35 (.faddr 4 (.t 7))), (oA 36 (.load false 1 (.t 35))), (oA 37 (.iaddr 1 (.t 36) (.k (.v (.c (.p (.int .i64 0))))))), (oA 38 (.load false 1 (.t 37))), (oA 39 (.bin .eql 0 (.t 34) (.t 38)))] []) (.cond (.t 39) (.seq (.reg [(oA 40 (.mv (.t 0))), (oA 41 (.load true 8 (.t 5))), (oA 42 (.faddr 5 (.t 7))), (oA 43 (.load false 1 (.t 42))), (oA 44 (.iaddr 6 (.t 43) (.k (.v (.c (.p (.int .i64 0))))))), (oA 45 (.load true 6 (.t 44))), (oA 46 (.call (.k (.v (.c (.func 79 [])))) [(.t 41), (.t 45)])), (oA 47 (.faddr 1 (.t 10))), (oA 48 (.load false 1 (.t 47))), (oA 49 (.call (.k (.v (.c (.func 31 [])))) [(.t 40), (.t 46), (.t 48)])), (oA 8 (.mv (.t 49)))] [(6, 8)]) .ret) .skip)))) (.reg [(oA 50 (.bin .add 0 (.t 29) (.k (.v (.c (.p (.int .i64 1))))))), (oA 29 (.mv (.t 50)))] []))))))) (.mark 2 [0, 5, 6] (.seq (.seq (.reg [(oA 51 (.faddr 7 (.t 6))), (oA 52 (.load false 1 (.t 51)))] []) (.cond (.t 52) (.seq (.reg [(oA 53 (.mv (.t 0))), (oA 54 (.load true 8 (.t 5))), (oA 55 (.faddr 6 (.t 6))), (oA 56 (.load false 1 (.t 55))), (oA 57 (.call (.k (.v (.c (.func 31 [])))) [(.t 53), (.t 54), (.t 56)])), (oA 8 (.mv (.t 57)))] []) .ret) .skip)) (.seq (.reg [(oA 8 (.mv (.k (.v (.c (.p (.int .i64 19)))))))] []) .ret)))))) }
theorem t81 : compF Tryz.prog (globs2 tabs opq) (fun _ => true) true Tryz.f81 = some c81.erase := by kernel_rfl
noncomputable def b81_0 (O : Oracle) (R : Jump) (q : Nat) (x0 x1 x2 x3 : TVal) (h : Heap) : Res1 :=
 vop O (.box (.k x1) true) h 5 fun x5 h =>
 vop O (.box (.k x2) true) h 6 fun x6 h =>
 vop O (.box (.k x3) true) h 7 fun x7 h =>
 vfaddr 0 x7 h fun x11 h =>
 vload false 1 x11 h fun x12 h =>
 vbin .neq 0 x12 (kI 5) h fun x13 h =>
 vguard x13 false (fun kk => vfaddr 4 x7 h kk) h fun x15 h =>
 vguard x13 false (fun kk => vload false 1 x15 h kk) h fun x16 h =>
 vguard x13 false (fun kk => vlen O 2 x16 h 17 kk) h fun x17 h =>
 vguard x13 false (fun kk => vbin .neq 0 x17 (kI 1) h kk) h fun x18 h =>
 vop O (.pick (.k x13) (.k (kB true)) (.k x18)) h 19 fun x19 h =>
 vguard x19 false (fun kk => vfaddr 5 x7 h kk) h fun x21 h =>
 vguard x19 false (fun kk => vload false 1 x21 h kk) h fun x22 h =>
 vguard x19 false (fun kk => vlen O 2 x22 h 23 kk) h fun x23 h =>
 vguard x19 false (fun kk => vbin .neq 0 x23 (kI 1) h kk) h fun x24 h =>
 vop O (.pick (.k x19) (.k (kB true)) (.k x24)) h 25 fun x25 h =>
 vif x25 (
 tcomp (kI 17) fun c0 => vfin true q [c0] h)
 (vfaddr 8 x6 h fun x26 h =>
 vload false 1 x26 h fun x27 h =>
 vlen O 2 x27 h 28 fun x28 h =>
 R 1 [x0, x5, x6, x7, x27, x28, (kI 0)] h)
theorem e81_0 (O : Oracle) (R : Jump) (q : Nat) (x0 x1 x2 x3 : TVal) (h : Heap) : b81_0 O R q x0 x1 x2 x3 h = stepF c81 O R q 0 [x0, x1, x2, x3] h := by kernel_rfl
noncomputable def b81_1 (O : Oracle) (R : Jump) (q : Nat) (x0 x5 x6 x7 x27 x28 x29 : TVal) (h : Heap) : Res1 :=
 vbin .lss 0 x29 x28 h fun x30 h =>
 vif x30 (
 viaddr 2 x27 x29 h fun x31 h =>
 vload true 2 x31 h fun x32 h =>
 vop O (.alloc [(.p (.str [])), (.p .nilslice)] true) h 10 fun x10 h =>
 vstore 2 x10 x32 h fun _ h =>
 vfaddr 0 x10 h fun x33 h =>
 vload false 1 x33 h fun x34 h =>
 vfaddr 4 x7 h fun x35 h =>
 vload false 1 x35 h fun x36 h =>
 viaddr 1 x36 (kI 0) h fun x37 h =>
 vload false 1 x37 h fun x38 h =>
 vbin .eql 0 x34 x38 h fun x39 h =>
 vif x39 (
 vtouch O (.mv (.k x0)) h 40 fun x40 h t0 =>
 vtouch O (.load true 8 (.k x5)) h 41 fun x41 h t1 =>
 vtouch O (.faddr 5 (.k x7)) h 42 fun x42 h t2 =>
 vtouch O (.load false 1 (.k x42)) h 43 fun x43 h t3 =>
 vtouch O (.iaddr 6 (.k x43) (.k (kI 0))) h 44 fun x44 h t4 =>
 vtouch O (.load true 6 (.k x44)) h 45 fun x45 h t5 =>
 vtouch O (.call (.k (.v (.c (.func 79 [])))) [(.k x41), (.k x45)]) h 46 fun x46 h t6 =>
 vtouch O (.faddr 1 (.k x10)) h 47 fun x47 h t7 =>
 vtouch O (.load false 1 (.k x47)) h 48 fun x48 h t8 =>
 vtouch O (.call (.k (.v (.c (.func 31 [])))) [(.k x40), (.k x46), (.k x48)]) h 49 fun x49 h t9 =>
 vtouch O (.mv (.k x49)) h 8 fun x8 h t10 =>
 bif apartAll [t0, t1, t2, t3, t4, t5, t6, t7, t8, t9, t10] [(6, 8)] then
 tcomp x8 fun c0 => vfin true q [c0] h
 else none)
 (vbin .add 0 x29 (kI 1) h fun x50 h =>
 R 1 [x0, x5, x6, x7, x27, x28, x50] h))
 (R 2 [x0, x5, x6] h)
theorem e81_1 (O : Oracle) (R : Jump) (q : Nat) (x0 x5 x6 x7 x27 x28 x29 : TVal) (h : Heap) : b81_1 O R q x0 x5 x6 x7 x27 x28 x29 h = stepF c81 O R q 1 [x0, x5, x6, x7, x27, x28, x29] h := by kernel_rfl
noncomputable def b81_2 (O : Oracle) (R : Jump) (q : Nat) (x0 x5 x6 : TVal) (h : Heap) : Res1 :=
 vfaddr 7 x6 h fun x51 h =>
 vload false 1 x51 h fun x52 h =>
 vif x52 (
 vload true 8 x5 h fun x54 h =>
 vfaddr 6 x6 h fun x55 h =>
 vload false 1 x55 h fun x56 h =>
 vcall O (.v (.c (.func 31 []))) [x0, x54, x56] h 57 fun x57 h =>
 tcomp x57 fun c0 => vfin true q [c0] h)
 (tcomp (kI 19) fun c0 => vfin true q [c0] h)
theorem e81_2 (O : Oracle) (R : Jump) (q : Nat) (x0 x5 x6 : TVal) (h : Heap) : b81_2 O R q x0 x5 x6 h = stepF c81 O R q 2 [x0, x5, x6] h := by kernel_rfl
noncomputable def d81 : BlkF := fun O R q => [.s fun y0 => .s fun y1 => .s fun y2 => .s fun y3 => .z fun h => b81_0 O R q y0 y1 y2 y3 h, .s fun y0 => .s fun y1 => .s fun y2 => .s fun y3 => .s fun y4 => .s fun y5 => .s fun y6 => .z fun h => b81_1 O R q y0 y1 y2 y3 y4 y5 y6 h, .s fun y0 => .s fun y1 => .s fun y2 => .z fun h => b81_2 O R q y0 y1 y2 h]
theorem o81 (O : Oracle) (R : Jump) (q : Nat) : HoldsAll c81 O R q 0 (d81 O R q) := ⟨fun y0 y1 y2 y3 h => e81_0 O R q y0 y1 y2 y3 h, fun y0 y1 y2 y3 y4 y5 y6 h => e81_1 O R q y0 y1 y2 y3 y4 y5 y6 h, fun y0 y1 y2 h => e81_2 O R q y0 y1 y2 h, trivial⟩
/- (*sprue/interp.run).template -/
def c82 : MFunc := { np := 4, res := [.t 8], frz := true, body := (.seq (.reg [(oA 5 (.box (.t 1) true)), (oA 6 (.box (.t 2) true)), (oA 7 (.box (.t 3) true)), (oA 8 (.mv (.k (.v (.c (.p (.int .i64 0)))))))] []) (.seq (.reg [(oA 10 (.mv (.t 0))), (oA 11 (.nilck (.t 10))), (oA 12 (.faddr 3 (.t 11))), (oA 13 (.load false 1 (.t 12))), (oA 14 (.mkfn 95 [(.t 6)])), (oA 15 (.call (.k (.v (.c (.func 94 [])))) [(.t 13), (.t 14)])), (oA 9 (.mv (.t 15)))] []) (.seq (.block 0 (.seq (.reg [(oA 17 (.mv (.t 9))), (oA 18 (.bin .lss 0 (.t 17) (.k (.v (.c (.p (.int .i64 0))))))), (oA 19 (.mv (.t 18))), ⟨(some 20), (.load false 1 (.t 6)), (some (19, false))⟩, ⟨(some 21), (.bin .eql 0 (.t 20) (.k (.v (.c (.p (.str [])))))), (some (19, false))⟩, (oA 22 (.pick (.t 19) (.k (.v (.c (.p (.bool true))))) (.t 21))), (oA 16 (.mv (.t 22)))] []) (.cond (.t 16) (.seq (.reg [(oA 8 (.mv (.k (.v (.c (.p (.int .i64 15)))))))] []) .ret) (.seq (.reg [(oA 24 (.faddr 7 (.t 5))), (oA 25 (.load false 1 (.t 24))), (oA 26 (.mv (.t 0))), (oA 27 (.nilck (.t 26))), (oA 28 (.faddr 0 (.t 27))), (oA 29 (.faddr 1 (.t 28))), (oA 30 (.load false 1 (.t 29))), (oA 31 (.bin .geq 0 (.t 25) (.t 30))), (oA 23 (.mv (.t 31)))] []) (.cond (.t 23) (.seq (.reg [(oA 8 (.mv (.k (.v (.c (.p (.int .i64 35)))))))] []) .ret) .skip))))) (.seq (.reg [(oA 32 (.mv (.t 0))), (oA 33 (.load true 6 (.t 7))), (oA 34 (.faddr 7 (.t 5))), (oA 35 (.load false 1 (.t 34))), (oA 36 (.bin .add 0 (.t 35) (.k (.v (.c (.p (.int .i64 1))))))), (oA 37 (.build [(.p (.int .i64 0)), (.p (.bool false)), (.p (.int .i64 0)), (.p (.str [])), (.p .nilslice), (.p .nilslice), (.p .nilslice), (.p (.int .i64 0))] [(0, 6, (.t 33)), (7, 1, (.t 36))])), (oA 38 (.mv (.t 0))), (oA 39 (.nilck (.t 38))), (oA 40 (.faddr 3 (.t 39))), (oA 41 (.load false 1 (.t 40))), (oA 42 (.mv (.t 9))), (oA 43 (.iaddr 2 (.t 41) (.t 42))), (oA 44 (.faddr 1 (.t 43))), (oA 45 (.load false 1 (.t 44))), (oA 46 (.call (.k (.v (.c (.func 31 [])))) [(.t 32), (.t 37), (.t 45)])), (oA 8 (.mv (.t 46)))] []) .ret)))) }
theorem t82 : compF Tryz.prog (globs2 tabs opq) (fun _ => true) true Tryz.f82 = some c82.erase := by kernel_rfl
noncomputable def b82_0 (O : Oracle) (R : Jump) (q : Nat) (x0 x1 x2 x3 : TVal) (h : Heap) : Res1 :=
 vop O (.box (.k x1) true) h 5 fun x5 h =>
 vop O (.box (.k x2) true) h 6 fun x6 h =>
 vop O (.box (.k x3) true) h 7 fun x7 h =>
 vop O (.nilck (.k x0)) h 11 fun x11 h =>
 vfaddr 3 x11 h fun x12 h =>
 vload false 1 x12 h fun x13 h =>
 vop O (.mkfn 95 [(.k x6)]) h 14 fun x14 h =>
 vcall O (.v (.c (.func 94 []))) [x13, x14] h 15 fun x15 h =>
 vbin .lss 0 x15 (kI 0) h fun x18 h =>
 vguard x18 false (fun kk => vload false 1 x6 h kk) h fun x20 h =>
 vguard x18 false (fun kk => vbin .eql 0 x20 (kS []) h kk) h fun x21 h =>
 vop O (.pick (.k x18) (.k (kB true)) (.k x21)) h 22 fun x22 h =>
 vif x22 (
 tcomp (kI 15) fun c0 => vfin true q [c0] h)
 (vfaddr 7 x5 h fun x24 h =>
 vload false 1 x24 h fun x25 h =>
 vop O (.nilck (.k x0)) h 27 fun x27 h =>
 vfaddr 0 x27 h fun x28 h =>
 vfaddr 1 x28 h fun x29 h =>
 vload false 1 x29 h fun x30 h =>
 vbin .geq 0 x25 x30 h fun x31 h =>
 vif x31 (
 tcomp (kI 35) fun c0 => vfin true q [c0] h)
 (vload true 6 x7 h fun x33 h =>
 vfaddr 7 x5 h fun x34 h =>
 vload false 1 x34 h fun x35 h =>
 vbin .add 0 x35 (kI 1) h fun x36 h =>
 vop O (.build [(.p (.int .i64 0)), (.p (.bool false)), (.p (.int .i64 0)), (.p (.str [])), (.p .nilslice), (.p .nilslice), (.p .nilslice), (.p (.int .i64 0))] [(0, 6, (.k x33)), (7, 1, (.k x36))]) h 37 fun x37 h =>
 vop O (.nilck (.k x0)) h 39 fun x39 h =>
 vfaddr 3 x39 h fun x40 h =>
 vload false 1 x40 h fun x41 h =>
 viaddr 2 x41 x15 h fun x43 h =>
 vfaddr 1 x43 h fun x44 h =>
 vload false 1 x44 h fun x45 h =>
 vcall O (.v (.c (.func 31 []))) [x0, x37, x45] h 46 fun x46 h =>
 tcomp x46 fun c0 => vfin true q [c0] h))
theorem e82_0 (O : Oracle) (R : Jump) (q : Nat) (x0 x1 x2 x3 : TVal) (h : Heap) : b82_0 O R q x0 x1 x2 x3 h = stepF c82 O R q 0 [x0, x1, x2, x3] h := by kernel_rfl
noncomputable def d82 : BlkF := fun O R q => [.s fun y0 => .s fun y1 => .s fun y2 => .s fun y3 => .z fun h => b82_0 O R q y0 y1 y2 y3 h]
theorem o82 (O : Oracle) (R : Jump) (q : Nat) : HoldsAll c82 O R q 0 (d82 O R q) := ⟨fun y0 y1 y2 y3 h => e82_0 O R q y0 y1 y2 y3 h, trivial⟩
/- sprue/sprueref1.letter -/
def c84 : MFunc := { np := 1, res := [.t 2], frz := true, body := (.seq (.reg [(oA 2 (.mv (.k (.v (.c (.p (.bool false)))))))] []) (.seq (.reg [(oA 3 (.mv (.t 0))), (oA 4 (.bin .geq 0 (.t 3) (.k (.v (.c (.p (.int .u8 97))))))), (oA 5 (.mv (.t 4))), ⟨(some 6), (.mv (.t 0)), (some (5, true))⟩, ⟨(some 7), (.bin .leq 0 (.t 6) (.k (.v (.c (.p (.int .u8 122)))))), (some (5, true))⟩, (oA 8 (.pick (.t 5) (.t 7) (.k (.v (.c (.p (.bool false))))))), (oA 9 (.mv (.t 8))), ⟨(some 10), (.mv (.t 0)), (some (9, false))⟩, ⟨(some 11), (.bin .geq 0 (.t 10) (.k (.v (.c (.p (.int .u8 65)))))), (some (9, false))⟩, ⟨(some 12), (.mv (.t 11)), (some (9, false))⟩, ⟨(some 13), (.mv (.t 0)), (some (12, true))⟩, ⟨(some 14), (.bin .leq 0 (.t 13) (.k (.v (.c (.p (.int .u8 90)))))), (some (12, true))⟩, ⟨(some 15), (.pick (.t 12) (.t 14) (.k (.v (.c (.p (.bool false)))))), (some (9, false))⟩, (oA 16 (.pick (.t 9) (.k (.v (.c (.p (.bool true))))) (.t 15))), (oA 17 (.mv (.t 16))), ⟨(some 18), (.mv (.t 0)), (some (17, false))⟩, ⟨(some 19), (.bin .eql 0 (.t 18) (.k (.v (.c (.p (.int .u8 95)))))), (some (17, false))⟩, (oA 20 (.pick (.t 17) (.k (.v (.c (.p (.bool true))))) (.t 19))), (oA 2 (.mv (.t 20)))] []) .ret)) }
theorem t84 : compF Tryz.prog (globs2 tabs opq) (fun _ => false) true Tryz.f84 = some c84.erase := by kernel_rfl
noncomputable def b84_0 (O : Oracle) (R : Jump) (q : Nat) (x0 : TVal) (h : Heap) : Res1 :=
 vbin .geq 0 x0 (.v (.c (.p (.int .u8 97)))) h fun x4 h =>
 vguard x4 true (fun kk => kk x0 h) h fun x6 h =>
 vguard x4 true (fun kk => vbin .leq 0 x6 (.v (.c (.p (.int .u8 122)))) h kk) h fun x7 h =>
 vop O (.pick (.k x4) (.k x7) (.k (kB false))) h 8 fun x8 h =>
 vguard x8 false (fun kk => kk x0 h) h fun x10 h =>
 vguard x8 false (fun kk => vbin .geq 0 x10 (.v (.c (.p (.int .u8 65)))) h kk) h fun x11 h =>
 vguard x8 false (fun kk => kk x11 h) h fun x12 h =>
 vguard x12 true (fun kk => kk x0 h) h fun x13 h =>
 vguard x12 true (fun kk => vbin .leq 0 x13 (.v (.c (.p (.int .u8 90)))) h kk) h fun x14 h =>
 vguard x8 false (fun kk => vop O (.pick (.k x12) (.k x14) (.k (kB false))) h 15 kk) h fun x15 h =>
 vop O (.pick (.k x8) (.k (kB true)) (.k x15)) h 16 fun x16 h =>
 vguard x16 false (fun kk => kk x0 h) h fun x18 h =>
 vguard x16 false (fun kk => vbin .eql 0 x18 (.v (.c (.p (.int .u8 95)))) h kk) h fun x19 h =>
 vop O (.pick (.k x16) (.k (kB true)) (.k x19)) h 20 fun x20 h =>
 tcomp x20 fun c0 => vfin true q [c0] h
theorem e84_0 (O : Oracle) (R : Jump) (q : Nat) (x0 : TVal) (h : Heap) : b84_0 O R q x0 h = stepF c84 O R q 0 [x0] h := by kernel_rfl
noncomputable def d84 : BlkF := fun O R q => [.s fun y0 => .z fun h => b84_0 O R q y0 h]
theorem o84 (O : Oracle) (R : Jump) (q : Nat) : HoldsAll c84 O R q 0 (d84 O R q) := ⟨fun y0 h => e84_0 O R q y0 h, trivial⟩
/- sprue/sprueref1.digit -/
def c85 : MFunc := { np := 1, res := [.t 2], frz := true, body := (.seq (.reg [(oA 2 (.mv (.k (.v (.c (.p (.bool false)))))))] []) (.seq (.reg [(oA 3 (.mv (.t 0))), (oA 4 (.bin .geq 0 (.t 3) (.k (.v (.c (.p (.int .u8 48))))))), (oA 5 (.mv (.t 4))), ⟨(some 6), (.mv (.t 0)), (some (5, true))⟩, ⟨(some 7), (.bin .leq 0 (.t 6) (.k (.v (.c (.p (.int .u8 57)))))), (some (5, true))⟩, (oA 8 (.pick (.t 5) (.t 7) (.k (.v (.c (.p (.bool false))))))), (oA 2 (.mv (.t 8)))] []) .ret)) }
theorem t85 : compF Tryz.prog (globs2 tabs opq) (fun _ => false) true Tryz.f85 = some c85.erase := by kernel_rfl
noncomputable def b85_0 (O : Oracle) (R : Jump) (q : Nat) (x0 : TVal) (h : Heap) : Res1 :=
 vbin .geq 0 x0 (.v (.c (.p (.int .u8 48)))) h fun x4 h =>
 vguard x4 true (fun kk => kk x0 h) h fun x6 h =>
 vguard x4 true (fun kk => vbin .leq 0 x6 (.v (.c (.p (.int .u8 57)))) h kk) h fun x7 h =>
 vop O (.pick (.k x4) (.k x7) (.k (kB false))) h 8 fun x8 h =>
 tcomp x8 fun c0 => vfin true q [c0] h
theorem e85_0 (O : Oracle) (R : Jump) (q : Nat) (x0 : TVal) (h : Heap) : b85_0 O R q x0 h = stepF c85 O R q 0 [x0] h := by kernel_rfl
noncomputable def d85 : BlkF := fun O R q => [.s fun y0 => .z fun h => b85_0 O R q y0 h]
theorem o85 (O : Oracle) (R : Jump) (q : Nat) : HoldsAll c85 O R q 0 (d85 O R q) := ⟨fun y0 h => e85_0 O R q y0 h, trivial⟩
/- (*sprue/sprueref7.reader).operand -/
def c86 : MFunc := { np := 2, res := [.cell 4 true 7], frz := true, body := (.seq (.reg [(oA 4 (.alloc [(.p (.int .i64 0)), (.p (.str [])), (.p .nilslice), (.p (.str [])), (.p (.int .i64 0)), (.p (.bool false)), (.p .nilslice)] false))] []) (.seq (.seq (.reg [(oA 9 (.mv (.t 0))), (oA 10 (.call (.k (.v (.c (.func 87 [])))) [(.t 9)])), (oA 11 (.un .not (.t 10)))] []) (.cond (.t 11) (.seq (.reg [(oA 12 (.mv (.t 0))), (oA 13 (.call (.k (.v (.c (.func 64 [])))) [(.t 12), (.k (.v (.c (.p (.int .i64 12)))))]))] []) (.seq (.reg [(oA 14 (.build [(.p (.int .i64 0)), (.p (.str [])), (.p .nilslice), (.p (.str [])), (.p (.int .i64 0)), (.p (.bool false)), (.p .nilslice)] [])), (oN (.store 7 (.t 4) (.t 14)))] []) .ret)) .skip)) (.seq (.reg [(oA 15 (.mv (.t 0))), (oA 16 (.nilck (.t 15))), (oA 17 (.faddr 0 (.t 16))), (oA 18 (.load false 1 (.t 17))), (oA 19 (.mv (.t 0))), (oA 20 (.nilck (.t 19))), (oA 21 (.faddr 1 (.t 20))), (oA 22 (.load false 1 (.t 21))), (oA 23 (.iaddr 4 (.t 18) (.t 22))), (oA 24 (.load true 4 (.t 23))), (oA 5 (.alloc [(.p (.int .i64 0)), (.p (.str [])), (.p (.int .i64 0)), (.p (.int .i64 0))] false)), (oN (.store 4 (.t 5) (.t 24)))] [(3, 10), (7, 10), (9, 10)]) (.seq (.block 0 (.seq (.reg [(oA 26 (.faddr 0 (.t 5))), (oA 27 (.load false 1 (.t 26))), (oA 28 (.bin .eql 0 (.t 27) (.k (.v (.c (.p (.int .i64 2))))))), (oA 25 (.mv (.t 28)))] []) (.cond (.t 25) (.seq (.reg [(oA 29 (.mv (.t 0))), (oA 30 (.nilck (.t 29))), (oA 31 (.faddr 1 (.t 30))), (oA 32 (.load false 1 (.t 31))), (oA 33 (.bin .add 0 (.t 32) (.k (.v (.c (.p (.int .i64 1))))))), (oA 34 (.nilck (.t 29))), (oA 35 (.faddr 1 (.t 34))), (oN (.store 1 (.t 35) (.t 33)))] []) (.seq (.reg [(oA 36 (.faddr 1 (.t 5))), (oA 37 (.load false 1 (.t 36))), (oA 38 (.build [(.p (.int .i64 0)), (.p (.str [])), (.p .nilslice), (.p (.str [])), (.p (.int .i64 0)), (.p (.bool false)), (.p .nilslice)] [(0, 1, (.k (.v (.c (.p (.int .i64 2)))))), (3, 1, (.t 37))])), (oN (.store 7 (.t 4) (.t 38)))] []) .ret)) (.seq (.reg [(oA 40 (.faddr 0 (.t 5))), (oA 41 (.load false 1 (.t 40))), (oA 42 (.bin .eql 0 (.t 41) (.k (.v (.c (.p (.int .i64 3))))))), (oA 39 (.mv (.t 42)))] []) (.cond (.t 39) (.seq (.reg [(oA 43 (.mv (.t 0))), (oA 44 (.nilck (.t 43))), (oA 45 (.faddr 1 (.t 44))), (oA 46 (.load false 1 (.t 45))), (oA 47 (.bin .add 0 (.t 46) (.k (.v (.c (.p (.int .i64 1))))))), (oA 48 (.nilck (.t 43))), (oA 49 (.faddr 1 (.t 48))), (oN (.store 1 (.t 49) (.t 47)))] []) (.seq (.reg [(oA 50 (.faddr 2 (.t 5))), (oA 51 (.load false 1 (.t 50))), (oA 52 (.build [(.p (.int .i64 0)), (.p (.str [])), (.p .nilslice), (.p (.str [])), (.p (.int .i64 0)), (.p (.bool false)), (.p .nilslice)] [(0, 1, (.k (.v (.c (.p (.int .i64 3)))))), (4, 1, (.t 51))])), (oN (.store 7 (.t 4) (.t 52)))] []) .ret)) (.seq (.reg [(oA 54 (.faddr 0 (.t 5))), (oA 55 (.load false 1 (.t 54))), (oA 56 (.bin .eql 0 (.t 55) (.k (.v (.c (.p (.int .i64 1))))))), (oA 53 (.mv (.t 56)))] []) (.cond (.t 53) (.seq (.reg [(oA 57 (.mv (.t 0))), (oA 58 (.nilck (.t 57))), (oA 59 (.faddr 1 (.t 58))), (oA 60 (.load false 1 (.t 59))), (oA 61 (.bin .add 0 (.t 60) (.k (.v (.c (.p (.int .i64 1))))))), (oA 62 (.nilck (.t 57))), (oA 63 (.faddr 1 (.t 62))), (oN (.store 1 (.t 63) (.t 61)))] []) (.seq (.reg [(oA 64 (.faddr 1 (.t 5))), (oA 65 (.load false 1 (.t 64))), (oA 66 (.bin .eql 0 (.t 65) (.k (.v (.c (.p (.str [116, 114, 117, 101]))))))), (oA 67 (.build [(.p (.int .i64 0)), (.p (.str [])), (.p .nilslice), (.p (.str [])), (.p (.int .i64 0)), (.p (.bool false)), (.p .nilslice)] [(0, 1, (.k (.v (.c (.p (.int .i64 4)))))), (5, 1, (.t 66))])), (oN (.store 7 (.t 4) (.t 67)))] []) .ret)) (.seq (.reg [(oA 69 (.faddr 1 (.t 5))), (oA 70 (.load false 1 (.t 69))), (oA 71 (.bin .eql 0 (.t 70) (.k (.v (.c (.p (.str [36]))))))), (oA 68 (.mv (.t 71)))] []) (.cond (.t 68) (.seq (.reg [(oA 72 (.mv (.t 0))), (oA 73 (.nilck (.t 72))), (oA 74 (.faddr 1 (.t 73))), (oA 75 (.load false 1 (.t 74))), (oA 76 (.bin .add 0 (.t 75) (.k (.v (.c (.p (.int .i64 1))))))), (oA 77 (.nilck (.t 72))), (oA 78 (.faddr 1 (.t 77))), (oN (.store 1 (.t 78) (.t 76)))] []) (.seq (.reg [(oA 79 (.mv (.t 0))), (oA 80 (.call (.k (.v (.c (.func 41 [])))) [(.t 79), (.k (.v (.c (.p (.int .i64 1)))))])), (oA 6 (.alloc [(.p (.int .i64 0)), (.p (.str [])), (.p (.int .i64 0)), (.p (.int .i64 0))] false)), (oN (.store 4 (.t 6) (.t 80)))] []) (.seq (.reg [(oA 81 (.faddr 1 (.t 6))), (oA 82 (.load false 1 (.t 81))), (oA 83 (.mv (.t 0))), (oA 84 (.faddr 3 (.t 6))), (oA 85 (.load false 1 (.t 84))), (oA 86 (.faddr 1 (.t 6))), (oA 87 (.load false 1 (.t 86))), (oA 88 (.len 0 (.t 87))), (oA 89 (.bin .add 0 (.t 85) (.t 88))), (oA 90 (.call (.k (.v (.c (.func 96 [])))) [(.t 83), (.t 89)])), (oA 91 (.build [(.p (.int .i64 0)), (.p (.str [])), (.p .nilslice), (.p (.str [])), (.p (.int .i64 0)), (.p (.bool false)), (.p .nilslice)] [(0, 1, (.k (.v (.c (.p (.int .i64 1)))))), (1, 1, (.t 82)), (2, 1, (.t 90))])), (oN (.store 7 (.t 4) (.t 91)))] [(1, 9)]) .ret))) (.seq (.reg [(oA 93 (.faddr 1 (.t 5))), (oA 94 (.load false 1 (.t 93))), (oA 95 (.bin .eql 0 (.t 94) (.k (.v (.c (.p (.str [40]))))))), (oA 92 (.mv (.t 95)))] []) (.cond (.t 92) (.seq (.seq (.reg [(oA 96 (.mv (.t 1))), (oA 97 (.bin .add 0 (.t 96) (.k (.v (.c (.p (.int .i64 1))))))), (oA 98 (.bin .gtr 0 (.t 97) (.k (.v (.c (.p (.int .i64 12)))))))] []) (.cond (.t 98) (.seq (.reg [(oA 99 (.mv (.t 0))), (oA 100 (.call (.k (.v (.c (.func 64 [])))) [(.t 99), (.k (.v (.c (.p (.int .i64 13)))))]))] []) (.seq (.reg [(oA 101 (.build [(.p (.int .i64 0)), (.p (.str [])), (.p .nilslice), (.p (.str [])), (.p (.int .i64 0)), (.p (.bool false)), (.p .nilslice)] [])), (oN (.store 7 (.t 4) (.t 101)))] []) .ret)) .skip)) (.seq (.reg [(oA 102 (.mv (.t 0))), (oA 103 (.nilck (.t 102))), (oA 104 (.faddr 1 (.t 103))), (oA 105 (.load false 1 (.t 104))), (oA 106 (.bin .add 0 (.t 105) (.k (.v (.c (.p (.int .i64 1))))))), (oA 107 (.nilck (.t 102))), (oA 108 (.faddr 1 (.t 107))), (oN (.store 1 (.t 108) (.t 106)))] []) (.seq (.reg [(oA 109 (.mv (.t 0))), (oA 110 (.mv (.t 1))), (oA 111 (.bin .add 0 (.t 110) (.k (.v (.c (.p (.int .i64 1))))))), (oA 112 (.call (.k (.v (.c (.func 40 [])))) [(.t 109), (.t 111)])), (oA 7 (.mv (.t 112)))] []) (.seq (.reg [(oA 113 (.mv (.t 0))), (oA 114 (.call (.k (.v (.c (.func 97 [])))) [(.t 113), (.k (.v (.c (.p (.str [41])))))]))] []) (.seq (.reg [(oA 115 (.mv (.t 7))), (oA 116 (.build [(.p (.int .i64 0)), (.p (.str [])), (.p .nilslice), (.p (.str [])), (.p (.int .i64 0)), (.p (.bool false)), (.p .nilslice)] [(0, 1, (.k (.v (.c (.p (.int .i64 5)))))), (6, 1, (.t 115))])), (oN (.store 7 (.t 4) (.t 116)))] []) .ret))))) .skip))))))))))) (.seq (.reg [(oA 117 (.mv (.t 0))), (oA 118 (.call (.k (.v (.c (.func 96 [])))) [(.t 117), (.k (.v (.c (.p (.int .i64 (-1))))))])), (oA 8 (.mv (.t 118)))] []) (.seq (.seq (.reg [(oA 119 (.mv (.t 8))), (oA 120 (.len 2 (.t 119))), (oA 121 (.bin .eql 0 (.t 120) (.k (.v (.c (.p (.int .i64 0)))))))] []) (.cond (.t 121) (.reg [(oA 122 (.mv (.t 0))), (oA 123 (.nilck (.t 122))), (oA 124 (.faddr 1 (.t 123))), (oA 125 (.load false 1 (.t 124))), (oA 126 (.bin .add 0 (.t 125) (.k (.v (.c (.p (.int .i64 1))))))), (oA 127 (.nilck (.t 122))), (oA 128 (.faddr 1 (.t 127))), (oN (.store 1 (.t 128) (.t 126)))] []) .skip)) (.mark 1 [4, 8] (.seq (.reg [(oA 129 (.mv (.t 8))), (oA 130 (.build [(.p (.int .i64 0)), (.p (.str [])), (.p .nilslice), (.p (.str [])), (.p (.int .i64 0)), (.p (.bool false)), (.p .nilslice)] [(0, 1, (.k (.v (.c (.p (.int .i64 1)))))), (2, 1, (.t 129))])), (oN (.store 7 (.t 4) (.t 130)))] []) .ret)))))))) }
theorem t86 : compF Tryz.prog (globs2 tabs opq) (fun _ => false) true Tryz.f86 = some c86.erase := by kernel_rfl
noncomputable def b86_0 (O : Oracle) (R : Jump) (q : Nat) (x0 x1 : TVal) (h : Heap) : Res1 :=
 vop O (.alloc [(.p (.int .i64 0)), (.p (.str [])), (.p .nilslice), (.p (.str [])), (.p (.int .i64 0)), (.p (.bool false)), (.p .nilslice)] false) h 4 fun x4 h =>
 vcall O (.v (.c (.func 87 []))) [x0] h 10 fun x10 h =>
 vop O (.un .not (.k x10)) h 11 fun x11 h =>
 vif x11 (
 vcall O (.v (.c (.func 64 []))) [x0, (kI 12)] h 13 fun x13 h =>
 vop O (.build [(.p (.int .i64 0)), (.p (.str [])), (.p .nilslice), (.p (.str [])), (.p (.int .i64 0)), (.p (.bool false)), (.p .nilslice)] []) h 14 fun x14 h =>
 vstore 7 x4 x14 h fun _ h =>
 vcell true 7 x4 h fun c0 => vfin true q [c0] h)
 (vtouch O (.mv (.k x0)) h 15 fun x15 h t0 =>
 vtouch O (.nilck (.k x15)) h 16 fun x16 h t1 =>
 vtouch O (.faddr 0 (.k x16)) h 17 fun x17 h t2 =>
 vtouch O (.load false 1 (.k x17)) h 18 fun x18 h t3 =>
 vtouch O (.mv (.k x0)) h 19 fun x19 h t4 =>
 vtouch O (.nilck (.k x19)) h 20 fun x20 h t5 =>
 vtouch O (.faddr 1 (.k x20)) h 21 fun x21 h t6 =>
 vtouch O (.load false 1 (.k x21)) h 22 fun x22 h t7 =>
 vtouch O (.iaddr 4 (.k x18) (.k x22)) h 23 fun x23 h t8 =>
 vtouch O (.load true 4 (.k x23)) h 24 fun x24 h t9 =>
 vtouch O (.alloc [(.p (.int .i64 0)), (.p (.str [])), (.p (.int .i64 0)), (.p (.int .i64 0))] false) h 5 fun x5 h t10 =>
 vtouch O (.store 4 (.k x5) (.k x24)) h 1000000 fun _ h t11 =>
 bif apartAll [t0, t1, t2, t3, t4, t5, t6, t7, t8, t9, t10, t11] [(3, 10), (7, 10), (9, 10)] then
 vfaddr 0 x5 h fun x26 h =>
 vload false 1 x26 h fun x27 h =>
 vbin .eql 0 x27 (kI 2) h fun x28 h =>
 vif x28 (
 vop O (.nilck (.k x0)) h 30 fun x30 h =>
 vfaddr 1 x30 h fun x31 h =>
 vload false 1 x31 h fun x32 h =>
 vbin .add 0 x32 (kI 1) h fun x33 h =>
 vop O (.nilck (.k x0)) h 34 fun x34 h =>
 vfaddr 1 x34 h fun x35 h =>
 vstore 1 x35 x33 h fun _ h =>
 vfaddr 1 x5 h fun x36 h =>
 vload false 1 x36 h fun x37 h =>
 vop O (.build [(.p (.int .i64 0)), (.p (.str [])), (.p .nilslice), (.p (.str [])), (.p (.int .i64 0)), (.p (.bool false)), (.p .nilslice)] [(0, 1, (.k (kI 2))), (3, 1, (.k x37))]) h 38 fun x38 h =>
 vstore 7 x4 x38 h fun _ h =>
 vcell true 7 x4 h fun c0 => vfin true q [c0] h)
 (vfaddr 0 x5 h fun x40 h =>
 vload false 1 x40 h fun x41 h =>
 vbin .eql 0 x41 (kI 3) h fun x42 h =>
 vif x42 (
 vop O (.nilck (.k x0)) h 44 fun x44 h =>
 vfaddr 1 x44 h fun x45 h =>
 vload false 1 x45 h fun x46 h =>
 vbin .add 0 x46 (kI 1) h fun x47 h =>
 vop O (.nilck (.k x0)) h 48 fun x48 h =>
 vfaddr 1 x48 h fun x49 h =>
 vstore 1 x49 x47 h fun _ h =>
 vfaddr 2 x5 h fun x50 h =>
 vload false 1 x50 h fun x51 h =>
 vop O (.build [(.p (.int .i64 0)), (.p (.str [])), (.p .nilslice), (.p (.str [])), (.p (.int .i64 0)), (.p (.bool false)), (.p .nilslice)] [(0, 1, (.k (kI 3))), (4, 1, (.k x51))]) h 52 fun x52 h =>
 vstore 7 x4 x52 h fun _ h =>
 vcell true 7 x4 h fun c0 => vfin true q [c0] h)
 (vfaddr 0 x5 h fun x54 h =>
 vload false 1 x54 h fun x55 h =>
 vbin .eql 0 x55 (kI 1) h fun x56 h =>
 vif x56 (
 vop O (.nilck (.k x0)) h 58 fun x58 h =>
 vfaddr 1 x58 h fun x59 h =>
 vload false 1 x59 h fun x60 h =>
 vbin .add 0 x60 (kI 1) h fun x61 h =>
 vop O (.nilck (.k x0)) h 62 fun x62 h =>
 vfaddr 1 x62 h fun x63 h =>
 vstore 1 x63 x61 h fun _ h =>
 vfaddr 1 x5 h fun x64 h =>
 vload false 1 x64 h fun x65 h =>
 vbin .eql 0 x65 (kS [116, 114, 117, 101]) h fun x66 h =>
 vop O (.build [(.p (.int .i64 0)), (.p (.str [])), (.p .nilslice), (.p (.str [])), (.p (.int .i64 0)), (.p (.bool false)), (.p .nilslice)] [(0, 1, (.k (kI 4))), (5, 1, (.k x66))]) h 67 fun x67 h =>
 vstore 7 x4 x67 h fun _ h =>
 vcell true 7 x4 h fun c0 => vfin true q [c0] h)
 (vfaddr 1 x5 h fun x69 h =>
 vload false 1 x69 h fun x70 h =>
 vbin .eql 0 x70 (kS [36]) h fun x71 h =>
 vif x71 (
 vop O (.nilck (.k x0)) h 73 fun x73 h =>
 vfaddr 1 x73 h fun x74 h =>
 vload false 1 x74 h fun x75 h =>
 vbin .add 0 x75 (kI 1) h fun x76 h =>
 vop O (.nilck (.k x0)) h 77 fun x77 h =>
 vfaddr 1 x77 h fun x78 h =>
 vstore 1 x78 x76 h fun _ h =>
 vcall O (.v (.c (.func 41 []))) [x0, (kI 1)] h 80 fun x80 h =>
 vop O (.alloc [(.p (.int .i64 0)), (.p (.str [])), (.p (.int .i64 0)), (.p (.int .i64 0))] false) h 6 fun x6 h =>
 vstore 4 x6 x80 h fun _ h =>
 vtouch O (.faddr 1 (.k x6)) h 81 fun x81 h t0 =>
 vtouch O (.load false 1 (.k x81)) h 82 fun x82 h t1 =>
 vtouch O (.mv (.k x0)) h 83 fun x83 h t2 =>
 vtouch O (.faddr 3 (.k x6)) h 84 fun x84 h t3 =>
 vtouch O (.load false 1 (.k x84)) h 85 fun x85 h t4 =>
 vtouch O (.faddr 1 (.k x6)) h 86 fun x86 h t5 =>
 vtouch O (.load false 1 (.k x86)) h 87 fun x87 h t6 =>
 vtouch O (.len 0 (.k x87)) h 88 fun x88 h t7 =>
 vtouch O (.bin .add 0 (.k x85) (.k x88)) h 89 fun x89 h t8 =>
 vtouch O (.call (.k (.v (.c (.func 96 [])))) [(.k x83), (.k x89)]) h 90 fun x90 h t9 =>
 vtouch O (.build [(.p (.int .i64 0)), (.p (.str [])), (.p .nilslice), (.p (.str [])), (.p (.int .i64 0)), (.p (.bool false)), (.p .nilslice)] [(0, 1, (.k (kI 1))), (1, 1, (.k x82)), (2, 1, (.k x90))]) h 91 fun x91 h t10 =>
 vtouch O (.store 7 (.k x4) (.k x91)) h 1000000 fun _ h t11 =>
 bif apartAll [t0, t1, t2, t3, t4, t5, t6, t7, t8, t9, t10, t11] [(1, 9)] then
 vcell true 7 x4 h fun c0 => vfin true q [c0] h
 else none)
 (vfaddr 1 x5 h fun x93 h =>
 vload false 1 x93 h fun x94 h =>
 vbin .eql 0 x94 (kS [40]) h fun x95 h =>
 vif x95 (
 vbin .add 0 x1 (kI 1) h fun x97 h =>
 vbin .gtr 0 x97 (kI 12) h fun x98 h =>
 vif x98 (
 vcall O (.v (.c (.func 64 []))) [x0, (kI 13)] h 100 fun x100 h =>
 vop O (.build [(.p (.int .i64 0)), (.p (.str [])), (.p .nilslice), (.p (.str [])), (.p (.int .i64 0)), (.p (.bool false)), (.p .nilslice)] []) h 101 fun x101 h =>
 vstore 7 x4 x101 h fun _ h =>
 vcell true 7 x4 h fun c0 => vfin true q [c0] h)
 (vop O (.nilck (.k x0)) h 103 fun x103 h =>
 vfaddr 1 x103 h fun x104 h =>
 vload false 1 x104 h fun x105 h =>
 vbin .add 0 x105 (kI 1) h fun x106 h =>
 vop O (.nilck (.k x0)) h 107 fun x107 h =>
 vfaddr 1 x107 h fun x108 h =>
 vstore 1 x108 x106 h fun _ h =>
 vbin .add 0 x1 (kI 1) h fun x111 h =>
 vcall O (.v (.c (.func 40 []))) [x0, x111] h 112 fun x112 h =>
 vcall O (.v (.c (.func 97 []))) [x0, (kS [41])] h 114 fun x114 h =>
 vop O (.build [(.p (.int .i64 0)), (.p (.str [])), (.p .nilslice), (.p (.str [])), (.p (.int .i64 0)), (.p (.bool false)), (.p .nilslice)] [(0, 1, (.k (kI 5))), (6, 1, (.k x112))]) h 116 fun x116 h =>
 vstore 7 x4 x116 h fun _ h =>
 vcell true 7 x4 h fun c0 => vfin true q [c0] h))
 (vcall O (.v (.c (.func 96 []))) [x0, (kI (-1))] h 118 fun x118 h =>
 vlen O 2 x118 h 120 fun x120 h =>
 vbin .eql 0 x120 (kI 0) h fun x121 h =>
 vif x121 (
 vop O (.nilck (.k x0)) h 123 fun x123 h =>
 vfaddr 1 x123 h fun x124 h =>
 vload false 1 x124 h fun x125 h =>
 vbin .add 0 x125 (kI 1) h fun x126 h =>
 vop O (.nilck (.k x0)) h 127 fun x127 h =>
 vfaddr 1 x127 h fun x128 h =>
 vstore 1 x128 x126 h fun _ h =>
 R 1 [x4, x118] h)
 (R 1 [x4, x118] h))))))
 else none)
theorem e86_0 (O : Oracle) (R : Jump) (q : Nat) (x0 x1 : TVal) (h : Heap) : b86_0 O R q x0 x1 h = stepF c86 O R q 0 [x0, x1] h := by kernel_rfl
noncomputable def b86_1 (O : Oracle) (R : Jump) (q : Nat) (x4 x8 : TVal) (h : Heap) : Res1 :=
 vop O (.build [(.p (.int .i64 0)), (.p (.str [])), (.p .nilslice), (.p (.str [])), (.p (.int .i64 0)), (.p (.bool false)), (.p .nilslice)] [(0, 1, (.k (kI 1))), (2, 1, (.k x8))]) h 130 fun x130 h =>
 vstore 7 x4 x130 h fun _ h =>
 vcell true 7 x4 h fun c0 => vfin true q [c0] h
theorem e86_1 (O : Oracle) (R : Jump) (q : Nat) (x4 x8 : TVal) (h : Heap) : b86_1 O R q x4 x8 h = stepF c86 O R q 1 [x4, x8] h := by kernel_rfl
noncomputable def d86 : BlkF := fun O R q => [.s fun y0 => .s fun y1 => .z fun h => b86_0 O R q y0 y1 h, .s fun y0 => .s fun y1 => .z fun h => b86_1 O R q y0 y1 h]
theorem o86 (O : Oracle) (R : Jump) (q : Nat) : HoldsAll c86 O R q 0 (d86 O R q) := ⟨fun y0 y1 h => e86_0 O R q y0 y1 h, fun y0 y1 h => e86_1 O R q y0 y1 h, trivial⟩
/- (*sprue/sprueref7.reader).starts -/
def c87 : MFunc := { np := 1, res := [.t 2], frz := true, body := (.seq (.reg [(oA 2 (.mv (.k (.v (.c (.p (.bool false)))))))] []) (.seq (.reg [(oA 3 (.mv (.t 0))), (oA 4 (.call (.k (.v (.c (.func 37 [])))) [(.t 3), (.k (.v (.c (.p (.int .i64 2)))))])), (oA 5 (.mv (.t 4))), ⟨(some 6), (.mv (.t 0)), (some (5, false))⟩, ⟨(some 7), (.call (.k (.v (.c (.func 37 [])))) [(.t 6), (.k (.v (.c (.p (.int .i64 3)))))]), (some (5, false))⟩, (oA 8 (.pick (.t 5) (.k (.v (.c (.p (.bool true))))) (.t 7))), (oA 9 (.mv (.t 8))), ⟨(some 10), (.mv (.t 0)), (some (9, false))⟩, ⟨(some 11), (.call (.k (.v (.c (.func 42 [])))) [(.t 10), (.k (.v (.c (.p (.str [46])))))]), (some (9, false))⟩, (oA 12 (.pick (.t 9) (.k (.v (.c (.p (.bool true))))) (.t 11))), (oA 13 (.mv (.t 12))), ⟨(some 14), (.mv (.t 0)), (some (13, false))⟩, ⟨(some 15), (.call (.k (.v (.c (.func 42 [])))) [(.t 14), (.k (.v (.c (.p (.str [36])))))]), (some (13, false))⟩, (oA 16 (.pick (.t 13) (.k (.v (.c (.p (.bool true))))) (.t 15))), (oA 17 (.mv (.t 16))), ⟨(some 18), (.mv (.t 0)), (some (17, false))⟩, ⟨(some 19), (.call (.k (.v (.c (.func 42 [])))) [(.t 18), (.k (.v (.c (.p (.str [40])))))]), (some (17, false))⟩, (oA 20 (.pick (.t 17) (.k (.v (.c (.p (.bool true))))) (.t 19))), (oA 21 (.mv (.t 20))), ⟨(some 22), (.mv (.t 0)), (some (21, false))⟩, ⟨(some 23), (.call (.k (.v (.c (.func 37 [])))) [(.t 22), (.k (.v (.c (.p (.int .i64 1)))))]), (some (21, false))⟩, ⟨(some 24), (.mv (.t 23)), (some (21, false))⟩, ⟨(some 25), (.mv (.t 0)), (some (24, true))⟩, ⟨(some 26), (.nilck (.t 25)), (some (24, true))⟩, ⟨(some 27), (.faddr 0 (.t 26)), (some (24, true))⟩, ⟨(some 28), (.load false 1 (.t 27)), (some (24, true))⟩, ⟨(some 29), (.mv (.t 0)), (some (24, true))⟩, ⟨(some 30), (.nilck (.t 29)), (some (24, true))⟩, ⟨(some 31), (.faddr 1 (.t 30)), (some (24, true))⟩, ⟨(some 32), (.load false 1 (.t 31)), (some (24, true))⟩, ⟨(some 33), (.iaddr 4 (.t 28) (.t 32)), (some (24, true))⟩, ⟨(some 34), (.faddr 1 (.t 33)), (some (24, true))⟩, ⟨(some 35), (.load false 1 (.t 34)), (some (24, true))⟩, ⟨(some 36), (.bin .eql 0 (.t 35) (.k (.v (.c (.p (.str [116, 114, 117, 101])))))), (some (24, true))⟩, ⟨(some 37), (.mv (.t 36)), (some (24, true))⟩, ⟨(some 38), (.mv (.t 0)), (some (37, false))⟩, ⟨(some 39), (.nilck (.t 38)), (some (37, false))⟩, ⟨(some 40), (.faddr 0 (.t 39)), (some (37, false))⟩, ⟨(some 41), (.load false 1 (.t 40)), (some (37, false))⟩, ⟨(some 42), (.mv (.t 0)), (some (37, false))⟩, ⟨(some 43), (.nilck (.t 42)), (some (37, false))⟩, ⟨(some 44), (.faddr 1 (.t 43)), (some (37, false))⟩, ⟨(some 45), (.load false 1 (.t 44)), (some (37, false))⟩, ⟨(some 46), (.iaddr 4 (.t 41) (.t 45)), (some (37, false))⟩, ⟨(some 47), (.faddr 1 (.t 46)), (some (37, false))⟩, ⟨(some 48), (.load false 1 (.t 47)), (some (37, false))⟩, ⟨(some 49), (.bin .eql 0 (.t 48) (.k (.v (.c (.p (.str [102, 97, 108, 115, 101])))))), (some (37, false))⟩, ⟨(some 50), (.pick (.t 37) (.k (.v (.c (.p (.bool true))))) (.t 49)), (some (24, true))⟩, ⟨(some 51), (.pick (.t 24) (.t 50) (.k (.v (.c (.p (.bool false)))))), (some (21, false))⟩, (oA 52 (.pick (.t 21) (.k (.v (.c (.p (.bool true))))) (.t 51))), (oA 2 (.mv (.t 52)))] []) .ret)) }
theorem t87 : compF Tryz.prog (globs2 tabs opq) (fun _ => false) true Tryz.f87 = some c87.erase := by kernel_rfl
noncomputable def b87_0 (O : Oracle) (R : Jump) (q : Nat) (x0 : TVal) (h : Heap) : Res1 :=
 vcall O (.v (.c (.func 37 []))) [x0, (kI 2)] h 4 fun x4 h =>
 vguard x4 false (fun kk => kk x0 h) h fun x6 h =>
 vguard x4 false (fun kk => vcall O (.v (.c (.func 37 []))) [x6, (kI 3)] h 7 kk) h fun x7 h =>
 vop O (.pick (.k x4) (.k (kB true)) (.k x7)) h 8 fun x8 h =>
 vguard x8 false (fun kk => kk x0 h) h fun x10 h =>
 vguard x8 false (fun kk => vcall O (.v (.c (.func 42 []))) [x10, (kS [46])] h 11 kk) h fun x11 h =>
 vop O (.pick (.k x8) (.k (kB true)) (.k x11)) h 12 fun x12 h =>
 vguard x12 false (fun kk => kk x0 h) h fun x14 h =>
 vguard x12 false (fun kk => vcall O (.v (.c (.func 42 []))) [x14, (kS [36])] h 15 kk) h fun x15 h =>
 vop O (.pick (.k x12) (.k (kB true)) (.k x15)) h 16 fun x16 h =>
 vguard x16 false (fun kk => kk x0 h) h fun x18 h =>
 vguard x16 false (fun kk => vcall O (.v (.c (.func 42 []))) [x18, (kS [40])] h 19 kk) h fun x19 h =>
 vop O (.pick (.k x16) (.k (kB true)) (.k x19)) h 20 fun x20 h =>
 vguard x20 false (fun kk => kk x0 h) h fun x22 h =>
 vguard x20 false (fun kk => vcall O (.v (.c (.func 37 []))) [x22, (kI 1)] h 23 kk) h fun x23 h =>
 vguard x20 false (fun kk => kk x23 h) h fun x24 h =>
 vguard x24 true (fun kk => kk x0 h) h fun x25 h =>
 vguard x24 true (fun kk => vop O (.nilck (.k x25)) h 26 kk) h fun x26 h =>
 vguard x24 true (fun kk => vfaddr 0 x26 h kk) h fun x27 h =>
 vguard x24 true (fun kk => vload false 1 x27 h kk) h fun x28 h =>
 vguard x24 true (fun kk => kk x0 h) h fun x29 h =>
 vguard x24 true (fun kk => vop O (.nilck (.k x29)) h 30 kk) h fun x30 h =>
 vguard x24 true (fun kk => vfaddr 1 x30 h kk) h fun x31 h =>
 vguard x24 true (fun kk => vload false 1 x31 h kk) h fun x32 h =>
 vguard x24 true (fun kk => viaddr 4 x28 x32 h kk) h fun x33 h =>
 vguard x24 true (fun kk => vfaddr 1 x33 h kk) h fun x34 h =>
 vguard x24 true (fun kk => vload false 1 x34 h kk) h fun x35 h =>
 vguard x24 true (fun kk => vbin .eql 0 x35 (kS [116, 114, 117, 101]) h kk) h fun x36 h =>
 vguard x24 true (fun kk => kk x36 h) h fun x37 h =>
 vguard x37 false (fun kk => kk x0 h) h fun x38 h =>
 vguard x37 false (fun kk => vop O (.nilck (.k x38)) h 39 kk) h fun x39 h =>
 vguard x37 false (fun kk => vfaddr 0 x39 h kk) h fun x40 h =>
 vguard x37 false (fun kk => vload false 1 x40 h kk) h fun x41 h =>
 vguard x37 false (fun kk => kk x0 h) h fun x42 h =>
 vguard x37 false (fun kk => vop O (.nilck (.k x42)) h 43 kk) h fun x43 h =>
 vguard x37 false (fun kk => vfaddr 1 x43 h kk) h fun x44 h =>
 vguard x37 false (fun kk => vload false 1 x44 h kk) h fun x45 h =>
 vguard x37 false (fun kk => viaddr 4 x41 x45 h kk) h fun x46 h =>
 vguard x37 false (fun kk => vfaddr 1 x46 h kk) h fun x47 h =>
 vguard x37 false (fun kk => vload false 1 x47 h kk) h fun x48 h =>
 vguard x37 false (fun kk => vbin .eql 0 x48 (kS [102, 97, 108, 115, 101]) h kk) h fun x49 h =>
 vguard x24 true (fun kk => vop O (.pick (.k x37) (.k (kB true)) (.k x49)) h 50 kk) h fun x50 h =>
 vguard x20 false (fun kk => vop O (.pick (.k x24) (.k x50) (.k (kB false))) h 51 kk) h fun x51 h =>
 vop O (.pick (.k x20) (.k (kB true)) (.k x51)) h 52 fun x52 h =>
 tcomp x52 fun c0 => vfin true q [c0] h
theorem e87_0 (O : Oracle) (R : Jump) (q : Nat) (x0 : TVal) (h : Heap) : b87_0 O R q x0 h = stepF c87 O R q 0 [x0] h := by kernel_rfl
noncomputable def d87 : BlkF := fun O R q => [.s fun y0 => .z fun h => b87_0 O R q y0 h]
theorem o87 (O : Oracle) (R : Jump) (q : Nat) : HoldsAll c87 O R q 0 (d87 O R q) := ⟨fun y0 h => e87_0 O R q y0 h, trivial⟩
/- slices.Clone[[]string,string] -/
def c88 : MFunc := { np := 1, res := [.t 2], frz := true, body := (.seq (.reg [(oA 2 (.mv (.k (.v (.c (.p .nilslice))))))] []) (.seq (.seq (.reg [(oA 3 (.mv (.t 0))), (oA 4 (.bin .eql 2 (.t 3) (.k (.v (.c (.p .nilslice))))))] []) (.cond (.t 4) (.seq (.reg [(oA 2 (.mv (.k (.v (.c (.p .nilslice))))))] []) .ret) .skip)) (.seq (.reg [(oA 5 (.bslice 1 0 [(.p (.str []))] [] false)), (oA 6 (.mv (.t 0))), (oA 7 (.append 1 16 false (.t 5) (.t 6))), (oA 2 (.mv (.t 7)))] []) .ret))) }
theorem t88 : compF Tryz.prog (globs2 tabs opq) (fun _ => false) true Tryz.f88 = some c88.erase := by kernel_rfl
noncomputable def b88_0 (O : Oracle) (R : Jump) (q : Nat) (x0 : TVal) (h : Heap) : Res1 :=
 vbin .eql 2 x0 (.v (.c (.p .nilslice))) h fun x4 h =>
 vif x4 (
 tcomp (.v (.c (.p .nilslice))) fun c0 => vfin true q [c0] h)
 (vop O (.bslice 1 0 [(.p (.str []))] [] false) h 5 fun x5 h =>
 vop O (.append 1 16 false (.k x5) (.k x0)) h 7 fun x7 h =>
 tcomp x7 fun c0 => vfin true q [c0] h)
theorem e88_0 (O : Oracle) (R : Jump) (q : Nat) (x0 : TVal) (h : Heap) : b88_0 O R q x0 h = stepF c88 O R q 0 [x0] h := by kernel_rfl
noncomputable def d88 : BlkF := fun O R q => [.s fun y0 => .z fun h => b88_0 O R q y0 h]
theorem o88 (O : Oracle) (R : Jump) (q : Nat) : HoldsAll c88 O R q 0 (d88 O R q) := ⟨fun y0 h => e88_0 O R q y0 h, trivial⟩
/- (*sprue/interp.run).call -/
def c89 : MFunc := { np := 4, res := [.cell 8 true 6, .t 9], frz := true, body := (.seq (.reg [(oA 5 (.box (.t 1) true)), (oA 6 (.box (.t 2) true)), (oA 8 (.alloc [(.p (.int .i64 0)), (.p (.bool false)), (.p (.int .i64 0)), (.p (.str [])), (.p .nilslice), (.p .nilslice)] true)), (oA 9 (.mv (.k (.v (.c (.p (.int .i64 0)))))))] []) (.seq (.reg [(oA 10 (.mv (.k (.v (.c (.p .nilslice))))))] []) (.seq (.seq (.reg [(oA 15 (.faddr 0 (.t 6))), (oA 16 (.load false 1 (.t 15))), (oA 17 (.slice 7 false (.t 16) (some (.k (.v (.c (.p (.int .i64 1)))))) none none)), (oA 18 (.len 2 (.t 17))), (oA 19 (.mv (.k (.v (.c (.p (.int .i64 0)))))))] []) (.block 0 (.loop 1 [0, 3, 5, 6, 8, 10, 17, 18, 19] (.seq (.reg [(oA 20 (.bin .lss 0 (.t 19) (.t 18)))] []) (.seq (.cond (.t 20) .skip (.exit 0)) (.seq (.block 1 (.seq (.reg [(oA 21 (.iaddr 7 (.t 17) (.t 19))), (oA 22 (.load true 7 (.t 21))), (oA 12 (.alloc [(.p (.int .i64 0)), (.p (.str [])), (.p .nilslice), (.p (.str [])), (.p (.int .i64 0)), (.p (.bool false)), (.p .nilslice)] true)), (oN (.store 7 (.t 12) (.t 22)))] []) (.seq (.reg [(oA 24 (.mv (.t 0))), (oA 25 (.load true 8 (.t 5))), (oA 26 (.load true 7 (.t 12))), (oA 27 (.call (.k (.v (.c (.func 90 [])))) [(.t 24), (.t 25), (.t 26)])), (oA 23 (.mv (.t 27))), (oA 28 (.extract (.t 23) 0)), (oA 29 (.extract (.t 23) 1)), (oA 13 (.alloc [(.p (.int .i64 0)), (.p (.bool false)), (.p (.int .i64 0)), (.p (.str [])), (.p .nilslice), (.p .nilslice)] true)), (oN (.store 6 (.t 13) (.t 28))), (oA 14 (.mv (.t 29)))] []) (.seq (.seq (.reg [(oA 30 (.mv (.t 14))), (oA 31 (.bin .neq 0 (.t 30) (.k (.v (.c (.p (.int .i64 0)))))))] []) (.cond (.t 31) (.seq (.reg [(oA 32 (.build [(.p (.int .i64 0)), (.p (.bool false)), (.p (.int .i64 0)), (.p (.str [])), (.p .nilslice), (.p .nilslice)] [])), (oA 33 (.mv (.t 14))), (oN (.store 6 (.t 8) (.t 32))), (oA 9 (.mv (.t 33)))] []) .ret) .skip)) (.reg [(oA 34 (.mv (.t 10))), (oA 35 (.load true 6 (.t 13))), (oA 36 (.bslice 6 1 [(.p (.int .i64 0)), (.p (.bool false)), (.p (.int .i64 0)), (.p (.str [])), (.p .nilslice), (.p .nilslice)] [(0, (.t 35))] true)), (oA 37 (.append 6 88 true (.t 34) (.t 36))), (oA 10 (.mv (.t 37)))] []))))) (.reg [(oA 38 (.bin .add 0 (.t 19) (.k (.v (.c (.p (.int .i64 1))))))), (oA 19 (.mv (.t 38)))] []))))))) (.mark 2 [0, 3, 6, 8, 10] (.seq (.reg [(oA 39 (.mv (.t 10))), (oA 40 (.mv (.t 3))), (oA 41 (.append 6 88 true (.t 39) (.t 40))), (oA 10 (.mv (.t 41)))] []) (.seq (.seq (.reg [(oA 42 (.faddr 0 (.t 6))), (oA 43 (.load false 1 (.t 42))), (oA 44 (.iaddr 7 (.t 43) (.k (.v (.c (.p (.int .i64 0))))))), (oA 45 (.faddr 3 (.t 44))), (oA 46 (.load false 1 (.t 45))), (oA 47 (.call (.k (.v (.c (.func 98 [])))) [(.t 46)]))] []) (.cond (.t 47) (.seq (.reg [(oA 48 (.faddr 0 (.t 6))), (oA 49 (.load false 1 (.t 48))), (oA 50 (.iaddr 7 (.t 49) (.k (.v (.c (.p (.int .i64 0))))))), (oA 51 (.faddr 3 (.t 50))), (oA 52 (.load false 1 (.t 51))), (oA 53 (.mv (.t 10))), (oA 54 (.call (.k (.v (.c (.func 99 [])))) [(.t 52), (.t 53)])), (oA 55 (.extract (.t 54) 0)), (oA 56 (.extract (.t 54) 1)), (oN (.store 6 (.t 8) (.t 55))), (oA 9 (.mv (.t 56)))] []) .ret) .skip)) (.seq (.reg [(oA 57 (.mv (.t 0))), (oA 58 (.nilck (.t 57))), (oA 59 (.faddr 4 (.t 58))), (oA 60 (.load false 1 (.t 59))), (oA 61 (.faddr 0 (.t 6))), (oA 62 (.load false 1 (.t 61))), (oA 63 (.iaddr 7 (.t 62) (.k (.v (.c (.p (.int .i64 0))))))), (oA 64 (.faddr 3 (.t 63))), (oA 65 (.load false 1 (.t 64))), (oA 66 (.call (.k (.v (.c (.func 100 [])))) [(.t 60), (.t 65)])), (oA 67 (.extract (.t 66) 0)), (oA 68 (.extract (.t 66) 1)), (oN (.store 6 (.t 8) (.t 67))), (oA 9 (.mv (.t 68)))] []) .ret))))))) }
theorem t89 : compF Tryz.prog (globs2 tabs opq) (fun _ => true) true Tryz.f89 = some c89.erase := by kernel_rfl
noncomputable def b89_0 (O : Oracle) (R : Jump) (q : Nat) (x0 x1 x2 x3 : TVal) (h : Heap) : Res1 :=
 vop O (.box (.k x1) true) h 5 fun x5 h =>
 vop O (.box (.k x2) true) h 6 fun x6 h =>
 vop O (.alloc [(.p (.int .i64 0)), (.p (.bool false)), (.p (.int .i64 0)), (.p (.str [])), (.p .nilslice), (.p .nilslice)] true) h 8 fun x8 h =>
 vfaddr 0 x6 h fun x15 h =>
 vload false 1 x15 h fun x16 h =>
 vop O (.slice 7 false (.k x16) (some (.k (kI 1))) none none) h 17 fun x17 h =>
 vlen O 2 x17 h 18 fun x18 h =>
 R 1 [x0, x3, x5, x6, x8, (.v (.c (.p .nilslice))), x17, x18, (kI 0)] h
theorem e89_0 (O : Oracle) (R : Jump) (q : Nat) (x0 x1 x2 x3 : TVal) (h : Heap) : b89_0 O R q x0 x1 x2 x3 h = stepF c89 O R q 0 [x0, x1, x2, x3] h := by kernel_rfl
noncomputable def b89_1 (O : Oracle) (R : Jump) (q : Nat) (x0 x3 x5 x6 x8 x10 x17 x18 x19 : TVal) (h : Heap) : Res1 :=
 vbin .lss 0 x19 x18 h fun x20 h =>
 vif x20 (
 viaddr 7 x17 x19 h fun x21 h =>
 vload true 7 x21 h fun x22 h =>
 vop O (.alloc [(.p (.int .i64 0)), (.p (.str [])), (.p .nilslice), (.p (.str [])), (.p (.int .i64 0)), (.p (.bool false)), (.p .nilslice)] true) h 12 fun x12 h =>
 vstore 7 x12 x22 h fun _ h =>
 vload true 8 x5 h fun x25 h =>
 vload true 7 x12 h fun x26 h =>
 vcall O (.v (.c (.func 90 []))) [x0, x25, x26] h 27 fun x27 h =>
 vext x27 0 h fun x28 h =>
 vext x27 1 h fun x29 h =>
 vop O (.alloc [(.p (.int .i64 0)), (.p (.bool false)), (.p (.int .i64 0)), (.p (.str [])), (.p .nilslice), (.p .nilslice)] true) h 13 fun x13 h =>
 vstore 6 x13 x28 h fun _ h =>
 vbin .neq 0 x29 (kI 0) h fun x31 h =>
 vif x31 (
 vop O (.build [(.p (.int .i64 0)), (.p (.bool false)), (.p (.int .i64 0)), (.p (.str [])), (.p .nilslice), (.p .nilslice)] []) h 32 fun x32 h =>
 vstore 6 x8 x32 h fun _ h =>
 vcell true 6 x8 h fun c0 => tcomp x29 fun c1 => vfin true q [c0, c1] h)
 (vload true 6 x13 h fun x35 h =>
 vop O (.bslice 6 1 [(.p (.int .i64 0)), (.p (.bool false)), (.p (.int .i64 0)), (.p (.str [])), (.p .nilslice), (.p .nilslice)] [(0, (.k x35))] true) h 36 fun x36 h =>
 vop O (.append 6 88 true (.k x10) (.k x36)) h 37 fun x37 h =>
 vbin .add 0 x19 (kI 1) h fun x38 h =>
 R 1 [x0, x3, x5, x6, x8, x37, x17, x18, x38] h))
 (R 2 [x0, x3, x6, x8, x10] h)
theorem e89_1 (O : Oracle) (R : Jump) (q : Nat) (x0 x3 x5 x6 x8 x10 x17 x18 x19 : TVal) (h : Heap) : b89_1 O R q x0 x3 x5 x6 x8 x10 x17 x18 x19 h = stepF c89 O R q 1 [x0, x3, x5, x6, x8, x10, x17, x18, x19] h := by kernel_rfl
noncomputable def b89_2 (O : Oracle) (R : Jump) (q : Nat) (x0 x3 x6 x8 x10 : TVal) (h : Heap) : Res1 :=
 vop O (.append 6 88 true (.k x10) (.k x3)) h 41 fun x41 h =>
 vfaddr 0 x6 h fun x42 h =>
 vload false 1 x42 h fun x43 h =>
 viaddr 7 x43 (kI 0) h fun x44 h =>
 vfaddr 3 x44 h fun x45 h =>
 vload false 1 x45 h fun x46 h =>
 vcall O (.v (.c (.func 98 []))) [x46] h 47 fun x47 h =>
 vif x47 (
 vfaddr 0 x6 h fun x48 h =>
 vload false 1 x48 h fun x49 h =>
 viaddr 7 x49 (kI 0) h fun x50 h =>
 vfaddr 3 x50 h fun x51 h =>
 vload false 1 x51 h fun x52 h =>
 vcall O (.v (.c (.func 99 []))) [x52, x41] h 54 fun x54 h =>
 vext x54 0 h fun x55 h =>
 vext x54 1 h fun x56 h =>
 vstore 6 x8 x55 h fun _ h =>
 vcell true 6 x8 h fun c0 => tcomp x56 fun c1 => vfin true q [c0, c1] h)
 (vop O (.nilck (.k x0)) h 58 fun x58 h =>
 vfaddr 4 x58 h fun x59 h =>
 vload false 1 x59 h fun x60 h =>
 vfaddr 0 x6 h fun x61 h =>
 vload false 1 x61 h fun x62 h =>
 viaddr 7 x62 (kI 0) h fun x63 h =>
 vfaddr 3 x63 h fun x64 h =>
 vload false 1 x64 h fun x65 h =>
 vcall O (.v (.c (.func 100 []))) [x60, x65] h 66 fun x66 h =>
 vext x66 0 h fun x67 h =>
 vext x66 1 h fun x68 h =>
 vstore 6 x8 x67 h fun _ h =>
 vcell true 6 x8 h fun c0 => tcomp x68 fun c1 => vfin true q [c0, c1] h)
theorem e89_2 (O : Oracle) (R : Jump) (q : Nat) (x0 x3 x6 x8 x10 : TVal) (h : Heap) : b89_2 O R q x0 x3 x6 x8 x10 h = stepF c89 O R q 2 [x0, x3, x6, x8, x10] h := by kernel_rfl
noncomputable def d89 : BlkF := fun O R q => [.s fun y0 => .s fun y1 => .s fun y2 => .s fun y3 => .z fun h => b89_0 O R q y0 y1 y2 y3 h, .s fun y0 => .s fun y1 => .s fun y2 => .s fun y3 => .s fun y4 => .s fun y5 => .s fun y6 => .s fun y7 => .s fun y8 => .z fun h => b89_1 O R q y0 y1 y2 y3 y4 y5 y6 y7 y8 h, .s fun y0 => .s fun y1 => .s fun y2 => .s fun y3 => .s fun y4 => .z fun h => b89_2 O R q y0 y1 y2 y3 y4 h]
theorem o89 (O : Oracle) (R : Jump) (q : Nat) : HoldsAll c89 O R q 0 (d89 O R q) := ⟨fun y0 y1 y2 y3 h => e89_0 O R q y0 y1 y2 y3 h, fun y0 y1 y2 y3 y4 y5 y6 y7 y8 h => e89_1 O R q y0 y1 y2 y3 y4 y5 y6 y7 y8 h, fun y0 y1 y2 y3 y4 h => e89_2 O R q y0 y1 y2 y3 y4 h, trivial⟩
/- (*sprue/interp.run).operand -/
def c90 : MFunc := { np := 3, res := [.cell 6 true 6, .t 7], frz := true, body := (.seq (.reg [(oA 4 (.box (.t 1) true)), (oA 5 (.box (.t 2) true)), (oA 6 (.alloc [(.p (.int .i64 0)), (.p (.bool false)), (.p (.int .i64 0)), (.p (.str [])), (.p .nilslice), (.p .nilslice)] true)), (oA 7 (.mv (.k (.v (.c (.p (.int .i64 0)))))))] []) (.seq (.seq (.reg [(oA 8 (.faddr 0 (.t 5))), (oA 9 (.load false 1 (.t 8)))] []) (.block 0 (.seq (.reg [(oA 11 (.bin .eql 0 (.t 9) (.k (.v (.c (.p (.int .i64 2))))))), (oA 10 (.mv (.t 11)))] []) (.cond (.t 10) (.seq (.reg [(oA 12 (.faddr 3 (.t 5))), (oA 13 (.load false 1 (.t 12))), (oA 14 (.build [(.p (.int .i64 0)), (.p (.bool false)), (.p (.int .i64 0)), (.p (.str [])), (.p .nilslice), (.p .nilslice)] [(0, 1, (.k (.v (.c (.p (.int .i64 3)))))), (3, 1, (.t 13))])), (oN (.store 6 (.t 6) (.t 14))), (oA 7 (.mv (.k (.v (.c (.p (.int .i64 0)))))))] []) .ret) (.seq (.reg [(oA 16 (.bin .eql 0 (.t 9) (.k (.v (.c (.p (.int .i64 3))))))), (oA 15 (.mv (.t 16)))] []) (.cond (.t 15) (.seq (.reg [(oA 17 (.faddr 4 (.t 5))), (oA 18 (.load false 1 (.t 17))), (oA 19 (.build [(.p (.int .i64 0)), (.p (.bool false)), (.p (.int .i64 0)), (.p (.str [])), (.p .nilslice), (.p .nilslice)] [(0, 1, (.k (.v (.c (.p (.int .i64 2)))))), (2, 1, (.t 18))])), (oN (.store 6 (.t 6) (.t 19))), (oA 7 (.mv (.k (.v (.c (.p (.int .i64 0)))))))] []) .ret) (.seq (.reg [(oA 21 (.bin .eql 0 (.t 9) (.k (.v (.c (.p (.int .i64 4))))))), (oA 20 (.mv (.t 21)))] []) (.cond (.t 20) (.seq (.reg [(oA 22 (.faddr 5 (.t 5))), (oA 23 (.load false 1 (.t 22))), (oA 24 (.build [(.p (.int .i64 0)), (.p (.bool false)), (.p (.int .i64 0)), (.p (.str [])), (.p .nilslice), (.p .nilslice)] [(0, 1, (.k (.v (.c (.p (.int .i64 1)))))), (1, 1, (.t 23))])), (oN (.store 6 (.t 6) (.t 24))), (oA 7 (.mv (.k (.v (.c (.p (.int .i64 0)))))))] []) .ret) (.seq (.reg [(oA 26 (.bin .eql 0 (.t 9) (.k (.v (.c (.p (.int .i64 5))))))), (oA 25 (.mv (.t 26)))] []) (.cond (.t 25) (.seq (.reg [(oA 27 (.mv (.t 0))), (oA 28 (.load true 8 (.t 4))), (oA 29 (.faddr 6 (.t 5))), (oA 30 (.load false 1 (.t 29))), (oA 31 (.call (.k (.v (.c (.func 57 [])))) [(.t 27), (.t 28), (.t 30)])), (oA 32 (.extract (.t 31) 0)), (oA 33 (.extract (.t 31) 1)), (oN (.store 6 (.t 6) (.t 32))), (oA 7 (.mv (.t 33)))] []) .ret) .skip)))))))))) (.seq (.reg [(oA 34 (.load true 8 (.t 4))), (oA 35 (.load true 7 (.t 5))), (oA 36 (.call (.k (.v (.c (.func 101 [])))) [(.t 34), (.t 35)])), (oA 37 (.extract (.t 36) 0)), (oA 38 (.extract (.t 36) 1)), (oN (.store 6 (.t 6) (.t 37))), (oA 7 (.mv (.t 38)))] []) .ret))) }
theorem t90 : compF Tryz.prog (globs2 tabs opq) (fun _ => true) true Tryz.f90 = some c90.erase := by kernel_rfl
noncomputable def b90_0 (O : Oracle) (R : Jump) (q : Nat) (x0 x1 x2 : TVal) (h : Heap) : Res1 :=
 vop O (.box (.k x1) true) h 4 fun x4 h =>
 vop O (.box (.k x2) true) h 5 fun x5 h =>
 vop O (.alloc [(.p (.int .i64 0)), (.p (.bool false)), (.p (.int .i64 0)), (.p (.str [])), (.p .nilslice), (.p .nilslice)] true) h 6 fun x6 h =>
 vfaddr 0 x5 h fun x8 h =>
 vload false 1 x8 h fun x9 h =>
 vbin .eql 0 x9 (kI 2) h fun x11 h =>
 vif x11 (
 vfaddr 3 x5 h fun x12 h =>
 vload false 1 x12 h fun x13 h =>
 vop O (.build [(.p (.int .i64 0)), (.p (.bool false)), (.p (.int .i64 0)), (.p (.str [])), (.p .nilslice), (.p .nilslice)] [(0, 1, (.k (kI 3))), (3, 1, (.k x13))]) h 14 fun x14 h =>
 vstore 6 x6 x14 h fun _ h =>
 vcell true 6 x6 h fun c0 => tcomp (kI 0) fun c1 => vfin true q [c0, c1] h)
 (vbin .eql 0 x9 (kI 3) h fun x16 h =>
 vif x16 (
 vfaddr 4 x5 h fun x17 h =>
 vload false 1 x17 h fun x18 h =>
 vop O (.build [(.p (.int .i64 0)), (.p (.bool false)), (.p (.int .i64 0)), (.p (.str [])), (.p .nilslice), (.p .nilslice)] [(0, 1, (.k (kI 2))), (2, 1, (.k x18))]) h 19 fun x19 h =>
 vstore 6 x6 x19 h fun _ h =>
 vcell true 6 x6 h fun c0 => tcomp (kI 0) fun c1 => vfin true q [c0, c1] h)
 (vbin .eql 0 x9 (kI 4) h fun x21 h =>
 vif x21 (
 vfaddr 5 x5 h fun x22 h =>
 vload false 1 x22 h fun x23 h =>
 vop O (.build [(.p (.int .i64 0)), (.p (.bool false)), (.p (.int .i64 0)), (.p (.str [])), (.p .nilslice), (.p .nilslice)] [(0, 1, (.k (kI 1))), (1, 1, (.k x23))]) h 24 fun x24 h =>
 vstore 6 x6 x24 h fun _ h =>
 vcell true 6 x6 h fun c0 => tcomp (kI 0) fun c1 => vfin true q [c0, c1] h)
 (vbin .eql 0 x9 (kI 5) h fun x26 h =>
 vif x26 (
 vload true 8 x4 h fun x28 h =>
 vfaddr 6 x5 h fun x29 h =>
 vload false 1 x29 h fun x30 h =>
 vcall O (.v (.c (.func 57 []))) [x0, x28, x30] h 31 fun x31 h =>
 vext x31 0 h fun x32 h =>
 vext x31 1 h fun x33 h =>
 vstore 6 x6 x32 h fun _ h =>
 vcell true 6 x6 h fun c0 => tcomp x33 fun c1 => vfin true q [c0, c1] h)
 (vload true 8 x4 h fun x34 h =>
 vload true 7 x5 h fun x35 h =>
 vcall O (.v (.c (.func 101 []))) [x34, x35] h 36 fun x36 h =>
 vext x36 0 h fun x37 h =>
 vext x36 1 h fun x38 h =>
 vstore 6 x6 x37 h fun _ h =>
 vcell true 6 x6 h fun c0 => tcomp x38 fun c1 => vfin true q [c0, c1] h))))
theorem e90_0 (O : Oracle) (R : Jump) (q : Nat) (x0 x1 x2 : TVal) (h : Heap) : b90_0 O R q x0 x1 x2 h = stepF c90 O R q 0 [x0, x1, x2] h := by kernel_rfl
noncomputable def d90 : BlkF := fun O R q => [.s fun y0 => .s fun y1 => .s fun y2 => .z fun h => b90_0 O R q y0 y1 y2 h]
theorem o90 (O : Oracle) (R : Jump) (q : Nat) : HoldsAll c90 O R q 0 (d90 O R q) := ⟨fun y0 y1 y2 h => e90_0 O R q y0 y1 y2 h, trivial⟩
/- strconv.FormatBool -/
def c91 : MFunc := { np := 1, res := [.t 2], frz := true, body := (.seq (.reg [(oA 2 (.mv (.k (.v (.c (.p (.str [])))))))] []) (.seq (.reg [(oA 3 (.mv (.t 0))), (oA 4 (.call (.k (.v (.c (.func 102 [])))) [(.t 3)])), (oA 2 (.mv (.t 4)))] []) .ret)) }
theorem t91 : compF Tryz.prog (globs2 tabs opq) (fun _ => false) true Tryz.f91 = some c91.erase := by kernel_rfl
noncomputable def b91_0 (O : Oracle) (R : Jump) (q : Nat) (x0 : TVal) (h : Heap) : Res1 :=
 vcall O (.v (.c (.func 102 []))) [x0] h 4 fun x4 h =>
 tcomp x4 fun c0 => vfin true q [c0] h
theorem e91_0 (O : Oracle) (R : Jump) (q : Nat) (x0 : TVal) (h : Heap) : b91_0 O R q x0 h = stepF c91 O R q 0 [x0] h := by kernel_rfl
noncomputable def d91 : BlkF := fun O R q => [.s fun y0 => .z fun h => b91_0 O R q y0 h]
theorem o91 (O : Oracle) (R : Jump) (q : Nat) : HoldsAll c91 O R q 0 (d91 O R q) := ⟨fun y0 h => e91_0 O R q y0 h, trivial⟩
/- strconv.FormatInt -/
def c92 : MFunc := { np := 2, res := [.t 4], frz := true, body := (.seq (.reg [(oA 4 (.mv (.k (.v (.c (.p (.str [])))))))] []) (.seq (.reg [(oA 5 (.mv (.t 0))), (oA 6 (.mv (.t 1))), (oA 7 (.call (.k (.v (.c (.func 103 [])))) [(.t 5), (.t 6)])), (oA 4 (.mv (.t 7)))] []) .ret)) }
theorem t92 : compF Tryz.prog (globs2 tabs opq) (fun _ => false) true Tryz.f92 = some c92.erase := by kernel_rfl
noncomputable def b92_0 (O : Oracle) (R : Jump) (q : Nat) (x0 x1 : TVal) (h : Heap) : Res1 :=
 vcall O (.v (.c (.func 103 []))) [x0, x1] h 7 fun x7 h =>
 tcomp x7 fun c0 => vfin true q [c0] h
theorem e92_0 (O : Oracle) (R : Jump) (q : Nat) (x0 x1 : TVal) (h : Heap) : b92_0 O R q x0 x1 h = stepF c92 O R q 0 [x0, x1] h := by kernel_rfl
noncomputable def d92 : BlkF := fun O R q => [.s fun y0 => .s fun y1 => .z fun h => b92_0 O R q y0 y1 h]
theorem o92 (O : Oracle) (R : Jump) (q : Nat) : HoldsAll c92 O R q 0 (d92 O R q) := ⟨fun y0 y1 h => e92_0 O R q y0 y1 h, trivial⟩
/- slices.Backward[[]*sprue/interp.variable,*sprue/interp.variable] -/
def c93 : MFunc := { np := 1, res := [.t 2], frz := false, body := (.seq (.reg [(oA 1 (.box (.t 0) false)), (oA 2 (.mv (.k (.v (.c (.p .nilfunc))))))] []) (.seq (.reg [(oA 3 (.mkfn 104 [(.t 1)])), (oA 2 (.mv (.t 3)))] []) .ret)) }
theorem t93 : compF Tryz.prog (globs2 tabs opq) (fun _ => false) false Tryz.f93 = some c93.erase := by kernel_rfl
noncomputable def b93_0 (O : Oracle) (R : Jump) (q : Nat) (x0 : TVal) (h : Heap) : Res1 :=
 vop O (.box (.k x0) false) h 1 fun x1 h =>
 vop O (.mkfn 104 [(.k x1)]) h 3 fun x3 h =>
 tcomp x3 fun c0 => vfin false q [c0] h
theorem e93_0 (O : Oracle) (R : Jump) (q : Nat) (x0 : TVal) (h : Heap) : b93_0 O R q x0 h = stepF c93 O R q 0 [x0] h := by kernel_rfl
noncomputable def d93 : BlkF := fun O R q => [.s fun y0 => .z fun h => b93_0 O R q y0 h]
theorem o93 (O : Oracle) (R : Jump) (q : Nat) : HoldsAll c93 O R q 0 (d93 O R q) := ⟨fun y0 h => e93_0 O R q y0 h, trivial⟩
/- slices.IndexFunc[[]sprue/api.Template,sprue/api.Template] -/
def c94 : MFunc := { np := 2, res := [.t 4], frz := true, body := (.seq (.reg [(oA 4 (.mv (.k (.v (.c (.p (.int .i64 0)))))))] []) (.seq (.seq (.reg [(oA 6 (.mv (.t 0))), (oA 7 (.len 2 (.t 6))), (oA 8 (.mv (.k (.v (.c (.p (.int .i64 0)))))))] []) (.block 0 (.loop 1 [0, 1, 7, 8] (.seq (.reg [(oA 9 (.bin .lss 0 (.t 8) (.t 7)))] []) (.seq (.cond (.t 9) .skip (.exit 0)) (.seq (.block 1 (.seq (.reg [(oA 10 (.mv (.t 8))), (oA 5 (.mv (.t 10)))] []) (.seq (.reg [(oA 11 (.mv (.t 1))), (oA 12 (.mv (.t 0))), (oA 13 (.mv (.t 5))), (oA 14 (.iaddr 2 (.t 12) (.t 13))), (oA 15 (.load true 2 (.t 14))), (oA 16 (.call (.t 11) [(.t 15)]))] []) (.cond (.t 16) (.seq (.reg [(oA 17 (.mv (.t 5))), (oA 4 (.mv (.t 17)))] []) .ret) .skip)))) (.reg [(oA 18 (.bin .add 0 (.t 8) (.k (.v (.c (.p (.int .i64 1))))))), (oA 8 (.mv (.t 18)))] []))))))) (.seq (.reg [(oA 4 (.mv (.k (.v (.c (.p (.int .i64 (-1))))))))] []) .ret))) }
theorem t94 : compF Tryz.prog (globs2 tabs opq) (fun _ => false) true Tryz.f94 = some c94.erase := by kernel_rfl
noncomputable def b94_0 (O : Oracle) (R : Jump) (q : Nat) (x0 x1 : TVal) (h : Heap) : Res1 :=
 vlen O 2 x0 h 7 fun x7 h =>
 R 1 [x0, x1, x7, (kI 0)] h
theorem e94_0 (O : Oracle) (R : Jump) (q : Nat) (x0 x1 : TVal) (h : Heap) : b94_0 O R q x0 x1 h = stepF c94 O R q 0 [x0, x1] h := by kernel_rfl
noncomputable def b94_1 (O : Oracle) (R : Jump) (q : Nat) (x0 x1 x7 x8 : TVal) (h : Heap) : Res1 :=
 vbin .lss 0 x8 x7 h fun x9 h =>
 vif x9 (
 viaddr 2 x0 x8 h fun x14 h =>
 vload true 2 x14 h fun x15 h =>
 vcall O x1 [x15] h 16 fun x16 h =>
 vif x16 (
 tcomp x8 fun c0 => vfin true q [c0] h)
 (vbin .add 0 x8 (kI 1) h fun x18 h =>
 R 1 [x0, x1, x7, x18] h))
 (tcomp (kI (-1)) fun c0 => vfin true q [c0] h)
theorem e94_1 (O : Oracle) (R : Jump) (q : Nat) (x0 x1 x7 x8 : TVal) (h : Heap) : b94_1 O R q x0 x1 x7 x8 h = stepF c94 O R q 1 [x0, x1, x7, x8] h := by kernel_rfl
noncomputable def d94 : BlkF := fun O R q => [.s fun y0 => .s fun y1 => .z fun h => b94_0 O R q y0 y1 h, .s fun y0 => .s fun y1 => .s fun y2 => .s fun y3 => .z fun h => b94_1 O R q y0 y1 y2 y3 h]
theorem o94 (O : Oracle) (R : Jump) (q : Nat) : HoldsAll c94 O R q 0 (d94 O R q) := ⟨fun y0 y1 h => e94_0 O R q y0 y1 h, fun y0 y1 y2 y3 h => e94_1 O R q y0 y1 y2 y3 h, trivial⟩
/- (*sprue/interp.run).template$1 -/
def c95 : MFunc := { np := 2, res := [.t 3], frz := true, body := (.seq (.reg [(oA 2 (.box (.t 0) true)), (oA 3 (.mv (.k (.v (.c (.p (.bool false)))))))] []) (.seq (.reg [(oA 4 (.faddr 0 (.t 2))), (oA 5 (.load false 1 (.t 4))), (oA 6 (.load false 1 (.t 1))), (oA 7 (.bin .eql 0 (.t 5) (.t 6))), (oA 3 (.mv (.t 7)))] []) .ret)) }
theorem t95 : compF Tryz.prog (globs2 tabs opq) (fun _ => true) true Tryz.f95 = some c95.erase := by kernel_rfl
noncomputable def b95_0 (O : Oracle) (R : Jump) (q : Nat) (x0 x1 : TVal) (h : Heap) : Res1 :=
 vop O (.box (.k x0) true) h 2 fun x2 h =>
 vfaddr 0 x2 h fun x4 h =>
 vload false 1 x4 h fun x5 h =>
 vload false 1 x1 h fun x6 h =>
 vbin .eql 0 x5 x6 h fun x7 h =>
 tcomp x7 fun c0 => vfin true q [c0] h
theorem e95_0 (O : Oracle) (R : Jump) (q : Nat) (x0 x1 : TVal) (h : Heap) : b95_0 O R q x0 x1 h = stepF c95 O R q 0 [x0, x1] h := by kernel_rfl
noncomputable def d95 : BlkF := fun O R q => [.s fun y0 => .s fun y1 => .z fun h => b95_0 O R q y0 y1 h]
theorem o95 (O : Oracle) (R : Jump) (q : Nat) : HoldsAll c95 O R q 0 (d95 O R q) := ⟨fun y0 y1 h => e95_0 O R q y0 y1 h, trivial⟩
/- (*sprue/sprueref7.reader).fields -/
def c96 : MFunc := { np := 2, res := [.t 4], frz := true, body := (.seq (.reg [(oA 4 (.mv (.k (.v (.c (.p .nilslice))))))] []) (.seq (.reg [(oA 5 (.mv (.k (.v (.c (.p .nilslice))))))] []) (.seq (.block 0 (.loop 1 [0, 1, 5] (.seq (.seq (.reg [(oA 6 (.mv (.t 0))), (oA 7 (.call (.k (.v (.c (.func 42 [])))) [(.t 6), (.k (.v (.c (.p (.str [46])))))])), (oA 8 (.mv (.t 7))), ⟨(some 9), (.mv (.t 0)), (some (8, true))⟩, ⟨(some 10), (.nilck (.t 9)), (some (8, true))⟩, ⟨(some 11), (.faddr 1 (.t 10)), (some (8, true))⟩, ⟨(some 12), (.load false 1 (.t 11)), (some (8, true))⟩, ⟨(some 13), (.bin .add 0 (.t 12) (.k (.v (.c (.p (.int .i64 1)))))), (some (8, true))⟩, ⟨(some 14), (.mv (.t 0)), (some (8, true))⟩, ⟨(some 15), (.nilck (.t 14)), (some (8, true))⟩, ⟨(some 16), (.faddr 0 (.t 15)), (some (8, true))⟩, ⟨(some 17), (.load false 1 (.t 16)), (some (8, true))⟩, ⟨(some 18), (.len 2 (.t 17)), (some (8, true))⟩, ⟨(some 19), (.bin .lss 0 (.t 13) (.t 18)), (some (8, true))⟩, (oA 20 (.pick (.t 8) (.t 19) (.k (.v (.c (.p (.bool false))))))), (oA 21 (.mv (.t 20))), ⟨(some 22), (.mv (.t 0)), (some (21, true))⟩, ⟨(some 23), (.nilck (.t 22)), (some (21, true))⟩, ⟨(some 24), (.faddr 0 (.t 23)), (some (21, true))⟩, ⟨(some 25), (.load false 1 (.t 24)), (some (21, true))⟩, ⟨(some 26), (.mv (.t 0)), (some (21, true))⟩, ⟨(some 27), (.nilck (.t 26)), (some (21, true))⟩, ⟨(some 28), (.faddr 1 (.t 27)), (some (21, true))⟩, ⟨(some 29), (.load false 1 (.t 28)), (some (21, true))⟩, ⟨(some 30), (.bin .add 0 (.t 29) (.k (.v (.c (.p (.int .i64 1)))))), (some (21, true))⟩, ⟨(some 31), (.iaddr 4 (.t 25) (.t 30)), (some (21, true))⟩, ⟨(some 32), (.faddr 0 (.t 31)), (some (21, true))⟩, ⟨(some 33), (.load false 1 (.t 32)), (some (21, true))⟩, ⟨(some 34), (.bin .eql 0 (.t 33) (.k (.v (.c (.p (.int .i64 1)))))), (some (21, true))⟩, (oA 35 (.pick (.t 21) (.t 34) (.k (.v (.c (.p (.bool false))))))), (oA 36 (.mv (.t 35))), ⟨(some 37), (.mv (.t 0)), (some (36, true))⟩, ⟨(some 38), (.nilck (.t 37)), (some (36, true))⟩, ⟨(some 39), (.faddr 0 (.t 38)), (some (36, true))⟩, ⟨(some 40), (.load false 1 (.t 39)), (some (36, true))⟩, ⟨(some 41), (.mv (.t 0)), (some (36, true))⟩, ⟨(some 42), (.nilck (.t 41)), (some (36, true))⟩, ⟨(some 43), (.faddr 1 (.t 42)), (some (36, true))⟩, ⟨(some 44), (.load false 1 (.t 43)), (some (36, true))⟩, ⟨(some 45), (.bin .add 0 (.t 44) (.k (.v (.c (.p (.int .i64 1)))))), (some (36, true))⟩, ⟨(some 46), (.iaddr 4 (.t 40) (.t 45)), (some (36, true))⟩, ⟨(some 47), (.faddr 3 (.t 46)), (some (36, true))⟩, ⟨(some 48), (.load false 1 (.t 47)), (some (36, true))⟩, ⟨(some 49), (.mv (.t 0)), (some (36, true))⟩, ⟨(some 50), (.nilck (.t 49)), (some (36, true))⟩, ⟨(some 51), (.faddr 0 (.t 50)), (some (36, true))⟩, ⟨(some 52), (.load false 1 (.t 51)), (some (36, true))⟩, ⟨(some 53), (.mv (.t 0)), (some (36, true))⟩, ⟨(some 54), (.nilck (.t 53)), (some (36, true))⟩, ⟨(some 55), (.faddr 1 (.t 54)), (some (36, true))⟩, ⟨(some 56), (.load false 1 (.t 55)), (some (36, true))⟩, ⟨(some 57), (.iaddr 4 (.t 52) (.t 56)), (some (36, true))⟩, ⟨(some 58), (.faddr 3 (.t 57)), (some (36, true))⟩, ⟨(some 59), (.load false 1 (.t 58)), (some (36, true))⟩, ⟨(some 60), (.bin .add 0 (.t 59) (.k (.v (.c (.p (.int .i64 1)))))), (some (36, true))⟩, ⟨(some 61), (.bin .eql 0 (.t 48) (.t 60)), (some (36, true))⟩, (oA 62 (.pick (.t 36) (.t 61) (.k (.v (.c (.p (.bool false))))))), (oA 63 (.mv (.t 62))), ⟨(some 64), (.mv (.t 1)), (some (63, true))⟩, ⟨(some 65), (.bin .lss 0 (.t 64) (.k (.v (.c (.p (.int .i64 0)))))), (some (63, true))⟩, ⟨(some 66), (.mv (.t 65)), (some (63, true))⟩, ⟨(some 67), (.mv (.t 0)), (some (66, false))⟩, ⟨(some 68), (.nilck (.t 67)), (some (66, false))⟩, ⟨(some 69), (.faddr 0 (.t 68)), (some (66, false))⟩, ⟨(some 70), (.load false 1 (.t 69)), (some (66, false))⟩, ⟨(some 71), (.mv (.t 0)), (some (66, false))⟩, ⟨(some 72), (.nilck (.t 71)), (some (66, false))⟩, ⟨(some 73), (.faddr 1 (.t 72)), (some (66, false))⟩, ⟨(some 74), (.load false 1 (.t 73)), (some (66, false))⟩, ⟨(some 75), (.iaddr 4 (.t 70) (.t 74)), (some (66, false))⟩, ⟨(some 76), (.faddr 3 (.t 75)), (some (66, false))⟩, ⟨(some 77), (.load false 1 (.t 76)), (some (66, false))⟩, ⟨(some 78), (.mv (.t 1)), (some (66, false))⟩, ⟨(some 79), (.bin .eql 0 (.t 77) (.t 78)), (some (66, false))⟩, ⟨(some 80), (.pick (.t 66) (.k (.v (.c (.p (.bool true))))) (.t 79)), (some (63, true))⟩, (oA 81 (.pick (.t 63) (.t 80) (.k (.v (.c (.p (.bool false)))))))] []) (.cond (.t 81) .skip (.exit 0))) (.block 1 (.seq (.reg [(oA 82 (.mv (.t 5))), (oA 83 (.mv (.t 0))), (oA 84 (.nilck (.t 83))), (oA 85 (.faddr 0 (.t 84))), (oA 86 (.load false 1 (.t 85))), (oA 87 (.mv (.t 0))), (oA 88 (.nilck (.t 87))), (oA 89 (.faddr 1 (.t 88))), (oA 90 (.load false 1 (.t 89))), (oA 91 (.bin .add 0 (.t 90) (.k (.v (.c (.p (.int .i64 1))))))), (oA 92 (.iaddr 4 (.t 86) (.t 91))), (oA 93 (.faddr 1 (.t 92))), (oA 94 (.load false 1 (.t 93))), (oA 95 (.bslice 1 1 [(.p (.str []))] [(0, (.t 94))] false)), (oA 96 (.append 1 16 false (.t 82) (.t 95))), (oA 5 (.mv (.t 96)))] []) (.seq (.reg [(oA 97 (.mv (.t 0))), (oA 98 (.nilck (.t 97))), (oA 99 (.faddr 0 (.t 98))), (oA 100 (.load false 1 (.t 99))), (oA 101 (.mv (.t 0))), (oA 102 (.nilck (.t 101))), (oA 103 (.faddr 1 (.t 102))), (oA 104 (.load false 1 (.t 103))), (oA 105 (.bin .add 0 (.t 104) (.k (.v (.c (.p (.int .i64 1))))))), (oA 106 (.iaddr 4 (.t 100) (.t 105))), (oA 107 (.faddr 3 (.t 106))), (oA 108 (.load false 1 (.t 107))), (oA 109 (.mv (.t 0))), (oA 110 (.nilck (.t 109))), (oA 111 (.faddr 0 (.t 110))), (oA 112 (.load false 1 (.t 111))), (oA 113 (.mv (.t 0))), (oA 114 (.nilck (.t 113))), (oA 115 (.faddr 1 (.t 114))), (oA 116 (.load false 1 (.t 115))), (oA 117 (.bin .add 0 (.t 116) (.k (.v (.c (.p (.int .i64 1))))))), (oA 118 (.iaddr 4 (.t 112) (.t 117))), (oA 119 (.faddr 1 (.t 118))), (oA 120 (.load false 1 (.t 119))), (oA 121 (.len 0 (.t 120))), (oA 122 (.bin .add 0 (.t 108) (.t 121))), (oA 1 (.mv (.t 122)))] []) (.reg [(oA 123 (.mv (.t 0))), (oA 124 (.mv (.t 0))), (oA 125 (.nilck (.t 124))), (oA 126 (.faddr 1 (.t 125))), (oA 127 (.load false 1 (.t 126))), (oA 128 (.bin .add 0 (.t 127) (.k (.v (.c (.p (.int .i64 2))))))), (oA 129 (.nilck (.t 123))), (oA 130 (.faddr 1 (.t 129))), (oN (.store 1 (.t 130) (.t 128)))] []))))))) (.seq (.reg [(oA 131 (.mv (.t 5))), (oA 4 (.mv (.t 131)))] []) .ret)))) }
theorem t96 : compF Tryz.prog (globs2 tabs opq) (fun _ => false) true Tryz.f96 = some c96.erase := by kernel_rfl
noncomputable def b96_0 (O : Oracle) (R : Jump) (q : Nat) (x0 x1 : TVal) (h : Heap) : Res1 :=
 R 1 [x0, x1, (.v (.c (.p .nilslice)))] h
theorem e96_0 (O : Oracle) (R : Jump) (q : Nat) (x0 x1 : TVal) (h : Heap) : b96_0 O R q x0 x1 h = stepF c96 O R q 0 [x0, x1] h := by kernel_rfl
noncomputable def b96_1 (O : Oracle) (R : Jump) (q : Nat) (x0 x1 x5 : TVal) (h : Heap) : Res1 :=
 vcall O (.v (.c (.func 42 []))) [x0, (kS [46])] h 7 fun x7 h =>
 vguard x7 true (fun kk => kk x0 h) h fun x9 h =>
 vguard x7 true (fun kk => vop O (.nilck (.k x9)) h 10 kk) h fun x10 h =>
 vguard x7 true (fun kk => vfaddr 1 x10 h kk) h fun x11 h =>
 vguard x7 true (fun kk => vload false 1 x11 h kk) h fun x12 h =>
 vguard x7 true (fun kk => vbin .add 0 x12 (kI 1) h kk) h fun x13 h =>
 vguard x7 true (fun kk => kk x0 h) h fun x14 h =>
 vguard x7 true (fun kk => vop O (.nilck (.k x14)) h 15 kk) h fun x15 h =>
 vguard x7 true (fun kk => vfaddr 0 x15 h kk) h fun x16 h =>
 vguard x7 true (fun kk => vload false 1 x16 h kk) h fun x17 h =>
 vguard x7 true (fun kk => vlen O 2 x17 h 18 kk) h fun x18 h =>
 vguard x7 true (fun kk => vbin .lss 0 x13 x18 h kk) h fun x19 h =>
 vop O (.pick (.k x7) (.k x19) (.k (kB false))) h 20 fun x20 h =>
 vguard x20 true (fun kk => kk x0 h) h fun x22 h =>
 vguard x20 true (fun kk => vop O (.nilck (.k x22)) h 23 kk) h fun x23 h =>
 vguard x20 true (fun kk => vfaddr 0 x23 h kk) h fun x24 h =>
 vguard x20 true (fun kk => vload false 1 x24 h kk) h fun x25 h =>
 vguard x20 true (fun kk => kk x0 h) h fun x26 h =>
 vguard x20 true (fun kk => vop O (.nilck (.k x26)) h 27 kk) h fun x27 h =>
 vguard x20 true (fun kk => vfaddr 1 x27 h kk) h fun x28 h =>
 vguard x20 true (fun kk => vload false 1 x28 h kk) h fun x29 h =>
 vguard x20 true (fun kk => vbin .add 0 x29 (kI 1) h kk) h fun x30 h =>
 vguard x20 true (fun kk => viaddr 4 x25 x30 h kk) h fun x31 h =>
 vguard x20 true (fun kk => vfaddr 0 x31 h kk) h fun x32 h =>
 vguard x20 true (fun kk => vload false 1 x32 h kk) h fun x33 h =>
 vguard x20 true (fun kk => vbin .eql 0 x33 (kI 1) h kk) h fun x34 h =>
 vop O (.pick (.k x20) (.k x34) (.k (kB false))) h 35 fun x35 h =>
 vguard x35 true (fun kk => kk x0 h) h fun x37 h =>
 vguard x35 true (fun kk => vop O (.nilck (.k x37)) h 38 kk) h fun x38 h =>
 vguard x35 true (fun kk => vfaddr 0 x38 h kk) h fun x39 h =>
 vguard x35 true (fun kk => vload false 1 x39 h kk) h fun x40 h =>
 vguard x35 true (fun kk => kk x0 h) h fun x41 h =>
 vguard x35 true (fun kk => vop O (.nilck (.k x41)) h 42 kk) h fun x42 h =>
 vguard x35 true (fun kk => vfaddr 1 x42 h kk) h fun x43 h =>
 vguard x35 true (fun kk => vload false 1 x43 h kk) h fun x44 h =>
 vguard x35 true (fun kk => vbin .add 0 x44 (kI 1) h kk) h fun x45 h =>
 vguard x35 true (fun kk => viaddr 4 x40 x45 h kk) h fun x46 h =>
 vguard x35 true (fun kk => vfaddr 3 x46 h kk) h fun x47 h =>
 vguard x35 true (fun kk => vload false 1 x47 h kk) h fun x48 h =>
 vguard x35 true (fun kk => kk x0 h) h fun x49 h =>
 vguard x35 true (fun kk => vop O (.nilck (.k x49)) h 50 kk) h fun x50 h =>
 vguard x35 true (fun kk => vfaddr 0 x50 h kk) h fun x51 h =>
 vguard x35 true (fun kk => vload false 1 x51 h kk) h fun x52 h =>
 vguard x35 true (fun kk => kk x0 h) h fun x53 h =>
 vguard x35 true (fun kk => vop O (.nilck (.k x53)) h 54 kk) h fun x54 h =>
 vguard x35 true (fun kk => vfaddr 1 x54 h kk) h fun x55 h =>
 vguard x35 true (fun kk => vload false 1 x55 h kk) h fun x56 h =>
 vguard x35 true (fun kk => viaddr 4 x52 x56 h kk) h fun x57 h =>
 vguard x35 true (fun kk => vfaddr 3 x57 h kk) h fun x58 h =>
 vguard x35 true (fun kk => vload false 1 x58 h kk) h fun x59 h =>
 vguard x35 true (fun kk => vbin .add 0 x59 (kI 1) h kk) h fun x60 h =>
 vguard x35 true (fun kk => vbin .eql 0 x48 x60 h kk) h fun x61 h =>
 vop O (.pick (.k x35) (.k x61) (.k (kB false))) h 62 fun x62 h =>
 vguard x62 true (fun kk => kk x1 h) h fun x64 h =>
 vguard x62 true (fun kk => vbin .lss 0 x64 (kI 0) h kk) h fun x65 h =>
 vguard x62 true (fun kk => kk x65 h) h fun x66 h =>
 vguard x66 false (fun kk => kk x0 h) h fun x67 h =>
 vguard x66 false (fun kk => vop O (.nilck (.k x67)) h 68 kk) h fun x68 h =>
 vguard x66 false (fun kk => vfaddr 0 x68 h kk) h fun x69 h =>
 vguard x66 false (fun kk => vload false 1 x69 h kk) h fun x70 h =>
 vguard x66 false (fun kk => kk x0 h) h fun x71 h =>
 vguard x66 false (fun kk => vop O (.nilck (.k x71)) h 72 kk) h fun x72 h =>
 vguard x66 false (fun kk => vfaddr 1 x72 h kk) h fun x73 h =>
 vguard x66 false (fun kk => vload false 1 x73 h kk) h fun x74 h =>
 vguard x66 false (fun kk => viaddr 4 x70 x74 h kk) h fun x75 h =>
 vguard x66 false (fun kk => vfaddr 3 x75 h kk) h fun x76 h =>
 vguard x66 false (fun kk => vload false 1 x76 h kk) h fun x77 h =>
 vguard x66 false (fun kk => kk x1 h) h fun x78 h =>
 vguard x66 false (fun kk => vbin .eql 0 x77 x78 h kk) h fun x79 h =>
 vguard x62 true (fun kk => vop O (.pick (.k x66) (.k (kB true)) (.k x79)) h 80 kk) h fun x80 h =>
 vop O (.pick (.k x62) (.k x80) (.k (kB false))) h 81 fun x81 h =>
 vif x81 (
 vop O (.nilck (.k x0)) h 84 fun x84 h =>
 vfaddr 0 x84 h fun x85 h =>
 vload false 1 x85 h fun x86 h =>
 vop O (.nilck (.k x0)) h 88 fun x88 h =>
 vfaddr 1 x88 h fun x89 h =>
 vload false 1 x89 h fun x90 h =>
 vbin .add 0 x90 (kI 1) h fun x91 h =>
 viaddr 4 x86 x91 h fun x92 h =>
 vfaddr 1 x92 h fun x93 h =>
 vload false 1 x93 h fun x94 h =>
 vop O (.bslice 1 1 [(.p (.str []))] [(0, (.k x94))] false) h 95 fun x95 h =>
 vop O (.append 1 16 false (.k x5) (.k x95)) h 96 fun x96 h =>
 vop O (.nilck (.k x0)) h 98 fun x98 h =>
 vfaddr 0 x98 h fun x99 h =>
 vload false 1 x99 h fun x100 h =>
 vop O (.nilck (.k x0)) h 102 fun x102 h =>
 vfaddr 1 x102 h fun x103 h =>
 vload false 1 x103 h fun x104 h =>
 vbin .add 0 x104 (kI 1) h fun x105 h =>
 viaddr 4 x100 x105 h fun x106 h =>
 vfaddr 3 x106 h fun x107 h =>
 vload false 1 x107 h fun x108 h =>
 vop O (.nilck (.k x0)) h 110 fun x110 h =>
 vfaddr 0 x110 h fun x111 h =>
 vload false 1 x111 h fun x112 h =>
 vop O (.nilck (.k x0)) h 114 fun x114 h =>
 vfaddr 1 x114 h fun x115 h =>
 vload false 1 x115 h fun x116 h =>
 vbin .add 0 x116 (kI 1) h fun x117 h =>
 viaddr 4 x112 x117 h fun x118 h =>
 vfaddr 1 x118 h fun x119 h =>
 vload false 1 x119 h fun x120 h =>
 vlen O 0 x120 h 121 fun x121 h =>
 vbin .add 0 x108 x121 h fun x122 h =>
 vop O (.nilck (.k x0)) h 125 fun x125 h =>
 vfaddr 1 x125 h fun x126 h =>
 vload false 1 x126 h fun x127 h =>
 vbin .add 0 x127 (kI 2) h fun x128 h =>
 vop O (.nilck (.k x0)) h 129 fun x129 h =>
 vfaddr 1 x129 h fun x130 h =>
 vstore 1 x130 x128 h fun _ h =>
 R 1 [x0, x122, x96] h)
 (tcomp x5 fun c0 => vfin true q [c0] h)
theorem e96_1 (O : Oracle) (R : Jump) (q : Nat) (x0 x1 x5 : TVal) (h : Heap) : b96_1 O R q x0 x1 x5 h = stepF c96 O R q 1 [x0, x1, x5] h := by kernel_rfl
noncomputable def d96 : BlkF := fun O R q => [.s fun y0 => .s fun y1 => .z fun h => b96_0 O R q y0 y1 h, .s fun y0 => .s fun y1 => .s fun y2 => .z fun h => b96_1 O R q y0 y1 y2 h]
theorem o96 (O : Oracle) (R : Jump) (q : Nat) : HoldsAll c96 O R q 0 (d96 O R q) := ⟨fun y0 y1 h => e96_0 O R q y0 y1 h, fun y0 y1 y2 h => e96_1 O R q y0 y1 y2 h, trivial⟩
/- (*sprue/sprueref7.reader).eat -/
def c97 : MFunc := { np := 2, res := [], frz := true, body := (.seq (.reg [(oA 4 (.mv (.t 0))), (oA 5 (.mv (.t 1))), (oA 6 (.call (.k (.v (.c (.func 42 [])))) [(.t 4), (.t 5)]))] []) (.cond (.t 6) (.reg [(oA 7 (.mv (.t 0))), (oA 8 (.nilck (.t 7))), (oA 9 (.faddr 1 (.t 8))), (oA 10 (.load false 1 (.t 9))), (oA 11 (.bin .add 0 (.t 10) (.k (.v (.c (.p (.int .i64 1))))))), (oA 12 (.nilck (.t 7))), (oA 13 (.faddr 1 (.t 12))), (oN (.store 1 (.t 13) (.t 11)))] []) (.reg [(oA 14 (.mv (.t 0))), (oA 15 (.call (.k (.v (.c (.func 64 [])))) [(.t 14), (.k (.v (.c (.p (.int .i64 12)))))]))] []))) }
theorem t97 : compF Tryz.prog (globs2 tabs opq) (fun _ => false) true Tryz.f97 = some c97.erase := by kernel_rfl
noncomputable def b97_0 (O : Oracle) (R : Jump) (q : Nat) (x0 x1 : TVal) (h : Heap) : Res1 :=
 vcall O (.v (.c (.func 42 []))) [x0, x1] h 6 fun x6 h =>
 vif x6 (
 vop O (.nilck (.k x0)) h 8 fun x8 h =>
 vfaddr 1 x8 h fun x9 h =>
 vload false 1 x9 h fun x10 h =>
 vbin .add 0 x10 (kI 1) h fun x11 h =>
 vop O (.nilck (.k x0)) h 12 fun x12 h =>
 vfaddr 1 x12 h fun x13 h =>
 vstore 1 x13 x11 h fun _ h =>
 vfin true q [] h)
 (vcall O (.v (.c (.func 64 []))) [x0, (kI 12)] h 15 fun x15 h =>
 vfin true q [] h)
theorem e97_0 (O : Oracle) (R : Jump) (q : Nat) (x0 x1 : TVal) (h : Heap) : b97_0 O R q x0 x1 h = stepF c97 O R q 0 [x0, x1] h := by kernel_rfl
noncomputable def d97 : BlkF := fun O R q => [.s fun y0 => .s fun y1 => .z fun h => b97_0 O R q y0 y1 h]
theorem o97 (O : Oracle) (R : Jump) (q : Nat) : HoldsAll c97 O R q 0 (d97 O R q) := ⟨fun y0 y1 h => e97_0 O R q y0 y1 h, trivial⟩
/- sprue/shape.Builtin -/
def c98 : MFunc := { np := 1, res := [.t 2], frz := true, body := (.seq (.reg [(oA 2 (.mv (.k (.v (.c (.p (.bool false)))))))] []) (.seq (.reg [(oA 3 (.mv (.t 0))), (oA 4 (.call (.k (.v (.c (.func 105 [])))) [(.t 3)])), (oA 5 (.mv (.t 4))), ⟨(some 6), (.mv (.t 0)), (some (5, true))⟩, ⟨(some 7), (.bin .add 0 (.k (.v (.c (.p (.str [32]))))) (.t 6)), (some (5, true))⟩, ⟨(some 8), (.bin .add 0 (.t 7) (.k (.v (.c (.p (.str [32])))))), (some (5, true))⟩, ⟨(some 9), (.call (.k (.v (.c (.func 106 [])))) [(.k (.v (.c (.p (.str [32, 108, 101, 110, 32, 110, 111, 116, 32, 97, 110, 100, 32, 111, 114, 32, 101, 113, 32, 108, 116, 32, 97, 100, 100, 32, 115, 117, 98, 32, 109, 117, 108, 32, 115, 104, 108, 32, 115, 104, 114, 32, 105, 56, 32, 105, 49, 54, 32, 105, 51, 50, 32, 117, 56, 32, 117, 49, 54, 32, 117, 51, 50, 32, 99, 97, 116, 32, 116, 101, 120, 116, 32, 97, 116, 32, 103, 101, 116, 32, 104, 97, 115, 32, 111, 114, 101, 108, 115, 101, 32]))))), (.t 8)]), (some (5, true))⟩, (oA 10 (.pick (.t 5) (.t 9) (.k (.v (.c (.p (.bool false))))))), (oA 2 (.mv (.t 10)))] []) .ret)) }
theorem t98 : compF Tryz.prog (globs2 tabs opq) (fun _ => false) true Tryz.f98 = some c98.erase := by kernel_rfl
noncomputable def b98_0 (O : Oracle) (R : Jump) (q : Nat) (x0 : TVal) (h : Heap) : Res1 :=
 vcall O (.v (.c (.func 105 []))) [x0] h 4 fun x4 h =>
 vguard x4 true (fun kk => kk x0 h) h fun x6 h =>
 vguard x4 true (fun kk => vbin .add 0 (kS [32]) x6 h kk) h fun x7 h =>
 vguard x4 true (fun kk => vbin .add 0 x7 (kS [32]) h kk) h fun x8 h =>
 vguard x4 true (fun kk => vcall O (.v (.c (.func 106 []))) [(kS [32, 108, 101, 110, 32, 110, 111, 116, 32, 97, 110, 100, 32, 111, 114, 32, 101, 113, 32, 108, 116, 32, 97, 100, 100, 32, 115, 117, 98, 32, 109, 117, 108, 32, 115, 104, 108, 32, 115, 104, 114, 32, 105, 56, 32, 105, 49, 54, 32, 105, 51, 50, 32, 117, 56, 32, 117, 49, 54, 32, 117, 51, 50, 32, 99, 97, 116, 32, 116, 101, 120, 116, 32, 97, 116, 32, 103, 101, 116, 32, 104, 97, 115, 32, 111, 114, 101, 108, 115, 101, 32]), x8] h 9 kk) h fun x9 h =>
 vop O (.pick (.k x4) (.k x9) (.k (kB false))) h 10 fun x10 h =>
 tcomp x10 fun c0 => vfin true q [c0] h
theorem e98_0 (O : Oracle) (R : Jump) (q : Nat) (x0 : TVal) (h : Heap) : b98_0 O R q x0 h = stepF c98 O R q 0 [x0] h := by kernel_rfl
noncomputable def d98 : BlkF := fun O R q => [.s fun y0 => .z fun h => b98_0 O R q y0 h]
theorem o98 (O : Oracle) (R : Jump) (q : Nat) : HoldsAll c98 O R q 0 (d98 O R q) := ⟨fun y0 h => e98_0 O R q y0 h, trivial⟩
/- sprue/calls.Eval -/
def c99 : MFunc := { np := 2, res := [.cell 4 true 6, .t 5], frz := true, body := (.seq (.reg [(oA 4 (.alloc [(.p (.int .i64 0)), (.p (.bool false)), (.p (.int .i64 0)), (.p (.str [])), (.p .nilslice), (.p .nilslice)] false)), (oA 5 (.mv (.k (.v (.c (.p (.int .i64 0)))))))] []) (.seq (.block 0 (.seq (.reg [(oA 9 (.mv (.t 0))), (oA 10 (.call (.k (.v (.c (.func 98 [])))) [(.t 9)])), (oA 11 (.un .not (.t 10))), (oA 8 (.mv (.t 11)))] []) (.cond (.t 8) (.seq (.reg [(oA 12 (.build [(.p (.int .i64 0)), (.p (.bool false)), (.p (.int .i64 0)), (.p (.str [])), (.p .nilslice), (.p .nilslice)] [])), (oN (.store 6 (.t 4) (.t 12))), (oA 5 (.mv (.k (.v (.c (.p (.int .i64 15)))))))] []) .ret) (.seq (.reg [(oA 14 (.mv (.t 1))), (oA 15 (.len 2 (.t 14))), (oA 16 (.mv (.t 0))), (oA 17 (.call (.k (.v (.c (.func 107 [])))) [(.t 16)])), (oA 18 (.bin .neq 0 (.t 15) (.t 17))), (oA 13 (.mv (.t 18)))] []) (.cond (.t 13) (.seq (.reg [(oA 19 (.build [(.p (.int .i64 0)), (.p (.bool false)), (.p (.int .i64 0)), (.p (.str [])), (.p .nilslice), (.p .nilslice)] [])), (oN (.store 6 (.t 4) (.t 19))), (oA 5 (.mv (.k (.v (.c (.p (.int .i64 18)))))))] []) .ret) .skip))))) (.seq (.seq (.reg [(oA 20 (.mv (.t 0)))] []) (.block 1 (.seq (.reg [(oA 22 (.bin .eql 0 (.t 20) (.k (.v (.c (.p (.str [108, 101, 110]))))))), (oA 21 (.mv (.t 22)))] []) (.cond (.t 21) (.seq (.reg [(oA 23 (.mv (.t 1))), (oA 24 (.iaddr 6 (.t 23) (.k (.v (.c (.p (.int .i64 0))))))), (oA 25 (.load true 6 (.t 24))), (oA 26 (.call (.k (.v (.c (.func 108 [])))) [(.t 25)])), (oA 27 (.extract (.t 26) 0)), (oA 28 (.extract (.t 26) 1)), (oN (.store 6 (.t 4) (.t 27))), (oA 5 (.mv (.t 28)))] []) .ret) (.seq (.seq (.reg [(oA 30 (.bin .eql 0 (.t 20) (.k (.v (.c (.p (.str [110, 111, 116]))))))), (oA 29 (.mv (.t 30)))] []) (.cond (.t 29) .skip (.seq (.reg [(oA 31 (.bin .eql 0 (.t 20) (.k (.v (.c (.p (.str [97, 110, 100]))))))), (oA 29 (.mv (.t 31)))] []) (.cond (.t 29) .skip (.reg [(oA 32 (.bin .eql 0 (.t 20) (.k (.v (.c (.p (.str [111, 114]))))))), (oA 29 (.mv (.t 32)))] []))))) (.mark 1 [0, 1, 4, 20, 29] (.cond (.t 29) (.seq (.reg [(oA 33 (.mv (.t 0))), (oA 34 (.mv (.t 1))), (oA 35 (.call (.k (.v (.c (.func 109 [])))) [(.t 33), (.t 34)])), (oA 36 (.extract (.t 35) 0)), (oA 37 (.extract (.t 35) 1)), (oN (.store 6 (.t 4) (.t 36))), (oA 5 (.mv (.t 37)))] []) .ret) (.seq (.reg [(oA 39 (.bin .eql 0 (.t 20) (.k (.v (.c (.p (.str [101, 113]))))))), (oA 38 (.mv (.t 39)))] []) (.cond (.t 38) (.seq (.reg [(oA 40 (.mv (.t 1))), (oA 41 (.call (.k (.v (.c (.func 110 [])))) [(.t 40)])), (oA 42 (.extract (.t 41) 0)), (oA 43 (.extract (.t 41) 1)), (oN (.store 6 (.t 4) (.t 42))), (oA 5 (.mv (.t 43)))] []) .ret) (.seq (.reg [(oA 45 (.bin .eql 0 (.t 20) (.k (.v (.c (.p (.str [99, 97, 116]))))))), (oA 44 (.mv (.t 45)))] []) (.cond (.t 44) (.seq (.reg [(oA 46 (.mv (.t 1))), (oA 47 (.call (.k (.v (.c (.func 111 [])))) [(.t 46)])), (oA 48 (.extract (.t 47) 0)), (oA 49 (.extract (.t 47) 1)), (oN (.store 6 (.t 4) (.t 48))), (oA 5 (.mv (.t 49)))] []) .ret) (.seq (.reg [(oA 51 (.bin .eql 0 (.t 20) (.k (.v (.c (.p (.str [116, 101, 120, 116]))))))), (oA 50 (.mv (.t 51)))] []) (.cond (.t 50) (.seq (.reg [(oA 52 (.mv (.t 1))), (oA 53 (.iaddr 6 (.t 52) (.k (.v (.c (.p (.int .i64 0))))))), (oA 54 (.load true 6 (.t 53))), (oA 55 (.call (.k (.v (.c (.func 112 [])))) [(.t 54)])), (oA 56 (.extract (.t 55) 0)), (oA 57 (.extract (.t 55) 1)), (oN (.store 6 (.t 4) (.t 56))), (oA 5 (.mv (.t 57)))] []) .ret) (.seq (.reg [(oA 59 (.bin .eql 0 (.t 20) (.k (.v (.c (.p (.str [97, 116]))))))), (oA 58 (.mv (.t 59)))] []) (.cond (.t 58) (.seq (.reg [(oA 60 (.mv (.t 1))), (oA 61 (.call (.k (.v (.c (.func 113 [])))) [(.t 60)])), (oA 62 (.extract (.t 61) 0)), (oA 63 (.extract (.t 61) 1)), (oN (.store 6 (.t 4) (.t 62))), (oA 5 (.mv (.t 63)))] []) .ret) (.seq (.reg [(oA 65 (.bin .eql 0 (.t 20) (.k (.v (.c (.p (.str [103, 101, 116]))))))), (oA 64 (.mv (.t 65)))] []) (.cond (.t 64) (.seq (.seq (.reg [(oA 66 (.mv (.t 1))), (oA 67 (.bslice 1 2 [(.p (.int .i64 0))] [(0, (.k (.v (.c (.p (.int .i64 5)))))), (1, (.k (.v (.c (.p (.int .i64 3))))))] false)), (oA 68 (.call (.k (.v (.c (.func 114 [])))) [(.t 66), (.t 67)])), (oA 69 (.un .not (.t 68)))] []) (.cond (.t 69) (.seq (.reg [(oA 70 (.build [(.p (.int .i64 0)), (.p (.bool false)), (.p (.int .i64 0)), (.p (.str [])), (.p .nilslice), (.p .nilslice)] [])), (oN (.store 6 (.t 4) (.t 70))), (oA 5 (.mv (.k (.v (.c (.p (.int .i64 17)))))))] []) .ret) .skip)) (.seq (.reg [(oA 72 (.mv (.t 1))), (oA 73 (.iaddr 6 (.t 72) (.k (.v (.c (.p (.int .i64 0))))))), (oA 74 (.load true 6 (.t 73))), (oA 75 (.mv (.t 1))), (oA 76 (.iaddr 6 (.t 75) (.k (.v (.c (.p (.int .i64 1))))))), (oA 77 (.faddr 3 (.t 76))), (oA 78 (.load false 1 (.t 77))), (oA 79 (.call (.k (.v (.c (.func 54 [])))) [(.t 74), (.t 78)])), (oA 71 (.mv (.t 79))), (oA 80 (.extract (.t 71) 0)), (oA 81 (.extract (.t 71) 1)), (oA 6 (.alloc [(.p (.int .i64 0)), (.p (.bool false)), (.p (.int .i64 0)), (.p (.str [])), (.p .nilslice), (.p .nilslice)] false)), (oN (.store 6 (.t 6) (.t 80))), (oA 7 (.mv (.t 81)))] [(2, 11), (6, 11), (7, 11)]) (.seq (.reg [(oA 82 (.load true 6 (.t 6))), (oN (.store 6 (.t 4) (.t 82))), (oA 5 (.mv (.k (.v (.c (.p (.int .i64 0)))))))] []) .ret))) (.seq (.reg [(oA 84 (.bin .eql 0 (.t 20) (.k (.v (.c (.p (.str [104, 97, 115]))))))), (oA 83 (.mv (.t 84)))] []) (.cond (.t 83) (.seq (.reg [(oA 85 (.mv (.t 1))), (oA 86 (.iaddr 6 (.t 85) (.k (.v (.c (.p (.int .i64 0))))))), (oA 87 (.faddr 0 (.t 86))), (oA 88 (.load false 1 (.t 87))), (oA 89 (.bin .neq 0 (.t 88) (.k (.v (.c (.p (.int .i64 0))))))), (oA 90 (.call (.k (.v (.c (.func 115 [])))) [(.t 89)])), (oN (.store 6 (.t 4) (.t 90))), (oA 5 (.mv (.k (.v (.c (.p (.int .i64 0)))))))] []) .ret) (.seq (.reg [(oA 92 (.bin .eql 0 (.t 20) (.k (.v (.c (.p (.str [111, 114, 101, 108, 115, 101]))))))), (oA 91 (.mv (.t 92)))] []) (.cond (.t 91) (.seq (.seq (.reg [(oA 93 (.mv (.t 1))), (oA 94 (.iaddr 6 (.t 93) (.k (.v (.c (.p (.int .i64 0))))))), (oA 95 (.faddr 0 (.t 94))), (oA 96 (.load false 1 (.t 95))), (oA 97 (.bin .neq 0 (.t 96) (.k (.v (.c (.p (.int .i64 0)))))))] []) (.cond (.t 97) (.seq (.reg [(oA 98 (.mv (.t 1))), (oA 99 (.iaddr 6 (.t 98) (.k (.v (.c (.p (.int .i64 0))))))), (oA 100 (.load true 6 (.t 99))), (oA 101 (.call (.k (.v (.c (.func 29 [])))) [(.t 100)])), (oN (.store 6 (.t 4) (.t 101))), (oA 5 (.mv (.k (.v (.c (.p (.int .i64 0)))))))] []) .ret) .skip)) (.seq (.reg [(oA 102 (.mv (.t 1))), (oA 103 (.iaddr 6 (.t 102) (.k (.v (.c (.p (.int .i64 1))))))), (oA 104 (.load true 6 (.t 103))), (oA 105 (.call (.k (.v (.c (.func 29 [])))) [(.t 104)])), (oN (.store 6 (.t 4) (.t 105))), (oA 5 (.mv (.k (.v (.c (.p (.int .i64 0)))))))] []) .ret)) .skip))))))))))))))))))))) (.seq (.reg [(oA 106 (.mv (.t 0))), (oA 107 (.mv (.t 1))), (oA 108 (.call (.k (.v (.c (.func 116 [])))) [(.t 106), (.t 107)])), (oA 109 (.extract (.t 108) 0)), (oA 110 (.extract (.t 108) 1)), (oN (.store 6 (.t 4) (.t 109))), (oA 5 (.mv (.t 110)))] []) .ret)))) }
theorem t99 : compF Tryz.prog (globs2 tabs opq) (fun _ => false) true Tryz.f99 = some c99.erase := by kernel_rfl
noncomputable def b99_0 (O : Oracle) (R : Jump) (q : Nat) (x0 x1 : TVal) (h : Heap) : Res1 :=
 vop O (.alloc [(.p (.int .i64 0)), (.p (.bool false)), (.p (.int .i64 0)), (.p (.str [])), (.p .nilslice), (.p .nilslice)] false) h 4 fun x4 h =>
 vcall O (.v (.c (.func 98 []))) [x0] h 10 fun x10 h =>
 vop O (.un .not (.k x10)) h 11 fun x11 h =>
 vif x11 (
 vop O (.build [(.p (.int .i64 0)), (.p (.bool false)), (.p (.int .i64 0)), (.p (.str [])), (.p .nilslice), (.p .nilslice)] []) h 12 fun x12 h =>
 vstore 6 x4 x12 h fun _ h =>
 vcell true 6 x4 h fun c0 => tcomp (kI 15) fun c1 => vfin true q [c0, c1] h)
 (vlen O 2 x1 h 15 fun x15 h =>
 vcall O (.v (.c (.func 107 []))) [x0] h 17 fun x17 h =>
 vbin .neq 0 x15 x17 h fun x18 h =>
 vif x18 (
 vop O (.build [(.p (.int .i64 0)), (.p (.bool false)), (.p (.int .i64 0)), (.p (.str [])), (.p .nilslice), (.p .nilslice)] []) h 19 fun x19 h =>
 vstore 6 x4 x19 h fun _ h =>
 vcell true 6 x4 h fun c0 => tcomp (kI 18) fun c1 => vfin true q [c0, c1] h)
 (vbin .eql 0 x0 (kS [108, 101, 110]) h fun x22 h =>
 vif x22 (
 viaddr 6 x1 (kI 0) h fun x24 h =>
 vload true 6 x24 h fun x25 h =>
 vcall O (.v (.c (.func 108 []))) [x25] h 26 fun x26 h =>
 vext x26 0 h fun x27 h =>
 vext x26 1 h fun x28 h =>
 vstore 6 x4 x27 h fun _ h =>
 vcell true 6 x4 h fun c0 => tcomp x28 fun c1 => vfin true q [c0, c1] h)
 (vbin .eql 0 x0 (kS [110, 111, 116]) h fun x30 h =>
 vif x30 (
 R 1 [x0, x1, x4, x0, x30] h)
 (vbin .eql 0 x0 (kS [97, 110, 100]) h fun x31 h =>
 vif x31 (
 R 1 [x0, x1, x4, x0, x31] h)
 (vbin .eql 0 x0 (kS [111, 114]) h fun x32 h =>
 R 1 [x0, x1, x4, x0, x32] h)))))
theorem e99_0 (O : Oracle) (R : Jump) (q : Nat) (x0 x1 : TVal) (h : Heap) : b99_0 O R q x0 x1 h = stepF c99 O R q 0 [x0, x1] h := by kernel_rfl
noncomputable def b99_1 (O : Oracle) (R : Jump) (q : Nat) (x0 x1 x4 x20 x29 : TVal) (h : Heap) : Res1 :=
 vif x29 (
 vcall O (.v (.c (.func 109 []))) [x0, x1] h 35 fun x35 h =>
 vext x35 0 h fun x36 h =>
 vext x35 1 h fun x37 h =>
 vstore 6 x4 x36 h fun _ h =>
 vcell true 6 x4 h fun c0 => tcomp x37 fun c1 => vfin true q [c0, c1] h)
 (vbin .eql 0 x20 (kS [101, 113]) h fun x39 h =>
 vif x39 (
 vcall O (.v (.c (.func 110 []))) [x1] h 41 fun x41 h =>
 vext x41 0 h fun x42 h =>
 vext x41 1 h fun x43 h =>
 vstore 6 x4 x42 h fun _ h =>
 vcell true 6 x4 h fun c0 => tcomp x43 fun c1 => vfin true q [c0, c1] h)
 (vbin .eql 0 x20 (kS [99, 97, 116]) h fun x45 h =>
 vif x45 (
 vcall O (.v (.c (.func 111 []))) [x1] h 47 fun x47 h =>
 vext x47 0 h fun x48 h =>
 vext x47 1 h fun x49 h =>
 vstore 6 x4 x48 h fun _ h =>
 vcell true 6 x4 h fun c0 => tcomp x49 fun c1 => vfin true q [c0, c1] h)
 (vbin .eql 0 x20 (kS [116, 101, 120, 116]) h fun x51 h =>
 vif x51 (
 viaddr 6 x1 (kI 0) h fun x53 h =>
 vload true 6 x53 h fun x54 h =>
 vcall O (.v (.c (.func 112 []))) [x54] h 55 fun x55 h =>
 vext x55 0 h fun x56 h =>
 vext x55 1 h fun x57 h =>
 vstore 6 x4 x56 h fun _ h =>
 vcell true 6 x4 h fun c0 => tcomp x57 fun c1 => vfin true q [c0, c1] h)
 (vbin .eql 0 x20 (kS [97, 116]) h fun x59 h =>
 vif x59 (
 vcall O (.v (.c (.func 113 []))) [x1] h 61 fun x61 h =>
 vext x61 0 h fun x62 h =>
 vext x61 1 h fun x63 h =>
 vstore 6 x4 x62 h fun _ h =>
 vcell true 6 x4 h fun c0 => tcomp x63 fun c1 => vfin true q [c0, c1] h)
 (vbin .eql 0 x20 (kS [103, 101, 116]) h fun x65 h =>
 vif x65 (
 vop O (.bslice 1 2 [(.p (.int .i64 0))] [(0, (.k (kI 5))), (1, (.k (kI 3)))] false) h 67 fun x67 h =>
 vcall O (.v (.c (.func 114 []))) [x1, x67] h 68 fun x68 h =>
 vop O (.un .not (.k x68)) h 69 fun x69 h =>
 vif x69 (
 vop O (.build [(.p (.int .i64 0)), (.p (.bool false)), (.p (.int .i64 0)), (.p (.str [])), (.p .nilslice), (.p .nilslice)] []) h 70 fun x70 h =>
 vstore 6 x4 x70 h fun _ h =>
 vcell true 6 x4 h fun c0 => tcomp (kI 17) fun c1 => vfin true q [c0, c1] h)
 (vtouch O (.mv (.k x1)) h 72 fun x72 h t0 =>
 vtouch O (.iaddr 6 (.k x72) (.k (kI 0))) h 73 fun x73 h t1 =>
 vtouch O (.load true 6 (.k x73)) h 74 fun x74 h t2 =>
 vtouch O (.mv (.k x1)) h 75 fun x75 h t3 =>
 vtouch O (.iaddr 6 (.k x75) (.k (kI 1))) h 76 fun x76 h t4 =>
 vtouch O (.faddr 3 (.k x76)) h 77 fun x77 h t5 =>
 vtouch O (.load false 1 (.k x77)) h 78 fun x78 h t6 =>
 vtouch O (.call (.k (.v (.c (.func 54 [])))) [(.k x74), (.k x78)]) h 79 fun x79 h t7 =>
 vtouch O (.mv (.k x79)) h 71 fun x71 h t8 =>
 vtouch O (.extract (.k x71) 0) h 80 fun x80 h t9 =>
 vtouch O (.extract (.k x71) 1) h 81 fun x81 h t10 =>
 vtouch O (.alloc [(.p (.int .i64 0)), (.p (.bool false)), (.p (.int .i64 0)), (.p (.str [])), (.p .nilslice), (.p .nilslice)] false) h 6 fun x6 h t11 =>
 vtouch O (.store 6 (.k x6) (.k x80)) h 1000000 fun _ h t12 =>
 vtouch O (.mv (.k x81)) h 7 fun x7 h t13 =>
 bif apartAll [t0, t1, t2, t3, t4, t5, t6, t7, t8, t9, t10, t11, t12, t13] [(2, 11), (6, 11), (7, 11)] then
 vload true 6 x6 h fun x82 h =>
 vstore 6 x4 x82 h fun _ h =>
 vcell true 6 x4 h fun c0 => tcomp (kI 0) fun c1 => vfin true q [c0, c1] h
 else none))
 (vbin .eql 0 x20 (kS [104, 97, 115]) h fun x84 h =>
 vif x84 (
 viaddr 6 x1 (kI 0) h fun x86 h =>
 vfaddr 0 x86 h fun x87 h =>
 vload false 1 x87 h fun x88 h =>
 vbin .neq 0 x88 (kI 0) h fun x89 h =>
 vcall O (.v (.c (.func 115 []))) [x89] h 90 fun x90 h =>
 vstore 6 x4 x90 h fun _ h =>
 vcell true 6 x4 h fun c0 => tcomp (kI 0) fun c1 => vfin true q [c0, c1] h)
 (vbin .eql 0 x20 (kS [111, 114, 101, 108, 115, 101]) h fun x92 h =>
 vif x92 (
 viaddr 6 x1 (kI 0) h fun x94 h =>
 vfaddr 0 x94 h fun x95 h =>
 vload false 1 x95 h fun x96 h =>
 vbin .neq 0 x96 (kI 0) h fun x97 h =>
 vif x97 (
 viaddr 6 x1 (kI 0) h fun x99 h =>
 vload true 6 x99 h fun x100 h =>
 vcall O (.v (.c (.func 29 []))) [x100] h 101 fun x101 h =>
 vstore 6 x4 x101 h fun _ h =>
 vcell true 6 x4 h fun c0 => tcomp (kI 0) fun c1 => vfin true q [c0, c1] h)
 (viaddr 6 x1 (kI 1) h fun x103 h =>
 vload true 6 x103 h fun x104 h =>
 vcall O (.v (.c (.func 29 []))) [x104] h 105 fun x105 h =>
 vstore 6 x4 x105 h fun _ h =>
 vcell true 6 x4 h fun c0 => tcomp (kI 0) fun c1 => vfin true q [c0, c1] h))
 (vcall O (.v (.c (.func 116 []))) [x0, x1] h 108 fun x108 h =>
 vext x108 0 h fun x109 h =>
 vext x108 1 h fun x110 h =>
 vstore 6 x4 x109 h fun _ h =>
 vcell true 6 x4 h fun c0 => tcomp x110 fun c1 => vfin true q [c0, c1] h))))))))
theorem e99_1 (O : Oracle) (R : Jump) (q : Nat) (x0 x1 x4 x20 x29 : TVal) (h : Heap) : b99_1 O R q x0 x1 x4 x20 x29 h = stepF c99 O R q 1 [x0, x1, x4, x20, x29] h := by kernel_rfl
noncomputable def d99 : BlkF := fun O R q => [.s fun y0 => .s fun y1 => .z fun h => b99_0 O R q y0 y1 h, .s fun y0 => .s fun y1 => .s fun y2 => .s fun y3 => .s fun y4 => .z fun h => b99_1 O R q y0 y1 y2 y3 y4 h]
theorem o99 (O : Oracle) (R : Jump) (q : Nat) : HoldsAll c99 O R q 0 (d99 O R q) := ⟨fun y0 y1 h => e99_0 O R q y0 y1 h, fun y0 y1 y2 y3 y4 h => e99_1 O R q y0 y1 y2 y3 y4 h, trivial⟩
/- (*sprue/calls.Calls).Call -/
def c100 : MFunc := { np := 2, res := [.cell 4 true 6, .t 5], frz := true, body := (.seq (.reg [(oA 4 (.alloc [(.p (.int .i64 0)), (.p (.bool false)), (.p (.int .i64 0)), (.p (.str [])), (.p .nilslice), (.p .nilslice)] false)), (oA 5 (.mv (.k (.v (.c (.p (.int .i64 0)))))))] []) (.seq (.reg [(oA 10 (.mv (.t 0))), (oA 11 (.nilck (.t 10))), (oA 12 (.faddr 0 (.t 11))), (oA 13 (.load false 1 (.t 12))), (oA 14 (.mv (.t 1))), (oA 15 (.lookup 2 (.agg [(.p (.str [])), (.p .nilslice), (.p (.int .i64 0))]) (.t 13) (.t 14) true)), (oA 9 (.mv (.t 15))), (oA 16 (.extract (.t 9) 0)), (oA 17 (.extract (.t 9) 1)), (oA 6 (.alloc [(.p (.str [])), (.p .nilslice), (.p (.int .i64 0))] false)), (oN (.store 3 (.t 6) (.t 16))), (oA 7 (.mv (.t 17)))] []) (.seq (.seq (.reg [(oA 18 (.mv (.t 7))), (oA 19 (.un .not (.t 18)))] []) (.cond (.t 19) (.seq (.reg [(oA 20 (.build [(.p (.int .i64 0)), (.p (.bool false)), (.p (.int .i64 0)), (.p (.str [])), (.p .nilslice), (.p .nilslice)] [])), (oN (.store 6 (.t 4) (.t 20))), (oA 5 (.mv (.k (.v (.c (.p (.int .i64 15)))))))] []) .ret) .skip)) (.seq (.reg [(oA 21 (.mv (.t 0))), (oA 22 (.nilck (.t 21))), (oA 23 (.faddr 1 (.t 22))), (oA 24 (.load false 1 (.t 23))), (oA 25 (.mv (.t 1))), (oA 26 (.lookup 2 (.c (.p (.int .i64 0))) (.t 24) (.t 25) false)), (oA 8 (.mv (.t 26)))] []) (.seq (.reg [(oA 27 (.mv (.t 0))), (oA 28 (.nilck (.t 27))), (oA 29 (.faddr 1 (.t 28))), (oA 30 (.load false 1 (.t 29))), (oA 31 (.mv (.t 1))), (oA 32 (.lookup 2 (.c (.p (.int .i64 0))) (.t 30) (.t 31) false)), (oA 33 (.bin .add 0 (.t 32) (.k (.v (.c (.p (.int .i64 1))))))), (oN (.mapup 2 (.t 30) (.t 31) (.t 33)))] []) (.seq (.seq (.reg [(oA 34 (.mv (.t 8))), (oA 35 (.faddr 2 (.t 6))), (oA 36 (.load false 1 (.t 35))), (oA 37 (.bin .eql 0 (.t 34) (.t 36))), (oA 38 (.mv (.t 37))), ⟨(some 39), (.faddr 1 (.t 6)), (some (38, false))⟩, ⟨(some 40), (.load false 1 (.t 39)), (some (38, false))⟩, ⟨(some 41), (.len 2 (.t 40)), (some (38, false))⟩, ⟨(some 42), (.bin .eql 0 (.t 41) (.k (.v (.c (.p (.int .i64 0)))))), (some (38, false))⟩, (oA 43 (.pick (.t 38) (.k (.v (.c (.p (.bool true))))) (.t 42)))] []) (.cond (.t 43) (.seq (.reg [(oA 44 (.build [(.p (.int .i64 0)), (.p (.bool false)), (.p (.int .i64 0)), (.p (.str [])), (.p .nilslice), (.p .nilslice)] [])), (oN (.store 6 (.t 4) (.t 44))), (oA 5 (.mv (.k (.v (.c (.p (.int .i64 33)))))))] []) .ret) .skip)) (.seq (.reg [(oA 45 (.faddr 1 (.t 6))), (oA 46 (.load false 1 (.t 45))), (oA 47 (.mv (.t 8))), (oA 48 (.faddr 1 (.t 6))), (oA 49 (.load false 1 (.t 48))), (oA 50 (.len 2 (.t 49))), (oA 51 (.bin .rem 0 (.t 47) (.t 50))), (oA 52 (.iaddr 6 (.t 46) (.t 51))), (oA 53 (.load true 6 (.t 52))), (oA 54 (.call (.k (.v (.c (.func 29 [])))) [(.t 53)])), (oN (.store 6 (.t 4) (.t 54))), (oA 5 (.mv (.k (.v (.c (.p (.int .i64 0)))))))] []) .ret))))))) }
theorem t100 : compF Tryz.prog (globs2 tabs opq) (fun _ => false) true Tryz.f100 = some c100.erase := by kernel_rfl
noncomputable def b100_0 (O : Oracle) (R : Jump) (q : Nat) (x0 x1 : TVal) (h : Heap) : Res1 :=
 vop O (.alloc [(.p (.int .i64 0)), (.p (.bool false)), (.p (.int .i64 0)), (.p (.str [])), (.p .nilslice), (.p .nilslice)] false) h 4 fun x4 h =>
 vop O (.nilck (.k x0)) h 11 fun x11 h =>
 vfaddr 0 x11 h fun x12 h =>
 vload false 1 x12 h fun x13 h =>
 vop O (.lookup 2 (.agg [(.p (.str [])), (.p .nilslice), (.p (.int .i64 0))]) (.k x13) (.k x1) true) h 15 fun x15 h =>
 vext x15 0 h fun x16 h =>
 vext x15 1 h fun x17 h =>
 vop O (.alloc [(.p (.str [])), (.p .nilslice), (.p (.int .i64 0))] false) h 6 fun x6 h =>
 vstore 3 x6 x16 h fun _ h =>
 vop O (.un .not (.k x17)) h 19 fun x19 h =>
 vif x19 (
 vop O (.build [(.p (.int .i64 0)), (.p (.bool false)), (.p (.int .i64 0)), (.p (.str [])), (.p .nilslice), (.p .nilslice)] []) h 20 fun x20 h =>
 vstore 6 x4 x20 h fun _ h =>
 vcell true 6 x4 h fun c0 => tcomp (kI 15) fun c1 => vfin true q [c0, c1] h)
 (vop O (.nilck (.k x0)) h 22 fun x22 h =>
 vfaddr 1 x22 h fun x23 h =>
 vload false 1 x23 h fun x24 h =>
 vop O (.lookup 2 (.c (.p (.int .i64 0))) (.k x24) (.k x1) false) h 26 fun x26 h =>
 vop O (.nilck (.k x0)) h 28 fun x28 h =>
 vfaddr 1 x28 h fun x29 h =>
 vload false 1 x29 h fun x30 h =>
 vop O (.lookup 2 (.c (.p (.int .i64 0))) (.k x30) (.k x1) false) h 32 fun x32 h =>
 vbin .add 0 x32 (kI 1) h fun x33 h =>
 vop O (.mapup 2 (.k x30) (.k x1) (.k x33)) h 1000000 fun _ h =>
 vfaddr 2 x6 h fun x35 h =>
 vload false 1 x35 h fun x36 h =>
 vbin .eql 0 x26 x36 h fun x37 h =>
 vguard x37 false (fun kk => vfaddr 1 x6 h kk) h fun x39 h =>
 vguard x37 false (fun kk => vload false 1 x39 h kk) h fun x40 h =>
 vguard x37 false (fun kk => vlen O 2 x40 h 41 kk) h fun x41 h =>
 vguard x37 false (fun kk => vbin .eql 0 x41 (kI 0) h kk) h fun x42 h =>
 vop O (.pick (.k x37) (.k (kB true)) (.k x42)) h 43 fun x43 h =>
 vif x43 (
 vop O (.build [(.p (.int .i64 0)), (.p (.bool false)), (.p (.int .i64 0)), (.p (.str [])), (.p .nilslice), (.p .nilslice)] []) h 44 fun x44 h =>
 vstore 6 x4 x44 h fun _ h =>
 vcell true 6 x4 h fun c0 => tcomp (kI 33) fun c1 => vfin true q [c0, c1] h)
 (vfaddr 1 x6 h fun x45 h =>
 vload false 1 x45 h fun x46 h =>
 vfaddr 1 x6 h fun x48 h =>
 vload false 1 x48 h fun x49 h =>
 vlen O 2 x49 h 50 fun x50 h =>
 vbin .rem 0 x26 x50 h fun x51 h =>
 viaddr 6 x46 x51 h fun x52 h =>
 vload true 6 x52 h fun x53 h =>
 vcall O (.v (.c (.func 29 []))) [x53] h 54 fun x54 h =>
 vstore 6 x4 x54 h fun _ h =>
 vcell true 6 x4 h fun c0 => tcomp (kI 0) fun c1 => vfin true q [c0, c1] h))
theorem e100_0 (O : Oracle) (R : Jump) (q : Nat) (x0 x1 : TVal) (h : Heap) : b100_0 O R q x0 x1 h = stepF c100 O R q 0 [x0, x1] h := by kernel_rfl
noncomputable def d100 : BlkF := fun O R q => [.s fun y0 => .s fun y1 => .z fun h => b100_0 O R q y0 y1 h]
theorem o100 (O : Oracle) (R : Jump) (q : Nat) : HoldsAll c100 O R q 0 (d100 O R q) := ⟨fun y0 y1 h => e100_0 O R q y0 y1 h, trivial⟩
/- (sprue/interp.scope).path -/
def c101 : MFunc := { np := 2, res := [.cell 4 true 6, .t 5], frz := true, body := (.seq (.reg [(oA 2 (.box (.t 0) false)), (oA 3 (.box (.t 1) false)), (oA 4 (.alloc [(.p (.int .i64 0)), (.p (.bool false)), (.p (.int .i64 0)), (.p (.str [])), (.p .nilslice), (.p .nilslice)] false)), (oA 5 (.mv (.k (.v (.c (.p (.int .i64 0)))))))] []) (.seq (.reg [(oA 11 (.faddr 0 (.t 2))), (oA 12 (.load true 6 (.t 11))), (oA 6 (.alloc [(.p (.int .i64 0)), (.p (.bool false)), (.p (.int .i64 0)), (.p (.str [])), (.p .nilslice), (.p .nilslice)] false)), (oN (.store 6 (.t 6) (.t 12)))] []) (.seq (.seq (.reg [(oA 13 (.faddr 1 (.t 3))), (oA 14 (.load false 1 (.t 13))), (oA 15 (.bin .neq 0 (.t 14) (.k (.v (.c (.p (.str [])))))))] []) (.cond (.t 15) (.seq (.reg [(oA 16 (.load true 8 (.t 2))), (oA 17 (.faddr 1 (.t 3))), (oA 18 (.load false 1 (.t 17))), (oA 19 (.call (.k (.v (.c (.func 78 [])))) [(.t 16), (.t 18)])), (oA 7 (.mv (.t 19)))] []) (.seq (.seq (.reg [(oA 20 (.mv (.t 7))), (oA 21 (.bin .eql 1 (.t 20) (.k (.v (.c (.p .nilptr))))))] []) (.cond (.t 21) (.seq (.reg [(oA 22 (.build [(.p (.int .i64 0)), (.p (.bool false)), (.p (.int .i64 0)), (.p (.str [])), (.p .nilslice), (.p .nilslice)] [])), (oN (.store 6 (.t 4) (.t 22))), (oA 5 (.mv (.k (.v (.c (.p (.int .i64 15)))))))] []) .ret) .skip)) (.reg [(oA 23 (.mv (.t 7))), (oA 24 (.nilck (.t 23))), (oA 25 (.faddr 1 (.t 24))), (oA 26 (.load true 6 (.t 25))), (oN (.store 6 (.t 6) (.t 26)))] []))) .skip)) (.mark 1 [3, 4, 6] (.seq (.seq (.reg [(oA 27 (.faddr 2 (.t 3))), (oA 28 (.load false 1 (.t 27))), (oA 29 (.len 2 (.t 28))), (oA 30 (.mv (.k (.v (.c (.p (.int .i64 0)))))))] []) (.block 0 (.loop 2 [4, 6, 28, 29, 30] (.seq (.reg [(oA 31 (.bin .lss 0 (.t 30) (.t 29)))] []) (.seq (.cond (.t 31) .skip (.exit 0)) (.seq (.block 1 (.seq (.reg [(oA 32 (.iaddr 1 (.t 28) (.t 30))), (oA 33 (.load false 1 (.t 32))), (oA 9 (.mv (.t 33)))] []) (.seq (.reg [(oA 34 (.faddr 4 (.t 6))), (oA 35 (.load false 1 (.t 34))), (oA 36 (.mv (.t 9))), (oA 37 (.call (.k (.v (.c (.func 74 [])))) [(.t 35), (.t 36)])), (oA 10 (.mv (.t 37)))] []) (.seq (.seq (.reg [(oA 38 (.faddr 0 (.t 6))), (oA 39 (.load false 1 (.t 38))), (oA 40 (.bin .neq 0 (.t 39) (.k (.v (.c (.p (.int .i64 5))))))), (oA 41 (.mv (.t 40))), ⟨(some 42), (.mv (.t 10)), (some (41, false))⟩, ⟨(some 43), (.bin .lss 0 (.t 42) (.k (.v (.c (.p (.int .i64 0)))))), (some (41, false))⟩, (oA 44 (.pick (.t 41) (.k (.v (.c (.p (.bool true))))) (.t 43))), (oA 45 (.mv (.t 44))), ⟨(some 46), (.mv (.t 10)), (some (45, false))⟩, ⟨(some 47), (.faddr 5 (.t 6)), (some (45, false))⟩, ⟨(some 48), (.load false 1 (.t 47)), (some (45, false))⟩, ⟨(some 49), (.len 2 (.t 48)), (some (45, false))⟩, ⟨(some 50), (.bin .geq 0 (.t 46) (.t 49)), (some (45, false))⟩, (oA 51 (.pick (.t 45) (.k (.v (.c (.p (.bool true))))) (.t 50)))] []) (.cond (.t 51) (.seq (.reg [(oA 52 (.build [(.p (.int .i64 0)), (.p (.bool false)), (.p (.int .i64 0)), (.p (.str [])), (.p .nilslice), (.p .nilslice)] [])), (oN (.store 6 (.t 4) (.t 52))), (oA 5 (.mv (.k (.v (.c (.p (.int .i64 16)))))))] []) .ret) .skip)) (.reg [(oA 53 (.faddr 5 (.t 6))), (oA 54 (.load false 1 (.t 53))), (oA 55 (.mv (.t 10))), (oA 56 (.iaddr 6 (.t 54) (.t 55))), (oA 57 (.load true 6 (.t 56))), (oN (.store 6 (.t 6) (.t 57)))] []))))) (.reg [(oA 58 (.bin .add 0 (.t 30) (.k (.v (.c (.p (.int .i64 1))))))), (oA 30 (.mv (.t 58)))] []))))))) (.mark 3 [4, 6] (.seq (.reg [(oA 59 (.load true 6 (.t 6))), (oN (.store 6 (.t 4) (.t 59))), (oA 5 (.mv (.k (.v (.c (.p (.int .i64 0)))))))] []) .ret))))))) }
theorem t101 : compF Tryz.prog (globs2 tabs opq) (fun _ => false) true Tryz.f101 = some c101.erase := by kernel_rfl
noncomputable def b101_0 (O : Oracle) (R : Jump) (q : Nat) (x0 x1 : TVal) (h : Heap) : Res1 :=
 vop O (.box (.k x0) false) h 2 fun x2 h =>
 vop O (.box (.k x1) false) h 3 fun x3 h =>
 vop O (.alloc [(.p (.int .i64 0)), (.p (.bool false)), (.p (.int .i64 0)), (.p (.str [])), (.p .nilslice), (.p .nilslice)] false) h 4 fun x4 h =>
 vfaddr 0 x2 h fun x11 h =>
 vload true 6 x11 h fun x12 h =>
 vop O (.alloc [(.p (.int .i64 0)), (.p (.bool false)), (.p (.int .i64 0)), (.p (.str [])), (.p .nilslice), (.p .nilslice)] false) h 6 fun x6 h =>
 vstore 6 x6 x12 h fun _ h =>
 vfaddr 1 x3 h fun x13 h =>
 vload false 1 x13 h fun x14 h =>
 vbin .neq 0 x14 (kS []) h fun x15 h =>
 vif x15 (
 vload true 8 x2 h fun x16 h =>
 vfaddr 1 x3 h fun x17 h =>
 vload false 1 x17 h fun x18 h =>
 vcall O (.v (.c (.func 78 []))) [x16, x18] h 19 fun x19 h =>
 vbin .eql 1 x19 (.v (.c (.p .nilptr))) h fun x21 h =>
 vif x21 (
 vop O (.build [(.p (.int .i64 0)), (.p (.bool false)), (.p (.int .i64 0)), (.p (.str [])), (.p .nilslice), (.p .nilslice)] []) h 22 fun x22 h =>
 vstore 6 x4 x22 h fun _ h =>
 vcell true 6 x4 h fun c0 => tcomp (kI 15) fun c1 => vfin true q [c0, c1] h)
 (vop O (.nilck (.k x19)) h 24 fun x24 h =>
 vfaddr 1 x24 h fun x25 h =>
 vload true 6 x25 h fun x26 h =>
 vstore 6 x6 x26 h fun _ h =>
 R 1 [x3, x4, x6] h))
 (R 1 [x3, x4, x6] h)
theorem e101_0 (O : Oracle) (R : Jump) (q : Nat) (x0 x1 : TVal) (h : Heap) : b101_0 O R q x0 x1 h = stepF c101 O R q 0 [x0, x1] h := by kernel_rfl
noncomputable def b101_1 (O : Oracle) (R : Jump) (q : Nat) (x3 x4 x6 : TVal) (h : Heap) : Res1 :=
 vfaddr 2 x3 h fun x27 h =>
 vload false 1 x27 h fun x28 h =>
 vlen O 2 x28 h 29 fun x29 h =>
 R 2 [x4, x6, x28, x29, (kI 0)] h
theorem e101_1 (O : Oracle) (R : Jump) (q : Nat) (x3 x4 x6 : TVal) (h : Heap) : b101_1 O R q x3 x4 x6 h = stepF c101 O R q 1 [x3, x4, x6] h := by kernel_rfl
noncomputable def b101_2 (O : Oracle) (R : Jump) (q : Nat) (x4 x6 x28 x29 x30 : TVal) (h : Heap) : Res1 :=
 vbin .lss 0 x30 x29 h fun x31 h =>
 vif x31 (
 viaddr 1 x28 x30 h fun x32 h =>
 vload false 1 x32 h fun x33 h =>
 vfaddr 4 x6 h fun x34 h =>
 vload false 1 x34 h fun x35 h =>
 vcall O (.v (.c (.func 74 []))) [x35, x33] h 37 fun x37 h =>
 vfaddr 0 x6 h fun x38 h =>
 vload false 1 x38 h fun x39 h =>
 vbin .neq 0 x39 (kI 5) h fun x40 h =>
 vguard x40 false (fun kk => kk x37 h) h fun x42 h =>
 vguard x40 false (fun kk => vbin .lss 0 x42 (kI 0) h kk) h fun x43 h =>
 vop O (.pick (.k x40) (.k (kB true)) (.k x43)) h 44 fun x44 h =>
 vguard x44 false (fun kk => kk x37 h) h fun x46 h =>
 vguard x44 false (fun kk => vfaddr 5 x6 h kk) h fun x47 h =>
 vguard x44 false (fun kk => vload false 1 x47 h kk) h fun x48 h =>
 vguard x44 false (fun kk => vlen O 2 x48 h 49 kk) h fun x49 h =>
 vguard x44 false (fun kk => vbin .geq 0 x46 x49 h kk) h fun x50 h =>
 vop O (.pick (.k x44) (.k (kB true)) (.k x50)) h 51 fun x51 h =>
 vif x51 (
 vop O (.build [(.p (.int .i64 0)), (.p (.bool false)), (.p (.int .i64 0)), (.p (.str [])), (.p .nilslice), (.p .nilslice)] []) h 52 fun x52 h =>
 vstore 6 x4 x52 h fun _ h =>
 vcell true 6 x4 h fun c0 => tcomp (kI 16) fun c1 => vfin true q [c0, c1] h)
 (vfaddr 5 x6 h fun x53 h =>
 vload false 1 x53 h fun x54 h =>
 viaddr 6 x54 x37 h fun x56 h =>
 vload true 6 x56 h fun x57 h =>
 vstore 6 x6 x57 h fun _ h =>
 vbin .add 0 x30 (kI 1) h fun x58 h =>
 R 2 [x4, x6, x28, x29, x58] h))
 (R 3 [x4, x6] h)
theorem e101_2 (O : Oracle) (R : Jump) (q : Nat) (x4 x6 x28 x29 x30 : TVal) (h : Heap) : b101_2 O R q x4 x6 x28 x29 x30 h = stepF c101 O R q 2 [x4, x6, x28, x29, x30] h := by kernel_rfl
noncomputable def b101_3 (O : Oracle) (R : Jump) (q : Nat) (x4 x6 : TVal) (h : Heap) : Res1 :=
 vload true 6 x6 h fun x59 h =>
 vstore 6 x4 x59 h fun _ h =>
 vcell true 6 x4 h fun c0 => tcomp (kI 0) fun c1 => vfin true q [c0, c1] h
theorem e101_3 (O : Oracle) (R : Jump) (q : Nat) (x4 x6 : TVal) (h : Heap) : b101_3 O R q x4 x6 h = stepF c101 O R q 3 [x4, x6] h := by kernel_rfl
noncomputable def d101 : BlkF := fun O R q => [.s fun y0 => .s fun y1 => .z fun h => b101_0 O R q y0 y1 h, .s fun y0 => .s fun y1 => .s fun y2 => .z fun h => b101_1 O R q y0 y1 y2 h, .s fun y0 => .s fun y1 => .s fun y2 => .s fun y3 => .s fun y4 => .z fun h => b101_2 O R q y0 y1 y2 y3 y4 h, .s fun y0 => .s fun y1 => .z fun h => b101_3 O R q y0 y1 h]
theorem o101 (O : Oracle) (R : Jump) (q : Nat) : HoldsAll c101 O R q 0 (d101 O R q) := ⟨fun y0 y1 h => e101_0 O R q y0 y1 h, fun y0 y1 y2 h => e101_1 O R q y0 y1 y2 h, fun y0 y1 y2 y3 y4 h => e101_2 O R q y0 y1 y2 y3 y4 h, fun y0 y1 h => e101_3 O R q y0 y1 h, trivial⟩
/- internal/strconv.FormatBool -/
def c102 : MFunc := { np := 1, res := [.t 2], frz := true, body := (.seq (.reg [(oA 2 (.mv (.k (.v (.c (.p (.str [])))))))] []) (.seq (.seq (.reg [(oA 3 (.mv (.t 0)))] []) (.cond (.t 3) (.seq (.reg [(oA 2 (.mv (.k (.v (.c (.p (.str [116, 114, 117, 101])))))))] []) .ret) .skip)) (.seq (.reg [(oA 2 (.mv (.k (.v (.c (.p (.str [102, 97, 108, 115, 101])))))))] []) .ret))) }
theorem t102 : compF Tryz.prog (globs2 tabs opq) (fun _ => false) true Tryz.f102 = some c102.erase := by kernel_rfl
noncomputable def b102_0 (O : Oracle) (R : Jump) (q : Nat) (x0 : TVal) (h : Heap) : Res1 :=
 vif x0 (
 tcomp (kS [116, 114, 117, 101]) fun c0 => vfin true q [c0] h)
 (tcomp (kS [102, 97, 108, 115, 101]) fun c0 => vfin true q [c0] h)
theorem e102_0 (O : Oracle) (R : Jump) (q : Nat) (x0 : TVal) (h : Heap) : b102_0 O R q x0 h = stepF c102 O R q 0 [x0] h := by kernel_rfl
noncomputable def d102 : BlkF := fun O R q => [.s fun y0 => .z fun h => b102_0 O R q y0 h]
theorem o102 (O : Oracle) (R : Jump) (q : Nat) : HoldsAll c102 O R q 0 (d102 O R q) := ⟨fun y0 h => e102_0 O R q y0 h, trivial⟩
/- internal/strconv.FormatInt -/
def c103 : MFunc := { np := 2, res := [.t 4], frz := true, body := (.seq (.reg [(oA 4 (.mv (.k (.v (.c (.p (.str [])))))))] []) (.seq (.seq (.reg [(oA 10 (.mv (.t 1))), (oA 11 (.bin .eql 0 (.t 10) (.k (.v (.c (.p (.int .i64 10)))))))] []) (.cond (.t 11) (.seq (.seq (.reg [(oA 12 (.mv (.t 0))), (oA 13 (.bin .leq 0 (.k (.v (.c (.p (.int .i64 0))))) (.t 12))), (oA 14 (.mv (.t 13))), ⟨(some 15), (.mv (.t 0)), (some (14, true))⟩, ⟨(some 16), (.bin .lss 0 (.t 15) (.k (.v (.c (.p (.int .i64 100)))))), (some (14, true))⟩, (oA 17 (.pick (.t 14) (.t 16) (.k (.v (.c (.p (.bool false)))))))] []) (.cond (.t 17) (.seq (.reg [(oA 18 (.mv (.t 0))), (oA 19 (.call (.k (.v (.c (.func 117 [])))) [(.t 18)])), (oA 4 (.mv (.t 19)))] []) .ret) .skip)) (.seq (.reg [(oA 5 (.alloc [(.p (.int .u8 0)), (.p (.int .u8 0)), (.p (.int .u8 0)), (.p (.int .u8 0)), (.p (.int .u8 0)), (.p (.int .u8 0)), (.p (.int .u8 0)), (.p (.int .u8 0)), (.p (.int .u8 0)), (.p (.int .u8 0)), (.p (.int .u8 0)), (.p (.int .u8 0)), (.p (.int .u8 0)), (.p (.int .u8 0)), (.p (.int .u8 0)), (.p (.int .u8 0)), (.p (.int .u8 0)), (.p (.int .u8 0)), (.p (.int .u8 0)), (.p (.int .u8 0)), (.p (.int .u8 0)), (.p (.int .u8 0)), (.p (.int .u8 0)), (.p (.int .u8 0))] false))] []) (.seq (.reg [(oA 20 (.mv (.t 0))), (oA 21 (.toInt .u64 (.t 20))), (oA 6 (.mv (.t 21)))] []) (.seq (.seq (.reg [(oA 22 (.mv (.t 0))), (oA 23 (.bin .lss 0 (.t 22) (.k (.v (.c (.p (.int .i64 0)))))))] []) (.cond (.t 23) (.reg [(oA 24 (.mv (.t 6))), (oA 25 (.un .neg (.t 24))), (oA 6 (.mv (.t 25)))] []) .skip)) (.mark 1 [0, 5, 6] (.seq (.reg [(oA 26 (.mv (.t 6))), (oA 27 (.call (.k (.v (.c (.func 118 [])))) [(.t 26)])), (oA 7 (.mv (.t 27)))] []) (.seq (.reg [(oA 28 (.mv (.t 7))), (oA 29 (.bin .add 0 (.k (.v (.c (.p (.int .i64 1))))) (.t 28))), (oA 30 (.sliceA 24 1 (.t 5) (some (.k (.v (.c (.p (.int .i64 1)))))) (some (.t 29)))), (oA 31 (.mv (.t 6))), (oA 32 (.call (.k (.v (.c (.func 119 [])))) [(.t 30), (.t 31)]))] []) (.seq (.seq (.reg [(oA 33 (.mv (.t 0))), (oA 34 (.bin .lss 0 (.t 33) (.k (.v (.c (.p (.int .i64 0)))))))] []) (.cond (.t 34) (.seq (.reg [(oA 35 (.iaddrA 24 1 (.t 5) (.k (.v (.c (.p (.int .i64 0))))))), (oN (.store 1 (.t 35) (.k (.v (.c (.p (.int .u8 45)))))))] []) (.seq (.reg [(oA 36 (.mv (.t 7))), (oA 37 (.bin .add 0 (.k (.v (.c (.p (.int .i64 1))))) (.t 36))), (oA 38 (.sliceA 24 1 (.t 5) none (some (.t 37)))), (oA 39 (.toStr (.t 38))), (oA 4 (.mv (.t 39)))] []) .ret)) .skip)) (.seq (.reg [(oA 40 (.mv (.t 7))), (oA 41 (.bin .add 0 (.k (.v (.c (.p (.int .i64 1))))) (.t 40))), (oA 42 (.sliceA 24 1 (.t 5) (some (.k (.v (.c (.p (.int .i64 1)))))) (some (.t 41)))), (oA 43 (.toStr (.t 42))), (oA 4 (.mv (.t 43)))] []) .ret))))))))) .skip)) (.seq (.reg [(oA 45 (.mv (.t 0))), (oA 46 (.toInt .u64 (.t 45))), (oA 47 (.mv (.t 1))), (oA 48 (.mv (.t 0))), (oA 49 (.bin .lss 0 (.t 48) (.k (.v (.c (.p (.int .i64 0))))))), (oA 50 (.call (.k (.v (.c (.func 120 [])))) [(.k (.v (.c (.p .nilslice)))), (.t 46), (.t 47), (.t 49), (.k (.v (.c (.p (.bool false)))))])), (oA 44 (.mv (.t 50))), (oA 51 (.extract (.t 44) 0)), (oA 52 (.extract (.t 44) 1)), (oA 8 (.mv (.t 51))), (oA 9 (.mv (.t 52)))] []) (.seq (.reg [(oA 53 (.mv (.t 9))), (oA 4 (.mv (.t 53)))] []) .ret)))) }
theorem t103 : compF Tryz.prog (globs2 tabs opq) (fun _ => false) true Tryz.f103 = some c103.erase := by kernel_rfl
noncomputable def b103_0 (O : Oracle) (R : Jump) (q : Nat) (x0 x1 : TVal) (h : Heap) : Res1 :=
 vbin .eql 0 x1 (kI 10) h fun x11 h =>
 vif x11 (
 vbin .leq 0 (kI 0) x0 h fun x13 h =>
 vguard x13 true (fun kk => kk x0 h) h fun x15 h =>
 vguard x13 true (fun kk => vbin .lss 0 x15 (kI 100) h kk) h fun x16 h =>
 vop O (.pick (.k x13) (.k x16) (.k (kB false))) h 17 fun x17 h =>
 vif x17 (
 vcall O (.v (.c (.func 117 []))) [x0] h 19 fun x19 h =>
 tcomp x19 fun c0 => vfin true q [c0] h)
 (vop O (.alloc [(.p (.int .u8 0)), (.p (.int .u8 0)), (.p (.int .u8 0)), (.p (.int .u8 0)), (.p (.int .u8 0)), (.p (.int .u8 0)), (.p (.int .u8 0)), (.p (.int .u8 0)), (.p (.int .u8 0)), (.p (.int .u8 0)), (.p (.int .u8 0)), (.p (.int .u8 0)), (.p (.int .u8 0)), (.p (.int .u8 0)), (.p (.int .u8 0)), (.p (.int .u8 0)), (.p (.int .u8 0)), (.p (.int .u8 0)), (.p (.int .u8 0)), (.p (.int .u8 0)), (.p (.int .u8 0)), (.p (.int .u8 0)), (.p (.int .u8 0)), (.p (.int .u8 0))] false) h 5 fun x5 h =>
 vtoInt .u64 x0 h fun x21 h =>
 vbin .lss 0 x0 (kI 0) h fun x23 h =>
 vif x23 (
 vop O (.un .neg (.k x21)) h 25 fun x25 h =>
 R 1 [x0, x5, x25] h)
 (R 1 [x0, x5, x21] h)))
 (vtoInt .u64 x0 h fun x46 h =>
 vbin .lss 0 x0 (kI 0) h fun x49 h =>
 vcall O (.v (.c (.func 120 []))) [(.v (.c (.p .nilslice))), x46, x1, x49, (kB false)] h 50 fun x50 h =>
 vext x50 0 h fun x51 h =>
 vext x50 1 h fun x52 h =>
 tcomp x52 fun c0 => vfin true q [c0] h)
theorem e103_0 (O : Oracle) (R : Jump) (q : Nat) (x0 x1 : TVal) (h : Heap) : b103_0 O R q x0 x1 h = stepF c103 O R q 0 [x0, x1] h := by kernel_rfl
noncomputable def b103_1 (O : Oracle) (R : Jump) (q : Nat) (x0 x5 x6 : TVal) (h : Heap) : Res1 :=
 vcall O (.v (.c (.func 118 []))) [x6] h 27 fun x27 h =>
 vbin .add 0 (kI 1) x27 h fun x29 h =>
 vop O (.sliceA 24 1 (.k x5) (some (.k (kI 1))) (some (.k x29))) h 30 fun x30 h =>
 vcall O (.v (.c (.func 119 []))) [x30, x6] h 32 fun x32 h =>
 vbin .lss 0 x0 (kI 0) h fun x34 h =>
 vif x34 (
 vop O (.iaddrA 24 1 (.k x5) (.k (kI 0))) h 35 fun x35 h =>
 vstore 1 x35 (.v (.c (.p (.int .u8 45)))) h fun _ h =>
 vbin .add 0 (kI 1) x27 h fun x37 h =>
 vop O (.sliceA 24 1 (.k x5) none (some (.k x37))) h 38 fun x38 h =>
 vop O (.toStr (.k x38)) h 39 fun x39 h =>
 tcomp x39 fun c0 => vfin true q [c0] h)
 (vbin .add 0 (kI 1) x27 h fun x41 h =>
 vop O (.sliceA 24 1 (.k x5) (some (.k (kI 1))) (some (.k x41))) h 42 fun x42 h =>
 vop O (.toStr (.k x42)) h 43 fun x43 h =>
 tcomp x43 fun c0 => vfin true q [c0] h)
theorem e103_1 (O : Oracle) (R : Jump) (q : Nat) (x0 x5 x6 : TVal) (h : Heap) : b103_1 O R q x0 x5 x6 h = stepF c103 O R q 1 [x0, x5, x6] h := by kernel_rfl
noncomputable def d103 : BlkF := fun O R q => [.s fun y0 => .s fun y1 => .z fun h => b103_0 O R q y0 y1 h, .s fun y0 => .s fun y1 => .s fun y2 => .z fun h => b103_1 O R q y0 y1 y2 h]
theorem o103 (O : Oracle) (R : Jump) (q : Nat) : HoldsAll c103 O R q 0 (d103 O R q) := ⟨fun y0 y1 h => e103_0 O R q y0 y1 h, fun y0 y1 y2 h => e103_1 O R q y0 y1 y2 h, trivial⟩
/- slices.Backward[[]*sprue/interp.variable,*sprue/interp.variable]$1 -/
def c104 : MFunc := { np := 2, res := [], frz := true, body := (.seq (.reg [(oA 4 (.load false 1 (.t 1))), (oA 5 (.len 2 (.t 4))), (oA 6 (.bin .sub 0 (.t 5) (.k (.v (.c (.p (.int .i64 1))))))), (oA 3 (.mv (.t 6)))] []) (.block 0 (.loop 1 [0, 1, 3] (.seq (.seq (.reg [(oA 7 (.mv (.t 3))), (oA 8 (.bin .geq 0 (.t 7) (.k (.v (.c (.p (.int .i64 0)))))))] []) (.cond (.t 8) .skip (.exit 0))) (.seq (.block 1 (.seq (.reg [(oA 11 (.mv (.t 0))), (oA 12 (.mv (.t 3))), (oA 13 (.load false 1 (.t 1))), (oA 14 (.mv (.t 3))), (oA 15 (.iaddr 1 (.t 13) (.t 14))), (oA 16 (.load false 1 (.t 15))), (oA 17 (.call (.t 11) [(.t 12), (.t 16)])), (oA 18 (.un .not (.t 17)))] []) (.cond (.t 18) .ret .skip))) (.reg [(oA 9 (.mv (.t 3))), (oA 10 (.bin .sub 0 (.t 9) (.k (.v (.c (.p (.int .i64 1))))))), (oA 3 (.mv (.t 10)))] [])))))) }
theorem t104 : compF Tryz.prog (globs2 tabs opq) (fun _ => false) true Tryz.f104 = some c104.erase := by kernel_rfl
noncomputable def b104_0 (O : Oracle) (R : Jump) (q : Nat) (x0 x1 : TVal) (h : Heap) : Res1 :=
 vload false 1 x1 h fun x4 h =>
 vlen O 2 x4 h 5 fun x5 h =>
 vbin .sub 0 x5 (kI 1) h fun x6 h =>
 R 1 [x0, x1, x6] h
theorem e104_0 (O : Oracle) (R : Jump) (q : Nat) (x0 x1 : TVal) (h : Heap) : b104_0 O R q x0 x1 h = stepF c104 O R q 0 [x0, x1] h := by kernel_rfl
noncomputable def b104_1 (O : Oracle) (R : Jump) (q : Nat) (x0 x1 x3 : TVal) (h : Heap) : Res1 :=
 vbin .geq 0 x3 (kI 0) h fun x8 h =>
 vif x8 (
 vload false 1 x1 h fun x13 h =>
 viaddr 1 x13 x3 h fun x15 h =>
 vload false 1 x15 h fun x16 h =>
 vcall O x0 [x3, x16] h 17 fun x17 h =>
 vop O (.un .not (.k x17)) h 18 fun x18 h =>
 vif x18 (
 vfin true q [] h)
 (vbin .sub 0 x3 (kI 1) h fun x10 h =>
 R 1 [x0, x1, x10] h))
 (vfin true q [] h)
theorem e104_1 (O : Oracle) (R : Jump) (q : Nat) (x0 x1 x3 : TVal) (h : Heap) : b104_1 O R q x0 x1 x3 h = stepF c104 O R q 1 [x0, x1, x3] h := by kernel_rfl
noncomputable def d104 : BlkF := fun O R q => [.s fun y0 => .s fun y1 => .z fun h => b104_0 O R q y0 y1 h, .s fun y0 => .s fun y1 => .s fun y2 => .z fun h => b104_1 O R q y0 y1 y2 h]
theorem o104 (O : Oracle) (R : Jump) (q : Nat) : HoldsAll c104 O R q 0 (d104 O R q) := ⟨fun y0 y1 h => e104_0 O R q y0 y1 h, fun y0 y1 y2 h => e104_1 O R q y0 y1 y2 h, trivial⟩
/- sprue/scan.Ident -/
def c105 : MFunc := { np := 1, res := [.t 2], frz := true, body := (.seq (.reg [(oA 2 (.mv (.k (.v (.c (.p (.bool false)))))))] []) (.seq (.reg [(oA 3 (.mv (.t 0))), (oA 4 (.bin .neq 0 (.t 3) (.k (.v (.c (.p (.str []))))))), (oA 5 (.mv (.t 4))), ⟨(some 6), (.mv (.t 0)), (some (5, true))⟩, ⟨(some 7), (.len 0 (.t 6)), (some (5, true))⟩, ⟨(some 8), (.bin .leq 0 (.t 7) (.k (.v (.c (.p (.int .i64 16)))))), (some (5, true))⟩, (oA 9 (.pick (.t 5) (.t 8) (.k (.v (.c (.p (.bool false))))))), (oA 10 (.mv (.t 9))), ⟨(some 11), (.mv (.t 0)), (some (10, true))⟩, ⟨(some 12), (.index (.t 11) (.k (.v (.c (.p (.int .i64 0)))))), (some (10, true))⟩, ⟨(some 13), (.call (.k (.v (.c (.func 121 [])))) [(.t 12)]), (some (10, true))⟩, ⟨(some 14), (.un .not (.t 13)), (some (10, true))⟩, (oA 15 (.pick (.t 10) (.t 14) (.k (.v (.c (.p (.bool false))))))), (oA 16 (.mv (.t 15))), ⟨(some 17), (.mv (.t 0)), (some (16, true))⟩, ⟨(some 18), (.call (.k (.v (.c (.func 122 [])))) [(.t 17)]), (some (16, true))⟩, ⟨(some 19), (.mv (.t 0)), (some (16, true))⟩, ⟨(some 20), (.len 0 (.t 19)), (some (16, true))⟩, ⟨(some 21), (.bin .eql 0 (.t 18) (.t 20)), (some (16, true))⟩, (oA 22 (.pick (.t 16) (.t 21) (.k (.v (.c (.p (.bool false))))))), (oA 2 (.mv (.t 22)))] []) .ret)) }
theorem t105 : compF Tryz.prog (globs2 tabs opq) (fun _ => false) true Tryz.f105 = some c105.erase := by kernel_rfl
noncomputable def b105_0 (O : Oracle) (R : Jump) (q : Nat) (x0 : TVal) (h : Heap) : Res1 :=
 vbin .neq 0 x0 (kS []) h fun x4 h =>
 vguard x4 true (fun kk => kk x0 h) h fun x6 h =>
 vguard x4 true (fun kk => vlen O 0 x6 h 7 kk) h fun x7 h =>
 vguard x4 true (fun kk => vbin .leq 0 x7 (kI 16) h kk) h fun x8 h =>
 vop O (.pick (.k x4) (.k x8) (.k (kB false))) h 9 fun x9 h =>
 vguard x9 true (fun kk => kk x0 h) h fun x11 h =>
 vguard x9 true (fun kk => vindex x11 (kI 0) h kk) h fun x12 h =>
 vguard x9 true (fun kk => vcall O (.v (.c (.func 121 []))) [x12] h 13 kk) h fun x13 h =>
 vguard x9 true (fun kk => vop O (.un .not (.k x13)) h 14 kk) h fun x14 h =>
 vop O (.pick (.k x9) (.k x14) (.k (kB false))) h 15 fun x15 h =>
 vguard x15 true (fun kk => kk x0 h) h fun x17 h =>
 vguard x15 true (fun kk => vcall O (.v (.c (.func 122 []))) [x17] h 18 kk) h fun x18 h =>
 vguard x15 true (fun kk => kk x0 h) h fun x19 h =>
 vguard x15 true (fun kk => vlen O 0 x19 h 20 kk) h fun x20 h =>
 vguard x15 true (fun kk => vbin .eql 0 x18 x20 h kk) h fun x21 h =>
 vop O (.pick (.k x15) (.k x21) (.k (kB false))) h 22 fun x22 h =>
 tcomp x22 fun c0 => vfin true q [c0] h
theorem e105_0 (O : Oracle) (R : Jump) (q : Nat) (x0 : TVal) (h : Heap) : b105_0 O R q x0 h = stepF c105 O R q 0 [x0] h := by kernel_rfl
noncomputable def d105 : BlkF := fun O R q => [.s fun y0 => .z fun h => b105_0 O R q y0 h]
theorem o105 (O : Oracle) (R : Jump) (q : Nat) : HoldsAll c105 O R q 0 (d105 O R q) := ⟨fun y0 h => e105_0 O R q y0 h, trivial⟩
/- strings.Contains -/
def c106 : MFunc := { np := 2, res := [.t 4], frz := true, body := (.seq (.reg [(oA 4 (.mv (.k (.v (.c (.p (.bool false)))))))] []) (.seq (.reg [(oA 5 (.mv (.t 0))), (oA 6 (.mv (.t 1))), (oA 7 (.call (.k (.v (.c (.func 123 [])))) [(.t 5), (.t 6)])), (oA 8 (.bin .geq 0 (.t 7) (.k (.v (.c (.p (.int .i64 0))))))), (oA 4 (.mv (.t 8)))] []) .ret)) }
theorem t106 : compF Tryz.prog (globs2 tabs opq) (fun _ => false) true Tryz.f106 = some c106.erase := by kernel_rfl
noncomputable def b106_0 (O : Oracle) (R : Jump) (q : Nat) (x0 x1 : TVal) (h : Heap) : Res1 :=
 vcall O (.v (.c (.func 123 []))) [x0, x1] h 7 fun x7 h =>
 vbin .geq 0 x7 (kI 0) h fun x8 h =>
 tcomp x8 fun c0 => vfin true q [c0] h
theorem e106_0 (O : Oracle) (R : Jump) (q : Nat) (x0 x1 : TVal) (h : Heap) : b106_0 O R q x0 x1 h = stepF c106 O R q 0 [x0, x1] h := by kernel_rfl
noncomputable def d106 : BlkF := fun O R q => [.s fun y0 => .s fun y1 => .z fun h => b106_0 O R q y0 y1 h]
theorem o106 (O : Oracle) (R : Jump) (q : Nat) : HoldsAll c106 O R q 0 (d106 O R q) := ⟨fun y0 y1 h => e106_0 O R q y0 y1 h, trivial⟩
/- sprue/calls.many -/
def c107 : MFunc := { np := 1, res := [.t 2], frz := true, body := (.seq (.reg [(oA 2 (.mv (.k (.v (.c (.p (.int .i64 0)))))))] []) (.seq (.seq (.reg [(oA 3 (.mv (.t 0)))] []) (.block 0 (.seq (.block 2 (.block 1 (.seq (.seq (.seq (.seq (.reg [(oA 5 (.bin .eql 0 (.t 3) (.k (.v (.c (.p (.str [108, 101, 110]))))))), (oA 4 (.mv (.t 5)))] []) (.cond (.t 4) .skip (.seq (.reg [(oA 6 (.bin .eql 0 (.t 3) (.k (.v (.c (.p (.str [110, 111, 116]))))))), (oA 4 (.mv (.t 6)))] []) (.cond (.t 4) .skip (.seq (.reg [(oA 7 (.bin .eql 0 (.t 3) (.k (.v (.c (.p (.str [116, 101, 120, 116]))))))), (oA 4 (.mv (.t 7)))] []) (.cond (.t 4) .skip (.reg [(oA 8 (.bin .eql 0 (.t 3) (.k (.v (.c (.p (.str [104, 97, 115]))))))), (oA 4 (.mv (.t 8)))] []))))))) (.mark 1 [3, 4] (.cond (.t 4) (.exit 1) .skip))) (.seq (.seq (.reg [(oA 10 (.bin .eql 0 (.t 3) (.k (.v (.c (.p (.str [105, 56]))))))), (oA 9 (.mv (.t 10)))] []) (.cond (.t 9) .skip (.seq (.reg [(oA 11 (.bin .eql 0 (.t 3) (.k (.v (.c (.p (.str [105, 49, 54]))))))), (oA 9 (.mv (.t 11)))] []) (.cond (.t 9) .skip (.seq (.reg [(oA 12 (.bin .eql 0 (.t 3) (.k (.v (.c (.p (.str [105, 51, 50]))))))), (oA 9 (.mv (.t 12)))] []) (.cond (.t 9) .skip (.seq (.reg [(oA 13 (.bin .eql 0 (.t 3) (.k (.v (.c (.p (.str [117, 56]))))))), (oA 9 (.mv (.t 13)))] []) (.cond (.t 9) .skip (.seq (.reg [(oA 14 (.bin .eql 0 (.t 3) (.k (.v (.c (.p (.str [117, 49, 54]))))))), (oA 9 (.mv (.t 14)))] []) (.cond (.t 9) .skip (.reg [(oA 15 (.bin .eql 0 (.t 3) (.k (.v (.c (.p (.str [117, 51, 50]))))))), (oA 9 (.mv (.t 15)))] []))))))))))) (.mark 2 [9] (.cond (.t 9) (.exit 2) .skip)))) (.exit 0)))) (.seq (.seq (.reg [(oA 2 (.mv (.k (.v (.c (.p (.int .i64 1)))))))] []) .ret) (.exit 0))))) (.seq (.reg [(oA 2 (.mv (.k (.v (.c (.p (.int .i64 2)))))))] []) .ret))) }
theorem t107 : compF Tryz.prog (globs2 tabs opq) (fun _ => false) true Tryz.f107 = some c107.erase := by kernel_rfl
noncomputable def b107_0 (O : Oracle) (R : Jump) (q : Nat) (x0 : TVal) (h : Heap) : Res1 :=
 vbin .eql 0 x0 (kS [108, 101, 110]) h fun x5 h =>
 vif x5 (
 R 1 [x0, x5] h)
 (vbin .eql 0 x0 (kS [110, 111, 116]) h fun x6 h =>
 vif x6 (
 R 1 [x0, x6] h)
 (vbin .eql 0 x0 (kS [116, 101, 120, 116]) h fun x7 h =>
 vif x7 (
 R 1 [x0, x7] h)
 (vbin .eql 0 x0 (kS [104, 97, 115]) h fun x8 h =>
 R 1 [x0, x8] h)))
theorem e107_0 (O : Oracle) (R : Jump) (q : Nat) (x0 : TVal) (h : Heap) : b107_0 O R q x0 h = stepF c107 O R q 0 [x0] h := by kernel_rfl
noncomputable def b107_1 (O : Oracle) (R : Jump) (q : Nat) (x3 x4 : TVal) (h : Heap) : Res1 :=
 vif x4 (
 tcomp (kI 1) fun c0 => vfin true q [c0] h)
 (vbin .eql 0 x3 (kS [105, 56]) h fun x10 h =>
 vif x10 (
 R 2 [x10] h)
 (vbin .eql 0 x3 (kS [105, 49, 54]) h fun x11 h =>
 vif x11 (
 R 2 [x11] h)
 (vbin .eql 0 x3 (kS [105, 51, 50]) h fun x12 h =>
 vif x12 (
 R 2 [x12] h)
 (vbin .eql 0 x3 (kS [117, 56]) h fun x13 h =>
 vif x13 (
 R 2 [x13] h)
 (vbin .eql 0 x3 (kS [117, 49, 54]) h fun x14 h =>
 vif x14 (
 R 2 [x14] h)
 (vbin .eql 0 x3 (kS [117, 51, 50]) h fun x15 h =>
 R 2 [x15] h))))))
theorem e107_1 (O : Oracle) (R : Jump) (q : Nat) (x3 x4 : TVal) (h : Heap) : b107_1 O R q x3 x4 h = stepF c107 O R q 1 [x3, x4] h := by kernel_rfl
noncomputable def b107_2 (O : Oracle) (R : Jump) (q : Nat) (x9 : TVal) (h : Heap) : Res1 :=
 vif x9 (
 tcomp (kI 1) fun c0 => vfin true q [c0] h)
 (tcomp (kI 2) fun c0 => vfin true q [c0] h)
theorem e107_2 (O : Oracle) (R : Jump) (q : Nat) (x9 : TVal) (h : Heap) : b107_2 O R q x9 h = stepF c107 O R q 2 [x9] h := by kernel_rfl
noncomputable def d107 : BlkF := fun O R q => [.s fun y0 => .z fun h => b107_0 O R q y0 h, .s fun y0 => .s fun y1 => .z fun h => b107_1 O R q y0 y1 h, .s fun y0 => .z fun h => b107_2 O R q y0 h]
theorem o107 (O : Oracle) (R : Jump) (q : Nat) : HoldsAll c107 O R q 0 (d107 O R q) := ⟨fun y0 h => e107_0 O R q y0 h, fun y0 y1 h => e107_1 O R q y0 y1 h, fun y0 h => e107_2 O R q y0 h, trivial⟩
/- sprue/calls.long -/
def c108 : MFunc := { np := 1, res := [.cell 2 true 6, .t 3], frz := true, body := (.seq (.reg [(oA 1 (.box (.t 0) false)), (oA 2 (.alloc [(.p (.int .i64 0)), (.p (.bool false)), (.p (.int .i64 0)), (.p (.str [])), (.p .nilslice), (.p .nilslice)] false)), (oA 3 (.mv (.k (.v (.c (.p (.int .i64 0)))))))] []) (.seq (.seq (.reg [(oA 4 (.faddr 0 (.t 1))), (oA 5 (.load false 1 (.t 4)))] []) (.block 0 (.seq (.reg [(oA 7 (.bin .eql 0 (.t 5) (.k (.v (.c (.p (.int .i64 3))))))), (oA 6 (.mv (.t 7)))] []) (.cond (.t 6) (.seq (.reg [(oA 8 (.faddr 3 (.t 1))), (oA 9 (.load false 1 (.t 8))), (oA 10 (.len 0 (.t 9))), (oA 11 (.call (.k (.v (.c (.func 124 [])))) [(.t 10)])), (oN (.store 6 (.t 2) (.t 11))), (oA 3 (.mv (.k (.v (.c (.p (.int .i64 0)))))))] []) .ret) (.seq (.seq (.reg [(oA 13 (.bin .eql 0 (.t 5) (.k (.v (.c (.p (.int .i64 4))))))), (oA 12 (.mv (.t 13)))] []) (.cond (.t 12) .skip (.reg [(oA 14 (.bin .eql 0 (.t 5) (.k (.v (.c (.p (.int .i64 5))))))), (oA 12 (.mv (.t 14)))] []))) (.mark 1 [1, 2, 12] (.cond (.t 12) (.seq (.reg [(oA 15 (.faddr 5 (.t 1))), (oA 16 (.load false 1 (.t 15))), (oA 17 (.len 2 (.t 16))), (oA 18 (.call (.k (.v (.c (.func 124 [])))) [(.t 17)])), (oN (.store 6 (.t 2) (.t 18))), (oA 3 (.mv (.k (.v (.c (.p (.int .i64 0)))))))] []) .ret) .skip))))))) (.seq (.reg [(oA 19 (.build [(.p (.int .i64 0)), (.p (.bool false)), (.p (.int .i64 0)), (.p (.str [])), (.p .nilslice), (.p .nilslice)] [])), (oN (.store 6 (.t 2) (.t 19))), (oA 3 (.mv (.k (.v (.c (.p (.int .i64 17)))))))] []) .ret))) }
theorem t108 : compF Tryz.prog (globs2 tabs opq) (fun _ => false) true Tryz.f108 = some c108.erase := by kernel_rfl
noncomputable def b108_0 (O : Oracle) (R : Jump) (q : Nat) (x0 : TVal) (h : Heap) : Res1 :=
 vop O (.box (.k x0) false) h 1 fun x1 h =>
 vop O (.alloc [(.p (.int .i64 0)), (.p (.bool false)), (.p (.int .i64 0)), (.p (.str [])), (.p .nilslice), (.p .nilslice)] false) h 2 fun x2 h =>
 vfaddr 0 x1 h fun x4 h =>
 vload false 1 x4 h fun x5 h =>
 vbin .eql 0 x5 (kI 3) h fun x7 h =>
 vif x7 (
 vfaddr 3 x1 h fun x8 h =>
 vload false 1 x8 h fun x9 h =>
 vlen O 0 x9 h 10 fun x10 h =>
 vcall O (.v (.c (.func 124 []))) [x10] h 11 fun x11 h =>
 vstore 6 x2 x11 h fun _ h =>
 vcell true 6 x2 h fun c0 => tcomp (kI 0) fun c1 => vfin true q [c0, c1] h)
 (vbin .eql 0 x5 (kI 4) h fun x13 h =>
 vif x13 (
 R 1 [x1, x2, x13] h)
 (vbin .eql 0 x5 (kI 5) h fun x14 h =>
 R 1 [x1, x2, x14] h))
theorem e108_0 (O : Oracle) (R : Jump) (q : Nat) (x0 : TVal) (h : Heap) : b108_0 O R q x0 h = stepF c108 O R q 0 [x0] h := by kernel_rfl
noncomputable def b108_1 (O : Oracle) (R : Jump) (q : Nat) (x1 x2 x12 : TVal) (h : Heap) : Res1 :=
 vif x12 (
 vfaddr 5 x1 h fun x15 h =>
 vload false 1 x15 h fun x16 h =>
 vlen O 2 x16 h 17 fun x17 h =>
 vcall O (.v (.c (.func 124 []))) [x17] h 18 fun x18 h =>
 vstore 6 x2 x18 h fun _ h =>
 vcell true 6 x2 h fun c0 => tcomp (kI 0) fun c1 => vfin true q [c0, c1] h)
 (vop O (.build [(.p (.int .i64 0)), (.p (.bool false)), (.p (.int .i64 0)), (.p (.str [])), (.p .nilslice), (.p .nilslice)] []) h 19 fun x19 h =>
 vstore 6 x2 x19 h fun _ h =>
 vcell true 6 x2 h fun c0 => tcomp (kI 17) fun c1 => vfin true q [c0, c1] h)
theorem e108_1 (O : Oracle) (R : Jump) (q : Nat) (x1 x2 x12 : TVal) (h : Heap) : b108_1 O R q x1 x2 x12 h = stepF c108 O R q 1 [x1, x2, x12] h := by kernel_rfl
noncomputable def d108 : BlkF := fun O R q => [.s fun y0 => .z fun h => b108_0 O R q y0 h, .s fun y0 => .s fun y1 => .s fun y2 => .z fun h => b108_1 O R q y0 y1 y2 h]
theorem o108 (O : Oracle) (R : Jump) (q : Nat) : HoldsAll c108 O R q 0 (d108 O R q) := ⟨fun y0 h => e108_0 O R q y0 h, fun y0 y1 y2 h => e108_1 O R q y0 y1 y2 h, trivial⟩
/- sprue/calls.logic -/
def c109 : MFunc := { np := 2, res := [.cell 4 true 6, .t 5], frz := true, body := (.seq (.reg [(oA 4 (.alloc [(.p (.int .i64 0)), (.p (.bool false)), (.p (.int .i64 0)), (.p (.str [])), (.p .nilslice), (.p .nilslice)] false)), (oA 5 (.mv (.k (.v (.c (.p (.int .i64 0)))))))] []) (.seq (.seq (.reg [(oA 6 (.mv (.t 1))), (oA 7 (.call (.k (.v (.c (.func 125 [])))) [(.t 6), (.k (.v (.c (.func 126 []))))]))] []) (.cond (.t 7) (.seq (.reg [(oA 8 (.build [(.p (.int .i64 0)), (.p (.bool false)), (.p (.int .i64 0)), (.p (.str [])), (.p .nilslice), (.p .nilslice)] [])), (oN (.store 6 (.t 4) (.t 8))), (oA 5 (.mv (.k (.v (.c (.p (.int .i64 17)))))))] []) .ret) .skip)) (.seq (.seq (.reg [(oA 9 (.mv (.t 0)))] []) (.block 0 (.seq (.reg [(oA 11 (.bin .eql 0 (.t 9) (.k (.v (.c (.p (.str [110, 111, 116]))))))), (oA 10 (.mv (.t 11)))] []) (.cond (.t 10) (.seq (.reg [(oA 12 (.mv (.t 1))), (oA 13 (.iaddr 6 (.t 12) (.k (.v (.c (.p (.int .i64 0))))))), (oA 14 (.faddr 1 (.t 13))), (oA 15 (.load false 1 (.t 14))), (oA 16 (.un .not (.t 15))), (oA 17 (.call (.k (.v (.c (.func 115 [])))) [(.t 16)])), (oN (.store 6 (.t 4) (.t 17))), (oA 5 (.mv (.k (.v (.c (.p (.int .i64 0)))))))] []) .ret) (.seq (.reg [(oA 19 (.bin .eql 0 (.t 9) (.k (.v (.c (.p (.str [97, 110, 100]))))))), (oA 18 (.mv (.t 19)))] []) (.cond (.t 18) (.seq (.reg [(oA 20 (.mv (.t 1))), (oA 21 (.iaddr 6 (.t 20) (.k (.v (.c (.p (.int .i64 0))))))), (oA 22 (.faddr 1 (.t 21))), (oA 23 (.load false 1 (.t 22))), (oA 24 (.mv (.t 23))), ⟨(some 25), (.mv (.t 1)), (some (24, true))⟩, ⟨(some 26), (.iaddr 6 (.t 25) (.k (.v (.c (.p (.int .i64 1)))))), (some (24, true))⟩, ⟨(some 27), (.faddr 1 (.t 26)), (some (24, true))⟩, ⟨(some 28), (.load false 1 (.t 27)), (some (24, true))⟩, (oA 29 (.pick (.t 24) (.t 28) (.k (.v (.c (.p (.bool false))))))), (oA 30 (.call (.k (.v (.c (.func 115 [])))) [(.t 29)])), (oN (.store 6 (.t 4) (.t 30))), (oA 5 (.mv (.k (.v (.c (.p (.int .i64 0)))))))] []) .ret) .skip)))))) (.seq (.reg [(oA 31 (.mv (.t 1))), (oA 32 (.iaddr 6 (.t 31) (.k (.v (.c (.p (.int .i64 0))))))), (oA 33 (.faddr 1 (.t 32))), (oA 34 (.load false 1 (.t 33))), (oA 35 (.mv (.t 34))), ⟨(some 36), (.mv (.t 1)), (some (35, false))⟩, ⟨(some 37), (.iaddr 6 (.t 36) (.k (.v (.c (.p (.int .i64 1)))))), (some (35, false))⟩, ⟨(some 38), (.faddr 1 (.t 37)), (some (35, false))⟩, ⟨(some 39), (.load false 1 (.t 38)), (some (35, false))⟩, (oA 40 (.pick (.t 35) (.k (.v (.c (.p (.bool true))))) (.t 39))), (oA 41 (.call (.k (.v (.c (.func 115 [])))) [(.t 40)])), (oN (.store 6 (.t 4) (.t 41))), (oA 5 (.mv (.k (.v (.c (.p (.int .i64 0)))))))] []) .ret)))) }
theorem t109 : compF Tryz.prog (globs2 tabs opq) (fun _ => false) true Tryz.f109 = some c109.erase := by kernel_rfl
noncomputable def b109_0 (O : Oracle) (R : Jump) (q : Nat) (x0 x1 : TVal) (h : Heap) : Res1 :=
 vop O (.alloc [(.p (.int .i64 0)), (.p (.bool false)), (.p (.int .i64 0)), (.p (.str [])), (.p .nilslice), (.p .nilslice)] false) h 4 fun x4 h =>
 vcall O (.v (.c (.func 125 []))) [x1, (.v (.c (.func 126 [])))] h 7 fun x7 h =>
 vif x7 (
 vop O (.build [(.p (.int .i64 0)), (.p (.bool false)), (.p (.int .i64 0)), (.p (.str [])), (.p .nilslice), (.p .nilslice)] []) h 8 fun x8 h =>
 vstore 6 x4 x8 h fun _ h =>
 vcell true 6 x4 h fun c0 => tcomp (kI 17) fun c1 => vfin true q [c0, c1] h)
 (vbin .eql 0 x0 (kS [110, 111, 116]) h fun x11 h =>
 vif x11 (
 viaddr 6 x1 (kI 0) h fun x13 h =>
 vfaddr 1 x13 h fun x14 h =>
 vload false 1 x14 h fun x15 h =>
 vop O (.un .not (.k x15)) h 16 fun x16 h =>
 vcall O (.v (.c (.func 115 []))) [x16] h 17 fun x17 h =>
 vstore 6 x4 x17 h fun _ h =>
 vcell true 6 x4 h fun c0 => tcomp (kI 0) fun c1 => vfin true q [c0, c1] h)
 (vbin .eql 0 x0 (kS [97, 110, 100]) h fun x19 h =>
 vif x19 (
 viaddr 6 x1 (kI 0) h fun x21 h =>
 vfaddr 1 x21 h fun x22 h =>
 vload false 1 x22 h fun x23 h =>
 vguard x23 true (fun kk => kk x1 h) h fun x25 h =>
 vguard x23 true (fun kk => viaddr 6 x25 (kI 1) h kk) h fun x26 h =>
 vguard x23 true (fun kk => vfaddr 1 x26 h kk) h fun x27 h =>
 vguard x23 true (fun kk => vload false 1 x27 h kk) h fun x28 h =>
 vop O (.pick (.k x23) (.k x28) (.k (kB false))) h 29 fun x29 h =>
 vcall O (.v (.c (.func 115 []))) [x29] h 30 fun x30 h =>
 vstore 6 x4 x30 h fun _ h =>
 vcell true 6 x4 h fun c0 => tcomp (kI 0) fun c1 => vfin true q [c0, c1] h)
 (viaddr 6 x1 (kI 0) h fun x32 h =>
 vfaddr 1 x32 h fun x33 h =>
 vload false 1 x33 h fun x34 h =>
 vguard x34 false (fun kk => kk x1 h) h fun x36 h =>
 vguard x34 false (fun kk => viaddr 6 x36 (kI 1) h kk) h fun x37 h =>
 vguard x34 false (fun kk => vfaddr 1 x37 h kk) h fun x38 h =>
 vguard x34 false (fun kk => vload false 1 x38 h kk) h fun x39 h =>
 vop O (.pick (.k x34) (.k (kB true)) (.k x39)) h 40 fun x40 h =>
 vcall O (.v (.c (.func 115 []))) [x40] h 41 fun x41 h =>
 vstore 6 x4 x41 h fun _ h =>
 vcell true 6 x4 h fun c0 => tcomp (kI 0) fun c1 => vfin true q [c0, c1] h)))
theorem e109_0 (O : Oracle) (R : Jump) (q : Nat) (x0 x1 : TVal) (h : Heap) : b109_0 O R q x0 x1 h = stepF c109 O R q 0 [x0, x1] h := by kernel_rfl
noncomputable def d109 : BlkF := fun O R q => [.s fun y0 => .s fun y1 => .z fun h => b109_0 O R q y0 y1 h]
theorem o109 (O : Oracle) (R : Jump) (q : Nat) : HoldsAll c109 O R q 0 (d109 O R q) := ⟨fun y0 y1 h => e109_0 O R q y0 y1 h, trivial⟩
/- sprue/calls.same -/
def c110 : MFunc := { np := 1, res := [.cell 2 true 6, .t 3], frz := true, body := (.seq (.reg [(oA 2 (.alloc [(.p (.int .i64 0)), (.p (.bool false)), (.p (.int .i64 0)), (.p (.str [])), (.p .nilslice), (.p .nilslice)] false)), (oA 3 (.mv (.k (.v (.c (.p (.int .i64 0)))))))] []) (.seq (.reg [(oA 5 (.mv (.t 0))), (oA 6 (.iaddr 6 (.t 5) (.k (.v (.c (.p (.int .i64 0))))))), (oA 7 (.faddr 0 (.t 6))), (oA 8 (.load false 1 (.t 7))), (oA 4 (.mv (.t 8)))] []) (.seq (.seq (.reg [(oA 9 (.mv (.t 4))), (oA 10 (.bin .lss 0 (.t 9) (.k (.v (.c (.p (.int .i64 1))))))), (oA 11 (.mv (.t 10))), ⟨(some 12), (.mv (.t 4)), (some (11, false))⟩, ⟨(some 13), (.bin .gtr 0 (.t 12) (.k (.v (.c (.p (.int .i64 3)))))), (some (11, false))⟩, (oA 14 (.pick (.t 11) (.k (.v (.c (.p (.bool true))))) (.t 13))), (oA 15 (.mv (.t 14))), ⟨(some 16), (.mv (.t 0)), (some (15, false))⟩, ⟨(some 17), (.iaddr 6 (.t 16) (.k (.v (.c (.p (.int .i64 1)))))), (some (15, false))⟩, ⟨(some 18), (.faddr 0 (.t 17)), (some (15, false))⟩, ⟨(some 19), (.load false 1 (.t 18)), (some (15, false))⟩, ⟨(some 20), (.mv (.t 4)), (some (15, false))⟩, ⟨(some 21), (.bin .neq 0 (.t 19) (.t 20)), (some (15, false))⟩, (oA 22 (.pick (.t 15) (.k (.v (.c (.p (.bool true))))) (.t 21)))] []) (.cond (.t 22) (.seq (.reg [(oA 23 (.build [(.p (.int .i64 0)), (.p (.bool false)), (.p (.int .i64 0)), (.p (.str [])), (.p .nilslice), (.p .nilslice)] [])), (oN (.store 6 (.t 2) (.t 23))), (oA 3 (.mv (.k (.v (.c (.p (.int .i64 17)))))))] []) .ret) .skip)) (.seq (.reg [(oA 24 (.mv (.t 0))), (oA 25 (.iaddr 6 (.t 24) (.k (.v (.c (.p (.int .i64 0))))))), (oA 26 (.faddr 1 (.t 25))), (oA 27 (.load false 1 (.t 26))), (oA 28 (.mv (.t 0))), (oA 29 (.iaddr 6 (.t 28) (.k (.v (.c (.p (.int .i64 1))))))), (oA 30 (.faddr 1 (.t 29))), (oA 31 (.load false 1 (.t 30))), (oA 32 (.bin .eql 5 (.t 27) (.t 31))), (oA 33 (.mv (.t 32))), ⟨(some 34), (.mv (.t 0)), (some (33, true))⟩, ⟨(some 35), (.iaddr 6 (.t 34) (.k (.v (.c (.p (.int .i64 0)))))), (some (33, true))⟩, ⟨(some 36), (.faddr 2 (.t 35)), (some (33, true))⟩, ⟨(some 37), (.load false 1 (.t 36)), (some (33, true))⟩, ⟨(some 38), (.mv (.t 0)), (some (33, true))⟩, ⟨(some 39), (.iaddr 6 (.t 38) (.k (.v (.c (.p (.int .i64 1)))))), (some (33, true))⟩, ⟨(some 40), (.faddr 2 (.t 39)), (some (33, true))⟩, ⟨(some 41), (.load false 1 (.t 40)), (some (33, true))⟩, ⟨(some 42), (.bin .eql 0 (.t 37) (.t 41)), (some (33, true))⟩, (oA 43 (.pick (.t 33) (.t 42) (.k (.v (.c (.p (.bool false))))))), (oA 44 (.mv (.t 43))), ⟨(some 45), (.mv (.t 0)), (some (44, true))⟩, ⟨(some 46), (.iaddr 6 (.t 45) (.k (.v (.c (.p (.int .i64 0)))))), (some (44, true))⟩, ⟨(some 47), (.faddr 3 (.t 46)), (some (44, true))⟩, ⟨(some 48), (.load false 1 (.t 47)), (some (44, true))⟩, ⟨(some 49), (.mv (.t 0)), (some (44, true))⟩, ⟨(some 50), (.iaddr 6 (.t 49) (.k (.v (.c (.p (.int .i64 1)))))), (some (44, true))⟩, ⟨(some 51), (.faddr 3 (.t 50)), (some (44, true))⟩, ⟨(some 52), (.load false 1 (.t 51)), (some (44, true))⟩, ⟨(some 53), (.bin .eql 0 (.t 48) (.t 52)), (some (44, true))⟩, (oA 54 (.pick (.t 44) (.t 53) (.k (.v (.c (.p (.bool false))))))), (oA 55 (.call (.k (.v (.c (.func 115 [])))) [(.t 54)])), (oN (.store 6 (.t 2) (.t 55))), (oA 3 (.mv (.k (.v (.c (.p (.int .i64 0)))))))] []) .ret)))) }
theorem t110 : compF Tryz.prog (globs2 tabs opq) (fun _ => false) true Tryz.f110 = some c110.erase := by kernel_rfl
noncomputable def b110_0 (O : Oracle) (R : Jump) (q : Nat) (x0 : TVal) (h : Heap) : Res1 :=
 vop O (.alloc [(.p (.int .i64 0)), (.p (.bool false)), (.p (.int .i64 0)), (.p (.str [])), (.p .nilslice), (.p .nilslice)] false) h 2 fun x2 h =>
 viaddr 6 x0 (kI 0) h fun x6 h =>
 vfaddr 0 x6 h fun x7 h =>
 vload false 1 x7 h fun x8 h =>
 vbin .lss 0 x8 (kI 1) h fun x10 h =>
 vguard x10 false (fun kk => kk x8 h) h fun x12 h =>
 vguard x10 false (fun kk => vbin .gtr 0 x12 (kI 3) h kk) h fun x13 h =>
 vop O (.pick (.k x10) (.k (kB true)) (.k x13)) h 14 fun x14 h =>
 vguard x14 false (fun kk => kk x0 h) h fun x16 h =>
 vguard x14 false (fun kk => viaddr 6 x16 (kI 1) h kk) h fun x17 h =>
 vguard x14 false (fun kk => vfaddr 0 x17 h kk) h fun x18 h =>
 vguard x14 false (fun kk => vload false 1 x18 h kk) h fun x19 h =>
 vguard x14 false (fun kk => kk x8 h) h fun x20 h =>
 vguard x14 false (fun kk => vbin .neq 0 x19 x20 h kk) h fun x21 h =>
 vop O (.pick (.k x14) (.k (kB true)) (.k x21)) h 22 fun x22 h =>
 vif x22 (
 vop O (.build [(.p (.int .i64 0)), (.p (.bool false)), (.p (.int .i64 0)), (.p (.str [])), (.p .nilslice), (.p .nilslice)] []) h 23 fun x23 h =>
 vstore 6 x2 x23 h fun _ h =>
 vcell true 6 x2 h fun c0 => tcomp (kI 17) fun c1 => vfin true q [c0, c1] h)
 (viaddr 6 x0 (kI 0) h fun x25 h =>
 vfaddr 1 x25 h fun x26 h =>
 vload false 1 x26 h fun x27 h =>
 viaddr 6 x0 (kI 1) h fun x29 h =>
 vfaddr 1 x29 h fun x30 h =>
 vload false 1 x30 h fun x31 h =>
 vbin .eql 5 x27 x31 h fun x32 h =>
 vguard x32 true (fun kk => kk x0 h) h fun x34 h =>
 vguard x32 true (fun kk => viaddr 6 x34 (kI 0) h kk) h fun x35 h =>
 vguard x32 true (fun kk => vfaddr 2 x35 h kk) h fun x36 h =>
 vguard x32 true (fun kk => vload false 1 x36 h kk) h fun x37 h =>
 vguard x32 true (fun kk => kk x0 h) h fun x38 h =>
 vguard x32 true (fun kk => viaddr 6 x38 (kI 1) h kk) h fun x39 h =>
 vguard x32 true (fun kk => vfaddr 2 x39 h kk) h fun x40 h =>
 vguard x32 true (fun kk => vload false 1 x40 h kk) h fun x41 h =>
 vguard x32 true (fun kk => vbin .eql 0 x37 x41 h kk) h fun x42 h =>
 vop O (.pick (.k x32) (.k x42) (.k (kB false))) h 43 fun x43 h =>
 vguard x43 true (fun kk => kk x0 h) h fun x45 h =>
 vguard x43 true (fun kk => viaddr 6 x45 (kI 0) h kk) h fun x46 h =>
 vguard x43 true (fun kk => vfaddr 3 x46 h kk) h fun x47 h =>
 vguard x43 true (fun kk => vload false 1 x47 h kk) h fun x48 h =>
 vguard x43 true (fun kk => kk x0 h) h fun x49 h =>
 vguard x43 true (fun kk => viaddr 6 x49 (kI 1) h kk) h fun x50 h =>
 vguard x43 true (fun kk => vfaddr 3 x50 h kk) h fun x51 h =>
 vguard x43 true (fun kk => vload false 1 x51 h kk) h fun x52 h =>
 vguard x43 true (fun kk => vbin .eql 0 x48 x52 h kk) h fun x53 h =>
 vop O (.pick (.k x43) (.k x53) (.k (kB false))) h 54 fun x54 h =>
 vcall O (.v (.c (.func 115 []))) [x54] h 55 fun x55 h =>
 vstore 6 x2 x55 h fun _ h =>
 vcell true 6 x2 h fun c0 => tcomp (kI 0) fun c1 => vfin true q [c0, c1] h)
theorem e110_0 (O : Oracle) (R : Jump) (q : Nat) (x0 : TVal) (h : Heap) : b110_0 O R q x0 h = stepF c110 O R q 0 [x0] h := by kernel_rfl
noncomputable def d110 : BlkF := fun O R q => [.s fun y0 => .z fun h => b110_0 O R q y0 h]
theorem o110 (O : Oracle) (R : Jump) (q : Nat) : HoldsAll c110 O R q 0 (d110 O R q) := ⟨fun y0 h => e110_0 O R q y0 h, trivial⟩
/- sprue/calls.cat -/
def c111 : MFunc := { np := 1, res := [.cell 2 true 6, .t 3], frz := true, body := (.seq (.reg [(oA 2 (.alloc [(.p (.int .i64 0)), (.p (.bool false)), (.p (.int .i64 0)), (.p (.str [])), (.p .nilslice), (.p .nilslice)] false)), (oA 3 (.mv (.k (.v (.c (.p (.int .i64 0)))))))] []) (.seq (.block 0 (.seq (.reg [(oA 5 (.mv (.t 0))), (oA 6 (.bslice 1 2 [(.p (.int .i64 0))] [(0, (.k (.v (.c (.p (.int .i64 3)))))), (1, (.k (.v (.c (.p (.int .i64 3))))))] false)), (oA 7 (.call (.k (.v (.c (.func 114 [])))) [(.t 5), (.t 6)])), (oA 8 (.un .not (.t 7))), (oA 4 (.mv (.t 8)))] []) (.cond (.t 4) (.seq (.reg [(oA 9 (.build [(.p (.int .i64 0)), (.p (.bool false)), (.p (.int .i64 0)), (.p (.str [])), (.p .nilslice), (.p .nilslice)] [])), (oN (.store 6 (.t 2) (.t 9))), (oA 3 (.mv (.k (.v (.c (.p (.int .i64 17)))))))] []) .ret) (.seq (.reg [(oA 11 (.mv (.t 0))), (oA 12 (.iaddr 6 (.t 11) (.k (.v (.c (.p (.int .i64 0))))))), (oA 13 (.faddr 3 (.t 12))), (oA 14 (.load false 1 (.t 13))), (oA 15 (.len 0 (.t 14))), (oA 16 (.mv (.t 0))), (oA 17 (.iaddr 6 (.t 16) (.k (.v (.c (.p (.int .i64 1))))))), (oA 18 (.faddr 3 (.t 17))), (oA 19 (.load false 1 (.t 18))), (oA 20 (.len 0 (.t 19))), (oA 21 (.bin .sub 0 (.k (.v (.c (.p (.int .i64 65536))))) (.t 20))), (oA 22 (.bin .gtr 0 (.t 15) (.t 21))), (oA 10 (.mv (.t 22)))] []) (.cond (.t 10) (.seq (.reg [(oA 23 (.build [(.p (.int .i64 0)), (.p (.bool false)), (.p (.int .i64 0)), (.p (.str [])), (.p .nilslice), (.p .nilslice)] [])), (oN (.store 6 (.t 2) (.t 23))), (oA 3 (.mv (.k (.v (.c (.p (.int .i64 34)))))))] []) .ret) .skip))))) (.seq (.reg [(oA 24 (.mv (.t 0))), (oA 25 (.iaddr 6 (.t 24) (.k (.v (.c (.p (.int .i64 0))))))), (oA 26 (.faddr 3 (.t 25))), (oA 27 (.load false 1 (.t 26))), (oA 28 (.mv (.t 0))), (oA 29 (.iaddr 6 (.t 28) (.k (.v (.c (.p (.int .i64 1))))))), (oA 30 (.faddr 3 (.t 29))), (oA 31 (.load false 1 (.t 30))), (oA 32 (.bin .add 0 (.t 27) (.t 31))), (oA 33 (.call (.k (.v (.c (.func 127 [])))) [(.t 32)])), (oN (.store 6 (.t 2) (.t 33))), (oA 3 (.mv (.k (.v (.c (.p (.int .i64 0)))))))] []) .ret))) }
theorem t111 : compF Tryz.prog (globs2 tabs opq) (fun _ => false) true Tryz.f111 = some c111.erase := by kernel_rfl
noncomputable def b111_0 (O : Oracle) (R : Jump) (q : Nat) (x0 : TVal) (h : Heap) : Res1 :=
 vop O (.alloc [(.p (.int .i64 0)), (.p (.bool false)), (.p (.int .i64 0)), (.p (.str [])), (.p .nilslice), (.p .nilslice)] false) h 2 fun x2 h =>
 vop O (.bslice 1 2 [(.p (.int .i64 0))] [(0, (.k (kI 3))), (1, (.k (kI 3)))] false) h 6 fun x6 h =>
 vcall O (.v (.c (.func 114 []))) [x0, x6] h 7 fun x7 h =>
 vop O (.un .not (.k x7)) h 8 fun x8 h =>
 vif x8 (
 vop O (.build [(.p (.int .i64 0)), (.p (.bool false)), (.p (.int .i64 0)), (.p (.str [])), (.p .nilslice), (.p .nilslice)] []) h 9 fun x9 h =>
 vstore 6 x2 x9 h fun _ h =>
 vcell true 6 x2 h fun c0 => tcomp (kI 17) fun c1 => vfin true q [c0, c1] h)
 (viaddr 6 x0 (kI 0) h fun x12 h =>
 vfaddr 3 x12 h fun x13 h =>
 vload false 1 x13 h fun x14 h =>
 vlen O 0 x14 h 15 fun x15 h =>
 viaddr 6 x0 (kI 1) h fun x17 h =>
 vfaddr 3 x17 h fun x18 h =>
 vload false 1 x18 h fun x19 h =>
 vlen O 0 x19 h 20 fun x20 h =>
 vbin .sub 0 (kI 65536) x20 h fun x21 h =>
 vbin .gtr 0 x15 x21 h fun x22 h =>
 vif x22 (
 vop O (.build [(.p (.int .i64 0)), (.p (.bool false)), (.p (.int .i64 0)), (.p (.str [])), (.p .nilslice), (.p .nilslice)] []) h 23 fun x23 h =>
 vstore 6 x2 x23 h fun _ h =>
 vcell true 6 x2 h fun c0 => tcomp (kI 34) fun c1 => vfin true q [c0, c1] h)
 (viaddr 6 x0 (kI 0) h fun x25 h =>
 vfaddr 3 x25 h fun x26 h =>
 vload false 1 x26 h fun x27 h =>
 viaddr 6 x0 (kI 1) h fun x29 h =>
 vfaddr 3 x29 h fun x30 h =>
 vload false 1 x30 h fun x31 h =>
 vbin .add 0 x27 x31 h fun x32 h =>
 vcall O (.v (.c (.func 127 []))) [x32] h 33 fun x33 h =>
 vstore 6 x2 x33 h fun _ h =>
 vcell true 6 x2 h fun c0 => tcomp (kI 0) fun c1 => vfin true q [c0, c1] h))
theorem e111_0 (O : Oracle) (R : Jump) (q : Nat) (x0 : TVal) (h : Heap) : b111_0 O R q x0 h = stepF c111 O R q 0 [x0] h := by kernel_rfl
noncomputable def d111 : BlkF := fun O R q => [.s fun y0 => .z fun h => b111_0 O R q y0 h]
theorem o111 (O : Oracle) (R : Jump) (q : Nat) : HoldsAll c111 O R q 0 (d111 O R q) := ⟨fun y0 h => e111_0 O R q y0 h, trivial⟩
/- sprue/calls.written -/
def c112 : MFunc := { np := 1, res := [.cell 2 true 6, .t 3], frz := true, body := (.seq (.reg [(oA 1 (.box (.t 0) false)), (oA 2 (.alloc [(.p (.int .i64 0)), (.p (.bool false)), (.p (.int .i64 0)), (.p (.str [])), (.p .nilslice), (.p .nilslice)] false)), (oA 3 (.mv (.k (.v (.c (.p (.int .i64 0)))))))] []) (.seq (.seq (.reg [(oA 4 (.faddr 0 (.t 1))), (oA 5 (.load false 1 (.t 4)))] []) (.block 0 (.seq (.reg [(oA 7 (.bin .eql 0 (.t 5) (.k (.v (.c (.p (.int .i64 2))))))), (oA 6 (.mv (.t 7)))] []) (.cond (.t 6) (.seq (.reg [(oA 8 (.faddr 2 (.t 1))), (oA 9 (.load false 1 (.t 8))), (oA 10 (.call (.k (.v (.c (.func 92 [])))) [(.t 9), (.k (.v (.c (.p (.int .i64 10)))))])), (oA 11 (.call (.k (.v (.c (.func 127 [])))) [(.t 10)])), (oN (.store 6 (.t 2) (.t 11))), (oA 3 (.mv (.k (.v (.c (.p (.int .i64 0)))))))] []) .ret) (.seq (.reg [(oA 13 (.bin .eql 0 (.t 5) (.k (.v (.c (.p (.int .i64 1))))))), (oA 12 (.mv (.t 13)))] []) (.cond (.t 12) (.seq (.reg [(oA 14 (.faddr 1 (.t 1))), (oA 15 (.load false 1 (.t 14))), (oA 16 (.call (.k (.v (.c (.func 91 [])))) [(.t 15)])), (oA 17 (.call (.k (.v (.c (.func 127 [])))) [(.t 16)])), (oN (.store 6 (.t 2) (.t 17))), (oA 3 (.mv (.k (.v (.c (.p (.int .i64 0)))))))] []) .ret) .skip)))))) (.seq (.reg [(oA 18 (.build [(.p (.int .i64 0)), (.p (.bool false)), (.p (.int .i64 0)), (.p (.str [])), (.p .nilslice), (.p .nilslice)] [])), (oN (.store 6 (.t 2) (.t 18))), (oA 3 (.mv (.k (.v (.c (.p (.int .i64 17)))))))] []) .ret))) }
theorem t112 : compF Tryz.prog (globs2 tabs opq) (fun _ => false) true Tryz.f112 = some c112.erase := by kernel_rfl
noncomputable def b112_0 (O : Oracle) (R : Jump) (q : Nat) (x0 : TVal) (h : Heap) : Res1 :=
 vop O (.box (.k x0) false) h 1 fun x1 h =>
 vop O (.alloc [(.p (.int .i64 0)), (.p (.bool false)), (.p (.int .i64 0)), (.p (.str [])), (.p .nilslice), (.p .nilslice)] false) h 2 fun x2 h =>
 vfaddr 0 x1 h fun x4 h =>
 vload false 1 x4 h fun x5 h =>
 vbin .eql 0 x5 (kI 2) h fun x7 h =>
 vif x7 (
 vfaddr 2 x1 h fun x8 h =>
 vload false 1 x8 h fun x9 h =>
 vcall O (.v (.c (.func 92 []))) [x9, (kI 10)] h 10 fun x10 h =>
 vcall O (.v (.c (.func 127 []))) [x10] h 11 fun x11 h =>
 vstore 6 x2 x11 h fun _ h =>
 vcell true 6 x2 h fun c0 => tcomp (kI 0) fun c1 => vfin true q [c0, c1] h)
 (vbin .eql 0 x5 (kI 1) h fun x13 h =>
 vif x13 (
 vfaddr 1 x1 h fun x14 h =>
 vload false 1 x14 h fun x15 h =>
 vcall O (.v (.c (.func 91 []))) [x15] h 16 fun x16 h =>
 vcall O (.v (.c (.func 127 []))) [x16] h 17 fun x17 h =>
 vstore 6 x2 x17 h fun _ h =>
 vcell true 6 x2 h fun c0 => tcomp (kI 0) fun c1 => vfin true q [c0, c1] h)
 (vop O (.build [(.p (.int .i64 0)), (.p (.bool false)), (.p (.int .i64 0)), (.p (.str [])), (.p .nilslice), (.p .nilslice)] []) h 18 fun x18 h =>
 vstore 6 x2 x18 h fun _ h =>
 vcell true 6 x2 h fun c0 => tcomp (kI 17) fun c1 => vfin true q [c0, c1] h))
theorem e112_0 (O : Oracle) (R : Jump) (q : Nat) (x0 : TVal) (h : Heap) : b112_0 O R q x0 h = stepF c112 O R q 0 [x0] h := by kernel_rfl
noncomputable def d112 : BlkF := fun O R q => [.s fun y0 => .z fun h => b112_0 O R q y0 h]
theorem o112 (O : Oracle) (R : Jump) (q : Nat) : HoldsAll c112 O R q 0 (d112 O R q) := ⟨fun y0 h => e112_0 O R q y0 h, trivial⟩
/- sprue/calls.at -/
def c113 : MFunc := { np := 1, res := [.cell 2 true 6, .t 3], frz := true, body := (.seq (.reg [(oA 2 (.alloc [(.p (.int .i64 0)), (.p (.bool false)), (.p (.int .i64 0)), (.p (.str [])), (.p .nilslice), (.p .nilslice)] false)), (oA 3 (.mv (.k (.v (.c (.p (.int .i64 0)))))))] []) (.seq (.block 0 (.seq (.reg [(oA 5 (.mv (.t 0))), (oA 6 (.bslice 1 2 [(.p (.int .i64 0))] [(0, (.k (.v (.c (.p (.int .i64 4)))))), (1, (.k (.v (.c (.p (.int .i64 2))))))] false)), (oA 7 (.call (.k (.v (.c (.func 114 [])))) [(.t 5), (.t 6)])), (oA 8 (.un .not (.t 7))), (oA 4 (.mv (.t 8)))] []) (.cond (.t 4) (.seq (.reg [(oA 9 (.build [(.p (.int .i64 0)), (.p (.bool false)), (.p (.int .i64 0)), (.p (.str [])), (.p .nilslice), (.p .nilslice)] [])), (oN (.store 6 (.t 2) (.t 9))), (oA 3 (.mv (.k (.v (.c (.p (.int .i64 17)))))))] []) .ret) (.seq (.reg [(oA 11 (.mv (.t 0))), (oA 12 (.iaddr 6 (.t 11) (.k (.v (.c (.p (.int .i64 1))))))), (oA 13 (.faddr 2 (.t 12))), (oA 14 (.load false 1 (.t 13))), (oA 15 (.bin .lss 0 (.t 14) (.k (.v (.c (.p (.int .i64 0))))))), (oA 16 (.mv (.t 15))), ⟨(some 17), (.mv (.t 0)), (some (16, false))⟩, ⟨(some 18), (.iaddr 6 (.t 17) (.k (.v (.c (.p (.int .i64 1)))))), (some (16, false))⟩, ⟨(some 19), (.faddr 2 (.t 18)), (some (16, false))⟩, ⟨(some 20), (.load false 1 (.t 19)), (some (16, false))⟩, ⟨(some 21), (.mv (.t 0)), (some (16, false))⟩, ⟨(some 22), (.iaddr 6 (.t 21) (.k (.v (.c (.p (.int .i64 0)))))), (some (16, false))⟩, ⟨(some 23), (.faddr 5 (.t 22)), (some (16, false))⟩, ⟨(some 24), (.load false 1 (.t 23)), (some (16, false))⟩, ⟨(some 25), (.len 2 (.t 24)), (some (16, false))⟩, ⟨(some 26), (.bin .geq 0 (.t 20) (.t 25)), (some (16, false))⟩, (oA 27 (.pick (.t 16) (.k (.v (.c (.p (.bool true))))) (.t 26))), (oA 10 (.mv (.t 27)))] []) (.cond (.t 10) (.seq (.reg [(oA 28 (.build [(.p (.int .i64 0)), (.p (.bool false)), (.p (.int .i64 0)), (.p (.str [])), (.p .nilslice), (.p .nilslice)] [])), (oN (.store 6 (.t 2) (.t 28))), (oA 3 (.mv (.k (.v (.c (.p (.int .i64 32)))))))] []) .ret) .skip))))) (.seq (.reg [(oA 29 (.mv (.t 0))), (oA 30 (.iaddr 6 (.t 29) (.k (.v (.c (.p (.int .i64 0))))))), (oA 31 (.faddr 5 (.t 30))), (oA 32 (.load false 1 (.t 31))), (oA 33 (.mv (.t 0))), (oA 34 (.iaddr 6 (.t 33) (.k (.v (.c (.p (.int .i64 1))))))), (oA 35 (.faddr 2 (.t 34))), (oA 36 (.load false 1 (.t 35))), (oA 37 (.iaddr 6 (.t 32) (.t 36))), (oA 38 (.load true 6 (.t 37))), (oA 39 (.call (.k (.v (.c (.func 29 [])))) [(.t 38)])), (oN (.store 6 (.t 2) (.t 39))), (oA 3 (.mv (.k (.v (.c (.p (.int .i64 0)))))))] []) .ret))) }
theorem t113 : compF Tryz.prog (globs2 tabs opq) (fun _ => false) true Tryz.f113 = some c113.erase := by kernel_rfl
noncomputable def b113_0 (O : Oracle) (R : Jump) (q : Nat) (x0 : TVal) (h : Heap) : Res1 :=
 vop O (.alloc [(.p (.int .i64 0)), (.p (.bool false)), (.p (.int .i64 0)), (.p (.str [])), (.p .nilslice), (.p .nilslice)] false) h 2 fun x2 h =>
 vop O (.bslice 1 2 [(.p (.int .i64 0))] [(0, (.k (kI 4))), (1, (.k (kI 2)))] false) h 6 fun x6 h =>
 vcall O (.v (.c (.func 114 []))) [x0, x6] h 7 fun x7 h =>
 vop O (.un .not (.k x7)) h 8 fun x8 h =>
 vif x8 (
 vop O (.build [(.p (.int .i64 0)), (.p (.bool false)), (.p (.int .i64 0)), (.p (.str [])), (.p .nilslice), (.p .nilslice)] []) h 9 fun x9 h =>
 vstore 6 x2 x9 h fun _ h =>
 vcell true 6 x2 h fun c0 => tcomp (kI 17) fun c1 => vfin true q [c0, c1] h)
 (viaddr 6 x0 (kI 1) h fun x12 h =>
 vfaddr 2 x12 h fun x13 h =>
 vload false 1 x13 h fun x14 h =>
 vbin .lss 0 x14 (kI 0) h fun x15 h =>
 vguard x15 false (fun kk => kk x0 h) h fun x17 h =>
 vguard x15 false (fun kk => viaddr 6 x17 (kI 1) h kk) h fun x18 h =>
 vguard x15 false (fun kk => vfaddr 2 x18 h kk) h fun x19 h =>
 vguard x15 false (fun kk => vload false 1 x19 h kk) h fun x20 h =>
 vguard x15 false (fun kk => kk x0 h) h fun x21 h =>
 vguard x15 false (fun kk => viaddr 6 x21 (kI 0) h kk) h fun x22 h =>
 vguard x15 false (fun kk => vfaddr 5 x22 h kk) h fun x23 h =>
 vguard x15 false (fun kk => vload false 1 x23 h kk) h fun x24 h =>
 vguard x15 false (fun kk => vlen O 2 x24 h 25 kk) h fun x25 h =>
 vguard x15 false (fun kk => vbin .geq 0 x20 x25 h kk) h fun x26 h =>
 vop O (.pick (.k x15) (.k (kB true)) (.k x26)) h 27 fun x27 h =>
 vif x27 (
 vop O (.build [(.p (.int .i64 0)), (.p (.bool false)), (.p (.int .i64 0)), (.p (.str [])), (.p .nilslice), (.p .nilslice)] []) h 28 fun x28 h =>
 vstore 6 x2 x28 h fun _ h =>
 vcell true 6 x2 h fun c0 => tcomp (kI 32) fun c1 => vfin true q [c0, c1] h)
 (viaddr 6 x0 (kI 0) h fun x30 h =>
 vfaddr 5 x30 h fun x31 h =>
 vload false 1 x31 h fun x32 h =>
 viaddr 6 x0 (kI 1) h fun x34 h =>
 vfaddr 2 x34 h fun x35 h =>
 vload false 1 x35 h fun x36 h =>
 viaddr 6 x32 x36 h fun x37 h =>
 vload true 6 x37 h fun x38 h =>
 vcall O (.v (.c (.func 29 []))) [x38] h 39 fun x39 h =>
 vstore 6 x2 x39 h fun _ h =>
 vcell true 6 x2 h fun c0 => tcomp (kI 0) fun c1 => vfin true q [c0, c1] h))
theorem e113_0 (O : Oracle) (R : Jump) (q : Nat) (x0 : TVal) (h : Heap) : b113_0 O R q x0 h = stepF c113 O R q 0 [x0] h := by kernel_rfl
noncomputable def d113 : BlkF := fun O R q => [.s fun y0 => .z fun h => b113_0 O R q y0 h]
theorem o113 (O : Oracle) (R : Jump) (q : Nat) : HoldsAll c113 O R q 0 (d113 O R q) := ⟨fun y0 h => e113_0 O R q y0 h, trivial⟩
/- sprue/calls.are -/
def c114 : MFunc := { np := 2, res := [.t 4], frz := true, body := (.seq (.reg [(oA 4 (.mv (.k (.v (.c (.p (.bool false)))))))] []) (.seq (.seq (.reg [(oA 7 (.mv (.t 1))), (oA 8 (.len 2 (.t 7))), (oA 9 (.mv (.k (.v (.c (.p (.int .i64 0)))))))] []) (.block 0 (.loop 1 [0, 7, 8, 9] (.seq (.reg [(oA 10 (.bin .lss 0 (.t 9) (.t 8)))] []) (.seq (.cond (.t 10) .skip (.exit 0)) (.seq (.block 1 (.seq (.reg [(oA 11 (.mv (.t 9))), (oA 12 (.iaddr 1 (.t 7) (.t 9))), (oA 13 (.load false 1 (.t 12))), (oA 5 (.mv (.t 11))), (oA 6 (.mv (.t 13)))] []) (.seq (.reg [(oA 14 (.mv (.t 0))), (oA 15 (.mv (.t 5))), (oA 16 (.iaddr 6 (.t 14) (.t 15))), (oA 17 (.faddr 0 (.t 16))), (oA 18 (.load false 1 (.t 17))), (oA 19 (.mv (.t 6))), (oA 20 (.bin .neq 0 (.t 18) (.t 19)))] []) (.cond (.t 20) (.seq (.reg [(oA 4 (.mv (.k (.v (.c (.p (.bool false)))))))] []) .ret) .skip)))) (.reg [(oA 21 (.bin .add 0 (.t 9) (.k (.v (.c (.p (.int .i64 1))))))), (oA 9 (.mv (.t 21)))] []))))))) (.seq (.reg [(oA 4 (.mv (.k (.v (.c (.p (.bool true)))))))] []) .ret))) }
theorem t114 : compF Tryz.prog (globs2 tabs opq) (fun _ => false) true Tryz.f114 = some c114.erase := by kernel_rfl
noncomputable def b114_0 (O : Oracle) (R : Jump) (q : Nat) (x0 x1 : TVal) (h : Heap) : Res1 :=
 vlen O 2 x1 h 8 fun x8 h =>
 R 1 [x0, x1, x8, (kI 0)] h
theorem e114_0 (O : Oracle) (R : Jump) (q : Nat) (x0 x1 : TVal) (h : Heap) : b114_0 O R q x0 x1 h = stepF c114 O R q 0 [x0, x1] h := by kernel_rfl
noncomputable def b114_1 (O : Oracle) (R : Jump) (q : Nat) (x0 x7 x8 x9 : TVal) (h : Heap) : Res1 :=
 vbin .lss 0 x9 x8 h fun x10 h =>
 vif x10 (
 viaddr 1 x7 x9 h fun x12 h =>
 vload false 1 x12 h fun x13 h =>
 viaddr 6 x0 x9 h fun x16 h =>
 vfaddr 0 x16 h fun x17 h =>
 vload false 1 x17 h fun x18 h =>
 vbin .neq 0 x18 x13 h fun x20 h =>
 vif x20 (
 tcomp (kB false) fun c0 => vfin true q [c0] h)
 (vbin .add 0 x9 (kI 1) h fun x21 h =>
 R 1 [x0, x7, x8, x21] h))
 (tcomp (kB true) fun c0 => vfin true q [c0] h)
theorem e114_1 (O : Oracle) (R : Jump) (q : Nat) (x0 x7 x8 x9 : TVal) (h : Heap) : b114_1 O R q x0 x7 x8 x9 h = stepF c114 O R q 1 [x0, x7, x8, x9] h := by kernel_rfl
noncomputable def d114 : BlkF := fun O R q => [.s fun y0 => .s fun y1 => .z fun h => b114_0 O R q y0 y1 h, .s fun y0 => .s fun y1 => .s fun y2 => .s fun y3 => .z fun h => b114_1 O R q y0 y1 y2 y3 h]
theorem o114 (O : Oracle) (R : Jump) (q : Nat) : HoldsAll c114 O R q 0 (d114 O R q) := ⟨fun y0 y1 h => e114_0 O R q y0 y1 h, fun y0 y1 y2 y3 h => e114_1 O R q y0 y1 y2 y3 h, trivial⟩
/- sprue/calls.truth -/
def c115 : MFunc := { np := 1, res := [.cell 2 true 6], frz := true, body := (.seq (.reg [(oA 2 (.alloc [(.p (.int .i64 0)), (.p (.bool false)), (.p (.int .i64 0)), (.p (.str [])), (.p .nilslice), (.p .nilslice)] false))] []) (.seq (.reg [(oA 3 (.mv (.t 0))), (oA 4 (.build [(.p (.int .i64 0)), (.p (.bool false)), (.p (.int .i64 0)), (.p (.str [])), (.p .nilslice), (.p .nilslice)] [(0, 1, (.k (.v (.c (.p (.int .i64 1)))))), (1, 1, (.t 3))])), (oN (.store 6 (.t 2) (.t 4)))] []) .ret)) }
theorem t115 : compF Tryz.prog (globs2 tabs opq) (fun _ => false) true Tryz.f115 = some c115.erase := by kernel_rfl
noncomputable def b115_0 (O : Oracle) (R : Jump) (q : Nat) (x0 : TVal) (h : Heap) : Res1 :=
 vop O (.alloc [(.p (.int .i64 0)), (.p (.bool false)), (.p (.int .i64 0)), (.p (.str [])), (.p .nilslice), (.p .nilslice)] false) h 2 fun x2 h =>
 vop O (.build [(.p (.int .i64 0)), (.p (.bool false)), (.p (.int .i64 0)), (.p (.str [])), (.p .nilslice), (.p .nilslice)] [(0, 1, (.k (kI 1))), (1, 1, (.k x0))]) h 4 fun x4 h =>
 vstore 6 x2 x4 h fun _ h =>
 vcell true 6 x2 h fun c0 => vfin true q [c0] h
theorem e115_0 (O : Oracle) (R : Jump) (q : Nat) (x0 : TVal) (h : Heap) : b115_0 O R q x0 h = stepF c115 O R q 0 [x0] h := by kernel_rfl
noncomputable def d115 : BlkF := fun O R q => [.s fun y0 => .z fun h => b115_0 O R q y0 h]
theorem o115 (O : Oracle) (R : Jump) (q : Nat) : HoldsAll c115 O R q 0 (d115 O R q) := ⟨fun y0 h => e115_0 O R q y0 h, trivial⟩
/- sprue/calls.numbers -/
def c116 : MFunc := { np := 2, res := [.cell 4 true 6, .t 5], frz := true, body := (.seq (.reg [(oA 4 (.alloc [(.p (.int .i64 0)), (.p (.bool false)), (.p (.int .i64 0)), (.p (.str [])), (.p .nilslice), (.p .nilslice)] false)), (oA 5 (.mv (.k (.v (.c (.p (.int .i64 0)))))))] []) (.seq (.seq (.reg [(oA 6 (.mv (.t 1))), (oA 7 (.call (.k (.v (.c (.func 125 [])))) [(.t 6), (.k (.v (.c (.func 128 []))))]))] []) (.cond (.t 7) (.seq (.reg [(oA 8 (.build [(.p (.int .i64 0)), (.p (.bool false)), (.p (.int .i64 0)), (.p (.str [])), (.p .nilslice), (.p .nilslice)] [])), (oN (.store 6 (.t 4) (.t 8))), (oA 5 (.mv (.k (.v (.c (.p (.int .i64 17)))))))] []) .ret) .skip)) (.seq (.block 0 (.seq (.reg [(oA 10 (.mv (.t 1))), (oA 11 (.len 2 (.t 10))), (oA 12 (.bin .eql 0 (.t 11) (.k (.v (.c (.p (.int .i64 1))))))), (oA 9 (.mv (.t 12)))] []) (.cond (.t 9) (.seq (.reg [(oA 13 (.mv (.t 0))), (oA 14 (.mv (.t 1))), (oA 15 (.iaddr 6 (.t 14) (.k (.v (.c (.p (.int .i64 0))))))), (oA 16 (.faddr 2 (.t 15))), (oA 17 (.load false 1 (.t 16))), (oA 18 (.call (.k (.v (.c (.func 129 [])))) [(.t 13), (.t 17)])), (oA 19 (.call (.k (.v (.c (.func 124 [])))) [(.t 18)])), (oN (.store 6 (.t 4) (.t 19))), (oA 5 (.mv (.k (.v (.c (.p (.int .i64 0)))))))] []) .ret) (.seq (.reg [(oA 21 (.mv (.t 0))), (oA 22 (.bin .eql 0 (.t 21) (.k (.v (.c (.p (.str [108, 116]))))))), (oA 20 (.mv (.t 22)))] []) (.cond (.t 20) (.seq (.reg [(oA 23 (.mv (.t 1))), (oA 24 (.iaddr 6 (.t 23) (.k (.v (.c (.p (.int .i64 0))))))), (oA 25 (.faddr 2 (.t 24))), (oA 26 (.load false 1 (.t 25))), (oA 27 (.mv (.t 1))), (oA 28 (.iaddr 6 (.t 27) (.k (.v (.c (.p (.int .i64 1))))))), (oA 29 (.faddr 2 (.t 28))), (oA 30 (.load false 1 (.t 29))), (oA 31 (.bin .lss 0 (.t 26) (.t 30))), (oA 32 (.call (.k (.v (.c (.func 115 [])))) [(.t 31)])), (oN (.store 6 (.t 4) (.t 32))), (oA 5 (.mv (.k (.v (.c (.p (.int .i64 0)))))))] []) .ret) .skip))))) (.seq (.reg [(oA 33 (.mv (.t 0))), (oA 34 (.mv (.t 1))), (oA 35 (.iaddr 6 (.t 34) (.k (.v (.c (.p (.int .i64 0))))))), (oA 36 (.faddr 2 (.t 35))), (oA 37 (.load false 1 (.t 36))), (oA 38 (.mv (.t 1))), (oA 39 (.iaddr 6 (.t 38) (.k (.v (.c (.p (.int .i64 1))))))), (oA 40 (.faddr 2 (.t 39))), (oA 41 (.load false 1 (.t 40))), (oA 42 (.call (.k (.v (.c (.func 130 [])))) [(.t 33), (.t 37), (.t 41)])), (oA 43 (.call (.k (.v (.c (.func 124 [])))) [(.t 42)])), (oN (.store 6 (.t 4) (.t 43))), (oA 5 (.mv (.k (.v (.c (.p (.int .i64 0)))))))] []) .ret)))) }
theorem t116 : compF Tryz.prog (globs2 tabs opq) (fun _ => false) true Tryz.f116 = some c116.erase := by kernel_rfl
noncomputable def b116_0 (O : Oracle) (R : Jump) (q : Nat) (x0 x1 : TVal) (h : Heap) : Res1 :=
 vop O (.alloc [(.p (.int .i64 0)), (.p (.bool false)), (.p (.int .i64 0)), (.p (.str [])), (.p .nilslice), (.p .nilslice)] false) h 4 fun x4 h =>
 vcall O (.v (.c (.func 125 []))) [x1, (.v (.c (.func 128 [])))] h 7 fun x7 h =>
 vif x7 (
 vop O (.build [(.p (.int .i64 0)), (.p (.bool false)), (.p (.int .i64 0)), (.p (.str [])), (.p .nilslice), (.p .nilslice)] []) h 8 fun x8 h =>
 vstore 6 x4 x8 h fun _ h =>
 vcell true 6 x4 h fun c0 => tcomp (kI 17) fun c1 => vfin true q [c0, c1] h)
 (vlen O 2 x1 h 11 fun x11 h =>
 vbin .eql 0 x11 (kI 1) h fun x12 h =>
 vif x12 (
 viaddr 6 x1 (kI 0) h fun x15 h =>
 vfaddr 2 x15 h fun x16 h =>
 vload false 1 x16 h fun x17 h =>
 vcall O (.v (.c (.func 129 []))) [x0, x17] h 18 fun x18 h =>
 vcall O (.v (.c (.func 124 []))) [x18] h 19 fun x19 h =>
 vstore 6 x4 x19 h fun _ h =>
 vcell true 6 x4 h fun c0 => tcomp (kI 0) fun c1 => vfin true q [c0, c1] h)
 (vbin .eql 0 x0 (kS [108, 116]) h fun x22 h =>
 vif x22 (
 viaddr 6 x1 (kI 0) h fun x24 h =>
 vfaddr 2 x24 h fun x25 h =>
 vload false 1 x25 h fun x26 h =>
 viaddr 6 x1 (kI 1) h fun x28 h =>
 vfaddr 2 x28 h fun x29 h =>
 vload false 1 x29 h fun x30 h =>
 vbin .lss 0 x26 x30 h fun x31 h =>
 vcall O (.v (.c (.func 115 []))) [x31] h 32 fun x32 h =>
 vstore 6 x4 x32 h fun _ h =>
 vcell true 6 x4 h fun c0 => tcomp (kI 0) fun c1 => vfin true q [c0, c1] h)
 (viaddr 6 x1 (kI 0) h fun x35 h =>
 vfaddr 2 x35 h fun x36 h =>
 vload false 1 x36 h fun x37 h =>
 viaddr 6 x1 (kI 1) h fun x39 h =>
 vfaddr 2 x39 h fun x40 h =>
 vload false 1 x40 h fun x41 h =>
 vcall O (.v (.c (.func 130 []))) [x0, x37, x41] h 42 fun x42 h =>
 vcall O (.v (.c (.func 124 []))) [x42] h 43 fun x43 h =>
 vstore 6 x4 x43 h fun _ h =>
 vcell true 6 x4 h fun c0 => tcomp (kI 0) fun c1 => vfin true q [c0, c1] h)))
theorem e116_0 (O : Oracle) (R : Jump) (q : Nat) (x0 x1 : TVal) (h : Heap) : b116_0 O R q x0 x1 h = stepF c116 O R q 0 [x0, x1] h := by kernel_rfl
noncomputable def d116 : BlkF := fun O R q => [.s fun y0 => .s fun y1 => .z fun h => b116_0 O R q y0 y1 h]
theorem o116 (O : Oracle) (R : Jump) (q : Nat) : HoldsAll c116 O R q 0 (d116 O R q) := ⟨fun y0 y1 h => e116_0 O R q y0 y1 h, trivial⟩
/- internal/strconv.small -/
def c117 : MFunc := { np := 1, res := [.t 2], frz := true, body := (.seq (.reg [(oA 2 (.mv (.k (.v (.c (.p (.str [])))))))] []) (.seq (.seq (.reg [(oA 3 (.mv (.t 0))), (oA 4 (.bin .lss 0 (.t 3) (.k (.v (.c (.p (.int .i64 10)))))))] []) (.cond (.t 4) (.seq (.reg [(oA 5 (.mv (.t 0))), (oA 6 (.mv (.t 0))), (oA 7 (.bin .add 0 (.t 6) (.k (.v (.c (.p (.int .i64 1))))))), (oA 8 (.slice 0 true (.k (.v (.c (.p (.str [48, 49, 50, 51, 52, 53, 54, 55, 56, 57, 97, 98, 99, 100, 101, 102, 103, 104, 105, 106, 107, 108, 109, 110, 111, 112, 113, 114, 115, 116, 117, 118, 119, 120, 121, 122]))))) (some (.t 5)) (some (.t 7)) none)), (oA 2 (.mv (.t 8)))] []) .ret) .skip)) (.seq (.reg [(oA 9 (.mv (.t 0))), (oA 10 (.bin .mul 0 (.t 9) (.k (.v (.c (.p (.int .i64 2))))))), (oA 11 (.mv (.t 0))), (oA 12 (.bin .mul 0 (.t 11) (.k (.v (.c (.p (.int .i64 2))))))), (oA 13 (.bin .add 0 (.t 12) (.k (.v (.c (.p (.int .i64 2))))))), (oA 14 (.slice 0 true (.k (.v (.c (.p (.str [48, 48, 48, 49, 48, 50, 48, 51, 48, 52, 48, 53, 48, 54, 48, 55, 48, 56, 48, 57, 49, 48, 49, 49, 49, 50, 49, 51, 49, 52, 49, 53, 49, 54, 49, 55, 49, 56, 49, 57, 50, 48, 50, 49, 50, 50, 50, 51, 50, 52, 50, 53, 50, 54, 50, 55, 50, 56, 50, 57, 51, 48, 51, 49, 51, 50, 51, 51, 51, 52, 51, 53, 51, 54, 51, 55, 51, 56, 51, 57, 52, 48, 52, 49, 52, 50, 52, 51, 52, 52, 52, 53, 52, 54, 52, 55, 52, 56, 52, 57, 53, 48, 53, 49, 53, 50, 53, 51, 53, 52, 53, 53, 53, 54, 53, 55, 53, 56, 53, 57, 54, 48, 54, 49, 54, 50, 54, 51, 54, 52, 54, 53, 54, 54, 54, 55, 54, 56, 54, 57, 55, 48, 55, 49, 55, 50, 55, 51, 55, 52, 55, 53, 55, 54, 55, 55, 55, 56, 55, 57, 56, 48, 56, 49, 56, 50, 56, 51, 56, 52, 56, 53, 56, 54, 56, 55, 56, 56, 56, 57, 57, 48, 57, 49, 57, 50, 57, 51, 57, 52, 57, 53, 57, 54, 57, 55, 57, 56, 57, 57]))))) (some (.t 10)) (some (.t 13)) none)), (oA 2 (.mv (.t 14)))] []) .ret))) }
theorem t117 : compF Tryz.prog (globs2 tabs opq) (fun _ => false) true Tryz.f117 = some c117.erase := by kernel_rfl
noncomputable def b117_0 (O : Oracle) (R : Jump) (q : Nat) (x0 : TVal) (h : Heap) : Res1 :=
 vbin .lss 0 x0 (kI 10) h fun x4 h =>
 vif x4 (
 vbin .add 0 x0 (kI 1) h fun x7 h =>
 vop O (.slice 0 true (.k (kS [48, 49, 50, 51, 52, 53, 54, 55, 56, 57, 97, 98, 99, 100, 101, 102, 103, 104, 105, 106, 107, 108, 109, 110, 111, 112, 113, 114, 115, 116, 117, 118, 119, 120, 121, 122])) (some (.k x0)) (some (.k x7)) none) h 8 fun x8 h =>
 tcomp x8 fun c0 => vfin true q [c0] h)
 (vbin .mul 0 x0 (kI 2) h fun x10 h =>
 vbin .mul 0 x0 (kI 2) h fun x12 h =>
 vbin .add 0 x12 (kI 2) h fun x13 h =>
 vop O (.slice 0 true (.k (kS [48, 48, 48, 49, 48, 50, 48, 51, 48, 52, 48, 53, 48, 54, 48, 55, 48, 56, 48, 57, 49, 48, 49, 49, 49, 50, 49, 51, 49, 52, 49, 53, 49, 54, 49, 55, 49, 56, 49, 57, 50, 48, 50, 49, 50, 50, 50, 51, 50, 52, 50, 53, 50, 54, 50, 55, 50, 56, 50, 57, 51, 48, 51, 49, 51, 50, 51, 51, 51, 52, 51, 53, 51, 54, 51, 55, 51, 56, 51, 57, 52, 48, 52, 49, 52, 50, 52, 51, 52, 52, 52, 53, 52, 54, 52, 55, 52, 56, 52, 57, 53, 48, 53, 49, 53, 50, 53, 51, 53, 52, 53, 53, 53, 54, 53, 55, 53, 56, 53, 57, 54, 48, 54, 49, 54, 50, 54, 51, 54, 52, 54, 53, 54, 54, 54, 55, 54, 56, 54, 57, 55, 48, 55, 49, 55, 50, 55, 51, 55, 52, 55, 53, 55, 54, 55, 55, 55, 56, 55, 57, 56, 48, 56, 49, 56, 50, 56, 51, 56, 52, 56, 53, 56, 54, 56, 55, 56, 56, 56, 57, 57, 48, 57, 49, 57, 50, 57, 51, 57, 52, 57, 53, 57, 54, 57, 55, 57, 56, 57, 57])) (some (.k x10)) (some (.k x13)) none) h 14 fun x14 h =>
 tcomp x14 fun c0 => vfin true q [c0] h)
theorem e117_0 (O : Oracle) (R : Jump) (q : Nat) (x0 : TVal) (h : Heap) : b117_0 O R q x0 h = stepF c117 O R q 0 [x0] h := by kernel_rfl
noncomputable def d117 : BlkF := fun O R q => [.s fun y0 => .z fun h => b117_0 O R q y0 h]
theorem o117 (O : Oracle) (R : Jump) (q : Nat) : HoldsAll c117 O R q 0 (d117 O R q) := ⟨fun y0 h => e117_0 O R q y0 h, trivial⟩
/- internal/strconv.numDigits -/
def c118 : MFunc := { np := 1, res := [.t 2], frz := true, body := (.seq (.reg [(oA 2 (.mv (.k (.v (.c (.p (.int .i64 0)))))))] []) (.seq (.reg [(oA 4 (.mv (.t 0))), (oA 5 (.call (.k (.v (.c (.func 132 [])))) [(.t 4)])), (oA 6 (.call (.k (.v (.c (.func 131 [])))) [(.t 5)])), (oA 3 (.mv (.t 6)))] []) (.seq (.reg [(oA 7 (.mv (.t 3))), (oA 8 (.mv (.t 0))), (oA 9 (.mv (.t 3))), (oA 10 .bad), (oA 11 (.load false 1 (.t 10))), (oA 12 (.bin .geq 0 (.t 8) (.t 11))), (oA 13 (.call (.k (.v (.c (.func 133 [])))) [(.t 12)])), (oA 14 (.bin .add 0 (.t 7) (.t 13))), (oA 2 (.mv (.t 14)))] []) .ret))) }
theorem t118 : compF Tryz.prog (globs2 tabs opq) (fun _ => false) true Tryz.f118 = some c118.erase := by kernel_rfl
noncomputable def b118_0 (O : Oracle) (R : Jump) (q : Nat) (x0 : TVal) (h : Heap) : Res1 :=
 vcall O (.v (.c (.func 132 []))) [x0] h 5 fun x5 h =>
 vcall O (.v (.c (.func 131 []))) [x5] h 6 fun x6 h =>
 none
theorem e118_0 (O : Oracle) (R : Jump) (q : Nat) (x0 : TVal) (h : Heap) : b118_0 O R q x0 h = stepF c118 O R q 0 [x0] h := by kernel_rfl
noncomputable def d118 : BlkF := fun O R q => [.s fun y0 => .z fun h => b118_0 O R q y0 h]
theorem o118 (O : Oracle) (R : Jump) (q : Nat) : HoldsAll c118 O R q 0 (d118 O R q) := ⟨fun y0 h => e118_0 O R q y0 h, trivial⟩
end Go.Proofs.YtoaankpddboioaaGreatDoor.Ab
