/- Functions of the given program as the abstract interpreter has them (part 1), printed by a program of our own; each is shown to be what 'compF' makes of the given program's. No condition. -/
import Derived.Test.YtnlmlcfipbnpgaaGreatDoorTabI0
namespace Go.Proofs.YtnlmlcfipbnpgaaGreatDoor.Ab
open Go Go.AI
set_option linter.all false
set_option linter.unusedVariables false
set_option maxRecDepth 100000
/- sprue/data.Get -/
def c95 : MFunc := { np := 2, res := [.cell 4 true 6, .t 5], frz := true, body := (.seq (.reg [(oA 2 (.box (.t 0) false)), (oA 4 (.alloc [(.p (.int .i64 0)), (.p (.bool false)), (.p (.int .i64 0)), (.p (.str [])), (.p .nilslice), (.p .nilslice)] false)), (oA 5 (.mv (.k (.v (.c (.p (.bool false)))))))] []) (.seq (.reg [(oA 7 (.faddr 4 (.t 2))), (oA 8 (.load false 1 (.t 7))), (oA 9 (.mv (.t 1))), (oA 10 (.call (.k (.v (.c (.func 169 [])))) [(.t 8), (.t 9)])), (oA 6 (.mv (.t 10)))] []) (.seq (.seq (.reg [(oA 11 (.faddr 0 (.t 2))), (oA 12 (.load false 1 (.t 11))), (oA 13 (.bin .neq 0 (.t 12) (.k (.v (.c (.p (.int .i64 5))))))), (oA 14 (.mv (.t 13))), ⟨(some 15), (.mv (.t 6)), (some (14, false))⟩, ⟨(some 16), (.bin .lss 0 (.t 15) (.k (.v (.c (.p (.int .i64 0)))))), (some (14, false))⟩, (oA 17 (.pick (.t 14) (.k (.v (.c (.p (.bool true))))) (.t 16))), (oA 18 (.mv (.t 17))), ⟨(some 19), (.mv (.t 6)), (some (18, false))⟩, ⟨(some 20), (.faddr 5 (.t 2)), (some (18, false))⟩, ⟨(some 21), (.load false 1 (.t 20)), (some (18, false))⟩, ⟨(some 22), (.len 2 (.t 21)), (some (18, false))⟩, ⟨(some 23), (.bin .geq 0 (.t 19) (.t 22)), (some (18, false))⟩, (oA 24 (.pick (.t 18) (.k (.v (.c (.p (.bool true))))) (.t 23)))] []) (.cond (.t 24) (.seq (.reg [(oA 25 (.build [(.p (.int .i64 0)), (.p (.bool false)), (.p (.int .i64 0)), (.p (.str [])), (.p .nilslice), (.p .nilslice)] [])), (oN (.store 6 (.t 4) (.t 25))), (oA 5 (.mv (.k (.v (.c (.p (.bool false)))))))] []) .ret) .skip)) (.seq (.reg [(oA 26 (.faddr 5 (.t 2))), (oA 27 (.load false 1 (.t 26))), (oA 28 (.mv (.t 6))), (oA 29 (.iaddr 6 (.t 27) (.t 28))), (oA 30 (.load true 6 (.t 29))), (oA 31 (.call (.k (.v (.c (.func 170 [])))) [(.t 30)])), (oN (.store 6 (.t 4) (.t 31))), (oA 5 (.mv (.k (.v (.c (.p (.bool true)))))))] []) .ret)))) }
theorem t95 : compF Tryz.prog (globs2 tabs opq) (fun _ => false) true Tryz.f95 = some c95.erase := by kernel_rfl
noncomputable def b95_0 (O : Oracle) (R : Jump) (q : Nat) (x0 x1 : TVal) (h : Heap) : Res1 :=
 vop O (.box (.k x0) false) h 2 fun x2 h =>
 vop O (.alloc [(.p (.int .i64 0)), (.p (.bool false)), (.p (.int .i64 0)), (.p (.str [])), (.p .nilslice), (.p .nilslice)] false) h 4 fun x4 h =>
 vfaddr 4 x2 h fun x7 h =>
 vload false 1 x7 h fun x8 h =>
 vcall O (.v (.c (.func 169 []))) [x8, x1] h 10 fun x10 h =>
 vfaddr 0 x2 h fun x11 h =>
 vload false 1 x11 h fun x12 h =>
 vbin .neq 0 x12 (kI 5) h fun x13 h =>
 vguard x13 false (fun kk => kk x10 h) h fun x15 h =>
 vguard x13 false (fun kk => vbin .lss 0 x15 (kI 0) h kk) h fun x16 h =>
 vop O (.pick (.k x13) (.k (kB true)) (.k x16)) h 17 fun x17 h =>
 vguard x17 false (fun kk => kk x10 h) h fun x19 h =>
 vguard x17 false (fun kk => vfaddr 5 x2 h kk) h fun x20 h =>
 vguard x17 false (fun kk => vload false 1 x20 h kk) h fun x21 h =>
 vguard x17 false (fun kk => vlen O 2 x21 h 22 kk) h fun x22 h =>
 vguard x17 false (fun kk => vbin .geq 0 x19 x22 h kk) h fun x23 h =>
 vop O (.pick (.k x17) (.k (kB true)) (.k x23)) h 24 fun x24 h =>
 vif x24 (
 vop O (.build [(.p (.int .i64 0)), (.p (.bool false)), (.p (.int .i64 0)), (.p (.str [])), (.p .nilslice), (.p .nilslice)] []) h 25 fun x25 h =>
 vstore 6 x4 x25 h fun _ h =>
 vcell true 6 x4 h fun c0 => tcomp (kB false) fun c1 => vfin true q [c0, c1] h)
 (vfaddr 5 x2 h fun x26 h =>
 vload false 1 x26 h fun x27 h =>
 viaddr 6 x27 x10 h fun x29 h =>
 vload true 6 x29 h fun x30 h =>
 vcall O (.v (.c (.func 170 []))) [x30] h 31 fun x31 h =>
 vstore 6 x4 x31 h fun _ h =>
 vcell true 6 x4 h fun c0 => tcomp (kB true) fun c1 => vfin true q [c0, c1] h)
theorem e95_0 (O : Oracle) (R : Jump) (q : Nat) (x0 x1 : TVal) (h : Heap) : b95_0 O R q x0 x1 h = stepF c95 O R q 0 [x0, x1] h := by kernel_rfl
noncomputable def d95 : BlkF := fun O R q => [.s fun y0 => .s fun y1 => .z fun h => b95_0 O R q y0 y1 h]
theorem o95 (O : Oracle) (R : Jump) (q : Nat) : HoldsAll c95 O R q 0 (d95 O R q) := ⟨fun y0 y1 h => e95_0 O R q y0 y1 h, trivial⟩
/- sprue/calls.truth -/
def c96 : MFunc := { np := 1, res := [.cell 2 true 6], frz := true, body := (.seq (.reg [(oA 2 (.alloc [(.p (.int .i64 0)), (.p (.bool false)), (.p (.int .i64 0)), (.p (.str [])), (.p .nilslice), (.p .nilslice)] false))] []) (.seq (.reg [(oA 3 (.mv (.t 0))), (oA 4 (.build [(.p (.int .i64 0)), (.p (.bool false)), (.p (.int .i64 0)), (.p (.str [])), (.p .nilslice), (.p .nilslice)] [(0, 1, (.k (.v (.c (.p (.int .i64 1)))))), (1, 1, (.t 3))])), (oN (.store 6 (.t 2) (.t 4)))] []) .ret)) }
theorem t96 : compF Tryz.prog (globs2 tabs opq) (fun _ => false) true Tryz.f96 = some c96.erase := by kernel_rfl
noncomputable def b96_0 (O : Oracle) (R : Jump) (q : Nat) (x0 : TVal) (h : Heap) : Res1 :=
 vop O (.alloc [(.p (.int .i64 0)), (.p (.bool false)), (.p (.int .i64 0)), (.p (.str [])), (.p .nilslice), (.p .nilslice)] false) h 2 fun x2 h =>
 vop O (.build [(.p (.int .i64 0)), (.p (.bool false)), (.p (.int .i64 0)), (.p (.str [])), (.p .nilslice), (.p .nilslice)] [(0, 1, (.k (kI 1))), (1, 1, (.k x0))]) h 4 fun x4 h =>
 vstore 6 x2 x4 h fun _ h =>
 vcell true 6 x2 h fun c0 => vfin true q [c0] h
theorem e96_0 (O : Oracle) (R : Jump) (q : Nat) (x0 : TVal) (h : Heap) : b96_0 O R q x0 h = stepF c96 O R q 0 [x0] h := by kernel_rfl
noncomputable def d96 : BlkF := fun O R q => [.s fun y0 => .z fun h => b96_0 O R q y0 h]
theorem o96 (O : Oracle) (R : Jump) (q : Nat) : HoldsAll c96 O R q 0 (d96 O R q) := ⟨fun y0 h => e96_0 O R q y0 h, trivial⟩
/- sprue/calls.numbers -/
def c97 : MFunc := { np := 2, res := [.cell 4 true 6, .t 5], frz := true, body := (.seq (.reg [(oA 4 (.alloc [(.p (.int .i64 0)), (.p (.bool false)), (.p (.int .i64 0)), (.p (.str [])), (.p .nilslice), (.p .nilslice)] false)), (oA 5 (.mv (.k (.v (.c (.p (.int .i64 0)))))))] []) (.seq (.seq (.reg [(oA 6 (.mv (.t 1))), (oA 7 (.call (.k (.v (.c (.func 164 [])))) [(.t 6), (.k (.v (.c (.func 171 []))))]))] []) (.cond (.t 7) (.seq (.reg [(oA 8 (.build [(.p (.int .i64 0)), (.p (.bool false)), (.p (.int .i64 0)), (.p (.str [])), (.p .nilslice), (.p .nilslice)] [])), (oN (.store 6 (.t 4) (.t 8))), (oA 5 (.mv (.k (.v (.c (.p (.int .i64 17)))))))] []) .ret) .skip)) (.seq (.block 0 (.seq (.reg [(oA 10 (.mv (.t 1))), (oA 11 (.len 2 (.t 10))), (oA 12 (.bin .eql 0 (.t 11) (.k (.v (.c (.p (.int .i64 1))))))), (oA 9 (.mv (.t 12)))] []) (.cond (.t 9) (.seq (.reg [(oA 13 (.mv (.t 0))), (oA 14 (.mv (.t 1))), (oA 15 (.iaddr 6 (.t 14) (.k (.v (.c (.p (.int .i64 0))))))), (oA 16 (.faddr 2 (.t 15))), (oA 17 (.load false 1 (.t 16))), (oA 18 (.call (.k (.v (.c (.func 172 [])))) [(.t 13), (.t 17)])), (oA 19 (.call (.k (.v (.c (.func 163 [])))) [(.t 18)])), (oN (.store 6 (.t 4) (.t 19))), (oA 5 (.mv (.k (.v (.c (.p (.int .i64 0)))))))] []) .ret) (.seq (.reg [(oA 21 (.mv (.t 0))), (oA 22 (.bin .eql 0 (.t 21) (.k (.v (.c (.p (.str [108, 116]))))))), (oA 20 (.mv (.t 22)))] []) (.cond (.t 20) (.seq (.reg [(oA 23 (.mv (.t 1))), (oA 24 (.iaddr 6 (.t 23) (.k (.v (.c (.p (.int .i64 0))))))), (oA 25 (.faddr 2 (.t 24))), (oA 26 (.load false 1 (.t 25))), (oA 27 (.mv (.t 1))), (oA 28 (.iaddr 6 (.t 27) (.k (.v (.c (.p (.int .i64 1))))))), (oA 29 (.faddr 2 (.t 28))), (oA 30 (.load false 1 (.t 29))), (oA 31 (.bin .lss 0 (.t 26) (.t 30))), (oA 32 (.call (.k (.v (.c (.func 96 [])))) [(.t 31)])), (oN (.store 6 (.t 4) (.t 32))), (oA 5 (.mv (.k (.v (.c (.p (.int .i64 0)))))))] []) .ret) .skip))))) (.seq (.reg [(oA 33 (.mv (.t 0))), (oA 34 (.mv (.t 1))), (oA 35 (.iaddr 6 (.t 34) (.k (.v (.c (.p (.int .i64 0))))))), (oA 36 (.faddr 2 (.t 35))), (oA 37 (.load false 1 (.t 36))), (oA 38 (.mv (.t 1))), (oA 39 (.iaddr 6 (.t 38) (.k (.v (.c (.p (.int .i64 1))))))), (oA 40 (.faddr 2 (.t 39))), (oA 41 (.load false 1 (.t 40))), (oA 42 (.call (.k (.v (.c (.func 173 [])))) [(.t 33), (.t 37), (.t 41)])), (oA 43 (.call (.k (.v (.c (.func 163 [])))) [(.t 42)])), (oN (.store 6 (.t 4) (.t 43))), (oA 5 (.mv (.k (.v (.c (.p (.int .i64 0)))))))] []) .ret)))) }
theorem t97 : compF Tryz.prog (globs2 tabs opq) (fun _ => false) true Tryz.f97 = some c97.erase := by kernel_rfl
noncomputable def b97_0 (O : Oracle) (R : Jump) (q : Nat) (x0 x1 : TVal) (h : Heap) : Res1 :=
 vop O (.alloc [(.p (.int .i64 0)), (.p (.bool false)), (.p (.int .i64 0)), (.p (.str [])), (.p .nilslice), (.p .nilslice)] false) h 4 fun x4 h =>
 vcall O (.v (.c (.func 164 []))) [x1, (.v (.c (.func 171 [])))] h 7 fun x7 h =>
 vif x7 (
 vop O (.build [(.p (.int .i64 0)), (.p (.bool false)), (.p (.int .i64 0)), (.p (.str [])), (.p .nilslice), (.p .nilslice)] []) h 8 fun x8 h =>
 vstore 6 x4 x8 h fun _ h =>
 vcell true 6 x4 h fun c0 => tcomp (kI 17) fun c1 => vfin true q [c0, c1] h)
 (vlen O 2 x1 h 11 fun x11 h =>
 vbin .eql 0 x11 (kI 1) h fun x12 h =>
 vif x12 (
 viaddr 6 x1 (kI 0) h fun x15 h =>
 vfaddr 2 x15 h fun x16 h =>
 vload false 1 x16 h fun x17 h =>
 vcall O (.v (.c (.func 172 []))) [x0, x17] h 18 fun x18 h =>
 vcall O (.v (.c (.func 163 []))) [x18] h 19 fun x19 h =>
 vstore 6 x4 x19 h fun _ h =>
 vcell true 6 x4 h fun c0 => tcomp (kI 0) fun c1 => vfin true q [c0, c1] h)
 (vbin .eql 0 x0 (kS [108, 116]) h fun x22 h =>
 vif x22 (
 viaddr 6 x1 (kI 0) h fun x24 h =>
 vfaddr 2 x24 h fun x25 h =>
 vload false 1 x25 h fun x26 h =>
 viaddr 6 x1 (kI 1) h fun x28 h =>
 vfaddr 2 x28 h fun x29 h =>
 vload false 1 x29 h fun x30 h =>
 vbin .lss 0 x26 x30 h fun x31 h =>
 vcall O (.v (.c (.func 96 []))) [x31] h 32 fun x32 h =>
 vstore 6 x4 x32 h fun _ h =>
 vcell true 6 x4 h fun c0 => tcomp (kI 0) fun c1 => vfin true q [c0, c1] h)
 (viaddr 6 x1 (kI 0) h fun x35 h =>
 vfaddr 2 x35 h fun x36 h =>
 vload false 1 x36 h fun x37 h =>
 viaddr 6 x1 (kI 1) h fun x39 h =>
 vfaddr 2 x39 h fun x40 h =>
 vload false 1 x40 h fun x41 h =>
 vcall O (.v (.c (.func 173 []))) [x0, x37, x41] h 42 fun x42 h =>
 vcall O (.v (.c (.func 163 []))) [x42] h 43 fun x43 h =>
 vstore 6 x4 x43 h fun _ h =>
 vcell true 6 x4 h fun c0 => tcomp (kI 0) fun c1 => vfin true q [c0, c1] h)))
theorem e97_0 (O : Oracle) (R : Jump) (q : Nat) (x0 x1 : TVal) (h : Heap) : b97_0 O R q x0 x1 h = stepF c97 O R q 0 [x0, x1] h := by kernel_rfl
noncomputable def d97 : BlkF := fun O R q => [.s fun y0 => .s fun y1 => .z fun h => b97_0 O R q y0 y1 h]
theorem o97 (O : Oracle) (R : Jump) (q : Nat) : HoldsAll c97 O R q 0 (d97 O R q) := ⟨fun y0 y1 h => e97_0 O R q y0 y1 h, trivial⟩
/- sprue/sprueref1.blank -/
def c116 : MFunc := { np := 1, res := [.t 2], frz := true, body := (.seq (.reg [(oA 2 (.mv (.k (.v (.c (.p (.bool false)))))))] []) (.seq (.reg [(oA 3 (.mv (.t 0))), (oA 4 (.bin .eql 0 (.t 3) (.k (.v (.c (.p (.int .u8 32))))))), (oA 5 (.mv (.t 4))), ⟨(some 6), (.mv (.t 0)), (some (5, false))⟩, ⟨(some 7), (.bin .eql 0 (.t 6) (.k (.v (.c (.p (.int .u8 9)))))), (some (5, false))⟩, (oA 8 (.pick (.t 5) (.k (.v (.c (.p (.bool true))))) (.t 7))), (oA 9 (.mv (.t 8))), ⟨(some 10), (.mv (.t 0)), (some (9, false))⟩, ⟨(some 11), (.bin .eql 0 (.t 10) (.k (.v (.c (.p (.int .u8 10)))))), (some (9, false))⟩, (oA 12 (.pick (.t 9) (.k (.v (.c (.p (.bool true))))) (.t 11))), (oA 13 (.mv (.t 12))), ⟨(some 14), (.mv (.t 0)), (some (13, false))⟩, ⟨(some 15), (.bin .eql 0 (.t 14) (.k (.v (.c (.p (.int .u8 13)))))), (some (13, false))⟩, (oA 16 (.pick (.t 13) (.k (.v (.c (.p (.bool true))))) (.t 15))), (oA 2 (.mv (.t 16)))] []) .ret)) }
theorem t116 : compF Tryz.prog (globs2 tabs opq) (fun _ => false) true Tryz.f116 = some c116.erase := by kernel_rfl
noncomputable def b116_0 (O : Oracle) (R : Jump) (q : Nat) (x0 : TVal) (h : Heap) : Res1 :=
 vbin .eql 0 x0 (.v (.c (.p (.int .u8 32)))) h fun x4 h =>
 vguard x4 false (fun kk => kk x0 h) h fun x6 h =>
 vguard x4 false (fun kk => vbin .eql 0 x6 (.v (.c (.p (.int .u8 9)))) h kk) h fun x7 h =>
 vop O (.pick (.k x4) (.k (kB true)) (.k x7)) h 8 fun x8 h =>
 vguard x8 false (fun kk => kk x0 h) h fun x10 h =>
 vguard x8 false (fun kk => vbin .eql 0 x10 (.v (.c (.p (.int .u8 10)))) h kk) h fun x11 h =>
 vop O (.pick (.k x8) (.k (kB true)) (.k x11)) h 12 fun x12 h =>
 vguard x12 false (fun kk => kk x0 h) h fun x14 h =>
 vguard x12 false (fun kk => vbin .eql 0 x14 (.v (.c (.p (.int .u8 13)))) h kk) h fun x15 h =>
 vop O (.pick (.k x12) (.k (kB true)) (.k x15)) h 16 fun x16 h =>
 tcomp x16 fun c0 => vfin true q [c0] h
theorem e116_0 (O : Oracle) (R : Jump) (q : Nat) (x0 : TVal) (h : Heap) : b116_0 O R q x0 h = stepF c116 O R q 0 [x0] h := by kernel_rfl
noncomputable def d116 : BlkF := fun O R q => [.s fun y0 => .z fun h => b116_0 O R q y0 h]
theorem o116 (O : Oracle) (R : Jump) (q : Nat) : HoldsAll c116 O R q 0 (d116 O R q) := ⟨fun y0 h => e116_0 O R q y0 h, trivial⟩
/- sprue/sprueref1.next -/
def c117 : MFunc := { np := 2, res := [.cell 4 true 4, .t 5, .t 6], frz := true, body := (.seq (.reg [(oA 4 (.alloc [(.p (.int .i64 0)), (.p (.str [])), (.p (.int .i64 0)), (.p (.int .i64 0))] false)), (oA 5 (.mv (.k (.v (.c (.p (.int .i64 0))))))), (oA 6 (.mv (.k (.v (.c (.p (.int .i64 0)))))))] []) (.seq (.reg [(oA 14 (.mv (.t 1))), (oA 7 (.mv (.t 14)))] []) (.seq (.block 0 (.seq (.reg [(oA 16 (.mv (.t 0))), (oA 17 (.mv (.t 1))), (oA 18 (.index (.t 16) (.t 17))), (oA 19 (.call (.k (.v (.c (.func 184 [])))) [(.t 18)])), (oA 15 (.mv (.t 19)))] []) (.cond (.t 15) (.seq (.block 1 (.loop 1 [0, 1, 4, 7] (.seq (.seq (.reg [(oA 20 (.mv (.t 7))), (oA 21 (.mv (.t 0))), (oA 22 (.len 0 (.t 21))), (oA 23 (.bin .lss 0 (.t 20) (.t 22))), (oA 24 (.mv (.t 23))), ⟨(some 25), (.mv (.t 0)), (some (24, true))⟩, ⟨(some 26), (.mv (.t 7)), (some (24, true))⟩, ⟨(some 27), (.index (.t 25) (.t 26)), (some (24, true))⟩, ⟨(some 28), (.call (.k (.v (.c (.func 184 [])))) [(.t 27)]), (some (24, true))⟩, ⟨(some 29), (.mv (.t 28)), (some (24, true))⟩, ⟨(some 30), (.mv (.t 0)), (some (29, false))⟩, ⟨(some 31), (.mv (.t 7)), (some (29, false))⟩, ⟨(some 32), (.index (.t 30) (.t 31)), (some (29, false))⟩, ⟨(some 33), (.call (.k (.v (.c (.func 185 [])))) [(.t 32)]), (some (29, false))⟩, ⟨(some 34), (.pick (.t 29) (.k (.v (.c (.p (.bool true))))) (.t 33)), (some (24, true))⟩, (oA 35 (.pick (.t 24) (.t 34) (.k (.v (.c (.p (.bool false)))))))] []) (.cond (.t 35) .skip (.exit 1))) (.block 2 (.reg [(oA 36 (.mv (.t 7))), (oA 37 (.bin .add 0 (.t 36) (.k (.v (.c (.p (.int .i64 1))))))), (oA 7 (.mv (.t 37)))] []))))) (.mark 2 [0, 1, 4, 7] (.seq (.seq (.reg [(oA 38 (.mv (.t 7))), (oA 39 (.mv (.t 1))), (oA 40 (.bin .sub 0 (.t 38) (.t 39))), (oA 41 (.bin .gtr 0 (.t 40) (.k (.v (.c (.p (.int .i64 16)))))))] []) (.cond (.t 41) (.seq (.reg [(oA 42 (.build [(.p (.int .i64 0)), (.p (.str [])), (.p (.int .i64 0)), (.p (.int .i64 0))] [])), (oN (.store 4 (.t 4) (.t 42))), (oA 5 (.mv (.k (.v (.c (.p (.int .i64 0))))))), (oA 6 (.mv (.k (.v (.c (.p (.int .i64 4)))))))] []) .ret) .skip)) (.seq (.reg [(oA 43 (.mv (.t 0))), (oA 44 (.mv (.t 1))), (oA 45 (.mv (.t 7))), (oA 46 (.slice 0 true (.t 43) (some (.t 44)) (some (.t 45)) none)), (oA 47 (.mv (.t 1))), (oA 48 (.build [(.p (.int .i64 0)), (.p (.str [])), (.p (.int .i64 0)), (.p (.int .i64 0))] [(0, 1, (.k (.v (.c (.p (.int .i64 1)))))), (1, 1, (.t 46)), (3, 1, (.t 47))])), (oA 49 (.mv (.t 7))), (oN (.store 4 (.t 4) (.t 48))), (oA 5 (.mv (.t 49))), (oA 6 (.mv (.k (.v (.c (.p (.int .i64 0)))))))] []) .ret)))) (.seq (.reg [(oA 51 (.mv (.t 0))), (oA 52 (.mv (.t 1))), (oA 53 (.index (.t 51) (.t 52))), (oA 54 (.call (.k (.v (.c (.func 185 [])))) [(.t 53)])), (oA 55 (.mv (.t 54))), ⟨(some 56), (.mv (.t 0)), (some (55, false))⟩, ⟨(some 57), (.mv (.t 1)), (some (55, false))⟩, ⟨(some 58), (.index (.t 56) (.t 57)), (some (55, false))⟩, ⟨(some 59), (.bin .eql 0 (.t 58) (.k (.v (.c (.p (.int .u8 45)))))), (some (55, false))⟩, ⟨(some 60), (.mv (.t 59)), (some (55, false))⟩, ⟨(some 61), (.mv (.t 1)), (some (60, true))⟩, ⟨(some 62), (.bin .add 0 (.t 61) (.k (.v (.c (.p (.int .i64 1)))))), (some (60, true))⟩, ⟨(some 63), (.mv (.t 0)), (some (60, true))⟩, ⟨(some 64), (.len 0 (.t 63)), (some (60, true))⟩, ⟨(some 65), (.bin .lss 0 (.t 62) (.t 64)), (some (60, true))⟩, ⟨(some 66), (.pick (.t 60) (.t 65) (.k (.v (.c (.p (.bool false)))))), (some (55, false))⟩, ⟨(some 67), (.mv (.t 66)), (some (55, false))⟩, ⟨(some 68), (.mv (.t 0)), (some (67, true))⟩, ⟨(some 69), (.mv (.t 1)), (some (67, true))⟩, ⟨(some 70), (.bin .add 0 (.t 69) (.k (.v (.c (.p (.int .i64 1)))))), (some (67, true))⟩, ⟨(some 71), (.index (.t 68) (.t 70)), (some (67, true))⟩, ⟨(some 72), (.call (.k (.v (.c (.func 185 [])))) [(.t 71)]), (some (67, true))⟩, ⟨(some 73), (.pick (.t 67) (.t 72) (.k (.v (.c (.p (.bool false)))))), (some (55, false))⟩, (oA 74 (.pick (.t 55) (.k (.v (.c (.p (.bool true))))) (.t 73))), (oA 50 (.mv (.t 74)))] []) (.cond (.t 50) (.seq (.reg [(oA 75 (.mv (.t 7))), (oA 76 (.bin .add 0 (.t 75) (.k (.v (.c (.p (.int .i64 1))))))), (oA 7 (.mv (.t 76)))] []) (.seq (.block 3 (.loop 3 [0, 1, 4, 7] (.seq (.seq (.reg [(oA 77 (.mv (.t 7))), (oA 78 (.mv (.t 0))), (oA 79 (.len 0 (.t 78))), (oA 80 (.bin .lss 0 (.t 77) (.t 79))), (oA 81 (.mv (.t 80))), ⟨(some 82), (.mv (.t 0)), (some (81, true))⟩, ⟨(some 83), (.mv (.t 7)), (some (81, true))⟩, ⟨(some 84), (.index (.t 82) (.t 83)), (some (81, true))⟩, ⟨(some 85), (.call (.k (.v (.c (.func 185 [])))) [(.t 84)]), (some (81, true))⟩, (oA 86 (.pick (.t 81) (.t 85) (.k (.v (.c (.p (.bool false)))))))] []) (.cond (.t 86) .skip (.exit 3))) (.block 4 (.reg [(oA 87 (.mv (.t 7))), (oA 88 (.bin .add 0 (.t 87) (.k (.v (.c (.p (.int .i64 1))))))), (oA 7 (.mv (.t 88)))] []))))) (.mark 4 [0, 1, 4, 7] (.seq (.reg [(oA 90 (.mv (.t 0))), (oA 91 (.mv (.t 1))), (oA 92 (.mv (.t 7))), (oA 93 (.slice 0 true (.t 90) (some (.t 91)) (some (.t 92)) none)), (oA 94 (.call (.k (.v (.c (.func 186 [])))) [(.t 93)])), (oA 89 (.mv (.t 94))), (oA 95 (.extract (.t 89) 0)), (oA 96 (.extract (.t 89) 1)), (oA 8 (.mv (.t 95))), (oA 9 (.mv (.t 96)))] []) (.seq (.reg [(oA 97 (.mv (.t 8))), (oA 98 (.mv (.t 1))), (oA 99 (.build [(.p (.int .i64 0)), (.p (.str [])), (.p (.int .i64 0)), (.p (.int .i64 0))] [(0, 1, (.k (.v (.c (.p (.int .i64 3)))))), (2, 1, (.t 97)), (3, 1, (.t 98))])), (oA 100 (.mv (.t 7))), (oA 101 (.mv (.t 9))), (oN (.store 4 (.t 4) (.t 99))), (oA 5 (.mv (.t 100))), (oA 6 (.mv (.t 101)))] []) .ret))))) (.seq (.reg [(oA 103 (.mv (.t 0))), (oA 104 (.mv (.t 1))), (oA 105 (.index (.t 103) (.t 104))), (oA 106 (.bin .eql 0 (.t 105) (.k (.v (.c (.p (.int .u8 34))))))), (oA 102 (.mv (.t 106)))] []) (.cond (.t 102) (.seq (.reg [(oA 108 (.mv (.t 0))), (oA 109 (.mv (.t 1))), (oA 110 (.call (.k (.v (.c (.func 187 [])))) [(.t 108), (.t 109)])), (oA 107 (.mv (.t 110))), (oA 111 (.extract (.t 107) 0)), (oA 112 (.extract (.t 107) 1)), (oA 10 (.mv (.t 111))), (oA 11 (.mv (.t 112)))] []) (.seq (.seq (.reg [(oA 113 (.mv (.t 11))), (oA 114 (.bin .lss 0 (.t 113) (.k (.v (.c (.p (.int .i64 0)))))))] []) (.cond (.t 114) (.seq (.reg [(oA 115 (.build [(.p (.int .i64 0)), (.p (.str [])), (.p (.int .i64 0)), (.p (.int .i64 0))] [])), (oN (.store 4 (.t 4) (.t 115))), (oA 5 (.mv (.k (.v (.c (.p (.int .i64 0))))))), (oA 6 (.mv (.k (.v (.c (.p (.int .i64 11)))))))] []) .ret) .skip)) (.seq (.seq (.reg [(oA 116 (.mv (.t 10))), (oA 117 (.len 0 (.t 116))), (oA 118 (.bin .gtr 0 (.t 117) (.k (.v (.c (.p (.int .i64 200)))))))] []) (.cond (.t 118) (.seq (.reg [(oA 119 (.build [(.p (.int .i64 0)), (.p (.str [])), (.p (.int .i64 0)), (.p (.int .i64 0))] [])), (oN (.store 4 (.t 4) (.t 119))), (oA 5 (.mv (.k (.v (.c (.p (.int .i64 0))))))), (oA 6 (.mv (.k (.v (.c (.p (.int .i64 4)))))))] []) .ret) .skip)) (.seq (.reg [(oA 120 (.mv (.t 10))), (oA 121 (.mv (.t 1))), (oA 122 (.build [(.p (.int .i64 0)), (.p (.str [])), (.p (.int .i64 0)), (.p (.int .i64 0))] [(0, 1, (.k (.v (.c (.p (.int .i64 2)))))), (1, 1, (.t 120)), (3, 1, (.t 121))])), (oA 123 (.mv (.t 11))), (oN (.store 4 (.t 4) (.t 122))), (oA 5 (.mv (.t 123))), (oA 6 (.mv (.k (.v (.c (.p (.int .i64 0)))))))] []) .ret)))) .skip))))))) (.mark 5 [0, 1, 4] (.seq (.seq (.reg [(oA 124 (.mv (.t 1))), (oA 125 (.bin .add 0 (.t 124) (.k (.v (.c (.p (.int .i64 2))))))), (oA 126 (.mv (.t 0))), (oA 127 (.len 0 (.t 126))), (oA 128 (.bin .leq 0 (.t 125) (.t 127))), (oA 129 (.mv (.t 128))), ⟨(some 130), (.mv (.t 0)), (some (129, true))⟩, ⟨(some 131), (.mv (.t 1)), (some (129, true))⟩, ⟨(some 132), (.mv (.t 1)), (some (129, true))⟩, ⟨(some 133), (.bin .add 0 (.t 132) (.k (.v (.c (.p (.int .i64 2)))))), (some (129, true))⟩, ⟨(some 134), (.slice 0 true (.t 130) (some (.t 131)) (some (.t 133)) none), (some (129, true))⟩, ⟨(some 135), (.bin .eql 0 (.t 134) (.k (.v (.c (.p (.str [45, 62])))))), (some (129, true))⟩, ⟨(some 136), (.mv (.t 135)), (some (129, true))⟩, ⟨(some 137), (.mv (.t 0)), (some (136, false))⟩, ⟨(some 138), (.mv (.t 1)), (some (136, false))⟩, ⟨(some 139), (.mv (.t 1)), (some (136, false))⟩, ⟨(some 140), (.bin .add 0 (.t 139) (.k (.v (.c (.p (.int .i64 2)))))), (some (136, false))⟩, ⟨(some 141), (.slice 0 true (.t 137) (some (.t 138)) (some (.t 140)) none), (some (136, false))⟩, ⟨(some 142), (.bin .eql 0 (.t 141) (.k (.v (.c (.p (.str [58, 61])))))), (some (136, false))⟩, ⟨(some 143), (.pick (.t 136) (.k (.v (.c (.p (.bool true))))) (.t 142)), (some (129, true))⟩, (oA 144 (.pick (.t 129) (.t 143) (.k (.v (.c (.p (.bool false)))))))] []) (.cond (.t 144) (.seq (.reg [(oA 145 (.mv (.t 0))), (oA 146 (.mv (.t 1))), (oA 147 (.mv (.t 1))), (oA 148 (.bin .add 0 (.t 147) (.k (.v (.c (.p (.int .i64 2))))))), (oA 149 (.slice 0 true (.t 145) (some (.t 146)) (some (.t 148)) none)), (oA 150 (.mv (.t 1))), (oA 151 (.build [(.p (.int .i64 0)), (.p (.str [])), (.p (.int .i64 0)), (.p (.int .i64 0))] [(0, 1, (.k (.v (.c (.p (.int .i64 4)))))), (1, 1, (.t 149)), (3, 1, (.t 150))])), (oA 152 (.mv (.t 1))), (oA 153 (.bin .add 0 (.t 152) (.k (.v (.c (.p (.int .i64 2))))))), (oN (.store 4 (.t 4) (.t 151))), (oA 5 (.mv (.t 153))), (oA 6 (.mv (.k (.v (.c (.p (.int .i64 0)))))))] []) .ret) .skip)) (.seq (.reg [(oA 12 (.mv (.k (.v (.c (.p (.str [123, 125, 60, 62, 44, 58, 40, 41, 46, 36, 124, 61, 59])))))))] []) (.seq (.seq (.reg [(oA 13 (.mv (.k (.v (.c (.p (.int .i64 0)))))))] []) (.block 5 (.loop 6 [0, 1, 4, 12, 13] (.seq (.seq (.reg [(oA 154 (.mv (.t 13))), (oA 155 (.mv (.t 12))), (oA 156 (.len 0 (.t 155))), (oA 157 (.bin .lss 0 (.t 154) (.t 156)))] []) (.cond (.t 157) .skip (.exit 5))) (.seq (.block 6 (.seq (.reg [(oA 160 (.mv (.t 12))), (oA 161 (.mv (.t 13))), (oA 162 (.index (.t 160) (.t 161))), (oA 163 (.mv (.t 0))), (oA 164 (.mv (.t 1))), (oA 165 (.index (.t 163) (.t 164))), (oA 166 (.bin .eql 0 (.t 162) (.t 165)))] []) (.cond (.t 166) (.seq (.reg [(oA 167 (.mv (.t 0))), (oA 168 (.mv (.t 1))), (oA 169 (.mv (.t 1))), (oA 170 (.bin .add 0 (.t 169) (.k (.v (.c (.p (.int .i64 1))))))), (oA 171 (.slice 0 true (.t 167) (some (.t 168)) (some (.t 170)) none)), (oA 172 (.mv (.t 1))), (oA 173 (.build [(.p (.int .i64 0)), (.p (.str [])), (.p (.int .i64 0)), (.p (.int .i64 0))] [(0, 1, (.k (.v (.c (.p (.int .i64 4)))))), (1, 1, (.t 171)), (3, 1, (.t 172))])), (oA 174 (.mv (.t 1))), (oA 175 (.bin .add 0 (.t 174) (.k (.v (.c (.p (.int .i64 1))))))), (oN (.store 4 (.t 4) (.t 173))), (oA 5 (.mv (.t 175))), (oA 6 (.mv (.k (.v (.c (.p (.int .i64 0)))))))] []) .ret) .skip))) (.reg [(oA 158 (.mv (.t 13))), (oA 159 (.bin .add 0 (.t 158) (.k (.v (.c (.p (.int .i64 1))))))), (oA 13 (.mv (.t 159)))] [])))))) (.mark 7 [4] (.seq (.reg [(oA 176 (.build [(.p (.int .i64 0)), (.p (.str [])), (.p (.int .i64 0)), (.p (.int .i64 0))] [])), (oN (.store 4 (.t 4) (.t 176))), (oA 5 (.mv (.k (.v (.c (.p (.int .i64 0))))))), (oA 6 (.mv (.k (.v (.c (.p (.int .i64 11)))))))] []) .ret))))))))) }
theorem t117 : compF Tryz.prog (globs2 tabs opq) (fun _ => false) true Tryz.f117 = some c117.erase := by kernel_rfl
noncomputable def b117_0 (O : Oracle) (R : Jump) (q : Nat) (x0 x1 : TVal) (h : Heap) : Res1 :=
 vop O (.alloc [(.p (.int .i64 0)), (.p (.str [])), (.p (.int .i64 0)), (.p (.int .i64 0))] false) h 4 fun x4 h =>
 vindex x0 x1 h fun x18 h =>
 vcall O (.v (.c (.func 184 []))) [x18] h 19 fun x19 h =>
 vif x19 (
 R 1 [x0, x1, x4, x1] h)
 (vindex x0 x1 h fun x53 h =>
 vcall O (.v (.c (.func 185 []))) [x53] h 54 fun x54 h =>
 vguard x54 false (fun kk => kk x0 h) h fun x56 h =>
 vguard x54 false (fun kk => kk x1 h) h fun x57 h =>
 vguard x54 false (fun kk => vindex x56 x57 h kk) h fun x58 h =>
 vguard x54 false (fun kk => vbin .eql 0 x58 (.v (.c (.p (.int .u8 45)))) h kk) h fun x59 h =>
 vguard x54 false (fun kk => kk x59 h) h fun x60 h =>
 vguard x60 true (fun kk => kk x1 h) h fun x61 h =>
 vguard x60 true (fun kk => vbin .add 0 x61 (kI 1) h kk) h fun x62 h =>
 vguard x60 true (fun kk => kk x0 h) h fun x63 h =>
 vguard x60 true (fun kk => vlen O 0 x63 h 64 kk) h fun x64 h =>
 vguard x60 true (fun kk => vbin .lss 0 x62 x64 h kk) h fun x65 h =>
 vguard x54 false (fun kk => vop O (.pick (.k x60) (.k x65) (.k (kB false))) h 66 kk) h fun x66 h =>
 vguard x54 false (fun kk => kk x66 h) h fun x67 h =>
 vguard x67 true (fun kk => kk x0 h) h fun x68 h =>
 vguard x67 true (fun kk => kk x1 h) h fun x69 h =>
 vguard x67 true (fun kk => vbin .add 0 x69 (kI 1) h kk) h fun x70 h =>
 vguard x67 true (fun kk => vindex x68 x70 h kk) h fun x71 h =>
 vguard x67 true (fun kk => vcall O (.v (.c (.func 185 []))) [x71] h 72 kk) h fun x72 h =>
 vguard x54 false (fun kk => vop O (.pick (.k x67) (.k x72) (.k (kB false))) h 73 kk) h fun x73 h =>
 vop O (.pick (.k x54) (.k (kB true)) (.k x73)) h 74 fun x74 h =>
 vif x74 (
 vbin .add 0 x1 (kI 1) h fun x76 h =>
 R 3 [x0, x1, x4, x76] h)
 (vindex x0 x1 h fun x105 h =>
 vbin .eql 0 x105 (.v (.c (.p (.int .u8 34)))) h fun x106 h =>
 vif x106 (
 vcall O (.v (.c (.func 187 []))) [x0, x1] h 110 fun x110 h =>
 vext x110 0 h fun x111 h =>
 vext x110 1 h fun x112 h =>
 vbin .lss 0 x112 (kI 0) h fun x114 h =>
 vif x114 (
 vop O (.build [(.p (.int .i64 0)), (.p (.str [])), (.p (.int .i64 0)), (.p (.int .i64 0))] []) h 115 fun x115 h =>
 vstore 4 x4 x115 h fun _ h =>
 vcell true 4 x4 h fun c0 => tcomp (kI 0) fun c1 => tcomp (kI 11) fun c2 => vfin true q [c0, c1, c2] h)
 (vlen O 0 x111 h 117 fun x117 h =>
 vbin .gtr 0 x117 (kI 200) h fun x118 h =>
 vif x118 (
 vop O (.build [(.p (.int .i64 0)), (.p (.str [])), (.p (.int .i64 0)), (.p (.int .i64 0))] []) h 119 fun x119 h =>
 vstore 4 x4 x119 h fun _ h =>
 vcell true 4 x4 h fun c0 => tcomp (kI 0) fun c1 => tcomp (kI 4) fun c2 => vfin true q [c0, c1, c2] h)
 (vop O (.build [(.p (.int .i64 0)), (.p (.str [])), (.p (.int .i64 0)), (.p (.int .i64 0))] [(0, 1, (.k (kI 2))), (1, 1, (.k x111)), (3, 1, (.k x1))]) h 122 fun x122 h =>
 vstore 4 x4 x122 h fun _ h =>
 vcell true 4 x4 h fun c0 => tcomp x112 fun c1 => tcomp (kI 0) fun c2 => vfin true q [c0, c1, c2] h)))
 (R 5 [x0, x1, x4] h)))
theorem e117_0 (O : Oracle) (R : Jump) (q : Nat) (x0 x1 : TVal) (h : Heap) : b117_0 O R q x0 x1 h = stepF c117 O R q 0 [x0, x1] h := by kernel_rfl
noncomputable def b117_1 (O : Oracle) (R : Jump) (q : Nat) (x0 x1 x4 x7 : TVal) (h : Heap) : Res1 :=
 vlen O 0 x0 h 22 fun x22 h =>
 vbin .lss 0 x7 x22 h fun x23 h =>
 vguard x23 true (fun kk => kk x0 h) h fun x25 h =>
 vguard x23 true (fun kk => kk x7 h) h fun x26 h =>
 vguard x23 true (fun kk => vindex x25 x26 h kk) h fun x27 h =>
 vguard x23 true (fun kk => vcall O (.v (.c (.func 184 []))) [x27] h 28 kk) h fun x28 h =>
 vguard x23 true (fun kk => kk x28 h) h fun x29 h =>
 vguard x29 false (fun kk => kk x0 h) h fun x30 h =>
 vguard x29 false (fun kk => kk x7 h) h fun x31 h =>
 vguard x29 false (fun kk => vindex x30 x31 h kk) h fun x32 h =>
 vguard x29 false (fun kk => vcall O (.v (.c (.func 185 []))) [x32] h 33 kk) h fun x33 h =>
 vguard x23 true (fun kk => vop O (.pick (.k x29) (.k (kB true)) (.k x33)) h 34 kk) h fun x34 h =>
 vop O (.pick (.k x23) (.k x34) (.k (kB false))) h 35 fun x35 h =>
 vif x35 (
 vbin .add 0 x7 (kI 1) h fun x37 h =>
 R 1 [x0, x1, x4, x37] h)
 (R 2 [x0, x1, x4, x7] h)
theorem e117_1 (O : Oracle) (R : Jump) (q : Nat) (x0 x1 x4 x7 : TVal) (h : Heap) : b117_1 O R q x0 x1 x4 x7 h = stepF c117 O R q 1 [x0, x1, x4, x7] h := by kernel_rfl
noncomputable def b117_2 (O : Oracle) (R : Jump) (q : Nat) (x0 x1 x4 x7 : TVal) (h : Heap) : Res1 :=
 vbin .sub 0 x7 x1 h fun x40 h =>
 vbin .gtr 0 x40 (kI 16) h fun x41 h =>
 vif x41 (
 vop O (.build [(.p (.int .i64 0)), (.p (.str [])), (.p (.int .i64 0)), (.p (.int .i64 0))] []) h 42 fun x42 h =>
 vstore 4 x4 x42 h fun _ h =>
 vcell true 4 x4 h fun c0 => tcomp (kI 0) fun c1 => tcomp (kI 4) fun c2 => vfin true q [c0, c1, c2] h)
 (vop O (.slice 0 true (.k x0) (some (.k x1)) (some (.k x7)) none) h 46 fun x46 h =>
 vop O (.build [(.p (.int .i64 0)), (.p (.str [])), (.p (.int .i64 0)), (.p (.int .i64 0))] [(0, 1, (.k (kI 1))), (1, 1, (.k x46)), (3, 1, (.k x1))]) h 48 fun x48 h =>
 vstore 4 x4 x48 h fun _ h =>
 vcell true 4 x4 h fun c0 => tcomp x7 fun c1 => tcomp (kI 0) fun c2 => vfin true q [c0, c1, c2] h)
theorem e117_2 (O : Oracle) (R : Jump) (q : Nat) (x0 x1 x4 x7 : TVal) (h : Heap) : b117_2 O R q x0 x1 x4 x7 h = stepF c117 O R q 2 [x0, x1, x4, x7] h := by kernel_rfl
noncomputable def b117_3 (O : Oracle) (R : Jump) (q : Nat) (x0 x1 x4 x7 : TVal) (h : Heap) : Res1 :=
 vlen O 0 x0 h 79 fun x79 h =>
 vbin .lss 0 x7 x79 h fun x80 h =>
 vguard x80 true (fun kk => kk x0 h) h fun x82 h =>
 vguard x80 true (fun kk => kk x7 h) h fun x83 h =>
 vguard x80 true (fun kk => vindex x82 x83 h kk) h fun x84 h =>
 vguard x80 true (fun kk => vcall O (.v (.c (.func 185 []))) [x84] h 85 kk) h fun x85 h =>
 vop O (.pick (.k x80) (.k x85) (.k (kB false))) h 86 fun x86 h =>
 vif x86 (
 vbin .add 0 x7 (kI 1) h fun x88 h =>
 R 3 [x0, x1, x4, x88] h)
 (R 4 [x0, x1, x4, x7] h)
theorem e117_3 (O : Oracle) (R : Jump) (q : Nat) (x0 x1 x4 x7 : TVal) (h : Heap) : b117_3 O R q x0 x1 x4 x7 h = stepF c117 O R q 3 [x0, x1, x4, x7] h := by kernel_rfl
noncomputable def b117_4 (O : Oracle) (R : Jump) (q : Nat) (x0 x1 x4 x7 : TVal) (h : Heap) : Res1 :=
 vop O (.slice 0 true (.k x0) (some (.k x1)) (some (.k x7)) none) h 93 fun x93 h =>
 vcall O (.v (.c (.func 186 []))) [x93] h 94 fun x94 h =>
 vext x94 0 h fun x95 h =>
 vext x94 1 h fun x96 h =>
 vop O (.build [(.p (.int .i64 0)), (.p (.str [])), (.p (.int .i64 0)), (.p (.int .i64 0))] [(0, 1, (.k (kI 3))), (2, 1, (.k x95)), (3, 1, (.k x1))]) h 99 fun x99 h =>
 vstore 4 x4 x99 h fun _ h =>
 vcell true 4 x4 h fun c0 => tcomp x7 fun c1 => tcomp x96 fun c2 => vfin true q [c0, c1, c2] h
theorem e117_4 (O : Oracle) (R : Jump) (q : Nat) (x0 x1 x4 x7 : TVal) (h : Heap) : b117_4 O R q x0 x1 x4 x7 h = stepF c117 O R q 4 [x0, x1, x4, x7] h := by kernel_rfl
noncomputable def b117_5 (O : Oracle) (R : Jump) (q : Nat) (x0 x1 x4 : TVal) (h : Heap) : Res1 :=
 vbin .add 0 x1 (kI 2) h fun x125 h =>
 vlen O 0 x0 h 127 fun x127 h =>
 vbin .leq 0 x125 x127 h fun x128 h =>
 vguard x128 true (fun kk => kk x0 h) h fun x130 h =>
 vguard x128 true (fun kk => kk x1 h) h fun x131 h =>
 vguard x128 true (fun kk => kk x1 h) h fun x132 h =>
 vguard x128 true (fun kk => vbin .add 0 x132 (kI 2) h kk) h fun x133 h =>
 vguard x128 true (fun kk => vop O (.slice 0 true (.k x130) (some (.k x131)) (some (.k x133)) none) h 134 kk) h fun x134 h =>
 vguard x128 true (fun kk => vbin .eql 0 x134 (kS [45, 62]) h kk) h fun x135 h =>
 vguard x128 true (fun kk => kk x135 h) h fun x136 h =>
 vguard x136 false (fun kk => kk x0 h) h fun x137 h =>
 vguard x136 false (fun kk => kk x1 h) h fun x138 h =>
 vguard x136 false (fun kk => kk x1 h) h fun x139 h =>
 vguard x136 false (fun kk => vbin .add 0 x139 (kI 2) h kk) h fun x140 h =>
 vguard x136 false (fun kk => vop O (.slice 0 true (.k x137) (some (.k x138)) (some (.k x140)) none) h 141 kk) h fun x141 h =>
 vguard x136 false (fun kk => vbin .eql 0 x141 (kS [58, 61]) h kk) h fun x142 h =>
 vguard x128 true (fun kk => vop O (.pick (.k x136) (.k (kB true)) (.k x142)) h 143 kk) h fun x143 h =>
 vop O (.pick (.k x128) (.k x143) (.k (kB false))) h 144 fun x144 h =>
 vif x144 (
 vbin .add 0 x1 (kI 2) h fun x148 h =>
 vop O (.slice 0 true (.k x0) (some (.k x1)) (some (.k x148)) none) h 149 fun x149 h =>
 vop O (.build [(.p (.int .i64 0)), (.p (.str [])), (.p (.int .i64 0)), (.p (.int .i64 0))] [(0, 1, (.k (kI 4))), (1, 1, (.k x149)), (3, 1, (.k x1))]) h 151 fun x151 h =>
 vbin .add 0 x1 (kI 2) h fun x153 h =>
 vstore 4 x4 x151 h fun _ h =>
 vcell true 4 x4 h fun c0 => tcomp x153 fun c1 => tcomp (kI 0) fun c2 => vfin true q [c0, c1, c2] h)
 (R 6 [x0, x1, x4, (kS [123, 125, 60, 62, 44, 58, 40, 41, 46, 36, 124, 61, 59]), (kI 0)] h)
theorem e117_5 (O : Oracle) (R : Jump) (q : Nat) (x0 x1 x4 : TVal) (h : Heap) : b117_5 O R q x0 x1 x4 h = stepF c117 O R q 5 [x0, x1, x4] h := by kernel_rfl
noncomputable def b117_6 (O : Oracle) (R : Jump) (q : Nat) (x0 x1 x4 x12 x13 : TVal) (h : Heap) : Res1 :=
 vlen O 0 x12 h 156 fun x156 h =>
 vbin .lss 0 x13 x156 h fun x157 h =>
 vif x157 (
 vindex x12 x13 h fun x162 h =>
 vindex x0 x1 h fun x165 h =>
 vbin .eql 0 x162 x165 h fun x166 h =>
 vif x166 (
 vbin .add 0 x1 (kI 1) h fun x170 h =>
 vop O (.slice 0 true (.k x0) (some (.k x1)) (some (.k x170)) none) h 171 fun x171 h =>
 vop O (.build [(.p (.int .i64 0)), (.p (.str [])), (.p (.int .i64 0)), (.p (.int .i64 0))] [(0, 1, (.k (kI 4))), (1, 1, (.k x171)), (3, 1, (.k x1))]) h 173 fun x173 h =>
 vbin .add 0 x1 (kI 1) h fun x175 h =>
 vstore 4 x4 x173 h fun _ h =>
 vcell true 4 x4 h fun c0 => tcomp x175 fun c1 => tcomp (kI 0) fun c2 => vfin true q [c0, c1, c2] h)
 (vbin .add 0 x13 (kI 1) h fun x159 h =>
 R 6 [x0, x1, x4, x12, x159] h))
 (R 7 [x4] h)
theorem e117_6 (O : Oracle) (R : Jump) (q : Nat) (x0 x1 x4 x12 x13 : TVal) (h : Heap) : b117_6 O R q x0 x1 x4 x12 x13 h = stepF c117 O R q 6 [x0, x1, x4, x12, x13] h := by kernel_rfl
noncomputable def b117_7 (O : Oracle) (R : Jump) (q : Nat) (x4 : TVal) (h : Heap) : Res1 :=
 vop O (.build [(.p (.int .i64 0)), (.p (.str [])), (.p (.int .i64 0)), (.p (.int .i64 0))] []) h 176 fun x176 h =>
 vstore 4 x4 x176 h fun _ h =>
 vcell true 4 x4 h fun c0 => tcomp (kI 0) fun c1 => tcomp (kI 11) fun c2 => vfin true q [c0, c1, c2] h
theorem e117_7 (O : Oracle) (R : Jump) (q : Nat) (x4 : TVal) (h : Heap) : b117_7 O R q x4 h = stepF c117 O R q 7 [x4] h := by kernel_rfl
noncomputable def d117 : BlkF := fun O R q => [.s fun y0 => .s fun y1 => .z fun h => b117_0 O R q y0 y1 h, .s fun y0 => .s fun y1 => .s fun y2 => .s fun y3 => .z fun h => b117_1 O R q y0 y1 y2 y3 h, .s fun y0 => .s fun y1 => .s fun y2 => .s fun y3 => .z fun h => b117_2 O R q y0 y1 y2 y3 h, .s fun y0 => .s fun y1 => .s fun y2 => .s fun y3 => .z fun h => b117_3 O R q y0 y1 y2 y3 h, .s fun y0 => .s fun y1 => .s fun y2 => .s fun y3 => .z fun h => b117_4 O R q y0 y1 y2 y3 h, .s fun y0 => .s fun y1 => .s fun y2 => .z fun h => b117_5 O R q y0 y1 y2 h, .s fun y0 => .s fun y1 => .s fun y2 => .s fun y3 => .s fun y4 => .z fun h => b117_6 O R q y0 y1 y2 y3 y4 h, .s fun y0 => .z fun h => b117_7 O R q y0 h]
theorem o117 (O : Oracle) (R : Jump) (q : Nat) : HoldsAll c117 O R q 0 (d117 O R q) := ⟨fun y0 y1 h => e117_0 O R q y0 y1 h, fun y0 y1 y2 y3 h => e117_1 O R q y0 y1 y2 y3 h, fun y0 y1 y2 y3 h => e117_2 O R q y0 y1 y2 y3 h, fun y0 y1 y2 y3 h => e117_3 O R q y0 y1 y2 y3 h, fun y0 y1 y2 y3 h => e117_4 O R q y0 y1 y2 y3 h, fun y0 y1 y2 h => e117_5 O R q y0 y1 y2 h, fun y0 y1 y2 y3 y4 h => e117_6 O R q y0 y1 y2 y3 y4 h, fun y0 h => e117_7 O R q y0 h, trivial⟩
/- sprue/sprueref2.end -/
def c123 : MFunc := { np := 2, res := [.t 4], frz := true, body := (.seq (.reg [(oA 4 (.mv (.k (.v (.c (.p (.int .i64 0)))))))] []) (.seq (.reg [(oA 5 (.mv (.k (.v (.c (.p (.bool false))))))), (oA 6 (.mv (.k (.v (.c (.p (.int .i64 0)))))))] []) (.seq (.block 0 (.loop 1 [0, 1, 5, 6] (.seq (.seq (.reg [(oA 8 (.mv (.t 1))), (oA 9 (.mv (.t 0))), (oA 10 (.len 0 (.t 9))), (oA 11 (.bin .lss 0 (.t 8) (.t 10)))] []) (.cond (.t 11) .skip (.exit 0))) (.block 1 (.seq (.reg [(oA 12 (.mv (.t 0))), (oA 13 (.mv (.t 1))), (oA 14 (.index (.t 12) (.t 13))), (oA 7 (.mv (.t 14)))] []) (.seq (.block 2 (.seq (.reg [(oA 23 (.mv (.t 5))), (oA 24 (.un .not (.t 23))), (oA 25 (.mv (.t 24))), ⟨(some 26), (.mv (.t 7)), (some (25, true))⟩, ⟨(some 27), (.bin .eql 0 (.t 26) (.k (.v (.c (.p (.int .u8 125)))))), (some (25, true))⟩, (oA 28 (.pick (.t 25) (.t 27) (.k (.v (.c (.p (.bool false))))))), (oA 29 (.mv (.t 28))), ⟨(some 30), (.mv (.t 1)), (some (29, true))⟩, ⟨(some 31), (.bin .add 0 (.t 30) (.k (.v (.c (.p (.int .i64 1)))))), (some (29, true))⟩, ⟨(some 32), (.mv (.t 0)), (some (29, true))⟩, ⟨(some 33), (.len 0 (.t 32)), (some (29, true))⟩, ⟨(some 34), (.bin .lss 0 (.t 31) (.t 33)), (some (29, true))⟩, (oA 35 (.pick (.t 29) (.t 34) (.k (.v (.c (.p (.bool false))))))), (oA 36 (.mv (.t 35))), ⟨(some 37), (.mv (.t 0)), (some (36, true))⟩, ⟨(some 38), (.mv (.t 1)), (some (36, true))⟩, ⟨(some 39), (.bin .add 0 (.t 38) (.k (.v (.c (.p (.int .i64 1)))))), (some (36, true))⟩, ⟨(some 40), (.index (.t 37) (.t 39)), (some (36, true))⟩, ⟨(some 41), (.bin .eql 0 (.t 40) (.k (.v (.c (.p (.int .u8 125)))))), (some (36, true))⟩, (oA 42 (.pick (.t 36) (.t 41) (.k (.v (.c (.p (.bool false))))))), (oA 22 (.mv (.t 42)))] []) (.cond (.t 22) (.seq (.reg [(oA 43 (.mv (.t 1))), (oA 4 (.mv (.t 43)))] []) .ret) (.seq (.reg [(oA 45 (.mv (.t 5))), (oA 46 (.un .not (.t 45))), (oA 44 (.mv (.t 46)))] []) (.cond (.t 44) (.seq (.reg [(oA 47 (.mv (.t 7))), (oA 48 (.bin .eql 0 (.t 47) (.k (.v (.c (.p (.int .u8 34))))))), (oA 5 (.mv (.t 48)))] []) (.reg [(oA 6 (.mv (.k (.v (.c (.p (.int .i64 0)))))))] [])) (.seq (.reg [(oA 50 (.mv (.t 7))), (oA 51 (.bin .eql 0 (.t 50) (.k (.v (.c (.p (.int .u8 92))))))), (oA 49 (.mv (.t 51)))] []) (.cond (.t 49) (.reg [(oA 52 (.mv (.t 6))), (oA 53 (.bin .add 0 (.t 52) (.k (.v (.c (.p (.int .i64 1))))))), (oA 6 (.mv (.t 53)))] []) (.seq (.reg [(oA 15 (.mv (.t 7))), (oA 16 (.bin .neq 0 (.t 15) (.k (.v (.c (.p (.int .u8 34))))))), (oA 17 (.mv (.t 16))), ⟨(some 18), (.mv (.t 6)), (some (17, false))⟩, ⟨(some 19), (.bin .rem 0 (.t 18) (.k (.v (.c (.p (.int .i64 2)))))), (some (17, false))⟩, ⟨(some 20), (.bin .eql 0 (.t 19) (.k (.v (.c (.p (.int .i64 1)))))), (some (17, false))⟩, (oA 21 (.pick (.t 17) (.k (.v (.c (.p (.bool true))))) (.t 20))), (oA 5 (.mv (.t 21)))] []) (.reg [(oA 6 (.mv (.k (.v (.c (.p (.int .i64 0)))))))] []))))))))) (.mark 2 [0, 1, 5, 6] (.reg [(oA 54 (.mv (.t 1))), (oA 55 (.bin .add 0 (.t 54) (.k (.v (.c (.p (.int .i64 1))))))), (oA 1 (.mv (.t 55)))] [])))))))) (.seq (.reg [(oA 4 (.mv (.k (.v (.c (.p (.int .i64 (-1))))))))] []) .ret)))) }
theorem t123 : compF Tryz.prog (globs2 tabs opq) (fun _ => false) true Tryz.f123 = some c123.erase := by kernel_rfl
noncomputable def b123_0 (O : Oracle) (R : Jump) (q : Nat) (x0 x1 : TVal) (h : Heap) : Res1 :=
 R 1 [x0, x1, (kB false), (kI 0)] h
theorem e123_0 (O : Oracle) (R : Jump) (q : Nat) (x0 x1 : TVal) (h : Heap) : b123_0 O R q x0 x1 h = stepF c123 O R q 0 [x0, x1] h := by kernel_rfl
noncomputable def b123_1 (O : Oracle) (R : Jump) (q : Nat) (x0 x1 x5 x6 : TVal) (h : Heap) : Res1 :=
 vlen O 0 x0 h 10 fun x10 h =>
 vbin .lss 0 x1 x10 h fun x11 h =>
 vif x11 (
 vindex x0 x1 h fun x14 h =>
 vop O (.un .not (.k x5)) h 24 fun x24 h =>
 vguard x24 true (fun kk => kk x14 h) h fun x26 h =>
 vguard x24 true (fun kk => vbin .eql 0 x26 (.v (.c (.p (.int .u8 125)))) h kk) h fun x27 h =>
 vop O (.pick (.k x24) (.k x27) (.k (kB false))) h 28 fun x28 h =>
 vguard x28 true (fun kk => kk x1 h) h fun x30 h =>
 vguard x28 true (fun kk => vbin .add 0 x30 (kI 1) h kk) h fun x31 h =>
 vguard x28 true (fun kk => kk x0 h) h fun x32 h =>
 vguard x28 true (fun kk => vlen O 0 x32 h 33 kk) h fun x33 h =>
 vguard x28 true (fun kk => vbin .lss 0 x31 x33 h kk) h fun x34 h =>
 vop O (.pick (.k x28) (.k x34) (.k (kB false))) h 35 fun x35 h =>
 vguard x35 true (fun kk => kk x0 h) h fun x37 h =>
 vguard x35 true (fun kk => kk x1 h) h fun x38 h =>
 vguard x35 true (fun kk => vbin .add 0 x38 (kI 1) h kk) h fun x39 h =>
 vguard x35 true (fun kk => vindex x37 x39 h kk) h fun x40 h =>
 vguard x35 true (fun kk => vbin .eql 0 x40 (.v (.c (.p (.int .u8 125)))) h kk) h fun x41 h =>
 vop O (.pick (.k x35) (.k x41) (.k (kB false))) h 42 fun x42 h =>
 vif x42 (
 tcomp x1 fun c0 => vfin true q [c0] h)
 (vop O (.un .not (.k x5)) h 46 fun x46 h =>
 vif x46 (
 vbin .eql 0 x14 (.v (.c (.p (.int .u8 34)))) h fun x48 h =>
 R 2 [x0, x1, x48, (kI 0)] h)
 (vbin .eql 0 x14 (.v (.c (.p (.int .u8 92)))) h fun x51 h =>
 vif x51 (
 vbin .add 0 x6 (kI 1) h fun x53 h =>
 R 2 [x0, x1, x5, x53] h)
 (vbin .neq 0 x14 (.v (.c (.p (.int .u8 34)))) h fun x16 h =>
 vguard x16 false (fun kk => kk x6 h) h fun x18 h =>
 vguard x16 false (fun kk => vbin .rem 0 x18 (kI 2) h kk) h fun x19 h =>
 vguard x16 false (fun kk => vbin .eql 0 x19 (kI 1) h kk) h fun x20 h =>
 vop O (.pick (.k x16) (.k (kB true)) (.k x20)) h 21 fun x21 h =>
 R 2 [x0, x1, x21, (kI 0)] h))))
 (tcomp (kI (-1)) fun c0 => vfin true q [c0] h)
theorem e123_1 (O : Oracle) (R : Jump) (q : Nat) (x0 x1 x5 x6 : TVal) (h : Heap) : b123_1 O R q x0 x1 x5 x6 h = stepF c123 O R q 1 [x0, x1, x5, x6] h := by kernel_rfl
noncomputable def b123_2 (O : Oracle) (R : Jump) (q : Nat) (x0 x1 x5 x6 : TVal) (h : Heap) : Res1 :=
 vbin .add 0 x1 (kI 1) h fun x55 h =>
 R 1 [x0, x55, x5, x6] h
theorem e123_2 (O : Oracle) (R : Jump) (q : Nat) (x0 x1 x5 x6 : TVal) (h : Heap) : b123_2 O R q x0 x1 x5 x6 h = stepF c123 O R q 2 [x0, x1, x5, x6] h := by kernel_rfl
noncomputable def d123 : BlkF := fun O R q => [.s fun y0 => .s fun y1 => .z fun h => b123_0 O R q y0 y1 h, .s fun y0 => .s fun y1 => .s fun y2 => .s fun y3 => .z fun h => b123_1 O R q y0 y1 y2 y3 h, .s fun y0 => .s fun y1 => .s fun y2 => .s fun y3 => .z fun h => b123_2 O R q y0 y1 y2 y3 h]
theorem o123 (O : Oracle) (R : Jump) (q : Nat) : HoldsAll c123 O R q 0 (d123 O R q) := ⟨fun y0 y1 h => e123_0 O R q y0 y1 h, fun y0 y1 y2 y3 h => e123_1 O R q y0 y1 y2 y3 h, fun y0 y1 y2 y3 h => e123_2 O R q y0 y1 y2 y3 h, trivial⟩
/- (*sprue/sprueref7.reader).kind -/
def c124 : MFunc := { np := 2, res := [.t 4], frz := true, body := (.seq (.reg [(oA 4 (.mv (.k (.v (.c (.p (.bool false)))))))] []) (.seq (.reg [(oA 5 (.mv (.t 0))), (oA 6 (.nilck (.t 5))), (oA 7 (.faddr 2 (.t 6))), (oA 8 (.load false 1 (.t 7))), (oA 9 (.bin .eql 0 (.t 8) (.k (.v (.c (.p (.int .i64 0))))))), (oA 10 (.mv (.t 9))), ⟨(some 11), (.mv (.t 0)), (some (10, true))⟩, ⟨(some 12), (.nilck (.t 11)), (some (10, true))⟩, ⟨(some 13), (.faddr 1 (.t 12)), (some (10, true))⟩, ⟨(some 14), (.load false 1 (.t 13)), (some (10, true))⟩, ⟨(some 15), (.mv (.t 0)), (some (10, true))⟩, ⟨(some 16), (.nilck (.t 15)), (some (10, true))⟩, ⟨(some 17), (.faddr 0 (.t 16)), (some (10, true))⟩, ⟨(some 18), (.load false 1 (.t 17)), (some (10, true))⟩, ⟨(some 19), (.len 2 (.t 18)), (some (10, true))⟩, ⟨(some 20), (.bin .lss 0 (.t 14) (.t 19)), (some (10, true))⟩, (oA 21 (.pick (.t 10) (.t 20) (.k (.v (.c (.p (.bool false))))))), (oA 22 (.mv (.t 21))), ⟨(some 23), (.mv (.t 0)), (some (22, true))⟩, ⟨(some 24), (.nilck (.t 23)), (some (22, true))⟩, ⟨(some 25), (.faddr 0 (.t 24)), (some (22, true))⟩, ⟨(some 26), (.load false 1 (.t 25)), (some (22, true))⟩, ⟨(some 27), (.mv (.t 0)), (some (22, true))⟩, ⟨(some 28), (.nilck (.t 27)), (some (22, true))⟩, ⟨(some 29), (.faddr 1 (.t 28)), (some (22, true))⟩, ⟨(some 30), (.load false 1 (.t 29)), (some (22, true))⟩, ⟨(some 31), (.iaddr 4 (.t 26) (.t 30)), (some (22, true))⟩, ⟨(some 32), (.faddr 0 (.t 31)), (some (22, true))⟩, ⟨(some 33), (.load false 1 (.t 32)), (some (22, true))⟩, ⟨(some 34), (.mv (.t 1)), (some (22, true))⟩, ⟨(some 35), (.bin .eql 0 (.t 33) (.t 34)), (some (22, true))⟩, (oA 36 (.pick (.t 22) (.t 35) (.k (.v (.c (.p (.bool false))))))), (oA 4 (.mv (.t 36)))] []) .ret)) }
theorem t124 : compF Tryz.prog (globs2 tabs opq) (fun _ => false) true Tryz.f124 = some c124.erase := by kernel_rfl
noncomputable def b124_0 (O : Oracle) (R : Jump) (q : Nat) (x0 x1 : TVal) (h : Heap) : Res1 :=
 vop O (.nilck (.k x0)) h 6 fun x6 h =>
 vfaddr 2 x6 h fun x7 h =>
 vload false 1 x7 h fun x8 h =>
 vbin .eql 0 x8 (kI 0) h fun x9 h =>
 vguard x9 true (fun kk => kk x0 h) h fun x11 h =>
 vguard x9 true (fun kk => vop O (.nilck (.k x11)) h 12 kk) h fun x12 h =>
 vguard x9 true (fun kk => vfaddr 1 x12 h kk) h fun x13 h =>
 vguard x9 true (fun kk => vload false 1 x13 h kk) h fun x14 h =>
 vguard x9 true (fun kk => kk x0 h) h fun x15 h =>
 vguard x9 true (fun kk => vop O (.nilck (.k x15)) h 16 kk) h fun x16 h =>
 vguard x9 true (fun kk => vfaddr 0 x16 h kk) h fun x17 h =>
 vguard x9 true (fun kk => vload false 1 x17 h kk) h fun x18 h =>
 vguard x9 true (fun kk => vlen O 2 x18 h 19 kk) h fun x19 h =>
 vguard x9 true (fun kk => vbin .lss 0 x14 x19 h kk) h fun x20 h =>
 vop O (.pick (.k x9) (.k x20) (.k (kB false))) h 21 fun x21 h =>
 vguard x21 true (fun kk => kk x0 h) h fun x23 h =>
 vguard x21 true (fun kk => vop O (.nilck (.k x23)) h 24 kk) h fun x24 h =>
 vguard x21 true (fun kk => vfaddr 0 x24 h kk) h fun x25 h =>
 vguard x21 true (fun kk => vload false 1 x25 h kk) h fun x26 h =>
 vguard x21 true (fun kk => kk x0 h) h fun x27 h =>
 vguard x21 true (fun kk => vop O (.nilck (.k x27)) h 28 kk) h fun x28 h =>
 vguard x21 true (fun kk => vfaddr 1 x28 h kk) h fun x29 h =>
 vguard x21 true (fun kk => vload false 1 x29 h kk) h fun x30 h =>
 vguard x21 true (fun kk => viaddr 4 x26 x30 h kk) h fun x31 h =>
 vguard x21 true (fun kk => vfaddr 0 x31 h kk) h fun x32 h =>
 vguard x21 true (fun kk => vload false 1 x32 h kk) h fun x33 h =>
 vguard x21 true (fun kk => kk x1 h) h fun x34 h =>
 vguard x21 true (fun kk => vbin .eql 0 x33 x34 h kk) h fun x35 h =>
 vop O (.pick (.k x21) (.k x35) (.k (kB false))) h 36 fun x36 h =>
 tcomp x36 fun c0 => vfin true q [c0] h
theorem e124_0 (O : Oracle) (R : Jump) (q : Nat) (x0 x1 : TVal) (h : Heap) : b124_0 O R q x0 x1 h = stepF c124 O R q 0 [x0, x1] h := by kernel_rfl
noncomputable def d124 : BlkF := fun O R q => [.s fun y0 => .s fun y1 => .z fun h => b124_0 O R q y0 y1 h]
theorem o124 (O : Oracle) (R : Jump) (q : Nat) : HoldsAll c124 O R q 0 (d124 O R q) := ⟨fun y0 y1 h => e124_0 O R q y0 y1 h, trivial⟩
/- sprue/sprueref7.word -/
def c125 : MFunc := { np := 1, res := [.t 2], frz := true, body := (.seq (.reg [(oA 2 (.mv (.k (.v (.c (.p (.bool false)))))))] []) (.seq (.seq (.reg [(oA 3 (.mv (.t 0)))] []) (.block 0 (.seq (.seq (.reg [(oA 5 (.bin .eql 0 (.t 3) (.k (.v (.c (.p (.str [105, 102]))))))), (oA 4 (.mv (.t 5)))] []) (.cond (.t 4) .skip (.seq (.reg [(oA 6 (.bin .eql 0 (.t 3) (.k (.v (.c (.p (.str [119, 105, 116, 104]))))))), (oA 4 (.mv (.t 6)))] []) (.cond (.t 4) .skip (.seq (.reg [(oA 7 (.bin .eql 0 (.t 3) (.k (.v (.c (.p (.str [114, 97, 110, 103, 101]))))))), (oA 4 (.mv (.t 7)))] []) (.cond (.t 4) .skip (.seq (.reg [(oA 8 (.bin .eql 0 (.t 3) (.k (.v (.c (.p (.str [109, 97, 116, 99, 104]))))))), (oA 4 (.mv (.t 8)))] []) (.cond (.t 4) .skip (.seq (.reg [(oA 9 (.bin .eql 0 (.t 3) (.k (.v (.c (.p (.str [101, 108, 115, 101]))))))), (oA 4 (.mv (.t 9)))] []) (.cond (.t 4) .skip (.seq (.reg [(oA 10 (.bin .eql 0 (.t 3) (.k (.v (.c (.p (.str [101, 110, 100]))))))), (oA 4 (.mv (.t 10)))] []) (.cond (.t 4) .skip (.seq (.reg [(oA 11 (.bin .eql 0 (.t 3) (.k (.v (.c (.p (.str [99, 97, 115, 101]))))))), (oA 4 (.mv (.t 11)))] []) (.cond (.t 4) .skip (.seq (.reg [(oA 12 (.bin .eql 0 (.t 3) (.k (.v (.c (.p (.str [116, 101, 109, 112, 108, 97, 116, 101]))))))), (oA 4 (.mv (.t 12)))] []) (.cond (.t 4) .skip (.seq (.reg [(oA 13 (.bin .eql 0 (.t 3) (.k (.v (.c (.p (.str [100, 101, 102, 105, 110, 101]))))))), (oA 4 (.mv (.t 13)))] []) (.cond (.t 4) .skip (.seq (.reg [(oA 14 (.bin .eql 0 (.t 3) (.k (.v (.c (.p (.str [116, 114, 117, 101]))))))), (oA 4 (.mv (.t 14)))] []) (.cond (.t 4) .skip (.reg [(oA 15 (.bin .eql 0 (.t 3) (.k (.v (.c (.p (.str [102, 97, 108, 115, 101]))))))), (oA 4 (.mv (.t 15)))] []))))))))))))))))))))) (.mark 1 [4] (.cond (.t 4) (.seq (.reg [(oA 2 (.mv (.k (.v (.c (.p (.bool true)))))))] []) .ret) .skip))))) (.seq (.reg [(oA 2 (.mv (.k (.v (.c (.p (.bool false)))))))] []) .ret))) }
theorem t125 : compF Tryz.prog (globs2 tabs opq) (fun _ => false) true Tryz.f125 = some c125.erase := by kernel_rfl
noncomputable def b125_0 (O : Oracle) (R : Jump) (q : Nat) (x0 : TVal) (h : Heap) : Res1 :=
 vbin .eql 0 x0 (kS [105, 102]) h fun x5 h =>
 vif x5 (
 R 1 [x5] h)
 (vbin .eql 0 x0 (kS [119, 105, 116, 104]) h fun x6 h =>
 vif x6 (
 R 1 [x6] h)
 (vbin .eql 0 x0 (kS [114, 97, 110, 103, 101]) h fun x7 h =>
 vif x7 (
 R 1 [x7] h)
 (vbin .eql 0 x0 (kS [109, 97, 116, 99, 104]) h fun x8 h =>
 vif x8 (
 R 1 [x8] h)
 (vbin .eql 0 x0 (kS [101, 108, 115, 101]) h fun x9 h =>
 vif x9 (
 R 1 [x9] h)
 (vbin .eql 0 x0 (kS [101, 110, 100]) h fun x10 h =>
 vif x10 (
 R 1 [x10] h)
 (vbin .eql 0 x0 (kS [99, 97, 115, 101]) h fun x11 h =>
 vif x11 (
 R 1 [x11] h)
 (vbin .eql 0 x0 (kS [116, 101, 109, 112, 108, 97, 116, 101]) h fun x12 h =>
 vif x12 (
 R 1 [x12] h)
 (vbin .eql 0 x0 (kS [100, 101, 102, 105, 110, 101]) h fun x13 h =>
 vif x13 (
 R 1 [x13] h)
 (vbin .eql 0 x0 (kS [116, 114, 117, 101]) h fun x14 h =>
 vif x14 (
 R 1 [x14] h)
 (vbin .eql 0 x0 (kS [102, 97, 108, 115, 101]) h fun x15 h =>
 R 1 [x15] h))))))))))
theorem e125_0 (O : Oracle) (R : Jump) (q : Nat) (x0 : TVal) (h : Heap) : b125_0 O R q x0 h = stepF c125 O R q 0 [x0] h := by kernel_rfl
noncomputable def b125_1 (O : Oracle) (R : Jump) (q : Nat) (x4 : TVal) (h : Heap) : Res1 :=
 vif x4 (
 tcomp (kB true) fun c0 => vfin true q [c0] h)
 (tcomp (kB false) fun c0 => vfin true q [c0] h)
theorem e125_1 (O : Oracle) (R : Jump) (q : Nat) (x4 : TVal) (h : Heap) : b125_1 O R q x4 h = stepF c125 O R q 1 [x4] h := by kernel_rfl
noncomputable def d125 : BlkF := fun O R q => [.s fun y0 => .z fun h => b125_0 O R q y0 h, .s fun y0 => .z fun h => b125_1 O R q y0 h]
theorem o125 (O : Oracle) (R : Jump) (q : Nat) : HoldsAll c125 O R q 0 (d125 O R q) := ⟨fun y0 h => e125_0 O R q y0 h, fun y0 h => e125_1 O R q y0 h, trivial⟩
/- sprue/sprueref7.kind -/
def c126 : MFunc := { np := 1, res := [.t 2], frz := true, body := (.seq (.reg [(oA 2 (.mv (.k (.v (.c (.p (.int .i64 0)))))))] []) (.seq (.seq (.reg [(oA 3 (.mv (.t 0)))] []) (.block 0 (.seq (.reg [(oA 5 (.bin .eql 0 (.t 3) (.k (.v (.c (.p (.str [105, 102]))))))), (oA 4 (.mv (.t 5)))] []) (.cond (.t 4) (.seq (.reg [(oA 2 (.mv (.k (.v (.c (.p (.int .i64 5)))))))] []) .ret) (.seq (.reg [(oA 7 (.bin .eql 0 (.t 3) (.k (.v (.c (.p (.str [119, 105, 116, 104]))))))), (oA 6 (.mv (.t 7)))] []) (.cond (.t 6) (.seq (.reg [(oA 2 (.mv (.k (.v (.c (.p (.int .i64 6)))))))] []) .ret) (.seq (.reg [(oA 9 (.bin .eql 0 (.t 3) (.k (.v (.c (.p (.str [114, 97, 110, 103, 101]))))))), (oA 8 (.mv (.t 9)))] []) (.cond (.t 8) (.seq (.reg [(oA 2 (.mv (.k (.v (.c (.p (.int .i64 7)))))))] []) .ret) .skip)))))))) (.seq (.reg [(oA 2 (.mv (.k (.v (.c (.p (.int .i64 8)))))))] []) .ret))) }
theorem t126 : compF Tryz.prog (globs2 tabs opq) (fun _ => false) true Tryz.f126 = some c126.erase := by kernel_rfl
noncomputable def b126_0 (O : Oracle) (R : Jump) (q : Nat) (x0 : TVal) (h : Heap) : Res1 :=
 vbin .eql 0 x0 (kS [105, 102]) h fun x5 h =>
 vif x5 (
 tcomp (kI 5) fun c0 => vfin true q [c0] h)
 (vbin .eql 0 x0 (kS [119, 105, 116, 104]) h fun x7 h =>
 vif x7 (
 tcomp (kI 6) fun c0 => vfin true q [c0] h)
 (vbin .eql 0 x0 (kS [114, 97, 110, 103, 101]) h fun x9 h =>
 vif x9 (
 tcomp (kI 7) fun c0 => vfin true q [c0] h)
 (tcomp (kI 8) fun c0 => vfin true q [c0] h)))
theorem e126_0 (O : Oracle) (R : Jump) (q : Nat) (x0 : TVal) (h : Heap) : b126_0 O R q x0 h = stepF c126 O R q 0 [x0] h := by kernel_rfl
noncomputable def d126 : BlkF := fun O R q => [.s fun y0 => .z fun h => b126_0 O R q y0 h]
theorem o126 (O : Oracle) (R : Jump) (q : Nat) : HoldsAll c126 O R q 0 (d126 O R q) := ⟨fun y0 h => e126_0 O R q y0 h, trivial⟩
/- (*sprue/sprueref7.reader).pipe -/
def c127 : MFunc := { np := 2, res := [.t 4], frz := true, body := (.seq (.reg [(oA 4 (.mv (.k (.v (.c (.p .nilslice))))))] []) (.seq (.reg [(oA 6 (.mv (.t 0))), (oA 7 (.mv (.t 1))), (oA 8 (.call (.k (.v (.c (.func 189 [])))) [(.t 6), (.t 7)])), (oA 9 (.bslice 1 1 [(.p .nilslice)] [(0, (.t 8))] false)), (oA 5 (.mv (.t 9)))] []) (.seq (.block 0 (.loop 1 [0, 1, 5] (.seq (.seq (.reg [(oA 10 (.mv (.t 0))), (oA 11 (.call (.k (.v (.c (.func 129 [])))) [(.t 10), (.k (.v (.c (.p (.str [124])))))]))] []) (.cond (.t 11) .skip (.exit 0))) (.block 1 (.seq (.reg [(oA 12 (.mv (.t 0))), (oA 13 (.nilck (.t 12))), (oA 14 (.faddr 1 (.t 13))), (oA 15 (.load false 1 (.t 14))), (oA 16 (.bin .add 0 (.t 15) (.k (.v (.c (.p (.int .i64 1))))))), (oA 17 (.nilck (.t 12))), (oA 18 (.faddr 1 (.t 17))), (oN (.store 1 (.t 18) (.t 16)))] []) (.reg [(oA 19 (.mv (.t 5))), (oA 20 (.mv (.t 0))), (oA 21 (.mv (.t 1))), (oA 22 (.call (.k (.v (.c (.func 189 [])))) [(.t 20), (.t 21)])), (oA 23 (.bslice 1 1 [(.p .nilslice)] [(0, (.t 22))] false)), (oA 24 (.append 1 24 false (.t 19) (.t 23))), (oA 5 (.mv (.t 24)))] [])))))) (.seq (.reg [(oA 25 (.mv (.t 5))), (oA 4 (.mv (.t 25)))] []) .ret)))) }
theorem t127 : compF Tryz.prog (globs2 tabs opq) (fun _ => false) true Tryz.f127 = some c127.erase := by kernel_rfl
noncomputable def b127_0 (O : Oracle) (R : Jump) (q : Nat) (x0 x1 : TVal) (h : Heap) : Res1 :=
 vcall O (.v (.c (.func 189 []))) [x0, x1] h 8 fun x8 h =>
 vop O (.bslice 1 1 [(.p .nilslice)] [(0, (.k x8))] false) h 9 fun x9 h =>
 R 1 [x0, x1, x9] h
theorem e127_0 (O : Oracle) (R : Jump) (q : Nat) (x0 x1 : TVal) (h : Heap) : b127_0 O R q x0 x1 h = stepF c127 O R q 0 [x0, x1] h := by kernel_rfl
noncomputable def b127_1 (O : Oracle) (R : Jump) (q : Nat) (x0 x1 x5 : TVal) (h : Heap) : Res1 :=
 vcall O (.v (.c (.func 129 []))) [x0, (kS [124])] h 11 fun x11 h =>
 vif x11 (
 vop O (.nilck (.k x0)) h 13 fun x13 h =>
 vfaddr 1 x13 h fun x14 h =>
 vload false 1 x14 h fun x15 h =>
 vbin .add 0 x15 (kI 1) h fun x16 h =>
 vop O (.nilck (.k x0)) h 17 fun x17 h =>
 vfaddr 1 x17 h fun x18 h =>
 vstore 1 x18 x16 h fun _ h =>
 vcall O (.v (.c (.func 189 []))) [x0, x1] h 22 fun x22 h =>
 vop O (.bslice 1 1 [(.p .nilslice)] [(0, (.k x22))] false) h 23 fun x23 h =>
 vop O (.append 1 24 false (.k x5) (.k x23)) h 24 fun x24 h =>
 R 1 [x0, x1, x24] h)
 (tcomp x5 fun c0 => vfin true q [c0] h)
theorem e127_1 (O : Oracle) (R : Jump) (q : Nat) (x0 x1 x5 : TVal) (h : Heap) : b127_1 O R q x0 x1 x5 h = stepF c127 O R q 1 [x0, x1, x5] h := by kernel_rfl
noncomputable def d127 : BlkF := fun O R q => [.s fun y0 => .s fun y1 => .z fun h => b127_0 O R q y0 y1 h, .s fun y0 => .s fun y1 => .s fun y2 => .z fun h => b127_1 O R q y0 y1 y2 h]
theorem o127 (O : Oracle) (R : Jump) (q : Nat) : HoldsAll c127 O R q 0 (d127 O R q) := ⟨fun y0 y1 h => e127_0 O R q y0 y1 h, fun y0 y1 y2 h => e127_1 O R q y0 y1 y2 h, trivial⟩
/- (*sprue/sprueref7.reader).take -/
def c128 : MFunc := { np := 2, res := [.cell 4 true 4], frz := true, body := (.seq (.reg [(oA 4 (.alloc [(.p (.int .i64 0)), (.p (.str [])), (.p (.int .i64 0)), (.p (.int .i64 0))] false))] []) (.seq (.seq (.reg [(oA 5 (.mv (.t 0))), (oA 6 (.mv (.t 1))), (oA 7 (.call (.k (.v (.c (.func 124 [])))) [(.t 5), (.t 6)])), (oA 8 (.un .not (.t 7)))] []) (.cond (.t 8) (.seq (.reg [(oA 9 (.mv (.t 0))), (oA 10 (.call (.k (.v (.c (.func 190 [])))) [(.t 9), (.k (.v (.c (.p (.int .i64 12)))))]))] []) (.seq (.reg [(oA 11 (.build [(.p (.int .i64 0)), (.p (.str [])), (.p (.int .i64 0)), (.p (.int .i64 0))] [])), (oN (.store 4 (.t 4) (.t 11)))] []) .ret)) .skip)) (.seq (.reg [(oA 12 (.mv (.t 0))), (oA 13 (.nilck (.t 12))), (oA 14 (.faddr 1 (.t 13))), (oA 15 (.load false 1 (.t 14))), (oA 16 (.bin .add 0 (.t 15) (.k (.v (.c (.p (.int .i64 1))))))), (oA 17 (.nilck (.t 12))), (oA 18 (.faddr 1 (.t 17))), (oN (.store 1 (.t 18) (.t 16)))] []) (.seq (.reg [(oA 19 (.mv (.t 0))), (oA 20 (.nilck (.t 19))), (oA 21 (.faddr 0 (.t 20))), (oA 22 (.load false 1 (.t 21))), (oA 23 (.mv (.t 0))), (oA 24 (.nilck (.t 23))), (oA 25 (.faddr 1 (.t 24))), (oA 26 (.load false 1 (.t 25))), (oA 27 (.bin .sub 0 (.t 26) (.k (.v (.c (.p (.int .i64 1))))))), (oA 28 (.iaddr 4 (.t 22) (.t 27))), (oA 29 (.load true 4 (.t 28))), (oN (.store 4 (.t 4) (.t 29)))] []) .ret)))) }
theorem t128 : compF Tryz.prog (globs2 tabs opq) (fun _ => false) true Tryz.f128 = some c128.erase := by kernel_rfl
noncomputable def b128_0 (O : Oracle) (R : Jump) (q : Nat) (x0 x1 : TVal) (h : Heap) : Res1 :=
 vop O (.alloc [(.p (.int .i64 0)), (.p (.str [])), (.p (.int .i64 0)), (.p (.int .i64 0))] false) h 4 fun x4 h =>
 vcall O (.v (.c (.func 124 []))) [x0, x1] h 7 fun x7 h =>
 vop O (.un .not (.k x7)) h 8 fun x8 h =>
 vif x8 (
 vcall O (.v (.c (.func 190 []))) [x0, (kI 12)] h 10 fun x10 h =>
 vop O (.build [(.p (.int .i64 0)), (.p (.str [])), (.p (.int .i64 0)), (.p (.int .i64 0))] []) h 11 fun x11 h =>
 vstore 4 x4 x11 h fun _ h =>
 vcell true 4 x4 h fun c0 => vfin true q [c0] h)
 (vop O (.nilck (.k x0)) h 13 fun x13 h =>
 vfaddr 1 x13 h fun x14 h =>
 vload false 1 x14 h fun x15 h =>
 vbin .add 0 x15 (kI 1) h fun x16 h =>
 vop O (.nilck (.k x0)) h 17 fun x17 h =>
 vfaddr 1 x17 h fun x18 h =>
 vstore 1 x18 x16 h fun _ h =>
 vop O (.nilck (.k x0)) h 20 fun x20 h =>
 vfaddr 0 x20 h fun x21 h =>
 vload false 1 x21 h fun x22 h =>
 vop O (.nilck (.k x0)) h 24 fun x24 h =>
 vfaddr 1 x24 h fun x25 h =>
 vload false 1 x25 h fun x26 h =>
 vbin .sub 0 x26 (kI 1) h fun x27 h =>
 viaddr 4 x22 x27 h fun x28 h =>
 vload true 4 x28 h fun x29 h =>
 vstore 4 x4 x29 h fun _ h =>
 vcell true 4 x4 h fun c0 => vfin true q [c0] h)
theorem e128_0 (O : Oracle) (R : Jump) (q : Nat) (x0 x1 : TVal) (h : Heap) : b128_0 O R q x0 x1 h = stepF c128 O R q 0 [x0, x1] h := by kernel_rfl
noncomputable def d128 : BlkF := fun O R q => [.s fun y0 => .s fun y1 => .z fun h => b128_0 O R q y0 y1 h]
theorem o128 (O : Oracle) (R : Jump) (q : Nat) : HoldsAll c128 O R q 0 (d128 O R q) := ⟨fun y0 y1 h => e128_0 O R q y0 y1 h, trivial⟩
/- (*sprue/sprueref7.reader).sign -/
def c129 : MFunc := { np := 2, res := [.t 4], frz := true, body := (.seq (.reg [(oA 4 (.mv (.k (.v (.c (.p (.bool false)))))))] []) (.seq (.reg [(oA 5 (.mv (.t 0))), (oA 6 (.nilck (.t 5))), (oA 7 (.faddr 2 (.t 6))), (oA 8 (.load false 1 (.t 7))), (oA 9 (.bin .eql 0 (.t 8) (.k (.v (.c (.p (.int .i64 0))))))), (oA 10 (.mv (.t 9))), ⟨(some 11), (.mv (.t 0)), (some (10, true))⟩, ⟨(some 12), (.nilck (.t 11)), (some (10, true))⟩, ⟨(some 13), (.faddr 1 (.t 12)), (some (10, true))⟩, ⟨(some 14), (.load false 1 (.t 13)), (some (10, true))⟩, ⟨(some 15), (.mv (.t 0)), (some (10, true))⟩, ⟨(some 16), (.nilck (.t 15)), (some (10, true))⟩, ⟨(some 17), (.faddr 0 (.t 16)), (some (10, true))⟩, ⟨(some 18), (.load false 1 (.t 17)), (some (10, true))⟩, ⟨(some 19), (.len 2 (.t 18)), (some (10, true))⟩, ⟨(some 20), (.bin .lss 0 (.t 14) (.t 19)), (some (10, true))⟩, (oA 21 (.pick (.t 10) (.t 20) (.k (.v (.c (.p (.bool false))))))), (oA 22 (.mv (.t 21))), ⟨(some 23), (.mv (.t 0)), (some (22, true))⟩, ⟨(some 24), (.nilck (.t 23)), (some (22, true))⟩, ⟨(some 25), (.faddr 0 (.t 24)), (some (22, true))⟩, ⟨(some 26), (.load false 1 (.t 25)), (some (22, true))⟩, ⟨(some 27), (.mv (.t 0)), (some (22, true))⟩, ⟨(some 28), (.nilck (.t 27)), (some (22, true))⟩, ⟨(some 29), (.faddr 1 (.t 28)), (some (22, true))⟩, ⟨(some 30), (.load false 1 (.t 29)), (some (22, true))⟩, ⟨(some 31), (.iaddr 4 (.t 26) (.t 30)), (some (22, true))⟩, ⟨(some 32), (.faddr 0 (.t 31)), (some (22, true))⟩, ⟨(some 33), (.load false 1 (.t 32)), (some (22, true))⟩, ⟨(some 34), (.bin .eql 0 (.t 33) (.k (.v (.c (.p (.int .i64 4)))))), (some (22, true))⟩, (oA 35 (.pick (.t 22) (.t 34) (.k (.v (.c (.p (.bool false))))))), (oA 36 (.mv (.t 35))), ⟨(some 37), (.mv (.t 0)), (some (36, true))⟩, ⟨(some 38), (.nilck (.t 37)), (some (36, true))⟩, ⟨(some 39), (.faddr 0 (.t 38)), (some (36, true))⟩, ⟨(some 40), (.load false 1 (.t 39)), (some (36, true))⟩, ⟨(some 41), (.mv (.t 0)), (some (36, true))⟩, ⟨(some 42), (.nilck (.t 41)), (some (36, true))⟩, ⟨(some 43), (.faddr 1 (.t 42)), (some (36, true))⟩, ⟨(some 44), (.load false 1 (.t 43)), (some (36, true))⟩, ⟨(some 45), (.iaddr 4 (.t 40) (.t 44)), (some (36, true))⟩, ⟨(some 46), (.faddr 1 (.t 45)), (some (36, true))⟩, ⟨(some 47), (.load false 1 (.t 46)), (some (36, true))⟩, ⟨(some 48), (.mv (.t 1)), (some (36, true))⟩, ⟨(some 49), (.bin .eql 0 (.t 47) (.t 48)), (some (36, true))⟩, (oA 50 (.pick (.t 36) (.t 49) (.k (.v (.c (.p (.bool false))))))), (oA 4 (.mv (.t 50)))] []) .ret)) }
theorem t129 : compF Tryz.prog (globs2 tabs opq) (fun _ => false) true Tryz.f129 = some c129.erase := by kernel_rfl
noncomputable def b129_0 (O : Oracle) (R : Jump) (q : Nat) (x0 x1 : TVal) (h : Heap) : Res1 :=
 vop O (.nilck (.k x0)) h 6 fun x6 h =>
 vfaddr 2 x6 h fun x7 h =>
 vload false 1 x7 h fun x8 h =>
 vbin .eql 0 x8 (kI 0) h fun x9 h =>
 vguard x9 true (fun kk => kk x0 h) h fun x11 h =>
 vguard x9 true (fun kk => vop O (.nilck (.k x11)) h 12 kk) h fun x12 h =>
 vguard x9 true (fun kk => vfaddr 1 x12 h kk) h fun x13 h =>
 vguard x9 true (fun kk => vload false 1 x13 h kk) h fun x14 h =>
 vguard x9 true (fun kk => kk x0 h) h fun x15 h =>
 vguard x9 true (fun kk => vop O (.nilck (.k x15)) h 16 kk) h fun x16 h =>
 vguard x9 true (fun kk => vfaddr 0 x16 h kk) h fun x17 h =>
 vguard x9 true (fun kk => vload false 1 x17 h kk) h fun x18 h =>
 vguard x9 true (fun kk => vlen O 2 x18 h 19 kk) h fun x19 h =>
 vguard x9 true (fun kk => vbin .lss 0 x14 x19 h kk) h fun x20 h =>
 vop O (.pick (.k x9) (.k x20) (.k (kB false))) h 21 fun x21 h =>
 vguard x21 true (fun kk => kk x0 h) h fun x23 h =>
 vguard x21 true (fun kk => vop O (.nilck (.k x23)) h 24 kk) h fun x24 h =>
 vguard x21 true (fun kk => vfaddr 0 x24 h kk) h fun x25 h =>
 vguard x21 true (fun kk => vload false 1 x25 h kk) h fun x26 h =>
 vguard x21 true (fun kk => kk x0 h) h fun x27 h =>
 vguard x21 true (fun kk => vop O (.nilck (.k x27)) h 28 kk) h fun x28 h =>
 vguard x21 true (fun kk => vfaddr 1 x28 h kk) h fun x29 h =>
 vguard x21 true (fun kk => vload false 1 x29 h kk) h fun x30 h =>
 vguard x21 true (fun kk => viaddr 4 x26 x30 h kk) h fun x31 h =>
 vguard x21 true (fun kk => vfaddr 0 x31 h kk) h fun x32 h =>
 vguard x21 true (fun kk => vload false 1 x32 h kk) h fun x33 h =>
 vguard x21 true (fun kk => vbin .eql 0 x33 (kI 4) h kk) h fun x34 h =>
 vop O (.pick (.k x21) (.k x34) (.k (kB false))) h 35 fun x35 h =>
 vguard x35 true (fun kk => kk x0 h) h fun x37 h =>
 vguard x35 true (fun kk => vop O (.nilck (.k x37)) h 38 kk) h fun x38 h =>
 vguard x35 true (fun kk => vfaddr 0 x38 h kk) h fun x39 h =>
 vguard x35 true (fun kk => vload false 1 x39 h kk) h fun x40 h =>
 vguard x35 true (fun kk => kk x0 h) h fun x41 h =>
 vguard x35 true (fun kk => vop O (.nilck (.k x41)) h 42 kk) h fun x42 h =>
 vguard x35 true (fun kk => vfaddr 1 x42 h kk) h fun x43 h =>
 vguard x35 true (fun kk => vload false 1 x43 h kk) h fun x44 h =>
 vguard x35 true (fun kk => viaddr 4 x40 x44 h kk) h fun x45 h =>
 vguard x35 true (fun kk => vfaddr 1 x45 h kk) h fun x46 h =>
 vguard x35 true (fun kk => vload false 1 x46 h kk) h fun x47 h =>
 vguard x35 true (fun kk => kk x1 h) h fun x48 h =>
 vguard x35 true (fun kk => vbin .eql 0 x47 x48 h kk) h fun x49 h =>
 vop O (.pick (.k x35) (.k x49) (.k (kB false))) h 50 fun x50 h =>
 tcomp x50 fun c0 => vfin true q [c0] h
theorem e129_0 (O : Oracle) (R : Jump) (q : Nat) (x0 x1 : TVal) (h : Heap) : b129_0 O R q x0 x1 h = stepF c129 O R q 0 [x0, x1] h := by kernel_rfl
noncomputable def d129 : BlkF := fun O R q => [.s fun y0 => .s fun y1 => .z fun h => b129_0 O R q y0 y1 h]
theorem o129 (O : Oracle) (R : Jump) (q : Nat) : HoldsAll c129 O R q 0 (d129 O R q) := ⟨fun y0 y1 h => e129_0 O R q y0 y1 h, trivial⟩
/- (*sprue/sprueref7.reader).end -/
def c130 : MFunc := { np := 1, res := [.t 2], frz := true, body := (.seq (.reg [(oA 2 (.mv (.k (.v (.c (.p (.int .i64 0)))))))] []) (.seq (.seq (.reg [(oA 3 (.mv (.t 0))), (oA 4 (.nilck (.t 3))), (oA 5 (.faddr 1 (.t 4))), (oA 6 (.load false 1 (.t 5))), (oA 7 (.mv (.t 0))), (oA 8 (.nilck (.t 7))), (oA 9 (.faddr 0 (.t 8))), (oA 10 (.load false 1 (.t 9))), (oA 11 (.len 2 (.t 10))), (oA 12 (.bin .lss 0 (.t 6) (.t 11)))] []) (.cond (.t 12) (.reg [(oA 13 (.mv (.t 0))), (oA 14 (.call (.k (.v (.c (.func 190 [])))) [(.t 13), (.k (.v (.c (.p (.int .i64 12)))))]))] []) .skip)) (.mark 1 [0] (.seq (.reg [(oA 15 (.mv (.t 0))), (oA 16 (.nilck (.t 15))), (oA 17 (.faddr 2 (.t 16))), (oA 18 (.load false 1 (.t 17))), (oA 2 (.mv (.t 18)))] []) .ret)))) }
theorem t130 : compF Tryz.prog (globs2 tabs opq) (fun _ => false) true Tryz.f130 = some c130.erase := by kernel_rfl
noncomputable def b130_0 (O : Oracle) (R : Jump) (q : Nat) (x0 : TVal) (h : Heap) : Res1 :=
 vop O (.nilck (.k x0)) h 4 fun x4 h =>
 vfaddr 1 x4 h fun x5 h =>
 vload false 1 x5 h fun x6 h =>
 vop O (.nilck (.k x0)) h 8 fun x8 h =>
 vfaddr 0 x8 h fun x9 h =>
 vload false 1 x9 h fun x10 h =>
 vlen O 2 x10 h 11 fun x11 h =>
 vbin .lss 0 x6 x11 h fun x12 h =>
 vif x12 (
 vcall O (.v (.c (.func 190 []))) [x0, (kI 12)] h 14 fun x14 h =>
 R 1 [x0] h)
 (R 1 [x0] h)
theorem e130_0 (O : Oracle) (R : Jump) (q : Nat) (x0 : TVal) (h : Heap) : b130_0 O R q x0 h = stepF c130 O R q 0 [x0] h := by kernel_rfl
noncomputable def b130_1 (O : Oracle) (R : Jump) (q : Nat) (x0 : TVal) (h : Heap) : Res1 :=
 vop O (.nilck (.k x0)) h 16 fun x16 h =>
 vfaddr 2 x16 h fun x17 h =>
 vload false 1 x17 h fun x18 h =>
 tcomp x18 fun c0 => vfin true q [c0] h
theorem e130_1 (O : Oracle) (R : Jump) (q : Nat) (x0 : TVal) (h : Heap) : b130_1 O R q x0 h = stepF c130 O R q 1 [x0] h := by kernel_rfl
noncomputable def d130 : BlkF := fun O R q => [.s fun y0 => .z fun h => b130_0 O R q y0 h, .s fun y0 => .z fun h => b130_1 O R q y0 h]
theorem o130 (O : Oracle) (R : Jump) (q : Nat) : HoldsAll c130 O R q 0 (d130 O R q) := ⟨fun y0 h => e130_0 O R q y0 h, fun y0 h => e130_1 O R q y0 h, trivial⟩
/- (*sprue/sprueref7.parser).place -/
def c131 : MFunc := { np := 3, res := [.t 6], frz := true, body := (.seq (.reg [(oA 5 (.box (.t 2) true)), (oA 6 (.mv (.k (.v (.c (.p (.int .i64 0)))))))] []) (.seq (.seq (.reg [(oA 7 (.mv (.t 1)))] []) (.block 0 (.seq (.reg [(oA 9 (.bin .eql 0 (.t 7) (.k (.v (.c (.p (.str [109, 97, 116, 99, 104]))))))), (oA 8 (.mv (.t 9)))] []) (.cond (.t 8) (.seq (.reg [(oA 10 (.mv (.t 0))), (oA 11 (.mv (.t 1))), (oA 12 (.load true 9 (.t 5))), (oA 13 (.call (.k (.v (.c (.func 191 [])))) [(.t 10), (.t 11), (.t 12), (.k (.v (.c (.p (.int .i64 3))))), (.k (.v (.c (.p (.str [])))))])), (oA 6 (.mv (.t 13)))] []) .ret) (.seq (.seq (.reg [(oA 15 (.bin .eql 0 (.t 7) (.k (.v (.c (.p (.str [105, 102]))))))), (oA 14 (.mv (.t 15)))] []) (.cond (.t 14) .skip (.seq (.reg [(oA 16 (.bin .eql 0 (.t 7) (.k (.v (.c (.p (.str [119, 105, 116, 104]))))))), (oA 14 (.mv (.t 16)))] []) (.cond (.t 14) .skip (.reg [(oA 17 (.bin .eql 0 (.t 7) (.k (.v (.c (.p (.str [114, 97, 110, 103, 101]))))))), (oA 14 (.mv (.t 17)))] []))))) (.mark 1 [0, 1, 5, 7, 14] (.cond (.t 14) (.seq (.reg [(oA 18 (.mv (.t 0))), (oA 19 (.mv (.t 1))), (oA 20 (.load true 9 (.t 5))), (oA 21 (.call (.k (.v (.c (.func 191 [])))) [(.t 18), (.t 19), (.t 20), (.k (.v (.c (.p (.int .i64 0))))), (.k (.v (.c (.p (.str [])))))])), (oA 6 (.mv (.t 21)))] []) .ret) (.seq (.seq (.reg [(oA 23 (.bin .eql 0 (.t 7) (.k (.v (.c (.p (.str [101, 108, 115, 101]))))))), (oA 22 (.mv (.t 23)))] []) (.cond (.t 22) .skip (.reg [(oA 24 (.bin .eql 0 (.t 7) (.k (.v (.c (.p (.str [99, 97, 115, 101]))))))), (oA 22 (.mv (.t 24)))] []))) (.mark 2 [0, 1, 5, 7, 22] (.cond (.t 22) (.seq (.reg [(oA 25 (.mv (.t 0))), (oA 26 (.mv (.t 1))), (oA 27 (.faddr 3 (.t 5))), (oA 28 (.load false 1 (.t 27))), (oA 29 (.call (.k (.v (.c (.func 192 [])))) [(.t 25), (.t 26), (.t 28)])), (oA 6 (.mv (.t 29)))] []) .ret) (.seq (.reg [(oA 31 (.bin .eql 0 (.t 7) (.k (.v (.c (.p (.str [101, 110, 100]))))))), (oA 30 (.mv (.t 31)))] []) (.cond (.t 30) (.seq (.reg [(oA 32 (.mv (.t 0))), (oA 33 (.call (.k (.v (.c (.func 193 [])))) [(.t 32)])), (oA 6 (.mv (.t 33)))] []) .ret) (.seq (.reg [(oA 35 (.bin .eql 0 (.t 7) (.k (.v (.c (.p (.str [100, 101, 102, 105, 110, 101]))))))), (oA 34 (.mv (.t 35)))] []) (.cond (.t 34) (.seq (.reg [(oA 36 (.mv (.t 0))), (oA 37 (.faddr 3 (.t 5))), (oA 38 (.load false 1 (.t 37))), (oA 39 (.call (.k (.v (.c (.func 194 [])))) [(.t 36), (.t 38)])), (oA 6 (.mv (.t 39)))] []) .ret) (.seq (.reg [(oA 41 (.bin .eql 0 (.t 7) (.k (.v (.c (.p (.str [116, 101, 109, 112, 108, 97, 116, 101]))))))), (oA 40 (.mv (.t 41)))] []) (.cond (.t 40) (.seq (.seq (.reg [(oA 42 (.mv (.t 0))), (oA 43 (.nilck (.t 42))), (oA 44 (.faddr 0 (.t 43))), (oA 45 (.load false 1 (.t 44))), (oA 46 (.len 2 (.t 45))), (oA 47 (.bin .gtr 0 (.t 46) (.k (.v (.c (.p (.int .i64 0))))))), (oA 48 (.mv (.t 47))), ⟨(some 49), (.mv (.t 0)), (some (48, true))⟩, ⟨(some 50), (.nilck (.t 49)), (some (48, true))⟩, ⟨(some 51), (.faddr 0 (.t 50)), (some (48, true))⟩, ⟨(some 52), (.load false 1 (.t 51)), (some (48, true))⟩, ⟨(some 53), (.mv (.t 0)), (some (48, true))⟩, ⟨(some 54), (.nilck (.t 53)), (some (48, true))⟩, ⟨(some 55), (.faddr 0 (.t 54)), (some (48, true))⟩, ⟨(some 56), (.load false 1 (.t 55)), (some (48, true))⟩, ⟨(some 57), (.len 2 (.t 56)), (some (48, true))⟩, ⟨(some 58), (.bin .sub 0 (.t 57) (.k (.v (.c (.p (.int .i64 1)))))), (some (48, true))⟩, ⟨(some 59), (.iaddr 12 (.t 52) (.t 58)), (some (48, true))⟩, ⟨(some 60), (.faddr 10 (.t 59)), (some (48, true))⟩, ⟨(some 61), (.load false 1 (.t 60)), (some (48, true))⟩, ⟨(some 62), (.bin .eql 0 (.t 61) (.k (.v (.c (.p (.int .i64 3)))))), (some (48, true))⟩, (oA 63 (.pick (.t 48) (.t 62) (.k (.v (.c (.p (.bool false)))))))] []) (.cond (.t 63) (.seq (.reg [(oA 6 (.mv (.k (.v (.c (.p (.int .i64 12)))))))] []) .ret) .skip)) (.seq (.reg [(oA 64 (.faddr 3 (.t 5))), (oA 65 (.load false 1 (.t 64))), (oA 66 (.call (.k (.v (.c (.func 195 [])))) [(.t 65)])), (oA 67 (.un .not (.t 66)))] []) (.cond (.t 67) (.seq (.reg [(oA 6 (.mv (.k (.v (.c (.p (.int .i64 15)))))))] []) .ret) .skip))) .skip)))))))))))))))) (.mark 3 [0, 5] (.seq (.seq (.reg [(oA 68 (.mv (.t 0))), (oA 69 (.load true 9 (.t 5))), (oA 70 (.call (.k (.v (.c (.func 132 [])))) [(.t 68), (.t 69)])), (oA 71 (.un .not (.t 70)))] []) (.cond (.t 71) (.seq (.reg [(oA 6 (.mv (.k (.v (.c (.p (.int .i64 12)))))))] []) .ret) .skip)) (.seq (.reg [(oA 6 (.mv (.k (.v (.c (.p (.int .i64 0)))))))] []) .ret))))) }
theorem t131 : compF Tryz.prog (globs2 tabs opq) (fun _ => true) true Tryz.f131 = some c131.erase := by kernel_rfl
noncomputable def b131_0 (O : Oracle) (R : Jump) (q : Nat) (x0 x1 x2 : TVal) (h : Heap) : Res1 :=
 vop O (.box (.k x2) true) h 5 fun x5 h =>
 vbin .eql 0 x1 (kS [109, 97, 116, 99, 104]) h fun x9 h =>
 vif x9 (
 vload true 9 x5 h fun x12 h =>
 vcall O (.v (.c (.func 191 []))) [x0, x1, x12, (kI 3), (kS [])] h 13 fun x13 h =>
 tcomp x13 fun c0 => vfin true q [c0] h)
 (vbin .eql 0 x1 (kS [105, 102]) h fun x15 h =>
 vif x15 (
 R 1 [x0, x1, x5, x1, x15] h)
 (vbin .eql 0 x1 (kS [119, 105, 116, 104]) h fun x16 h =>
 vif x16 (
 R 1 [x0, x1, x5, x1, x16] h)
 (vbin .eql 0 x1 (kS [114, 97, 110, 103, 101]) h fun x17 h =>
 R 1 [x0, x1, x5, x1, x17] h)))
theorem e131_0 (O : Oracle) (R : Jump) (q : Nat) (x0 x1 x2 : TVal) (h : Heap) : b131_0 O R q x0 x1 x2 h = stepF c131 O R q 0 [x0, x1, x2] h := by kernel_rfl
noncomputable def b131_1 (O : Oracle) (R : Jump) (q : Nat) (x0 x1 x5 x7 x14 : TVal) (h : Heap) : Res1 :=
 vif x14 (
 vload true 9 x5 h fun x20 h =>
 vcall O (.v (.c (.func 191 []))) [x0, x1, x20, (kI 0), (kS [])] h 21 fun x21 h =>
 tcomp x21 fun c0 => vfin true q [c0] h)
 (vbin .eql 0 x7 (kS [101, 108, 115, 101]) h fun x23 h =>
 vif x23 (
 R 2 [x0, x1, x5, x7, x23] h)
 (vbin .eql 0 x7 (kS [99, 97, 115, 101]) h fun x24 h =>
 R 2 [x0, x1, x5, x7, x24] h))
theorem e131_1 (O : Oracle) (R : Jump) (q : Nat) (x0 x1 x5 x7 x14 : TVal) (h : Heap) : b131_1 O R q x0 x1 x5 x7 x14 h = stepF c131 O R q 1 [x0, x1, x5, x7, x14] h := by kernel_rfl
noncomputable def b131_2 (O : Oracle) (R : Jump) (q : Nat) (x0 x1 x5 x7 x22 : TVal) (h : Heap) : Res1 :=
 vif x22 (
 vfaddr 3 x5 h fun x27 h =>
 vload false 1 x27 h fun x28 h =>
 vcall O (.v (.c (.func 192 []))) [x0, x1, x28] h 29 fun x29 h =>
 tcomp x29 fun c0 => vfin true q [c0] h)
 (vbin .eql 0 x7 (kS [101, 110, 100]) h fun x31 h =>
 vif x31 (
 vcall O (.v (.c (.func 193 []))) [x0] h 33 fun x33 h =>
 tcomp x33 fun c0 => vfin true q [c0] h)
 (vbin .eql 0 x7 (kS [100, 101, 102, 105, 110, 101]) h fun x35 h =>
 vif x35 (
 vfaddr 3 x5 h fun x37 h =>
 vload false 1 x37 h fun x38 h =>
 vcall O (.v (.c (.func 194 []))) [x0, x38] h 39 fun x39 h =>
 tcomp x39 fun c0 => vfin true q [c0] h)
 (vbin .eql 0 x7 (kS [116, 101, 109, 112, 108, 97, 116, 101]) h fun x41 h =>
 vif x41 (
 vop O (.nilck (.k x0)) h 43 fun x43 h =>
 vfaddr 0 x43 h fun x44 h =>
 vload false 1 x44 h fun x45 h =>
 vlen O 2 x45 h 46 fun x46 h =>
 vbin .gtr 0 x46 (kI 0) h fun x47 h =>
 vguard x47 true (fun kk => kk x0 h) h fun x49 h =>
 vguard x47 true (fun kk => vop O (.nilck (.k x49)) h 50 kk) h fun x50 h =>
 vguard x47 true (fun kk => vfaddr 0 x50 h kk) h fun x51 h =>
 vguard x47 true (fun kk => vload false 1 x51 h kk) h fun x52 h =>
 vguard x47 true (fun kk => kk x0 h) h fun x53 h =>
 vguard x47 true (fun kk => vop O (.nilck (.k x53)) h 54 kk) h fun x54 h =>
 vguard x47 true (fun kk => vfaddr 0 x54 h kk) h fun x55 h =>
 vguard x47 true (fun kk => vload false 1 x55 h kk) h fun x56 h =>
 vguard x47 true (fun kk => vlen O 2 x56 h 57 kk) h fun x57 h =>
 vguard x47 true (fun kk => vbin .sub 0 x57 (kI 1) h kk) h fun x58 h =>
 vguard x47 true (fun kk => viaddr 12 x52 x58 h kk) h fun x59 h =>
 vguard x47 true (fun kk => vfaddr 10 x59 h kk) h fun x60 h =>
 vguard x47 true (fun kk => vload false 1 x60 h kk) h fun x61 h =>
 vguard x47 true (fun kk => vbin .eql 0 x61 (kI 3) h kk) h fun x62 h =>
 vop O (.pick (.k x47) (.k x62) (.k (kB false))) h 63 fun x63 h =>
 vif x63 (
 tcomp (kI 12) fun c0 => vfin true q [c0] h)
 (vfaddr 3 x5 h fun x64 h =>
 vload false 1 x64 h fun x65 h =>
 vcall O (.v (.c (.func 195 []))) [x65] h 66 fun x66 h =>
 vop O (.un .not (.k x66)) h 67 fun x67 h =>
 vif x67 (
 tcomp (kI 15) fun c0 => vfin true q [c0] h)
 (R 3 [x0, x5] h)))
 (R 3 [x0, x5] h))))
theorem e131_2 (O : Oracle) (R : Jump) (q : Nat) (x0 x1 x5 x7 x22 : TVal) (h : Heap) : b131_2 O R q x0 x1 x5 x7 x22 h = stepF c131 O R q 2 [x0, x1, x5, x7, x22] h := by kernel_rfl
noncomputable def b131_3 (O : Oracle) (R : Jump) (q : Nat) (x0 x5 : TVal) (h : Heap) : Res1 :=
 vload true 9 x5 h fun x69 h =>
 vcall O (.v (.c (.func 132 []))) [x0, x69] h 70 fun x70 h =>
 vop O (.un .not (.k x70)) h 71 fun x71 h =>
 vif x71 (
 tcomp (kI 12) fun c0 => vfin true q [c0] h)
 (tcomp (kI 0) fun c0 => vfin true q [c0] h)
theorem e131_3 (O : Oracle) (R : Jump) (q : Nat) (x0 x5 : TVal) (h : Heap) : b131_3 O R q x0 x5 h = stepF c131 O R q 3 [x0, x5] h := by kernel_rfl
noncomputable def d131 : BlkF := fun O R q => [.s fun y0 => .s fun y1 => .s fun y2 => .z fun h => b131_0 O R q y0 y1 y2 h, .s fun y0 => .s fun y1 => .s fun y2 => .s fun y3 => .s fun y4 => .z fun h => b131_1 O R q y0 y1 y2 y3 y4 h, .s fun y0 => .s fun y1 => .s fun y2 => .s fun y3 => .s fun y4 => .z fun h => b131_2 O R q y0 y1 y2 y3 y4 h, .s fun y0 => .s fun y1 => .z fun h => b131_3 O R q y0 y1 h]
theorem o131 (O : Oracle) (R : Jump) (q : Nat) : HoldsAll c131 O R q 0 (d131 O R q) := ⟨fun y0 y1 y2 h => e131_0 O R q y0 y1 y2 h, fun y0 y1 y2 y3 y4 h => e131_1 O R q y0 y1 y2 y3 y4 h, fun y0 y1 y2 y3 y4 h => e131_2 O R q y0 y1 y2 y3 y4 h, fun y0 y1 h => e131_3 O R q y0 y1 h, trivial⟩
/- (*sprue/sprueref7.parser).put -/
def c132 : MFunc := { np := 2, res := [.t 4], frz := true, body := (.seq (.reg [(oA 3 (.box (.t 1) true)), (oA 4 (.mv (.k (.v (.c (.p (.bool false)))))))] []) (.seq (.seq (.reg [(oA 7 (.mv (.t 0))), (oA 8 (.nilck (.t 7))), (oA 9 (.faddr 0 (.t 8))), (oA 10 (.load false 1 (.t 9))), (oA 11 (.len 2 (.t 10))), (oA 12 (.bin .eql 0 (.t 11) (.k (.v (.c (.p (.int .i64 0)))))))] []) (.cond (.t 12) (.seq (.reg [(oA 13 (.mv (.t 0))), (oA 14 (.nilck (.t 13))), (oA 15 (.faddr 1 (.t 14))), (oA 16 (.load false 1 (.t 15))), (oA 17 (.load true 9 (.t 3))), (oA 18 (.len 2 (.t 16))), (oA 19 (.bslice 9 1 [(.p (.int .i64 0)), (.p (.int .i64 0)), (.p (.str [])), (.p (.str [])), (.p .nilslice), (.p .nilslice), (.p .nilslice), (.p (.bool false)), (.p .nilslice)] [(0, (.k (.v (.agg [(.p (.int .i64 0)), (.p (.int .i64 0)), (.p (.str [])), (.p (.str [])), (.p .nilslice), (.p .nilslice), (.p .nilslice), (.p (.bool false)), (.p .nilslice)]))))] true)), (oA 20 (.append 9 152 true (.t 16) (.t 19))), (oA 21 (.iaddr 9 (.t 20) (.t 18))), (oN (.store 9 (.t 21) (.t 17))), (oA 22 (.nilck (.t 13))), (oA 23 (.faddr 1 (.t 22))), (oN (.store 1 (.t 23) (.t 20)))] [(3, 6), (4, 6), (5, 6), (9, 12)]) (.seq (.reg [(oA 4 (.mv (.k (.v (.c (.p (.bool true)))))))] []) .ret)) .skip)) (.seq (.reg [(oA 24 (.mv (.t 0))), (oA 25 (.nilck (.t 24))), (oA 26 (.faddr 0 (.t 25))), (oA 27 (.load false 1 (.t 26))), (oA 28 (.mv (.t 0))), (oA 29 (.nilck (.t 28))), (oA 30 (.faddr 0 (.t 29))), (oA 31 (.load false 1 (.t 30))), (oA 32 (.len 2 (.t 31))), (oA 33 (.bin .sub 0 (.t 32) (.k (.v (.c (.p (.int .i64 1))))))), (oA 34 (.iaddr 12 (.t 27) (.t 33))), (oA 5 (.mv (.t 34)))] []) (.seq (.seq (.reg [(oA 35 (.mv (.t 5))), (oA 36 (.nilck (.t 35))), (oA 37 (.faddr 10 (.t 36))), (oA 38 (.load false 1 (.t 37)))] []) (.block 0 (.seq (.reg [(oA 40 (.bin .eql 0 (.t 38) (.k (.v (.c (.p (.int .i64 0))))))), (oA 39 (.mv (.t 40)))] []) (.cond (.t 39) (.reg [(oA 41 (.mv (.t 5))), (oA 42 (.nilck (.t 41))), (oA 43 (.faddr 1 (.t 42))), (oA 44 (.faddr 5 (.t 43))), (oA 45 (.load false 1 (.t 44))), (oA 46 (.load true 9 (.t 3))), (oA 47 (.len 2 (.t 45))), (oA 48 (.bslice 9 1 [(.p (.int .i64 0)), (.p (.int .i64 0)), (.p (.str [])), (.p (.str [])), (.p .nilslice), (.p .nilslice), (.p .nilslice), (.p (.bool false)), (.p .nilslice)] [(0, (.k (.v (.agg [(.p (.int .i64 0)), (.p (.int .i64 0)), (.p (.str [])), (.p (.str [])), (.p .nilslice), (.p .nilslice), (.p .nilslice), (.p (.bool false)), (.p .nilslice)]))))] true)), (oA 49 (.append 9 152 true (.t 45) (.t 48))), (oA 50 (.iaddr 9 (.t 49) (.t 47))), (oN (.store 9 (.t 50) (.t 46))), (oA 51 (.nilck (.t 41))), (oA 52 (.faddr 1 (.t 51))), (oA 53 (.faddr 5 (.t 52))), (oN (.store 1 (.t 53) (.t 49)))] [(4, 7), (5, 7), (6, 7), (10, 14)]) (.seq (.reg [(oA 55 (.bin .eql 0 (.t 38) (.k (.v (.c (.p (.int .i64 1))))))), (oA 54 (.mv (.t 55)))] []) (.cond (.t 54) (.reg [(oA 56 (.mv (.t 5))), (oA 57 (.nilck (.t 56))), (oA 58 (.faddr 1 (.t 57))), (oA 59 (.faddr 6 (.t 58))), (oA 60 (.load false 1 (.t 59))), (oA 61 (.load true 9 (.t 3))), (oA 62 (.len 2 (.t 60))), (oA 63 (.bslice 9 1 [(.p (.int .i64 0)), (.p (.int .i64 0)), (.p (.str [])), (.p (.str [])), (.p .nilslice), (.p .nilslice), (.p .nilslice), (.p (.bool false)), (.p .nilslice)] [(0, (.k (.v (.agg [(.p (.int .i64 0)), (.p (.int .i64 0)), (.p (.str [])), (.p (.str [])), (.p .nilslice), (.p .nilslice), (.p .nilslice), (.p (.bool false)), (.p .nilslice)]))))] true)), (oA 64 (.append 9 152 true (.t 60) (.t 63))), (oA 65 (.iaddr 9 (.t 64) (.t 62))), (oN (.store 9 (.t 65) (.t 61))), (oA 66 (.nilck (.t 56))), (oA 67 (.faddr 1 (.t 66))), (oA 68 (.faddr 6 (.t 67))), (oN (.store 1 (.t 68) (.t 64)))] [(4, 7), (5, 7), (6, 7), (10, 14)]) (.seq (.reg [(oA 70 (.bin .eql 0 (.t 38) (.k (.v (.c (.p (.int .i64 2))))))), (oA 69 (.mv (.t 70)))] []) (.cond (.t 69) (.seq (.reg [(oA 71 (.mv (.t 5))), (oA 72 (.nilck (.t 71))), (oA 73 (.faddr 1 (.t 72))), (oA 74 (.faddr 8 (.t 73))), (oA 75 (.load false 1 (.t 74))), (oA 76 (.mv (.t 5))), (oA 77 (.nilck (.t 76))), (oA 78 (.faddr 1 (.t 77))), (oA 79 (.faddr 8 (.t 78))), (oA 80 (.load false 1 (.t 79))), (oA 81 (.len 2 (.t 80))), (oA 82 (.bin .sub 0 (.t 81) (.k (.v (.c (.p (.int .i64 1))))))), (oA 83 (.iaddr 2 (.t 75) (.t 82))), (oA 6 (.mv (.t 83)))] []) (.reg [(oA 84 (.mv (.t 6))), (oA 85 (.nilck (.t 84))), (oA 86 (.faddr 1 (.t 85))), (oA 87 (.load false 1 (.t 86))), (oA 88 (.load true 9 (.t 3))), (oA 89 (.len 2 (.t 87))), (oA 90 (.bslice 9 1 [(.p (.int .i64 0)), (.p (.int .i64 0)), (.p (.str [])), (.p (.str [])), (.p .nilslice), (.p .nilslice), (.p .nilslice), (.p (.bool false)), (.p .nilslice)] [(0, (.k (.v (.agg [(.p (.int .i64 0)), (.p (.int .i64 0)), (.p (.str [])), (.p (.str [])), (.p .nilslice), (.p .nilslice), (.p .nilslice), (.p (.bool false)), (.p .nilslice)]))))] true)), (oA 91 (.append 9 152 true (.t 87) (.t 90))), (oA 92 (.iaddr 9 (.t 91) (.t 89))), (oN (.store 9 (.t 92) (.t 88))), (oA 93 (.nilck (.t 84))), (oA 94 (.faddr 1 (.t 93))), (oN (.store 1 (.t 94) (.t 91)))] [(3, 6), (4, 6), (5, 6), (9, 12)])) (.seq (.reg [(oA 4 (.mv (.k (.v (.c (.p (.bool false)))))))] []) .ret))))))))) (.seq (.reg [(oA 4 (.mv (.k (.v (.c (.p (.bool true)))))))] []) .ret))))) }
theorem t132 : compF Tryz.prog (globs2 tabs opq) (fun _ => true) true Tryz.f132 = some c132.erase := by kernel_rfl
noncomputable def b132_0 (O : Oracle) (R : Jump) (q : Nat) (x0 x1 : TVal) (h : Heap) : Res1 :=
 vop O (.box (.k x1) true) h 3 fun x3 h =>
 vop O (.nilck (.k x0)) h 8 fun x8 h =>
 vfaddr 0 x8 h fun x9 h =>
 vload false 1 x9 h fun x10 h =>
 vlen O 2 x10 h 11 fun x11 h =>
 vbin .eql 0 x11 (kI 0) h fun x12 h =>
 vif x12 (
 vtouch O (.mv (.k x0)) h 13 fun x13 h t0 =>
 vtouch O (.nilck (.k x13)) h 14 fun x14 h t1 =>
 vtouch O (.faddr 1 (.k x14)) h 15 fun x15 h t2 =>
 vtouch O (.load false 1 (.k x15)) h 16 fun x16 h t3 =>
 vtouch O (.load true 9 (.k x3)) h 17 fun x17 h t4 =>
 vtouch O (.len 2 (.k x16)) h 18 fun x18 h t5 =>
 vtouch O (.bslice 9 1 [(.p (.int .i64 0)), (.p (.int .i64 0)), (.p (.str [])), (.p (.str [])), (.p .nilslice), (.p .nilslice), (.p .nilslice), (.p (.bool false)), (.p .nilslice)] [(0, (.k (.v (.agg [(.p (.int .i64 0)), (.p (.int .i64 0)), (.p (.str [])), (.p (.str [])), (.p .nilslice), (.p .nilslice), (.p .nilslice), (.p (.bool false)), (.p .nilslice)]))))] true) h 19 fun x19 h t6 =>
 vtouch O (.append 9 152 true (.k x16) (.k x19)) h 20 fun x20 h t7 =>
 vtouch O (.iaddr 9 (.k x20) (.k x18)) h 21 fun x21 h t8 =>
 vtouch O (.store 9 (.k x21) (.k x17)) h 1000000 fun _ h t9 =>
 vtouch O (.nilck (.k x13)) h 22 fun x22 h t10 =>
 vtouch O (.faddr 1 (.k x22)) h 23 fun x23 h t11 =>
 vtouch O (.store 1 (.k x23) (.k x20)) h 1000000 fun _ h t12 =>
 bif apartAll [t0, t1, t2, t3, t4, t5, t6, t7, t8, t9, t10, t11, t12] [(3, 6), (4, 6), (5, 6), (9, 12)] then
 tcomp (kB true) fun c0 => vfin true q [c0] h
 else none)
 (vop O (.nilck (.k x0)) h 25 fun x25 h =>
 vfaddr 0 x25 h fun x26 h =>
 vload false 1 x26 h fun x27 h =>
 vop O (.nilck (.k x0)) h 29 fun x29 h =>
 vfaddr 0 x29 h fun x30 h =>
 vload false 1 x30 h fun x31 h =>
 vlen O 2 x31 h 32 fun x32 h =>
 vbin .sub 0 x32 (kI 1) h fun x33 h =>
 viaddr 12 x27 x33 h fun x34 h =>
 vop O (.nilck (.k x34)) h 36 fun x36 h =>
 vfaddr 10 x36 h fun x37 h =>
 vload false 1 x37 h fun x38 h =>
 vbin .eql 0 x38 (kI 0) h fun x40 h =>
 vif x40 (
 vtouch O (.mv (.k x34)) h 41 fun x41 h t0 =>
 vtouch O (.nilck (.k x41)) h 42 fun x42 h t1 =>
 vtouch O (.faddr 1 (.k x42)) h 43 fun x43 h t2 =>
 vtouch O (.faddr 5 (.k x43)) h 44 fun x44 h t3 =>
 vtouch O (.load false 1 (.k x44)) h 45 fun x45 h t4 =>
 vtouch O (.load true 9 (.k x3)) h 46 fun x46 h t5 =>
 vtouch O (.len 2 (.k x45)) h 47 fun x47 h t6 =>
 vtouch O (.bslice 9 1 [(.p (.int .i64 0)), (.p (.int .i64 0)), (.p (.str [])), (.p (.str [])), (.p .nilslice), (.p .nilslice), (.p .nilslice), (.p (.bool false)), (.p .nilslice)] [(0, (.k (.v (.agg [(.p (.int .i64 0)), (.p (.int .i64 0)), (.p (.str [])), (.p (.str [])), (.p .nilslice), (.p .nilslice), (.p .nilslice), (.p (.bool false)), (.p .nilslice)]))))] true) h 48 fun x48 h t7 =>
 vtouch O (.append 9 152 true (.k x45) (.k x48)) h 49 fun x49 h t8 =>
 vtouch O (.iaddr 9 (.k x49) (.k x47)) h 50 fun x50 h t9 =>
 vtouch O (.store 9 (.k x50) (.k x46)) h 1000000 fun _ h t10 =>
 vtouch O (.nilck (.k x41)) h 51 fun x51 h t11 =>
 vtouch O (.faddr 1 (.k x51)) h 52 fun x52 h t12 =>
 vtouch O (.faddr 5 (.k x52)) h 53 fun x53 h t13 =>
 vtouch O (.store 1 (.k x53) (.k x49)) h 1000000 fun _ h t14 =>
 bif apartAll [t0, t1, t2, t3, t4, t5, t6, t7, t8, t9, t10, t11, t12, t13, t14] [(4, 7), (5, 7), (6, 7), (10, 14)] then
 tcomp (kB true) fun c0 => vfin true q [c0] h
 else none)
 (vbin .eql 0 x38 (kI 1) h fun x55 h =>
 vif x55 (
 vtouch O (.mv (.k x34)) h 56 fun x56 h t0 =>
 vtouch O (.nilck (.k x56)) h 57 fun x57 h t1 =>
 vtouch O (.faddr 1 (.k x57)) h 58 fun x58 h t2 =>
 vtouch O (.faddr 6 (.k x58)) h 59 fun x59 h t3 =>
 vtouch O (.load false 1 (.k x59)) h 60 fun x60 h t4 =>
 vtouch O (.load true 9 (.k x3)) h 61 fun x61 h t5 =>
 vtouch O (.len 2 (.k x60)) h 62 fun x62 h t6 =>
 vtouch O (.bslice 9 1 [(.p (.int .i64 0)), (.p (.int .i64 0)), (.p (.str [])), (.p (.str [])), (.p .nilslice), (.p .nilslice), (.p .nilslice), (.p (.bool false)), (.p .nilslice)] [(0, (.k (.v (.agg [(.p (.int .i64 0)), (.p (.int .i64 0)), (.p (.str [])), (.p (.str [])), (.p .nilslice), (.p .nilslice), (.p .nilslice), (.p (.bool false)), (.p .nilslice)]))))] true) h 63 fun x63 h t7 =>
 vtouch O (.append 9 152 true (.k x60) (.k x63)) h 64 fun x64 h t8 =>
 vtouch O (.iaddr 9 (.k x64) (.k x62)) h 65 fun x65 h t9 =>
 vtouch O (.store 9 (.k x65) (.k x61)) h 1000000 fun _ h t10 =>
 vtouch O (.nilck (.k x56)) h 66 fun x66 h t11 =>
 vtouch O (.faddr 1 (.k x66)) h 67 fun x67 h t12 =>
 vtouch O (.faddr 6 (.k x67)) h 68 fun x68 h t13 =>
 vtouch O (.store 1 (.k x68) (.k x64)) h 1000000 fun _ h t14 =>
 bif apartAll [t0, t1, t2, t3, t4, t5, t6, t7, t8, t9, t10, t11, t12, t13, t14] [(4, 7), (5, 7), (6, 7), (10, 14)] then
 tcomp (kB true) fun c0 => vfin true q [c0] h
 else none)
 (vbin .eql 0 x38 (kI 2) h fun x70 h =>
 vif x70 (
 vop O (.nilck (.k x34)) h 72 fun x72 h =>
 vfaddr 1 x72 h fun x73 h =>
 vfaddr 8 x73 h fun x74 h =>
 vload false 1 x74 h fun x75 h =>
 vop O (.nilck (.k x34)) h 77 fun x77 h =>
 vfaddr 1 x77 h fun x78 h =>
 vfaddr 8 x78 h fun x79 h =>
 vload false 1 x79 h fun x80 h =>
 vlen O 2 x80 h 81 fun x81 h =>
 vbin .sub 0 x81 (kI 1) h fun x82 h =>
 viaddr 2 x75 x82 h fun x83 h =>
 vtouch O (.mv (.k x83)) h 84 fun x84 h t0 =>
 vtouch O (.nilck (.k x84)) h 85 fun x85 h t1 =>
 vtouch O (.faddr 1 (.k x85)) h 86 fun x86 h t2 =>
 vtouch O (.load false 1 (.k x86)) h 87 fun x87 h t3 =>
 vtouch O (.load true 9 (.k x3)) h 88 fun x88 h t4 =>
 vtouch O (.len 2 (.k x87)) h 89 fun x89 h t5 =>
 vtouch O (.bslice 9 1 [(.p (.int .i64 0)), (.p (.int .i64 0)), (.p (.str [])), (.p (.str [])), (.p .nilslice), (.p .nilslice), (.p .nilslice), (.p (.bool false)), (.p .nilslice)] [(0, (.k (.v (.agg [(.p (.int .i64 0)), (.p (.int .i64 0)), (.p (.str [])), (.p (.str [])), (.p .nilslice), (.p .nilslice), (.p .nilslice), (.p (.bool false)), (.p .nilslice)]))))] true) h 90 fun x90 h t6 =>
 vtouch O (.append 9 152 true (.k x87) (.k x90)) h 91 fun x91 h t7 =>
 vtouch O (.iaddr 9 (.k x91) (.k x89)) h 92 fun x92 h t8 =>
 vtouch O (.store 9 (.k x92) (.k x88)) h 1000000 fun _ h t9 =>
 vtouch O (.nilck (.k x84)) h 93 fun x93 h t10 =>
 vtouch O (.faddr 1 (.k x93)) h 94 fun x94 h t11 =>
 vtouch O (.store 1 (.k x94) (.k x91)) h 1000000 fun _ h t12 =>
 bif apartAll [t0, t1, t2, t3, t4, t5, t6, t7, t8, t9, t10, t11, t12] [(3, 6), (4, 6), (5, 6), (9, 12)] then
 tcomp (kB true) fun c0 => vfin true q [c0] h
 else none)
 (tcomp (kB false) fun c0 => vfin true q [c0] h))))
theorem e132_0 (O : Oracle) (R : Jump) (q : Nat) (x0 x1 : TVal) (h : Heap) : b132_0 O R q x0 x1 h = stepF c132 O R q 0 [x0, x1] h := by kernel_rfl
noncomputable def d132 : BlkF := fun O R q => [.s fun y0 => .s fun y1 => .z fun h => b132_0 O R q y0 y1 h]
theorem o132 (O : Oracle) (R : Jump) (q : Nat) : HoldsAll c132 O R q 0 (d132 O R q) := ⟨fun y0 y1 h => e132_0 O R q y0 y1 h, trivial⟩
/- sprue/sprueref7.blanks -/
def c133 : MFunc := { np := 1, res := [.t 2], frz := true, body := (.seq (.reg [(oA 2 (.mv (.k (.v (.c (.p (.bool false)))))))] []) (.seq (.seq (.reg [(oA 3 (.mv (.k (.v (.c (.p (.int .i64 0)))))))] []) (.block 0 (.loop 1 [0, 3] (.seq (.seq (.reg [(oA 4 (.mv (.t 3))), (oA 5 (.mv (.t 0))), (oA 6 (.len 0 (.t 5))), (oA 7 (.bin .lss 0 (.t 4) (.t 6)))] []) (.cond (.t 7) .skip (.exit 0))) (.seq (.block 1 (.seq (.reg [(oA 10 (.mv (.t 0))), (oA 11 (.mv (.t 3))), (oA 12 (.index (.t 10) (.t 11))), (oA 13 (.bin .neq 0 (.t 12) (.k (.v (.c (.p (.int .u8 32))))))), (oA 14 (.mv (.t 13))), ⟨(some 15), (.mv (.t 0)), (some (14, true))⟩, ⟨(some 16), (.mv (.t 3)), (some (14, true))⟩, ⟨(some 17), (.index (.t 15) (.t 16)), (some (14, true))⟩, ⟨(some 18), (.bin .neq 0 (.t 17) (.k (.v (.c (.p (.int .u8 9)))))), (some (14, true))⟩, (oA 19 (.pick (.t 14) (.t 18) (.k (.v (.c (.p (.bool false))))))), (oA 20 (.mv (.t 19))), ⟨(some 21), (.mv (.t 0)), (some (20, true))⟩, ⟨(some 22), (.mv (.t 3)), (some (20, true))⟩, ⟨(some 23), (.index (.t 21) (.t 22)), (some (20, true))⟩, ⟨(some 24), (.bin .neq 0 (.t 23) (.k (.v (.c (.p (.int .u8 10)))))), (some (20, true))⟩, (oA 25 (.pick (.t 20) (.t 24) (.k (.v (.c (.p (.bool false))))))), (oA 26 (.mv (.t 25))), ⟨(some 27), (.mv (.t 0)), (some (26, true))⟩, ⟨(some 28), (.mv (.t 3)), (some (26, true))⟩, ⟨(some 29), (.index (.t 27) (.t 28)), (some (26, true))⟩, ⟨(some 30), (.bin .neq 0 (.t 29) (.k (.v (.c (.p (.int .u8 13)))))), (some (26, true))⟩, (oA 31 (.pick (.t 26) (.t 30) (.k (.v (.c (.p (.bool false)))))))] []) (.cond (.t 31) (.seq (.reg [(oA 2 (.mv (.k (.v (.c (.p (.bool false)))))))] []) .ret) .skip))) (.reg [(oA 8 (.mv (.t 3))), (oA 9 (.bin .add 0 (.t 8) (.k (.v (.c (.p (.int .i64 1))))))), (oA 3 (.mv (.t 9)))] [])))))) (.seq (.reg [(oA 2 (.mv (.k (.v (.c (.p (.bool true)))))))] []) .ret))) }
theorem t133 : compF Tryz.prog (globs2 tabs opq) (fun _ => false) true Tryz.f133 = some c133.erase := by kernel_rfl
noncomputable def b133_0 (O : Oracle) (R : Jump) (q : Nat) (x0 : TVal) (h : Heap) : Res1 :=
 R 1 [x0, (kI 0)] h
theorem e133_0 (O : Oracle) (R : Jump) (q : Nat) (x0 : TVal) (h : Heap) : b133_0 O R q x0 h = stepF c133 O R q 0 [x0] h := by kernel_rfl
noncomputable def b133_1 (O : Oracle) (R : Jump) (q : Nat) (x0 x3 : TVal) (h : Heap) : Res1 :=
 vlen O 0 x0 h 6 fun x6 h =>
 vbin .lss 0 x3 x6 h fun x7 h =>
 vif x7 (
 vindex x0 x3 h fun x12 h =>
 vbin .neq 0 x12 (.v (.c (.p (.int .u8 32)))) h fun x13 h =>
 vguard x13 true (fun kk => kk x0 h) h fun x15 h =>
 vguard x13 true (fun kk => kk x3 h) h fun x16 h =>
 vguard x13 true (fun kk => vindex x15 x16 h kk) h fun x17 h =>
 vguard x13 true (fun kk => vbin .neq 0 x17 (.v (.c (.p (.int .u8 9)))) h kk) h fun x18 h =>
 vop O (.pick (.k x13) (.k x18) (.k (kB false))) h 19 fun x19 h =>
 vguard x19 true (fun kk => kk x0 h) h fun x21 h =>
 vguard x19 true (fun kk => kk x3 h) h fun x22 h =>
 vguard x19 true (fun kk => vindex x21 x22 h kk) h fun x23 h =>
 vguard x19 true (fun kk => vbin .neq 0 x23 (.v (.c (.p (.int .u8 10)))) h kk) h fun x24 h =>
 vop O (.pick (.k x19) (.k x24) (.k (kB false))) h 25 fun x25 h =>
 vguard x25 true (fun kk => kk x0 h) h fun x27 h =>
 vguard x25 true (fun kk => kk x3 h) h fun x28 h =>
 vguard x25 true (fun kk => vindex x27 x28 h kk) h fun x29 h =>
 vguard x25 true (fun kk => vbin .neq 0 x29 (.v (.c (.p (.int .u8 13)))) h kk) h fun x30 h =>
 vop O (.pick (.k x25) (.k x30) (.k (kB false))) h 31 fun x31 h =>
 vif x31 (
 tcomp (kB false) fun c0 => vfin true q [c0] h)
 (vbin .add 0 x3 (kI 1) h fun x9 h =>
 R 1 [x0, x9] h))
 (tcomp (kB true) fun c0 => vfin true q [c0] h)
theorem e133_1 (O : Oracle) (R : Jump) (q : Nat) (x0 x3 : TVal) (h : Heap) : b133_1 O R q x0 x3 h = stepF c133 O R q 1 [x0, x3] h := by kernel_rfl
noncomputable def d133 : BlkF := fun O R q => [.s fun y0 => .z fun h => b133_0 O R q y0 h, .s fun y0 => .s fun y1 => .z fun h => b133_1 O R q y0 y1 h]
theorem o133 (O : Oracle) (R : Jump) (q : Nat) : HoldsAll c133 O R q 0 (d133 O R q) := ⟨fun y0 h => e133_0 O R q y0 h, fun y0 y1 h => e133_1 O R q y0 y1 h, trivial⟩
/- (*sprue/interp.run).step -/
def c134 : MFunc := { np := 1, res := [.t 2], frz := true, body := (.seq (.reg [(oA 2 (.mv (.k (.v (.c (.p (.int .i64 0)))))))] []) (.seq (.seq (.reg [(oA 3 (.mv (.t 0))), (oA 4 (.nilck (.t 3))), (oA 5 (.faddr 6 (.t 4))), (oA 6 (.load false 1 (.t 5))), (oA 7 (.mv (.t 0))), (oA 8 (.nilck (.t 7))), (oA 9 (.faddr 0 (.t 8))), (oA 10 (.faddr 0 (.t 9))), (oA 11 (.load false 1 (.t 10))), (oA 12 (.bin .geq 0 (.t 6) (.t 11)))] []) (.cond (.t 12) (.seq (.reg [(oA 2 (.mv (.k (.v (.c (.p (.int .i64 36)))))))] []) .ret) .skip)) (.seq (.reg [(oA 13 (.mv (.t 0))), (oA 14 (.nilck (.t 13))), (oA 15 (.faddr 6 (.t 14))), (oA 16 (.load false 1 (.t 15))), (oA 17 (.bin .add 0 (.t 16) (.k (.v (.c (.p (.int .i64 1))))))), (oA 18 (.nilck (.t 13))), (oA 19 (.faddr 6 (.t 18))), (oN (.store 1 (.t 19) (.t 17)))] []) (.seq (.reg [(oA 2 (.mv (.k (.v (.c (.p (.int .i64 0)))))))] []) .ret)))) }
theorem t134 : compF Tryz.prog (globs2 tabs opq) (fun _ => true) true Tryz.f134 = some c134.erase := by kernel_rfl
noncomputable def b134_0 (O : Oracle) (R : Jump) (q : Nat) (x0 : TVal) (h : Heap) : Res1 :=
 vop O (.nilck (.k x0)) h 4 fun x4 h =>
 vfaddr 6 x4 h fun x5 h =>
 vload false 1 x5 h fun x6 h =>
 vop O (.nilck (.k x0)) h 8 fun x8 h =>
 vfaddr 0 x8 h fun x9 h =>
 vfaddr 0 x9 h fun x10 h =>
 vload false 1 x10 h fun x11 h =>
 vbin .geq 0 x6 x11 h fun x12 h =>
 vif x12 (
 tcomp (kI 36) fun c0 => vfin true q [c0] h)
 (vop O (.nilck (.k x0)) h 14 fun x14 h =>
 vfaddr 6 x14 h fun x15 h =>
 vload false 1 x15 h fun x16 h =>
 vbin .add 0 x16 (kI 1) h fun x17 h =>
 vop O (.nilck (.k x0)) h 18 fun x18 h =>
 vfaddr 6 x18 h fun x19 h =>
 vstore 1 x19 x17 h fun _ h =>
 tcomp (kI 0) fun c0 => vfin true q [c0] h)
theorem e134_0 (O : Oracle) (R : Jump) (q : Nat) (x0 : TVal) (h : Heap) : b134_0 O R q x0 h = stepF c134 O R q 0 [x0] h := by kernel_rfl
noncomputable def d134 : BlkF := fun O R q => [.s fun y0 => .z fun h => b134_0 O R q y0 h]
theorem o134 (O : Oracle) (R : Jump) (q : Nat) : HoldsAll c134 O R q 0 (d134 O R q) := ⟨fun y0 h => e134_0 O R q y0 h, trivial⟩
/- (*sprue/interp.run).write -/
def c135 : MFunc := { np := 2, res := [.t 4], frz := true, body := (.seq (.reg [(oA 4 (.mv (.k (.v (.c (.p (.int .i64 0)))))))] []) (.seq (.reg [(oA 6 (.mv (.t 1))), (oA 7 (.len 0 (.t 6))), (oA 8 (.mv (.t 0))), (oA 9 (.nilck (.t 8))), (oA 10 (.faddr 0 (.t 9))), (oA 11 (.faddr 2 (.t 10))), (oA 12 (.load false 1 (.t 11))), (oA 13 (.mv (.t 0))), (oA 14 (.nilck (.t 13))), (oA 15 (.faddr 5 (.t 14))), (oA 16 (.load false 1 (.t 15))), (oA 17 (.len 2 (.t 16))), (oA 18 (.bin .sub 0 (.t 12) (.t 17))), (oA 19 (.minmax false [(.t 7), (.t 18)])), (oA 5 (.mv (.t 19)))] []) (.seq (.reg [(oA 20 (.mv (.t 0))), (oA 21 (.mv (.t 0))), (oA 22 (.nilck (.t 21))), (oA 23 (.faddr 5 (.t 22))), (oA 24 (.load false 1 (.t 23))), (oA 25 (.mv (.t 1))), (oA 26 (.mv (.t 5))), (oA 27 (.slice 0 true (.t 25) none (some (.t 26)) none)), (oA 28 (.append 1 1 true (.t 24) (.t 27))), (oA 29 (.nilck (.t 20))), (oA 30 (.faddr 5 (.t 29))), (oN (.store 1 (.t 30) (.t 28)))] []) (.seq (.seq (.reg [(oA 31 (.mv (.t 5))), (oA 32 (.mv (.t 1))), (oA 33 (.len 0 (.t 32))), (oA 34 (.bin .lss 0 (.t 31) (.t 33)))] []) (.cond (.t 34) (.seq (.reg [(oA 4 (.mv (.k (.v (.c (.p (.int .i64 34)))))))] []) .ret) .skip)) (.seq (.reg [(oA 4 (.mv (.k (.v (.c (.p (.int .i64 0)))))))] []) .ret))))) }
theorem t135 : compF Tryz.prog (globs2 tabs opq) (fun _ => true) true Tryz.f135 = some c135.erase := by kernel_rfl
noncomputable def b135_0 (O : Oracle) (R : Jump) (q : Nat) (x0 x1 : TVal) (h : Heap) : Res1 :=
 vlen O 0 x1 h 7 fun x7 h =>
 vop O (.nilck (.k x0)) h 9 fun x9 h =>
 vfaddr 0 x9 h fun x10 h =>
 vfaddr 2 x10 h fun x11 h =>
 vload false 1 x11 h fun x12 h =>
 vop O (.nilck (.k x0)) h 14 fun x14 h =>
 vfaddr 5 x14 h fun x15 h =>
 vload false 1 x15 h fun x16 h =>
 vlen O 2 x16 h 17 fun x17 h =>
 vbin .sub 0 x12 x17 h fun x18 h =>
 vop O (.minmax false [(.k x7), (.k x18)]) h 19 fun x19 h =>
 vop O (.nilck (.k x0)) h 22 fun x22 h =>
 vfaddr 5 x22 h fun x23 h =>
 vload false 1 x23 h fun x24 h =>
 vop O (.slice 0 true (.k x1) none (some (.k x19)) none) h 27 fun x27 h =>
 vop O (.append 1 1 true (.k x24) (.k x27)) h 28 fun x28 h =>
 vop O (.nilck (.k x0)) h 29 fun x29 h =>
 vfaddr 5 x29 h fun x30 h =>
 vstore 1 x30 x28 h fun _ h =>
 vlen O 0 x1 h 33 fun x33 h =>
 vbin .lss 0 x19 x33 h fun x34 h =>
 vif x34 (
 tcomp (kI 34) fun c0 => vfin true q [c0] h)
 (tcomp (kI 0) fun c0 => vfin true q [c0] h)
theorem e135_0 (O : Oracle) (R : Jump) (q : Nat) (x0 x1 : TVal) (h : Heap) : b135_0 O R q x0 x1 h = stepF c135 O R q 0 [x0, x1] h := by kernel_rfl
noncomputable def d135 : BlkF := fun O R q => [.s fun y0 => .s fun y1 => .z fun h => b135_0 O R q y0 y1 h]
theorem o135 (O : Oracle) (R : Jump) (q : Nat) : HoldsAll c135 O R q 0 (d135 O R q) := ⟨fun y0 y1 h => e135_0 O R q y0 y1 h, trivial⟩
/- (*sprue/interp.run).pipe -/
def c136 : MFunc := { np := 3, res := [.cell 6 true 6, .t 7], frz := true, body := (.seq (.reg [(oA 4 (.box (.t 1) true)), (oA 6 (.alloc [(.p (.int .i64 0)), (.p (.bool false)), (.p (.int .i64 0)), (.p (.str [])), (.p .nilslice), (.p .nilslice)] true)), (oA 7 (.mv (.k (.v (.c (.p (.int .i64 0)))))))] []) (.seq (.reg [(oA 8 (.mv (.k (.v (.c (.p .nilslice))))))] []) (.seq (.seq (.reg [(oA 13 (.mv (.t 2))), (oA 14 (.len 2 (.t 13))), (oA 15 (.mv (.k (.v (.c (.p (.int .i64 0)))))))] []) (.block 0 (.loop 1 [0, 4, 6, 8, 13, 14, 15] (.seq (.reg [(oA 16 (.bin .lss 0 (.t 15) (.t 14)))] []) (.seq (.cond (.t 16) .skip (.exit 0)) (.seq (.block 1 (.seq (.reg [(oA 17 (.iaddr 1 (.t 13) (.t 15))), (oA 18 (.load true 1 (.t 17))), (oA 10 (.alloc [(.p .nilslice)] true)), (oN (.store 1 (.t 10) (.t 18)))] []) (.seq (.reg [(oA 20 (.mv (.t 0))), (oA 21 (.load true 8 (.t 4))), (oA 22 (.load true 1 (.t 10))), (oA 23 (.mv (.t 8))), (oA 24 (.call (.k (.v (.c (.func 196 [])))) [(.t 20), (.t 21), (.t 22), (.t 23)])), (oA 19 (.mv (.t 24))), (oA 25 (.extract (.t 19) 0)), (oA 26 (.extract (.t 19) 1)), (oA 11 (.alloc [(.p (.int .i64 0)), (.p (.bool false)), (.p (.int .i64 0)), (.p (.str [])), (.p .nilslice), (.p .nilslice)] true)), (oN (.store 6 (.t 11) (.t 25))), (oA 12 (.mv (.t 26)))] []) (.seq (.seq (.reg [(oA 27 (.mv (.t 12))), (oA 28 (.bin .neq 0 (.t 27) (.k (.v (.c (.p (.int .i64 0)))))))] []) (.cond (.t 28) (.seq (.reg [(oA 29 (.build [(.p (.int .i64 0)), (.p (.bool false)), (.p (.int .i64 0)), (.p (.str [])), (.p .nilslice), (.p .nilslice)] [])), (oA 30 (.mv (.t 12))), (oN (.store 6 (.t 6) (.t 29))), (oA 7 (.mv (.t 30)))] []) .ret) .skip)) (.reg [(oA 31 (.load true 6 (.t 11))), (oA 32 (.bslice 6 1 [(.p (.int .i64 0)), (.p (.bool false)), (.p (.int .i64 0)), (.p (.str [])), (.p .nilslice), (.p .nilslice)] [(0, (.t 31))] true)), (oA 8 (.mv (.t 32)))] []))))) (.reg [(oA 33 (.bin .add 0 (.t 15) (.k (.v (.c (.p (.int .i64 1))))))), (oA 15 (.mv (.t 33)))] []))))))) (.mark 2 [6, 8] (.seq (.seq (.reg [(oA 34 (.mv (.t 8))), (oA 35 (.len 2 (.t 34))), (oA 36 (.bin .eql 0 (.t 35) (.k (.v (.c (.p (.int .i64 0)))))))] []) (.cond (.t 36) (.seq (.reg [(oA 37 (.build [(.p (.int .i64 0)), (.p (.bool false)), (.p (.int .i64 0)), (.p (.str [])), (.p .nilslice), (.p .nilslice)] [])), (oN (.store 6 (.t 6) (.t 37))), (oA 7 (.mv (.k (.v (.c (.p (.int .i64 12)))))))] []) .ret) .skip)) (.seq (.reg [(oA 38 (.mv (.t 8))), (oA 39 (.iaddr 6 (.t 38) (.k (.v (.c (.p (.int .i64 0))))))), (oA 40 (.load true 6 (.t 39))), (oN (.store 6 (.t 6) (.t 40))), (oA 7 (.mv (.k (.v (.c (.p (.int .i64 0)))))))] []) .ret)))))) }
theorem t136 : compF Tryz.prog (globs2 tabs opq) (fun _ => true) true Tryz.f136 = some c136.erase := by kernel_rfl
noncomputable def b136_0 (O : Oracle) (R : Jump) (q : Nat) (x0 x1 x2 : TVal) (h : Heap) : Res1 :=
 vop O (.box (.k x1) true) h 4 fun x4 h =>
 vop O (.alloc [(.p (.int .i64 0)), (.p (.bool false)), (.p (.int .i64 0)), (.p (.str [])), (.p .nilslice), (.p .nilslice)] true) h 6 fun x6 h =>
 vlen O 2 x2 h 14 fun x14 h =>
 R 1 [x0, x4, x6, (.v (.c (.p .nilslice))), x2, x14, (kI 0)] h
theorem e136_0 (O : Oracle) (R : Jump) (q : Nat) (x0 x1 x2 : TVal) (h : Heap) : b136_0 O R q x0 x1 x2 h = stepF c136 O R q 0 [x0, x1, x2] h := by kernel_rfl
noncomputable def b136_1 (O : Oracle) (R : Jump) (q : Nat) (x0 x4 x6 x8 x13 x14 x15 : TVal) (h : Heap) : Res1 :=
 vbin .lss 0 x15 x14 h fun x16 h =>
 vif x16 (
 viaddr 1 x13 x15 h fun x17 h =>
 vload true 1 x17 h fun x18 h =>
 vop O (.alloc [(.p .nilslice)] true) h 10 fun x10 h =>
 vstore 1 x10 x18 h fun _ h =>
 vload true 8 x4 h fun x21 h =>
 vload true 1 x10 h fun x22 h =>
 vcall O (.v (.c (.func 196 []))) [x0, x21, x22, x8] h 24 fun x24 h =>
 vext x24 0 h fun x25 h =>
 vext x24 1 h fun x26 h =>
 vop O (.alloc [(.p (.int .i64 0)), (.p (.bool false)), (.p (.int .i64 0)), (.p (.str [])), (.p .nilslice), (.p .nilslice)] true) h 11 fun x11 h =>
 vstore 6 x11 x25 h fun _ h =>
 vbin .neq 0 x26 (kI 0) h fun x28 h =>
 vif x28 (
 vop O (.build [(.p (.int .i64 0)), (.p (.bool false)), (.p (.int .i64 0)), (.p (.str [])), (.p .nilslice), (.p .nilslice)] []) h 29 fun x29 h =>
 vstore 6 x6 x29 h fun _ h =>
 vcell true 6 x6 h fun c0 => tcomp x26 fun c1 => vfin true q [c0, c1] h)
 (vload true 6 x11 h fun x31 h =>
 vop O (.bslice 6 1 [(.p (.int .i64 0)), (.p (.bool false)), (.p (.int .i64 0)), (.p (.str [])), (.p .nilslice), (.p .nilslice)] [(0, (.k x31))] true) h 32 fun x32 h =>
 vbin .add 0 x15 (kI 1) h fun x33 h =>
 R 1 [x0, x4, x6, x32, x13, x14, x33] h))
 (R 2 [x6, x8] h)
theorem e136_1 (O : Oracle) (R : Jump) (q : Nat) (x0 x4 x6 x8 x13 x14 x15 : TVal) (h : Heap) : b136_1 O R q x0 x4 x6 x8 x13 x14 x15 h = stepF c136 O R q 1 [x0, x4, x6, x8, x13, x14, x15] h := by kernel_rfl
noncomputable def b136_2 (O : Oracle) (R : Jump) (q : Nat) (x6 x8 : TVal) (h : Heap) : Res1 :=
 vlen O 2 x8 h 35 fun x35 h =>
 vbin .eql 0 x35 (kI 0) h fun x36 h =>
 vif x36 (
 vop O (.build [(.p (.int .i64 0)), (.p (.bool false)), (.p (.int .i64 0)), (.p (.str [])), (.p .nilslice), (.p .nilslice)] []) h 37 fun x37 h =>
 vstore 6 x6 x37 h fun _ h =>
 vcell true 6 x6 h fun c0 => tcomp (kI 12) fun c1 => vfin true q [c0, c1] h)
 (viaddr 6 x8 (kI 0) h fun x39 h =>
 vload true 6 x39 h fun x40 h =>
 vstore 6 x6 x40 h fun _ h =>
 vcell true 6 x6 h fun c0 => tcomp (kI 0) fun c1 => vfin true q [c0, c1] h)
theorem e136_2 (O : Oracle) (R : Jump) (q : Nat) (x6 x8 : TVal) (h : Heap) : b136_2 O R q x6 x8 h = stepF c136 O R q 2 [x6, x8] h := by kernel_rfl
noncomputable def d136 : BlkF := fun O R q => [.s fun y0 => .s fun y1 => .s fun y2 => .z fun h => b136_0 O R q y0 y1 y2 h, .s fun y0 => .s fun y1 => .s fun y2 => .s fun y3 => .s fun y4 => .s fun y5 => .s fun y6 => .z fun h => b136_1 O R q y0 y1 y2 y3 y4 y5 y6 h, .s fun y0 => .s fun y1 => .z fun h => b136_2 O R q y0 y1 h]
theorem o136 (O : Oracle) (R : Jump) (q : Nat) : HoldsAll c136 O R q 0 (d136 O R q) := ⟨fun y0 y1 y2 h => e136_0 O R q y0 y1 y2 h, fun y0 y1 y2 y3 y4 y5 y6 h => e136_1 O R q y0 y1 y2 y3 y4 y5 y6 h, fun y0 y1 h => e136_2 O R q y0 y1 h, trivial⟩
/- (*sprue/interp.run).one -/
def c137 : MFunc := { np := 4, res := [.t 8], frz := true, body := (.seq (.reg [(oA 5 (.box (.t 1) true)), (oA 6 (.box (.t 2) true)), (oA 7 (.box (.t 3) true)), (oA 8 (.mv (.k (.v (.c (.p (.int .i64 0)))))))] []) (.seq (.seq (.reg [(oA 10 (.faddr 0 (.t 6))), (oA 11 (.load false 1 (.t 10)))] []) (.block 0 (.seq (.reg [(oA 13 (.bin .eql 0 (.t 11) (.k (.v (.c (.p (.int .i64 2))))))), (oA 12 (.mv (.t 13)))] []) (.cond (.t 12) (.seq (.reg [(oA 14 (.mv (.t 0))), (oA 15 (.load true 6 (.t 7))), (oA 16 (.call (.k (.v (.c (.func 197 [])))) [(.t 14), (.t 15)])), (oA 8 (.mv (.t 16)))] []) .ret) (.seq (.reg [(oA 18 (.bin .eql 0 (.t 11) (.k (.v (.c (.p (.int .i64 4))))))), (oA 17 (.mv (.t 18)))] []) (.cond (.t 17) (.seq (.reg [(oA 19 (.load true 8 (.t 5))), (oA 20 (.faddr 3 (.t 6))), (oA 21 (.load false 1 (.t 20))), (oA 22 (.call (.k (.v (.c (.func 198 [])))) [(.t 19), (.t 21)])), (oA 9 (.mv (.t 22)))] []) (.seq (.seq (.reg [(oA 23 (.mv (.t 9))), (oA 24 (.bin .eql 1 (.t 23) (.k (.v (.c (.p .nilptr))))))] []) (.cond (.t 24) (.seq (.reg [(oA 8 (.mv (.k (.v (.c (.p (.int .i64 15)))))))] []) .ret) .skip)) (.reg [(oA 25 (.mv (.t 9))), (oA 26 (.load true 6 (.t 7))), (oA 27 (.nilck (.t 25))), (oA 28 (.faddr 1 (.t 27))), (oN (.store 6 (.t 28) (.t 26)))] []))) (.seq (.reg [(oA 30 (.bin .eql 0 (.t 11) (.k (.v (.c (.p (.int .i64 5))))))), (oA 29 (.mv (.t 30)))] []) (.cond (.t 29) (.seq (.seq (.reg [(oA 31 (.faddr 0 (.t 7))), (oA 32 (.load false 1 (.t 31))), (oA 33 (.bin .eql 0 (.t 32) (.k (.v (.c (.p (.int .i64 0))))))), (oA 34 (.mv (.t 33))), ⟨(some 35), (.faddr 0 (.t 7)), (some (34, false))⟩, ⟨(some 36), (.load false 1 (.t 35)), (some (34, false))⟩, ⟨(some 37), (.bin .eql 0 (.t 36) (.k (.v (.c (.p (.int .i64 1)))))), (some (34, false))⟩, ⟨(some 38), (.mv (.t 37)), (some (34, false))⟩, ⟨(some 39), (.faddr 1 (.t 7)), (some (38, true))⟩, ⟨(some 40), (.load false 1 (.t 39)), (some (38, true))⟩, ⟨(some 41), (.un .not (.t 40)), (some (38, true))⟩, ⟨(some 42), (.pick (.t 38) (.t 41) (.k (.v (.c (.p (.bool false)))))), (some (34, false))⟩, (oA 43 (.pick (.t 34) (.k (.v (.c (.p (.bool true))))) (.t 42)))] []) (.cond (.t 43) (.seq (.reg [(oA 44 (.mv (.t 0))), (oA 45 (.load true 8 (.t 5))), (oA 46 (.faddr 6 (.t 6))), (oA 47 (.load false 1 (.t 46))), (oA 48 (.call (.k (.v (.c (.func 68 [])))) [(.t 44), (.t 45), (.t 47)])), (oA 8 (.mv (.t 48)))] []) .ret) .skip)) (.seq (.reg [(oA 49 (.mv (.t 0))), (oA 50 (.load true 8 (.t 5))), (oA 51 (.faddr 5 (.t 6))), (oA 52 (.load false 1 (.t 51))), (oA 53 (.call (.k (.v (.c (.func 68 [])))) [(.t 49), (.t 50), (.t 52)])), (oA 8 (.mv (.t 53)))] []) .ret)) (.seq (.reg [(oA 55 (.bin .eql 0 (.t 11) (.k (.v (.c (.p (.int .i64 6))))))), (oA 54 (.mv (.t 55)))] []) (.cond (.t 54) (.seq (.seq (.reg [(oA 56 (.faddr 0 (.t 7))), (oA 57 (.load false 1 (.t 56))), (oA 58 (.bin .eql 0 (.t 57) (.k (.v (.c (.p (.int .i64 0)))))))] []) (.cond (.t 58) (.seq (.reg [(oA 59 (.mv (.t 0))), (oA 60 (.load true 8 (.t 5))), (oA 61 (.faddr 6 (.t 6))), (oA 62 (.load false 1 (.t 61))), (oA 63 (.call (.k (.v (.c (.func 68 [])))) [(.t 59), (.t 60), (.t 62)])), (oA 8 (.mv (.t 63)))] []) .ret) .skip)) (.seq (.reg [(oA 64 (.mv (.t 0))), (oA 65 (.load true 8 (.t 5))), (oA 66 (.load true 6 (.t 7))), (oA 67 (.call (.k (.v (.c (.func 199 [])))) [(.t 65), (.t 66)])), (oA 68 (.faddr 5 (.t 6))), (oA 69 (.load false 1 (.t 68))), (oA 70 (.call (.k (.v (.c (.func 68 [])))) [(.t 64), (.t 67), (.t 69)])), (oA 8 (.mv (.t 70)))] [(3, 5)]) .ret)) (.seq (.reg [(oA 72 (.bin .eql 0 (.t 11) (.k (.v (.c (.p (.int .i64 7))))))), (oA 71 (.mv (.t 72)))] []) (.cond (.t 71) (.seq (.reg [(oA 73 (.mv (.t 0))), (oA 74 (.load true 8 (.t 5))), (oA 75 (.load true 9 (.t 6))), (oA 76 (.load true 6 (.t 7))), (oA 77 (.call (.k (.v (.c (.func 200 [])))) [(.t 73), (.t 74), (.t 75), (.t 76)])), (oA 8 (.mv (.t 77)))] []) .ret) (.seq (.reg [(oA 79 (.bin .eql 0 (.t 11) (.k (.v (.c (.p (.int .i64 8))))))), (oA 78 (.mv (.t 79)))] []) (.cond (.t 78) (.seq (.reg [(oA 80 (.mv (.t 0))), (oA 81 (.load true 8 (.t 5))), (oA 82 (.load true 9 (.t 6))), (oA 83 (.load true 6 (.t 7))), (oA 84 (.call (.k (.v (.c (.func 201 [])))) [(.t 80), (.t 81), (.t 82), (.t 83)])), (oA 8 (.mv (.t 84)))] []) .ret) (.seq (.reg [(oA 86 (.bin .eql 0 (.t 11) (.k (.v (.c (.p (.int .i64 9))))))), (oA 85 (.mv (.t 86)))] []) (.cond (.t 85) (.seq (.reg [(oA 87 (.mv (.t 0))), (oA 88 (.load true 8 (.t 5))), (oA 89 (.faddr 3 (.t 6))), (oA 90 (.load false 1 (.t 89))), (oA 91 (.load true 6 (.t 7))), (oA 92 (.call (.k (.v (.c (.func 202 [])))) [(.t 87), (.t 88), (.t 90), (.t 91)])), (oA 8 (.mv (.t 92)))] []) .ret) .skip)))))))))))))))) (.seq (.reg [(oA 8 (.mv (.k (.v (.c (.p (.int .i64 0)))))))] []) .ret))) }
theorem t137 : compF Tryz.prog (globs2 tabs opq) (fun _ => true) true Tryz.f137 = some c137.erase := by kernel_rfl
noncomputable def b137_0 (O : Oracle) (R : Jump) (q : Nat) (x0 x1 x2 x3 : TVal) (h : Heap) : Res1 :=
 vop O (.box (.k x1) true) h 5 fun x5 h =>
 vop O (.box (.k x2) true) h 6 fun x6 h =>
 vop O (.box (.k x3) true) h 7 fun x7 h =>
 vfaddr 0 x6 h fun x10 h =>
 vload false 1 x10 h fun x11 h =>
 vbin .eql 0 x11 (kI 2) h fun x13 h =>
 vif x13 (
 vload true 6 x7 h fun x15 h =>
 vcall O (.v (.c (.func 197 []))) [x0, x15] h 16 fun x16 h =>
 tcomp x16 fun c0 => vfin true q [c0] h)
 (vbin .eql 0 x11 (kI 4) h fun x18 h =>
 vif x18 (
 vload true 8 x5 h fun x19 h =>
 vfaddr 3 x6 h fun x20 h =>
 vload false 1 x20 h fun x21 h =>
 vcall O (.v (.c (.func 198 []))) [x19, x21] h 22 fun x22 h =>
 vbin .eql 1 x22 (.v (.c (.p .nilptr))) h fun x24 h =>
 vif x24 (
 tcomp (kI 15) fun c0 => vfin true q [c0] h)
 (vload true 6 x7 h fun x26 h =>
 vop O (.nilck (.k x22)) h 27 fun x27 h =>
 vfaddr 1 x27 h fun x28 h =>
 vstore 6 x28 x26 h fun _ h =>
 tcomp (kI 0) fun c0 => vfin true q [c0] h))
 (vbin .eql 0 x11 (kI 5) h fun x30 h =>
 vif x30 (
 vfaddr 0 x7 h fun x31 h =>
 vload false 1 x31 h fun x32 h =>
 vbin .eql 0 x32 (kI 0) h fun x33 h =>
 vguard x33 false (fun kk => vfaddr 0 x7 h kk) h fun x35 h =>
 vguard x33 false (fun kk => vload false 1 x35 h kk) h fun x36 h =>
 vguard x33 false (fun kk => vbin .eql 0 x36 (kI 1) h kk) h fun x37 h =>
 vguard x33 false (fun kk => kk x37 h) h fun x38 h =>
 vguard x38 true (fun kk => vfaddr 1 x7 h kk) h fun x39 h =>
 vguard x38 true (fun kk => vload false 1 x39 h kk) h fun x40 h =>
 vguard x38 true (fun kk => vop O (.un .not (.k x40)) h 41 kk) h fun x41 h =>
 vguard x33 false (fun kk => vop O (.pick (.k x38) (.k x41) (.k (kB false))) h 42 kk) h fun x42 h =>
 vop O (.pick (.k x33) (.k (kB true)) (.k x42)) h 43 fun x43 h =>
 vif x43 (
 vload true 8 x5 h fun x45 h =>
 vfaddr 6 x6 h fun x46 h =>
 vload false 1 x46 h fun x47 h =>
 vcall O (.v (.c (.func 68 []))) [x0, x45, x47] h 48 fun x48 h =>
 tcomp x48 fun c0 => vfin true q [c0] h)
 (vload true 8 x5 h fun x50 h =>
 vfaddr 5 x6 h fun x51 h =>
 vload false 1 x51 h fun x52 h =>
 vcall O (.v (.c (.func 68 []))) [x0, x50, x52] h 53 fun x53 h =>
 tcomp x53 fun c0 => vfin true q [c0] h))
 (vbin .eql 0 x11 (kI 6) h fun x55 h =>
 vif x55 (
 vfaddr 0 x7 h fun x56 h =>
 vload false 1 x56 h fun x57 h =>
 vbin .eql 0 x57 (kI 0) h fun x58 h =>
 vif x58 (
 vload true 8 x5 h fun x60 h =>
 vfaddr 6 x6 h fun x61 h =>
 vload false 1 x61 h fun x62 h =>
 vcall O (.v (.c (.func 68 []))) [x0, x60, x62] h 63 fun x63 h =>
 tcomp x63 fun c0 => vfin true q [c0] h)
 (vtouch O (.mv (.k x0)) h 64 fun x64 h t0 =>
 vtouch O (.load true 8 (.k x5)) h 65 fun x65 h t1 =>
 vtouch O (.load true 6 (.k x7)) h 66 fun x66 h t2 =>
 vtouch O (.call (.k (.v (.c (.func 199 [])))) [(.k x65), (.k x66)]) h 67 fun x67 h t3 =>
 vtouch O (.faddr 5 (.k x6)) h 68 fun x68 h t4 =>
 vtouch O (.load false 1 (.k x68)) h 69 fun x69 h t5 =>
 vtouch O (.call (.k (.v (.c (.func 68 [])))) [(.k x64), (.k x67), (.k x69)]) h 70 fun x70 h t6 =>
 vtouch O (.mv (.k x70)) h 8 fun x8 h t7 =>
 bif apartAll [t0, t1, t2, t3, t4, t5, t6, t7] [(3, 5)] then
 tcomp x8 fun c0 => vfin true q [c0] h
 else none))
 (vbin .eql 0 x11 (kI 7) h fun x72 h =>
 vif x72 (
 vload true 8 x5 h fun x74 h =>
 vload true 9 x6 h fun x75 h =>
 vload true 6 x7 h fun x76 h =>
 vcall O (.v (.c (.func 200 []))) [x0, x74, x75, x76] h 77 fun x77 h =>
 tcomp x77 fun c0 => vfin true q [c0] h)
 (vbin .eql 0 x11 (kI 8) h fun x79 h =>
 vif x79 (
 vload true 8 x5 h fun x81 h =>
 vload true 9 x6 h fun x82 h =>
 vload true 6 x7 h fun x83 h =>
 vcall O (.v (.c (.func 201 []))) [x0, x81, x82, x83] h 84 fun x84 h =>
 tcomp x84 fun c0 => vfin true q [c0] h)
 (vbin .eql 0 x11 (kI 9) h fun x86 h =>
 vif x86 (
 vload true 8 x5 h fun x88 h =>
 vfaddr 3 x6 h fun x89 h =>
 vload false 1 x89 h fun x90 h =>
 vload true 6 x7 h fun x91 h =>
 vcall O (.v (.c (.func 202 []))) [x0, x88, x90, x91] h 92 fun x92 h =>
 tcomp x92 fun c0 => vfin true q [c0] h)
 (tcomp (kI 0) fun c0 => vfin true q [c0] h)))))))
theorem e137_0 (O : Oracle) (R : Jump) (q : Nat) (x0 x1 x2 x3 : TVal) (h : Heap) : b137_0 O R q x0 x1 x2 x3 h = stepF c137 O R q 0 [x0, x1, x2, x3] h := by kernel_rfl
noncomputable def d137 : BlkF := fun O R q => [.s fun y0 => .s fun y1 => .s fun y2 => .s fun y3 => .z fun h => b137_0 O R q y0 y1 y2 y3 h]
theorem o137 (O : Oracle) (R : Jump) (q : Nat) : HoldsAll c137 O R q 0 (d137 O R q) := ⟨fun y0 y1 y2 y3 h => e137_0 O R q y0 y1 y2 y3 h, trivial⟩
/- slices.Clone[[]*sprue/interp.variable,*sprue/interp.variable] -/
def c138 : MFunc := { np := 1, res := [.t 2], frz := false, body := (.seq (.reg [(oA 2 (.mv (.k (.v (.c (.p .nilslice))))))] []) (.seq (.seq (.reg [(oA 3 (.mv (.t 0))), (oA 4 (.bin .eql 2 (.t 3) (.k (.v (.c (.p .nilslice))))))] []) (.cond (.t 4) (.seq (.reg [(oA 2 (.mv (.k (.v (.c (.p .nilslice))))))] []) .ret) .skip)) (.seq (.reg [(oA 5 (.bslice 1 0 [(.p .nilptr)] [] false)), (oA 6 (.mv (.t 0))), (oA 7 (.append 1 8 false (.t 5) (.t 6))), (oA 2 (.mv (.t 7)))] []) .ret))) }
theorem t138 : compF Tryz.prog (globs2 tabs opq) (fun _ => false) false Tryz.f138 = some c138.erase := by kernel_rfl
noncomputable def b138_0 (O : Oracle) (R : Jump) (q : Nat) (x0 : TVal) (h : Heap) : Res1 :=
 vbin .eql 2 x0 (.v (.c (.p .nilslice))) h fun x4 h =>
 vif x4 (
 tcomp (.v (.c (.p .nilslice))) fun c0 => vfin false q [c0] h)
 (vop O (.bslice 1 0 [(.p .nilptr)] [] false) h 5 fun x5 h =>
 vop O (.append 1 8 false (.k x5) (.k x0)) h 7 fun x7 h =>
 tcomp x7 fun c0 => vfin false q [c0] h)
theorem e138_0 (O : Oracle) (R : Jump) (q : Nat) (x0 : TVal) (h : Heap) : b138_0 O R q x0 h = stepF c138 O R q 0 [x0] h := by kernel_rfl
noncomputable def d138 : BlkF := fun O R q => [.s fun y0 => .z fun h => b138_0 O R q y0 h]
theorem o138 (O : Oracle) (R : Jump) (q : Nat) : HoldsAll c138 O R q 0 (d138 O R q) := ⟨fun y0 h => e138_0 O R q y0 h, trivial⟩
/- (*sprue/sprueref13.reader).value -/
def c139 : MFunc := { np := 2, res := [.cell 4 true 6], frz := true, body := (.seq (.reg [(oA 4 (.alloc [(.p (.int .i64 0)), (.p (.bool false)), (.p (.int .i64 0)), (.p (.str [])), (.p .nilslice), (.p .nilslice)] false))] []) (.seq (.reg [(oA 8 (.mv (.t 0))), (oA 9 (.call (.k (.v (.c (.func 140 [])))) [(.t 8)]))] []) (.seq (.seq (.reg [(oA 10 (.mv (.t 0))), (oA 11 (.nilck (.t 10))), (oA 12 (.faddr 2 (.t 11))), (oA 13 (.load false 1 (.t 12))), (oA 14 (.bin .neq 0 (.t 13) (.k (.v (.c (.p (.int .i64 0))))))), (oA 15 (.mv (.t 14))), ⟨(some 16), (.mv (.t 0)), (some (15, false))⟩, ⟨(some 17), (.nilck (.t 16)), (some (15, false))⟩, ⟨(some 18), (.faddr 1 (.t 17)), (some (15, false))⟩, ⟨(some 19), (.load false 1 (.t 18)), (some (15, false))⟩, ⟨(some 20), (.mv (.t 0)), (some (15, false))⟩, ⟨(some 21), (.nilck (.t 20)), (some (15, false))⟩, ⟨(some 22), (.faddr 0 (.t 21)), (some (15, false))⟩, ⟨(some 23), (.load false 1 (.t 22)), (some (15, false))⟩, ⟨(some 24), (.len 0 (.t 23)), (some (15, false))⟩, ⟨(some 25), (.bin .geq 0 (.t 19) (.t 24)), (some (15, false))⟩, (oA 26 (.pick (.t 15) (.k (.v (.c (.p (.bool true))))) (.t 25)))] []) (.cond (.t 26) (.seq (.reg [(oA 27 (.mv (.t 0))), (oA 28 (.call (.k (.v (.c (.func 141 [])))) [(.t 27), (.k (.v (.c (.p (.int .i64 12)))))]))] []) (.seq (.reg [(oA 29 (.build [(.p (.int .i64 0)), (.p (.bool false)), (.p (.int .i64 0)), (.p (.str [])), (.p .nilslice), (.p .nilslice)] [])), (oN (.store 6 (.t 4) (.t 29)))] []) .ret)) .skip)) (.seq (.reg [(oA 30 (.mv (.t 0))), (oA 31 (.nilck (.t 30))), (oA 32 (.faddr 0 (.t 31))), (oA 33 (.load false 1 (.t 32))), (oA 34 (.mv (.t 0))), (oA 35 (.nilck (.t 34))), (oA 36 (.faddr 1 (.t 35))), (oA 37 (.load false 1 (.t 36))), (oA 38 (.index (.t 33) (.t 37))), (oA 5 (.mv (.t 38)))] []) (.seq (.reg [(oA 40 (.mv (.t 0))), (oA 41 (.call (.k (.v (.c (.func 203 [])))) [(.t 40)])), (oA 39 (.mv (.t 41))), (oA 42 (.extract (.t 39) 0)), (oA 43 (.extract (.t 39) 1)), (oA 6 (.alloc [(.p (.int .i64 0)), (.p (.bool false)), (.p (.int .i64 0)), (.p (.str [])), (.p .nilslice), (.p .nilslice)] false)), (oN (.store 6 (.t 6) (.t 42))), (oA 7 (.mv (.t 43)))] []) (.seq (.seq (.reg [(oA 44 (.mv (.t 7))), (oA 45 (.un .not (.t 44))), (oA 46 (.mv (.t 45))), ⟨(some 47), (.mv (.t 5)), (some (46, true))⟩, ⟨(some 48), (.bin .neq 0 (.t 47) (.k (.v (.c (.p (.int .u8 34)))))), (some (46, true))⟩, (oA 49 (.pick (.t 46) (.t 48) (.k (.v (.c (.p (.bool false))))))), (oA 50 (.mv (.t 49))), ⟨(some 51), (.mv (.t 5)), (some (50, true))⟩, ⟨(some 52), (.bin .neq 0 (.t 51) (.k (.v (.c (.p (.int .u8 45)))))), (some (50, true))⟩, (oA 53 (.pick (.t 50) (.t 52) (.k (.v (.c (.p (.bool false))))))), (oA 54 (.mv (.t 53))), ⟨(some 55), (.mv (.t 5)), (some (54, true))⟩, ⟨(some 56), (.call (.k (.v (.c (.func 204 [])))) [(.t 55)]), (some (54, true))⟩, ⟨(some 57), (.un .not (.t 56)), (some (54, true))⟩, (oA 58 (.pick (.t 54) (.t 57) (.k (.v (.c (.p (.bool false))))))), (oA 59 (.mv (.t 58))), ⟨(some 60), (.mv (.t 5)), (some (59, true))⟩, ⟨(some 61), (.bin .neq 0 (.t 60) (.k (.v (.c (.p (.int .u8 91)))))), (some (59, true))⟩, (oA 62 (.pick (.t 59) (.t 61) (.k (.v (.c (.p (.bool false))))))), (oA 63 (.mv (.t 62))), ⟨(some 64), (.mv (.t 5)), (some (63, true))⟩, ⟨(some 65), (.bin .neq 0 (.t 64) (.k (.v (.c (.p (.int .u8 123)))))), (some (63, true))⟩, (oA 66 (.pick (.t 63) (.t 65) (.k (.v (.c (.p (.bool false)))))))] []) (.cond (.t 66) (.seq (.reg [(oA 67 (.mv (.t 0))), (oA 68 (.call (.k (.v (.c (.func 141 [])))) [(.t 67), (.k (.v (.c (.p (.int .i64 12)))))]))] []) (.seq (.reg [(oA 69 (.build [(.p (.int .i64 0)), (.p (.bool false)), (.p (.int .i64 0)), (.p (.str [])), (.p .nilslice), (.p .nilslice)] [])), (oN (.store 6 (.t 4) (.t 69)))] []) .ret)) .skip)) (.seq (.seq (.reg [(oA 70 (.mv (.t 1))), (oA 71 (.bin .gtr 0 (.t 70) (.k (.v (.c (.p (.int .i64 12)))))))] []) (.cond (.t 71) (.seq (.reg [(oA 72 (.mv (.t 0))), (oA 73 (.call (.k (.v (.c (.func 141 [])))) [(.t 72), (.k (.v (.c (.p (.int .i64 13)))))]))] []) (.seq (.reg [(oA 74 (.build [(.p (.int .i64 0)), (.p (.bool false)), (.p (.int .i64 0)), (.p (.str [])), (.p .nilslice), (.p .nilslice)] [])), (oN (.store 6 (.t 4) (.t 74)))] []) .ret)) .skip)) (.seq (.block 0 (.seq (.reg [(oA 76 (.mv (.t 7))), (oA 75 (.mv (.t 76)))] []) (.cond (.t 75) (.seq (.reg [(oA 77 (.load true 6 (.t 6))), (oN (.store 6 (.t 4) (.t 77)))] []) .ret) (.seq (.reg [(oA 79 (.mv (.t 5))), (oA 80 (.bin .eql 0 (.t 79) (.k (.v (.c (.p (.int .u8 34))))))), (oA 78 (.mv (.t 80)))] []) (.cond (.t 78) (.seq (.reg [(oA 81 (.mv (.t 0))), (oA 82 (.call (.k (.v (.c (.func 205 [])))) [(.t 81)])), (oA 83 (.build [(.p (.int .i64 0)), (.p (.bool false)), (.p (.int .i64 0)), (.p (.str [])), (.p .nilslice), (.p .nilslice)] [(0, 1, (.k (.v (.c (.p (.int .i64 3)))))), (3, 1, (.t 82))])), (oN (.store 6 (.t 4) (.t 83)))] []) .ret) (.seq (.reg [(oA 85 (.mv (.t 5))), (oA 86 (.bin .eql 0 (.t 85) (.k (.v (.c (.p (.int .u8 91))))))), (oA 84 (.mv (.t 86)))] []) (.cond (.t 84) (.seq (.reg [(oA 87 (.mv (.t 0))), (oA 88 (.mv (.t 1))), (oA 89 (.call (.k (.v (.c (.func 206 [])))) [(.t 87), (.t 88)])), (oN (.store 6 (.t 4) (.t 89)))] []) .ret) (.seq (.reg [(oA 91 (.mv (.t 5))), (oA 92 (.bin .eql 0 (.t 91) (.k (.v (.c (.p (.int .u8 123))))))), (oA 90 (.mv (.t 92)))] []) (.cond (.t 90) (.seq (.reg [(oA 93 (.mv (.t 0))), (oA 94 (.mv (.t 1))), (oA 95 (.call (.k (.v (.c (.func 207 [])))) [(.t 93), (.t 94)])), (oN (.store 6 (.t 4) (.t 95)))] []) .ret) .skip))))))))) (.seq (.reg [(oA 96 (.mv (.t 0))), (oA 97 (.call (.k (.v (.c (.func 208 [])))) [(.t 96)])), (oN (.store 6 (.t 4) (.t 97)))] []) .ret))))))))) }
theorem t139 : compF Tryz.prog (globs2 tabs opq) (fun _ => false) true Tryz.f139 = some c139.erase := by kernel_rfl
noncomputable def b139_0 (O : Oracle) (R : Jump) (q : Nat) (x0 x1 : TVal) (h : Heap) : Res1 :=
 vop O (.alloc [(.p (.int .i64 0)), (.p (.bool false)), (.p (.int .i64 0)), (.p (.str [])), (.p .nilslice), (.p .nilslice)] false) h 4 fun x4 h =>
 vcall O (.v (.c (.func 140 []))) [x0] h 9 fun x9 h =>
 vop O (.nilck (.k x0)) h 11 fun x11 h =>
 vfaddr 2 x11 h fun x12 h =>
 vload false 1 x12 h fun x13 h =>
 vbin .neq 0 x13 (kI 0) h fun x14 h =>
 vguard x14 false (fun kk => kk x0 h) h fun x16 h =>
 vguard x14 false (fun kk => vop O (.nilck (.k x16)) h 17 kk) h fun x17 h =>
 vguard x14 false (fun kk => vfaddr 1 x17 h kk) h fun x18 h =>
 vguard x14 false (fun kk => vload false 1 x18 h kk) h fun x19 h =>
 vguard x14 false (fun kk => kk x0 h) h fun x20 h =>
 vguard x14 false (fun kk => vop O (.nilck (.k x20)) h 21 kk) h fun x21 h =>
 vguard x14 false (fun kk => vfaddr 0 x21 h kk) h fun x22 h =>
 vguard x14 false (fun kk => vload false 1 x22 h kk) h fun x23 h =>
 vguard x14 false (fun kk => vlen O 0 x23 h 24 kk) h fun x24 h =>
 vguard x14 false (fun kk => vbin .geq 0 x19 x24 h kk) h fun x25 h =>
 vop O (.pick (.k x14) (.k (kB true)) (.k x25)) h 26 fun x26 h =>
 vif x26 (
 vcall O (.v (.c (.func 141 []))) [x0, (kI 12)] h 28 fun x28 h =>
 vop O (.build [(.p (.int .i64 0)), (.p (.bool false)), (.p (.int .i64 0)), (.p (.str [])), (.p .nilslice), (.p .nilslice)] []) h 29 fun x29 h =>
 vstore 6 x4 x29 h fun _ h =>
 vcell true 6 x4 h fun c0 => vfin true q [c0] h)
 (vop O (.nilck (.k x0)) h 31 fun x31 h =>
 vfaddr 0 x31 h fun x32 h =>
 vload false 1 x32 h fun x33 h =>
 vop O (.nilck (.k x0)) h 35 fun x35 h =>
 vfaddr 1 x35 h fun x36 h =>
 vload false 1 x36 h fun x37 h =>
 vindex x33 x37 h fun x38 h =>
 vcall O (.v (.c (.func 203 []))) [x0] h 41 fun x41 h =>
 vext x41 0 h fun x42 h =>
 vext x41 1 h fun x43 h =>
 vop O (.alloc [(.p (.int .i64 0)), (.p (.bool false)), (.p (.int .i64 0)), (.p (.str [])), (.p .nilslice), (.p .nilslice)] false) h 6 fun x6 h =>
 vstore 6 x6 x42 h fun _ h =>
 vop O (.un .not (.k x43)) h 45 fun x45 h =>
 vguard x45 true (fun kk => kk x38 h) h fun x47 h =>
 vguard x45 true (fun kk => vbin .neq 0 x47 (.v (.c (.p (.int .u8 34)))) h kk) h fun x48 h =>
 vop O (.pick (.k x45) (.k x48) (.k (kB false))) h 49 fun x49 h =>
 vguard x49 true (fun kk => kk x38 h) h fun x51 h =>
 vguard x49 true (fun kk => vbin .neq 0 x51 (.v (.c (.p (.int .u8 45)))) h kk) h fun x52 h =>
 vop O (.pick (.k x49) (.k x52) (.k (kB false))) h 53 fun x53 h =>
 vguard x53 true (fun kk => kk x38 h) h fun x55 h =>
 vguard x53 true (fun kk => vcall O (.v (.c (.func 204 []))) [x55] h 56 kk) h fun x56 h =>
 vguard x53 true (fun kk => vop O (.un .not (.k x56)) h 57 kk) h fun x57 h =>
 vop O (.pick (.k x53) (.k x57) (.k (kB false))) h 58 fun x58 h =>
 vguard x58 true (fun kk => kk x38 h) h fun x60 h =>
 vguard x58 true (fun kk => vbin .neq 0 x60 (.v (.c (.p (.int .u8 91)))) h kk) h fun x61 h =>
 vop O (.pick (.k x58) (.k x61) (.k (kB false))) h 62 fun x62 h =>
 vguard x62 true (fun kk => kk x38 h) h fun x64 h =>
 vguard x62 true (fun kk => vbin .neq 0 x64 (.v (.c (.p (.int .u8 123)))) h kk) h fun x65 h =>
 vop O (.pick (.k x62) (.k x65) (.k (kB false))) h 66 fun x66 h =>
 vif x66 (
 vcall O (.v (.c (.func 141 []))) [x0, (kI 12)] h 68 fun x68 h =>
 vop O (.build [(.p (.int .i64 0)), (.p (.bool false)), (.p (.int .i64 0)), (.p (.str [])), (.p .nilslice), (.p .nilslice)] []) h 69 fun x69 h =>
 vstore 6 x4 x69 h fun _ h =>
 vcell true 6 x4 h fun c0 => vfin true q [c0] h)
 (vbin .gtr 0 x1 (kI 12) h fun x71 h =>
 vif x71 (
 vcall O (.v (.c (.func 141 []))) [x0, (kI 13)] h 73 fun x73 h =>
 vop O (.build [(.p (.int .i64 0)), (.p (.bool false)), (.p (.int .i64 0)), (.p (.str [])), (.p .nilslice), (.p .nilslice)] []) h 74 fun x74 h =>
 vstore 6 x4 x74 h fun _ h =>
 vcell true 6 x4 h fun c0 => vfin true q [c0] h)
 (vif x43 (
 vload true 6 x6 h fun x77 h =>
 vstore 6 x4 x77 h fun _ h =>
 vcell true 6 x4 h fun c0 => vfin true q [c0] h)
 (vbin .eql 0 x38 (.v (.c (.p (.int .u8 34)))) h fun x80 h =>
 vif x80 (
 vcall O (.v (.c (.func 205 []))) [x0] h 82 fun x82 h =>
 vop O (.build [(.p (.int .i64 0)), (.p (.bool false)), (.p (.int .i64 0)), (.p (.str [])), (.p .nilslice), (.p .nilslice)] [(0, 1, (.k (kI 3))), (3, 1, (.k x82))]) h 83 fun x83 h =>
 vstore 6 x4 x83 h fun _ h =>
 vcell true 6 x4 h fun c0 => vfin true q [c0] h)
 (vbin .eql 0 x38 (.v (.c (.p (.int .u8 91)))) h fun x86 h =>
 vif x86 (
 vcall O (.v (.c (.func 206 []))) [x0, x1] h 89 fun x89 h =>
 vstore 6 x4 x89 h fun _ h =>
 vcell true 6 x4 h fun c0 => vfin true q [c0] h)
 (vbin .eql 0 x38 (.v (.c (.p (.int .u8 123)))) h fun x92 h =>
 vif x92 (
 vcall O (.v (.c (.func 207 []))) [x0, x1] h 95 fun x95 h =>
 vstore 6 x4 x95 h fun _ h =>
 vcell true 6 x4 h fun c0 => vfin true q [c0] h)
 (vcall O (.v (.c (.func 208 []))) [x0] h 97 fun x97 h =>
 vstore 6 x4 x97 h fun _ h =>
 vcell true 6 x4 h fun c0 => vfin true q [c0] h)))))))
theorem e139_0 (O : Oracle) (R : Jump) (q : Nat) (x0 x1 : TVal) (h : Heap) : b139_0 O R q x0 x1 h = stepF c139 O R q 0 [x0, x1] h := by kernel_rfl
noncomputable def d139 : BlkF := fun O R q => [.s fun y0 => .s fun y1 => .z fun h => b139_0 O R q y0 y1 h]
theorem o139 (O : Oracle) (R : Jump) (q : Nat) : HoldsAll c139 O R q 0 (d139 O R q) := ⟨fun y0 y1 h => e139_0 O R q y0 y1 h, trivial⟩
/- (*sprue/sprueref13.reader).blanks -/
def c140 : MFunc := { np := 1, res := [], frz := true, body := (.block 0 (.loop 1 [0] (.seq (.seq (.reg [(oA 2 (.mv (.t 0))), (oA 3 (.nilck (.t 2))), (oA 4 (.faddr 1 (.t 3))), (oA 5 (.load false 1 (.t 4))), (oA 6 (.mv (.t 0))), (oA 7 (.nilck (.t 6))), (oA 8 (.faddr 0 (.t 7))), (oA 9 (.load false 1 (.t 8))), (oA 10 (.len 0 (.t 9))), (oA 11 (.bin .lss 0 (.t 5) (.t 10))), (oA 12 (.mv (.t 11))), ⟨(some 13), (.mv (.t 0)), (some (12, true))⟩, ⟨(some 14), (.nilck (.t 13)), (some (12, true))⟩, ⟨(some 15), (.faddr 0 (.t 14)), (some (12, true))⟩, ⟨(some 16), (.load false 1 (.t 15)), (some (12, true))⟩, ⟨(some 17), (.mv (.t 0)), (some (12, true))⟩, ⟨(some 18), (.nilck (.t 17)), (some (12, true))⟩, ⟨(some 19), (.faddr 1 (.t 18)), (some (12, true))⟩, ⟨(some 20), (.load false 1 (.t 19)), (some (12, true))⟩, ⟨(some 21), (.index (.t 16) (.t 20)), (some (12, true))⟩, ⟨(some 22), (.bin .eql 0 (.t 21) (.k (.v (.c (.p (.int .u8 32)))))), (some (12, true))⟩, ⟨(some 23), (.mv (.t 22)), (some (12, true))⟩, ⟨(some 24), (.mv (.t 0)), (some (23, false))⟩, ⟨(some 25), (.nilck (.t 24)), (some (23, false))⟩, ⟨(some 26), (.faddr 0 (.t 25)), (some (23, false))⟩, ⟨(some 27), (.load false 1 (.t 26)), (some (23, false))⟩, ⟨(some 28), (.mv (.t 0)), (some (23, false))⟩, ⟨(some 29), (.nilck (.t 28)), (some (23, false))⟩, ⟨(some 30), (.faddr 1 (.t 29)), (some (23, false))⟩, ⟨(some 31), (.load false 1 (.t 30)), (some (23, false))⟩, ⟨(some 32), (.index (.t 27) (.t 31)), (some (23, false))⟩, ⟨(some 33), (.bin .eql 0 (.t 32) (.k (.v (.c (.p (.int .u8 9)))))), (some (23, false))⟩, ⟨(some 34), (.pick (.t 23) (.k (.v (.c (.p (.bool true))))) (.t 33)), (some (12, true))⟩, ⟨(some 35), (.mv (.t 34)), (some (12, true))⟩, ⟨(some 36), (.mv (.t 0)), (some (35, false))⟩, ⟨(some 37), (.nilck (.t 36)), (some (35, false))⟩, ⟨(some 38), (.faddr 0 (.t 37)), (some (35, false))⟩, ⟨(some 39), (.load false 1 (.t 38)), (some (35, false))⟩, ⟨(some 40), (.mv (.t 0)), (some (35, false))⟩, ⟨(some 41), (.nilck (.t 40)), (some (35, false))⟩, ⟨(some 42), (.faddr 1 (.t 41)), (some (35, false))⟩, ⟨(some 43), (.load false 1 (.t 42)), (some (35, false))⟩, ⟨(some 44), (.index (.t 39) (.t 43)), (some (35, false))⟩, ⟨(some 45), (.bin .eql 0 (.t 44) (.k (.v (.c (.p (.int .u8 10)))))), (some (35, false))⟩, ⟨(some 46), (.pick (.t 35) (.k (.v (.c (.p (.bool true))))) (.t 45)), (some (12, true))⟩, ⟨(some 47), (.mv (.t 46)), (some (12, true))⟩, ⟨(some 48), (.mv (.t 0)), (some (47, false))⟩, ⟨(some 49), (.nilck (.t 48)), (some (47, false))⟩, ⟨(some 50), (.faddr 0 (.t 49)), (some (47, false))⟩, ⟨(some 51), (.load false 1 (.t 50)), (some (47, false))⟩, ⟨(some 52), (.mv (.t 0)), (some (47, false))⟩, ⟨(some 53), (.nilck (.t 52)), (some (47, false))⟩, ⟨(some 54), (.faddr 1 (.t 53)), (some (47, false))⟩, ⟨(some 55), (.load false 1 (.t 54)), (some (47, false))⟩, ⟨(some 56), (.index (.t 51) (.t 55)), (some (47, false))⟩, ⟨(some 57), (.bin .eql 0 (.t 56) (.k (.v (.c (.p (.int .u8 13)))))), (some (47, false))⟩, ⟨(some 58), (.pick (.t 47) (.k (.v (.c (.p (.bool true))))) (.t 57)), (some (12, true))⟩, (oA 59 (.pick (.t 12) (.t 58) (.k (.v (.c (.p (.bool false)))))))] []) (.cond (.t 59) .skip (.exit 0))) (.block 1 (.reg [(oA 60 (.mv (.t 0))), (oA 61 (.nilck (.t 60))), (oA 62 (.faddr 1 (.t 61))), (oA 63 (.load false 1 (.t 62))), (oA 64 (.bin .add 0 (.t 63) (.k (.v (.c (.p (.int .i64 1))))))), (oA 65 (.nilck (.t 60))), (oA 66 (.faddr 1 (.t 65))), (oN (.store 1 (.t 66) (.t 64)))] []))))) }
theorem t140 : compF Tryz.prog (globs2 tabs opq) (fun _ => false) true Tryz.f140 = some c140.erase := by kernel_rfl
noncomputable def b140_0 (O : Oracle) (R : Jump) (q : Nat) (x0 : TVal) (h : Heap) : Res1 :=
 R 1 [x0] h
theorem e140_0 (O : Oracle) (R : Jump) (q : Nat) (x0 : TVal) (h : Heap) : b140_0 O R q x0 h = stepF c140 O R q 0 [x0] h := by kernel_rfl
noncomputable def b140_1 (O : Oracle) (R : Jump) (q : Nat) (x0 : TVal) (h : Heap) : Res1 :=
 vop O (.nilck (.k x0)) h 3 fun x3 h =>
 vfaddr 1 x3 h fun x4 h =>
 vload false 1 x4 h fun x5 h =>
 vop O (.nilck (.k x0)) h 7 fun x7 h =>
 vfaddr 0 x7 h fun x8 h =>
 vload false 1 x8 h fun x9 h =>
 vlen O 0 x9 h 10 fun x10 h =>
 vbin .lss 0 x5 x10 h fun x11 h =>
 vguard x11 true (fun kk => kk x0 h) h fun x13 h =>
 vguard x11 true (fun kk => vop O (.nilck (.k x13)) h 14 kk) h fun x14 h =>
 vguard x11 true (fun kk => vfaddr 0 x14 h kk) h fun x15 h =>
 vguard x11 true (fun kk => vload false 1 x15 h kk) h fun x16 h =>
 vguard x11 true (fun kk => kk x0 h) h fun x17 h =>
 vguard x11 true (fun kk => vop O (.nilck (.k x17)) h 18 kk) h fun x18 h =>
 vguard x11 true (fun kk => vfaddr 1 x18 h kk) h fun x19 h =>
 vguard x11 true (fun kk => vload false 1 x19 h kk) h fun x20 h =>
 vguard x11 true (fun kk => vindex x16 x20 h kk) h fun x21 h =>
 vguard x11 true (fun kk => vbin .eql 0 x21 (.v (.c (.p (.int .u8 32)))) h kk) h fun x22 h =>
 vguard x11 true (fun kk => kk x22 h) h fun x23 h =>
 vguard x23 false (fun kk => kk x0 h) h fun x24 h =>
 vguard x23 false (fun kk => vop O (.nilck (.k x24)) h 25 kk) h fun x25 h =>
 vguard x23 false (fun kk => vfaddr 0 x25 h kk) h fun x26 h =>
 vguard x23 false (fun kk => vload false 1 x26 h kk) h fun x27 h =>
 vguard x23 false (fun kk => kk x0 h) h fun x28 h =>
 vguard x23 false (fun kk => vop O (.nilck (.k x28)) h 29 kk) h fun x29 h =>
 vguard x23 false (fun kk => vfaddr 1 x29 h kk) h fun x30 h =>
 vguard x23 false (fun kk => vload false 1 x30 h kk) h fun x31 h =>
 vguard x23 false (fun kk => vindex x27 x31 h kk) h fun x32 h =>
 vguard x23 false (fun kk => vbin .eql 0 x32 (.v (.c (.p (.int .u8 9)))) h kk) h fun x33 h =>
 vguard x11 true (fun kk => vop O (.pick (.k x23) (.k (kB true)) (.k x33)) h 34 kk) h fun x34 h =>
 vguard x11 true (fun kk => kk x34 h) h fun x35 h =>
 vguard x35 false (fun kk => kk x0 h) h fun x36 h =>
 vguard x35 false (fun kk => vop O (.nilck (.k x36)) h 37 kk) h fun x37 h =>
 vguard x35 false (fun kk => vfaddr 0 x37 h kk) h fun x38 h =>
 vguard x35 false (fun kk => vload false 1 x38 h kk) h fun x39 h =>
 vguard x35 false (fun kk => kk x0 h) h fun x40 h =>
 vguard x35 false (fun kk => vop O (.nilck (.k x40)) h 41 kk) h fun x41 h =>
 vguard x35 false (fun kk => vfaddr 1 x41 h kk) h fun x42 h =>
 vguard x35 false (fun kk => vload false 1 x42 h kk) h fun x43 h =>
 vguard x35 false (fun kk => vindex x39 x43 h kk) h fun x44 h =>
 vguard x35 false (fun kk => vbin .eql 0 x44 (.v (.c (.p (.int .u8 10)))) h kk) h fun x45 h =>
 vguard x11 true (fun kk => vop O (.pick (.k x35) (.k (kB true)) (.k x45)) h 46 kk) h fun x46 h =>
 vguard x11 true (fun kk => kk x46 h) h fun x47 h =>
 vguard x47 false (fun kk => kk x0 h) h fun x48 h =>
 vguard x47 false (fun kk => vop O (.nilck (.k x48)) h 49 kk) h fun x49 h =>
 vguard x47 false (fun kk => vfaddr 0 x49 h kk) h fun x50 h =>
 vguard x47 false (fun kk => vload false 1 x50 h kk) h fun x51 h =>
 vguard x47 false (fun kk => kk x0 h) h fun x52 h =>
 vguard x47 false (fun kk => vop O (.nilck (.k x52)) h 53 kk) h fun x53 h =>
 vguard x47 false (fun kk => vfaddr 1 x53 h kk) h fun x54 h =>
 vguard x47 false (fun kk => vload false 1 x54 h kk) h fun x55 h =>
 vguard x47 false (fun kk => vindex x51 x55 h kk) h fun x56 h =>
 vguard x47 false (fun kk => vbin .eql 0 x56 (.v (.c (.p (.int .u8 13)))) h kk) h fun x57 h =>
 vguard x11 true (fun kk => vop O (.pick (.k x47) (.k (kB true)) (.k x57)) h 58 kk) h fun x58 h =>
 vop O (.pick (.k x11) (.k x58) (.k (kB false))) h 59 fun x59 h =>
 vif x59 (
 vop O (.nilck (.k x0)) h 61 fun x61 h =>
 vfaddr 1 x61 h fun x62 h =>
 vload false 1 x62 h fun x63 h =>
 vbin .add 0 x63 (kI 1) h fun x64 h =>
 vop O (.nilck (.k x0)) h 65 fun x65 h =>
 vfaddr 1 x65 h fun x66 h =>
 vstore 1 x66 x64 h fun _ h =>
 R 1 [x0] h)
 (vfin true q [] h)
theorem e140_1 (O : Oracle) (R : Jump) (q : Nat) (x0 : TVal) (h : Heap) : b140_1 O R q x0 h = stepF c140 O R q 1 [x0] h := by kernel_rfl
noncomputable def d140 : BlkF := fun O R q => [.s fun y0 => .z fun h => b140_0 O R q y0 h, .s fun y0 => .z fun h => b140_1 O R q y0 h]
theorem o140 (O : Oracle) (R : Jump) (q : Nat) : HoldsAll c140 O R q 0 (d140 O R q) := ⟨fun y0 h => e140_0 O R q y0 h, fun y0 h => e140_1 O R q y0 h, trivial⟩
/- (*sprue/sprueref13.reader).fail -/
def c141 : MFunc := { np := 2, res := [], frz := true, body := (.seq (.reg [(oA 4 (.mv (.t 0))), (oA 5 (.nilck (.t 4))), (oA 6 (.faddr 2 (.t 5))), (oA 7 (.load false 1 (.t 6))), (oA 8 (.bin .eql 0 (.t 7) (.k (.v (.c (.p (.int .i64 0)))))))] []) (.cond (.t 8) (.reg [(oA 9 (.mv (.t 0))), (oA 10 (.mv (.t 1))), (oA 11 (.nilck (.t 9))), (oA 12 (.faddr 2 (.t 11))), (oN (.store 1 (.t 12) (.t 10)))] []) .skip)) }
theorem t141 : compF Tryz.prog (globs2 tabs opq) (fun _ => false) true Tryz.f141 = some c141.erase := by kernel_rfl
noncomputable def b141_0 (O : Oracle) (R : Jump) (q : Nat) (x0 x1 : TVal) (h : Heap) : Res1 :=
 vop O (.nilck (.k x0)) h 5 fun x5 h =>
 vfaddr 2 x5 h fun x6 h =>
 vload false 1 x6 h fun x7 h =>
 vbin .eql 0 x7 (kI 0) h fun x8 h =>
 vif x8 (
 vop O (.nilck (.k x0)) h 11 fun x11 h =>
 vfaddr 2 x11 h fun x12 h =>
 vstore 1 x12 x1 h fun _ h =>
 vfin true q [] h)
 (vfin true q [] h)
theorem e141_0 (O : Oracle) (R : Jump) (q : Nat) (x0 x1 : TVal) (h : Heap) : b141_0 O R q x0 x1 h = stepF c141 O R q 0 [x0, x1] h := by kernel_rfl
noncomputable def d141 : BlkF := fun O R q => [.s fun y0 => .s fun y1 => .z fun h => b141_0 O R q y0 y1 h]
theorem o141 (O : Oracle) (R : Jump) (q : Nat) : HoldsAll c141 O R q 0 (d141 O R q) := ⟨fun y0 y1 h => e141_0 O R q y0 y1 h, trivial⟩
/- sprue/sprueref13.clean -/
def c155 : MFunc := { np := 1, res := [.t 2], frz := true, body := (.seq (.reg [(oA 1 (.box (.t 0) false)), (oA 2 (.mv (.k (.v (.c (.p (.bool false)))))))] []) (.seq (.reg [(oA 4 (.faddr 0 (.t 1))), (oA 5 (.load false 1 (.t 4))), (oA 3 (.mv (.t 5)))] []) (.seq (.seq (.reg [(oA 6 (.mv (.t 3))), (oA 7 (.bin .lss 0 (.t 6) (.k (.v (.c (.p (.int .i64 0))))))), (oA 8 (.mv (.t 7))), ⟨(some 9), (.mv (.t 3)), (some (8, false))⟩, ⟨(some 10), (.bin .gtr 0 (.t 9) (.k (.v (.c (.p (.int .i64 5)))))), (some (8, false))⟩, (oA 11 (.pick (.t 8) (.k (.v (.c (.p (.bool true))))) (.t 10)))] []) (.cond (.t 11) (.seq (.reg [(oA 2 (.mv (.k (.v (.c (.p (.bool false)))))))] []) .ret) .skip)) (.seq (.reg [(oA 12 (.mv (.t 3))), (oA 13 (.bin .eql 0 (.t 12) (.k (.v (.c (.p (.int .i64 1))))))), (oA 14 (.mv (.t 13))), ⟨(some 15), (.faddr 1 (.t 1)), (some (14, false))⟩, ⟨(some 16), (.load false 1 (.t 15)), (some (14, false))⟩, ⟨(some 17), (.un .not (.t 16)), (some (14, false))⟩, (oA 18 (.pick (.t 14) (.k (.v (.c (.p (.bool true))))) (.t 17))), (oA 19 (.mv (.t 18))), ⟨(some 20), (.mv (.t 3)), (some (19, true))⟩, ⟨(some 21), (.bin .eql 0 (.t 20) (.k (.v (.c (.p (.int .i64 2)))))), (some (19, true))⟩, ⟨(some 22), (.mv (.t 21)), (some (19, true))⟩, ⟨(some 23), (.faddr 2 (.t 1)), (some (22, false))⟩, ⟨(some 24), (.load false 1 (.t 23)), (some (22, false))⟩, ⟨(some 25), (.bin .eql 0 (.t 24) (.k (.v (.c (.p (.int .i64 0)))))), (some (22, false))⟩, ⟨(some 26), (.pick (.t 22) (.k (.v (.c (.p (.bool true))))) (.t 25)), (some (19, true))⟩, (oA 27 (.pick (.t 19) (.t 26) (.k (.v (.c (.p (.bool false))))))), (oA 28 (.mv (.t 27))), ⟨(some 29), (.mv (.t 3)), (some (28, true))⟩, ⟨(some 30), (.bin .eql 0 (.t 29) (.k (.v (.c (.p (.int .i64 3)))))), (some (28, true))⟩, ⟨(some 31), (.mv (.t 30)), (some (28, true))⟩, ⟨(some 32), (.faddr 3 (.t 1)), (some (31, false))⟩, ⟨(some 33), (.load false 1 (.t 32)), (some (31, false))⟩, ⟨(some 34), (.bin .eql 0 (.t 33) (.k (.v (.c (.p (.str [])))))), (some (31, false))⟩, ⟨(some 35), (.pick (.t 31) (.k (.v (.c (.p (.bool true))))) (.t 34)), (some (28, true))⟩, (oA 36 (.pick (.t 28) (.t 35) (.k (.v (.c (.p (.bool false))))))), (oA 37 (.mv (.t 36))), ⟨(some 38), (.mv (.t 3)), (some (37, true))⟩, ⟨(some 39), (.bin .geq 0 (.t 38) (.k (.v (.c (.p (.int .i64 4)))))), (some (37, true))⟩, ⟨(some 40), (.mv (.t 39)), (some (37, true))⟩, ⟨(some 41), (.faddr 5 (.t 1)), (some (40, false))⟩, ⟨(some 42), (.load false 1 (.t 41)), (some (40, false))⟩, ⟨(some 43), (.len 2 (.t 42)), (some (40, false))⟩, ⟨(some 44), (.bin .eql 0 (.t 43) (.k (.v (.c (.p (.int .i64 0)))))), (some (40, false))⟩, ⟨(some 45), (.pick (.t 40) (.k (.v (.c (.p (.bool true))))) (.t 44)), (some (37, true))⟩, (oA 46 (.pick (.t 37) (.t 45) (.k (.v (.c (.p (.bool false))))))), (oA 47 (.mv (.t 46))), ⟨(some 48), (.mv (.t 3)), (some (47, true))⟩, ⟨(some 49), (.bin .eql 0 (.t 48) (.k (.v (.c (.p (.int .i64 5)))))), (some (47, true))⟩, ⟨(some 50), (.mv (.t 49)), (some (47, true))⟩, ⟨(some 51), (.faddr 4 (.t 1)), (some (50, true))⟩, ⟨(some 52), (.load false 1 (.t 51)), (some (50, true))⟩, ⟨(some 53), (.len 2 (.t 52)), (some (50, true))⟩, ⟨(some 54), (.faddr 5 (.t 1)), (some (50, true))⟩, ⟨(some 55), (.load false 1 (.t 54)), (some (50, true))⟩, ⟨(some 56), (.len 2 (.t 55)), (some (50, true))⟩, ⟨(some 57), (.bin .eql 0 (.t 53) (.t 56)), (some (50, true))⟩, ⟨(some 58), (.pick (.t 50) (.t 57) (.k (.v (.c (.p (.bool false)))))), (some (47, true))⟩, ⟨(some 59), (.mv (.t 58)), (some (47, true))⟩, ⟨(some 60), (.mv (.t 3)), (some (59, false))⟩, ⟨(some 61), (.bin .neq 0 (.t 60) (.k (.v (.c (.p (.int .i64 5)))))), (some (59, false))⟩, ⟨(some 62), (.mv (.t 61)), (some (59, false))⟩, ⟨(some 63), (.faddr 4 (.t 1)), (some (62, true))⟩, ⟨(some 64), (.load false 1 (.t 63)), (some (62, true))⟩, ⟨(some 65), (.len 2 (.t 64)), (some (62, true))⟩, ⟨(some 66), (.bin .eql 0 (.t 65) (.k (.v (.c (.p (.int .i64 0)))))), (some (62, true))⟩, ⟨(some 67), (.pick (.t 62) (.t 66) (.k (.v (.c (.p (.bool false)))))), (some (59, false))⟩, ⟨(some 68), (.pick (.t 59) (.k (.v (.c (.p (.bool true))))) (.t 67)), (some (47, true))⟩, (oA 69 (.pick (.t 47) (.t 68) (.k (.v (.c (.p (.bool false))))))), (oA 2 (.mv (.t 69)))] []) .ret)))) }
theorem t155 : compF Tryz.prog (globs2 tabs opq) (fun _ => false) true Tryz.f155 = some c155.erase := by kernel_rfl
noncomputable def b155_0 (O : Oracle) (R : Jump) (q : Nat) (x0 : TVal) (h : Heap) : Res1 :=
 vop O (.box (.k x0) false) h 1 fun x1 h =>
 vfaddr 0 x1 h fun x4 h =>
 vload false 1 x4 h fun x5 h =>
 vbin .lss 0 x5 (kI 0) h fun x7 h =>
 vguard x7 false (fun kk => kk x5 h) h fun x9 h =>
 vguard x7 false (fun kk => vbin .gtr 0 x9 (kI 5) h kk) h fun x10 h =>
 vop O (.pick (.k x7) (.k (kB true)) (.k x10)) h 11 fun x11 h =>
 vif x11 (
 tcomp (kB false) fun c0 => vfin true q [c0] h)
 (vbin .eql 0 x5 (kI 1) h fun x13 h =>
 vguard x13 false (fun kk => vfaddr 1 x1 h kk) h fun x15 h =>
 vguard x13 false (fun kk => vload false 1 x15 h kk) h fun x16 h =>
 vguard x13 false (fun kk => vop O (.un .not (.k x16)) h 17 kk) h fun x17 h =>
 vop O (.pick (.k x13) (.k (kB true)) (.k x17)) h 18 fun x18 h =>
 vguard x18 true (fun kk => kk x5 h) h fun x20 h =>
 vguard x18 true (fun kk => vbin .eql 0 x20 (kI 2) h kk) h fun x21 h =>
 vguard x18 true (fun kk => kk x21 h) h fun x22 h =>
 vguard x22 false (fun kk => vfaddr 2 x1 h kk) h fun x23 h =>
 vguard x22 false (fun kk => vload false 1 x23 h kk) h fun x24 h =>
 vguard x22 false (fun kk => vbin .eql 0 x24 (kI 0) h kk) h fun x25 h =>
 vguard x18 true (fun kk => vop O (.pick (.k x22) (.k (kB true)) (.k x25)) h 26 kk) h fun x26 h =>
 vop O (.pick (.k x18) (.k x26) (.k (kB false))) h 27 fun x27 h =>
 vguard x27 true (fun kk => kk x5 h) h fun x29 h =>
 vguard x27 true (fun kk => vbin .eql 0 x29 (kI 3) h kk) h fun x30 h =>
 vguard x27 true (fun kk => kk x30 h) h fun x31 h =>
 vguard x31 false (fun kk => vfaddr 3 x1 h kk) h fun x32 h =>
 vguard x31 false (fun kk => vload false 1 x32 h kk) h fun x33 h =>
 vguard x31 false (fun kk => vbin .eql 0 x33 (kS []) h kk) h fun x34 h =>
 vguard x27 true (fun kk => vop O (.pick (.k x31) (.k (kB true)) (.k x34)) h 35 kk) h fun x35 h =>
 vop O (.pick (.k x27) (.k x35) (.k (kB false))) h 36 fun x36 h =>
 vguard x36 true (fun kk => kk x5 h) h fun x38 h =>
 vguard x36 true (fun kk => vbin .geq 0 x38 (kI 4) h kk) h fun x39 h =>
 vguard x36 true (fun kk => kk x39 h) h fun x40 h =>
 vguard x40 false (fun kk => vfaddr 5 x1 h kk) h fun x41 h =>
 vguard x40 false (fun kk => vload false 1 x41 h kk) h fun x42 h =>
 vguard x40 false (fun kk => vlen O 2 x42 h 43 kk) h fun x43 h =>
 vguard x40 false (fun kk => vbin .eql 0 x43 (kI 0) h kk) h fun x44 h =>
 vguard x36 true (fun kk => vop O (.pick (.k x40) (.k (kB true)) (.k x44)) h 45 kk) h fun x45 h =>
 vop O (.pick (.k x36) (.k x45) (.k (kB false))) h 46 fun x46 h =>
 vguard x46 true (fun kk => kk x5 h) h fun x48 h =>
 vguard x46 true (fun kk => vbin .eql 0 x48 (kI 5) h kk) h fun x49 h =>
 vguard x46 true (fun kk => kk x49 h) h fun x50 h =>
 vguard x50 true (fun kk => vfaddr 4 x1 h kk) h fun x51 h =>
 vguard x50 true (fun kk => vload false 1 x51 h kk) h fun x52 h =>
 vguard x50 true (fun kk => vlen O 2 x52 h 53 kk) h fun x53 h =>
 vguard x50 true (fun kk => vfaddr 5 x1 h kk) h fun x54 h =>
 vguard x50 true (fun kk => vload false 1 x54 h kk) h fun x55 h =>
 vguard x50 true (fun kk => vlen O 2 x55 h 56 kk) h fun x56 h =>
 vguard x50 true (fun kk => vbin .eql 0 x53 x56 h kk) h fun x57 h =>
 vguard x46 true (fun kk => vop O (.pick (.k x50) (.k x57) (.k (kB false))) h 58 kk) h fun x58 h =>
 vguard x46 true (fun kk => kk x58 h) h fun x59 h =>
 vguard x59 false (fun kk => kk x5 h) h fun x60 h =>
 vguard x59 false (fun kk => vbin .neq 0 x60 (kI 5) h kk) h fun x61 h =>
 vguard x59 false (fun kk => kk x61 h) h fun x62 h =>
 vguard x62 true (fun kk => vfaddr 4 x1 h kk) h fun x63 h =>
 vguard x62 true (fun kk => vload false 1 x63 h kk) h fun x64 h =>
 vguard x62 true (fun kk => vlen O 2 x64 h 65 kk) h fun x65 h =>
 vguard x62 true (fun kk => vbin .eql 0 x65 (kI 0) h kk) h fun x66 h =>
 vguard x59 false (fun kk => vop O (.pick (.k x62) (.k x66) (.k (kB false))) h 67 kk) h fun x67 h =>
 vguard x46 true (fun kk => vop O (.pick (.k x59) (.k (kB true)) (.k x67)) h 68 kk) h fun x68 h =>
 vop O (.pick (.k x46) (.k x68) (.k (kB false))) h 69 fun x69 h =>
 tcomp x69 fun c0 => vfin true q [c0] h)
theorem e155_0 (O : Oracle) (R : Jump) (q : Nat) (x0 : TVal) (h : Heap) : b155_0 O R q x0 h = stepF c155 O R q 0 [x0] h := by kernel_rfl
noncomputable def d155 : BlkF := fun O R q => [.s fun y0 => .z fun h => b155_0 O R q y0 h]
theorem o155 (O : Oracle) (R : Jump) (q : Nat) : HoldsAll c155 O R q 0 (d155 O R q) := ⟨fun y0 h => e155_0 O R q y0 h, trivial⟩
/- sprue/scan.Ident -/
def c161 : MFunc := { np := 1, res := [.t 2], frz := true, body := (.seq (.reg [(oA 2 (.mv (.k (.v (.c (.p (.bool false)))))))] []) (.seq (.reg [(oA 3 (.mv (.t 0))), (oA 4 (.bin .neq 0 (.t 3) (.k (.v (.c (.p (.str []))))))), (oA 5 (.mv (.t 4))), ⟨(some 6), (.mv (.t 0)), (some (5, true))⟩, ⟨(some 7), (.len 0 (.t 6)), (some (5, true))⟩, ⟨(some 8), (.bin .leq 0 (.t 7) (.k (.v (.c (.p (.int .i64 16)))))), (some (5, true))⟩, (oA 9 (.pick (.t 5) (.t 8) (.k (.v (.c (.p (.bool false))))))), (oA 10 (.mv (.t 9))), ⟨(some 11), (.mv (.t 0)), (some (10, true))⟩, ⟨(some 12), (.index (.t 11) (.k (.v (.c (.p (.int .i64 0)))))), (some (10, true))⟩, ⟨(some 13), (.call (.k (.v (.c (.func 228 [])))) [(.t 12)]), (some (10, true))⟩, ⟨(some 14), (.un .not (.t 13)), (some (10, true))⟩, (oA 15 (.pick (.t 10) (.t 14) (.k (.v (.c (.p (.bool false))))))), (oA 16 (.mv (.t 15))), ⟨(some 17), (.mv (.t 0)), (some (16, true))⟩, ⟨(some 18), (.call (.k (.v (.c (.func 229 [])))) [(.t 17)]), (some (16, true))⟩, ⟨(some 19), (.mv (.t 0)), (some (16, true))⟩, ⟨(some 20), (.len 0 (.t 19)), (some (16, true))⟩, ⟨(some 21), (.bin .eql 0 (.t 18) (.t 20)), (some (16, true))⟩, (oA 22 (.pick (.t 16) (.t 21) (.k (.v (.c (.p (.bool false))))))), (oA 2 (.mv (.t 22)))] []) .ret)) }
theorem t161 : compF Tryz.prog (globs2 tabs opq) (fun _ => false) true Tryz.f161 = some c161.erase := by kernel_rfl
noncomputable def b161_0 (O : Oracle) (R : Jump) (q : Nat) (x0 : TVal) (h : Heap) : Res1 :=
 vbin .neq 0 x0 (kS []) h fun x4 h =>
 vguard x4 true (fun kk => kk x0 h) h fun x6 h =>
 vguard x4 true (fun kk => vlen O 0 x6 h 7 kk) h fun x7 h =>
 vguard x4 true (fun kk => vbin .leq 0 x7 (kI 16) h kk) h fun x8 h =>
 vop O (.pick (.k x4) (.k x8) (.k (kB false))) h 9 fun x9 h =>
 vguard x9 true (fun kk => kk x0 h) h fun x11 h =>
 vguard x9 true (fun kk => vindex x11 (kI 0) h kk) h fun x12 h =>
 vguard x9 true (fun kk => vcall O (.v (.c (.func 228 []))) [x12] h 13 kk) h fun x13 h =>
 vguard x9 true (fun kk => vop O (.un .not (.k x13)) h 14 kk) h fun x14 h =>
 vop O (.pick (.k x9) (.k x14) (.k (kB false))) h 15 fun x15 h =>
 vguard x15 true (fun kk => kk x0 h) h fun x17 h =>
 vguard x15 true (fun kk => vcall O (.v (.c (.func 229 []))) [x17] h 18 kk) h fun x18 h =>
 vguard x15 true (fun kk => kk x0 h) h fun x19 h =>
 vguard x15 true (fun kk => vlen O 0 x19 h 20 kk) h fun x20 h =>
 vguard x15 true (fun kk => vbin .eql 0 x18 x20 h kk) h fun x21 h =>
 vop O (.pick (.k x15) (.k x21) (.k (kB false))) h 22 fun x22 h =>
 tcomp x22 fun c0 => vfin true q [c0] h
theorem e161_0 (O : Oracle) (R : Jump) (q : Nat) (x0 : TVal) (h : Heap) : b161_0 O R q x0 h = stepF c161 O R q 0 [x0] h := by kernel_rfl
noncomputable def d161 : BlkF := fun O R q => [.s fun y0 => .z fun h => b161_0 O R q y0 h]
theorem o161 (O : Oracle) (R : Jump) (q : Nat) : HoldsAll c161 O R q 0 (d161 O R q) := ⟨fun y0 h => e161_0 O R q y0 h, trivial⟩
/- strings.Contains -/
def c162 : MFunc := { np := 2, res := [.t 4], frz := true, body := (.seq (.reg [(oA 4 (.mv (.k (.v (.c (.p (.bool false)))))))] []) (.seq (.reg [(oA 5 (.mv (.t 0))), (oA 6 (.mv (.t 1))), (oA 7 (.call (.k (.v (.c (.func 230 [])))) [(.t 5), (.t 6)])), (oA 8 (.bin .geq 0 (.t 7) (.k (.v (.c (.p (.int .i64 0))))))), (oA 4 (.mv (.t 8)))] []) .ret)) }
theorem t162 : compF Tryz.prog (globs2 tabs opq) (fun _ => false) true Tryz.f162 = some c162.erase := by kernel_rfl
noncomputable def b162_0 (O : Oracle) (R : Jump) (q : Nat) (x0 x1 : TVal) (h : Heap) : Res1 :=
 vcall O (.v (.c (.func 230 []))) [x0, x1] h 7 fun x7 h =>
 vbin .geq 0 x7 (kI 0) h fun x8 h =>
 tcomp x8 fun c0 => vfin true q [c0] h
theorem e162_0 (O : Oracle) (R : Jump) (q : Nat) (x0 x1 : TVal) (h : Heap) : b162_0 O R q x0 x1 h = stepF c162 O R q 0 [x0, x1] h := by kernel_rfl
noncomputable def d162 : BlkF := fun O R q => [.s fun y0 => .s fun y1 => .z fun h => b162_0 O R q y0 y1 h]
theorem o162 (O : Oracle) (R : Jump) (q : Nat) : HoldsAll c162 O R q 0 (d162 O R q) := ⟨fun y0 y1 h => e162_0 O R q y0 y1 h, trivial⟩
/- sprue/calls.number -/
def c163 : MFunc := { np := 1, res := [.cell 2 true 6], frz := true, body := (.seq (.reg [(oA 2 (.alloc [(.p (.int .i64 0)), (.p (.bool false)), (.p (.int .i64 0)), (.p (.str [])), (.p .nilslice), (.p .nilslice)] false))] []) (.seq (.reg [(oA 3 (.mv (.t 0))), (oA 4 (.build [(.p (.int .i64 0)), (.p (.bool false)), (.p (.int .i64 0)), (.p (.str [])), (.p .nilslice), (.p .nilslice)] [(0, 1, (.k (.v (.c (.p (.int .i64 2)))))), (2, 1, (.t 3))])), (oN (.store 6 (.t 2) (.t 4)))] []) .ret)) }
theorem t163 : compF Tryz.prog (globs2 tabs opq) (fun _ => false) true Tryz.f163 = some c163.erase := by kernel_rfl
noncomputable def b163_0 (O : Oracle) (R : Jump) (q : Nat) (x0 : TVal) (h : Heap) : Res1 :=
 vop O (.alloc [(.p (.int .i64 0)), (.p (.bool false)), (.p (.int .i64 0)), (.p (.str [])), (.p .nilslice), (.p .nilslice)] false) h 2 fun x2 h =>
 vop O (.build [(.p (.int .i64 0)), (.p (.bool false)), (.p (.int .i64 0)), (.p (.str [])), (.p .nilslice), (.p .nilslice)] [(0, 1, (.k (kI 2))), (2, 1, (.k x0))]) h 4 fun x4 h =>
 vstore 6 x2 x4 h fun _ h =>
 vcell true 6 x2 h fun c0 => vfin true q [c0] h
theorem e163_0 (O : Oracle) (R : Jump) (q : Nat) (x0 : TVal) (h : Heap) : b163_0 O R q x0 h = stepF c163 O R q 0 [x0] h := by kernel_rfl
noncomputable def d163 : BlkF := fun O R q => [.s fun y0 => .z fun h => b163_0 O R q y0 h]
theorem o163 (O : Oracle) (R : Jump) (q : Nat) : HoldsAll c163 O R q 0 (d163 O R q) := ⟨fun y0 h => e163_0 O R q y0 h, trivial⟩
/- slices.ContainsFunc[[]sprue/api.Value,sprue/api.Value] -/
def c164 : MFunc := { np := 2, res := [.t 4], frz := true, body := (.seq (.reg [(oA 4 (.mv (.k (.v (.c (.p (.bool false)))))))] []) (.seq (.reg [(oA 5 (.mv (.t 0))), (oA 6 (.mv (.t 1))), (oA 7 (.call (.k (.v (.c (.func 231 [])))) [(.t 5), (.t 6)])), (oA 8 (.bin .geq 0 (.t 7) (.k (.v (.c (.p (.int .i64 0))))))), (oA 4 (.mv (.t 8)))] []) .ret)) }
theorem t164 : compF Tryz.prog (globs2 tabs opq) (fun _ => false) true Tryz.f164 = some c164.erase := by kernel_rfl
noncomputable def b164_0 (O : Oracle) (R : Jump) (q : Nat) (x0 x1 : TVal) (h : Heap) : Res1 :=
 vcall O (.v (.c (.func 231 []))) [x0, x1] h 7 fun x7 h =>
 vbin .geq 0 x7 (kI 0) h fun x8 h =>
 tcomp x8 fun c0 => vfin true q [c0] h
theorem e164_0 (O : Oracle) (R : Jump) (q : Nat) (x0 x1 : TVal) (h : Heap) : b164_0 O R q x0 x1 h = stepF c164 O R q 0 [x0, x1] h := by kernel_rfl
noncomputable def d164 : BlkF := fun O R q => [.s fun y0 => .s fun y1 => .z fun h => b164_0 O R q y0 y1 h]
theorem o164 (O : Oracle) (R : Jump) (q : Nat) : HoldsAll c164 O R q 0 (d164 O R q) := ⟨fun y0 y1 h => e164_0 O R q y0 y1 h, trivial⟩
/- sprue/calls.logic$1 -/
def c165 : MFunc := { np := 1, res := [.t 2], frz := true, body := (.seq (.reg [(oA 1 (.box (.t 0) false)), (oA 2 (.mv (.k (.v (.c (.p (.bool false)))))))] []) (.seq (.reg [(oA 3 (.faddr 0 (.t 1))), (oA 4 (.load false 1 (.t 3))), (oA 5 (.bin .neq 0 (.t 4) (.k (.v (.c (.p (.int .i64 1))))))), (oA 2 (.mv (.t 5)))] []) .ret)) }
theorem t165 : compF Tryz.prog (globs2 tabs opq) (fun _ => false) true Tryz.f165 = some c165.erase := by kernel_rfl
noncomputable def b165_0 (O : Oracle) (R : Jump) (q : Nat) (x0 : TVal) (h : Heap) : Res1 :=
 vop O (.box (.k x0) false) h 1 fun x1 h =>
 vfaddr 0 x1 h fun x3 h =>
 vload false 1 x3 h fun x4 h =>
 vbin .neq 0 x4 (kI 1) h fun x5 h =>
 tcomp x5 fun c0 => vfin true q [c0] h
theorem e165_0 (O : Oracle) (R : Jump) (q : Nat) (x0 : TVal) (h : Heap) : b165_0 O R q x0 h = stepF c165 O R q 0 [x0] h := by kernel_rfl
noncomputable def d165 : BlkF := fun O R q => [.s fun y0 => .z fun h => b165_0 O R q y0 h]
theorem o165 (O : Oracle) (R : Jump) (q : Nat) : HoldsAll c165 O R q 0 (d165 O R q) := ⟨fun y0 h => e165_0 O R q y0 h, trivial⟩
/- sprue/calls.text -/
def c166 : MFunc := { np := 1, res := [.cell 2 true 6], frz := true, body := (.seq (.reg [(oA 2 (.alloc [(.p (.int .i64 0)), (.p (.bool false)), (.p (.int .i64 0)), (.p (.str [])), (.p .nilslice), (.p .nilslice)] false))] []) (.seq (.reg [(oA 3 (.mv (.t 0))), (oA 4 (.build [(.p (.int .i64 0)), (.p (.bool false)), (.p (.int .i64 0)), (.p (.str [])), (.p .nilslice), (.p .nilslice)] [(0, 1, (.k (.v (.c (.p (.int .i64 3)))))), (3, 1, (.t 3))])), (oN (.store 6 (.t 2) (.t 4)))] []) .ret)) }
theorem t166 : compF Tryz.prog (globs2 tabs opq) (fun _ => false) true Tryz.f166 = some c166.erase := by kernel_rfl
noncomputable def b166_0 (O : Oracle) (R : Jump) (q : Nat) (x0 : TVal) (h : Heap) : Res1 :=
 vop O (.alloc [(.p (.int .i64 0)), (.p (.bool false)), (.p (.int .i64 0)), (.p (.str [])), (.p .nilslice), (.p .nilslice)] false) h 2 fun x2 h =>
 vop O (.build [(.p (.int .i64 0)), (.p (.bool false)), (.p (.int .i64 0)), (.p (.str [])), (.p .nilslice), (.p .nilslice)] [(0, 1, (.k (kI 3))), (3, 1, (.k x0))]) h 4 fun x4 h =>
 vstore 6 x2 x4 h fun _ h =>
 vcell true 6 x2 h fun c0 => vfin true q [c0] h
theorem e166_0 (O : Oracle) (R : Jump) (q : Nat) (x0 : TVal) (h : Heap) : b166_0 O R q x0 h = stepF c166 O R q 0 [x0] h := by kernel_rfl
noncomputable def d166 : BlkF := fun O R q => [.s fun y0 => .z fun h => b166_0 O R q y0 h]
theorem o166 (O : Oracle) (R : Jump) (q : Nat) : HoldsAll c166 O R q 0 (d166 O R q) := ⟨fun y0 h => e166_0 O R q y0 h, trivial⟩
/- strconv.FormatInt -/
def c167 : MFunc := { np := 2, res := [.t 4], frz := true, body := (.seq (.reg [(oA 4 (.mv (.k (.v (.c (.p (.str [])))))))] []) (.seq (.reg [(oA 5 (.mv (.t 0))), (oA 6 (.mv (.t 1))), (oA 7 (.call (.k (.v (.c (.func 232 [])))) [(.t 5), (.t 6)])), (oA 4 (.mv (.t 7)))] []) .ret)) }
theorem t167 : compF Tryz.prog (globs2 tabs opq) (fun _ => false) true Tryz.f167 = some c167.erase := by kernel_rfl
noncomputable def b167_0 (O : Oracle) (R : Jump) (q : Nat) (x0 x1 : TVal) (h : Heap) : Res1 :=
 vcall O (.v (.c (.func 232 []))) [x0, x1] h 7 fun x7 h =>
 tcomp x7 fun c0 => vfin true q [c0] h
theorem e167_0 (O : Oracle) (R : Jump) (q : Nat) (x0 x1 : TVal) (h : Heap) : b167_0 O R q x0 x1 h = stepF c167 O R q 0 [x0, x1] h := by kernel_rfl
noncomputable def d167 : BlkF := fun O R q => [.s fun y0 => .s fun y1 => .z fun h => b167_0 O R q y0 y1 h]
theorem o167 (O : Oracle) (R : Jump) (q : Nat) : HoldsAll c167 O R q 0 (d167 O R q) := ⟨fun y0 y1 h => e167_0 O R q y0 y1 h, trivial⟩
/- strconv.FormatBool -/
def c168 : MFunc := { np := 1, res := [.t 2], frz := true, body := (.seq (.reg [(oA 2 (.mv (.k (.v (.c (.p (.str [])))))))] []) (.seq (.reg [(oA 3 (.mv (.t 0))), (oA 4 (.call (.k (.v (.c (.func 233 [])))) [(.t 3)])), (oA 2 (.mv (.t 4)))] []) .ret)) }
theorem t168 : compF Tryz.prog (globs2 tabs opq) (fun _ => false) true Tryz.f168 = some c168.erase := by kernel_rfl
noncomputable def b168_0 (O : Oracle) (R : Jump) (q : Nat) (x0 : TVal) (h : Heap) : Res1 :=
 vcall O (.v (.c (.func 233 []))) [x0] h 4 fun x4 h =>
 tcomp x4 fun c0 => vfin true q [c0] h
theorem e168_0 (O : Oracle) (R : Jump) (q : Nat) (x0 : TVal) (h : Heap) : b168_0 O R q x0 h = stepF c168 O R q 0 [x0] h := by kernel_rfl
noncomputable def d168 : BlkF := fun O R q => [.s fun y0 => .z fun h => b168_0 O R q y0 h]
theorem o168 (O : Oracle) (R : Jump) (q : Nat) : HoldsAll c168 O R q 0 (d168 O R q) := ⟨fun y0 h => e168_0 O R q y0 h, trivial⟩
/- slices.Index[[]string,string] -/
def c169 : MFunc := { np := 2, res := [.t 4], frz := true, body := (.seq (.reg [(oA 4 (.mv (.k (.v (.c (.p (.int .i64 0)))))))] []) (.seq (.seq (.reg [(oA 6 (.mv (.t 0))), (oA 7 (.len 2 (.t 6))), (oA 8 (.mv (.k (.v (.c (.p (.int .i64 0)))))))] []) (.block 0 (.loop 1 [0, 1, 7, 8] (.seq (.reg [(oA 9 (.bin .lss 0 (.t 8) (.t 7)))] []) (.seq (.cond (.t 9) .skip (.exit 0)) (.seq (.block 1 (.seq (.reg [(oA 10 (.mv (.t 8))), (oA 5 (.mv (.t 10)))] []) (.seq (.reg [(oA 11 (.mv (.t 1))), (oA 12 (.mv (.t 0))), (oA 13 (.mv (.t 5))), (oA 14 (.iaddr 1 (.t 12) (.t 13))), (oA 15 (.load false 1 (.t 14))), (oA 16 (.bin .eql 0 (.t 11) (.t 15)))] []) (.cond (.t 16) (.seq (.reg [(oA 17 (.mv (.t 5))), (oA 4 (.mv (.t 17)))] []) .ret) .skip)))) (.reg [(oA 18 (.bin .add 0 (.t 8) (.k (.v (.c (.p (.int .i64 1))))))), (oA 8 (.mv (.t 18)))] []))))))) (.seq (.reg [(oA 4 (.mv (.k (.v (.c (.p (.int .i64 (-1))))))))] []) .ret))) }
theorem t169 : compF Tryz.prog (globs2 tabs opq) (fun _ => false) true Tryz.f169 = some c169.erase := by kernel_rfl
noncomputable def b169_0 (O : Oracle) (R : Jump) (q : Nat) (x0 x1 : TVal) (h : Heap) : Res1 :=
 vlen O 2 x0 h 7 fun x7 h =>
 R 1 [x0, x1, x7, (kI 0)] h
theorem e169_0 (O : Oracle) (R : Jump) (q : Nat) (x0 x1 : TVal) (h : Heap) : b169_0 O R q x0 x1 h = stepF c169 O R q 0 [x0, x1] h := by kernel_rfl
noncomputable def b169_1 (O : Oracle) (R : Jump) (q : Nat) (x0 x1 x7 x8 : TVal) (h : Heap) : Res1 :=
 vbin .lss 0 x8 x7 h fun x9 h =>
 vif x9 (
 viaddr 1 x0 x8 h fun x14 h =>
 vload false 1 x14 h fun x15 h =>
 vbin .eql 0 x1 x15 h fun x16 h =>
 vif x16 (
 tcomp x8 fun c0 => vfin true q [c0] h)
 (vbin .add 0 x8 (kI 1) h fun x18 h =>
 R 1 [x0, x1, x7, x18] h))
 (tcomp (kI (-1)) fun c0 => vfin true q [c0] h)
theorem e169_1 (O : Oracle) (R : Jump) (q : Nat) (x0 x1 x7 x8 : TVal) (h : Heap) : b169_1 O R q x0 x1 x7 x8 h = stepF c169 O R q 1 [x0, x1, x7, x8] h := by kernel_rfl
noncomputable def d169 : BlkF := fun O R q => [.s fun y0 => .s fun y1 => .z fun h => b169_0 O R q y0 y1 h, .s fun y0 => .s fun y1 => .s fun y2 => .s fun y3 => .z fun h => b169_1 O R q y0 y1 y2 y3 h]
theorem o169 (O : Oracle) (R : Jump) (q : Nat) : HoldsAll c169 O R q 0 (d169 O R q) := ⟨fun y0 y1 h => e169_0 O R q y0 y1 h, fun y0 y1 y2 y3 h => e169_1 O R q y0 y1 y2 y3 h, trivial⟩
/- sprue/data.own -/
def c170 : MFunc := { np := 1, res := [.cell 2 true 6], frz := true, body := (.seq (.reg [(oA 1 (.box (.t 0) false)), (oA 2 (.alloc [(.p (.int .i64 0)), (.p (.bool false)), (.p (.int .i64 0)), (.p (.str [])), (.p .nilslice), (.p .nilslice)] false))] []) (.seq (.reg [(oA 5 (.faddr 4 (.t 1))), (oA 6 (.load false 1 (.t 5))), (oA 7 (.call (.k (.v (.c (.func 234 [])))) [(.t 6)])), (oA 8 (.faddr 5 (.t 1))), (oA 9 (.load false 1 (.t 8))), (oA 10 (.call (.k (.v (.c (.func 70 [])))) [(.t 9)])), (oA 11 (.faddr 4 (.t 1))), (oN (.store 1 (.t 11) (.t 7))), (oA 12 (.faddr 5 (.t 1))), (oN (.store 1 (.t 12) (.t 10)))] [(2, 4)]) (.seq (.seq (.reg [(oA 13 (.faddr 5 (.t 1))), (oA 14 (.load false 1 (.t 13))), (oA 15 (.len 2 (.t 14))), (oA 16 (.mv (.k (.v (.c (.p (.int .i64 0)))))))] []) (.block 0 (.loop 1 [1, 2, 14, 15, 16] (.seq (.reg [(oA 17 (.bin .lss 0 (.t 16) (.t 15)))] []) (.seq (.cond (.t 17) .skip (.exit 0)) (.seq (.block 1 (.seq (.reg [(oA 18 (.mv (.t 16))), (oA 19 (.iaddr 6 (.t 14) (.t 16))), (oA 20 (.load true 6 (.t 19))), (oA 4 (.alloc [(.p (.int .i64 0)), (.p (.bool false)), (.p (.int .i64 0)), (.p (.str [])), (.p .nilslice), (.p .nilslice)] false)), (oA 3 (.mv (.t 18))), (oN (.store 6 (.t 4) (.t 20)))] []) (.reg [(oA 21 (.faddr 5 (.t 1))), (oA 22 (.load false 1 (.t 21))), (oA 23 (.mv (.t 3))), (oA 24 (.load true 6 (.t 4))), (oA 25 (.call (.k (.v (.c (.func 170 [])))) [(.t 24)])), (oA 26 (.iaddr 6 (.t 22) (.t 23))), (oN (.store 6 (.t 26) (.t 25)))] [(1, 4)]))) (.reg [(oA 27 (.bin .add 0 (.t 16) (.k (.v (.c (.p (.int .i64 1))))))), (oA 16 (.mv (.t 27)))] []))))))) (.mark 2 [1, 2] (.seq (.reg [(oA 28 (.load true 6 (.t 1))), (oN (.store 6 (.t 2) (.t 28)))] []) .ret))))) }
theorem t170 : compF Tryz.prog (globs2 tabs opq) (fun _ => false) true Tryz.f170 = some c170.erase := by kernel_rfl
noncomputable def b170_0 (O : Oracle) (R : Jump) (q : Nat) (x0 : TVal) (h : Heap) : Res1 :=
 vop O (.box (.k x0) false) h 1 fun x1 h =>
 vop O (.alloc [(.p (.int .i64 0)), (.p (.bool false)), (.p (.int .i64 0)), (.p (.str [])), (.p .nilslice), (.p .nilslice)] false) h 2 fun x2 h =>
 vtouch O (.faddr 4 (.k x1)) h 5 fun x5 h t0 =>
 vtouch O (.load false 1 (.k x5)) h 6 fun x6 h t1 =>
 vtouch O (.call (.k (.v (.c (.func 234 [])))) [(.k x6)]) h 7 fun x7 h t2 =>
 vtouch O (.faddr 5 (.k x1)) h 8 fun x8 h t3 =>
 vtouch O (.load false 1 (.k x8)) h 9 fun x9 h t4 =>
 vtouch O (.call (.k (.v (.c (.func 70 [])))) [(.k x9)]) h 10 fun x10 h t5 =>
 vtouch O (.faddr 4 (.k x1)) h 11 fun x11 h t6 =>
 vtouch O (.store 1 (.k x11) (.k x7)) h 1000000 fun _ h t7 =>
 vtouch O (.faddr 5 (.k x1)) h 12 fun x12 h t8 =>
 vtouch O (.store 1 (.k x12) (.k x10)) h 1000000 fun _ h t9 =>
 bif apartAll [t0, t1, t2, t3, t4, t5, t6, t7, t8, t9] [(2, 4)] then
 vfaddr 5 x1 h fun x13 h =>
 vload false 1 x13 h fun x14 h =>
 vlen O 2 x14 h 15 fun x15 h =>
 R 1 [x1, x2, x14, x15, (kI 0)] h
 else none
theorem e170_0 (O : Oracle) (R : Jump) (q : Nat) (x0 : TVal) (h : Heap) : b170_0 O R q x0 h = stepF c170 O R q 0 [x0] h := by kernel_rfl
noncomputable def b170_1 (O : Oracle) (R : Jump) (q : Nat) (x1 x2 x14 x15 x16 : TVal) (h : Heap) : Res1 :=
 vbin .lss 0 x16 x15 h fun x17 h =>
 vif x17 (
 viaddr 6 x14 x16 h fun x19 h =>
 vload true 6 x19 h fun x20 h =>
 vop O (.alloc [(.p (.int .i64 0)), (.p (.bool false)), (.p (.int .i64 0)), (.p (.str [])), (.p .nilslice), (.p .nilslice)] false) h 4 fun x4 h =>
 vstore 6 x4 x20 h fun _ h =>
 vtouch O (.faddr 5 (.k x1)) h 21 fun x21 h t0 =>
 vtouch O (.load false 1 (.k x21)) h 22 fun x22 h t1 =>
 vtouch O (.mv (.k x16)) h 23 fun x23 h t2 =>
 vtouch O (.load true 6 (.k x4)) h 24 fun x24 h t3 =>
 vtouch O (.call (.k (.v (.c (.func 170 [])))) [(.k x24)]) h 25 fun x25 h t4 =>
 vtouch O (.iaddr 6 (.k x22) (.k x23)) h 26 fun x26 h t5 =>
 vtouch O (.store 6 (.k x26) (.k x25)) h 1000000 fun _ h t6 =>
 bif apartAll [t0, t1, t2, t3, t4, t5, t6] [(1, 4)] then
 vbin .add 0 x16 (kI 1) h fun x27 h =>
 R 1 [x1, x2, x14, x15, x27] h
 else none)
 (R 2 [x1, x2] h)
theorem e170_1 (O : Oracle) (R : Jump) (q : Nat) (x1 x2 x14 x15 x16 : TVal) (h : Heap) : b170_1 O R q x1 x2 x14 x15 x16 h = stepF c170 O R q 1 [x1, x2, x14, x15, x16] h := by kernel_rfl
noncomputable def b170_2 (O : Oracle) (R : Jump) (q : Nat) (x1 x2 : TVal) (h : Heap) : Res1 :=
 vload true 6 x1 h fun x28 h =>
 vstore 6 x2 x28 h fun _ h =>
 vcell true 6 x2 h fun c0 => vfin true q [c0] h
theorem e170_2 (O : Oracle) (R : Jump) (q : Nat) (x1 x2 : TVal) (h : Heap) : b170_2 O R q x1 x2 h = stepF c170 O R q 2 [x1, x2] h := by kernel_rfl
noncomputable def d170 : BlkF := fun O R q => [.s fun y0 => .z fun h => b170_0 O R q y0 h, .s fun y0 => .s fun y1 => .s fun y2 => .s fun y3 => .s fun y4 => .z fun h => b170_1 O R q y0 y1 y2 y3 y4 h, .s fun y0 => .s fun y1 => .z fun h => b170_2 O R q y0 y1 h]
theorem o170 (O : Oracle) (R : Jump) (q : Nat) : HoldsAll c170 O R q 0 (d170 O R q) := ⟨fun y0 h => e170_0 O R q y0 h, fun y0 y1 y2 y3 y4 h => e170_1 O R q y0 y1 y2 y3 y4 h, fun y0 y1 h => e170_2 O R q y0 y1 h, trivial⟩
/- sprue/calls.numbers$1 -/
def c171 : MFunc := { np := 1, res := [.t 2], frz := true, body := (.seq (.reg [(oA 1 (.box (.t 0) false)), (oA 2 (.mv (.k (.v (.c (.p (.bool false)))))))] []) (.seq (.reg [(oA 3 (.faddr 0 (.t 1))), (oA 4 (.load false 1 (.t 3))), (oA 5 (.bin .neq 0 (.t 4) (.k (.v (.c (.p (.int .i64 2))))))), (oA 2 (.mv (.t 5)))] []) .ret)) }
theorem t171 : compF Tryz.prog (globs2 tabs opq) (fun _ => false) true Tryz.f171 = some c171.erase := by kernel_rfl
noncomputable def b171_0 (O : Oracle) (R : Jump) (q : Nat) (x0 : TVal) (h : Heap) : Res1 :=
 vop O (.box (.k x0) false) h 1 fun x1 h =>
 vfaddr 0 x1 h fun x3 h =>
 vload false 1 x3 h fun x4 h =>
 vbin .neq 0 x4 (kI 2) h fun x5 h =>
 tcomp x5 fun c0 => vfin true q [c0] h
theorem e171_0 (O : Oracle) (R : Jump) (q : Nat) (x0 : TVal) (h : Heap) : b171_0 O R q x0 h = stepF c171 O R q 0 [x0] h := by kernel_rfl
noncomputable def d171 : BlkF := fun O R q => [.s fun y0 => .z fun h => b171_0 O R q y0 h]
theorem o171 (O : Oracle) (R : Jump) (q : Nat) : HoldsAll c171 O R q 0 (d171 O R q) := ⟨fun y0 h => e171_0 O R q y0 h, trivial⟩
/- sprue/calls.narrow -/
def c172 : MFunc := { np := 2, res := [.t 4], frz := true, body := (.seq (.reg [(oA 4 (.mv (.k (.v (.c (.p (.int .i64 0)))))))] []) (.seq (.seq (.reg [(oA 5 (.mv (.t 0)))] []) (.block 0 (.seq (.reg [(oA 7 (.bin .eql 0 (.t 5) (.k (.v (.c (.p (.str [105, 56]))))))), (oA 6 (.mv (.t 7)))] []) (.cond (.t 6) (.seq (.reg [(oA 8 (.mv (.t 1))), (oA 9 (.toInt .i8 (.t 8))), (oA 10 (.toInt .i64 (.t 9))), (oA 4 (.mv (.t 10)))] []) .ret) (.seq (.reg [(oA 12 (.bin .eql 0 (.t 5) (.k (.v (.c (.p (.str [105, 49, 54]))))))), (oA 11 (.mv (.t 12)))] []) (.cond (.t 11) (.seq (.reg [(oA 13 (.mv (.t 1))), (oA 14 (.toInt .i16 (.t 13))), (oA 15 (.toInt .i64 (.t 14))), (oA 4 (.mv (.t 15)))] []) .ret) (.seq (.reg [(oA 17 (.bin .eql 0 (.t 5) (.k (.v (.c (.p (.str [105, 51, 50]))))))), (oA 16 (.mv (.t 17)))] []) (.cond (.t 16) (.seq (.reg [(oA 18 (.mv (.t 1))), (oA 19 (.toInt .i32 (.t 18))), (oA 20 (.toInt .i64 (.t 19))), (oA 4 (.mv (.t 20)))] []) .ret) (.seq (.reg [(oA 22 (.bin .eql 0 (.t 5) (.k (.v (.c (.p (.str [117, 56]))))))), (oA 21 (.mv (.t 22)))] []) (.cond (.t 21) (.seq (.reg [(oA 23 (.mv (.t 1))), (oA 24 (.toInt .u8 (.t 23))), (oA 25 (.toInt .i64 (.t 24))), (oA 4 (.mv (.t 25)))] []) .ret) (.seq (.reg [(oA 27 (.bin .eql 0 (.t 5) (.k (.v (.c (.p (.str [117, 49, 54]))))))), (oA 26 (.mv (.t 27)))] []) (.cond (.t 26) (.seq (.reg [(oA 28 (.mv (.t 1))), (oA 29 (.toInt .u16 (.t 28))), (oA 30 (.toInt .i64 (.t 29))), (oA 4 (.mv (.t 30)))] []) .ret) .skip)))))))))))) (.seq (.reg [(oA 31 (.mv (.t 1))), (oA 32 (.toInt .u32 (.t 31))), (oA 33 (.toInt .i64 (.t 32))), (oA 4 (.mv (.t 33)))] []) .ret))) }
theorem t172 : compF Tryz.prog (globs2 tabs opq) (fun _ => false) true Tryz.f172 = some c172.erase := by kernel_rfl
noncomputable def b172_0 (O : Oracle) (R : Jump) (q : Nat) (x0 x1 : TVal) (h : Heap) : Res1 :=
 vbin .eql 0 x0 (kS [105, 56]) h fun x7 h =>
 vif x7 (
 vtoInt .i8 x1 h fun x9 h =>
 vtoInt .i64 x9 h fun x10 h =>
 tcomp x10 fun c0 => vfin true q [c0] h)
 (vbin .eql 0 x0 (kS [105, 49, 54]) h fun x12 h =>
 vif x12 (
 vtoInt .i16 x1 h fun x14 h =>
 vtoInt .i64 x14 h fun x15 h =>
 tcomp x15 fun c0 => vfin true q [c0] h)
 (vbin .eql 0 x0 (kS [105, 51, 50]) h fun x17 h =>
 vif x17 (
 vtoInt .i32 x1 h fun x19 h =>
 vtoInt .i64 x19 h fun x20 h =>
 tcomp x20 fun c0 => vfin true q [c0] h)
 (vbin .eql 0 x0 (kS [117, 56]) h fun x22 h =>
 vif x22 (
 vtoInt .u8 x1 h fun x24 h =>
 vtoInt .i64 x24 h fun x25 h =>
 tcomp x25 fun c0 => vfin true q [c0] h)
 (vbin .eql 0 x0 (kS [117, 49, 54]) h fun x27 h =>
 vif x27 (
 vtoInt .u16 x1 h fun x29 h =>
 vtoInt .i64 x29 h fun x30 h =>
 tcomp x30 fun c0 => vfin true q [c0] h)
 (vtoInt .u32 x1 h fun x32 h =>
 vtoInt .i64 x32 h fun x33 h =>
 tcomp x33 fun c0 => vfin true q [c0] h)))))
theorem e172_0 (O : Oracle) (R : Jump) (q : Nat) (x0 x1 : TVal) (h : Heap) : b172_0 O R q x0 x1 h = stepF c172 O R q 0 [x0, x1] h := by kernel_rfl
noncomputable def d172 : BlkF := fun O R q => [.s fun y0 => .s fun y1 => .z fun h => b172_0 O R q y0 y1 h]
theorem o172 (O : Oracle) (R : Jump) (q : Nat) : HoldsAll c172 O R q 0 (d172 O R q) := ⟨fun y0 y1 h => e172_0 O R q y0 y1 h, trivial⟩
/- sprue/calls.reckon -/
def c173 : MFunc := { np := 3, res := [.t 6], frz := true, body := (.seq (.reg [(oA 6 (.mv (.k (.v (.c (.p (.int .i64 0)))))))] []) (.seq (.seq (.reg [(oA 7 (.mv (.t 0)))] []) (.block 0 (.seq (.reg [(oA 9 (.bin .eql 0 (.t 7) (.k (.v (.c (.p (.str [97, 100, 100]))))))), (oA 8 (.mv (.t 9)))] []) (.cond (.t 8) (.seq (.reg [(oA 10 (.mv (.t 1))), (oA 11 (.mv (.t 2))), (oA 12 (.bin .add 0 (.t 10) (.t 11))), (oA 6 (.mv (.t 12)))] []) .ret) (.seq (.reg [(oA 14 (.bin .eql 0 (.t 7) (.k (.v (.c (.p (.str [115, 117, 98]))))))), (oA 13 (.mv (.t 14)))] []) (.cond (.t 13) (.seq (.reg [(oA 15 (.mv (.t 1))), (oA 16 (.mv (.t 2))), (oA 17 (.bin .sub 0 (.t 15) (.t 16))), (oA 6 (.mv (.t 17)))] []) .ret) (.seq (.reg [(oA 19 (.bin .eql 0 (.t 7) (.k (.v (.c (.p (.str [109, 117, 108]))))))), (oA 18 (.mv (.t 19)))] []) (.cond (.t 18) (.seq (.reg [(oA 20 (.mv (.t 1))), (oA 21 (.mv (.t 2))), (oA 22 (.bin .mul 0 (.t 20) (.t 21))), (oA 6 (.mv (.t 22)))] []) .ret) (.seq (.reg [(oA 24 (.bin .eql 0 (.t 7) (.k (.v (.c (.p (.str [115, 104, 108]))))))), (oA 23 (.mv (.t 24)))] []) (.cond (.t 23) (.seq (.reg [(oA 25 (.mv (.t 1))), (oA 26 (.mv (.t 2))), (oA 27 (.toInt .u64 (.t 26))), (oA 28 (.bin .rem 0 (.t 27) (.k (.v (.c (.p (.int .u64 64))))))), (oA 29 (.bin .shl 0 (.t 25) (.t 28))), (oA 6 (.mv (.t 29)))] []) .ret) .skip)))))))))) (.seq (.reg [(oA 30 (.mv (.t 1))), (oA 31 (.mv (.t 2))), (oA 32 (.toInt .u64 (.t 31))), (oA 33 (.bin .rem 0 (.t 32) (.k (.v (.c (.p (.int .u64 64))))))), (oA 34 (.bin .shr 0 (.t 30) (.t 33))), (oA 6 (.mv (.t 34)))] []) .ret))) }
theorem t173 : compF Tryz.prog (globs2 tabs opq) (fun _ => false) true Tryz.f173 = some c173.erase := by kernel_rfl
noncomputable def b173_0 (O : Oracle) (R : Jump) (q : Nat) (x0 x1 x2 : TVal) (h : Heap) : Res1 :=
 vbin .eql 0 x0 (kS [97, 100, 100]) h fun x9 h =>
 vif x9 (
 vbin .add 0 x1 x2 h fun x12 h =>
 tcomp x12 fun c0 => vfin true q [c0] h)
 (vbin .eql 0 x0 (kS [115, 117, 98]) h fun x14 h =>
 vif x14 (
 vbin .sub 0 x1 x2 h fun x17 h =>
 tcomp x17 fun c0 => vfin true q [c0] h)
 (vbin .eql 0 x0 (kS [109, 117, 108]) h fun x19 h =>
 vif x19 (
 vbin .mul 0 x1 x2 h fun x22 h =>
 tcomp x22 fun c0 => vfin true q [c0] h)
 (vbin .eql 0 x0 (kS [115, 104, 108]) h fun x24 h =>
 vif x24 (
 vtoInt .u64 x2 h fun x27 h =>
 vbin .rem 0 x27 (.v (.c (.p (.int .u64 64)))) h fun x28 h =>
 vbin .shl 0 x1 x28 h fun x29 h =>
 tcomp x29 fun c0 => vfin true q [c0] h)
 (vtoInt .u64 x2 h fun x32 h =>
 vbin .rem 0 x32 (.v (.c (.p (.int .u64 64)))) h fun x33 h =>
 vbin .shr 0 x1 x33 h fun x34 h =>
 tcomp x34 fun c0 => vfin true q [c0] h))))
theorem e173_0 (O : Oracle) (R : Jump) (q : Nat) (x0 x1 x2 : TVal) (h : Heap) : b173_0 O R q x0 x1 x2 h = stepF c173 O R q 0 [x0, x1, x2] h := by kernel_rfl
noncomputable def d173 : BlkF := fun O R q => [.s fun y0 => .s fun y1 => .s fun y2 => .z fun h => b173_0 O R q y0 y1 y2 h]
theorem o173 (O : Oracle) (R : Jump) (q : Nat) : HoldsAll c173 O R q 0 (d173 O R q) := ⟨fun y0 y1 y2 h => e173_0 O R q y0 y1 y2 h, trivial⟩
/- sprue/sprueref1.letter -/
def c184 : MFunc := { np := 1, res := [.t 2], frz := true, body := (.seq (.reg [(oA 2 (.mv (.k (.v (.c (.p (.bool false)))))))] []) (.seq (.reg [(oA 3 (.mv (.t 0))), (oA 4 (.bin .geq 0 (.t 3) (.k (.v (.c (.p (.int .u8 97))))))), (oA 5 (.mv (.t 4))), ⟨(some 6), (.mv (.t 0)), (some (5, true))⟩, ⟨(some 7), (.bin .leq 0 (.t 6) (.k (.v (.c (.p (.int .u8 122)))))), (some (5, true))⟩, (oA 8 (.pick (.t 5) (.t 7) (.k (.v (.c (.p (.bool false))))))), (oA 9 (.mv (.t 8))), ⟨(some 10), (.mv (.t 0)), (some (9, false))⟩, ⟨(some 11), (.bin .geq 0 (.t 10) (.k (.v (.c (.p (.int .u8 65)))))), (some (9, false))⟩, ⟨(some 12), (.mv (.t 11)), (some (9, false))⟩, ⟨(some 13), (.mv (.t 0)), (some (12, true))⟩, ⟨(some 14), (.bin .leq 0 (.t 13) (.k (.v (.c (.p (.int .u8 90)))))), (some (12, true))⟩, ⟨(some 15), (.pick (.t 12) (.t 14) (.k (.v (.c (.p (.bool false)))))), (some (9, false))⟩, (oA 16 (.pick (.t 9) (.k (.v (.c (.p (.bool true))))) (.t 15))), (oA 17 (.mv (.t 16))), ⟨(some 18), (.mv (.t 0)), (some (17, false))⟩, ⟨(some 19), (.bin .eql 0 (.t 18) (.k (.v (.c (.p (.int .u8 95)))))), (some (17, false))⟩, (oA 20 (.pick (.t 17) (.k (.v (.c (.p (.bool true))))) (.t 19))), (oA 2 (.mv (.t 20)))] []) .ret)) }
theorem t184 : compF Tryz.prog (globs2 tabs opq) (fun _ => false) true Tryz.f184 = some c184.erase := by kernel_rfl
noncomputable def b184_0 (O : Oracle) (R : Jump) (q : Nat) (x0 : TVal) (h : Heap) : Res1 :=
 vbin .geq 0 x0 (.v (.c (.p (.int .u8 97)))) h fun x4 h =>
 vguard x4 true (fun kk => kk x0 h) h fun x6 h =>
 vguard x4 true (fun kk => vbin .leq 0 x6 (.v (.c (.p (.int .u8 122)))) h kk) h fun x7 h =>
 vop O (.pick (.k x4) (.k x7) (.k (kB false))) h 8 fun x8 h =>
 vguard x8 false (fun kk => kk x0 h) h fun x10 h =>
 vguard x8 false (fun kk => vbin .geq 0 x10 (.v (.c (.p (.int .u8 65)))) h kk) h fun x11 h =>
 vguard x8 false (fun kk => kk x11 h) h fun x12 h =>
 vguard x12 true (fun kk => kk x0 h) h fun x13 h =>
 vguard x12 true (fun kk => vbin .leq 0 x13 (.v (.c (.p (.int .u8 90)))) h kk) h fun x14 h =>
 vguard x8 false (fun kk => vop O (.pick (.k x12) (.k x14) (.k (kB false))) h 15 kk) h fun x15 h =>
 vop O (.pick (.k x8) (.k (kB true)) (.k x15)) h 16 fun x16 h =>
 vguard x16 false (fun kk => kk x0 h) h fun x18 h =>
 vguard x16 false (fun kk => vbin .eql 0 x18 (.v (.c (.p (.int .u8 95)))) h kk) h fun x19 h =>
 vop O (.pick (.k x16) (.k (kB true)) (.k x19)) h 20 fun x20 h =>
 tcomp x20 fun c0 => vfin true q [c0] h
theorem e184_0 (O : Oracle) (R : Jump) (q : Nat) (x0 : TVal) (h : Heap) : b184_0 O R q x0 h = stepF c184 O R q 0 [x0] h := by kernel_rfl
noncomputable def d184 : BlkF := fun O R q => [.s fun y0 => .z fun h => b184_0 O R q y0 h]
theorem o184 (O : Oracle) (R : Jump) (q : Nat) : HoldsAll c184 O R q 0 (d184 O R q) := ⟨fun y0 h => e184_0 O R q y0 h, trivial⟩
/- sprue/sprueref1.digit -/
def c185 : MFunc := { np := 1, res := [.t 2], frz := true, body := (.seq (.reg [(oA 2 (.mv (.k (.v (.c (.p (.bool false)))))))] []) (.seq (.reg [(oA 3 (.mv (.t 0))), (oA 4 (.bin .geq 0 (.t 3) (.k (.v (.c (.p (.int .u8 48))))))), (oA 5 (.mv (.t 4))), ⟨(some 6), (.mv (.t 0)), (some (5, true))⟩, ⟨(some 7), (.bin .leq 0 (.t 6) (.k (.v (.c (.p (.int .u8 57)))))), (some (5, true))⟩, (oA 8 (.pick (.t 5) (.t 7) (.k (.v (.c (.p (.bool false))))))), (oA 2 (.mv (.t 8)))] []) .ret)) }
theorem t185 : compF Tryz.prog (globs2 tabs opq) (fun _ => false) true Tryz.f185 = some c185.erase := by kernel_rfl
noncomputable def b185_0 (O : Oracle) (R : Jump) (q : Nat) (x0 : TVal) (h : Heap) : Res1 :=
 vbin .geq 0 x0 (.v (.c (.p (.int .u8 48)))) h fun x4 h =>
 vguard x4 true (fun kk => kk x0 h) h fun x6 h =>
 vguard x4 true (fun kk => vbin .leq 0 x6 (.v (.c (.p (.int .u8 57)))) h kk) h fun x7 h =>
 vop O (.pick (.k x4) (.k x7) (.k (kB false))) h 8 fun x8 h =>
 tcomp x8 fun c0 => vfin true q [c0] h
theorem e185_0 (O : Oracle) (R : Jump) (q : Nat) (x0 : TVal) (h : Heap) : b185_0 O R q x0 h = stepF c185 O R q 0 [x0] h := by kernel_rfl
noncomputable def d185 : BlkF := fun O R q => [.s fun y0 => .z fun h => b185_0 O R q y0 h]
theorem o185 (O : Oracle) (R : Jump) (q : Nat) : HoldsAll c185 O R q 0 (d185 O R q) := ⟨fun y0 h => e185_0 O R q y0 h, trivial⟩
/- sprue/sprueref1.Number -/
def c186 : MFunc := { np := 1, res := [.t 2, .t 3], frz := true, body := (.seq (.reg [(oA 2 (.mv (.k (.v (.c (.p (.int .i64 0))))))), (oA 3 (.mv (.k (.v (.c (.p (.int .i64 0)))))))] []) (.seq (.reg [(oA 7 (.mv (.t 0))), (oA 4 (.mv (.t 7)))] []) (.seq (.seq (.reg [(oA 8 (.mv (.t 0))), (oA 9 (.index (.t 8) (.k (.v (.c (.p (.int .i64 0))))))), (oA 10 (.bin .eql 0 (.t 9) (.k (.v (.c (.p (.int .u8 45)))))))] []) (.cond (.t 10) (.reg [(oA 11 (.mv (.t 0))), (oA 12 (.slice 0 true (.t 11) (some (.k (.v (.c (.p (.int .i64 1)))))) none none)), (oA 4 (.mv (.t 12)))] []) .skip)) (.mark 1 [0, 4] (.seq (.seq (.reg [(oA 13 (.mv (.t 4))), (oA 14 (.len 0 (.t 13))), (oA 15 (.bin .gtr 0 (.t 14) (.k (.v (.c (.p (.int .i64 19)))))))] []) (.cond (.t 15) (.seq (.reg [(oA 2 (.mv (.k (.v (.c (.p (.int .i64 0))))))), (oA 3 (.mv (.k (.v (.c (.p (.int .i64 4)))))))] []) .ret) .skip)) (.seq (.reg [(oA 5 (.mv (.k (.v (.c (.p (.int .u64 0)))))))] []) (.seq (.seq (.reg [(oA 6 (.mv (.k (.v (.c (.p (.int .i64 0)))))))] []) (.block 0 (.loop 2 [0, 4, 5, 6] (.seq (.seq (.reg [(oA 16 (.mv (.t 6))), (oA 17 (.mv (.t 4))), (oA 18 (.len 0 (.t 17))), (oA 19 (.bin .lss 0 (.t 16) (.t 18)))] []) (.cond (.t 19) .skip (.exit 0))) (.seq (.block 1 (.reg [(oA 22 (.mv (.t 5))), (oA 23 (.bin .mul 0 (.t 22) (.k (.v (.c (.p (.int .u64 10))))))), (oA 24 (.mv (.t 4))), (oA 25 (.mv (.t 6))), (oA 26 (.index (.t 24) (.t 25))), (oA 27 (.bin .sub 0 (.t 26) (.k (.v (.c (.p (.int .u8 48))))))), (oA 28 (.toInt .u64 (.t 27))), (oA 29 (.bin .add 0 (.t 23) (.t 28))), (oA 5 (.mv (.t 29)))] [])) (.reg [(oA 20 (.mv (.t 6))), (oA 21 (.bin .add 0 (.t 20) (.k (.v (.c (.p (.int .i64 1))))))), (oA 6 (.mv (.t 21)))] [])))))) (.mark 3 [0, 5] (.seq (.seq (.reg [(oA 30 (.mv (.t 0))), (oA 31 (.index (.t 30) (.k (.v (.c (.p (.int .i64 0))))))), (oA 32 (.bin .eql 0 (.t 31) (.k (.v (.c (.p (.int .u8 45)))))))] []) (.cond (.t 32) (.seq (.seq (.reg [(oA 33 (.mv (.t 5))), (oA 34 (.bin .gtr 0 (.t 33) (.k (.v (.c (.p (.int .u64 9223372036854775808)))))))] []) (.cond (.t 34) (.seq (.reg [(oA 2 (.mv (.k (.v (.c (.p (.int .i64 0))))))), (oA 3 (.mv (.k (.v (.c (.p (.int .i64 11)))))))] []) .ret) .skip)) (.seq (.reg [(oA 35 (.mv (.t 5))), (oA 36 (.un .neg (.t 35))), (oA 37 (.toInt .i64 (.t 36))), (oA 2 (.mv (.t 37))), (oA 3 (.mv (.k (.v (.c (.p (.int .i64 0)))))))] []) .ret)) .skip)) (.seq (.seq (.reg [(oA 38 (.mv (.t 5))), (oA 39 (.bin .gtr 0 (.t 38) (.k (.v (.c (.p (.int .u64 9223372036854775807)))))))] []) (.cond (.t 39) (.seq (.reg [(oA 2 (.mv (.k (.v (.c (.p (.int .i64 0))))))), (oA 3 (.mv (.k (.v (.c (.p (.int .i64 11)))))))] []) .ret) .skip)) (.seq (.reg [(oA 40 (.mv (.t 5))), (oA 41 (.toInt .i64 (.t 40))), (oA 2 (.mv (.t 41))), (oA 3 (.mv (.k (.v (.c (.p (.int .i64 0)))))))] []) .ret))))))))))) }
theorem t186 : compF Tryz.prog (globs2 tabs opq) (fun _ => false) true Tryz.f186 = some c186.erase := by kernel_rfl
noncomputable def b186_0 (O : Oracle) (R : Jump) (q : Nat) (x0 : TVal) (h : Heap) : Res1 :=
 vindex x0 (kI 0) h fun x9 h =>
 vbin .eql 0 x9 (.v (.c (.p (.int .u8 45)))) h fun x10 h =>
 vif x10 (
 vop O (.slice 0 true (.k x0) (some (.k (kI 1))) none none) h 12 fun x12 h =>
 R 1 [x0, x12] h)
 (R 1 [x0, x0] h)
theorem e186_0 (O : Oracle) (R : Jump) (q : Nat) (x0 : TVal) (h : Heap) : b186_0 O R q x0 h = stepF c186 O R q 0 [x0] h := by kernel_rfl
noncomputable def b186_1 (O : Oracle) (R : Jump) (q : Nat) (x0 x4 : TVal) (h : Heap) : Res1 :=
 vlen O 0 x4 h 14 fun x14 h =>
 vbin .gtr 0 x14 (kI 19) h fun x15 h =>
 vif x15 (
 tcomp (kI 0) fun c0 => tcomp (kI 4) fun c1 => vfin true q [c0, c1] h)
 (R 2 [x0, x4, (.v (.c (.p (.int .u64 0)))), (kI 0)] h)
theorem e186_1 (O : Oracle) (R : Jump) (q : Nat) (x0 x4 : TVal) (h : Heap) : b186_1 O R q x0 x4 h = stepF c186 O R q 1 [x0, x4] h := by kernel_rfl
noncomputable def b186_2 (O : Oracle) (R : Jump) (q : Nat) (x0 x4 x5 x6 : TVal) (h : Heap) : Res1 :=
 vlen O 0 x4 h 18 fun x18 h =>
 vbin .lss 0 x6 x18 h fun x19 h =>
 vif x19 (
 vbin .mul 0 x5 (.v (.c (.p (.int .u64 10)))) h fun x23 h =>
 vindex x4 x6 h fun x26 h =>
 vbin .sub 0 x26 (.v (.c (.p (.int .u8 48)))) h fun x27 h =>
 vtoInt .u64 x27 h fun x28 h =>
 vbin .add 0 x23 x28 h fun x29 h =>
 vbin .add 0 x6 (kI 1) h fun x21 h =>
 R 2 [x0, x4, x29, x21] h)
 (R 3 [x0, x5] h)
theorem e186_2 (O : Oracle) (R : Jump) (q : Nat) (x0 x4 x5 x6 : TVal) (h : Heap) : b186_2 O R q x0 x4 x5 x6 h = stepF c186 O R q 2 [x0, x4, x5, x6] h := by kernel_rfl
noncomputable def b186_3 (O : Oracle) (R : Jump) (q : Nat) (x0 x5 : TVal) (h : Heap) : Res1 :=
 vindex x0 (kI 0) h fun x31 h =>
 vbin .eql 0 x31 (.v (.c (.p (.int .u8 45)))) h fun x32 h =>
 vif x32 (
 vbin .gtr 0 x5 (.v (.c (.p (.int .u64 9223372036854775808)))) h fun x34 h =>
 vif x34 (
 tcomp (kI 0) fun c0 => tcomp (kI 11) fun c1 => vfin true q [c0, c1] h)
 (vop O (.un .neg (.k x5)) h 36 fun x36 h =>
 vtoInt .i64 x36 h fun x37 h =>
 tcomp x37 fun c0 => tcomp (kI 0) fun c1 => vfin true q [c0, c1] h))
 (vbin .gtr 0 x5 (.v (.c (.p (.int .u64 9223372036854775807)))) h fun x39 h =>
 vif x39 (
 tcomp (kI 0) fun c0 => tcomp (kI 11) fun c1 => vfin true q [c0, c1] h)
 (vtoInt .i64 x5 h fun x41 h =>
 tcomp x41 fun c0 => tcomp (kI 0) fun c1 => vfin true q [c0, c1] h))
theorem e186_3 (O : Oracle) (R : Jump) (q : Nat) (x0 x5 : TVal) (h : Heap) : b186_3 O R q x0 x5 h = stepF c186 O R q 3 [x0, x5] h := by kernel_rfl
noncomputable def d186 : BlkF := fun O R q => [.s fun y0 => .z fun h => b186_0 O R q y0 h, .s fun y0 => .s fun y1 => .z fun h => b186_1 O R q y0 y1 h, .s fun y0 => .s fun y1 => .s fun y2 => .s fun y3 => .z fun h => b186_2 O R q y0 y1 y2 y3 h, .s fun y0 => .s fun y1 => .z fun h => b186_3 O R q y0 y1 h]
theorem o186 (O : Oracle) (R : Jump) (q : Nat) : HoldsAll c186 O R q 0 (d186 O R q) := ⟨fun y0 h => e186_0 O R q y0 h, fun y0 y1 h => e186_1 O R q y0 y1 h, fun y0 y1 y2 y3 h => e186_2 O R q y0 y1 y2 y3 h, fun y0 y1 h => e186_3 O R q y0 y1 h, trivial⟩
/- sprue/sprueref1.Quoted -/
def c187 : MFunc := { np := 2, res := [.t 4, .t 5], frz := true, body := (.seq (.reg [(oA 4 (.mv (.k (.v (.c (.p (.str []))))))), (oA 5 (.mv (.k (.v (.c (.p (.int .i64 0)))))))] []) (.seq (.reg [(oA 6 (.mv (.k (.v (.c (.p (.str [])))))))] []) (.seq (.reg [(oA 8 (.mv (.t 1))), (oA 9 (.bin .add 0 (.t 8) (.k (.v (.c (.p (.int .i64 1))))))), (oA 1 (.mv (.t 9)))] []) (.seq (.block 0 (.loop 1 [0, 1, 6] (.seq (.seq (.reg [(oA 10 (.mv (.t 1))), (oA 11 (.mv (.t 0))), (oA 12 (.len 0 (.t 11))), (oA 13 (.bin .lss 0 (.t 10) (.t 12)))] []) (.cond (.t 13) .skip (.exit 0))) (.block 1 (.seq (.reg [(oA 14 (.mv (.t 0))), (oA 15 (.mv (.t 1))), (oA 16 (.index (.t 14) (.t 15))), (oA 7 (.mv (.t 16)))] []) (.seq (.block 2 (.seq (.reg [(oA 18 (.mv (.t 7))), (oA 19 (.bin .eql 0 (.t 18) (.k (.v (.c (.p (.int .u8 34))))))), (oA 17 (.mv (.t 19)))] []) (.cond (.t 17) (.seq (.reg [(oA 20 (.mv (.t 6))), (oA 21 (.mv (.t 1))), (oA 22 (.bin .add 0 (.t 21) (.k (.v (.c (.p (.int .i64 1))))))), (oA 4 (.mv (.t 20))), (oA 5 (.mv (.t 22)))] []) .ret) (.seq (.reg [(oA 24 (.mv (.t 7))), (oA 25 (.bin .lss 0 (.t 24) (.k (.v (.c (.p (.int .u8 32))))))), (oA 23 (.mv (.t 25)))] []) (.cond (.t 23) (.seq (.reg [(oA 4 (.mv (.k (.v (.c (.p (.str []))))))), (oA 5 (.mv (.k (.v (.c (.p (.int .i64 (-1))))))))] []) .ret) (.seq (.reg [(oA 27 (.mv (.t 7))), (oA 28 (.bin .neq 0 (.t 27) (.k (.v (.c (.p (.int .u8 92))))))), (oA 26 (.mv (.t 28)))] []) (.cond (.t 26) (.seq (.reg [(oA 29 (.mv (.t 6))), (oA 30 (.mv (.t 0))), (oA 31 (.mv (.t 1))), (oA 32 (.mv (.t 1))), (oA 33 (.bin .add 0 (.t 32) (.k (.v (.c (.p (.int .i64 1))))))), (oA 34 (.slice 0 true (.t 30) (some (.t 31)) (some (.t 33)) none)), (oA 35 (.bin .add 0 (.t 29) (.t 34))), (oA 6 (.mv (.t 35)))] []) (.seq (.reg [(oA 36 (.mv (.t 1))), (oA 37 (.bin .add 0 (.t 36) (.k (.v (.c (.p (.int .i64 1))))))), (oA 1 (.mv (.t 37)))] []) (.exit 1))) .skip))))))) (.seq (.seq (.reg [(oA 38 (.mv (.t 1))), (oA 39 (.bin .add 0 (.t 38) (.k (.v (.c (.p (.int .i64 1))))))), (oA 40 (.mv (.t 0))), (oA 41 (.len 0 (.t 40))), (oA 42 (.bin .geq 0 (.t 39) (.t 41)))] []) (.cond (.t 42) (.seq (.reg [(oA 4 (.mv (.k (.v (.c (.p (.str []))))))), (oA 5 (.mv (.k (.v (.c (.p (.int .i64 (-1))))))))] []) .ret) .skip)) (.seq (.seq (.reg [(oA 43 (.mv (.t 0))), (oA 44 (.mv (.t 1))), (oA 45 (.bin .add 0 (.t 44) (.k (.v (.c (.p (.int .i64 1))))))), (oA 46 (.index (.t 43) (.t 45)))] []) (.block 3 (.seq (.seq (.reg [(oA 48 (.bin .eql 0 (.t 46) (.k (.v (.c (.p (.int .u8 92))))))), (oA 47 (.mv (.t 48)))] []) (.cond (.t 47) .skip (.reg [(oA 49 (.bin .eql 0 (.t 46) (.k (.v (.c (.p (.int .u8 34))))))), (oA 47 (.mv (.t 49)))] []))) (.mark 2 [0, 1, 6, 46, 47] (.cond (.t 47) (.reg [(oA 50 (.mv (.t 6))), (oA 51 (.mv (.t 0))), (oA 52 (.mv (.t 1))), (oA 53 (.bin .add 0 (.t 52) (.k (.v (.c (.p (.int .i64 1))))))), (oA 54 (.mv (.t 1))), (oA 55 (.bin .add 0 (.t 54) (.k (.v (.c (.p (.int .i64 2))))))), (oA 56 (.slice 0 true (.t 51) (some (.t 53)) (some (.t 55)) none)), (oA 57 (.bin .add 0 (.t 50) (.t 56))), (oA 6 (.mv (.t 57)))] []) (.seq (.reg [(oA 59 (.bin .eql 0 (.t 46) (.k (.v (.c (.p (.int .u8 110))))))), (oA 58 (.mv (.t 59)))] []) (.cond (.t 58) (.reg [(oA 60 (.mv (.t 6))), (oA 61 (.bin .add 0 (.t 60) (.k (.v (.c (.p (.str [10]))))))), (oA 6 (.mv (.t 61)))] []) (.seq (.reg [(oA 63 (.bin .eql 0 (.t 46) (.k (.v (.c (.p (.int .u8 116))))))), (oA 62 (.mv (.t 63)))] []) (.cond (.t 62) (.reg [(oA 64 (.mv (.t 6))), (oA 65 (.bin .add 0 (.t 64) (.k (.v (.c (.p (.str [9]))))))), (oA 6 (.mv (.t 65)))] []) (.seq (.reg [(oA 4 (.mv (.k (.v (.c (.p (.str []))))))), (oA 5 (.mv (.k (.v (.c (.p (.int .i64 (-1))))))))] []) .ret)))))))))) (.mark 3 [0, 1, 6] (.reg [(oA 66 (.mv (.t 1))), (oA 67 (.bin .add 0 (.t 66) (.k (.v (.c (.p (.int .i64 2))))))), (oA 1 (.mv (.t 67)))] [])))))))))) (.seq (.reg [(oA 4 (.mv (.k (.v (.c (.p (.str []))))))), (oA 5 (.mv (.k (.v (.c (.p (.int .i64 (-1))))))))] []) .ret))))) }
theorem t187 : compF Tryz.prog (globs2 tabs opq) (fun _ => false) true Tryz.f187 = some c187.erase := by kernel_rfl
noncomputable def b187_0 (O : Oracle) (R : Jump) (q : Nat) (x0 x1 : TVal) (h : Heap) : Res1 :=
 vbin .add 0 x1 (kI 1) h fun x9 h =>
 R 1 [x0, x9, (kS [])] h
theorem e187_0 (O : Oracle) (R : Jump) (q : Nat) (x0 x1 : TVal) (h : Heap) : b187_0 O R q x0 x1 h = stepF c187 O R q 0 [x0, x1] h := by kernel_rfl
noncomputable def b187_1 (O : Oracle) (R : Jump) (q : Nat) (x0 x1 x6 : TVal) (h : Heap) : Res1 :=
 vlen O 0 x0 h 12 fun x12 h =>
 vbin .lss 0 x1 x12 h fun x13 h =>
 vif x13 (
 vindex x0 x1 h fun x16 h =>
 vbin .eql 0 x16 (.v (.c (.p (.int .u8 34)))) h fun x19 h =>
 vif x19 (
 vbin .add 0 x1 (kI 1) h fun x22 h =>
 tcomp x6 fun c0 => tcomp x22 fun c1 => vfin true q [c0, c1] h)
 (vbin .lss 0 x16 (.v (.c (.p (.int .u8 32)))) h fun x25 h =>
 vif x25 (
 tcomp (kS []) fun c0 => tcomp (kI (-1)) fun c1 => vfin true q [c0, c1] h)
 (vbin .neq 0 x16 (.v (.c (.p (.int .u8 92)))) h fun x28 h =>
 vif x28 (
 vbin .add 0 x1 (kI 1) h fun x33 h =>
 vop O (.slice 0 true (.k x0) (some (.k x1)) (some (.k x33)) none) h 34 fun x34 h =>
 vbin .add 0 x6 x34 h fun x35 h =>
 vbin .add 0 x1 (kI 1) h fun x37 h =>
 R 1 [x0, x37, x35] h)
 (vbin .add 0 x1 (kI 1) h fun x39 h =>
 vlen O 0 x0 h 41 fun x41 h =>
 vbin .geq 0 x39 x41 h fun x42 h =>
 vif x42 (
 tcomp (kS []) fun c0 => tcomp (kI (-1)) fun c1 => vfin true q [c0, c1] h)
 (vbin .add 0 x1 (kI 1) h fun x45 h =>
 vindex x0 x45 h fun x46 h =>
 vbin .eql 0 x46 (.v (.c (.p (.int .u8 92)))) h fun x48 h =>
 vif x48 (
 R 2 [x0, x1, x6, x46, x48] h)
 (vbin .eql 0 x46 (.v (.c (.p (.int .u8 34)))) h fun x49 h =>
 R 2 [x0, x1, x6, x46, x49] h))))))
 (tcomp (kS []) fun c0 => tcomp (kI (-1)) fun c1 => vfin true q [c0, c1] h)
theorem e187_1 (O : Oracle) (R : Jump) (q : Nat) (x0 x1 x6 : TVal) (h : Heap) : b187_1 O R q x0 x1 x6 h = stepF c187 O R q 1 [x0, x1, x6] h := by kernel_rfl
noncomputable def b187_2 (O : Oracle) (R : Jump) (q : Nat) (x0 x1 x6 x46 x47 : TVal) (h : Heap) : Res1 :=
 vif x47 (
 vbin .add 0 x1 (kI 1) h fun x53 h =>
 vbin .add 0 x1 (kI 2) h fun x55 h =>
 vop O (.slice 0 true (.k x0) (some (.k x53)) (some (.k x55)) none) h 56 fun x56 h =>
 vbin .add 0 x6 x56 h fun x57 h =>
 R 3 [x0, x1, x57] h)
 (vbin .eql 0 x46 (.v (.c (.p (.int .u8 110)))) h fun x59 h =>
 vif x59 (
 vbin .add 0 x6 (kS [10]) h fun x61 h =>
 R 3 [x0, x1, x61] h)
 (vbin .eql 0 x46 (.v (.c (.p (.int .u8 116)))) h fun x63 h =>
 vif x63 (
 vbin .add 0 x6 (kS [9]) h fun x65 h =>
 R 3 [x0, x1, x65] h)
 (tcomp (kS []) fun c0 => tcomp (kI (-1)) fun c1 => vfin true q [c0, c1] h)))
theorem e187_2 (O : Oracle) (R : Jump) (q : Nat) (x0 x1 x6 x46 x47 : TVal) (h : Heap) : b187_2 O R q x0 x1 x6 x46 x47 h = stepF c187 O R q 2 [x0, x1, x6, x46, x47] h := by kernel_rfl
noncomputable def b187_3 (O : Oracle) (R : Jump) (q : Nat) (x0 x1 x6 : TVal) (h : Heap) : Res1 :=
 vbin .add 0 x1 (kI 2) h fun x67 h =>
 R 1 [x0, x67, x6] h
theorem e187_3 (O : Oracle) (R : Jump) (q : Nat) (x0 x1 x6 : TVal) (h : Heap) : b187_3 O R q x0 x1 x6 h = stepF c187 O R q 3 [x0, x1, x6] h := by kernel_rfl
noncomputable def d187 : BlkF := fun O R q => [.s fun y0 => .s fun y1 => .z fun h => b187_0 O R q y0 y1 h, .s fun y0 => .s fun y1 => .s fun y2 => .z fun h => b187_1 O R q y0 y1 y2 h, .s fun y0 => .s fun y1 => .s fun y2 => .s fun y3 => .s fun y4 => .z fun h => b187_2 O R q y0 y1 y2 y3 y4 h, .s fun y0 => .s fun y1 => .s fun y2 => .z fun h => b187_3 O R q y0 y1 y2 h]
theorem o187 (O : Oracle) (R : Jump) (q : Nat) : HoldsAll c187 O R q 0 (d187 O R q) := ⟨fun y0 y1 h => e187_0 O R q y0 y1 h, fun y0 y1 y2 h => e187_1 O R q y0 y1 y2 h, fun y0 y1 y2 y3 y4 h => e187_2 O R q y0 y1 y2 y3 y4 h, fun y0 y1 y2 h => e187_3 O R q y0 y1 y2 h, trivial⟩
/- (*sprue/sprueref7.reader).command -/
def c189 : MFunc := { np := 2, res := [.cell 4 true 1], frz := true, body := (.seq (.reg [(oA 4 (.alloc [(.p .nilslice)] false))] []) (.seq (.seq (.reg [(oA 6 (.mv (.t 0))), (oA 7 (.call (.k (.v (.c (.func 124 [])))) [(.t 6), (.k (.v (.c (.p (.int .i64 1)))))])), (oA 8 (.un .not (.t 7))), (oA 9 (.mv (.t 8))), ⟨(some 10), (.mv (.t 0)), (some (9, false))⟩, ⟨(some 11), (.nilck (.t 10)), (some (9, false))⟩, ⟨(some 12), (.faddr 0 (.t 11)), (some (9, false))⟩, ⟨(some 13), (.load false 1 (.t 12)), (some (9, false))⟩, ⟨(some 14), (.mv (.t 0)), (some (9, false))⟩, ⟨(some 15), (.nilck (.t 14)), (some (9, false))⟩, ⟨(some 16), (.faddr 1 (.t 15)), (some (9, false))⟩, ⟨(some 17), (.load false 1 (.t 16)), (some (9, false))⟩, ⟨(some 18), (.iaddr 4 (.t 13) (.t 17)), (some (9, false))⟩, ⟨(some 19), (.faddr 1 (.t 18)), (some (9, false))⟩, ⟨(some 20), (.load false 1 (.t 19)), (some (9, false))⟩, ⟨(some 21), (.call (.k (.v (.c (.func 125 [])))) [(.t 20)]), (some (9, false))⟩, (oA 22 (.pick (.t 9) (.k (.v (.c (.p (.bool true))))) (.t 21)))] []) (.cond (.t 22) (.seq (.reg [(oA 23 (.mv (.t 0))), (oA 24 (.mv (.t 1))), (oA 25 (.call (.k (.v (.c (.func 246 [])))) [(.t 23), (.t 24)])), (oA 26 (.bslice 7 1 [(.p (.int .i64 0)), (.p (.str [])), (.p .nilslice), (.p (.str [])), (.p (.int .i64 0)), (.p (.bool false)), (.p .nilslice)] [(0, (.t 25))] false)), (oA 27 (.build [(.p .nilslice)] [(0, 1, (.t 26))])), (oN (.store 1 (.t 4) (.t 27)))] []) .ret) .skip)) (.seq (.reg [(oA 28 (.mv (.t 0))), (oA 29 (.call (.k (.v (.c (.func 128 [])))) [(.t 28), (.k (.v (.c (.p (.int .i64 1)))))])), (oA 30 (.field 1 1 false (.t 29))), (oA 31 (.build [(.p (.int .i64 0)), (.p (.str [])), (.p .nilslice), (.p (.str [])), (.p (.int .i64 0)), (.p (.bool false)), (.p .nilslice)] [(0, 1, (.k (.v (.c (.p (.int .i64 6)))))), (3, 1, (.t 30))])), (oA 32 (.bslice 7 1 [(.p (.int .i64 0)), (.p (.str [])), (.p .nilslice), (.p (.str [])), (.p (.int .i64 0)), (.p (.bool false)), (.p .nilslice)] [(0, (.t 31))] false)), (oA 33 (.build [(.p .nilslice)] [(0, 1, (.t 32))])), (oA 5 (.alloc [(.p .nilslice)] false)), (oN (.store 1 (.t 5) (.t 33)))] []) (.seq (.block 0 (.loop 1 [0, 1, 4, 5] (.seq (.seq (.reg [(oA 34 (.mv (.t 0))), (oA 35 (.call (.k (.v (.c (.func 247 [])))) [(.t 34)]))] []) (.cond (.t 35) .skip (.exit 0))) (.block 1 (.seq (.seq (.reg [(oA 36 (.faddr 0 (.t 5))), (oA 37 (.load false 1 (.t 36))), (oA 38 (.len 2 (.t 37))), (oA 39 (.bin .gtr 0 (.t 38) (.k (.v (.c (.p (.int .i64 4)))))))] []) (.cond (.t 39) (.seq (.reg [(oA 40 (.mv (.t 0))), (oA 41 (.call (.k (.v (.c (.func 190 [])))) [(.t 40), (.k (.v (.c (.p (.int .i64 18)))))]))] []) (.seq (.reg [(oA 42 (.load true 1 (.t 5))), (oN (.store 1 (.t 4) (.t 42)))] []) .ret)) .skip)) (.reg [(oA 43 (.faddr 0 (.t 5))), (oA 44 (.load false 1 (.t 43))), (oA 45 (.mv (.t 0))), (oA 46 (.mv (.t 1))), (oA 47 (.call (.k (.v (.c (.func 246 [])))) [(.t 45), (.t 46)])), (oA 48 (.bslice 7 1 [(.p (.int .i64 0)), (.p (.str [])), (.p .nilslice), (.p (.str [])), (.p (.int .i64 0)), (.p (.bool false)), (.p .nilslice)] [(0, (.t 47))] false)), (oA 49 (.append 7 104 false (.t 44) (.t 48))), (oA 50 (.faddr 0 (.t 5))), (oN (.store 1 (.t 50) (.t 49)))] [(1, 4), (1, 5)])))))) (.mark 2 [4, 5] (.seq (.reg [(oA 51 (.load true 1 (.t 5))), (oN (.store 1 (.t 4) (.t 51)))] []) .ret)))))) }
theorem t189 : compF Tryz.prog (globs2 tabs opq) (fun _ => false) true Tryz.f189 = some c189.erase := by kernel_rfl
noncomputable def b189_0 (O : Oracle) (R : Jump) (q : Nat) (x0 x1 : TVal) (h : Heap) : Res1 :=
 vop O (.alloc [(.p .nilslice)] false) h 4 fun x4 h =>
 vcall O (.v (.c (.func 124 []))) [x0, (kI 1)] h 7 fun x7 h =>
 vop O (.un .not (.k x7)) h 8 fun x8 h =>
 vguard x8 false (fun kk => kk x0 h) h fun x10 h =>
 vguard x8 false (fun kk => vop O (.nilck (.k x10)) h 11 kk) h fun x11 h =>
 vguard x8 false (fun kk => vfaddr 0 x11 h kk) h fun x12 h =>
 vguard x8 false (fun kk => vload false 1 x12 h kk) h fun x13 h =>
 vguard x8 false (fun kk => kk x0 h) h fun x14 h =>
 vguard x8 false (fun kk => vop O (.nilck (.k x14)) h 15 kk) h fun x15 h =>
 vguard x8 false (fun kk => vfaddr 1 x15 h kk) h fun x16 h =>
 vguard x8 false (fun kk => vload false 1 x16 h kk) h fun x17 h =>
 vguard x8 false (fun kk => viaddr 4 x13 x17 h kk) h fun x18 h =>
 vguard x8 false (fun kk => vfaddr 1 x18 h kk) h fun x19 h =>
 vguard x8 false (fun kk => vload false 1 x19 h kk) h fun x20 h =>
 vguard x8 false (fun kk => vcall O (.v (.c (.func 125 []))) [x20] h 21 kk) h fun x21 h =>
 vop O (.pick (.k x8) (.k (kB true)) (.k x21)) h 22 fun x22 h =>
 vif x22 (
 vcall O (.v (.c (.func 246 []))) [x0, x1] h 25 fun x25 h =>
 vop O (.bslice 7 1 [(.p (.int .i64 0)), (.p (.str [])), (.p .nilslice), (.p (.str [])), (.p (.int .i64 0)), (.p (.bool false)), (.p .nilslice)] [(0, (.k x25))] false) h 26 fun x26 h =>
 vop O (.build [(.p .nilslice)] [(0, 1, (.k x26))]) h 27 fun x27 h =>
 vstore 1 x4 x27 h fun _ h =>
 vcell true 1 x4 h fun c0 => vfin true q [c0] h)
 (vcall O (.v (.c (.func 128 []))) [x0, (kI 1)] h 29 fun x29 h =>
 vfield 1 1 false x29 h fun x30 h =>
 vop O (.build [(.p (.int .i64 0)), (.p (.str [])), (.p .nilslice), (.p (.str [])), (.p (.int .i64 0)), (.p (.bool false)), (.p .nilslice)] [(0, 1, (.k (kI 6))), (3, 1, (.k x30))]) h 31 fun x31 h =>
 vop O (.bslice 7 1 [(.p (.int .i64 0)), (.p (.str [])), (.p .nilslice), (.p (.str [])), (.p (.int .i64 0)), (.p (.bool false)), (.p .nilslice)] [(0, (.k x31))] false) h 32 fun x32 h =>
 vop O (.build [(.p .nilslice)] [(0, 1, (.k x32))]) h 33 fun x33 h =>
 vop O (.alloc [(.p .nilslice)] false) h 5 fun x5 h =>
 vstore 1 x5 x33 h fun _ h =>
 R 1 [x0, x1, x4, x5] h)
theorem e189_0 (O : Oracle) (R : Jump) (q : Nat) (x0 x1 : TVal) (h : Heap) : b189_0 O R q x0 x1 h = stepF c189 O R q 0 [x0, x1] h := by kernel_rfl
noncomputable def b189_1 (O : Oracle) (R : Jump) (q : Nat) (x0 x1 x4 x5 : TVal) (h : Heap) : Res1 :=
 vcall O (.v (.c (.func 247 []))) [x0] h 35 fun x35 h =>
 vif x35 (
 vfaddr 0 x5 h fun x36 h =>
 vload false 1 x36 h fun x37 h =>
 vlen O 2 x37 h 38 fun x38 h =>
 vbin .gtr 0 x38 (kI 4) h fun x39 h =>
 vif x39 (
 vcall O (.v (.c (.func 190 []))) [x0, (kI 18)] h 41 fun x41 h =>
 vload true 1 x5 h fun x42 h =>
 vstore 1 x4 x42 h fun _ h =>
 vcell true 1 x4 h fun c0 => vfin true q [c0] h)
 (vtouch O (.faddr 0 (.k x5)) h 43 fun x43 h t0 =>
 vtouch O (.load false 1 (.k x43)) h 44 fun x44 h t1 =>
 vtouch O (.mv (.k x0)) h 45 fun x45 h t2 =>
 vtouch O (.mv (.k x1)) h 46 fun x46 h t3 =>
 vtouch O (.call (.k (.v (.c (.func 246 [])))) [(.k x45), (.k x46)]) h 47 fun x47 h t4 =>
 vtouch O (.bslice 7 1 [(.p (.int .i64 0)), (.p (.str [])), (.p .nilslice), (.p (.str [])), (.p (.int .i64 0)), (.p (.bool false)), (.p .nilslice)] [(0, (.k x47))] false) h 48 fun x48 h t5 =>
 vtouch O (.append 7 104 false (.k x44) (.k x48)) h 49 fun x49 h t6 =>
 vtouch O (.faddr 0 (.k x5)) h 50 fun x50 h t7 =>
 vtouch O (.store 1 (.k x50) (.k x49)) h 1000000 fun _ h t8 =>
 bif apartAll [t0, t1, t2, t3, t4, t5, t6, t7, t8] [(1, 4), (1, 5)] then
 R 1 [x0, x1, x4, x5] h
 else none))
 (R 2 [x4, x5] h)
theorem e189_1 (O : Oracle) (R : Jump) (q : Nat) (x0 x1 x4 x5 : TVal) (h : Heap) : b189_1 O R q x0 x1 x4 x5 h = stepF c189 O R q 1 [x0, x1, x4, x5] h := by kernel_rfl
noncomputable def b189_2 (O : Oracle) (R : Jump) (q : Nat) (x4 x5 : TVal) (h : Heap) : Res1 :=
 vload true 1 x5 h fun x51 h =>
 vstore 1 x4 x51 h fun _ h =>
 vcell true 1 x4 h fun c0 => vfin true q [c0] h
theorem e189_2 (O : Oracle) (R : Jump) (q : Nat) (x4 x5 : TVal) (h : Heap) : b189_2 O R q x4 x5 h = stepF c189 O R q 2 [x4, x5] h := by kernel_rfl
noncomputable def d189 : BlkF := fun O R q => [.s fun y0 => .s fun y1 => .z fun h => b189_0 O R q y0 y1 h, .s fun y0 => .s fun y1 => .s fun y2 => .s fun y3 => .z fun h => b189_1 O R q y0 y1 y2 y3 h, .s fun y0 => .s fun y1 => .z fun h => b189_2 O R q y0 y1 h]
theorem o189 (O : Oracle) (R : Jump) (q : Nat) : HoldsAll c189 O R q 0 (d189 O R q) := ⟨fun y0 y1 h => e189_0 O R q y0 y1 h, fun y0 y1 y2 y3 h => e189_1 O R q y0 y1 y2 y3 h, fun y0 y1 h => e189_2 O R q y0 y1 h, trivial⟩
/- (*sprue/sprueref7.reader).fail -/
def c190 : MFunc := { np := 2, res := [], frz := true, body := (.seq (.reg [(oA 4 (.mv (.t 0))), (oA 5 (.nilck (.t 4))), (oA 6 (.faddr 2 (.t 5))), (oA 7 (.load false 1 (.t 6))), (oA 8 (.bin .eql 0 (.t 7) (.k (.v (.c (.p (.int .i64 0)))))))] []) (.cond (.t 8) (.reg [(oA 9 (.mv (.t 0))), (oA 10 (.mv (.t 1))), (oA 11 (.nilck (.t 9))), (oA 12 (.faddr 2 (.t 11))), (oN (.store 1 (.t 12) (.t 10)))] []) .skip)) }
theorem t190 : compF Tryz.prog (globs2 tabs opq) (fun _ => false) true Tryz.f190 = some c190.erase := by kernel_rfl
noncomputable def b190_0 (O : Oracle) (R : Jump) (q : Nat) (x0 x1 : TVal) (h : Heap) : Res1 :=
 vop O (.nilck (.k x0)) h 5 fun x5 h =>
 vfaddr 2 x5 h fun x6 h =>
 vload false 1 x6 h fun x7 h =>
 vbin .eql 0 x7 (kI 0) h fun x8 h =>
 vif x8 (
 vop O (.nilck (.k x0)) h 11 fun x11 h =>
 vfaddr 2 x11 h fun x12 h =>
 vstore 1 x12 x1 h fun _ h =>
 vfin true q [] h)
 (vfin true q [] h)
theorem e190_0 (O : Oracle) (R : Jump) (q : Nat) (x0 x1 : TVal) (h : Heap) : b190_0 O R q x0 x1 h = stepF c190 O R q 0 [x0, x1] h := by kernel_rfl
noncomputable def d190 : BlkF := fun O R q => [.s fun y0 => .s fun y1 => .z fun h => b190_0 O R q y0 y1 h]
theorem o190 (O : Oracle) (R : Jump) (q : Nat) : HoldsAll c190 O R q 0 (d190 O R q) := ⟨fun y0 y1 h => e190_0 O R q y0 y1 h, trivial⟩
end Go.Proofs.YtnlmlcfipbnpgaaGreatDoor.Ab
