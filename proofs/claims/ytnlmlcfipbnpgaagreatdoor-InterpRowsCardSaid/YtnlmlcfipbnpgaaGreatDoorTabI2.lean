/- Functions of the given program as the abstract interpreter has them (part 2), printed by a program of our own; each is shown to be what 'compF' makes of the given program's. No condition. -/
import Derived.Test.YtnlmlcfipbnpgaaGreatDoorTabI1
namespace Go.Proofs.YtnlmlcfipbnpgaaGreatDoor.Ab
open Go Go.AI
set_option linter.all false
set_option linter.unusedVariables false
set_option maxRecDepth 100000
/- (*sprue/sprueref7.parser).begin -/
def c191 : MFunc := { np := 5, res := [.t 10], frz := true, body := (.seq (.reg [(oA 7 (.box (.t 2) true)), (oA 10 (.mv (.k (.v (.c (.p (.int .i64 0)))))))] []) (.seq (.seq (.reg [(oA 11 (.mv (.t 1))), (oA 12 (.bin .neq 0 (.t 11) (.k (.v (.c (.p (.str [100, 101, 102, 105, 110, 101]))))))), (oA 13 (.mv (.t 12))), ⟨(some 14), (.mv (.t 0)), (some (13, true))⟩, ⟨(some 15), (.nilck (.t 14)), (some (13, true))⟩, ⟨(some 16), (.faddr 0 (.t 15)), (some (13, true))⟩, ⟨(some 17), (.load false 1 (.t 16)), (some (13, true))⟩, ⟨(some 18), (.len 2 (.t 17)), (some (13, true))⟩, ⟨(some 19), (.bin .gtr 0 (.t 18) (.k (.v (.c (.p (.int .i64 0)))))), (some (13, true))⟩, (oA 20 (.pick (.t 13) (.t 19) (.k (.v (.c (.p (.bool false))))))), (oA 21 (.mv (.t 20))), ⟨(some 22), (.mv (.t 0)), (some (21, true))⟩, ⟨(some 23), (.nilck (.t 22)), (some (21, true))⟩, ⟨(some 24), (.faddr 0 (.t 23)), (some (21, true))⟩, ⟨(some 25), (.load false 1 (.t 24)), (some (21, true))⟩, ⟨(some 26), (.mv (.t 0)), (some (21, true))⟩, ⟨(some 27), (.nilck (.t 26)), (some (21, true))⟩, ⟨(some 28), (.faddr 0 (.t 27)), (some (21, true))⟩, ⟨(some 29), (.load false 1 (.t 28)), (some (21, true))⟩, ⟨(some 30), (.len 2 (.t 29)), (some (21, true))⟩, ⟨(some 31), (.bin .sub 0 (.t 30) (.k (.v (.c (.p (.int .i64 1)))))), (some (21, true))⟩, ⟨(some 32), (.iaddr 12 (.t 25) (.t 31)), (some (21, true))⟩, ⟨(some 33), (.faddr 10 (.t 32)), (some (21, true))⟩, ⟨(some 34), (.load false 1 (.t 33)), (some (21, true))⟩, ⟨(some 35), (.bin .eql 0 (.t 34) (.k (.v (.c (.p (.int .i64 3)))))), (some (21, true))⟩, (oA 36 (.pick (.t 21) (.t 35) (.k (.v (.c (.p (.bool false)))))))] []) (.cond (.t 36) (.seq (.reg [(oA 10 (.mv (.k (.v (.c (.p (.int .i64 12)))))))] []) .ret) .skip)) (.seq (.seq (.reg [(oA 37 (.mv (.t 0))), (oA 38 (.nilck (.t 37))), (oA 39 (.faddr 0 (.t 38))), (oA 40 (.load false 1 (.t 39))), (oA 41 (.len 2 (.t 40))), (oA 42 (.bin .geq 0 (.t 41) (.k (.v (.c (.p (.int .i64 12)))))))] []) (.cond (.t 42) (.seq (.reg [(oA 10 (.mv (.k (.v (.c (.p (.int .i64 13)))))))] []) .ret) .skip)) (.seq (.reg [(oA 43 (.mv (.t 0))), (oA 44 (.mv (.t 0))), (oA 45 (.nilck (.t 44))), (oA 46 (.faddr 0 (.t 45))), (oA 47 (.load false 1 (.t 46))), (oA 48 (.mv (.t 1))), (oA 49 (.load true 9 (.t 7))), (oA 50 (.mv (.t 3))), (oA 51 (.mv (.t 4))), (oA 52 (.build [(.p (.str [])), (.p (.int .i64 0)), (.p (.int .i64 0)), (.p (.str [])), (.p (.str [])), (.p .nilslice), (.p .nilslice), (.p .nilslice), (.p (.bool false)), (.p .nilslice), (.p (.int .i64 0)), (.p (.str []))] [(0, 1, (.t 48)), (1, 9, (.t 49)), (10, 1, (.t 50)), (11, 1, (.t 51))])), (oA 53 (.bslice 12 1 [(.p (.str [])), (.p (.int .i64 0)), (.p (.int .i64 0)), (.p (.str [])), (.p (.str [])), (.p .nilslice), (.p .nilslice), (.p .nilslice), (.p (.bool false)), (.p .nilslice), (.p (.int .i64 0)), (.p (.str []))] [(0, (.t 52))] true)), (oA 54 (.append 12 192 true (.t 47) (.t 53))), (oA 55 (.nilck (.t 43))), (oA 56 (.faddr 0 (.t 55))), (oN (.store 1 (.t 56) (.t 54)))] [(4, 10)]) (.seq (.reg [(oA 10 (.mv (.k (.v (.c (.p (.int .i64 0)))))))] []) .ret))))) }
theorem t191 : compF Tryz.prog (globs2 tabs opq) (fun _ => true) true Tryz.f191 = some c191.erase := by kernel_rfl
noncomputable def b191_0 (O : Oracle) (R : Jump) (q : Nat) (x0 x1 x2 x3 x4 : TVal) (h : Heap) : Res1 :=
 vop O (.box (.k x2) true) h 7 fun x7 h =>
 vbin .neq 0 x1 (kS [100, 101, 102, 105, 110, 101]) h fun x12 h =>
 vguard x12 true (fun kk => kk x0 h) h fun x14 h =>
 vguard x12 true (fun kk => vop O (.nilck (.k x14)) h 15 kk) h fun x15 h =>
 vguard x12 true (fun kk => vfaddr 0 x15 h kk) h fun x16 h =>
 vguard x12 true (fun kk => vload false 1 x16 h kk) h fun x17 h =>
 vguard x12 true (fun kk => vlen O 2 x17 h 18 kk) h fun x18 h =>
 vguard x12 true (fun kk => vbin .gtr 0 x18 (kI 0) h kk) h fun x19 h =>
 vop O (.pick (.k x12) (.k x19) (.k (kB false))) h 20 fun x20 h =>
 vguard x20 true (fun kk => kk x0 h) h fun x22 h =>
 vguard x20 true (fun kk => vop O (.nilck (.k x22)) h 23 kk) h fun x23 h =>
 vguard x20 true (fun kk => vfaddr 0 x23 h kk) h fun x24 h =>
 vguard x20 true (fun kk => vload false 1 x24 h kk) h fun x25 h =>
 vguard x20 true (fun kk => kk x0 h) h fun x26 h =>
 vguard x20 true (fun kk => vop O (.nilck (.k x26)) h 27 kk) h fun x27 h =>
 vguard x20 true (fun kk => vfaddr 0 x27 h kk) h fun x28 h =>
 vguard x20 true (fun kk => vload false 1 x28 h kk) h fun x29 h =>
 vguard x20 true (fun kk => vlen O 2 x29 h 30 kk) h fun x30 h =>
 vguard x20 true (fun kk => vbin .sub 0 x30 (kI 1) h kk) h fun x31 h =>
 vguard x20 true (fun kk => viaddr 12 x25 x31 h kk) h fun x32 h =>
 vguard x20 true (fun kk => vfaddr 10 x32 h kk) h fun x33 h =>
 vguard x20 true (fun kk => vload false 1 x33 h kk) h fun x34 h =>
 vguard x20 true (fun kk => vbin .eql 0 x34 (kI 3) h kk) h fun x35 h =>
 vop O (.pick (.k x20) (.k x35) (.k (kB false))) h 36 fun x36 h =>
 vif x36 (
 tcomp (kI 12) fun c0 => vfin true q [c0] h)
 (vop O (.nilck (.k x0)) h 38 fun x38 h =>
 vfaddr 0 x38 h fun x39 h =>
 vload false 1 x39 h fun x40 h =>
 vlen O 2 x40 h 41 fun x41 h =>
 vbin .geq 0 x41 (kI 12) h fun x42 h =>
 vif x42 (
 tcomp (kI 13) fun c0 => vfin true q [c0] h)
 (vtouch O (.mv (.k x0)) h 43 fun x43 h t0 =>
 vtouch O (.mv (.k x0)) h 44 fun x44 h t1 =>
 vtouch O (.nilck (.k x44)) h 45 fun x45 h t2 =>
 vtouch O (.faddr 0 (.k x45)) h 46 fun x46 h t3 =>
 vtouch O (.load false 1 (.k x46)) h 47 fun x47 h t4 =>
 vtouch O (.mv (.k x1)) h 48 fun x48 h t5 =>
 vtouch O (.load true 9 (.k x7)) h 49 fun x49 h t6 =>
 vtouch O (.mv (.k x3)) h 50 fun x50 h t7 =>
 vtouch O (.mv (.k x4)) h 51 fun x51 h t8 =>
 vtouch O (.build [(.p (.str [])), (.p (.int .i64 0)), (.p (.int .i64 0)), (.p (.str [])), (.p (.str [])), (.p .nilslice), (.p .nilslice), (.p .nilslice), (.p (.bool false)), (.p .nilslice), (.p (.int .i64 0)), (.p (.str []))] [(0, 1, (.k x48)), (1, 9, (.k x49)), (10, 1, (.k x50)), (11, 1, (.k x51))]) h 52 fun x52 h t9 =>
 vtouch O (.bslice 12 1 [(.p (.str [])), (.p (.int .i64 0)), (.p (.int .i64 0)), (.p (.str [])), (.p (.str [])), (.p .nilslice), (.p .nilslice), (.p .nilslice), (.p (.bool false)), (.p .nilslice), (.p (.int .i64 0)), (.p (.str []))] [(0, (.k x52))] true) h 53 fun x53 h t10 =>
 vtouch O (.append 12 192 true (.k x47) (.k x53)) h 54 fun x54 h t11 =>
 vtouch O (.nilck (.k x43)) h 55 fun x55 h t12 =>
 vtouch O (.faddr 0 (.k x55)) h 56 fun x56 h t13 =>
 vtouch O (.store 1 (.k x56) (.k x54)) h 1000000 fun _ h t14 =>
 bif apartAll [t0, t1, t2, t3, t4, t5, t6, t7, t8, t9, t10, t11, t12, t13, t14] [(4, 10)] then
 tcomp (kI 0) fun c0 => vfin true q [c0] h
 else none))
theorem e191_0 (O : Oracle) (R : Jump) (q : Nat) (x0 x1 x2 x3 x4 : TVal) (h : Heap) : b191_0 O R q x0 x1 x2 x3 x4 h = stepF c191 O R q 0 [x0, x1, x2, x3, x4] h := by kernel_rfl
noncomputable def d191 : BlkF := fun O R q => [.s fun y0 => .s fun y1 => .s fun y2 => .s fun y3 => .s fun y4 => .z fun h => b191_0 O R q y0 y1 y2 y3 y4 h]
theorem o191 (O : Oracle) (R : Jump) (q : Nat) : HoldsAll c191 O R q 0 (d191 O R q) := ⟨fun y0 y1 y2 y3 y4 h => e191_0 O R q y0 y1 y2 y3 y4 h, trivial⟩
/- (*sprue/sprueref7.parser).other -/
def c192 : MFunc := { np := 3, res := [.t 6], frz := true, body := (.seq (.reg [(oA 6 (.mv (.k (.v (.c (.p (.int .i64 0)))))))] []) (.seq (.seq (.reg [(oA 8 (.mv (.t 0))), (oA 9 (.nilck (.t 8))), (oA 10 (.faddr 0 (.t 9))), (oA 11 (.load false 1 (.t 10))), (oA 12 (.len 2 (.t 11))), (oA 13 (.bin .eql 0 (.t 12) (.k (.v (.c (.p (.int .i64 0)))))))] []) (.cond (.t 13) (.seq (.reg [(oA 6 (.mv (.k (.v (.c (.p (.int .i64 12)))))))] []) .ret) .skip)) (.seq (.reg [(oA 14 (.mv (.t 0))), (oA 15 (.nilck (.t 14))), (oA 16 (.faddr 0 (.t 15))), (oA 17 (.load false 1 (.t 16))), (oA 18 (.mv (.t 0))), (oA 19 (.nilck (.t 18))), (oA 20 (.faddr 0 (.t 19))), (oA 21 (.load false 1 (.t 20))), (oA 22 (.len 2 (.t 21))), (oA 23 (.bin .sub 0 (.t 22) (.k (.v (.c (.p (.int .i64 1))))))), (oA 24 (.iaddr 12 (.t 17) (.t 23))), (oA 7 (.mv (.t 24)))] []) (.seq (.seq (.reg [(oA 25 (.mv (.t 7))), (oA 26 (.nilck (.t 25))), (oA 27 (.faddr 0 (.t 26))), (oA 28 (.load false 1 (.t 27))), (oA 29 (.bin .eql 0 (.t 28) (.k (.v (.c (.p (.str [100, 101, 102, 105, 110, 101]))))))), (oA 30 (.mv (.t 29))), ⟨(some 31), (.mv (.t 7)), (some (30, false))⟩, ⟨(some 32), (.nilck (.t 31)), (some (30, false))⟩, ⟨(some 33), (.faddr 1 (.t 32)), (some (30, false))⟩, ⟨(some 34), (.faddr 7 (.t 33)), (some (30, false))⟩, ⟨(some 35), (.load false 1 (.t 34)), (some (30, false))⟩, (oA 36 (.pick (.t 30) (.k (.v (.c (.p (.bool true))))) (.t 35))), (oA 37 (.mv (.t 36))), ⟨(some 38), (.mv (.t 1)), (some (37, false))⟩, ⟨(some 39), (.bin .eql 0 (.t 38) (.k (.v (.c (.p (.str [99, 97, 115, 101])))))), (some (37, false))⟩, ⟨(some 40), (.mv (.t 39)), (some (37, false))⟩, ⟨(some 41), (.mv (.t 7)), (some (40, true))⟩, ⟨(some 42), (.nilck (.t 41)), (some (40, true))⟩, ⟨(some 43), (.faddr 0 (.t 42)), (some (40, true))⟩, ⟨(some 44), (.load false 1 (.t 43)), (some (40, true))⟩, ⟨(some 45), (.bin .neq 0 (.t 44) (.k (.v (.c (.p (.str [109, 97, 116, 99, 104])))))), (some (40, true))⟩, ⟨(some 46), (.pick (.t 40) (.t 45) (.k (.v (.c (.p (.bool false)))))), (some (37, false))⟩, (oA 47 (.pick (.t 37) (.k (.v (.c (.p (.bool true))))) (.t 46)))] []) (.cond (.t 47) (.seq (.reg [(oA 6 (.mv (.k (.v (.c (.p (.int .i64 12)))))))] []) .ret) .skip)) (.seq (.seq (.reg [(oA 48 (.mv (.t 1))), (oA 49 (.bin .eql 0 (.t 48) (.k (.v (.c (.p (.str [101, 108, 115, 101])))))))] []) (.cond (.t 49) (.seq (.reg [(oA 50 (.mv (.t 7))), (oA 51 (.nilck (.t 50))), (oA 52 (.faddr 1 (.t 51))), (oA 53 (.faddr 7 (.t 52))), (oN (.store 1 (.t 53) (.k (.v (.c (.p (.bool true)))))))] []) (.seq (.reg [(oA 54 (.mv (.t 7))), (oA 55 (.nilck (.t 54))), (oA 56 (.faddr 10 (.t 55))), (oN (.store 1 (.t 56) (.k (.v (.c (.p (.int .i64 1)))))))] []) (.seq (.reg [(oA 6 (.mv (.k (.v (.c (.p (.int .i64 0)))))))] []) .ret))) .skip)) (.seq (.reg [(oA 57 (.mv (.t 7))), (oA 58 (.mv (.t 7))), (oA 59 (.nilck (.t 58))), (oA 60 (.faddr 1 (.t 59))), (oA 61 (.faddr 8 (.t 60))), (oA 62 (.load false 1 (.t 61))), (oA 63 (.mv (.t 2))), (oA 64 (.build [(.p (.str [])), (.p .nilslice)] [(0, 1, (.t 63))])), (oA 65 (.bslice 2 1 [(.p (.str [])), (.p .nilslice)] [(0, (.t 64))] true)), (oA 66 (.append 2 40 true (.t 62) (.t 65))), (oA 67 (.nilck (.t 57))), (oA 68 (.faddr 1 (.t 67))), (oA 69 (.faddr 8 (.t 68))), (oN (.store 1 (.t 69) (.t 66)))] []) (.seq (.reg [(oA 70 (.mv (.t 7))), (oA 71 (.nilck (.t 70))), (oA 72 (.faddr 10 (.t 71))), (oN (.store 1 (.t 72) (.k (.v (.c (.p (.int .i64 2)))))))] []) (.seq (.reg [(oA 6 (.mv (.k (.v (.c (.p (.int .i64 0)))))))] []) .ret)))))))) }
theorem t192 : compF Tryz.prog (globs2 tabs opq) (fun _ => true) true Tryz.f192 = some c192.erase := by kernel_rfl
noncomputable def b192_0 (O : Oracle) (R : Jump) (q : Nat) (x0 x1 x2 : TVal) (h : Heap) : Res1 :=
 vop O (.nilck (.k x0)) h 9 fun x9 h =>
 vfaddr 0 x9 h fun x10 h =>
 vload false 1 x10 h fun x11 h =>
 vlen O 2 x11 h 12 fun x12 h =>
 vbin .eql 0 x12 (kI 0) h fun x13 h =>
 vif x13 (
 tcomp (kI 12) fun c0 => vfin true q [c0] h)
 (vop O (.nilck (.k x0)) h 15 fun x15 h =>
 vfaddr 0 x15 h fun x16 h =>
 vload false 1 x16 h fun x17 h =>
 vop O (.nilck (.k x0)) h 19 fun x19 h =>
 vfaddr 0 x19 h fun x20 h =>
 vload false 1 x20 h fun x21 h =>
 vlen O 2 x21 h 22 fun x22 h =>
 vbin .sub 0 x22 (kI 1) h fun x23 h =>
 viaddr 12 x17 x23 h fun x24 h =>
 vop O (.nilck (.k x24)) h 26 fun x26 h =>
 vfaddr 0 x26 h fun x27 h =>
 vload false 1 x27 h fun x28 h =>
 vbin .eql 0 x28 (kS [100, 101, 102, 105, 110, 101]) h fun x29 h =>
 vguard x29 false (fun kk => kk x24 h) h fun x31 h =>
 vguard x29 false (fun kk => vop O (.nilck (.k x31)) h 32 kk) h fun x32 h =>
 vguard x29 false (fun kk => vfaddr 1 x32 h kk) h fun x33 h =>
 vguard x29 false (fun kk => vfaddr 7 x33 h kk) h fun x34 h =>
 vguard x29 false (fun kk => vload false 1 x34 h kk) h fun x35 h =>
 vop O (.pick (.k x29) (.k (kB true)) (.k x35)) h 36 fun x36 h =>
 vguard x36 false (fun kk => kk x1 h) h fun x38 h =>
 vguard x36 false (fun kk => vbin .eql 0 x38 (kS [99, 97, 115, 101]) h kk) h fun x39 h =>
 vguard x36 false (fun kk => kk x39 h) h fun x40 h =>
 vguard x40 true (fun kk => kk x24 h) h fun x41 h =>
 vguard x40 true (fun kk => vop O (.nilck (.k x41)) h 42 kk) h fun x42 h =>
 vguard x40 true (fun kk => vfaddr 0 x42 h kk) h fun x43 h =>
 vguard x40 true (fun kk => vload false 1 x43 h kk) h fun x44 h =>
 vguard x40 true (fun kk => vbin .neq 0 x44 (kS [109, 97, 116, 99, 104]) h kk) h fun x45 h =>
 vguard x36 false (fun kk => vop O (.pick (.k x40) (.k x45) (.k (kB false))) h 46 kk) h fun x46 h =>
 vop O (.pick (.k x36) (.k (kB true)) (.k x46)) h 47 fun x47 h =>
 vif x47 (
 tcomp (kI 12) fun c0 => vfin true q [c0] h)
 (vbin .eql 0 x1 (kS [101, 108, 115, 101]) h fun x49 h =>
 vif x49 (
 vop O (.nilck (.k x24)) h 51 fun x51 h =>
 vfaddr 1 x51 h fun x52 h =>
 vfaddr 7 x52 h fun x53 h =>
 vstore 1 x53 (kB true) h fun _ h =>
 vop O (.nilck (.k x24)) h 55 fun x55 h =>
 vfaddr 10 x55 h fun x56 h =>
 vstore 1 x56 (kI 1) h fun _ h =>
 tcomp (kI 0) fun c0 => vfin true q [c0] h)
 (vop O (.nilck (.k x24)) h 59 fun x59 h =>
 vfaddr 1 x59 h fun x60 h =>
 vfaddr 8 x60 h fun x61 h =>
 vload false 1 x61 h fun x62 h =>
 vop O (.build [(.p (.str [])), (.p .nilslice)] [(0, 1, (.k x2))]) h 64 fun x64 h =>
 vop O (.bslice 2 1 [(.p (.str [])), (.p .nilslice)] [(0, (.k x64))] true) h 65 fun x65 h =>
 vop O (.append 2 40 true (.k x62) (.k x65)) h 66 fun x66 h =>
 vop O (.nilck (.k x24)) h 67 fun x67 h =>
 vfaddr 1 x67 h fun x68 h =>
 vfaddr 8 x68 h fun x69 h =>
 vstore 1 x69 x66 h fun _ h =>
 vop O (.nilck (.k x24)) h 71 fun x71 h =>
 vfaddr 10 x71 h fun x72 h =>
 vstore 1 x72 (kI 2) h fun _ h =>
 tcomp (kI 0) fun c0 => vfin true q [c0] h)))
theorem e192_0 (O : Oracle) (R : Jump) (q : Nat) (x0 x1 x2 : TVal) (h : Heap) : b192_0 O R q x0 x1 x2 h = stepF c192 O R q 0 [x0, x1, x2] h := by kernel_rfl
noncomputable def d192 : BlkF := fun O R q => [.s fun y0 => .s fun y1 => .s fun y2 => .z fun h => b192_0 O R q y0 y1 y2 h]
theorem o192 (O : Oracle) (R : Jump) (q : Nat) : HoldsAll c192 O R q 0 (d192 O R q) := ⟨fun y0 y1 y2 h => e192_0 O R q y0 y1 y2 h, trivial⟩
/- (*sprue/sprueref7.parser).close -/
def c193 : MFunc := { np := 1, res := [.t 2], frz := true, body := (.seq (.reg [(oA 2 (.mv (.k (.v (.c (.p (.int .i64 0)))))))] []) (.seq (.seq (.reg [(oA 4 (.mv (.t 0))), (oA 5 (.nilck (.t 4))), (oA 6 (.faddr 0 (.t 5))), (oA 7 (.load false 1 (.t 6))), (oA 8 (.len 2 (.t 7))), (oA 9 (.bin .eql 0 (.t 8) (.k (.v (.c (.p (.int .i64 0)))))))] []) (.cond (.t 9) (.seq (.reg [(oA 2 (.mv (.k (.v (.c (.p (.int .i64 12)))))))] []) .ret) .skip)) (.seq (.reg [(oA 10 (.mv (.t 0))), (oA 11 (.nilck (.t 10))), (oA 12 (.faddr 0 (.t 11))), (oA 13 (.load false 1 (.t 12))), (oA 14 (.mv (.t 0))), (oA 15 (.nilck (.t 14))), (oA 16 (.faddr 0 (.t 15))), (oA 17 (.load false 1 (.t 16))), (oA 18 (.len 2 (.t 17))), (oA 19 (.bin .sub 0 (.t 18) (.k (.v (.c (.p (.int .i64 1))))))), (oA 20 (.iaddr 12 (.t 13) (.t 19))), (oA 21 (.load true 12 (.t 20))), (oA 3 (.alloc [(.p (.str [])), (.p (.int .i64 0)), (.p (.int .i64 0)), (.p (.str [])), (.p (.str [])), (.p .nilslice), (.p .nilslice), (.p .nilslice), (.p (.bool false)), (.p .nilslice), (.p (.int .i64 0)), (.p (.str []))] true)), (oN (.store 12 (.t 3) (.t 21)))] [(3, 12), (7, 12), (8, 12), (11, 12)]) (.seq (.reg [(oA 22 (.mv (.t 0))), (oA 23 (.mv (.t 0))), (oA 24 (.nilck (.t 23))), (oA 25 (.faddr 0 (.t 24))), (oA 26 (.load false 1 (.t 25))), (oA 27 (.mv (.t 0))), (oA 28 (.nilck (.t 27))), (oA 29 (.faddr 0 (.t 28))), (oA 30 (.load false 1 (.t 29))), (oA 31 (.len 2 (.t 30))), (oA 32 (.bin .sub 0 (.t 31) (.k (.v (.c (.p (.int .i64 1))))))), (oA 33 (.slice 12 false (.t 26) none (some (.t 32)) none)), (oA 34 (.nilck (.t 22))), (oA 35 (.faddr 0 (.t 34))), (oN (.store 1 (.t 35) (.t 33)))] []) (.seq (.seq (.reg [(oA 36 (.faddr 0 (.t 3))), (oA 37 (.load false 1 (.t 36))), (oA 38 (.bin .eql 0 (.t 37) (.k (.v (.c (.p (.str [100, 101, 102, 105, 110, 101])))))))] []) (.cond (.t 38) (.reg [(oA 39 (.mv (.t 0))), (oA 40 (.mv (.t 0))), (oA 41 (.nilck (.t 40))), (oA 42 (.faddr 2 (.t 41))), (oA 43 (.load false 1 (.t 42))), (oA 44 (.faddr 11 (.t 3))), (oA 45 (.load false 1 (.t 44))), (oA 46 (.faddr 1 (.t 3))), (oA 47 (.faddr 5 (.t 46))), (oA 48 (.load false 1 (.t 47))), (oA 49 (.build [(.p (.str [])), (.p .nilslice)] [(0, 1, (.t 45)), (1, 1, (.t 48))])), (oA 50 (.bslice 2 1 [(.p (.str [])), (.p .nilslice)] [(0, (.t 49))] true)), (oA 51 (.append 2 40 true (.t 43) (.t 50))), (oA 52 (.nilck (.t 39))), (oA 53 (.faddr 2 (.t 52))), (oN (.store 1 (.t 53) (.t 51)))] [(4, 11)]) (.reg [(oA 54 (.mv (.t 0))), (oA 55 (.faddr 1 (.t 3))), (oA 56 (.load true 9 (.t 55))), (oA 57 (.call (.k (.v (.c (.func 132 [])))) [(.t 54), (.t 56)]))] []))) (.seq (.reg [(oA 2 (.mv (.k (.v (.c (.p (.int .i64 0)))))))] []) .ret)))))) }
theorem t193 : compF Tryz.prog (globs2 tabs opq) (fun _ => true) true Tryz.f193 = some c193.erase := by kernel_rfl
noncomputable def b193_0 (O : Oracle) (R : Jump) (q : Nat) (x0 : TVal) (h : Heap) : Res1 :=
 vop O (.nilck (.k x0)) h 5 fun x5 h =>
 vfaddr 0 x5 h fun x6 h =>
 vload false 1 x6 h fun x7 h =>
 vlen O 2 x7 h 8 fun x8 h =>
 vbin .eql 0 x8 (kI 0) h fun x9 h =>
 vif x9 (
 tcomp (kI 12) fun c0 => vfin true q [c0] h)
 (vtouch O (.mv (.k x0)) h 10 fun x10 h t0 =>
 vtouch O (.nilck (.k x10)) h 11 fun x11 h t1 =>
 vtouch O (.faddr 0 (.k x11)) h 12 fun x12 h t2 =>
 vtouch O (.load false 1 (.k x12)) h 13 fun x13 h t3 =>
 vtouch O (.mv (.k x0)) h 14 fun x14 h t4 =>
 vtouch O (.nilck (.k x14)) h 15 fun x15 h t5 =>
 vtouch O (.faddr 0 (.k x15)) h 16 fun x16 h t6 =>
 vtouch O (.load false 1 (.k x16)) h 17 fun x17 h t7 =>
 vtouch O (.len 2 (.k x17)) h 18 fun x18 h t8 =>
 vtouch O (.bin .sub 0 (.k x18) (.k (kI 1))) h 19 fun x19 h t9 =>
 vtouch O (.iaddr 12 (.k x13) (.k x19)) h 20 fun x20 h t10 =>
 vtouch O (.load true 12 (.k x20)) h 21 fun x21 h t11 =>
 vtouch O (.alloc [(.p (.str [])), (.p (.int .i64 0)), (.p (.int .i64 0)), (.p (.str [])), (.p (.str [])), (.p .nilslice), (.p .nilslice), (.p .nilslice), (.p (.bool false)), (.p .nilslice), (.p (.int .i64 0)), (.p (.str []))] true) h 3 fun x3 h t12 =>
 vtouch O (.store 12 (.k x3) (.k x21)) h 1000000 fun _ h t13 =>
 bif apartAll [t0, t1, t2, t3, t4, t5, t6, t7, t8, t9, t10, t11, t12, t13] [(3, 12), (7, 12), (8, 12), (11, 12)] then
 vop O (.nilck (.k x0)) h 24 fun x24 h =>
 vfaddr 0 x24 h fun x25 h =>
 vload false 1 x25 h fun x26 h =>
 vop O (.nilck (.k x0)) h 28 fun x28 h =>
 vfaddr 0 x28 h fun x29 h =>
 vload false 1 x29 h fun x30 h =>
 vlen O 2 x30 h 31 fun x31 h =>
 vbin .sub 0 x31 (kI 1) h fun x32 h =>
 vop O (.slice 12 false (.k x26) none (some (.k x32)) none) h 33 fun x33 h =>
 vop O (.nilck (.k x0)) h 34 fun x34 h =>
 vfaddr 0 x34 h fun x35 h =>
 vstore 1 x35 x33 h fun _ h =>
 vfaddr 0 x3 h fun x36 h =>
 vload false 1 x36 h fun x37 h =>
 vbin .eql 0 x37 (kS [100, 101, 102, 105, 110, 101]) h fun x38 h =>
 vif x38 (
 vtouch O (.mv (.k x0)) h 39 fun x39 h t0 =>
 vtouch O (.mv (.k x0)) h 40 fun x40 h t1 =>
 vtouch O (.nilck (.k x40)) h 41 fun x41 h t2 =>
 vtouch O (.faddr 2 (.k x41)) h 42 fun x42 h t3 =>
 vtouch O (.load false 1 (.k x42)) h 43 fun x43 h t4 =>
 vtouch O (.faddr 11 (.k x3)) h 44 fun x44 h t5 =>
 vtouch O (.load false 1 (.k x44)) h 45 fun x45 h t6 =>
 vtouch O (.faddr 1 (.k x3)) h 46 fun x46 h t7 =>
 vtouch O (.faddr 5 (.k x46)) h 47 fun x47 h t8 =>
 vtouch O (.load false 1 (.k x47)) h 48 fun x48 h t9 =>
 vtouch O (.build [(.p (.str [])), (.p .nilslice)] [(0, 1, (.k x45)), (1, 1, (.k x48))]) h 49 fun x49 h t10 =>
 vtouch O (.bslice 2 1 [(.p (.str [])), (.p .nilslice)] [(0, (.k x49))] true) h 50 fun x50 h t11 =>
 vtouch O (.append 2 40 true (.k x43) (.k x50)) h 51 fun x51 h t12 =>
 vtouch O (.nilck (.k x39)) h 52 fun x52 h t13 =>
 vtouch O (.faddr 2 (.k x52)) h 53 fun x53 h t14 =>
 vtouch O (.store 1 (.k x53) (.k x51)) h 1000000 fun _ h t15 =>
 bif apartAll [t0, t1, t2, t3, t4, t5, t6, t7, t8, t9, t10, t11, t12, t13, t14, t15] [(4, 11)] then
 tcomp (kI 0) fun c0 => vfin true q [c0] h
 else none)
 (vfaddr 1 x3 h fun x55 h =>
 vload true 9 x55 h fun x56 h =>
 vcall O (.v (.c (.func 132 []))) [x0, x56] h 57 fun x57 h =>
 tcomp (kI 0) fun c0 => vfin true q [c0] h)
 else none)
theorem e193_0 (O : Oracle) (R : Jump) (q : Nat) (x0 : TVal) (h : Heap) : b193_0 O R q x0 h = stepF c193 O R q 0 [x0] h := by kernel_rfl
noncomputable def d193 : BlkF := fun O R q => [.s fun y0 => .z fun h => b193_0 O R q y0 h]
theorem o193 (O : Oracle) (R : Jump) (q : Nat) : HoldsAll c193 O R q 0 (d193 O R q) := ⟨fun y0 h => e193_0 O R q y0 h, trivial⟩
/- (*sprue/sprueref7.parser).define -/
def c194 : MFunc := { np := 2, res := [.t 4], frz := true, body := (.seq (.reg [(oA 4 (.mv (.k (.v (.c (.p (.int .i64 0)))))))] []) (.seq (.seq (.reg [(oA 6 (.mv (.t 0))), (oA 7 (.nilck (.t 6))), (oA 8 (.faddr 0 (.t 7))), (oA 9 (.load false 1 (.t 8))), (oA 10 (.len 2 (.t 9))), (oA 11 (.bin .gtr 0 (.t 10) (.k (.v (.c (.p (.int .i64 0)))))))] []) (.cond (.t 11) (.seq (.reg [(oA 4 (.mv (.k (.v (.c (.p (.int .i64 12)))))))] []) .ret) .skip)) (.seq (.seq (.reg [(oA 12 (.mv (.t 1))), (oA 13 (.call (.k (.v (.c (.func 195 [])))) [(.t 12)])), (oA 14 (.un .not (.t 13)))] []) (.cond (.t 14) (.seq (.reg [(oA 4 (.mv (.k (.v (.c (.p (.int .i64 15)))))))] []) .ret) .skip)) (.seq (.seq (.reg [(oA 5 (.mv (.k (.v (.c (.p (.int .i64 0)))))))] []) (.block 0 (.loop 1 [0, 1, 5] (.seq (.seq (.reg [(oA 15 (.mv (.t 5))), (oA 16 (.mv (.t 0))), (oA 17 (.nilck (.t 16))), (oA 18 (.faddr 2 (.t 17))), (oA 19 (.load false 1 (.t 18))), (oA 20 (.len 2 (.t 19))), (oA 21 (.bin .lss 0 (.t 15) (.t 20)))] []) (.cond (.t 21) .skip (.exit 0))) (.seq (.block 1 (.seq (.reg [(oA 24 (.mv (.t 0))), (oA 25 (.nilck (.t 24))), (oA 26 (.faddr 2 (.t 25))), (oA 27 (.load false 1 (.t 26))), (oA 28 (.mv (.t 5))), (oA 29 (.iaddr 2 (.t 27) (.t 28))), (oA 30 (.faddr 0 (.t 29))), (oA 31 (.load false 1 (.t 30))), (oA 32 (.mv (.t 1))), (oA 33 (.bin .eql 0 (.t 31) (.t 32)))] []) (.cond (.t 33) (.seq (.reg [(oA 4 (.mv (.k (.v (.c (.p (.int .i64 6)))))))] []) .ret) .skip))) (.reg [(oA 22 (.mv (.t 5))), (oA 23 (.bin .add 0 (.t 22) (.k (.v (.c (.p (.int .i64 1))))))), (oA 5 (.mv (.t 23)))] [])))))) (.mark 2 [0, 1] (.seq (.seq (.reg [(oA 34 (.mv (.t 0))), (oA 35 (.nilck (.t 34))), (oA 36 (.faddr 2 (.t 35))), (oA 37 (.load false 1 (.t 36))), (oA 38 (.len 2 (.t 37))), (oA 39 (.bin .geq 0 (.t 38) (.k (.v (.c (.p (.int .i64 12)))))))] []) (.cond (.t 39) (.seq (.reg [(oA 4 (.mv (.k (.v (.c (.p (.int .i64 3)))))))] []) .ret) .skip)) (.seq (.reg [(oA 40 (.mv (.t 0))), (oA 41 (.build [(.p (.int .i64 0)), (.p (.int .i64 0)), (.p (.str [])), (.p (.str [])), (.p .nilslice), (.p .nilslice), (.p .nilslice), (.p (.bool false)), (.p .nilslice)] [])), (oA 42 (.mv (.t 1))), (oA 43 (.call (.k (.v (.c (.func 191 [])))) [(.t 40), (.k (.v (.c (.p (.str [100, 101, 102, 105, 110, 101]))))), (.t 41), (.k (.v (.c (.p (.int .i64 0))))), (.t 42)])), (oA 4 (.mv (.t 43)))] []) .ret))))))) }
theorem t194 : compF Tryz.prog (globs2 tabs opq) (fun _ => true) true Tryz.f194 = some c194.erase := by kernel_rfl
noncomputable def b194_0 (O : Oracle) (R : Jump) (q : Nat) (x0 x1 : TVal) (h : Heap) : Res1 :=
 vop O (.nilck (.k x0)) h 7 fun x7 h =>
 vfaddr 0 x7 h fun x8 h =>
 vload false 1 x8 h fun x9 h =>
 vlen O 2 x9 h 10 fun x10 h =>
 vbin .gtr 0 x10 (kI 0) h fun x11 h =>
 vif x11 (
 tcomp (kI 12) fun c0 => vfin true q [c0] h)
 (vcall O (.v (.c (.func 195 []))) [x1] h 13 fun x13 h =>
 vop O (.un .not (.k x13)) h 14 fun x14 h =>
 vif x14 (
 tcomp (kI 15) fun c0 => vfin true q [c0] h)
 (R 1 [x0, x1, (kI 0)] h))
theorem e194_0 (O : Oracle) (R : Jump) (q : Nat) (x0 x1 : TVal) (h : Heap) : b194_0 O R q x0 x1 h = stepF c194 O R q 0 [x0, x1] h := by kernel_rfl
noncomputable def b194_1 (O : Oracle) (R : Jump) (q : Nat) (x0 x1 x5 : TVal) (h : Heap) : Res1 :=
 vop O (.nilck (.k x0)) h 17 fun x17 h =>
 vfaddr 2 x17 h fun x18 h =>
 vload false 1 x18 h fun x19 h =>
 vlen O 2 x19 h 20 fun x20 h =>
 vbin .lss 0 x5 x20 h fun x21 h =>
 vif x21 (
 vop O (.nilck (.k x0)) h 25 fun x25 h =>
 vfaddr 2 x25 h fun x26 h =>
 vload false 1 x26 h fun x27 h =>
 viaddr 2 x27 x5 h fun x29 h =>
 vfaddr 0 x29 h fun x30 h =>
 vload false 1 x30 h fun x31 h =>
 vbin .eql 0 x31 x1 h fun x33 h =>
 vif x33 (
 tcomp (kI 6) fun c0 => vfin true q [c0] h)
 (vbin .add 0 x5 (kI 1) h fun x23 h =>
 R 1 [x0, x1, x23] h))
 (R 2 [x0, x1] h)
theorem e194_1 (O : Oracle) (R : Jump) (q : Nat) (x0 x1 x5 : TVal) (h : Heap) : b194_1 O R q x0 x1 x5 h = stepF c194 O R q 1 [x0, x1, x5] h := by kernel_rfl
noncomputable def b194_2 (O : Oracle) (R : Jump) (q : Nat) (x0 x1 : TVal) (h : Heap) : Res1 :=
 vop O (.nilck (.k x0)) h 35 fun x35 h =>
 vfaddr 2 x35 h fun x36 h =>
 vload false 1 x36 h fun x37 h =>
 vlen O 2 x37 h 38 fun x38 h =>
 vbin .geq 0 x38 (kI 12) h fun x39 h =>
 vif x39 (
 tcomp (kI 3) fun c0 => vfin true q [c0] h)
 (vop O (.build [(.p (.int .i64 0)), (.p (.int .i64 0)), (.p (.str [])), (.p (.str [])), (.p .nilslice), (.p .nilslice), (.p .nilslice), (.p (.bool false)), (.p .nilslice)] []) h 41 fun x41 h =>
 vcall O (.v (.c (.func 191 []))) [x0, (kS [100, 101, 102, 105, 110, 101]), x41, (kI 0), x1] h 43 fun x43 h =>
 tcomp x43 fun c0 => vfin true q [c0] h)
theorem e194_2 (O : Oracle) (R : Jump) (q : Nat) (x0 x1 : TVal) (h : Heap) : b194_2 O R q x0 x1 h = stepF c194 O R q 2 [x0, x1] h := by kernel_rfl
noncomputable def d194 : BlkF := fun O R q => [.s fun y0 => .s fun y1 => .z fun h => b194_0 O R q y0 y1 h, .s fun y0 => .s fun y1 => .s fun y2 => .z fun h => b194_1 O R q y0 y1 y2 h, .s fun y0 => .s fun y1 => .z fun h => b194_2 O R q y0 y1 h]
theorem o194 (O : Oracle) (R : Jump) (q : Nat) : HoldsAll c194 O R q 0 (d194 O R q) := ⟨fun y0 y1 h => e194_0 O R q y0 y1 h, fun y0 y1 y2 h => e194_1 O R q y0 y1 y2 h, fun y0 y1 h => e194_2 O R q y0 y1 h, trivial⟩
/- sprue/sprueref1.Ident -/
def c195 : MFunc := { np := 1, res := [.t 2], frz := true, body := (.seq (.reg [(oA 2 (.mv (.k (.v (.c (.p (.bool false)))))))] []) (.seq (.seq (.reg [(oA 4 (.mv (.t 0))), (oA 5 (.len 0 (.t 4))), (oA 6 (.bin .eql 0 (.t 5) (.k (.v (.c (.p (.int .i64 0))))))), (oA 7 (.mv (.t 6))), ⟨(some 8), (.mv (.t 0)), (some (7, false))⟩, ⟨(some 9), (.len 0 (.t 8)), (some (7, false))⟩, ⟨(some 10), (.bin .gtr 0 (.t 9) (.k (.v (.c (.p (.int .i64 16)))))), (some (7, false))⟩, (oA 11 (.pick (.t 7) (.k (.v (.c (.p (.bool true))))) (.t 10))), (oA 12 (.mv (.t 11))), ⟨(some 13), (.mv (.t 0)), (some (12, false))⟩, ⟨(some 14), (.index (.t 13) (.k (.v (.c (.p (.int .i64 0)))))), (some (12, false))⟩, ⟨(some 15), (.call (.k (.v (.c (.func 184 [])))) [(.t 14)]), (some (12, false))⟩, ⟨(some 16), (.un .not (.t 15)), (some (12, false))⟩, (oA 17 (.pick (.t 12) (.k (.v (.c (.p (.bool true))))) (.t 16)))] []) (.cond (.t 17) (.seq (.reg [(oA 2 (.mv (.k (.v (.c (.p (.bool false)))))))] []) .ret) .skip)) (.seq (.seq (.reg [(oA 3 (.mv (.k (.v (.c (.p (.int .i64 0)))))))] []) (.block 0 (.loop 1 [0, 3] (.seq (.seq (.reg [(oA 18 (.mv (.t 3))), (oA 19 (.mv (.t 0))), (oA 20 (.len 0 (.t 19))), (oA 21 (.bin .lss 0 (.t 18) (.t 20)))] []) (.cond (.t 21) .skip (.exit 0))) (.seq (.block 1 (.seq (.reg [(oA 24 (.mv (.t 0))), (oA 25 (.mv (.t 3))), (oA 26 (.index (.t 24) (.t 25))), (oA 27 (.call (.k (.v (.c (.func 184 [])))) [(.t 26)])), (oA 28 (.un .not (.t 27))), (oA 29 (.mv (.t 28))), ⟨(some 30), (.mv (.t 0)), (some (29, true))⟩, ⟨(some 31), (.mv (.t 3)), (some (29, true))⟩, ⟨(some 32), (.index (.t 30) (.t 31)), (some (29, true))⟩, ⟨(some 33), (.call (.k (.v (.c (.func 185 [])))) [(.t 32)]), (some (29, true))⟩, ⟨(some 34), (.un .not (.t 33)), (some (29, true))⟩, (oA 35 (.pick (.t 29) (.t 34) (.k (.v (.c (.p (.bool false)))))))] []) (.cond (.t 35) (.seq (.reg [(oA 2 (.mv (.k (.v (.c (.p (.bool false)))))))] []) .ret) .skip))) (.reg [(oA 22 (.mv (.t 3))), (oA 23 (.bin .add 0 (.t 22) (.k (.v (.c (.p (.int .i64 1))))))), (oA 3 (.mv (.t 23)))] [])))))) (.seq (.reg [(oA 2 (.mv (.k (.v (.c (.p (.bool true)))))))] []) .ret)))) }
theorem t195 : compF Tryz.prog (globs2 tabs opq) (fun _ => false) true Tryz.f195 = some c195.erase := by kernel_rfl
noncomputable def b195_0 (O : Oracle) (R : Jump) (q : Nat) (x0 : TVal) (h : Heap) : Res1 :=
 vlen O 0 x0 h 5 fun x5 h =>
 vbin .eql 0 x5 (kI 0) h fun x6 h =>
 vguard x6 false (fun kk => kk x0 h) h fun x8 h =>
 vguard x6 false (fun kk => vlen O 0 x8 h 9 kk) h fun x9 h =>
 vguard x6 false (fun kk => vbin .gtr 0 x9 (kI 16) h kk) h fun x10 h =>
 vop O (.pick (.k x6) (.k (kB true)) (.k x10)) h 11 fun x11 h =>
 vguard x11 false (fun kk => kk x0 h) h fun x13 h =>
 vguard x11 false (fun kk => vindex x13 (kI 0) h kk) h fun x14 h =>
 vguard x11 false (fun kk => vcall O (.v (.c (.func 184 []))) [x14] h 15 kk) h fun x15 h =>
 vguard x11 false (fun kk => vop O (.un .not (.k x15)) h 16 kk) h fun x16 h =>
 vop O (.pick (.k x11) (.k (kB true)) (.k x16)) h 17 fun x17 h =>
 vif x17 (
 tcomp (kB false) fun c0 => vfin true q [c0] h)
 (R 1 [x0, (kI 0)] h)
theorem e195_0 (O : Oracle) (R : Jump) (q : Nat) (x0 : TVal) (h : Heap) : b195_0 O R q x0 h = stepF c195 O R q 0 [x0] h := by kernel_rfl
noncomputable def b195_1 (O : Oracle) (R : Jump) (q : Nat) (x0 x3 : TVal) (h : Heap) : Res1 :=
 vlen O 0 x0 h 20 fun x20 h =>
 vbin .lss 0 x3 x20 h fun x21 h =>
 vif x21 (
 vindex x0 x3 h fun x26 h =>
 vcall O (.v (.c (.func 184 []))) [x26] h 27 fun x27 h =>
 vop O (.un .not (.k x27)) h 28 fun x28 h =>
 vguard x28 true (fun kk => kk x0 h) h fun x30 h =>
 vguard x28 true (fun kk => kk x3 h) h fun x31 h =>
 vguard x28 true (fun kk => vindex x30 x31 h kk) h fun x32 h =>
 vguard x28 true (fun kk => vcall O (.v (.c (.func 185 []))) [x32] h 33 kk) h fun x33 h =>
 vguard x28 true (fun kk => vop O (.un .not (.k x33)) h 34 kk) h fun x34 h =>
 vop O (.pick (.k x28) (.k x34) (.k (kB false))) h 35 fun x35 h =>
 vif x35 (
 tcomp (kB false) fun c0 => vfin true q [c0] h)
 (vbin .add 0 x3 (kI 1) h fun x23 h =>
 R 1 [x0, x23] h))
 (tcomp (kB true) fun c0 => vfin true q [c0] h)
theorem e195_1 (O : Oracle) (R : Jump) (q : Nat) (x0 x3 : TVal) (h : Heap) : b195_1 O R q x0 x3 h = stepF c195 O R q 1 [x0, x3] h := by kernel_rfl
noncomputable def d195 : BlkF := fun O R q => [.s fun y0 => .z fun h => b195_0 O R q y0 h, .s fun y0 => .s fun y1 => .z fun h => b195_1 O R q y0 y1 h]
theorem o195 (O : Oracle) (R : Jump) (q : Nat) : HoldsAll c195 O R q 0 (d195 O R q) := ⟨fun y0 h => e195_0 O R q y0 h, fun y0 y1 h => e195_1 O R q y0 y1 h, trivial⟩
/- (*sprue/interp.run).command -/
def c196 : MFunc := { np := 4, res := [.cell 8 true 6, .t 9], frz := true, body := (.seq (.reg [(oA 5 (.box (.t 1) true)), (oA 6 (.box (.t 2) true)), (oA 8 (.alloc [(.p (.int .i64 0)), (.p (.bool false)), (.p (.int .i64 0)), (.p (.str [])), (.p .nilslice), (.p .nilslice)] true)), (oA 9 (.mv (.k (.v (.c (.p (.int .i64 0)))))))] []) (.seq (.seq (.reg [(oA 13 (.mv (.t 0))), (oA 14 (.call (.k (.v (.c (.func 134 [])))) [(.t 13)])), (oA 10 (.mv (.t 14)))] []) (.seq (.reg [(oA 15 (.mv (.t 10))), (oA 16 (.bin .neq 0 (.t 15) (.k (.v (.c (.p (.int .i64 0)))))))] []) (.cond (.t 16) (.seq (.reg [(oA 17 (.build [(.p (.int .i64 0)), (.p (.bool false)), (.p (.int .i64 0)), (.p (.str [])), (.p .nilslice), (.p .nilslice)] [])), (oA 18 (.mv (.t 10))), (oN (.store 6 (.t 8) (.t 17))), (oA 9 (.mv (.t 18)))] []) .ret) .skip))) (.seq (.seq (.reg [(oA 19 (.faddr 0 (.t 6))), (oA 20 (.load false 1 (.t 19))), (oA 21 (.len 2 (.t 20))), (oA 22 (.bin .eql 0 (.t 21) (.k (.v (.c (.p (.int .i64 0)))))))] []) (.cond (.t 22) (.seq (.reg [(oA 23 (.build [(.p (.int .i64 0)), (.p (.bool false)), (.p (.int .i64 0)), (.p (.str [])), (.p .nilslice), (.p .nilslice)] [])), (oN (.store 6 (.t 8) (.t 23))), (oA 9 (.mv (.k (.v (.c (.p (.int .i64 12)))))))] []) .ret) .skip)) (.seq (.seq (.reg [(oA 24 (.faddr 0 (.t 6))), (oA 25 (.load false 1 (.t 24))), (oA 26 (.iaddr 7 (.t 25) (.k (.v (.c (.p (.int .i64 0))))))), (oA 27 (.faddr 0 (.t 26))), (oA 28 (.load false 1 (.t 27))), (oA 29 (.bin .eql 0 (.t 28) (.k (.v (.c (.p (.int .i64 6)))))))] []) (.cond (.t 29) (.seq (.reg [(oA 30 (.mv (.t 0))), (oA 31 (.load true 8 (.t 5))), (oA 32 (.load true 1 (.t 6))), (oA 33 (.mv (.t 3))), (oA 34 (.call (.k (.v (.c (.func 248 [])))) [(.t 30), (.t 31), (.t 32), (.t 33)])), (oA 35 (.extract (.t 34) 0)), (oA 36 (.extract (.t 34) 1)), (oN (.store 6 (.t 8) (.t 35))), (oA 9 (.mv (.t 36)))] []) .ret) .skip)) (.seq (.reg [(oA 38 (.mv (.t 0))), (oA 39 (.load true 8 (.t 5))), (oA 40 (.faddr 0 (.t 6))), (oA 41 (.load false 1 (.t 40))), (oA 42 (.iaddr 7 (.t 41) (.k (.v (.c (.p (.int .i64 0))))))), (oA 43 (.load true 7 (.t 42))), (oA 44 (.call (.k (.v (.c (.func 249 [])))) [(.t 38), (.t 39), (.t 43)])), (oA 37 (.mv (.t 44))), (oA 45 (.extract (.t 37) 0)), (oA 46 (.extract (.t 37) 1)), (oA 11 (.alloc [(.p (.int .i64 0)), (.p (.bool false)), (.p (.int .i64 0)), (.p (.str [])), (.p .nilslice), (.p .nilslice)] true)), (oN (.store 6 (.t 11) (.t 45))), (oA 12 (.mv (.t 46)))] [(1, 10), (3, 10), (5, 10), (6, 10)]) (.seq (.seq (.reg [(oA 47 (.mv (.t 12))), (oA 48 (.bin .eql 0 (.t 47) (.k (.v (.c (.p (.int .i64 0))))))), (oA 49 (.mv (.t 48))), ⟨(some 50), (.mv (.t 3)), (some (49, true))⟩, ⟨(some 51), (.len 2 (.t 50)), (some (49, true))⟩, ⟨(some 52), (.bin .gtr 0 (.t 51) (.k (.v (.c (.p (.int .i64 0)))))), (some (49, true))⟩, (oA 53 (.pick (.t 49) (.t 52) (.k (.v (.c (.p (.bool false)))))))] []) (.cond (.t 53) (.seq (.reg [(oA 54 (.build [(.p (.int .i64 0)), (.p (.bool false)), (.p (.int .i64 0)), (.p (.str [])), (.p .nilslice), (.p .nilslice)] [])), (oN (.store 6 (.t 8) (.t 54))), (oA 9 (.mv (.k (.v (.c (.p (.int .i64 18)))))))] []) .ret) .skip)) (.seq (.reg [(oA 55 (.load true 6 (.t 11))), (oA 56 (.mv (.t 12))), (oN (.store 6 (.t 8) (.t 55))), (oA 9 (.mv (.t 56)))] []) .ret))))))) }
theorem t196 : compF Tryz.prog (globs2 tabs opq) (fun _ => true) true Tryz.f196 = some c196.erase := by kernel_rfl
noncomputable def b196_0 (O : Oracle) (R : Jump) (q : Nat) (x0 x1 x2 x3 : TVal) (h : Heap) : Res1 :=
 vop O (.box (.k x1) true) h 5 fun x5 h =>
 vop O (.box (.k x2) true) h 6 fun x6 h =>
 vop O (.alloc [(.p (.int .i64 0)), (.p (.bool false)), (.p (.int .i64 0)), (.p (.str [])), (.p .nilslice), (.p .nilslice)] true) h 8 fun x8 h =>
 vcall O (.v (.c (.func 134 []))) [x0] h 14 fun x14 h =>
 vbin .neq 0 x14 (kI 0) h fun x16 h =>
 vif x16 (
 vop O (.build [(.p (.int .i64 0)), (.p (.bool false)), (.p (.int .i64 0)), (.p (.str [])), (.p .nilslice), (.p .nilslice)] []) h 17 fun x17 h =>
 vstore 6 x8 x17 h fun _ h =>
 vcell true 6 x8 h fun c0 => tcomp x14 fun c1 => vfin true q [c0, c1] h)
 (vfaddr 0 x6 h fun x19 h =>
 vload false 1 x19 h fun x20 h =>
 vlen O 2 x20 h 21 fun x21 h =>
 vbin .eql 0 x21 (kI 0) h fun x22 h =>
 vif x22 (
 vop O (.build [(.p (.int .i64 0)), (.p (.bool false)), (.p (.int .i64 0)), (.p (.str [])), (.p .nilslice), (.p .nilslice)] []) h 23 fun x23 h =>
 vstore 6 x8 x23 h fun _ h =>
 vcell true 6 x8 h fun c0 => tcomp (kI 12) fun c1 => vfin true q [c0, c1] h)
 (vfaddr 0 x6 h fun x24 h =>
 vload false 1 x24 h fun x25 h =>
 viaddr 7 x25 (kI 0) h fun x26 h =>
 vfaddr 0 x26 h fun x27 h =>
 vload false 1 x27 h fun x28 h =>
 vbin .eql 0 x28 (kI 6) h fun x29 h =>
 vif x29 (
 vload true 8 x5 h fun x31 h =>
 vload true 1 x6 h fun x32 h =>
 vcall O (.v (.c (.func 248 []))) [x0, x31, x32, x3] h 34 fun x34 h =>
 vext x34 0 h fun x35 h =>
 vext x34 1 h fun x36 h =>
 vstore 6 x8 x35 h fun _ h =>
 vcell true 6 x8 h fun c0 => tcomp x36 fun c1 => vfin true q [c0, c1] h)
 (vtouch O (.mv (.k x0)) h 38 fun x38 h t0 =>
 vtouch O (.load true 8 (.k x5)) h 39 fun x39 h t1 =>
 vtouch O (.faddr 0 (.k x6)) h 40 fun x40 h t2 =>
 vtouch O (.load false 1 (.k x40)) h 41 fun x41 h t3 =>
 vtouch O (.iaddr 7 (.k x41) (.k (kI 0))) h 42 fun x42 h t4 =>
 vtouch O (.load true 7 (.k x42)) h 43 fun x43 h t5 =>
 vtouch O (.call (.k (.v (.c (.func 249 [])))) [(.k x38), (.k x39), (.k x43)]) h 44 fun x44 h t6 =>
 vtouch O (.mv (.k x44)) h 37 fun x37 h t7 =>
 vtouch O (.extract (.k x37) 0) h 45 fun x45 h t8 =>
 vtouch O (.extract (.k x37) 1) h 46 fun x46 h t9 =>
 vtouch O (.alloc [(.p (.int .i64 0)), (.p (.bool false)), (.p (.int .i64 0)), (.p (.str [])), (.p .nilslice), (.p .nilslice)] true) h 11 fun x11 h t10 =>
 vtouch O (.store 6 (.k x11) (.k x45)) h 1000000 fun _ h t11 =>
 vtouch O (.mv (.k x46)) h 12 fun x12 h t12 =>
 bif apartAll [t0, t1, t2, t3, t4, t5, t6, t7, t8, t9, t10, t11, t12] [(1, 10), (3, 10), (5, 10), (6, 10)] then
 vbin .eql 0 x12 (kI 0) h fun x48 h =>
 vguard x48 true (fun kk => kk x3 h) h fun x50 h =>
 vguard x48 true (fun kk => vlen O 2 x50 h 51 kk) h fun x51 h =>
 vguard x48 true (fun kk => vbin .gtr 0 x51 (kI 0) h kk) h fun x52 h =>
 vop O (.pick (.k x48) (.k x52) (.k (kB false))) h 53 fun x53 h =>
 vif x53 (
 vop O (.build [(.p (.int .i64 0)), (.p (.bool false)), (.p (.int .i64 0)), (.p (.str [])), (.p .nilslice), (.p .nilslice)] []) h 54 fun x54 h =>
 vstore 6 x8 x54 h fun _ h =>
 vcell true 6 x8 h fun c0 => tcomp (kI 18) fun c1 => vfin true q [c0, c1] h)
 (vload true 6 x11 h fun x55 h =>
 vstore 6 x8 x55 h fun _ h =>
 vcell true 6 x8 h fun c0 => tcomp x12 fun c1 => vfin true q [c0, c1] h)
 else none)))
theorem e196_0 (O : Oracle) (R : Jump) (q : Nat) (x0 x1 x2 x3 : TVal) (h : Heap) : b196_0 O R q x0 x1 x2 x3 h = stepF c196 O R q 0 [x0, x1, x2, x3] h := by kernel_rfl
noncomputable def d196 : BlkF := fun O R q => [.s fun y0 => .s fun y1 => .s fun y2 => .s fun y3 => .z fun h => b196_0 O R q y0 y1 y2 y3 h]
theorem o196 (O : Oracle) (R : Jump) (q : Nat) : HoldsAll c196 O R q 0 (d196 O R q) := ⟨fun y0 y1 y2 y3 h => e196_0 O R q y0 y1 y2 y3 h, trivial⟩
/- (*sprue/interp.run).print -/
def c197 : MFunc := { np := 2, res := [.t 4], frz := true, body := (.seq (.reg [(oA 3 (.box (.t 1) true)), (oA 4 (.mv (.k (.v (.c (.p (.int .i64 0)))))))] []) (.seq (.seq (.reg [(oA 5 (.faddr 0 (.t 3))), (oA 6 (.load false 1 (.t 5)))] []) (.block 0 (.seq (.reg [(oA 8 (.bin .eql 0 (.t 6) (.k (.v (.c (.p (.int .i64 1))))))), (oA 7 (.mv (.t 8)))] []) (.cond (.t 7) (.seq (.reg [(oA 9 (.mv (.t 0))), (oA 10 (.faddr 1 (.t 3))), (oA 11 (.load false 1 (.t 10))), (oA 12 (.call (.k (.v (.c (.func 168 [])))) [(.t 11)])), (oA 13 (.call (.k (.v (.c (.func 135 [])))) [(.t 9), (.t 12)])), (oA 4 (.mv (.t 13)))] []) .ret) (.seq (.reg [(oA 15 (.bin .eql 0 (.t 6) (.k (.v (.c (.p (.int .i64 2))))))), (oA 14 (.mv (.t 15)))] []) (.cond (.t 14) (.seq (.reg [(oA 16 (.mv (.t 0))), (oA 17 (.faddr 2 (.t 3))), (oA 18 (.load false 1 (.t 17))), (oA 19 (.call (.k (.v (.c (.func 167 [])))) [(.t 18), (.k (.v (.c (.p (.int .i64 10)))))])), (oA 20 (.call (.k (.v (.c (.func 135 [])))) [(.t 16), (.t 19)])), (oA 4 (.mv (.t 20)))] []) .ret) (.seq (.reg [(oA 22 (.bin .eql 0 (.t 6) (.k (.v (.c (.p (.int .i64 3))))))), (oA 21 (.mv (.t 22)))] []) (.cond (.t 21) (.seq (.reg [(oA 23 (.mv (.t 0))), (oA 24 (.faddr 3 (.t 3))), (oA 25 (.load false 1 (.t 24))), (oA 26 (.call (.k (.v (.c (.func 135 [])))) [(.t 23), (.t 25)])), (oA 4 (.mv (.t 26)))] []) .ret) .skip)))))))) (.seq (.reg [(oA 4 (.mv (.k (.v (.c (.p (.int .i64 17)))))))] []) .ret))) }
theorem t197 : compF Tryz.prog (globs2 tabs opq) (fun _ => true) true Tryz.f197 = some c197.erase := by kernel_rfl
noncomputable def b197_0 (O : Oracle) (R : Jump) (q : Nat) (x0 x1 : TVal) (h : Heap) : Res1 :=
 vop O (.box (.k x1) true) h 3 fun x3 h =>
 vfaddr 0 x3 h fun x5 h =>
 vload false 1 x5 h fun x6 h =>
 vbin .eql 0 x6 (kI 1) h fun x8 h =>
 vif x8 (
 vfaddr 1 x3 h fun x10 h =>
 vload false 1 x10 h fun x11 h =>
 vcall O (.v (.c (.func 168 []))) [x11] h 12 fun x12 h =>
 vcall O (.v (.c (.func 135 []))) [x0, x12] h 13 fun x13 h =>
 tcomp x13 fun c0 => vfin true q [c0] h)
 (vbin .eql 0 x6 (kI 2) h fun x15 h =>
 vif x15 (
 vfaddr 2 x3 h fun x17 h =>
 vload false 1 x17 h fun x18 h =>
 vcall O (.v (.c (.func 167 []))) [x18, (kI 10)] h 19 fun x19 h =>
 vcall O (.v (.c (.func 135 []))) [x0, x19] h 20 fun x20 h =>
 tcomp x20 fun c0 => vfin true q [c0] h)
 (vbin .eql 0 x6 (kI 3) h fun x22 h =>
 vif x22 (
 vfaddr 3 x3 h fun x24 h =>
 vload false 1 x24 h fun x25 h =>
 vcall O (.v (.c (.func 135 []))) [x0, x25] h 26 fun x26 h =>
 tcomp x26 fun c0 => vfin true q [c0] h)
 (tcomp (kI 17) fun c0 => vfin true q [c0] h)))
theorem e197_0 (O : Oracle) (R : Jump) (q : Nat) (x0 x1 : TVal) (h : Heap) : b197_0 O R q x0 x1 h = stepF c197 O R q 0 [x0, x1] h := by kernel_rfl
noncomputable def d197 : BlkF := fun O R q => [.s fun y0 => .s fun y1 => .z fun h => b197_0 O R q y0 y1 h]
theorem o197 (O : Oracle) (R : Jump) (q : Nat) : HoldsAll c197 O R q 0 (d197 O R q) := ⟨fun y0 y1 h => e197_0 O R q y0 y1 h, trivial⟩
/- (sprue/interp.scope).find -/
def c198 : MFunc := { np := 2, res := [.cell 4 false 1], frz := false, body := (.seq (.reg [(oA 2 (.box (.t 0) false)), (oA 3 (.box (.t 1) false)), (oA 4 (.alloc [(.p .nilptr)] false))] []) (.seq (.seq (.reg [(oA 7 (.faddr 6 (.t 2))), (oA 8 (.load false 1 (.t 7))), (oA 9 (.call (.k (.v (.c (.func 250 [])))) [(.t 8)]))] []) (.block 0 .bad)) (.seq (.reg [(oN (.store 1 (.t 4) (.k (.v (.c (.p .nilptr))))))] []) .ret))) }
theorem t198 : compF Tryz.prog (globs2 tabs opq) (fun _ => false) false Tryz.f198 = some c198.erase := by kernel_rfl
noncomputable def b198_0 (O : Oracle) (R : Jump) (q : Nat) (x0 x1 : TVal) (h : Heap) : Res1 :=
 vop O (.box (.k x0) false) h 2 fun x2 h =>
 vop O (.box (.k x1) false) h 3 fun x3 h =>
 vop O (.alloc [(.p .nilptr)] false) h 4 fun x4 h =>
 vfaddr 6 x2 h fun x7 h =>
 vload false 1 x7 h fun x8 h =>
 vcall O (.v (.c (.func 250 []))) [x8] h 9 fun x9 h =>
 none
theorem e198_0 (O : Oracle) (R : Jump) (q : Nat) (x0 x1 : TVal) (h : Heap) : b198_0 O R q x0 x1 h = stepF c198 O R q 0 [x0, x1] h := by kernel_rfl
noncomputable def d198 : BlkF := fun O R q => [.s fun y0 => .s fun y1 => .z fun h => b198_0 O R q y0 y1 h]
theorem o198 (O : Oracle) (R : Jump) (q : Nat) : HoldsAll c198 O R q 0 (d198 O R q) := ⟨fun y0 y1 h => e198_0 O R q y0 y1 h, trivial⟩
/- (sprue/interp.scope).with -/
def c199 : MFunc := { np := 2, res := [.cell 4 true 8], frz := false, body := (.seq (.reg [(oA 2 (.box (.t 0) false)), (oA 3 (.box (.t 1) false)), (oA 4 (.alloc [(.p (.int .i64 0)), (.p (.bool false)), (.p (.int .i64 0)), (.p (.str [])), (.p .nilslice), (.p .nilslice), (.p .nilslice), (.p (.int .i64 0))] false))] []) (.seq (.reg [(oA 5 (.load true 6 (.t 3))), (oA 6 (.faddr 0 (.t 2))), (oN (.store 6 (.t 6) (.t 5)))] []) (.seq (.reg [(oA 7 (.load true 8 (.t 2))), (oN (.store 8 (.t 4) (.t 7)))] []) .ret))) }
theorem t199 : compF Tryz.prog (globs2 tabs opq) (fun _ => false) false Tryz.f199 = some c199.erase := by kernel_rfl
noncomputable def b199_0 (O : Oracle) (R : Jump) (q : Nat) (x0 x1 : TVal) (h : Heap) : Res1 :=
 vop O (.box (.k x0) false) h 2 fun x2 h =>
 vop O (.box (.k x1) false) h 3 fun x3 h =>
 vop O (.alloc [(.p (.int .i64 0)), (.p (.bool false)), (.p (.int .i64 0)), (.p (.str [])), (.p .nilslice), (.p .nilslice), (.p .nilslice), (.p (.int .i64 0))] false) h 4 fun x4 h =>
 vload true 6 x3 h fun x5 h =>
 vfaddr 0 x2 h fun x6 h =>
 vstore 6 x6 x5 h fun _ h =>
 vload true 8 x2 h fun x7 h =>
 vstore 8 x4 x7 h fun _ h =>
 vcell true 8 x4 h fun c0 => vfin false q [c0] h
theorem e199_0 (O : Oracle) (R : Jump) (q : Nat) (x0 x1 : TVal) (h : Heap) : b199_0 O R q x0 x1 h = stepF c199 O R q 0 [x0, x1] h := by kernel_rfl
noncomputable def d199 : BlkF := fun O R q => [.s fun y0 => .s fun y1 => .z fun h => b199_0 O R q y0 y1 h]
theorem o199 (O : Oracle) (R : Jump) (q : Nat) : HoldsAll c199 O R q 0 (d199 O R q) := ⟨fun y0 y1 h => e199_0 O R q y0 y1 h, trivial⟩
/- (*sprue/interp.run).each -/
def c200 : MFunc := { np := 4, res := [.t 8], frz := true, body := (.seq (.reg [(oA 5 (.box (.t 1) true)), (oA 6 (.box (.t 2) true)), (oA 7 (.box (.t 3) true)), (oA 8 (.mv (.k (.v (.c (.p (.int .i64 0)))))))] []) (.seq (.seq (.reg [(oA 13 (.faddr 0 (.t 7))), (oA 14 (.load false 1 (.t 13)))] []) (.block 0 (.seq (.seq (.reg [(oA 16 (.bin .eql 0 (.t 14) (.k (.v (.c (.p (.int .i64 4))))))), (oA 15 (.mv (.t 16)))] []) (.cond (.t 15) .skip (.reg [(oA 17 (.bin .eql 0 (.t 14) (.k (.v (.c (.p (.int .i64 5))))))), (oA 15 (.mv (.t 17)))] []))) (.mark 1 [0, 5, 6, 7, 15] (.cond (.t 15) (.seq (.reg [(oA 18 (.faddr 5 (.t 7))), (oA 19 (.load false 1 (.t 18))), (oA 20 (.len 2 (.t 19))), (oA 21 (.bin .eql 0 (.t 20) (.k (.v (.c (.p (.int .i64 0)))))))] []) (.cond (.t 21) (.seq (.reg [(oA 22 (.mv (.t 0))), (oA 23 (.load true 8 (.t 5))), (oA 24 (.faddr 6 (.t 6))), (oA 25 (.load false 1 (.t 24))), (oA 26 (.call (.k (.v (.c (.func 68 [])))) [(.t 22), (.t 23), (.t 25)])), (oA 8 (.mv (.t 26)))] []) .ret) .skip)) (.seq (.reg [(oA 8 (.mv (.k (.v (.c (.p (.int .i64 17)))))))] []) .ret)))))) (.seq (.seq (.reg [(oA 27 (.faddr 5 (.t 7))), (oA 28 (.load false 1 (.t 27))), (oA 29 (.len 2 (.t 28))), (oA 30 (.mv (.k (.v (.c (.p (.int .i64 0)))))))] []) (.block 1 (.loop 2 [0, 5, 6, 28, 29, 30] (.seq (.reg [(oA 31 (.bin .lss 0 (.t 30) (.t 29)))] []) (.seq (.cond (.t 31) .skip (.exit 1)) (.seq (.block 2 (.seq (.reg [(oA 32 (.iaddr 6 (.t 28) (.t 30))), (oA 33 (.load true 6 (.t 32))), (oA 10 (.alloc [(.p (.int .i64 0)), (.p (.bool false)), (.p (.int .i64 0)), (.p (.str [])), (.p .nilslice), (.p .nilslice)] true)), (oN (.store 6 (.t 10) (.t 33)))] []) (.seq (.seq (.reg [(oA 34 (.mv (.t 0))), (oA 35 (.call (.k (.v (.c (.func 134 [])))) [(.t 34)])), (oA 11 (.mv (.t 35)))] []) (.seq (.reg [(oA 36 (.mv (.t 11))), (oA 37 (.bin .neq 0 (.t 36) (.k (.v (.c (.p (.int .i64 0)))))))] []) (.cond (.t 37) (.seq (.reg [(oA 38 (.mv (.t 11))), (oA 8 (.mv (.t 38)))] []) .ret) .skip))) (.seq (.reg [(oA 39 (.mv (.t 0))), (oA 40 (.load true 8 (.t 5))), (oA 41 (.load true 6 (.t 10))), (oA 42 (.call (.k (.v (.c (.func 199 [])))) [(.t 40), (.t 41)])), (oA 43 (.faddr 5 (.t 6))), (oA 44 (.load false 1 (.t 43))), (oA 45 (.call (.k (.v (.c (.func 68 [])))) [(.t 39), (.t 42), (.t 44)])), (oA 12 (.mv (.t 45)))] [(3, 5)]) (.seq (.reg [(oA 46 (.mv (.t 12))), (oA 47 (.bin .neq 0 (.t 46) (.k (.v (.c (.p (.int .i64 0)))))))] []) (.cond (.t 47) (.seq (.reg [(oA 48 (.mv (.t 12))), (oA 8 (.mv (.t 48)))] []) .ret) .skip)))))) (.reg [(oA 49 (.bin .add 0 (.t 30) (.k (.v (.c (.p (.int .i64 1))))))), (oA 30 (.mv (.t 49)))] []))))))) (.seq (.reg [(oA 8 (.mv (.k (.v (.c (.p (.int .i64 0)))))))] []) .ret)))) }
theorem t200 : compF Tryz.prog (globs2 tabs opq) (fun _ => true) true Tryz.f200 = some c200.erase := by kernel_rfl
noncomputable def b200_0 (O : Oracle) (R : Jump) (q : Nat) (x0 x1 x2 x3 : TVal) (h : Heap) : Res1 :=
 vop O (.box (.k x1) true) h 5 fun x5 h =>
 vop O (.box (.k x2) true) h 6 fun x6 h =>
 vop O (.box (.k x3) true) h 7 fun x7 h =>
 vfaddr 0 x7 h fun x13 h =>
 vload false 1 x13 h fun x14 h =>
 vbin .eql 0 x14 (kI 4) h fun x16 h =>
 vif x16 (
 R 1 [x0, x5, x6, x7, x16] h)
 (vbin .eql 0 x14 (kI 5) h fun x17 h =>
 R 1 [x0, x5, x6, x7, x17] h)
theorem e200_0 (O : Oracle) (R : Jump) (q : Nat) (x0 x1 x2 x3 : TVal) (h : Heap) : b200_0 O R q x0 x1 x2 x3 h = stepF c200 O R q 0 [x0, x1, x2, x3] h := by kernel_rfl
noncomputable def b200_1 (O : Oracle) (R : Jump) (q : Nat) (x0 x5 x6 x7 x15 : TVal) (h : Heap) : Res1 :=
 vif x15 (
 vfaddr 5 x7 h fun x18 h =>
 vload false 1 x18 h fun x19 h =>
 vlen O 2 x19 h 20 fun x20 h =>
 vbin .eql 0 x20 (kI 0) h fun x21 h =>
 vif x21 (
 vload true 8 x5 h fun x23 h =>
 vfaddr 6 x6 h fun x24 h =>
 vload false 1 x24 h fun x25 h =>
 vcall O (.v (.c (.func 68 []))) [x0, x23, x25] h 26 fun x26 h =>
 tcomp x26 fun c0 => vfin true q [c0] h)
 (vfaddr 5 x7 h fun x27 h =>
 vload false 1 x27 h fun x28 h =>
 vlen O 2 x28 h 29 fun x29 h =>
 R 2 [x0, x5, x6, x28, x29, (kI 0)] h))
 (tcomp (kI 17) fun c0 => vfin true q [c0] h)
theorem e200_1 (O : Oracle) (R : Jump) (q : Nat) (x0 x5 x6 x7 x15 : TVal) (h : Heap) : b200_1 O R q x0 x5 x6 x7 x15 h = stepF c200 O R q 1 [x0, x5, x6, x7, x15] h := by kernel_rfl
noncomputable def b200_2 (O : Oracle) (R : Jump) (q : Nat) (x0 x5 x6 x28 x29 x30 : TVal) (h : Heap) : Res1 :=
 vbin .lss 0 x30 x29 h fun x31 h =>
 vif x31 (
 viaddr 6 x28 x30 h fun x32 h =>
 vload true 6 x32 h fun x33 h =>
 vop O (.alloc [(.p (.int .i64 0)), (.p (.bool false)), (.p (.int .i64 0)), (.p (.str [])), (.p .nilslice), (.p .nilslice)] true) h 10 fun x10 h =>
 vstore 6 x10 x33 h fun _ h =>
 vcall O (.v (.c (.func 134 []))) [x0] h 35 fun x35 h =>
 vbin .neq 0 x35 (kI 0) h fun x37 h =>
 vif x37 (
 tcomp x35 fun c0 => vfin true q [c0] h)
 (vtouch O (.mv (.k x0)) h 39 fun x39 h t0 =>
 vtouch O (.load true 8 (.k x5)) h 40 fun x40 h t1 =>
 vtouch O (.load true 6 (.k x10)) h 41 fun x41 h t2 =>
 vtouch O (.call (.k (.v (.c (.func 199 [])))) [(.k x40), (.k x41)]) h 42 fun x42 h t3 =>
 vtouch O (.faddr 5 (.k x6)) h 43 fun x43 h t4 =>
 vtouch O (.load false 1 (.k x43)) h 44 fun x44 h t5 =>
 vtouch O (.call (.k (.v (.c (.func 68 [])))) [(.k x39), (.k x42), (.k x44)]) h 45 fun x45 h t6 =>
 vtouch O (.mv (.k x45)) h 12 fun x12 h t7 =>
 bif apartAll [t0, t1, t2, t3, t4, t5, t6, t7] [(3, 5)] then
 vbin .neq 0 x12 (kI 0) h fun x47 h =>
 vif x47 (
 tcomp x12 fun c0 => vfin true q [c0] h)
 (vbin .add 0 x30 (kI 1) h fun x49 h =>
 R 2 [x0, x5, x6, x28, x29, x49] h)
 else none))
 (tcomp (kI 0) fun c0 => vfin true q [c0] h)
theorem e200_2 (O : Oracle) (R : Jump) (q : Nat) (x0 x5 x6 x28 x29 x30 : TVal) (h : Heap) : b200_2 O R q x0 x5 x6 x28 x29 x30 h = stepF c200 O R q 2 [x0, x5, x6, x28, x29, x30] h := by kernel_rfl
noncomputable def d200 : BlkF := fun O R q => [.s fun y0 => .s fun y1 => .s fun y2 => .s fun y3 => .z fun h => b200_0 O R q y0 y1 y2 y3 h, .s fun y0 => .s fun y1 => .s fun y2 => .s fun y3 => .s fun y4 => .z fun h => b200_1 O R q y0 y1 y2 y3 y4 h, .s fun y0 => .s fun y1 => .s fun y2 => .s fun y3 => .s fun y4 => .s fun y5 => .z fun h => b200_2 O R q y0 y1 y2 y3 y4 y5 h]
theorem o200 (O : Oracle) (R : Jump) (q : Nat) : HoldsAll c200 O R q 0 (d200 O R q) := ⟨fun y0 y1 y2 y3 h => e200_0 O R q y0 y1 y2 y3 h, fun y0 y1 y2 y3 y4 h => e200_1 O R q y0 y1 y2 y3 y4 h, fun y0 y1 y2 y3 y4 y5 h => e200_2 O R q y0 y1 y2 y3 y4 y5 h, trivial⟩
/- (*sprue/interp.run).match -/
def c201 : MFunc := { np := 4, res := [.t 8], frz := true, body := (.seq (.reg [(oA 5 (.box (.t 1) true)), (oA 6 (.box (.t 2) true)), (oA 7 (.box (.t 3) true)), (oA 8 (.mv (.k (.v (.c (.p (.int .i64 0)))))))] []) (.seq (.seq (.reg [(oA 11 (.faddr 0 (.t 7))), (oA 12 (.load false 1 (.t 11))), (oA 13 (.bin .neq 0 (.t 12) (.k (.v (.c (.p (.int .i64 5))))))), (oA 14 (.mv (.t 13))), ⟨(some 15), (.faddr 4 (.t 7)), (some (14, false))⟩, ⟨(some 16), (.load false 1 (.t 15)), (some (14, false))⟩, ⟨(some 17), (.len 2 (.t 16)), (some (14, false))⟩, ⟨(some 18), (.bin .neq 0 (.t 17) (.k (.v (.c (.p (.int .i64 1)))))), (some (14, false))⟩, (oA 19 (.pick (.t 14) (.k (.v (.c (.p (.bool true))))) (.t 18))), (oA 20 (.mv (.t 19))), ⟨(some 21), (.faddr 5 (.t 7)), (some (20, false))⟩, ⟨(some 22), (.load false 1 (.t 21)), (some (20, false))⟩, ⟨(some 23), (.len 2 (.t 22)), (some (20, false))⟩, ⟨(some 24), (.bin .neq 0 (.t 23) (.k (.v (.c (.p (.int .i64 1)))))), (some (20, false))⟩, (oA 25 (.pick (.t 20) (.k (.v (.c (.p (.bool true))))) (.t 24)))] []) (.cond (.t 25) (.seq (.reg [(oA 8 (.mv (.k (.v (.c (.p (.int .i64 17)))))))] []) .ret) .skip)) (.seq (.seq (.reg [(oA 26 (.faddr 8 (.t 6))), (oA 27 (.load false 1 (.t 26))), (oA 28 (.len 2 (.t 27))), (oA 29 (.mv (.k (.v (.c (.p (.int .i64 0)))))))] []) (.block 0 (.loop 1 [0, 5, 6, 7, 27, 28, 29] (.seq (.reg [(oA 30 (.bin .lss 0 (.t 29) (.t 28)))] []) (.seq (.cond (.t 30) .skip (.exit 0)) (.seq (.block 1 (.seq (.reg [(oA 31 (.iaddr 2 (.t 27) (.t 29))), (oA 32 (.load true 2 (.t 31))), (oA 10 (.alloc [(.p (.str [])), (.p .nilslice)] true)), (oN (.store 2 (.t 10) (.t 32)))] []) (.seq (.reg [(oA 33 (.faddr 0 (.t 10))), (oA 34 (.load false 1 (.t 33))), (oA 35 (.faddr 4 (.t 7))), (oA 36 (.load false 1 (.t 35))), (oA 37 (.iaddr 1 (.t 36) (.k (.v (.c (.p (.int .i64 0))))))), (oA 38 (.load false 1 (.t 37))), (oA 39 (.bin .eql 0 (.t 34) (.t 38)))] []) (.cond (.t 39) (.seq (.reg [(oA 40 (.mv (.t 0))), (oA 41 (.load true 8 (.t 5))), (oA 42 (.faddr 5 (.t 7))), (oA 43 (.load false 1 (.t 42))), (oA 44 (.iaddr 6 (.t 43) (.k (.v (.c (.p (.int .i64 0))))))), (oA 45 (.load true 6 (.t 44))), (oA 46 (.call (.k (.v (.c (.func 199 [])))) [(.t 41), (.t 45)])), (oA 47 (.faddr 1 (.t 10))), (oA 48 (.load false 1 (.t 47))), (oA 49 (.call (.k (.v (.c (.func 68 [])))) [(.t 40), (.t 46), (.t 48)])), (oA 8 (.mv (.t 49)))] [(6, 8)]) .ret) .skip)))) (.reg [(oA 50 (.bin .add 0 (.t 29) (.k (.v (.c (.p (.int .i64 1))))))), (oA 29 (.mv (.t 50)))] []))))))) (.mark 2 [0, 5, 6] (.seq (.seq (.reg [(oA 51 (.faddr 7 (.t 6))), (oA 52 (.load false 1 (.t 51)))] []) (.cond (.t 52) (.seq (.reg [(oA 53 (.mv (.t 0))), (oA 54 (.load true 8 (.t 5))), (oA 55 (.faddr 6 (.t 6))), (oA 56 (.load false 1 (.t 55))), (oA 57 (.call (.k (.v (.c (.func 68 [])))) [(.t 53), (.t 54), (.t 56)])), (oA 8 (.mv (.t 57)))] []) .ret) .skip)) (.seq (.reg [(oA 8 (.mv (.k (.v (.c (.p (.int .i64 19)))))))] []) .ret)))))) }
theorem t201 : compF Tryz.prog (globs2 tabs opq) (fun _ => true) true Tryz.f201 = some c201.erase := by kernel_rfl
noncomputable def b201_0 (O : Oracle) (R : Jump) (q : Nat) (x0 x1 x2 x3 : TVal) (h : Heap) : Res1 :=
 vop O (.box (.k x1) true) h 5 fun x5 h =>
 vop O (.box (.k x2) true) h 6 fun x6 h =>
 vop O (.box (.k x3) true) h 7 fun x7 h =>
 vfaddr 0 x7 h fun x11 h =>
 vload false 1 x11 h fun x12 h =>
 vbin .neq 0 x12 (kI 5) h fun x13 h =>
 vguard x13 false (fun kk => vfaddr 4 x7 h kk) h fun x15 h =>
 vguard x13 false (fun kk => vload false 1 x15 h kk) h fun x16 h =>
 vguard x13 false (fun kk => vlen O 2 x16 h 17 kk) h fun x17 h =>
 vguard x13 false (fun kk => vbin .neq 0 x17 (kI 1) h kk) h fun x18 h =>
 vop O (.pick (.k x13) (.k (kB true)) (.k x18)) h 19 fun x19 h =>
 vguard x19 false (fun kk => vfaddr 5 x7 h kk) h fun x21 h =>
 vguard x19 false (fun kk => vload false 1 x21 h kk) h fun x22 h =>
 vguard x19 false (fun kk => vlen O 2 x22 h 23 kk) h fun x23 h =>
 vguard x19 false (fun kk => vbin .neq 0 x23 (kI 1) h kk) h fun x24 h =>
 vop O (.pick (.k x19) (.k (kB true)) (.k x24)) h 25 fun x25 h =>
 vif x25 (
 tcomp (kI 17) fun c0 => vfin true q [c0] h)
 (vfaddr 8 x6 h fun x26 h =>
 vload false 1 x26 h fun x27 h =>
 vlen O 2 x27 h 28 fun x28 h =>
 R 1 [x0, x5, x6, x7, x27, x28, (kI 0)] h)
theorem e201_0 (O : Oracle) (R : Jump) (q : Nat) (x0 x1 x2 x3 : TVal) (h : Heap) : b201_0 O R q x0 x1 x2 x3 h = stepF c201 O R q 0 [x0, x1, x2, x3] h := by kernel_rfl
noncomputable def b201_1 (O : Oracle) (R : Jump) (q : Nat) (x0 x5 x6 x7 x27 x28 x29 : TVal) (h : Heap) : Res1 :=
 vbin .lss 0 x29 x28 h fun x30 h =>
 vif x30 (
 viaddr 2 x27 x29 h fun x31 h =>
 vload true 2 x31 h fun x32 h =>
 vop O (.alloc [(.p (.str [])), (.p .nilslice)] true) h 10 fun x10 h =>
 vstore 2 x10 x32 h fun _ h =>
 vfaddr 0 x10 h fun x33 h =>
 vload false 1 x33 h fun x34 h =>
 vfaddr 4 x7 h fun x35 h =>
 vload false 1 x35 h fun x36 h =>
 viaddr 1 x36 (kI 0) h fun x37 h =>
 vload false 1 x37 h fun x38 h =>
 vbin .eql 0 x34 x38 h fun x39 h =>
 vif x39 (
 vtouch O (.mv (.k x0)) h 40 fun x40 h t0 =>
 vtouch O (.load true 8 (.k x5)) h 41 fun x41 h t1 =>
 vtouch O (.faddr 5 (.k x7)) h 42 fun x42 h t2 =>
 vtouch O (.load false 1 (.k x42)) h 43 fun x43 h t3 =>
 vtouch O (.iaddr 6 (.k x43) (.k (kI 0))) h 44 fun x44 h t4 =>
 vtouch O (.load true 6 (.k x44)) h 45 fun x45 h t5 =>
 vtouch O (.call (.k (.v (.c (.func 199 [])))) [(.k x41), (.k x45)]) h 46 fun x46 h t6 =>
 vtouch O (.faddr 1 (.k x10)) h 47 fun x47 h t7 =>
 vtouch O (.load false 1 (.k x47)) h 48 fun x48 h t8 =>
 vtouch O (.call (.k (.v (.c (.func 68 [])))) [(.k x40), (.k x46), (.k x48)]) h 49 fun x49 h t9 =>
 vtouch O (.mv (.k x49)) h 8 fun x8 h t10 =>
 bif apartAll [t0, t1, t2, t3, t4, t5, t6, t7, t8, t9, t10] [(6, 8)] then
 tcomp x8 fun c0 => vfin true q [c0] h
 else none)
 (vbin .add 0 x29 (kI 1) h fun x50 h =>
 R 1 [x0, x5, x6, x7, x27, x28, x50] h))
 (R 2 [x0, x5, x6] h)
theorem e201_1 (O : Oracle) (R : Jump) (q : Nat) (x0 x5 x6 x7 x27 x28 x29 : TVal) (h : Heap) : b201_1 O R q x0 x5 x6 x7 x27 x28 x29 h = stepF c201 O R q 1 [x0, x5, x6, x7, x27, x28, x29] h := by kernel_rfl
noncomputable def b201_2 (O : Oracle) (R : Jump) (q : Nat) (x0 x5 x6 : TVal) (h : Heap) : Res1 :=
 vfaddr 7 x6 h fun x51 h =>
 vload false 1 x51 h fun x52 h =>
 vif x52 (
 vload true 8 x5 h fun x54 h =>
 vfaddr 6 x6 h fun x55 h =>
 vload false 1 x55 h fun x56 h =>
 vcall O (.v (.c (.func 68 []))) [x0, x54, x56] h 57 fun x57 h =>
 tcomp x57 fun c0 => vfin true q [c0] h)
 (tcomp (kI 19) fun c0 => vfin true q [c0] h)
theorem e201_2 (O : Oracle) (R : Jump) (q : Nat) (x0 x5 x6 : TVal) (h : Heap) : b201_2 O R q x0 x5 x6 h = stepF c201 O R q 2 [x0, x5, x6] h := by kernel_rfl
noncomputable def d201 : BlkF := fun O R q => [.s fun y0 => .s fun y1 => .s fun y2 => .s fun y3 => .z fun h => b201_0 O R q y0 y1 y2 y3 h, .s fun y0 => .s fun y1 => .s fun y2 => .s fun y3 => .s fun y4 => .s fun y5 => .s fun y6 => .z fun h => b201_1 O R q y0 y1 y2 y3 y4 y5 y6 h, .s fun y0 => .s fun y1 => .s fun y2 => .z fun h => b201_2 O R q y0 y1 y2 h]
theorem o201 (O : Oracle) (R : Jump) (q : Nat) : HoldsAll c201 O R q 0 (d201 O R q) := ⟨fun y0 y1 y2 y3 h => e201_0 O R q y0 y1 y2 y3 h, fun y0 y1 y2 y3 y4 y5 y6 h => e201_1 O R q y0 y1 y2 y3 y4 y5 y6 h, fun y0 y1 y2 h => e201_2 O R q y0 y1 y2 h, trivial⟩
/- (*sprue/interp.run).template -/
def c202 : MFunc := { np := 4, res := [.t 8], frz := true, body := (.seq (.reg [(oA 5 (.box (.t 1) true)), (oA 6 (.box (.t 2) true)), (oA 7 (.box (.t 3) true)), (oA 8 (.mv (.k (.v (.c (.p (.int .i64 0)))))))] []) (.seq (.reg [(oA 10 (.mv (.t 0))), (oA 11 (.nilck (.t 10))), (oA 12 (.faddr 3 (.t 11))), (oA 13 (.load false 1 (.t 12))), (oA 14 (.mkfn 252 [(.t 6)])), (oA 15 (.call (.k (.v (.c (.func 251 [])))) [(.t 13), (.t 14)])), (oA 9 (.mv (.t 15)))] []) (.seq (.block 0 (.seq (.reg [(oA 17 (.mv (.t 9))), (oA 18 (.bin .lss 0 (.t 17) (.k (.v (.c (.p (.int .i64 0))))))), (oA 19 (.mv (.t 18))), ⟨(some 20), (.load false 1 (.t 6)), (some (19, false))⟩, ⟨(some 21), (.bin .eql 0 (.t 20) (.k (.v (.c (.p (.str [])))))), (some (19, false))⟩, (oA 22 (.pick (.t 19) (.k (.v (.c (.p (.bool true))))) (.t 21))), (oA 16 (.mv (.t 22)))] []) (.cond (.t 16) (.seq (.reg [(oA 8 (.mv (.k (.v (.c (.p (.int .i64 15)))))))] []) .ret) (.seq (.reg [(oA 24 (.faddr 7 (.t 5))), (oA 25 (.load false 1 (.t 24))), (oA 26 (.mv (.t 0))), (oA 27 (.nilck (.t 26))), (oA 28 (.faddr 0 (.t 27))), (oA 29 (.faddr 1 (.t 28))), (oA 30 (.load false 1 (.t 29))), (oA 31 (.bin .geq 0 (.t 25) (.t 30))), (oA 23 (.mv (.t 31)))] []) (.cond (.t 23) (.seq (.reg [(oA 8 (.mv (.k (.v (.c (.p (.int .i64 35)))))))] []) .ret) .skip))))) (.seq (.reg [(oA 32 (.mv (.t 0))), (oA 33 (.load true 6 (.t 7))), (oA 34 (.faddr 7 (.t 5))), (oA 35 (.load false 1 (.t 34))), (oA 36 (.bin .add 0 (.t 35) (.k (.v (.c (.p (.int .i64 1))))))), (oA 37 (.build [(.p (.int .i64 0)), (.p (.bool false)), (.p (.int .i64 0)), (.p (.str [])), (.p .nilslice), (.p .nilslice), (.p .nilslice), (.p (.int .i64 0))] [(0, 6, (.t 33)), (7, 1, (.t 36))])), (oA 38 (.mv (.t 0))), (oA 39 (.nilck (.t 38))), (oA 40 (.faddr 3 (.t 39))), (oA 41 (.load false 1 (.t 40))), (oA 42 (.mv (.t 9))), (oA 43 (.iaddr 2 (.t 41) (.t 42))), (oA 44 (.faddr 1 (.t 43))), (oA 45 (.load false 1 (.t 44))), (oA 46 (.call (.k (.v (.c (.func 68 [])))) [(.t 32), (.t 37), (.t 45)])), (oA 8 (.mv (.t 46)))] []) .ret)))) }
theorem t202 : compF Tryz.prog (globs2 tabs opq) (fun _ => true) true Tryz.f202 = some c202.erase := by kernel_rfl
noncomputable def b202_0 (O : Oracle) (R : Jump) (q : Nat) (x0 x1 x2 x3 : TVal) (h : Heap) : Res1 :=
 vop O (.box (.k x1) true) h 5 fun x5 h =>
 vop O (.box (.k x2) true) h 6 fun x6 h =>
 vop O (.box (.k x3) true) h 7 fun x7 h =>
 vop O (.nilck (.k x0)) h 11 fun x11 h =>
 vfaddr 3 x11 h fun x12 h =>
 vload false 1 x12 h fun x13 h =>
 vop O (.mkfn 252 [(.k x6)]) h 14 fun x14 h =>
 vcall O (.v (.c (.func 251 []))) [x13, x14] h 15 fun x15 h =>
 vbin .lss 0 x15 (kI 0) h fun x18 h =>
 vguard x18 false (fun kk => vload false 1 x6 h kk) h fun x20 h =>
 vguard x18 false (fun kk => vbin .eql 0 x20 (kS []) h kk) h fun x21 h =>
 vop O (.pick (.k x18) (.k (kB true)) (.k x21)) h 22 fun x22 h =>
 vif x22 (
 tcomp (kI 15) fun c0 => vfin true q [c0] h)
 (vfaddr 7 x5 h fun x24 h =>
 vload false 1 x24 h fun x25 h =>
 vop O (.nilck (.k x0)) h 27 fun x27 h =>
 vfaddr 0 x27 h fun x28 h =>
 vfaddr 1 x28 h fun x29 h =>
 vload false 1 x29 h fun x30 h =>
 vbin .geq 0 x25 x30 h fun x31 h =>
 vif x31 (
 tcomp (kI 35) fun c0 => vfin true q [c0] h)
 (vload true 6 x7 h fun x33 h =>
 vfaddr 7 x5 h fun x34 h =>
 vload false 1 x34 h fun x35 h =>
 vbin .add 0 x35 (kI 1) h fun x36 h =>
 vop O (.build [(.p (.int .i64 0)), (.p (.bool false)), (.p (.int .i64 0)), (.p (.str [])), (.p .nilslice), (.p .nilslice), (.p .nilslice), (.p (.int .i64 0))] [(0, 6, (.k x33)), (7, 1, (.k x36))]) h 37 fun x37 h =>
 vop O (.nilck (.k x0)) h 39 fun x39 h =>
 vfaddr 3 x39 h fun x40 h =>
 vload false 1 x40 h fun x41 h =>
 viaddr 2 x41 x15 h fun x43 h =>
 vfaddr 1 x43 h fun x44 h =>
 vload false 1 x44 h fun x45 h =>
 vcall O (.v (.c (.func 68 []))) [x0, x37, x45] h 46 fun x46 h =>
 tcomp x46 fun c0 => vfin true q [c0] h))
theorem e202_0 (O : Oracle) (R : Jump) (q : Nat) (x0 x1 x2 x3 : TVal) (h : Heap) : b202_0 O R q x0 x1 x2 x3 h = stepF c202 O R q 0 [x0, x1, x2, x3] h := by kernel_rfl
noncomputable def d202 : BlkF := fun O R q => [.s fun y0 => .s fun y1 => .s fun y2 => .s fun y3 => .z fun h => b202_0 O R q y0 y1 y2 y3 h]
theorem o202 (O : Oracle) (R : Jump) (q : Nat) : HoldsAll c202 O R q 0 (d202 O R q) := ⟨fun y0 y1 y2 y3 h => e202_0 O R q y0 y1 y2 y3 h, trivial⟩
/- (*sprue/sprueref13.reader).word -/
def c203 : MFunc := { np := 1, res := [.cell 2 true 6, .t 3], frz := true, body := (.seq (.reg [(oA 2 (.alloc [(.p (.int .i64 0)), (.p (.bool false)), (.p (.int .i64 0)), (.p (.str [])), (.p .nilslice), (.p .nilslice)] false)), (oA 3 (.mv (.k (.v (.c (.p (.bool false)))))))] []) (.seq (.reg [(oA 7 (.bslice 1 3 [(.p (.str []))] [(0, (.k (.v (.c (.p (.str [110, 117, 108, 108])))))), (1, (.k (.v (.c (.p (.str [102, 97, 108, 115, 101])))))), (2, (.k (.v (.c (.p (.str [116, 114, 117, 101]))))))] false)), (oA 4 (.mv (.t 7)))] []) (.seq (.seq (.reg [(oA 5 (.mv (.k (.v (.c (.p (.int .i64 0)))))))] []) (.block 0 (.loop 1 [0, 2, 4, 5] (.seq (.seq (.reg [(oA 8 (.mv (.t 5))), (oA 9 (.bin .lss 0 (.t 8) (.k (.v (.c (.p (.int .i64 3)))))))] []) (.cond (.t 9) .skip (.exit 0))) (.seq (.block 1 (.seq (.reg [(oA 12 (.mv (.t 4))), (oA 13 (.mv (.t 5))), (oA 14 (.iaddr 1 (.t 12) (.t 13))), (oA 15 (.load false 1 (.t 14))), (oA 6 (.mv (.t 15)))] []) (.seq (.reg [(oA 16 (.mv (.t 0))), (oA 17 (.nilck (.t 16))), (oA 18 (.faddr 1 (.t 17))), (oA 19 (.load false 1 (.t 18))), (oA 20 (.mv (.t 6))), (oA 21 (.len 0 (.t 20))), (oA 22 (.bin .add 0 (.t 19) (.t 21))), (oA 23 (.mv (.t 0))), (oA 24 (.nilck (.t 23))), (oA 25 (.faddr 0 (.t 24))), (oA 26 (.load false 1 (.t 25))), (oA 27 (.len 0 (.t 26))), (oA 28 (.bin .leq 0 (.t 22) (.t 27))), (oA 29 (.mv (.t 28))), ⟨(some 30), (.mv (.t 0)), (some (29, true))⟩, ⟨(some 31), (.nilck (.t 30)), (some (29, true))⟩, ⟨(some 32), (.faddr 0 (.t 31)), (some (29, true))⟩, ⟨(some 33), (.load false 1 (.t 32)), (some (29, true))⟩, ⟨(some 34), (.mv (.t 0)), (some (29, true))⟩, ⟨(some 35), (.nilck (.t 34)), (some (29, true))⟩, ⟨(some 36), (.faddr 1 (.t 35)), (some (29, true))⟩, ⟨(some 37), (.load false 1 (.t 36)), (some (29, true))⟩, ⟨(some 38), (.mv (.t 0)), (some (29, true))⟩, ⟨(some 39), (.nilck (.t 38)), (some (29, true))⟩, ⟨(some 40), (.faddr 1 (.t 39)), (some (29, true))⟩, ⟨(some 41), (.load false 1 (.t 40)), (some (29, true))⟩, ⟨(some 42), (.mv (.t 6)), (some (29, true))⟩, ⟨(some 43), (.len 0 (.t 42)), (some (29, true))⟩, ⟨(some 44), (.bin .add 0 (.t 41) (.t 43)), (some (29, true))⟩, ⟨(some 45), (.slice 0 true (.t 33) (some (.t 37)) (some (.t 44)) none), (some (29, true))⟩, ⟨(some 46), (.mv (.t 6)), (some (29, true))⟩, ⟨(some 47), (.bin .eql 0 (.t 45) (.t 46)), (some (29, true))⟩, (oA 48 (.pick (.t 29) (.t 47) (.k (.v (.c (.p (.bool false)))))))] []) (.cond (.t 48) (.seq (.reg [(oA 49 (.mv (.t 0))), (oA 50 (.mv (.t 0))), (oA 51 (.nilck (.t 50))), (oA 52 (.faddr 1 (.t 51))), (oA 53 (.load false 1 (.t 52))), (oA 54 (.mv (.t 6))), (oA 55 (.len 0 (.t 54))), (oA 56 (.bin .add 0 (.t 53) (.t 55))), (oA 57 (.nilck (.t 49))), (oA 58 (.faddr 1 (.t 57))), (oN (.store 1 (.t 58) (.t 56)))] []) (.seq (.seq (.reg [(oA 59 (.mv (.t 5))), (oA 60 (.bin .eql 0 (.t 59) (.k (.v (.c (.p (.int .i64 0)))))))] []) (.cond (.t 60) (.seq (.reg [(oA 61 (.build [(.p (.int .i64 0)), (.p (.bool false)), (.p (.int .i64 0)), (.p (.str [])), (.p .nilslice), (.p .nilslice)] [])), (oN (.store 6 (.t 2) (.t 61))), (oA 3 (.mv (.k (.v (.c (.p (.bool true)))))))] []) .ret) .skip)) (.seq (.reg [(oA 62 (.mv (.t 5))), (oA 63 (.bin .eql 0 (.t 62) (.k (.v (.c (.p (.int .i64 2))))))), (oA 64 (.build [(.p (.int .i64 0)), (.p (.bool false)), (.p (.int .i64 0)), (.p (.str [])), (.p .nilslice), (.p .nilslice)] [(0, 1, (.k (.v (.c (.p (.int .i64 1)))))), (1, 1, (.t 63))])), (oN (.store 6 (.t 2) (.t 64))), (oA 3 (.mv (.k (.v (.c (.p (.bool true)))))))] []) .ret))) .skip)))) (.reg [(oA 10 (.mv (.t 5))), (oA 11 (.bin .add 0 (.t 10) (.k (.v (.c (.p (.int .i64 1))))))), (oA 5 (.mv (.t 11)))] [])))))) (.mark 2 [2] (.seq (.reg [(oA 65 (.build [(.p (.int .i64 0)), (.p (.bool false)), (.p (.int .i64 0)), (.p (.str [])), (.p .nilslice), (.p .nilslice)] [])), (oN (.store 6 (.t 2) (.t 65))), (oA 3 (.mv (.k (.v (.c (.p (.bool false)))))))] []) .ret))))) }
theorem t203 : compF Tryz.prog (globs2 tabs opq) (fun _ => false) true Tryz.f203 = some c203.erase := by kernel_rfl
noncomputable def b203_0 (O : Oracle) (R : Jump) (q : Nat) (x0 : TVal) (h : Heap) : Res1 :=
 vop O (.alloc [(.p (.int .i64 0)), (.p (.bool false)), (.p (.int .i64 0)), (.p (.str [])), (.p .nilslice), (.p .nilslice)] false) h 2 fun x2 h =>
 vop O (.bslice 1 3 [(.p (.str []))] [(0, (.k (kS [110, 117, 108, 108]))), (1, (.k (kS [102, 97, 108, 115, 101]))), (2, (.k (kS [116, 114, 117, 101])))] false) h 7 fun x7 h =>
 R 1 [x0, x2, x7, (kI 0)] h
theorem e203_0 (O : Oracle) (R : Jump) (q : Nat) (x0 : TVal) (h : Heap) : b203_0 O R q x0 h = stepF c203 O R q 0 [x0] h := by kernel_rfl
noncomputable def b203_1 (O : Oracle) (R : Jump) (q : Nat) (x0 x2 x4 x5 : TVal) (h : Heap) : Res1 :=
 vbin .lss 0 x5 (kI 3) h fun x9 h =>
 vif x9 (
 viaddr 1 x4 x5 h fun x14 h =>
 vload false 1 x14 h fun x15 h =>
 vop O (.nilck (.k x0)) h 17 fun x17 h =>
 vfaddr 1 x17 h fun x18 h =>
 vload false 1 x18 h fun x19 h =>
 vlen O 0 x15 h 21 fun x21 h =>
 vbin .add 0 x19 x21 h fun x22 h =>
 vop O (.nilck (.k x0)) h 24 fun x24 h =>
 vfaddr 0 x24 h fun x25 h =>
 vload false 1 x25 h fun x26 h =>
 vlen O 0 x26 h 27 fun x27 h =>
 vbin .leq 0 x22 x27 h fun x28 h =>
 vguard x28 true (fun kk => kk x0 h) h fun x30 h =>
 vguard x28 true (fun kk => vop O (.nilck (.k x30)) h 31 kk) h fun x31 h =>
 vguard x28 true (fun kk => vfaddr 0 x31 h kk) h fun x32 h =>
 vguard x28 true (fun kk => vload false 1 x32 h kk) h fun x33 h =>
 vguard x28 true (fun kk => kk x0 h) h fun x34 h =>
 vguard x28 true (fun kk => vop O (.nilck (.k x34)) h 35 kk) h fun x35 h =>
 vguard x28 true (fun kk => vfaddr 1 x35 h kk) h fun x36 h =>
 vguard x28 true (fun kk => vload false 1 x36 h kk) h fun x37 h =>
 vguard x28 true (fun kk => kk x0 h) h fun x38 h =>
 vguard x28 true (fun kk => vop O (.nilck (.k x38)) h 39 kk) h fun x39 h =>
 vguard x28 true (fun kk => vfaddr 1 x39 h kk) h fun x40 h =>
 vguard x28 true (fun kk => vload false 1 x40 h kk) h fun x41 h =>
 vguard x28 true (fun kk => kk x15 h) h fun x42 h =>
 vguard x28 true (fun kk => vlen O 0 x42 h 43 kk) h fun x43 h =>
 vguard x28 true (fun kk => vbin .add 0 x41 x43 h kk) h fun x44 h =>
 vguard x28 true (fun kk => vop O (.slice 0 true (.k x33) (some (.k x37)) (some (.k x44)) none) h 45 kk) h fun x45 h =>
 vguard x28 true (fun kk => kk x15 h) h fun x46 h =>
 vguard x28 true (fun kk => vbin .eql 0 x45 x46 h kk) h fun x47 h =>
 vop O (.pick (.k x28) (.k x47) (.k (kB false))) h 48 fun x48 h =>
 vif x48 (
 vop O (.nilck (.k x0)) h 51 fun x51 h =>
 vfaddr 1 x51 h fun x52 h =>
 vload false 1 x52 h fun x53 h =>
 vlen O 0 x15 h 55 fun x55 h =>
 vbin .add 0 x53 x55 h fun x56 h =>
 vop O (.nilck (.k x0)) h 57 fun x57 h =>
 vfaddr 1 x57 h fun x58 h =>
 vstore 1 x58 x56 h fun _ h =>
 vbin .eql 0 x5 (kI 0) h fun x60 h =>
 vif x60 (
 vop O (.build [(.p (.int .i64 0)), (.p (.bool false)), (.p (.int .i64 0)), (.p (.str [])), (.p .nilslice), (.p .nilslice)] []) h 61 fun x61 h =>
 vstore 6 x2 x61 h fun _ h =>
 vcell true 6 x2 h fun c0 => tcomp (kB true) fun c1 => vfin true q [c0, c1] h)
 (vbin .eql 0 x5 (kI 2) h fun x63 h =>
 vop O (.build [(.p (.int .i64 0)), (.p (.bool false)), (.p (.int .i64 0)), (.p (.str [])), (.p .nilslice), (.p .nilslice)] [(0, 1, (.k (kI 1))), (1, 1, (.k x63))]) h 64 fun x64 h =>
 vstore 6 x2 x64 h fun _ h =>
 vcell true 6 x2 h fun c0 => tcomp (kB true) fun c1 => vfin true q [c0, c1] h))
 (vbin .add 0 x5 (kI 1) h fun x11 h =>
 R 1 [x0, x2, x4, x11] h))
 (R 2 [x2] h)
theorem e203_1 (O : Oracle) (R : Jump) (q : Nat) (x0 x2 x4 x5 : TVal) (h : Heap) : b203_1 O R q x0 x2 x4 x5 h = stepF c203 O R q 1 [x0, x2, x4, x5] h := by kernel_rfl
noncomputable def b203_2 (O : Oracle) (R : Jump) (q : Nat) (x2 : TVal) (h : Heap) : Res1 :=
 vop O (.build [(.p (.int .i64 0)), (.p (.bool false)), (.p (.int .i64 0)), (.p (.str [])), (.p .nilslice), (.p .nilslice)] []) h 65 fun x65 h =>
 vstore 6 x2 x65 h fun _ h =>
 vcell true 6 x2 h fun c0 => tcomp (kB false) fun c1 => vfin true q [c0, c1] h
theorem e203_2 (O : Oracle) (R : Jump) (q : Nat) (x2 : TVal) (h : Heap) : b203_2 O R q x2 h = stepF c203 O R q 2 [x2] h := by kernel_rfl
noncomputable def d203 : BlkF := fun O R q => [.s fun y0 => .z fun h => b203_0 O R q y0 h, .s fun y0 => .s fun y1 => .s fun y2 => .s fun y3 => .z fun h => b203_1 O R q y0 y1 y2 y3 h, .s fun y0 => .z fun h => b203_2 O R q y0 h]
theorem o203 (O : Oracle) (R : Jump) (q : Nat) : HoldsAll c203 O R q 0 (d203 O R q) := ⟨fun y0 h => e203_0 O R q y0 h, fun y0 y1 y2 y3 h => e203_1 O R q y0 y1 y2 y3 h, fun y0 h => e203_2 O R q y0 h, trivial⟩
/- sprue/sprueref13.digit -/
def c204 : MFunc := { np := 1, res := [.t 2], frz := true, body := (.seq (.reg [(oA 2 (.mv (.k (.v (.c (.p (.bool false)))))))] []) (.seq (.reg [(oA 3 (.mv (.t 0))), (oA 4 (.bin .geq 0 (.t 3) (.k (.v (.c (.p (.int .u8 48))))))), (oA 5 (.mv (.t 4))), ⟨(some 6), (.mv (.t 0)), (some (5, true))⟩, ⟨(some 7), (.bin .leq 0 (.t 6) (.k (.v (.c (.p (.int .u8 57)))))), (some (5, true))⟩, (oA 8 (.pick (.t 5) (.t 7) (.k (.v (.c (.p (.bool false))))))), (oA 2 (.mv (.t 8)))] []) .ret)) }
theorem t204 : compF Tryz.prog (globs2 tabs opq) (fun _ => false) true Tryz.f204 = some c204.erase := by kernel_rfl
noncomputable def b204_0 (O : Oracle) (R : Jump) (q : Nat) (x0 : TVal) (h : Heap) : Res1 :=
 vbin .geq 0 x0 (.v (.c (.p (.int .u8 48)))) h fun x4 h =>
 vguard x4 true (fun kk => kk x0 h) h fun x6 h =>
 vguard x4 true (fun kk => vbin .leq 0 x6 (.v (.c (.p (.int .u8 57)))) h kk) h fun x7 h =>
 vop O (.pick (.k x4) (.k x7) (.k (kB false))) h 8 fun x8 h =>
 tcomp x8 fun c0 => vfin true q [c0] h
theorem e204_0 (O : Oracle) (R : Jump) (q : Nat) (x0 : TVal) (h : Heap) : b204_0 O R q x0 h = stepF c204 O R q 0 [x0] h := by kernel_rfl
noncomputable def d204 : BlkF := fun O R q => [.s fun y0 => .z fun h => b204_0 O R q y0 h]
theorem o204 (O : Oracle) (R : Jump) (q : Nat) : HoldsAll c204 O R q 0 (d204 O R q) := ⟨fun y0 h => e204_0 O R q y0 h, trivial⟩
/- (*sprue/sprueref13.reader).text -/
def c205 : MFunc := { np := 1, res := [.t 2], frz := true, body := (.seq (.reg [(oA 2 (.mv (.k (.v (.c (.p (.str [])))))))] []) (.seq (.reg [(oA 6 (.mv (.t 0))), (oA 7 (.nilck (.t 6))), (oA 8 (.faddr 0 (.t 7))), (oA 9 (.load false 1 (.t 8))), (oA 10 (.mv (.t 0))), (oA 11 (.nilck (.t 10))), (oA 12 (.faddr 1 (.t 11))), (oA 13 (.load false 1 (.t 12))), (oA 14 (.call (.k (.v (.c (.func 187 [])))) [(.t 9), (.t 13)])), (oA 5 (.mv (.t 14))), (oA 15 (.extract (.t 5) 0)), (oA 16 (.extract (.t 5) 1)), (oA 3 (.mv (.t 15))), (oA 4 (.mv (.t 16)))] []) (.seq (.seq (.reg [(oA 17 (.mv (.t 4))), (oA 18 (.bin .lss 0 (.t 17) (.k (.v (.c (.p (.int .i64 0)))))))] []) (.cond (.t 18) (.seq (.reg [(oA 19 (.mv (.t 0))), (oA 20 (.call (.k (.v (.c (.func 141 [])))) [(.t 19), (.k (.v (.c (.p (.int .i64 11)))))]))] []) (.seq (.reg [(oA 2 (.mv (.k (.v (.c (.p (.str [])))))))] []) .ret)) .skip)) (.seq (.reg [(oA 21 (.mv (.t 0))), (oA 22 (.mv (.t 4))), (oA 23 (.nilck (.t 21))), (oA 24 (.faddr 1 (.t 23))), (oN (.store 1 (.t 24) (.t 22)))] []) (.seq (.reg [(oA 25 (.mv (.t 3))), (oA 2 (.mv (.t 25)))] []) .ret))))) }
theorem t205 : compF Tryz.prog (globs2 tabs opq) (fun _ => false) true Tryz.f205 = some c205.erase := by kernel_rfl
noncomputable def b205_0 (O : Oracle) (R : Jump) (q : Nat) (x0 : TVal) (h : Heap) : Res1 :=
 vop O (.nilck (.k x0)) h 7 fun x7 h =>
 vfaddr 0 x7 h fun x8 h =>
 vload false 1 x8 h fun x9 h =>
 vop O (.nilck (.k x0)) h 11 fun x11 h =>
 vfaddr 1 x11 h fun x12 h =>
 vload false 1 x12 h fun x13 h =>
 vcall O (.v (.c (.func 187 []))) [x9, x13] h 14 fun x14 h =>
 vext x14 0 h fun x15 h =>
 vext x14 1 h fun x16 h =>
 vbin .lss 0 x16 (kI 0) h fun x18 h =>
 vif x18 (
 vcall O (.v (.c (.func 141 []))) [x0, (kI 11)] h 20 fun x20 h =>
 tcomp (kS []) fun c0 => vfin true q [c0] h)
 (vop O (.nilck (.k x0)) h 23 fun x23 h =>
 vfaddr 1 x23 h fun x24 h =>
 vstore 1 x24 x16 h fun _ h =>
 tcomp x15 fun c0 => vfin true q [c0] h)
theorem e205_0 (O : Oracle) (R : Jump) (q : Nat) (x0 : TVal) (h : Heap) : b205_0 O R q x0 h = stepF c205 O R q 0 [x0] h := by kernel_rfl
noncomputable def d205 : BlkF := fun O R q => [.s fun y0 => .z fun h => b205_0 O R q y0 h]
theorem o205 (O : Oracle) (R : Jump) (q : Nat) : HoldsAll c205 O R q 0 (d205 O R q) := ⟨fun y0 h => e205_0 O R q y0 h, trivial⟩
/- (*sprue/sprueref13.reader).list -/
def c206 : MFunc := { np := 2, res := [.cell 4 true 6], frz := true, body := (.seq (.reg [(oA 4 (.alloc [(.p (.int .i64 0)), (.p (.bool false)), (.p (.int .i64 0)), (.p (.str [])), (.p .nilslice), (.p .nilslice)] false))] []) (.seq (.reg [(oA 6 (.build [(.p (.int .i64 0)), (.p (.bool false)), (.p (.int .i64 0)), (.p (.str [])), (.p .nilslice), (.p .nilslice)] [(0, 1, (.k (.v (.c (.p (.int .i64 4))))))])), (oA 5 (.alloc [(.p (.int .i64 0)), (.p (.bool false)), (.p (.int .i64 0)), (.p (.str [])), (.p .nilslice), (.p .nilslice)] false)), (oN (.store 6 (.t 5) (.t 6)))] []) (.seq (.reg [(oA 7 (.mv (.t 0))), (oA 8 (.nilck (.t 7))), (oA 9 (.faddr 1 (.t 8))), (oA 10 (.load false 1 (.t 9))), (oA 11 (.bin .add 0 (.t 10) (.k (.v (.c (.p (.int .i64 1))))))), (oA 12 (.nilck (.t 7))), (oA 13 (.faddr 1 (.t 12))), (oN (.store 1 (.t 13) (.t 11)))] []) (.seq (.seq (.reg [(oA 14 (.mv (.t 0))), (oA 15 (.call (.k (.v (.c (.func 253 [])))) [(.t 14), (.k (.v (.c (.p (.int .u8 93)))))]))] []) (.cond (.t 15) (.seq (.reg [(oA 16 (.load true 6 (.t 5))), (oN (.store 6 (.t 4) (.t 16)))] []) .ret) .skip)) (.seq (.block 0 (.loop 1 [0, 1, 4, 5] (.seq (.seq (.reg [(oA 17 (.mv (.t 0))), (oA 18 (.nilck (.t 17))), (oA 19 (.faddr 2 (.t 18))), (oA 20 (.load false 1 (.t 19))), (oA 21 (.bin .eql 0 (.t 20) (.k (.v (.c (.p (.int .i64 0)))))))] []) (.cond (.t 21) .skip (.exit 0))) (.block 1 (.seq (.reg [(oA 22 (.faddr 5 (.t 5))), (oA 23 (.load false 1 (.t 22))), (oA 24 (.mv (.t 0))), (oA 25 (.mv (.t 1))), (oA 26 (.bin .add 0 (.t 25) (.k (.v (.c (.p (.int .i64 1))))))), (oA 27 (.call (.k (.v (.c (.func 139 [])))) [(.t 24), (.t 26)])), (oA 28 (.bslice 6 1 [(.p (.int .i64 0)), (.p (.bool false)), (.p (.int .i64 0)), (.p (.str [])), (.p .nilslice), (.p .nilslice)] [(0, (.t 27))] false)), (oA 29 (.append 6 88 false (.t 23) (.t 28))), (oA 30 (.faddr 5 (.t 5))), (oN (.store 1 (.t 30) (.t 29)))] [(1, 5), (1, 6)]) (.seq (.reg [(oA 31 (.mv (.t 0))), (oA 32 (.call (.k (.v (.c (.func 253 [])))) [(.t 31), (.k (.v (.c (.p (.int .u8 44)))))])), (oA 33 (.un .not (.t 32)))] []) (.cond (.t 33) (.exit 0) .skip))))))) (.mark 2 [0, 4, 5] (.seq (.seq (.reg [(oA 34 (.mv (.t 0))), (oA 35 (.call (.k (.v (.c (.func 253 [])))) [(.t 34), (.k (.v (.c (.p (.int .u8 93)))))])), (oA 36 (.un .not (.t 35)))] []) (.cond (.t 36) (.reg [(oA 37 (.mv (.t 0))), (oA 38 (.call (.k (.v (.c (.func 141 [])))) [(.t 37), (.k (.v (.c (.p (.int .i64 12)))))]))] []) .skip)) (.mark 3 [4, 5] (.seq (.reg [(oA 39 (.load true 6 (.t 5))), (oN (.store 6 (.t 4) (.t 39)))] []) .ret))))))))) }
theorem t206 : compF Tryz.prog (globs2 tabs opq) (fun _ => false) true Tryz.f206 = some c206.erase := by kernel_rfl
noncomputable def b206_0 (O : Oracle) (R : Jump) (q : Nat) (x0 x1 : TVal) (h : Heap) : Res1 :=
 vop O (.alloc [(.p (.int .i64 0)), (.p (.bool false)), (.p (.int .i64 0)), (.p (.str [])), (.p .nilslice), (.p .nilslice)] false) h 4 fun x4 h =>
 vop O (.build [(.p (.int .i64 0)), (.p (.bool false)), (.p (.int .i64 0)), (.p (.str [])), (.p .nilslice), (.p .nilslice)] [(0, 1, (.k (kI 4)))]) h 6 fun x6 h =>
 vop O (.alloc [(.p (.int .i64 0)), (.p (.bool false)), (.p (.int .i64 0)), (.p (.str [])), (.p .nilslice), (.p .nilslice)] false) h 5 fun x5 h =>
 vstore 6 x5 x6 h fun _ h =>
 vop O (.nilck (.k x0)) h 8 fun x8 h =>
 vfaddr 1 x8 h fun x9 h =>
 vload false 1 x9 h fun x10 h =>
 vbin .add 0 x10 (kI 1) h fun x11 h =>
 vop O (.nilck (.k x0)) h 12 fun x12 h =>
 vfaddr 1 x12 h fun x13 h =>
 vstore 1 x13 x11 h fun _ h =>
 vcall O (.v (.c (.func 253 []))) [x0, (.v (.c (.p (.int .u8 93))))] h 15 fun x15 h =>
 vif x15 (
 vload true 6 x5 h fun x16 h =>
 vstore 6 x4 x16 h fun _ h =>
 vcell true 6 x4 h fun c0 => vfin true q [c0] h)
 (R 1 [x0, x1, x4, x5] h)
theorem e206_0 (O : Oracle) (R : Jump) (q : Nat) (x0 x1 : TVal) (h : Heap) : b206_0 O R q x0 x1 h = stepF c206 O R q 0 [x0, x1] h := by kernel_rfl
noncomputable def b206_1 (O : Oracle) (R : Jump) (q : Nat) (x0 x1 x4 x5 : TVal) (h : Heap) : Res1 :=
 vop O (.nilck (.k x0)) h 18 fun x18 h =>
 vfaddr 2 x18 h fun x19 h =>
 vload false 1 x19 h fun x20 h =>
 vbin .eql 0 x20 (kI 0) h fun x21 h =>
 vif x21 (
 vtouch O (.faddr 5 (.k x5)) h 22 fun x22 h t0 =>
 vtouch O (.load false 1 (.k x22)) h 23 fun x23 h t1 =>
 vtouch O (.mv (.k x0)) h 24 fun x24 h t2 =>
 vtouch O (.mv (.k x1)) h 25 fun x25 h t3 =>
 vtouch O (.bin .add 0 (.k x25) (.k (kI 1))) h 26 fun x26 h t4 =>
 vtouch O (.call (.k (.v (.c (.func 139 [])))) [(.k x24), (.k x26)]) h 27 fun x27 h t5 =>
 vtouch O (.bslice 6 1 [(.p (.int .i64 0)), (.p (.bool false)), (.p (.int .i64 0)), (.p (.str [])), (.p .nilslice), (.p .nilslice)] [(0, (.k x27))] false) h 28 fun x28 h t6 =>
 vtouch O (.append 6 88 false (.k x23) (.k x28)) h 29 fun x29 h t7 =>
 vtouch O (.faddr 5 (.k x5)) h 30 fun x30 h t8 =>
 vtouch O (.store 1 (.k x30) (.k x29)) h 1000000 fun _ h t9 =>
 bif apartAll [t0, t1, t2, t3, t4, t5, t6, t7, t8, t9] [(1, 5), (1, 6)] then
 vcall O (.v (.c (.func 253 []))) [x0, (.v (.c (.p (.int .u8 44))))] h 32 fun x32 h =>
 vop O (.un .not (.k x32)) h 33 fun x33 h =>
 vif x33 (
 R 2 [x0, x4, x5] h)
 (R 1 [x0, x1, x4, x5] h)
 else none)
 (R 2 [x0, x4, x5] h)
theorem e206_1 (O : Oracle) (R : Jump) (q : Nat) (x0 x1 x4 x5 : TVal) (h : Heap) : b206_1 O R q x0 x1 x4 x5 h = stepF c206 O R q 1 [x0, x1, x4, x5] h := by kernel_rfl
noncomputable def b206_2 (O : Oracle) (R : Jump) (q : Nat) (x0 x4 x5 : TVal) (h : Heap) : Res1 :=
 vcall O (.v (.c (.func 253 []))) [x0, (.v (.c (.p (.int .u8 93))))] h 35 fun x35 h =>
 vop O (.un .not (.k x35)) h 36 fun x36 h =>
 vif x36 (
 vcall O (.v (.c (.func 141 []))) [x0, (kI 12)] h 38 fun x38 h =>
 R 3 [x4, x5] h)
 (R 3 [x4, x5] h)
theorem e206_2 (O : Oracle) (R : Jump) (q : Nat) (x0 x4 x5 : TVal) (h : Heap) : b206_2 O R q x0 x4 x5 h = stepF c206 O R q 2 [x0, x4, x5] h := by kernel_rfl
noncomputable def b206_3 (O : Oracle) (R : Jump) (q : Nat) (x4 x5 : TVal) (h : Heap) : Res1 :=
 vload true 6 x5 h fun x39 h =>
 vstore 6 x4 x39 h fun _ h =>
 vcell true 6 x4 h fun c0 => vfin true q [c0] h
theorem e206_3 (O : Oracle) (R : Jump) (q : Nat) (x4 x5 : TVal) (h : Heap) : b206_3 O R q x4 x5 h = stepF c206 O R q 3 [x4, x5] h := by kernel_rfl
noncomputable def d206 : BlkF := fun O R q => [.s fun y0 => .s fun y1 => .z fun h => b206_0 O R q y0 y1 h, .s fun y0 => .s fun y1 => .s fun y2 => .s fun y3 => .z fun h => b206_1 O R q y0 y1 y2 y3 h, .s fun y0 => .s fun y1 => .s fun y2 => .z fun h => b206_2 O R q y0 y1 y2 h, .s fun y0 => .s fun y1 => .z fun h => b206_3 O R q y0 y1 h]
theorem o206 (O : Oracle) (R : Jump) (q : Nat) : HoldsAll c206 O R q 0 (d206 O R q) := ⟨fun y0 y1 h => e206_0 O R q y0 y1 h, fun y0 y1 y2 y3 h => e206_1 O R q y0 y1 y2 y3 h, fun y0 y1 y2 h => e206_2 O R q y0 y1 y2 h, fun y0 y1 h => e206_3 O R q y0 y1 h, trivial⟩
/- (*sprue/sprueref13.reader).table -/
def c207 : MFunc := { np := 2, res := [.cell 4 true 6], frz := true, body := (.seq (.reg [(oA 4 (.alloc [(.p (.int .i64 0)), (.p (.bool false)), (.p (.int .i64 0)), (.p (.str [])), (.p .nilslice), (.p .nilslice)] false))] []) (.seq (.reg [(oA 12 (.build [(.p (.int .i64 0)), (.p (.bool false)), (.p (.int .i64 0)), (.p (.str [])), (.p .nilslice), (.p .nilslice)] [(0, 1, (.k (.v (.c (.p (.int .i64 5))))))])), (oA 5 (.alloc [(.p (.int .i64 0)), (.p (.bool false)), (.p (.int .i64 0)), (.p (.str [])), (.p .nilslice), (.p .nilslice)] false)), (oN (.store 6 (.t 5) (.t 12)))] []) (.seq (.reg [(oA 13 (.mv (.t 0))), (oA 14 (.nilck (.t 13))), (oA 15 (.faddr 1 (.t 14))), (oA 16 (.load false 1 (.t 15))), (oA 17 (.bin .add 0 (.t 16) (.k (.v (.c (.p (.int .i64 1))))))), (oA 18 (.nilck (.t 13))), (oA 19 (.faddr 1 (.t 18))), (oN (.store 1 (.t 19) (.t 17)))] []) (.seq (.seq (.reg [(oA 20 (.mv (.t 0))), (oA 21 (.call (.k (.v (.c (.func 253 [])))) [(.t 20), (.k (.v (.c (.p (.int .u8 125)))))]))] []) (.cond (.t 21) (.seq (.reg [(oA 22 (.load true 6 (.t 5))), (oN (.store 6 (.t 4) (.t 22)))] []) .ret) .skip)) (.seq (.reg [(oA 6 (.mv (.k (.v (.c (.p (.bool false)))))))] []) (.seq (.block 0 (.loop 1 [0, 1, 4, 5, 6] (.seq (.seq (.reg [(oA 23 (.mv (.t 0))), (oA 24 (.nilck (.t 23))), (oA 25 (.faddr 2 (.t 24))), (oA 26 (.load false 1 (.t 25))), (oA 27 (.bin .eql 0 (.t 26) (.k (.v (.c (.p (.int .i64 0)))))))] []) (.cond (.t 27) .skip (.exit 0))) (.block 1 (.seq (.reg [(oA 28 (.mv (.t 0))), (oA 29 (.call (.k (.v (.c (.func 140 [])))) [(.t 28)]))] []) (.seq (.seq (.reg [(oA 30 (.mv (.t 0))), (oA 31 (.nilck (.t 30))), (oA 32 (.faddr 1 (.t 31))), (oA 33 (.load false 1 (.t 32))), (oA 34 (.mv (.t 0))), (oA 35 (.nilck (.t 34))), (oA 36 (.faddr 0 (.t 35))), (oA 37 (.load false 1 (.t 36))), (oA 38 (.len 0 (.t 37))), (oA 39 (.bin .geq 0 (.t 33) (.t 38))), (oA 40 (.mv (.t 39))), ⟨(some 41), (.mv (.t 0)), (some (40, false))⟩, ⟨(some 42), (.nilck (.t 41)), (some (40, false))⟩, ⟨(some 43), (.faddr 0 (.t 42)), (some (40, false))⟩, ⟨(some 44), (.load false 1 (.t 43)), (some (40, false))⟩, ⟨(some 45), (.mv (.t 0)), (some (40, false))⟩, ⟨(some 46), (.nilck (.t 45)), (some (40, false))⟩, ⟨(some 47), (.faddr 1 (.t 46)), (some (40, false))⟩, ⟨(some 48), (.load false 1 (.t 47)), (some (40, false))⟩, ⟨(some 49), (.index (.t 44) (.t 48)), (some (40, false))⟩, ⟨(some 50), (.bin .neq 0 (.t 49) (.k (.v (.c (.p (.int .u8 34)))))), (some (40, false))⟩, (oA 51 (.pick (.t 40) (.k (.v (.c (.p (.bool true))))) (.t 50)))] []) (.cond (.t 51) (.seq (.reg [(oA 52 (.mv (.t 0))), (oA 53 (.call (.k (.v (.c (.func 141 [])))) [(.t 52), (.k (.v (.c (.p (.int .i64 12)))))]))] []) (.exit 0)) .skip)) (.seq (.reg [(oA 54 (.mv (.t 0))), (oA 55 (.call (.k (.v (.c (.func 205 [])))) [(.t 54)])), (oA 7 (.mv (.t 55)))] []) (.seq (.seq (.reg [(oA 56 (.mv (.t 0))), (oA 57 (.call (.k (.v (.c (.func 253 [])))) [(.t 56), (.k (.v (.c (.p (.int .u8 58)))))])), (oA 58 (.un .not (.t 57)))] []) (.cond (.t 58) (.seq (.reg [(oA 59 (.mv (.t 0))), (oA 60 (.call (.k (.v (.c (.func 141 [])))) [(.t 59), (.k (.v (.c (.p (.int .i64 12)))))]))] []) (.exit 0)) .skip)) (.seq (.reg [(oA 61 (.mv (.t 0))), (oA 62 (.mv (.t 1))), (oA 63 (.bin .add 0 (.t 62) (.k (.v (.c (.p (.int .i64 1))))))), (oA 64 (.call (.k (.v (.c (.func 139 [])))) [(.t 61), (.t 63)])), (oA 8 (.alloc [(.p (.int .i64 0)), (.p (.bool false)), (.p (.int .i64 0)), (.p (.str [])), (.p .nilslice), (.p .nilslice)] false)), (oN (.store 6 (.t 8) (.t 64)))] []) (.seq (.reg [(oA 9 (.mv (.k (.v (.c (.p (.int .i64 0)))))))] []) (.seq (.block 2 (.loop 2 [0, 1, 4, 5, 6, 7, 8, 9] (.seq (.seq (.reg [(oA 65 (.mv (.t 9))), (oA 66 (.faddr 4 (.t 5))), (oA 67 (.load false 1 (.t 66))), (oA 68 (.len 2 (.t 67))), (oA 69 (.bin .lss 0 (.t 65) (.t 68))), (oA 70 (.mv (.t 69))), ⟨(some 71), (.faddr 4 (.t 5)), (some (70, true))⟩, ⟨(some 72), (.load false 1 (.t 71)), (some (70, true))⟩, ⟨(some 73), (.mv (.t 9)), (some (70, true))⟩, ⟨(some 74), (.iaddr 1 (.t 72) (.t 73)), (some (70, true))⟩, ⟨(some 75), (.load false 1 (.t 74)), (some (70, true))⟩, ⟨(some 76), (.mv (.t 7)), (some (70, true))⟩, ⟨(some 77), (.bin .lss 0 (.t 75) (.t 76)), (some (70, true))⟩, (oA 78 (.pick (.t 70) (.t 77) (.k (.v (.c (.p (.bool false)))))))] []) (.cond (.t 78) .skip (.exit 2))) (.block 3 (.reg [(oA 79 (.mv (.t 9))), (oA 80 (.bin .add 0 (.t 79) (.k (.v (.c (.p (.int .i64 1))))))), (oA 9 (.mv (.t 80)))] []))))) (.mark 3 [0, 1, 4, 5, 6, 7, 8, 9] (.seq (.reg [(oA 81 (.mv (.t 6))), (oA 82 (.mv (.t 81))), ⟨(some 83), (.mv (.t 9)), (some (82, false))⟩, ⟨(some 84), (.faddr 4 (.t 5)), (some (82, false))⟩, ⟨(some 85), (.load false 1 (.t 84)), (some (82, false))⟩, ⟨(some 86), (.len 2 (.t 85)), (some (82, false))⟩, ⟨(some 87), (.bin .lss 0 (.t 83) (.t 86)), (some (82, false))⟩, ⟨(some 88), (.mv (.t 87)), (some (82, false))⟩, ⟨(some 89), (.faddr 4 (.t 5)), (some (88, true))⟩, ⟨(some 90), (.load false 1 (.t 89)), (some (88, true))⟩, ⟨(some 91), (.mv (.t 9)), (some (88, true))⟩, ⟨(some 92), (.iaddr 1 (.t 90) (.t 91)), (some (88, true))⟩, ⟨(some 93), (.load false 1 (.t 92)), (some (88, true))⟩, ⟨(some 94), (.mv (.t 7)), (some (88, true))⟩, ⟨(some 95), (.bin .eql 0 (.t 93) (.t 94)), (some (88, true))⟩, ⟨(some 96), (.pick (.t 88) (.t 95) (.k (.v (.c (.p (.bool false)))))), (some (82, false))⟩, (oA 97 (.pick (.t 82) (.k (.v (.c (.p (.bool true))))) (.t 96))), (oA 6 (.mv (.t 97)))] []) (.seq (.reg [(oA 98 (.bslice 1 0 [(.p (.str []))] [] false)), (oA 99 (.faddr 4 (.t 5))), (oA 100 (.load false 1 (.t 99))), (oA 101 (.mv (.t 9))), (oA 102 (.slice 1 false (.t 100) none (some (.t 101)) none)), (oA 103 (.append 1 16 false (.t 98) (.t 102))), (oA 10 (.mv (.t 103)))] []) (.seq (.reg [(oA 104 (.bslice 6 0 [(.p (.int .i64 0)), (.p (.bool false)), (.p (.int .i64 0)), (.p (.str [])), (.p .nilslice), (.p .nilslice)] [] false)), (oA 105 (.faddr 5 (.t 5))), (oA 106 (.load false 1 (.t 105))), (oA 107 (.mv (.t 9))), (oA 108 (.slice 6 false (.t 106) none (some (.t 107)) none)), (oA 109 (.append 6 88 false (.t 104) (.t 108))), (oA 11 (.mv (.t 109)))] []) (.seq (.reg [(oA 110 (.mv (.t 10))), (oA 111 (.mv (.t 7))), (oA 112 (.bslice 1 1 [(.p (.str []))] [(0, (.t 111))] false)), (oA 113 (.append 1 16 false (.t 110) (.t 112))), (oA 114 (.faddr 4 (.t 5))), (oA 115 (.load false 1 (.t 114))), (oA 116 (.mv (.t 9))), (oA 117 (.slice 1 false (.t 115) (some (.t 116)) none none)), (oA 118 (.append 1 16 false (.t 113) (.t 117))), (oA 119 (.mv (.t 11))), (oA 120 (.load true 6 (.t 8))), (oA 121 (.bslice 6 1 [(.p (.int .i64 0)), (.p (.bool false)), (.p (.int .i64 0)), (.p (.str [])), (.p .nilslice), (.p .nilslice)] [(0, (.t 120))] false)), (oA 122 (.append 6 88 false (.t 119) (.t 121))), (oA 123 (.faddr 5 (.t 5))), (oA 124 (.load false 1 (.t 123))), (oA 125 (.mv (.t 9))), (oA 126 (.slice 6 false (.t 124) (some (.t 125)) none none)), (oA 127 (.append 6 88 false (.t 122) (.t 126))), (oA 128 (.faddr 4 (.t 5))), (oN (.store 1 (.t 128) (.t 118))), (oA 129 (.faddr 5 (.t 5))), (oN (.store 1 (.t 129) (.t 127)))] [(2, 5), (3, 5), (2, 10), (3, 10), (8, 10), (2, 11), (3, 11), (5, 11), (8, 11), (2, 14), (3, 14), (8, 14), (11, 14), (12, 14)]) (.seq (.reg [(oA 130 (.mv (.t 0))), (oA 131 (.call (.k (.v (.c (.func 253 [])))) [(.t 130), (.k (.v (.c (.p (.int .u8 44)))))])), (oA 132 (.un .not (.t 131)))] []) (.cond (.t 132) (.exit 0) .skip)))))))))))))))))) (.mark 4 [0, 4, 5, 6] (.seq (.seq (.reg [(oA 133 (.mv (.t 0))), (oA 134 (.call (.k (.v (.c (.func 253 [])))) [(.t 133), (.k (.v (.c (.p (.int .u8 125)))))])), (oA 135 (.un .not (.t 134)))] []) (.cond (.t 135) (.reg [(oA 136 (.mv (.t 0))), (oA 137 (.call (.k (.v (.c (.func 141 [])))) [(.t 136), (.k (.v (.c (.p (.int .i64 12)))))]))] []) .skip)) (.mark 5 [0, 4, 5, 6] (.seq (.seq (.reg [(oA 138 (.mv (.t 6)))] []) (.cond (.t 138) (.reg [(oA 139 (.mv (.t 0))), (oA 140 (.call (.k (.v (.c (.func 141 [])))) [(.t 139), (.k (.v (.c (.p (.int .i64 6)))))]))] []) .skip)) (.mark 6 [4, 5] (.seq (.reg [(oA 141 (.load true 6 (.t 5))), (oN (.store 6 (.t 4) (.t 141)))] []) .ret)))))))))))) }
theorem t207 : compF Tryz.prog (globs2 tabs opq) (fun _ => false) true Tryz.f207 = some c207.erase := by kernel_rfl
noncomputable def b207_0 (O : Oracle) (R : Jump) (q : Nat) (x0 x1 : TVal) (h : Heap) : Res1 :=
 vop O (.alloc [(.p (.int .i64 0)), (.p (.bool false)), (.p (.int .i64 0)), (.p (.str [])), (.p .nilslice), (.p .nilslice)] false) h 4 fun x4 h =>
 vop O (.build [(.p (.int .i64 0)), (.p (.bool false)), (.p (.int .i64 0)), (.p (.str [])), (.p .nilslice), (.p .nilslice)] [(0, 1, (.k (kI 5)))]) h 12 fun x12 h =>
 vop O (.alloc [(.p (.int .i64 0)), (.p (.bool false)), (.p (.int .i64 0)), (.p (.str [])), (.p .nilslice), (.p .nilslice)] false) h 5 fun x5 h =>
 vstore 6 x5 x12 h fun _ h =>
 vop O (.nilck (.k x0)) h 14 fun x14 h =>
 vfaddr 1 x14 h fun x15 h =>
 vload false 1 x15 h fun x16 h =>
 vbin .add 0 x16 (kI 1) h fun x17 h =>
 vop O (.nilck (.k x0)) h 18 fun x18 h =>
 vfaddr 1 x18 h fun x19 h =>
 vstore 1 x19 x17 h fun _ h =>
 vcall O (.v (.c (.func 253 []))) [x0, (.v (.c (.p (.int .u8 125))))] h 21 fun x21 h =>
 vif x21 (
 vload true 6 x5 h fun x22 h =>
 vstore 6 x4 x22 h fun _ h =>
 vcell true 6 x4 h fun c0 => vfin true q [c0] h)
 (R 1 [x0, x1, x4, x5, (kB false)] h)
theorem e207_0 (O : Oracle) (R : Jump) (q : Nat) (x0 x1 : TVal) (h : Heap) : b207_0 O R q x0 x1 h = stepF c207 O R q 0 [x0, x1] h := by kernel_rfl
noncomputable def b207_1 (O : Oracle) (R : Jump) (q : Nat) (x0 x1 x4 x5 x6 : TVal) (h : Heap) : Res1 :=
 vop O (.nilck (.k x0)) h 24 fun x24 h =>
 vfaddr 2 x24 h fun x25 h =>
 vload false 1 x25 h fun x26 h =>
 vbin .eql 0 x26 (kI 0) h fun x27 h =>
 vif x27 (
 vcall O (.v (.c (.func 140 []))) [x0] h 29 fun x29 h =>
 vop O (.nilck (.k x0)) h 31 fun x31 h =>
 vfaddr 1 x31 h fun x32 h =>
 vload false 1 x32 h fun x33 h =>
 vop O (.nilck (.k x0)) h 35 fun x35 h =>
 vfaddr 0 x35 h fun x36 h =>
 vload false 1 x36 h fun x37 h =>
 vlen O 0 x37 h 38 fun x38 h =>
 vbin .geq 0 x33 x38 h fun x39 h =>
 vguard x39 false (fun kk => kk x0 h) h fun x41 h =>
 vguard x39 false (fun kk => vop O (.nilck (.k x41)) h 42 kk) h fun x42 h =>
 vguard x39 false (fun kk => vfaddr 0 x42 h kk) h fun x43 h =>
 vguard x39 false (fun kk => vload false 1 x43 h kk) h fun x44 h =>
 vguard x39 false (fun kk => kk x0 h) h fun x45 h =>
 vguard x39 false (fun kk => vop O (.nilck (.k x45)) h 46 kk) h fun x46 h =>
 vguard x39 false (fun kk => vfaddr 1 x46 h kk) h fun x47 h =>
 vguard x39 false (fun kk => vload false 1 x47 h kk) h fun x48 h =>
 vguard x39 false (fun kk => vindex x44 x48 h kk) h fun x49 h =>
 vguard x39 false (fun kk => vbin .neq 0 x49 (.v (.c (.p (.int .u8 34)))) h kk) h fun x50 h =>
 vop O (.pick (.k x39) (.k (kB true)) (.k x50)) h 51 fun x51 h =>
 vif x51 (
 vcall O (.v (.c (.func 141 []))) [x0, (kI 12)] h 53 fun x53 h =>
 R 4 [x0, x4, x5, x6] h)
 (vcall O (.v (.c (.func 205 []))) [x0] h 55 fun x55 h =>
 vcall O (.v (.c (.func 253 []))) [x0, (.v (.c (.p (.int .u8 58))))] h 57 fun x57 h =>
 vop O (.un .not (.k x57)) h 58 fun x58 h =>
 vif x58 (
 vcall O (.v (.c (.func 141 []))) [x0, (kI 12)] h 60 fun x60 h =>
 R 4 [x0, x4, x5, x6] h)
 (vbin .add 0 x1 (kI 1) h fun x63 h =>
 vcall O (.v (.c (.func 139 []))) [x0, x63] h 64 fun x64 h =>
 vop O (.alloc [(.p (.int .i64 0)), (.p (.bool false)), (.p (.int .i64 0)), (.p (.str [])), (.p .nilslice), (.p .nilslice)] false) h 8 fun x8 h =>
 vstore 6 x8 x64 h fun _ h =>
 R 2 [x0, x1, x4, x5, x6, x55, x8, (kI 0)] h)))
 (R 4 [x0, x4, x5, x6] h)
theorem e207_1 (O : Oracle) (R : Jump) (q : Nat) (x0 x1 x4 x5 x6 : TVal) (h : Heap) : b207_1 O R q x0 x1 x4 x5 x6 h = stepF c207 O R q 1 [x0, x1, x4, x5, x6] h := by kernel_rfl
noncomputable def b207_2 (O : Oracle) (R : Jump) (q : Nat) (x0 x1 x4 x5 x6 x7 x8 x9 : TVal) (h : Heap) : Res1 :=
 vfaddr 4 x5 h fun x66 h =>
 vload false 1 x66 h fun x67 h =>
 vlen O 2 x67 h 68 fun x68 h =>
 vbin .lss 0 x9 x68 h fun x69 h =>
 vguard x69 true (fun kk => vfaddr 4 x5 h kk) h fun x71 h =>
 vguard x69 true (fun kk => vload false 1 x71 h kk) h fun x72 h =>
 vguard x69 true (fun kk => kk x9 h) h fun x73 h =>
 vguard x69 true (fun kk => viaddr 1 x72 x73 h kk) h fun x74 h =>
 vguard x69 true (fun kk => vload false 1 x74 h kk) h fun x75 h =>
 vguard x69 true (fun kk => kk x7 h) h fun x76 h =>
 vguard x69 true (fun kk => vbin .lss 0 x75 x76 h kk) h fun x77 h =>
 vop O (.pick (.k x69) (.k x77) (.k (kB false))) h 78 fun x78 h =>
 vif x78 (
 vbin .add 0 x9 (kI 1) h fun x80 h =>
 R 2 [x0, x1, x4, x5, x6, x7, x8, x80] h)
 (R 3 [x0, x1, x4, x5, x6, x7, x8, x9] h)
theorem e207_2 (O : Oracle) (R : Jump) (q : Nat) (x0 x1 x4 x5 x6 x7 x8 x9 : TVal) (h : Heap) : b207_2 O R q x0 x1 x4 x5 x6 x7 x8 x9 h = stepF c207 O R q 2 [x0, x1, x4, x5, x6, x7, x8, x9] h := by kernel_rfl
noncomputable def b207_3 (O : Oracle) (R : Jump) (q : Nat) (x0 x1 x4 x5 x6 x7 x8 x9 : TVal) (h : Heap) : Res1 :=
 vguard x6 false (fun kk => kk x9 h) h fun x83 h =>
 vguard x6 false (fun kk => vfaddr 4 x5 h kk) h fun x84 h =>
 vguard x6 false (fun kk => vload false 1 x84 h kk) h fun x85 h =>
 vguard x6 false (fun kk => vlen O 2 x85 h 86 kk) h fun x86 h =>
 vguard x6 false (fun kk => vbin .lss 0 x83 x86 h kk) h fun x87 h =>
 vguard x6 false (fun kk => kk x87 h) h fun x88 h =>
 vguard x88 true (fun kk => vfaddr 4 x5 h kk) h fun x89 h =>
 vguard x88 true (fun kk => vload false 1 x89 h kk) h fun x90 h =>
 vguard x88 true (fun kk => kk x9 h) h fun x91 h =>
 vguard x88 true (fun kk => viaddr 1 x90 x91 h kk) h fun x92 h =>
 vguard x88 true (fun kk => vload false 1 x92 h kk) h fun x93 h =>
 vguard x88 true (fun kk => kk x7 h) h fun x94 h =>
 vguard x88 true (fun kk => vbin .eql 0 x93 x94 h kk) h fun x95 h =>
 vguard x6 false (fun kk => vop O (.pick (.k x88) (.k x95) (.k (kB false))) h 96 kk) h fun x96 h =>
 vop O (.pick (.k x6) (.k (kB true)) (.k x96)) h 97 fun x97 h =>
 vop O (.bslice 1 0 [(.p (.str []))] [] false) h 98 fun x98 h =>
 vfaddr 4 x5 h fun x99 h =>
 vload false 1 x99 h fun x100 h =>
 vop O (.slice 1 false (.k x100) none (some (.k x9)) none) h 102 fun x102 h =>
 vop O (.append 1 16 false (.k x98) (.k x102)) h 103 fun x103 h =>
 vop O (.bslice 6 0 [(.p (.int .i64 0)), (.p (.bool false)), (.p (.int .i64 0)), (.p (.str [])), (.p .nilslice), (.p .nilslice)] [] false) h 104 fun x104 h =>
 vfaddr 5 x5 h fun x105 h =>
 vload false 1 x105 h fun x106 h =>
 vop O (.slice 6 false (.k x106) none (some (.k x9)) none) h 108 fun x108 h =>
 vop O (.append 6 88 false (.k x104) (.k x108)) h 109 fun x109 h =>
 vtouch O (.mv (.k x103)) h 110 fun x110 h t0 =>
 vtouch O (.mv (.k x7)) h 111 fun x111 h t1 =>
 vtouch O (.bslice 1 1 [(.p (.str []))] [(0, (.k x111))] false) h 112 fun x112 h t2 =>
 vtouch O (.append 1 16 false (.k x110) (.k x112)) h 113 fun x113 h t3 =>
 vtouch O (.faddr 4 (.k x5)) h 114 fun x114 h t4 =>
 vtouch O (.load false 1 (.k x114)) h 115 fun x115 h t5 =>
 vtouch O (.mv (.k x9)) h 116 fun x116 h t6 =>
 vtouch O (.slice 1 false (.k x115) (some (.k x116)) none none) h 117 fun x117 h t7 =>
 vtouch O (.append 1 16 false (.k x113) (.k x117)) h 118 fun x118 h t8 =>
 vtouch O (.mv (.k x109)) h 119 fun x119 h t9 =>
 vtouch O (.load true 6 (.k x8)) h 120 fun x120 h t10 =>
 vtouch O (.bslice 6 1 [(.p (.int .i64 0)), (.p (.bool false)), (.p (.int .i64 0)), (.p (.str [])), (.p .nilslice), (.p .nilslice)] [(0, (.k x120))] false) h 121 fun x121 h t11 =>
 vtouch O (.append 6 88 false (.k x119) (.k x121)) h 122 fun x122 h t12 =>
 vtouch O (.faddr 5 (.k x5)) h 123 fun x123 h t13 =>
 vtouch O (.load false 1 (.k x123)) h 124 fun x124 h t14 =>
 vtouch O (.mv (.k x9)) h 125 fun x125 h t15 =>
 vtouch O (.slice 6 false (.k x124) (some (.k x125)) none none) h 126 fun x126 h t16 =>
 vtouch O (.append 6 88 false (.k x122) (.k x126)) h 127 fun x127 h t17 =>
 vtouch O (.faddr 4 (.k x5)) h 128 fun x128 h t18 =>
 vtouch O (.store 1 (.k x128) (.k x118)) h 1000000 fun _ h t19 =>
 vtouch O (.faddr 5 (.k x5)) h 129 fun x129 h t20 =>
 vtouch O (.store 1 (.k x129) (.k x127)) h 1000000 fun _ h t21 =>
 bif apartAll [t0, t1, t2, t3, t4, t5, t6, t7, t8, t9, t10, t11, t12, t13, t14, t15, t16, t17, t18, t19, t20, t21] [(2, 5), (3, 5), (2, 10), (3, 10), (8, 10), (2, 11), (3, 11), (5, 11), (8, 11), (2, 14), (3, 14), (8, 14), (11, 14), (12, 14)] then
 vcall O (.v (.c (.func 253 []))) [x0, (.v (.c (.p (.int .u8 44))))] h 131 fun x131 h =>
 vop O (.un .not (.k x131)) h 132 fun x132 h =>
 vif x132 (
 R 4 [x0, x4, x5, x97] h)
 (R 1 [x0, x1, x4, x5, x97] h)
 else none
theorem e207_3 (O : Oracle) (R : Jump) (q : Nat) (x0 x1 x4 x5 x6 x7 x8 x9 : TVal) (h : Heap) : b207_3 O R q x0 x1 x4 x5 x6 x7 x8 x9 h = stepF c207 O R q 3 [x0, x1, x4, x5, x6, x7, x8, x9] h := by kernel_rfl
noncomputable def b207_4 (O : Oracle) (R : Jump) (q : Nat) (x0 x4 x5 x6 : TVal) (h : Heap) : Res1 :=
 vcall O (.v (.c (.func 253 []))) [x0, (.v (.c (.p (.int .u8 125))))] h 134 fun x134 h =>
 vop O (.un .not (.k x134)) h 135 fun x135 h =>
 vif x135 (
 vcall O (.v (.c (.func 141 []))) [x0, (kI 12)] h 137 fun x137 h =>
 R 5 [x0, x4, x5, x6] h)
 (R 5 [x0, x4, x5, x6] h)
theorem e207_4 (O : Oracle) (R : Jump) (q : Nat) (x0 x4 x5 x6 : TVal) (h : Heap) : b207_4 O R q x0 x4 x5 x6 h = stepF c207 O R q 4 [x0, x4, x5, x6] h := by kernel_rfl
noncomputable def b207_5 (O : Oracle) (R : Jump) (q : Nat) (x0 x4 x5 x6 : TVal) (h : Heap) : Res1 :=
 vif x6 (
 vcall O (.v (.c (.func 141 []))) [x0, (kI 6)] h 140 fun x140 h =>
 R 6 [x4, x5] h)
 (R 6 [x4, x5] h)
theorem e207_5 (O : Oracle) (R : Jump) (q : Nat) (x0 x4 x5 x6 : TVal) (h : Heap) : b207_5 O R q x0 x4 x5 x6 h = stepF c207 O R q 5 [x0, x4, x5, x6] h := by kernel_rfl
noncomputable def b207_6 (O : Oracle) (R : Jump) (q : Nat) (x4 x5 : TVal) (h : Heap) : Res1 :=
 vload true 6 x5 h fun x141 h =>
 vstore 6 x4 x141 h fun _ h =>
 vcell true 6 x4 h fun c0 => vfin true q [c0] h
theorem e207_6 (O : Oracle) (R : Jump) (q : Nat) (x4 x5 : TVal) (h : Heap) : b207_6 O R q x4 x5 h = stepF c207 O R q 6 [x4, x5] h := by kernel_rfl
noncomputable def d207 : BlkF := fun O R q => [.s fun y0 => .s fun y1 => .z fun h => b207_0 O R q y0 y1 h, .s fun y0 => .s fun y1 => .s fun y2 => .s fun y3 => .s fun y4 => .z fun h => b207_1 O R q y0 y1 y2 y3 y4 h, .s fun y0 => .s fun y1 => .s fun y2 => .s fun y3 => .s fun y4 => .s fun y5 => .s fun y6 => .s fun y7 => .z fun h => b207_2 O R q y0 y1 y2 y3 y4 y5 y6 y7 h, .s fun y0 => .s fun y1 => .s fun y2 => .s fun y3 => .s fun y4 => .s fun y5 => .s fun y6 => .s fun y7 => .z fun h => b207_3 O R q y0 y1 y2 y3 y4 y5 y6 y7 h, .s fun y0 => .s fun y1 => .s fun y2 => .s fun y3 => .z fun h => b207_4 O R q y0 y1 y2 y3 h, .s fun y0 => .s fun y1 => .s fun y2 => .s fun y3 => .z fun h => b207_5 O R q y0 y1 y2 y3 h, .s fun y0 => .s fun y1 => .z fun h => b207_6 O R q y0 y1 h]
theorem o207 (O : Oracle) (R : Jump) (q : Nat) : HoldsAll c207 O R q 0 (d207 O R q) := ⟨fun y0 y1 h => e207_0 O R q y0 y1 h, fun y0 y1 y2 y3 y4 h => e207_1 O R q y0 y1 y2 y3 y4 h, fun y0 y1 y2 y3 y4 y5 y6 y7 h => e207_2 O R q y0 y1 y2 y3 y4 y5 y6 y7 h, fun y0 y1 y2 y3 y4 y5 y6 y7 h => e207_3 O R q y0 y1 y2 y3 y4 y5 y6 y7 h, fun y0 y1 y2 y3 h => e207_4 O R q y0 y1 y2 y3 h, fun y0 y1 y2 y3 h => e207_5 O R q y0 y1 y2 y3 h, fun y0 y1 h => e207_6 O R q y0 y1 h, trivial⟩
/- (*sprue/sprueref13.reader).number -/
def c208 : MFunc := { np := 1, res := [.cell 2 true 6], frz := true, body := (.seq (.reg [(oA 2 (.alloc [(.p (.int .i64 0)), (.p (.bool false)), (.p (.int .i64 0)), (.p (.str [])), (.p .nilslice), (.p .nilslice)] false))] []) (.seq (.reg [(oA 6 (.mv (.t 0))), (oA 7 (.nilck (.t 6))), (oA 8 (.faddr 1 (.t 7))), (oA 9 (.load false 1 (.t 8))), (oA 3 (.mv (.t 9)))] []) (.seq (.seq (.reg [(oA 10 (.mv (.t 0))), (oA 11 (.nilck (.t 10))), (oA 12 (.faddr 0 (.t 11))), (oA 13 (.load false 1 (.t 12))), (oA 14 (.mv (.t 3))), (oA 15 (.index (.t 13) (.t 14))), (oA 16 (.bin .eql 0 (.t 15) (.k (.v (.c (.p (.int .u8 45)))))))] []) (.cond (.t 16) (.reg [(oA 17 (.mv (.t 3))), (oA 18 (.bin .add 0 (.t 17) (.k (.v (.c (.p (.int .i64 1))))))), (oA 3 (.mv (.t 18)))] []) .skip)) (.mark 1 [0, 2, 3] (.seq (.seq (.reg [(oA 19 (.mv (.t 3))), (oA 20 (.mv (.t 0))), (oA 21 (.nilck (.t 20))), (oA 22 (.faddr 0 (.t 21))), (oA 23 (.load false 1 (.t 22))), (oA 24 (.len 0 (.t 23))), (oA 25 (.bin .geq 0 (.t 19) (.t 24))), (oA 26 (.mv (.t 25))), ⟨(some 27), (.mv (.t 0)), (some (26, false))⟩, ⟨(some 28), (.nilck (.t 27)), (some (26, false))⟩, ⟨(some 29), (.faddr 0 (.t 28)), (some (26, false))⟩, ⟨(some 30), (.load false 1 (.t 29)), (some (26, false))⟩, ⟨(some 31), (.mv (.t 3)), (some (26, false))⟩, ⟨(some 32), (.index (.t 30) (.t 31)), (some (26, false))⟩, ⟨(some 33), (.call (.k (.v (.c (.func 204 [])))) [(.t 32)]), (some (26, false))⟩, ⟨(some 34), (.un .not (.t 33)), (some (26, false))⟩, (oA 35 (.pick (.t 26) (.k (.v (.c (.p (.bool true))))) (.t 34)))] []) (.cond (.t 35) (.seq (.reg [(oA 36 (.mv (.t 0))), (oA 37 (.call (.k (.v (.c (.func 141 [])))) [(.t 36), (.k (.v (.c (.p (.int .i64 12)))))]))] []) (.seq (.reg [(oA 38 (.build [(.p (.int .i64 0)), (.p (.bool false)), (.p (.int .i64 0)), (.p (.str [])), (.p .nilslice), (.p .nilslice)] [])), (oN (.store 6 (.t 2) (.t 38)))] []) .ret)) .skip)) (.seq (.seq (.reg [(oA 39 (.mv (.t 0))), (oA 40 (.nilck (.t 39))), (oA 41 (.faddr 0 (.t 40))), (oA 42 (.load false 1 (.t 41))), (oA 43 (.mv (.t 3))), (oA 44 (.index (.t 42) (.t 43))), (oA 45 (.bin .eql 0 (.t 44) (.k (.v (.c (.p (.int .u8 48)))))))] []) (.cond (.t 45) (.reg [(oA 46 (.mv (.t 3))), (oA 47 (.bin .add 0 (.t 46) (.k (.v (.c (.p (.int .i64 1))))))), (oA 3 (.mv (.t 47)))] []) (.block 0 (.loop 2 [0, 2, 3] (.seq (.seq (.reg [(oA 48 (.mv (.t 3))), (oA 49 (.mv (.t 0))), (oA 50 (.nilck (.t 49))), (oA 51 (.faddr 0 (.t 50))), (oA 52 (.load false 1 (.t 51))), (oA 53 (.len 0 (.t 52))), (oA 54 (.bin .lss 0 (.t 48) (.t 53))), (oA 55 (.mv (.t 54))), ⟨(some 56), (.mv (.t 0)), (some (55, true))⟩, ⟨(some 57), (.nilck (.t 56)), (some (55, true))⟩, ⟨(some 58), (.faddr 0 (.t 57)), (some (55, true))⟩, ⟨(some 59), (.load false 1 (.t 58)), (some (55, true))⟩, ⟨(some 60), (.mv (.t 3)), (some (55, true))⟩, ⟨(some 61), (.index (.t 59) (.t 60)), (some (55, true))⟩, ⟨(some 62), (.call (.k (.v (.c (.func 204 [])))) [(.t 61)]), (some (55, true))⟩, (oA 63 (.pick (.t 55) (.t 62) (.k (.v (.c (.p (.bool false)))))))] []) (.cond (.t 63) .skip (.exit 0))) (.block 1 (.reg [(oA 64 (.mv (.t 3))), (oA 65 (.bin .add 0 (.t 64) (.k (.v (.c (.p (.int .i64 1))))))), (oA 3 (.mv (.t 65)))] []))))))) (.mark 3 [0, 2, 3] (.seq (.reg [(oA 67 (.mv (.t 0))), (oA 68 (.nilck (.t 67))), (oA 69 (.faddr 0 (.t 68))), (oA 70 (.load false 1 (.t 69))), (oA 71 (.mv (.t 0))), (oA 72 (.nilck (.t 71))), (oA 73 (.faddr 1 (.t 72))), (oA 74 (.load false 1 (.t 73))), (oA 75 (.mv (.t 3))), (oA 76 (.slice 0 true (.t 70) (some (.t 74)) (some (.t 75)) none)), (oA 77 (.call (.k (.v (.c (.func 186 [])))) [(.t 76)])), (oA 66 (.mv (.t 77))), (oA 78 (.extract (.t 66) 0)), (oA 79 (.extract (.t 66) 1)), (oA 4 (.mv (.t 78))), (oA 5 (.mv (.t 79)))] []) (.seq (.seq (.reg [(oA 80 (.mv (.t 5))), (oA 81 (.bin .neq 0 (.t 80) (.k (.v (.c (.p (.int .i64 0)))))))] []) (.cond (.t 81) (.seq (.reg [(oA 82 (.mv (.t 0))), (oA 83 (.call (.k (.v (.c (.func 141 [])))) [(.t 82), (.k (.v (.c (.p (.int .i64 11)))))]))] []) (.seq (.reg [(oA 84 (.build [(.p (.int .i64 0)), (.p (.bool false)), (.p (.int .i64 0)), (.p (.str [])), (.p .nilslice), (.p .nilslice)] [])), (oN (.store 6 (.t 2) (.t 84)))] []) .ret)) .skip)) (.seq (.reg [(oA 85 (.mv (.t 0))), (oA 86 (.mv (.t 3))), (oA 87 (.nilck (.t 85))), (oA 88 (.faddr 1 (.t 87))), (oN (.store 1 (.t 88) (.t 86)))] []) (.seq (.reg [(oA 89 (.mv (.t 4))), (oA 90 (.build [(.p (.int .i64 0)), (.p (.bool false)), (.p (.int .i64 0)), (.p (.str [])), (.p .nilslice), (.p .nilslice)] [(0, 1, (.k (.v (.c (.p (.int .i64 2)))))), (2, 1, (.t 89))])), (oN (.store 6 (.t 2) (.t 90)))] []) .ret))))))))))) }
theorem t208 : compF Tryz.prog (globs2 tabs opq) (fun _ => false) true Tryz.f208 = some c208.erase := by kernel_rfl
noncomputable def b208_0 (O : Oracle) (R : Jump) (q : Nat) (x0 : TVal) (h : Heap) : Res1 :=
 vop O (.alloc [(.p (.int .i64 0)), (.p (.bool false)), (.p (.int .i64 0)), (.p (.str [])), (.p .nilslice), (.p .nilslice)] false) h 2 fun x2 h =>
 vop O (.nilck (.k x0)) h 7 fun x7 h =>
 vfaddr 1 x7 h fun x8 h =>
 vload false 1 x8 h fun x9 h =>
 vop O (.nilck (.k x0)) h 11 fun x11 h =>
 vfaddr 0 x11 h fun x12 h =>
 vload false 1 x12 h fun x13 h =>
 vindex x13 x9 h fun x15 h =>
 vbin .eql 0 x15 (.v (.c (.p (.int .u8 45)))) h fun x16 h =>
 vif x16 (
 vbin .add 0 x9 (kI 1) h fun x18 h =>
 R 1 [x0, x2, x18] h)
 (R 1 [x0, x2, x9] h)
theorem e208_0 (O : Oracle) (R : Jump) (q : Nat) (x0 : TVal) (h : Heap) : b208_0 O R q x0 h = stepF c208 O R q 0 [x0] h := by kernel_rfl
noncomputable def b208_1 (O : Oracle) (R : Jump) (q : Nat) (x0 x2 x3 : TVal) (h : Heap) : Res1 :=
 vop O (.nilck (.k x0)) h 21 fun x21 h =>
 vfaddr 0 x21 h fun x22 h =>
 vload false 1 x22 h fun x23 h =>
 vlen O 0 x23 h 24 fun x24 h =>
 vbin .geq 0 x3 x24 h fun x25 h =>
 vguard x25 false (fun kk => kk x0 h) h fun x27 h =>
 vguard x25 false (fun kk => vop O (.nilck (.k x27)) h 28 kk) h fun x28 h =>
 vguard x25 false (fun kk => vfaddr 0 x28 h kk) h fun x29 h =>
 vguard x25 false (fun kk => vload false 1 x29 h kk) h fun x30 h =>
 vguard x25 false (fun kk => kk x3 h) h fun x31 h =>
 vguard x25 false (fun kk => vindex x30 x31 h kk) h fun x32 h =>
 vguard x25 false (fun kk => vcall O (.v (.c (.func 204 []))) [x32] h 33 kk) h fun x33 h =>
 vguard x25 false (fun kk => vop O (.un .not (.k x33)) h 34 kk) h fun x34 h =>
 vop O (.pick (.k x25) (.k (kB true)) (.k x34)) h 35 fun x35 h =>
 vif x35 (
 vcall O (.v (.c (.func 141 []))) [x0, (kI 12)] h 37 fun x37 h =>
 vop O (.build [(.p (.int .i64 0)), (.p (.bool false)), (.p (.int .i64 0)), (.p (.str [])), (.p .nilslice), (.p .nilslice)] []) h 38 fun x38 h =>
 vstore 6 x2 x38 h fun _ h =>
 vcell true 6 x2 h fun c0 => vfin true q [c0] h)
 (vop O (.nilck (.k x0)) h 40 fun x40 h =>
 vfaddr 0 x40 h fun x41 h =>
 vload false 1 x41 h fun x42 h =>
 vindex x42 x3 h fun x44 h =>
 vbin .eql 0 x44 (.v (.c (.p (.int .u8 48)))) h fun x45 h =>
 vif x45 (
 vbin .add 0 x3 (kI 1) h fun x47 h =>
 R 3 [x0, x2, x47] h)
 (R 2 [x0, x2, x3] h))
theorem e208_1 (O : Oracle) (R : Jump) (q : Nat) (x0 x2 x3 : TVal) (h : Heap) : b208_1 O R q x0 x2 x3 h = stepF c208 O R q 1 [x0, x2, x3] h := by kernel_rfl
noncomputable def b208_2 (O : Oracle) (R : Jump) (q : Nat) (x0 x2 x3 : TVal) (h : Heap) : Res1 :=
 vop O (.nilck (.k x0)) h 50 fun x50 h =>
 vfaddr 0 x50 h fun x51 h =>
 vload false 1 x51 h fun x52 h =>
 vlen O 0 x52 h 53 fun x53 h =>
 vbin .lss 0 x3 x53 h fun x54 h =>
 vguard x54 true (fun kk => kk x0 h) h fun x56 h =>
 vguard x54 true (fun kk => vop O (.nilck (.k x56)) h 57 kk) h fun x57 h =>
 vguard x54 true (fun kk => vfaddr 0 x57 h kk) h fun x58 h =>
 vguard x54 true (fun kk => vload false 1 x58 h kk) h fun x59 h =>
 vguard x54 true (fun kk => kk x3 h) h fun x60 h =>
 vguard x54 true (fun kk => vindex x59 x60 h kk) h fun x61 h =>
 vguard x54 true (fun kk => vcall O (.v (.c (.func 204 []))) [x61] h 62 kk) h fun x62 h =>
 vop O (.pick (.k x54) (.k x62) (.k (kB false))) h 63 fun x63 h =>
 vif x63 (
 vbin .add 0 x3 (kI 1) h fun x65 h =>
 R 2 [x0, x2, x65] h)
 (R 3 [x0, x2, x3] h)
theorem e208_2 (O : Oracle) (R : Jump) (q : Nat) (x0 x2 x3 : TVal) (h : Heap) : b208_2 O R q x0 x2 x3 h = stepF c208 O R q 2 [x0, x2, x3] h := by kernel_rfl
noncomputable def b208_3 (O : Oracle) (R : Jump) (q : Nat) (x0 x2 x3 : TVal) (h : Heap) : Res1 :=
 vop O (.nilck (.k x0)) h 68 fun x68 h =>
 vfaddr 0 x68 h fun x69 h =>
 vload false 1 x69 h fun x70 h =>
 vop O (.nilck (.k x0)) h 72 fun x72 h =>
 vfaddr 1 x72 h fun x73 h =>
 vload false 1 x73 h fun x74 h =>
 vop O (.slice 0 true (.k x70) (some (.k x74)) (some (.k x3)) none) h 76 fun x76 h =>
 vcall O (.v (.c (.func 186 []))) [x76] h 77 fun x77 h =>
 vext x77 0 h fun x78 h =>
 vext x77 1 h fun x79 h =>
 vbin .neq 0 x79 (kI 0) h fun x81 h =>
 vif x81 (
 vcall O (.v (.c (.func 141 []))) [x0, (kI 11)] h 83 fun x83 h =>
 vop O (.build [(.p (.int .i64 0)), (.p (.bool false)), (.p (.int .i64 0)), (.p (.str [])), (.p .nilslice), (.p .nilslice)] []) h 84 fun x84 h =>
 vstore 6 x2 x84 h fun _ h =>
 vcell true 6 x2 h fun c0 => vfin true q [c0] h)
 (vop O (.nilck (.k x0)) h 87 fun x87 h =>
 vfaddr 1 x87 h fun x88 h =>
 vstore 1 x88 x3 h fun _ h =>
 vop O (.build [(.p (.int .i64 0)), (.p (.bool false)), (.p (.int .i64 0)), (.p (.str [])), (.p .nilslice), (.p .nilslice)] [(0, 1, (.k (kI 2))), (2, 1, (.k x78))]) h 90 fun x90 h =>
 vstore 6 x2 x90 h fun _ h =>
 vcell true 6 x2 h fun c0 => vfin true q [c0] h)
theorem e208_3 (O : Oracle) (R : Jump) (q : Nat) (x0 x2 x3 : TVal) (h : Heap) : b208_3 O R q x0 x2 x3 h = stepF c208 O R q 3 [x0, x2, x3] h := by kernel_rfl
noncomputable def d208 : BlkF := fun O R q => [.s fun y0 => .z fun h => b208_0 O R q y0 h, .s fun y0 => .s fun y1 => .s fun y2 => .z fun h => b208_1 O R q y0 y1 y2 h, .s fun y0 => .s fun y1 => .s fun y2 => .z fun h => b208_2 O R q y0 y1 y2 h, .s fun y0 => .s fun y1 => .s fun y2 => .z fun h => b208_3 O R q y0 y1 y2 h]
theorem o208 (O : Oracle) (R : Jump) (q : Nat) : HoldsAll c208 O R q 0 (d208 O R q) := ⟨fun y0 h => e208_0 O R q y0 h, fun y0 y1 y2 h => e208_1 O R q y0 y1 y2 h, fun y0 y1 y2 h => e208_2 O R q y0 y1 y2 h, fun y0 y1 y2 h => e208_3 O R q y0 y1 y2 h, trivial⟩
/- sprue/scan.digit -/
def c228 : MFunc := { np := 1, res := [.t 2], frz := true, body := (.seq (.reg [(oA 2 (.mv (.k (.v (.c (.p (.bool false)))))))] []) (.seq (.reg [(oA 3 (.mv (.t 0))), (oA 4 (.bin .geq 0 (.t 3) (.k (.v (.c (.p (.int .u8 48))))))), (oA 5 (.mv (.t 4))), ⟨(some 6), (.mv (.t 0)), (some (5, true))⟩, ⟨(some 7), (.bin .leq 0 (.t 6) (.k (.v (.c (.p (.int .u8 57)))))), (some (5, true))⟩, (oA 8 (.pick (.t 5) (.t 7) (.k (.v (.c (.p (.bool false))))))), (oA 2 (.mv (.t 8)))] []) .ret)) }
theorem t228 : compF Tryz.prog (globs2 tabs opq) (fun _ => false) true Tryz.f228 = some c228.erase := by kernel_rfl
noncomputable def b228_0 (O : Oracle) (R : Jump) (q : Nat) (x0 : TVal) (h : Heap) : Res1 :=
 vbin .geq 0 x0 (.v (.c (.p (.int .u8 48)))) h fun x4 h =>
 vguard x4 true (fun kk => kk x0 h) h fun x6 h =>
 vguard x4 true (fun kk => vbin .leq 0 x6 (.v (.c (.p (.int .u8 57)))) h kk) h fun x7 h =>
 vop O (.pick (.k x4) (.k x7) (.k (kB false))) h 8 fun x8 h =>
 tcomp x8 fun c0 => vfin true q [c0] h
theorem e228_0 (O : Oracle) (R : Jump) (q : Nat) (x0 : TVal) (h : Heap) : b228_0 O R q x0 h = stepF c228 O R q 0 [x0] h := by kernel_rfl
noncomputable def d228 : BlkF := fun O R q => [.s fun y0 => .z fun h => b228_0 O R q y0 h]
theorem o228 (O : Oracle) (R : Jump) (q : Nat) : HoldsAll c228 O R q 0 (d228 O R q) := ⟨fun y0 h => e228_0 O R q y0 h, trivial⟩
/- sprue/scan.row -/
def c229 : MFunc := { np := 1, res := [.t 2], frz := true, body := (.seq (.reg [(oA 2 (.mv (.k (.v (.c (.p (.int .i64 0)))))))] []) (.seq (.reg [(oA 3 (.mv (.t 0))), (oA 4 (.call (.k (.v (.c (.func 262 [])))) [(.t 3), (.k (.v (.c (.func 263 []))))])), (oA 2 (.mv (.t 4)))] []) .ret)) }
theorem t229 : compF Tryz.prog (globs2 tabs opq) (fun _ => false) true Tryz.f229 = some c229.erase := by kernel_rfl
noncomputable def b229_0 (O : Oracle) (R : Jump) (q : Nat) (x0 : TVal) (h : Heap) : Res1 :=
 vcall O (.v (.c (.func 262 []))) [x0, (.v (.c (.func 263 [])))] h 4 fun x4 h =>
 tcomp x4 fun c0 => vfin true q [c0] h
theorem e229_0 (O : Oracle) (R : Jump) (q : Nat) (x0 : TVal) (h : Heap) : b229_0 O R q x0 h = stepF c229 O R q 0 [x0] h := by kernel_rfl
noncomputable def d229 : BlkF := fun O R q => [.s fun y0 => .z fun h => b229_0 O R q y0 h]
theorem o229 (O : Oracle) (R : Jump) (q : Nat) : HoldsAll c229 O R q 0 (d229 O R q) := ⟨fun y0 h => e229_0 O R q y0 h, trivial⟩
/- strings.Index -/
def c230 : MFunc := { np := 2, res := [.t 4], frz := true, body := (.seq (.reg [(oA 4 (.mv (.k (.v (.c (.p (.int .i64 0)))))))] []) (.seq (.reg [(oA 5 (.mv (.t 0))), (oA 6 (.mv (.t 1))), (oA 7 (.call (.k (.v (.c (.func 264 [])))) [(.t 5), (.t 6)])), (oA 4 (.mv (.t 7)))] []) .ret)) }
theorem t230 : compF Tryz.prog (globs2 tabs opq) (fun _ => false) true Tryz.f230 = some c230.erase := by kernel_rfl
noncomputable def b230_0 (O : Oracle) (R : Jump) (q : Nat) (x0 x1 : TVal) (h : Heap) : Res1 :=
 vcall O (.v (.c (.func 264 []))) [x0, x1] h 7 fun x7 h =>
 tcomp x7 fun c0 => vfin true q [c0] h
theorem e230_0 (O : Oracle) (R : Jump) (q : Nat) (x0 x1 : TVal) (h : Heap) : b230_0 O R q x0 x1 h = stepF c230 O R q 0 [x0, x1] h := by kernel_rfl
noncomputable def d230 : BlkF := fun O R q => [.s fun y0 => .s fun y1 => .z fun h => b230_0 O R q y0 y1 h]
theorem o230 (O : Oracle) (R : Jump) (q : Nat) : HoldsAll c230 O R q 0 (d230 O R q) := ⟨fun y0 y1 h => e230_0 O R q y0 y1 h, trivial⟩
/- slices.IndexFunc[[]sprue/api.Value,sprue/api.Value] -/
def c231 : MFunc := { np := 2, res := [.t 4], frz := true, body := (.seq (.reg [(oA 4 (.mv (.k (.v (.c (.p (.int .i64 0)))))))] []) (.seq (.seq (.reg [(oA 6 (.mv (.t 0))), (oA 7 (.len 2 (.t 6))), (oA 8 (.mv (.k (.v (.c (.p (.int .i64 0)))))))] []) (.block 0 (.loop 1 [0, 1, 7, 8] (.seq (.reg [(oA 9 (.bin .lss 0 (.t 8) (.t 7)))] []) (.seq (.cond (.t 9) .skip (.exit 0)) (.seq (.block 1 (.seq (.reg [(oA 10 (.mv (.t 8))), (oA 5 (.mv (.t 10)))] []) (.seq (.reg [(oA 11 (.mv (.t 1))), (oA 12 (.mv (.t 0))), (oA 13 (.mv (.t 5))), (oA 14 (.iaddr 6 (.t 12) (.t 13))), (oA 15 (.load true 6 (.t 14))), (oA 16 (.call (.t 11) [(.t 15)]))] []) (.cond (.t 16) (.seq (.reg [(oA 17 (.mv (.t 5))), (oA 4 (.mv (.t 17)))] []) .ret) .skip)))) (.reg [(oA 18 (.bin .add 0 (.t 8) (.k (.v (.c (.p (.int .i64 1))))))), (oA 8 (.mv (.t 18)))] []))))))) (.seq (.reg [(oA 4 (.mv (.k (.v (.c (.p (.int .i64 (-1))))))))] []) .ret))) }
theorem t231 : compF Tryz.prog (globs2 tabs opq) (fun _ => false) true Tryz.f231 = some c231.erase := by kernel_rfl
noncomputable def b231_0 (O : Oracle) (R : Jump) (q : Nat) (x0 x1 : TVal) (h : Heap) : Res1 :=
 vlen O 2 x0 h 7 fun x7 h =>
 R 1 [x0, x1, x7, (kI 0)] h
theorem e231_0 (O : Oracle) (R : Jump) (q : Nat) (x0 x1 : TVal) (h : Heap) : b231_0 O R q x0 x1 h = stepF c231 O R q 0 [x0, x1] h := by kernel_rfl
noncomputable def b231_1 (O : Oracle) (R : Jump) (q : Nat) (x0 x1 x7 x8 : TVal) (h : Heap) : Res1 :=
 vbin .lss 0 x8 x7 h fun x9 h =>
 vif x9 (
 viaddr 6 x0 x8 h fun x14 h =>
 vload true 6 x14 h fun x15 h =>
 vcall O x1 [x15] h 16 fun x16 h =>
 vif x16 (
 tcomp x8 fun c0 => vfin true q [c0] h)
 (vbin .add 0 x8 (kI 1) h fun x18 h =>
 R 1 [x0, x1, x7, x18] h))
 (tcomp (kI (-1)) fun c0 => vfin true q [c0] h)
theorem e231_1 (O : Oracle) (R : Jump) (q : Nat) (x0 x1 x7 x8 : TVal) (h : Heap) : b231_1 O R q x0 x1 x7 x8 h = stepF c231 O R q 1 [x0, x1, x7, x8] h := by kernel_rfl
noncomputable def d231 : BlkF := fun O R q => [.s fun y0 => .s fun y1 => .z fun h => b231_0 O R q y0 y1 h, .s fun y0 => .s fun y1 => .s fun y2 => .s fun y3 => .z fun h => b231_1 O R q y0 y1 y2 y3 h]
theorem o231 (O : Oracle) (R : Jump) (q : Nat) : HoldsAll c231 O R q 0 (d231 O R q) := ⟨fun y0 y1 h => e231_0 O R q y0 y1 h, fun y0 y1 y2 y3 h => e231_1 O R q y0 y1 y2 y3 h, trivial⟩
/- internal/strconv.FormatInt -/
def c232 : MFunc := { np := 2, res := [.t 4], frz := true, body := (.seq (.reg [(oA 4 (.mv (.k (.v (.c (.p (.str [])))))))] []) (.seq (.seq (.reg [(oA 10 (.mv (.t 1))), (oA 11 (.bin .eql 0 (.t 10) (.k (.v (.c (.p (.int .i64 10)))))))] []) (.cond (.t 11) (.seq (.seq (.reg [(oA 12 (.mv (.t 0))), (oA 13 (.bin .leq 0 (.k (.v (.c (.p (.int .i64 0))))) (.t 12))), (oA 14 (.mv (.t 13))), ⟨(some 15), (.mv (.t 0)), (some (14, true))⟩, ⟨(some 16), (.bin .lss 0 (.t 15) (.k (.v (.c (.p (.int .i64 100)))))), (some (14, true))⟩, (oA 17 (.pick (.t 14) (.t 16) (.k (.v (.c (.p (.bool false)))))))] []) (.cond (.t 17) (.seq (.reg [(oA 18 (.mv (.t 0))), (oA 19 (.call (.k (.v (.c (.func 265 [])))) [(.t 18)])), (oA 4 (.mv (.t 19)))] []) .ret) .skip)) (.seq (.reg [(oA 5 (.alloc [(.p (.int .u8 0)), (.p (.int .u8 0)), (.p (.int .u8 0)), (.p (.int .u8 0)), (.p (.int .u8 0)), (.p (.int .u8 0)), (.p (.int .u8 0)), (.p (.int .u8 0)), (.p (.int .u8 0)), (.p (.int .u8 0)), (.p (.int .u8 0)), (.p (.int .u8 0)), (.p (.int .u8 0)), (.p (.int .u8 0)), (.p (.int .u8 0)), (.p (.int .u8 0)), (.p (.int .u8 0)), (.p (.int .u8 0)), (.p (.int .u8 0)), (.p (.int .u8 0)), (.p (.int .u8 0)), (.p (.int .u8 0)), (.p (.int .u8 0)), (.p (.int .u8 0))] false))] []) (.seq (.reg [(oA 20 (.mv (.t 0))), (oA 21 (.toInt .u64 (.t 20))), (oA 6 (.mv (.t 21)))] []) (.seq (.seq (.reg [(oA 22 (.mv (.t 0))), (oA 23 (.bin .lss 0 (.t 22) (.k (.v (.c (.p (.int .i64 0)))))))] []) (.cond (.t 23) (.reg [(oA 24 (.mv (.t 6))), (oA 25 (.un .neg (.t 24))), (oA 6 (.mv (.t 25)))] []) .skip)) (.mark 1 [0, 5, 6] (.seq (.reg [(oA 26 (.mv (.t 6))), (oA 27 (.call (.k (.v (.c (.func 266 [])))) [(.t 26)])), (oA 7 (.mv (.t 27)))] []) (.seq (.reg [(oA 28 (.mv (.t 7))), (oA 29 (.bin .add 0 (.k (.v (.c (.p (.int .i64 1))))) (.t 28))), (oA 30 (.sliceA 24 1 (.t 5) (some (.k (.v (.c (.p (.int .i64 1)))))) (some (.t 29)))), (oA 31 (.mv (.t 6))), (oA 32 (.call (.k (.v (.c (.func 267 [])))) [(.t 30), (.t 31)]))] []) (.seq (.seq (.reg [(oA 33 (.mv (.t 0))), (oA 34 (.bin .lss 0 (.t 33) (.k (.v (.c (.p (.int .i64 0)))))))] []) (.cond (.t 34) (.seq (.reg [(oA 35 (.iaddrA 24 1 (.t 5) (.k (.v (.c (.p (.int .i64 0))))))), (oN (.store 1 (.t 35) (.k (.v (.c (.p (.int .u8 45)))))))] []) (.seq (.reg [(oA 36 (.mv (.t 7))), (oA 37 (.bin .add 0 (.k (.v (.c (.p (.int .i64 1))))) (.t 36))), (oA 38 (.sliceA 24 1 (.t 5) none (some (.t 37)))), (oA 39 (.toStr (.t 38))), (oA 4 (.mv (.t 39)))] []) .ret)) .skip)) (.seq (.reg [(oA 40 (.mv (.t 7))), (oA 41 (.bin .add 0 (.k (.v (.c (.p (.int .i64 1))))) (.t 40))), (oA 42 (.sliceA 24 1 (.t 5) (some (.k (.v (.c (.p (.int .i64 1)))))) (some (.t 41)))), (oA 43 (.toStr (.t 42))), (oA 4 (.mv (.t 43)))] []) .ret))))))))) .skip)) (.seq (.reg [(oA 45 (.mv (.t 0))), (oA 46 (.toInt .u64 (.t 45))), (oA 47 (.mv (.t 1))), (oA 48 (.mv (.t 0))), (oA 49 (.bin .lss 0 (.t 48) (.k (.v (.c (.p (.int .i64 0))))))), (oA 50 (.call (.k (.v (.c (.func 268 [])))) [(.k (.v (.c (.p .nilslice)))), (.t 46), (.t 47), (.t 49), (.k (.v (.c (.p (.bool false)))))])), (oA 44 (.mv (.t 50))), (oA 51 (.extract (.t 44) 0)), (oA 52 (.extract (.t 44) 1)), (oA 8 (.mv (.t 51))), (oA 9 (.mv (.t 52)))] []) (.seq (.reg [(oA 53 (.mv (.t 9))), (oA 4 (.mv (.t 53)))] []) .ret)))) }
theorem t232 : compF Tryz.prog (globs2 tabs opq) (fun _ => false) true Tryz.f232 = some c232.erase := by kernel_rfl
noncomputable def b232_0 (O : Oracle) (R : Jump) (q : Nat) (x0 x1 : TVal) (h : Heap) : Res1 :=
 vbin .eql 0 x1 (kI 10) h fun x11 h =>
 vif x11 (
 vbin .leq 0 (kI 0) x0 h fun x13 h =>
 vguard x13 true (fun kk => kk x0 h) h fun x15 h =>
 vguard x13 true (fun kk => vbin .lss 0 x15 (kI 100) h kk) h fun x16 h =>
 vop O (.pick (.k x13) (.k x16) (.k (kB false))) h 17 fun x17 h =>
 vif x17 (
 vcall O (.v (.c (.func 265 []))) [x0] h 19 fun x19 h =>
 tcomp x19 fun c0 => vfin true q [c0] h)
 (vop O (.alloc [(.p (.int .u8 0)), (.p (.int .u8 0)), (.p (.int .u8 0)), (.p (.int .u8 0)), (.p (.int .u8 0)), (.p (.int .u8 0)), (.p (.int .u8 0)), (.p (.int .u8 0)), (.p (.int .u8 0)), (.p (.int .u8 0)), (.p (.int .u8 0)), (.p (.int .u8 0)), (.p (.int .u8 0)), (.p (.int .u8 0)), (.p (.int .u8 0)), (.p (.int .u8 0)), (.p (.int .u8 0)), (.p (.int .u8 0)), (.p (.int .u8 0)), (.p (.int .u8 0)), (.p (.int .u8 0)), (.p (.int .u8 0)), (.p (.int .u8 0)), (.p (.int .u8 0))] false) h 5 fun x5 h =>
 vtoInt .u64 x0 h fun x21 h =>
 vbin .lss 0 x0 (kI 0) h fun x23 h =>
 vif x23 (
 vop O (.un .neg (.k x21)) h 25 fun x25 h =>
 R 1 [x0, x5, x25] h)
 (R 1 [x0, x5, x21] h)))
 (vtoInt .u64 x0 h fun x46 h =>
 vbin .lss 0 x0 (kI 0) h fun x49 h =>
 vcall O (.v (.c (.func 268 []))) [(.v (.c (.p .nilslice))), x46, x1, x49, (kB false)] h 50 fun x50 h =>
 vext x50 0 h fun x51 h =>
 vext x50 1 h fun x52 h =>
 tcomp x52 fun c0 => vfin true q [c0] h)
theorem e232_0 (O : Oracle) (R : Jump) (q : Nat) (x0 x1 : TVal) (h : Heap) : b232_0 O R q x0 x1 h = stepF c232 O R q 0 [x0, x1] h := by kernel_rfl
noncomputable def b232_1 (O : Oracle) (R : Jump) (q : Nat) (x0 x5 x6 : TVal) (h : Heap) : Res1 :=
 vcall O (.v (.c (.func 266 []))) [x6] h 27 fun x27 h =>
 vbin .add 0 (kI 1) x27 h fun x29 h =>
 vop O (.sliceA 24 1 (.k x5) (some (.k (kI 1))) (some (.k x29))) h 30 fun x30 h =>
 vcall O (.v (.c (.func 267 []))) [x30, x6] h 32 fun x32 h =>
 vbin .lss 0 x0 (kI 0) h fun x34 h =>
 vif x34 (
 vop O (.iaddrA 24 1 (.k x5) (.k (kI 0))) h 35 fun x35 h =>
 vstore 1 x35 (.v (.c (.p (.int .u8 45)))) h fun _ h =>
 vbin .add 0 (kI 1) x27 h fun x37 h =>
 vop O (.sliceA 24 1 (.k x5) none (some (.k x37))) h 38 fun x38 h =>
 vop O (.toStr (.k x38)) h 39 fun x39 h =>
 tcomp x39 fun c0 => vfin true q [c0] h)
 (vbin .add 0 (kI 1) x27 h fun x41 h =>
 vop O (.sliceA 24 1 (.k x5) (some (.k (kI 1))) (some (.k x41))) h 42 fun x42 h =>
 vop O (.toStr (.k x42)) h 43 fun x43 h =>
 tcomp x43 fun c0 => vfin true q [c0] h)
theorem e232_1 (O : Oracle) (R : Jump) (q : Nat) (x0 x5 x6 : TVal) (h : Heap) : b232_1 O R q x0 x5 x6 h = stepF c232 O R q 1 [x0, x5, x6] h := by kernel_rfl
noncomputable def d232 : BlkF := fun O R q => [.s fun y0 => .s fun y1 => .z fun h => b232_0 O R q y0 y1 h, .s fun y0 => .s fun y1 => .s fun y2 => .z fun h => b232_1 O R q y0 y1 y2 h]
theorem o232 (O : Oracle) (R : Jump) (q : Nat) : HoldsAll c232 O R q 0 (d232 O R q) := ⟨fun y0 y1 h => e232_0 O R q y0 y1 h, fun y0 y1 y2 h => e232_1 O R q y0 y1 y2 h, trivial⟩
/- internal/strconv.FormatBool -/
def c233 : MFunc := { np := 1, res := [.t 2], frz := true, body := (.seq (.reg [(oA 2 (.mv (.k (.v (.c (.p (.str [])))))))] []) (.seq (.seq (.reg [(oA 3 (.mv (.t 0)))] []) (.cond (.t 3) (.seq (.reg [(oA 2 (.mv (.k (.v (.c (.p (.str [116, 114, 117, 101])))))))] []) .ret) .skip)) (.seq (.reg [(oA 2 (.mv (.k (.v (.c (.p (.str [102, 97, 108, 115, 101])))))))] []) .ret))) }
theorem t233 : compF Tryz.prog (globs2 tabs opq) (fun _ => false) true Tryz.f233 = some c233.erase := by kernel_rfl
noncomputable def b233_0 (O : Oracle) (R : Jump) (q : Nat) (x0 : TVal) (h : Heap) : Res1 :=
 vif x0 (
 tcomp (kS [116, 114, 117, 101]) fun c0 => vfin true q [c0] h)
 (tcomp (kS [102, 97, 108, 115, 101]) fun c0 => vfin true q [c0] h)
theorem e233_0 (O : Oracle) (R : Jump) (q : Nat) (x0 : TVal) (h : Heap) : b233_0 O R q x0 h = stepF c233 O R q 0 [x0] h := by kernel_rfl
noncomputable def d233 : BlkF := fun O R q => [.s fun y0 => .z fun h => b233_0 O R q y0 h]
theorem o233 (O : Oracle) (R : Jump) (q : Nat) : HoldsAll c233 O R q 0 (d233 O R q) := ⟨fun y0 h => e233_0 O R q y0 h, trivial⟩
/- slices.Clone[[]string,string] -/
def c234 : MFunc := { np := 1, res := [.t 2], frz := true, body := (.seq (.reg [(oA 2 (.mv (.k (.v (.c (.p .nilslice))))))] []) (.seq (.seq (.reg [(oA 3 (.mv (.t 0))), (oA 4 (.bin .eql 2 (.t 3) (.k (.v (.c (.p .nilslice))))))] []) (.cond (.t 4) (.seq (.reg [(oA 2 (.mv (.k (.v (.c (.p .nilslice))))))] []) .ret) .skip)) (.seq (.reg [(oA 5 (.bslice 1 0 [(.p (.str []))] [] false)), (oA 6 (.mv (.t 0))), (oA 7 (.append 1 16 false (.t 5) (.t 6))), (oA 2 (.mv (.t 7)))] []) .ret))) }
theorem t234 : compF Tryz.prog (globs2 tabs opq) (fun _ => false) true Tryz.f234 = some c234.erase := by kernel_rfl
noncomputable def b234_0 (O : Oracle) (R : Jump) (q : Nat) (x0 : TVal) (h : Heap) : Res1 :=
 vbin .eql 2 x0 (.v (.c (.p .nilslice))) h fun x4 h =>
 vif x4 (
 tcomp (.v (.c (.p .nilslice))) fun c0 => vfin true q [c0] h)
 (vop O (.bslice 1 0 [(.p (.str []))] [] false) h 5 fun x5 h =>
 vop O (.append 1 16 false (.k x5) (.k x0)) h 7 fun x7 h =>
 tcomp x7 fun c0 => vfin true q [c0] h)
theorem e234_0 (O : Oracle) (R : Jump) (q : Nat) (x0 : TVal) (h : Heap) : b234_0 O R q x0 h = stepF c234 O R q 0 [x0] h := by kernel_rfl
noncomputable def d234 : BlkF := fun O R q => [.s fun y0 => .z fun h => b234_0 O R q y0 h]
theorem o234 (O : Oracle) (R : Jump) (q : Nat) : HoldsAll c234 O R q 0 (d234 O R q) := ⟨fun y0 h => e234_0 O R q y0 h, trivial⟩
/- sprue/scan.letter -/
def c237 : MFunc := { np := 1, res := [.t 2], frz := true, body := (.seq (.reg [(oA 2 (.mv (.k (.v (.c (.p (.bool false)))))))] []) (.seq (.reg [(oA 3 (.mv (.t 0))), (oA 4 (.bin .eql 0 (.t 3) (.k (.v (.c (.p (.int .u8 95))))))), (oA 5 (.mv (.t 4))), ⟨(some 6), (.mv (.t 0)), (some (5, false))⟩, ⟨(some 7), (.bin .or 0 (.t 6) (.k (.v (.c (.p (.int .u8 32)))))), (some (5, false))⟩, ⟨(some 8), (.bin .geq 0 (.t 7) (.k (.v (.c (.p (.int .u8 97)))))), (some (5, false))⟩, ⟨(some 9), (.mv (.t 8)), (some (5, false))⟩, ⟨(some 10), (.mv (.t 0)), (some (9, true))⟩, ⟨(some 11), (.bin .or 0 (.t 10) (.k (.v (.c (.p (.int .u8 32)))))), (some (9, true))⟩, ⟨(some 12), (.bin .leq 0 (.t 11) (.k (.v (.c (.p (.int .u8 122)))))), (some (9, true))⟩, ⟨(some 13), (.pick (.t 9) (.t 12) (.k (.v (.c (.p (.bool false)))))), (some (5, false))⟩, (oA 14 (.pick (.t 5) (.k (.v (.c (.p (.bool true))))) (.t 13))), (oA 2 (.mv (.t 14)))] []) .ret)) }
theorem t237 : compF Tryz.prog (globs2 tabs opq) (fun _ => false) true Tryz.f237 = some c237.erase := by kernel_rfl
noncomputable def b237_0 (O : Oracle) (R : Jump) (q : Nat) (x0 : TVal) (h : Heap) : Res1 :=
 vbin .eql 0 x0 (.v (.c (.p (.int .u8 95)))) h fun x4 h =>
 vguard x4 false (fun kk => kk x0 h) h fun x6 h =>
 vguard x4 false (fun kk => vbin .or 0 x6 (.v (.c (.p (.int .u8 32)))) h kk) h fun x7 h =>
 vguard x4 false (fun kk => vbin .geq 0 x7 (.v (.c (.p (.int .u8 97)))) h kk) h fun x8 h =>
 vguard x4 false (fun kk => kk x8 h) h fun x9 h =>
 vguard x9 true (fun kk => kk x0 h) h fun x10 h =>
 vguard x9 true (fun kk => vbin .or 0 x10 (.v (.c (.p (.int .u8 32)))) h kk) h fun x11 h =>
 vguard x9 true (fun kk => vbin .leq 0 x11 (.v (.c (.p (.int .u8 122)))) h kk) h fun x12 h =>
 vguard x4 false (fun kk => vop O (.pick (.k x9) (.k x12) (.k (kB false))) h 13 kk) h fun x13 h =>
 vop O (.pick (.k x4) (.k (kB true)) (.k x13)) h 14 fun x14 h =>
 tcomp x14 fun c0 => vfin true q [c0] h
theorem e237_0 (O : Oracle) (R : Jump) (q : Nat) (x0 : TVal) (h : Heap) : b237_0 O R q x0 h = stepF c237 O R q 0 [x0] h := by kernel_rfl
noncomputable def d237 : BlkF := fun O R q => [.s fun y0 => .z fun h => b237_0 O R q y0 h]
theorem o237 (O : Oracle) (R : Jump) (q : Nat) : HoldsAll c237 O R q 0 (d237 O R q) := ⟨fun y0 h => e237_0 O R q y0 h, trivial⟩
/- (*sprue/sprueref7.reader).operand -/
def c246 : MFunc := { np := 2, res := [.cell 4 true 7], frz := true, body := (.seq (.reg [(oA 4 (.alloc [(.p (.int .i64 0)), (.p (.str [])), (.p .nilslice), (.p (.str [])), (.p (.int .i64 0)), (.p (.bool false)), (.p .nilslice)] false))] []) (.seq (.seq (.reg [(oA 9 (.mv (.t 0))), (oA 10 (.call (.k (.v (.c (.func 247 [])))) [(.t 9)])), (oA 11 (.un .not (.t 10)))] []) (.cond (.t 11) (.seq (.reg [(oA 12 (.mv (.t 0))), (oA 13 (.call (.k (.v (.c (.func 190 [])))) [(.t 12), (.k (.v (.c (.p (.int .i64 12)))))]))] []) (.seq (.reg [(oA 14 (.build [(.p (.int .i64 0)), (.p (.str [])), (.p .nilslice), (.p (.str [])), (.p (.int .i64 0)), (.p (.bool false)), (.p .nilslice)] [])), (oN (.store 7 (.t 4) (.t 14)))] []) .ret)) .skip)) (.seq (.reg [(oA 15 (.mv (.t 0))), (oA 16 (.nilck (.t 15))), (oA 17 (.faddr 0 (.t 16))), (oA 18 (.load false 1 (.t 17))), (oA 19 (.mv (.t 0))), (oA 20 (.nilck (.t 19))), (oA 21 (.faddr 1 (.t 20))), (oA 22 (.load false 1 (.t 21))), (oA 23 (.iaddr 4 (.t 18) (.t 22))), (oA 24 (.load true 4 (.t 23))), (oA 5 (.alloc [(.p (.int .i64 0)), (.p (.str [])), (.p (.int .i64 0)), (.p (.int .i64 0))] false)), (oN (.store 4 (.t 5) (.t 24)))] [(3, 10), (7, 10), (9, 10)]) (.seq (.block 0 (.seq (.reg [(oA 26 (.faddr 0 (.t 5))), (oA 27 (.load false 1 (.t 26))), (oA 28 (.bin .eql 0 (.t 27) (.k (.v (.c (.p (.int .i64 2))))))), (oA 25 (.mv (.t 28)))] []) (.cond (.t 25) (.seq (.reg [(oA 29 (.mv (.t 0))), (oA 30 (.nilck (.t 29))), (oA 31 (.faddr 1 (.t 30))), (oA 32 (.load false 1 (.t 31))), (oA 33 (.bin .add 0 (.t 32) (.k (.v (.c (.p (.int .i64 1))))))), (oA 34 (.nilck (.t 29))), (oA 35 (.faddr 1 (.t 34))), (oN (.store 1 (.t 35) (.t 33)))] []) (.seq (.reg [(oA 36 (.faddr 1 (.t 5))), (oA 37 (.load false 1 (.t 36))), (oA 38 (.build [(.p (.int .i64 0)), (.p (.str [])), (.p .nilslice), (.p (.str [])), (.p (.int .i64 0)), (.p (.bool false)), (.p .nilslice)] [(0, 1, (.k (.v (.c (.p (.int .i64 2)))))), (3, 1, (.t 37))])), (oN (.store 7 (.t 4) (.t 38)))] []) .ret)) (.seq (.reg [(oA 40 (.faddr 0 (.t 5))), (oA 41 (.load false 1 (.t 40))), (oA 42 (.bin .eql 0 (.t 41) (.k (.v (.c (.p (.int .i64 3))))))), (oA 39 (.mv (.t 42)))] []) (.cond (.t 39) (.seq (.reg [(oA 43 (.mv (.t 0))), (oA 44 (.nilck (.t 43))), (oA 45 (.faddr 1 (.t 44))), (oA 46 (.load false 1 (.t 45))), (oA 47 (.bin .add 0 (.t 46) (.k (.v (.c (.p (.int .i64 1))))))), (oA 48 (.nilck (.t 43))), (oA 49 (.faddr 1 (.t 48))), (oN (.store 1 (.t 49) (.t 47)))] []) (.seq (.reg [(oA 50 (.faddr 2 (.t 5))), (oA 51 (.load false 1 (.t 50))), (oA 52 (.build [(.p (.int .i64 0)), (.p (.str [])), (.p .nilslice), (.p (.str [])), (.p (.int .i64 0)), (.p (.bool false)), (.p .nilslice)] [(0, 1, (.k (.v (.c (.p (.int .i64 3)))))), (4, 1, (.t 51))])), (oN (.store 7 (.t 4) (.t 52)))] []) .ret)) (.seq (.reg [(oA 54 (.faddr 0 (.t 5))), (oA 55 (.load false 1 (.t 54))), (oA 56 (.bin .eql 0 (.t 55) (.k (.v (.c (.p (.int .i64 1))))))), (oA 53 (.mv (.t 56)))] []) (.cond (.t 53) (.seq (.reg [(oA 57 (.mv (.t 0))), (oA 58 (.nilck (.t 57))), (oA 59 (.faddr 1 (.t 58))), (oA 60 (.load false 1 (.t 59))), (oA 61 (.bin .add 0 (.t 60) (.k (.v (.c (.p (.int .i64 1))))))), (oA 62 (.nilck (.t 57))), (oA 63 (.faddr 1 (.t 62))), (oN (.store 1 (.t 63) (.t 61)))] []) (.seq (.reg [(oA 64 (.faddr 1 (.t 5))), (oA 65 (.load false 1 (.t 64))), (oA 66 (.bin .eql 0 (.t 65) (.k (.v (.c (.p (.str [116, 114, 117, 101]))))))), (oA 67 (.build [(.p (.int .i64 0)), (.p (.str [])), (.p .nilslice), (.p (.str [])), (.p (.int .i64 0)), (.p (.bool false)), (.p .nilslice)] [(0, 1, (.k (.v (.c (.p (.int .i64 4)))))), (5, 1, (.t 66))])), (oN (.store 7 (.t 4) (.t 67)))] []) .ret)) (.seq (.reg [(oA 69 (.faddr 1 (.t 5))), (oA 70 (.load false 1 (.t 69))), (oA 71 (.bin .eql 0 (.t 70) (.k (.v (.c (.p (.str [36]))))))), (oA 68 (.mv (.t 71)))] []) (.cond (.t 68) (.seq (.reg [(oA 72 (.mv (.t 0))), (oA 73 (.nilck (.t 72))), (oA 74 (.faddr 1 (.t 73))), (oA 75 (.load false 1 (.t 74))), (oA 76 (.bin .add 0 (.t 75) (.k (.v (.c (.p (.int .i64 1))))))), (oA 77 (.nilck (.t 72))), (oA 78 (.faddr 1 (.t 77))), (oN (.store 1 (.t 78) (.t 76)))] []) (.seq (.reg [(oA 79 (.mv (.t 0))), (oA 80 (.call (.k (.v (.c (.func 128 [])))) [(.t 79), (.k (.v (.c (.p (.int .i64 1)))))])), (oA 6 (.alloc [(.p (.int .i64 0)), (.p (.str [])), (.p (.int .i64 0)), (.p (.int .i64 0))] false)), (oN (.store 4 (.t 6) (.t 80)))] []) (.seq (.reg [(oA 81 (.faddr 1 (.t 6))), (oA 82 (.load false 1 (.t 81))), (oA 83 (.mv (.t 0))), (oA 84 (.faddr 3 (.t 6))), (oA 85 (.load false 1 (.t 84))), (oA 86 (.faddr 1 (.t 6))), (oA 87 (.load false 1 (.t 86))), (oA 88 (.len 0 (.t 87))), (oA 89 (.bin .add 0 (.t 85) (.t 88))), (oA 90 (.call (.k (.v (.c (.func 277 [])))) [(.t 83), (.t 89)])), (oA 91 (.build [(.p (.int .i64 0)), (.p (.str [])), (.p .nilslice), (.p (.str [])), (.p (.int .i64 0)), (.p (.bool false)), (.p .nilslice)] [(0, 1, (.k (.v (.c (.p (.int .i64 1)))))), (1, 1, (.t 82)), (2, 1, (.t 90))])), (oN (.store 7 (.t 4) (.t 91)))] [(1, 9)]) .ret))) (.seq (.reg [(oA 93 (.faddr 1 (.t 5))), (oA 94 (.load false 1 (.t 93))), (oA 95 (.bin .eql 0 (.t 94) (.k (.v (.c (.p (.str [40]))))))), (oA 92 (.mv (.t 95)))] []) (.cond (.t 92) (.seq (.seq (.reg [(oA 96 (.mv (.t 1))), (oA 97 (.bin .add 0 (.t 96) (.k (.v (.c (.p (.int .i64 1))))))), (oA 98 (.bin .gtr 0 (.t 97) (.k (.v (.c (.p (.int .i64 12)))))))] []) (.cond (.t 98) (.seq (.reg [(oA 99 (.mv (.t 0))), (oA 100 (.call (.k (.v (.c (.func 190 [])))) [(.t 99), (.k (.v (.c (.p (.int .i64 13)))))]))] []) (.seq (.reg [(oA 101 (.build [(.p (.int .i64 0)), (.p (.str [])), (.p .nilslice), (.p (.str [])), (.p (.int .i64 0)), (.p (.bool false)), (.p .nilslice)] [])), (oN (.store 7 (.t 4) (.t 101)))] []) .ret)) .skip)) (.seq (.reg [(oA 102 (.mv (.t 0))), (oA 103 (.nilck (.t 102))), (oA 104 (.faddr 1 (.t 103))), (oA 105 (.load false 1 (.t 104))), (oA 106 (.bin .add 0 (.t 105) (.k (.v (.c (.p (.int .i64 1))))))), (oA 107 (.nilck (.t 102))), (oA 108 (.faddr 1 (.t 107))), (oN (.store 1 (.t 108) (.t 106)))] []) (.seq (.reg [(oA 109 (.mv (.t 0))), (oA 110 (.mv (.t 1))), (oA 111 (.bin .add 0 (.t 110) (.k (.v (.c (.p (.int .i64 1))))))), (oA 112 (.call (.k (.v (.c (.func 127 [])))) [(.t 109), (.t 111)])), (oA 7 (.mv (.t 112)))] []) (.seq (.reg [(oA 113 (.mv (.t 0))), (oA 114 (.call (.k (.v (.c (.func 278 [])))) [(.t 113), (.k (.v (.c (.p (.str [41])))))]))] []) (.seq (.reg [(oA 115 (.mv (.t 7))), (oA 116 (.build [(.p (.int .i64 0)), (.p (.str [])), (.p .nilslice), (.p (.str [])), (.p (.int .i64 0)), (.p (.bool false)), (.p .nilslice)] [(0, 1, (.k (.v (.c (.p (.int .i64 5)))))), (6, 1, (.t 115))])), (oN (.store 7 (.t 4) (.t 116)))] []) .ret))))) .skip))))))))))) (.seq (.reg [(oA 117 (.mv (.t 0))), (oA 118 (.call (.k (.v (.c (.func 277 [])))) [(.t 117), (.k (.v (.c (.p (.int .i64 (-1))))))])), (oA 8 (.mv (.t 118)))] []) (.seq (.seq (.reg [(oA 119 (.mv (.t 8))), (oA 120 (.len 2 (.t 119))), (oA 121 (.bin .eql 0 (.t 120) (.k (.v (.c (.p (.int .i64 0)))))))] []) (.cond (.t 121) (.reg [(oA 122 (.mv (.t 0))), (oA 123 (.nilck (.t 122))), (oA 124 (.faddr 1 (.t 123))), (oA 125 (.load false 1 (.t 124))), (oA 126 (.bin .add 0 (.t 125) (.k (.v (.c (.p (.int .i64 1))))))), (oA 127 (.nilck (.t 122))), (oA 128 (.faddr 1 (.t 127))), (oN (.store 1 (.t 128) (.t 126)))] []) .skip)) (.mark 1 [4, 8] (.seq (.reg [(oA 129 (.mv (.t 8))), (oA 130 (.build [(.p (.int .i64 0)), (.p (.str [])), (.p .nilslice), (.p (.str [])), (.p (.int .i64 0)), (.p (.bool false)), (.p .nilslice)] [(0, 1, (.k (.v (.c (.p (.int .i64 1)))))), (2, 1, (.t 129))])), (oN (.store 7 (.t 4) (.t 130)))] []) .ret)))))))) }
theorem t246 : compF Tryz.prog (globs2 tabs opq) (fun _ => false) true Tryz.f246 = some c246.erase := by kernel_rfl
noncomputable def b246_0 (O : Oracle) (R : Jump) (q : Nat) (x0 x1 : TVal) (h : Heap) : Res1 :=
 vop O (.alloc [(.p (.int .i64 0)), (.p (.str [])), (.p .nilslice), (.p (.str [])), (.p (.int .i64 0)), (.p (.bool false)), (.p .nilslice)] false) h 4 fun x4 h =>
 vcall O (.v (.c (.func 247 []))) [x0] h 10 fun x10 h =>
 vop O (.un .not (.k x10)) h 11 fun x11 h =>
 vif x11 (
 vcall O (.v (.c (.func 190 []))) [x0, (kI 12)] h 13 fun x13 h =>
 vop O (.build [(.p (.int .i64 0)), (.p (.str [])), (.p .nilslice), (.p (.str [])), (.p (.int .i64 0)), (.p (.bool false)), (.p .nilslice)] []) h 14 fun x14 h =>
 vstore 7 x4 x14 h fun _ h =>
 vcell true 7 x4 h fun c0 => vfin true q [c0] h)
 (vtouch O (.mv (.k x0)) h 15 fun x15 h t0 =>
 vtouch O (.nilck (.k x15)) h 16 fun x16 h t1 =>
 vtouch O (.faddr 0 (.k x16)) h 17 fun x17 h t2 =>
 vtouch O (.load false 1 (.k x17)) h 18 fun x18 h t3 =>
 vtouch O (.mv (.k x0)) h 19 fun x19 h t4 =>
 vtouch O (.nilck (.k x19)) h 20 fun x20 h t5 =>
 vtouch O (.faddr 1 (.k x20)) h 21 fun x21 h t6 =>
 vtouch O (.load false 1 (.k x21)) h 22 fun x22 h t7 =>
 vtouch O (.iaddr 4 (.k x18) (.k x22)) h 23 fun x23 h t8 =>
 vtouch O (.load true 4 (.k x23)) h 24 fun x24 h t9 =>
 vtouch O (.alloc [(.p (.int .i64 0)), (.p (.str [])), (.p (.int .i64 0)), (.p (.int .i64 0))] false) h 5 fun x5 h t10 =>
 vtouch O (.store 4 (.k x5) (.k x24)) h 1000000 fun _ h t11 =>
 bif apartAll [t0, t1, t2, t3, t4, t5, t6, t7, t8, t9, t10, t11] [(3, 10), (7, 10), (9, 10)] then
 vfaddr 0 x5 h fun x26 h =>
 vload false 1 x26 h fun x27 h =>
 vbin .eql 0 x27 (kI 2) h fun x28 h =>
 vif x28 (
 vop O (.nilck (.k x0)) h 30 fun x30 h =>
 vfaddr 1 x30 h fun x31 h =>
 vload false 1 x31 h fun x32 h =>
 vbin .add 0 x32 (kI 1) h fun x33 h =>
 vop O (.nilck (.k x0)) h 34 fun x34 h =>
 vfaddr 1 x34 h fun x35 h =>
 vstore 1 x35 x33 h fun _ h =>
 vfaddr 1 x5 h fun x36 h =>
 vload false 1 x36 h fun x37 h =>
 vop O (.build [(.p (.int .i64 0)), (.p (.str [])), (.p .nilslice), (.p (.str [])), (.p (.int .i64 0)), (.p (.bool false)), (.p .nilslice)] [(0, 1, (.k (kI 2))), (3, 1, (.k x37))]) h 38 fun x38 h =>
 vstore 7 x4 x38 h fun _ h =>
 vcell true 7 x4 h fun c0 => vfin true q [c0] h)
 (vfaddr 0 x5 h fun x40 h =>
 vload false 1 x40 h fun x41 h =>
 vbin .eql 0 x41 (kI 3) h fun x42 h =>
 vif x42 (
 vop O (.nilck (.k x0)) h 44 fun x44 h =>
 vfaddr 1 x44 h fun x45 h =>
 vload false 1 x45 h fun x46 h =>
 vbin .add 0 x46 (kI 1) h fun x47 h =>
 vop O (.nilck (.k x0)) h 48 fun x48 h =>
 vfaddr 1 x48 h fun x49 h =>
 vstore 1 x49 x47 h fun _ h =>
 vfaddr 2 x5 h fun x50 h =>
 vload false 1 x50 h fun x51 h =>
 vop O (.build [(.p (.int .i64 0)), (.p (.str [])), (.p .nilslice), (.p (.str [])), (.p (.int .i64 0)), (.p (.bool false)), (.p .nilslice)] [(0, 1, (.k (kI 3))), (4, 1, (.k x51))]) h 52 fun x52 h =>
 vstore 7 x4 x52 h fun _ h =>
 vcell true 7 x4 h fun c0 => vfin true q [c0] h)
 (vfaddr 0 x5 h fun x54 h =>
 vload false 1 x54 h fun x55 h =>
 vbin .eql 0 x55 (kI 1) h fun x56 h =>
 vif x56 (
 vop O (.nilck (.k x0)) h 58 fun x58 h =>
 vfaddr 1 x58 h fun x59 h =>
 vload false 1 x59 h fun x60 h =>
 vbin .add 0 x60 (kI 1) h fun x61 h =>
 vop O (.nilck (.k x0)) h 62 fun x62 h =>
 vfaddr 1 x62 h fun x63 h =>
 vstore 1 x63 x61 h fun _ h =>
 vfaddr 1 x5 h fun x64 h =>
 vload false 1 x64 h fun x65 h =>
 vbin .eql 0 x65 (kS [116, 114, 117, 101]) h fun x66 h =>
 vop O (.build [(.p (.int .i64 0)), (.p (.str [])), (.p .nilslice), (.p (.str [])), (.p (.int .i64 0)), (.p (.bool false)), (.p .nilslice)] [(0, 1, (.k (kI 4))), (5, 1, (.k x66))]) h 67 fun x67 h =>
 vstore 7 x4 x67 h fun _ h =>
 vcell true 7 x4 h fun c0 => vfin true q [c0] h)
 (vfaddr 1 x5 h fun x69 h =>
 vload false 1 x69 h fun x70 h =>
 vbin .eql 0 x70 (kS [36]) h fun x71 h =>
 vif x71 (
 vop O (.nilck (.k x0)) h 73 fun x73 h =>
 vfaddr 1 x73 h fun x74 h =>
 vload false 1 x74 h fun x75 h =>
 vbin .add 0 x75 (kI 1) h fun x76 h =>
 vop O (.nilck (.k x0)) h 77 fun x77 h =>
 vfaddr 1 x77 h fun x78 h =>
 vstore 1 x78 x76 h fun _ h =>
 vcall O (.v (.c (.func 128 []))) [x0, (kI 1)] h 80 fun x80 h =>
 vop O (.alloc [(.p (.int .i64 0)), (.p (.str [])), (.p (.int .i64 0)), (.p (.int .i64 0))] false) h 6 fun x6 h =>
 vstore 4 x6 x80 h fun _ h =>
 vtouch O (.faddr 1 (.k x6)) h 81 fun x81 h t0 =>
 vtouch O (.load false 1 (.k x81)) h 82 fun x82 h t1 =>
 vtouch O (.mv (.k x0)) h 83 fun x83 h t2 =>
 vtouch O (.faddr 3 (.k x6)) h 84 fun x84 h t3 =>
 vtouch O (.load false 1 (.k x84)) h 85 fun x85 h t4 =>
 vtouch O (.faddr 1 (.k x6)) h 86 fun x86 h t5 =>
 vtouch O (.load false 1 (.k x86)) h 87 fun x87 h t6 =>
 vtouch O (.len 0 (.k x87)) h 88 fun x88 h t7 =>
 vtouch O (.bin .add 0 (.k x85) (.k x88)) h 89 fun x89 h t8 =>
 vtouch O (.call (.k (.v (.c (.func 277 [])))) [(.k x83), (.k x89)]) h 90 fun x90 h t9 =>
 vtouch O (.build [(.p (.int .i64 0)), (.p (.str [])), (.p .nilslice), (.p (.str [])), (.p (.int .i64 0)), (.p (.bool false)), (.p .nilslice)] [(0, 1, (.k (kI 1))), (1, 1, (.k x82)), (2, 1, (.k x90))]) h 91 fun x91 h t10 =>
 vtouch O (.store 7 (.k x4) (.k x91)) h 1000000 fun _ h t11 =>
 bif apartAll [t0, t1, t2, t3, t4, t5, t6, t7, t8, t9, t10, t11] [(1, 9)] then
 vcell true 7 x4 h fun c0 => vfin true q [c0] h
 else none)
 (vfaddr 1 x5 h fun x93 h =>
 vload false 1 x93 h fun x94 h =>
 vbin .eql 0 x94 (kS [40]) h fun x95 h =>
 vif x95 (
 vbin .add 0 x1 (kI 1) h fun x97 h =>
 vbin .gtr 0 x97 (kI 12) h fun x98 h =>
 vif x98 (
 vcall O (.v (.c (.func 190 []))) [x0, (kI 13)] h 100 fun x100 h =>
 vop O (.build [(.p (.int .i64 0)), (.p (.str [])), (.p .nilslice), (.p (.str [])), (.p (.int .i64 0)), (.p (.bool false)), (.p .nilslice)] []) h 101 fun x101 h =>
 vstore 7 x4 x101 h fun _ h =>
 vcell true 7 x4 h fun c0 => vfin true q [c0] h)
 (vop O (.nilck (.k x0)) h 103 fun x103 h =>
 vfaddr 1 x103 h fun x104 h =>
 vload false 1 x104 h fun x105 h =>
 vbin .add 0 x105 (kI 1) h fun x106 h =>
 vop O (.nilck (.k x0)) h 107 fun x107 h =>
 vfaddr 1 x107 h fun x108 h =>
 vstore 1 x108 x106 h fun _ h =>
 vbin .add 0 x1 (kI 1) h fun x111 h =>
 vcall O (.v (.c (.func 127 []))) [x0, x111] h 112 fun x112 h =>
 vcall O (.v (.c (.func 278 []))) [x0, (kS [41])] h 114 fun x114 h =>
 vop O (.build [(.p (.int .i64 0)), (.p (.str [])), (.p .nilslice), (.p (.str [])), (.p (.int .i64 0)), (.p (.bool false)), (.p .nilslice)] [(0, 1, (.k (kI 5))), (6, 1, (.k x112))]) h 116 fun x116 h =>
 vstore 7 x4 x116 h fun _ h =>
 vcell true 7 x4 h fun c0 => vfin true q [c0] h))
 (vcall O (.v (.c (.func 277 []))) [x0, (kI (-1))] h 118 fun x118 h =>
 vlen O 2 x118 h 120 fun x120 h =>
 vbin .eql 0 x120 (kI 0) h fun x121 h =>
 vif x121 (
 vop O (.nilck (.k x0)) h 123 fun x123 h =>
 vfaddr 1 x123 h fun x124 h =>
 vload false 1 x124 h fun x125 h =>
 vbin .add 0 x125 (kI 1) h fun x126 h =>
 vop O (.nilck (.k x0)) h 127 fun x127 h =>
 vfaddr 1 x127 h fun x128 h =>
 vstore 1 x128 x126 h fun _ h =>
 R 1 [x4, x118] h)
 (R 1 [x4, x118] h))))))
 else none)
theorem e246_0 (O : Oracle) (R : Jump) (q : Nat) (x0 x1 : TVal) (h : Heap) : b246_0 O R q x0 x1 h = stepF c246 O R q 0 [x0, x1] h := by kernel_rfl
noncomputable def b246_1 (O : Oracle) (R : Jump) (q : Nat) (x4 x8 : TVal) (h : Heap) : Res1 :=
 vop O (.build [(.p (.int .i64 0)), (.p (.str [])), (.p .nilslice), (.p (.str [])), (.p (.int .i64 0)), (.p (.bool false)), (.p .nilslice)] [(0, 1, (.k (kI 1))), (2, 1, (.k x8))]) h 130 fun x130 h =>
 vstore 7 x4 x130 h fun _ h =>
 vcell true 7 x4 h fun c0 => vfin true q [c0] h
theorem e246_1 (O : Oracle) (R : Jump) (q : Nat) (x4 x8 : TVal) (h : Heap) : b246_1 O R q x4 x8 h = stepF c246 O R q 1 [x4, x8] h := by kernel_rfl
noncomputable def d246 : BlkF := fun O R q => [.s fun y0 => .s fun y1 => .z fun h => b246_0 O R q y0 y1 h, .s fun y0 => .s fun y1 => .z fun h => b246_1 O R q y0 y1 h]
theorem o246 (O : Oracle) (R : Jump) (q : Nat) : HoldsAll c246 O R q 0 (d246 O R q) := ⟨fun y0 y1 h => e246_0 O R q y0 y1 h, fun y0 y1 h => e246_1 O R q y0 y1 h, trivial⟩
/- (*sprue/sprueref7.reader).starts -/
def c247 : MFunc := { np := 1, res := [.t 2], frz := true, body := (.seq (.reg [(oA 2 (.mv (.k (.v (.c (.p (.bool false)))))))] []) (.seq (.reg [(oA 3 (.mv (.t 0))), (oA 4 (.call (.k (.v (.c (.func 124 [])))) [(.t 3), (.k (.v (.c (.p (.int .i64 2)))))])), (oA 5 (.mv (.t 4))), ⟨(some 6), (.mv (.t 0)), (some (5, false))⟩, ⟨(some 7), (.call (.k (.v (.c (.func 124 [])))) [(.t 6), (.k (.v (.c (.p (.int .i64 3)))))]), (some (5, false))⟩, (oA 8 (.pick (.t 5) (.k (.v (.c (.p (.bool true))))) (.t 7))), (oA 9 (.mv (.t 8))), ⟨(some 10), (.mv (.t 0)), (some (9, false))⟩, ⟨(some 11), (.call (.k (.v (.c (.func 129 [])))) [(.t 10), (.k (.v (.c (.p (.str [46])))))]), (some (9, false))⟩, (oA 12 (.pick (.t 9) (.k (.v (.c (.p (.bool true))))) (.t 11))), (oA 13 (.mv (.t 12))), ⟨(some 14), (.mv (.t 0)), (some (13, false))⟩, ⟨(some 15), (.call (.k (.v (.c (.func 129 [])))) [(.t 14), (.k (.v (.c (.p (.str [36])))))]), (some (13, false))⟩, (oA 16 (.pick (.t 13) (.k (.v (.c (.p (.bool true))))) (.t 15))), (oA 17 (.mv (.t 16))), ⟨(some 18), (.mv (.t 0)), (some (17, false))⟩, ⟨(some 19), (.call (.k (.v (.c (.func 129 [])))) [(.t 18), (.k (.v (.c (.p (.str [40])))))]), (some (17, false))⟩, (oA 20 (.pick (.t 17) (.k (.v (.c (.p (.bool true))))) (.t 19))), (oA 21 (.mv (.t 20))), ⟨(some 22), (.mv (.t 0)), (some (21, false))⟩, ⟨(some 23), (.call (.k (.v (.c (.func 124 [])))) [(.t 22), (.k (.v (.c (.p (.int .i64 1)))))]), (some (21, false))⟩, ⟨(some 24), (.mv (.t 23)), (some (21, false))⟩, ⟨(some 25), (.mv (.t 0)), (some (24, true))⟩, ⟨(some 26), (.nilck (.t 25)), (some (24, true))⟩, ⟨(some 27), (.faddr 0 (.t 26)), (some (24, true))⟩, ⟨(some 28), (.load false 1 (.t 27)), (some (24, true))⟩, ⟨(some 29), (.mv (.t 0)), (some (24, true))⟩, ⟨(some 30), (.nilck (.t 29)), (some (24, true))⟩, ⟨(some 31), (.faddr 1 (.t 30)), (some (24, true))⟩, ⟨(some 32), (.load false 1 (.t 31)), (some (24, true))⟩, ⟨(some 33), (.iaddr 4 (.t 28) (.t 32)), (some (24, true))⟩, ⟨(some 34), (.faddr 1 (.t 33)), (some (24, true))⟩, ⟨(some 35), (.load false 1 (.t 34)), (some (24, true))⟩, ⟨(some 36), (.bin .eql 0 (.t 35) (.k (.v (.c (.p (.str [116, 114, 117, 101])))))), (some (24, true))⟩, ⟨(some 37), (.mv (.t 36)), (some (24, true))⟩, ⟨(some 38), (.mv (.t 0)), (some (37, false))⟩, ⟨(some 39), (.nilck (.t 38)), (some (37, false))⟩, ⟨(some 40), (.faddr 0 (.t 39)), (some (37, false))⟩, ⟨(some 41), (.load false 1 (.t 40)), (some (37, false))⟩, ⟨(some 42), (.mv (.t 0)), (some (37, false))⟩, ⟨(some 43), (.nilck (.t 42)), (some (37, false))⟩, ⟨(some 44), (.faddr 1 (.t 43)), (some (37, false))⟩, ⟨(some 45), (.load false 1 (.t 44)), (some (37, false))⟩, ⟨(some 46), (.iaddr 4 (.t 41) (.t 45)), (some (37, false))⟩, ⟨(some 47), (.faddr 1 (.t 46)), (some (37, false))⟩, ⟨(some 48), (.load false 1 (.t 47)), (some (37, false))⟩, ⟨(some 49), (.bin .eql 0 (.t 48) (.k (.v (.c (.p (.str [102, 97, 108, 115, 101])))))), (some (37, false))⟩, ⟨(some 50), (.pick (.t 37) (.k (.v (.c (.p (.bool true))))) (.t 49)), (some (24, true))⟩, ⟨(some 51), (.pick (.t 24) (.t 50) (.k (.v (.c (.p (.bool false)))))), (some (21, false))⟩, (oA 52 (.pick (.t 21) (.k (.v (.c (.p (.bool true))))) (.t 51))), (oA 2 (.mv (.t 52)))] []) .ret)) }
theorem t247 : compF Tryz.prog (globs2 tabs opq) (fun _ => false) true Tryz.f247 = some c247.erase := by kernel_rfl
noncomputable def b247_0 (O : Oracle) (R : Jump) (q : Nat) (x0 : TVal) (h : Heap) : Res1 :=
 vcall O (.v (.c (.func 124 []))) [x0, (kI 2)] h 4 fun x4 h =>
 vguard x4 false (fun kk => kk x0 h) h fun x6 h =>
 vguard x4 false (fun kk => vcall O (.v (.c (.func 124 []))) [x6, (kI 3)] h 7 kk) h fun x7 h =>
 vop O (.pick (.k x4) (.k (kB true)) (.k x7)) h 8 fun x8 h =>
 vguard x8 false (fun kk => kk x0 h) h fun x10 h =>
 vguard x8 false (fun kk => vcall O (.v (.c (.func 129 []))) [x10, (kS [46])] h 11 kk) h fun x11 h =>
 vop O (.pick (.k x8) (.k (kB true)) (.k x11)) h 12 fun x12 h =>
 vguard x12 false (fun kk => kk x0 h) h fun x14 h =>
 vguard x12 false (fun kk => vcall O (.v (.c (.func 129 []))) [x14, (kS [36])] h 15 kk) h fun x15 h =>
 vop O (.pick (.k x12) (.k (kB true)) (.k x15)) h 16 fun x16 h =>
 vguard x16 false (fun kk => kk x0 h) h fun x18 h =>
 vguard x16 false (fun kk => vcall O (.v (.c (.func 129 []))) [x18, (kS [40])] h 19 kk) h fun x19 h =>
 vop O (.pick (.k x16) (.k (kB true)) (.k x19)) h 20 fun x20 h =>
 vguard x20 false (fun kk => kk x0 h) h fun x22 h =>
 vguard x20 false (fun kk => vcall O (.v (.c (.func 124 []))) [x22, (kI 1)] h 23 kk) h fun x23 h =>
 vguard x20 false (fun kk => kk x23 h) h fun x24 h =>
 vguard x24 true (fun kk => kk x0 h) h fun x25 h =>
 vguard x24 true (fun kk => vop O (.nilck (.k x25)) h 26 kk) h fun x26 h =>
 vguard x24 true (fun kk => vfaddr 0 x26 h kk) h fun x27 h =>
 vguard x24 true (fun kk => vload false 1 x27 h kk) h fun x28 h =>
 vguard x24 true (fun kk => kk x0 h) h fun x29 h =>
 vguard x24 true (fun kk => vop O (.nilck (.k x29)) h 30 kk) h fun x30 h =>
 vguard x24 true (fun kk => vfaddr 1 x30 h kk) h fun x31 h =>
 vguard x24 true (fun kk => vload false 1 x31 h kk) h fun x32 h =>
 vguard x24 true (fun kk => viaddr 4 x28 x32 h kk) h fun x33 h =>
 vguard x24 true (fun kk => vfaddr 1 x33 h kk) h fun x34 h =>
 vguard x24 true (fun kk => vload false 1 x34 h kk) h fun x35 h =>
 vguard x24 true (fun kk => vbin .eql 0 x35 (kS [116, 114, 117, 101]) h kk) h fun x36 h =>
 vguard x24 true (fun kk => kk x36 h) h fun x37 h =>
 vguard x37 false (fun kk => kk x0 h) h fun x38 h =>
 vguard x37 false (fun kk => vop O (.nilck (.k x38)) h 39 kk) h fun x39 h =>
 vguard x37 false (fun kk => vfaddr 0 x39 h kk) h fun x40 h =>
 vguard x37 false (fun kk => vload false 1 x40 h kk) h fun x41 h =>
 vguard x37 false (fun kk => kk x0 h) h fun x42 h =>
 vguard x37 false (fun kk => vop O (.nilck (.k x42)) h 43 kk) h fun x43 h =>
 vguard x37 false (fun kk => vfaddr 1 x43 h kk) h fun x44 h =>
 vguard x37 false (fun kk => vload false 1 x44 h kk) h fun x45 h =>
 vguard x37 false (fun kk => viaddr 4 x41 x45 h kk) h fun x46 h =>
 vguard x37 false (fun kk => vfaddr 1 x46 h kk) h fun x47 h =>
 vguard x37 false (fun kk => vload false 1 x47 h kk) h fun x48 h =>
 vguard x37 false (fun kk => vbin .eql 0 x48 (kS [102, 97, 108, 115, 101]) h kk) h fun x49 h =>
 vguard x24 true (fun kk => vop O (.pick (.k x37) (.k (kB true)) (.k x49)) h 50 kk) h fun x50 h =>
 vguard x20 false (fun kk => vop O (.pick (.k x24) (.k x50) (.k (kB false))) h 51 kk) h fun x51 h =>
 vop O (.pick (.k x20) (.k (kB true)) (.k x51)) h 52 fun x52 h =>
 tcomp x52 fun c0 => vfin true q [c0] h
theorem e247_0 (O : Oracle) (R : Jump) (q : Nat) (x0 : TVal) (h : Heap) : b247_0 O R q x0 h = stepF c247 O R q 0 [x0] h := by kernel_rfl
noncomputable def d247 : BlkF := fun O R q => [.s fun y0 => .z fun h => b247_0 O R q y0 h]
theorem o247 (O : Oracle) (R : Jump) (q : Nat) : HoldsAll c247 O R q 0 (d247 O R q) := ⟨fun y0 h => e247_0 O R q y0 h, trivial⟩
/- (*sprue/interp.run).call -/
def c248 : MFunc := { np := 4, res := [.cell 8 true 6, .t 9], frz := true, body := (.seq (.reg [(oA 5 (.box (.t 1) true)), (oA 6 (.box (.t 2) true)), (oA 8 (.alloc [(.p (.int .i64 0)), (.p (.bool false)), (.p (.int .i64 0)), (.p (.str [])), (.p .nilslice), (.p .nilslice)] true)), (oA 9 (.mv (.k (.v (.c (.p (.int .i64 0)))))))] []) (.seq (.reg [(oA 10 (.mv (.k (.v (.c (.p .nilslice))))))] []) (.seq (.seq (.reg [(oA 15 (.faddr 0 (.t 6))), (oA 16 (.load false 1 (.t 15))), (oA 17 (.slice 7 false (.t 16) (some (.k (.v (.c (.p (.int .i64 1)))))) none none)), (oA 18 (.len 2 (.t 17))), (oA 19 (.mv (.k (.v (.c (.p (.int .i64 0)))))))] []) (.block 0 (.loop 1 [0, 3, 5, 6, 8, 10, 17, 18, 19] (.seq (.reg [(oA 20 (.bin .lss 0 (.t 19) (.t 18)))] []) (.seq (.cond (.t 20) .skip (.exit 0)) (.seq (.block 1 (.seq (.reg [(oA 21 (.iaddr 7 (.t 17) (.t 19))), (oA 22 (.load true 7 (.t 21))), (oA 12 (.alloc [(.p (.int .i64 0)), (.p (.str [])), (.p .nilslice), (.p (.str [])), (.p (.int .i64 0)), (.p (.bool false)), (.p .nilslice)] true)), (oN (.store 7 (.t 12) (.t 22)))] []) (.seq (.reg [(oA 24 (.mv (.t 0))), (oA 25 (.load true 8 (.t 5))), (oA 26 (.load true 7 (.t 12))), (oA 27 (.call (.k (.v (.c (.func 249 [])))) [(.t 24), (.t 25), (.t 26)])), (oA 23 (.mv (.t 27))), (oA 28 (.extract (.t 23) 0)), (oA 29 (.extract (.t 23) 1)), (oA 13 (.alloc [(.p (.int .i64 0)), (.p (.bool false)), (.p (.int .i64 0)), (.p (.str [])), (.p .nilslice), (.p .nilslice)] true)), (oN (.store 6 (.t 13) (.t 28))), (oA 14 (.mv (.t 29)))] []) (.seq (.seq (.reg [(oA 30 (.mv (.t 14))), (oA 31 (.bin .neq 0 (.t 30) (.k (.v (.c (.p (.int .i64 0)))))))] []) (.cond (.t 31) (.seq (.reg [(oA 32 (.build [(.p (.int .i64 0)), (.p (.bool false)), (.p (.int .i64 0)), (.p (.str [])), (.p .nilslice), (.p .nilslice)] [])), (oA 33 (.mv (.t 14))), (oN (.store 6 (.t 8) (.t 32))), (oA 9 (.mv (.t 33)))] []) .ret) .skip)) (.reg [(oA 34 (.mv (.t 10))), (oA 35 (.load true 6 (.t 13))), (oA 36 (.bslice 6 1 [(.p (.int .i64 0)), (.p (.bool false)), (.p (.int .i64 0)), (.p (.str [])), (.p .nilslice), (.p .nilslice)] [(0, (.t 35))] true)), (oA 37 (.append 6 88 true (.t 34) (.t 36))), (oA 10 (.mv (.t 37)))] []))))) (.reg [(oA 38 (.bin .add 0 (.t 19) (.k (.v (.c (.p (.int .i64 1))))))), (oA 19 (.mv (.t 38)))] []))))))) (.mark 2 [0, 3, 6, 8, 10] (.seq (.reg [(oA 39 (.mv (.t 10))), (oA 40 (.mv (.t 3))), (oA 41 (.append 6 88 true (.t 39) (.t 40))), (oA 10 (.mv (.t 41)))] []) (.seq (.seq (.reg [(oA 42 (.faddr 0 (.t 6))), (oA 43 (.load false 1 (.t 42))), (oA 44 (.iaddr 7 (.t 43) (.k (.v (.c (.p (.int .i64 0))))))), (oA 45 (.faddr 3 (.t 44))), (oA 46 (.load false 1 (.t 45))), (oA 47 (.call (.k (.v (.c (.func 86 [])))) [(.t 46)]))] []) (.cond (.t 47) (.seq (.reg [(oA 48 (.faddr 0 (.t 6))), (oA 49 (.load false 1 (.t 48))), (oA 50 (.iaddr 7 (.t 49) (.k (.v (.c (.p (.int .i64 0))))))), (oA 51 (.faddr 3 (.t 50))), (oA 52 (.load false 1 (.t 51))), (oA 53 (.mv (.t 10))), (oA 54 (.call (.k (.v (.c (.func 34 [])))) [(.t 52), (.t 53)])), (oA 55 (.extract (.t 54) 0)), (oA 56 (.extract (.t 54) 1)), (oN (.store 6 (.t 8) (.t 55))), (oA 9 (.mv (.t 56)))] []) .ret) .skip)) (.seq (.reg [(oA 57 (.mv (.t 0))), (oA 58 (.nilck (.t 57))), (oA 59 (.faddr 4 (.t 58))), (oA 60 (.load false 1 (.t 59))), (oA 61 (.faddr 0 (.t 6))), (oA 62 (.load false 1 (.t 61))), (oA 63 (.iaddr 7 (.t 62) (.k (.v (.c (.p (.int .i64 0))))))), (oA 64 (.faddr 3 (.t 63))), (oA 65 (.load false 1 (.t 64))), (oA 66 (.call (.k (.v (.c (.func 279 [])))) [(.t 60), (.t 65)])), (oA 67 (.extract (.t 66) 0)), (oA 68 (.extract (.t 66) 1)), (oN (.store 6 (.t 8) (.t 67))), (oA 9 (.mv (.t 68)))] []) .ret))))))) }
theorem t248 : compF Tryz.prog (globs2 tabs opq) (fun _ => true) true Tryz.f248 = some c248.erase := by kernel_rfl
noncomputable def b248_0 (O : Oracle) (R : Jump) (q : Nat) (x0 x1 x2 x3 : TVal) (h : Heap) : Res1 :=
 vop O (.box (.k x1) true) h 5 fun x5 h =>
 vop O (.box (.k x2) true) h 6 fun x6 h =>
 vop O (.alloc [(.p (.int .i64 0)), (.p (.bool false)), (.p (.int .i64 0)), (.p (.str [])), (.p .nilslice), (.p .nilslice)] true) h 8 fun x8 h =>
 vfaddr 0 x6 h fun x15 h =>
 vload false 1 x15 h fun x16 h =>
 vop O (.slice 7 false (.k x16) (some (.k (kI 1))) none none) h 17 fun x17 h =>
 vlen O 2 x17 h 18 fun x18 h =>
 R 1 [x0, x3, x5, x6, x8, (.v (.c (.p .nilslice))), x17, x18, (kI 0)] h
theorem e248_0 (O : Oracle) (R : Jump) (q : Nat) (x0 x1 x2 x3 : TVal) (h : Heap) : b248_0 O R q x0 x1 x2 x3 h = stepF c248 O R q 0 [x0, x1, x2, x3] h := by kernel_rfl
noncomputable def b248_1 (O : Oracle) (R : Jump) (q : Nat) (x0 x3 x5 x6 x8 x10 x17 x18 x19 : TVal) (h : Heap) : Res1 :=
 vbin .lss 0 x19 x18 h fun x20 h =>
 vif x20 (
 viaddr 7 x17 x19 h fun x21 h =>
 vload true 7 x21 h fun x22 h =>
 vop O (.alloc [(.p (.int .i64 0)), (.p (.str [])), (.p .nilslice), (.p (.str [])), (.p (.int .i64 0)), (.p (.bool false)), (.p .nilslice)] true) h 12 fun x12 h =>
 vstore 7 x12 x22 h fun _ h =>
 vload true 8 x5 h fun x25 h =>
 vload true 7 x12 h fun x26 h =>
 vcall O (.v (.c (.func 249 []))) [x0, x25, x26] h 27 fun x27 h =>
 vext x27 0 h fun x28 h =>
 vext x27 1 h fun x29 h =>
 vop O (.alloc [(.p (.int .i64 0)), (.p (.bool false)), (.p (.int .i64 0)), (.p (.str [])), (.p .nilslice), (.p .nilslice)] true) h 13 fun x13 h =>
 vstore 6 x13 x28 h fun _ h =>
 vbin .neq 0 x29 (kI 0) h fun x31 h =>
 vif x31 (
 vop O (.build [(.p (.int .i64 0)), (.p (.bool false)), (.p (.int .i64 0)), (.p (.str [])), (.p .nilslice), (.p .nilslice)] []) h 32 fun x32 h =>
 vstore 6 x8 x32 h fun _ h =>
 vcell true 6 x8 h fun c0 => tcomp x29 fun c1 => vfin true q [c0, c1] h)
 (vload true 6 x13 h fun x35 h =>
 vop O (.bslice 6 1 [(.p (.int .i64 0)), (.p (.bool false)), (.p (.int .i64 0)), (.p (.str [])), (.p .nilslice), (.p .nilslice)] [(0, (.k x35))] true) h 36 fun x36 h =>
 vop O (.append 6 88 true (.k x10) (.k x36)) h 37 fun x37 h =>
 vbin .add 0 x19 (kI 1) h fun x38 h =>
 R 1 [x0, x3, x5, x6, x8, x37, x17, x18, x38] h))
 (R 2 [x0, x3, x6, x8, x10] h)
theorem e248_1 (O : Oracle) (R : Jump) (q : Nat) (x0 x3 x5 x6 x8 x10 x17 x18 x19 : TVal) (h : Heap) : b248_1 O R q x0 x3 x5 x6 x8 x10 x17 x18 x19 h = stepF c248 O R q 1 [x0, x3, x5, x6, x8, x10, x17, x18, x19] h := by kernel_rfl
noncomputable def b248_2 (O : Oracle) (R : Jump) (q : Nat) (x0 x3 x6 x8 x10 : TVal) (h : Heap) : Res1 :=
 vop O (.append 6 88 true (.k x10) (.k x3)) h 41 fun x41 h =>
 vfaddr 0 x6 h fun x42 h =>
 vload false 1 x42 h fun x43 h =>
 viaddr 7 x43 (kI 0) h fun x44 h =>
 vfaddr 3 x44 h fun x45 h =>
 vload false 1 x45 h fun x46 h =>
 vcall O (.v (.c (.func 86 []))) [x46] h 47 fun x47 h =>
 vif x47 (
 vfaddr 0 x6 h fun x48 h =>
 vload false 1 x48 h fun x49 h =>
 viaddr 7 x49 (kI 0) h fun x50 h =>
 vfaddr 3 x50 h fun x51 h =>
 vload false 1 x51 h fun x52 h =>
 vcall O (.v (.c (.func 34 []))) [x52, x41] h 54 fun x54 h =>
 vext x54 0 h fun x55 h =>
 vext x54 1 h fun x56 h =>
 vstore 6 x8 x55 h fun _ h =>
 vcell true 6 x8 h fun c0 => tcomp x56 fun c1 => vfin true q [c0, c1] h)
 (vop O (.nilck (.k x0)) h 58 fun x58 h =>
 vfaddr 4 x58 h fun x59 h =>
 vload false 1 x59 h fun x60 h =>
 vfaddr 0 x6 h fun x61 h =>
 vload false 1 x61 h fun x62 h =>
 viaddr 7 x62 (kI 0) h fun x63 h =>
 vfaddr 3 x63 h fun x64 h =>
 vload false 1 x64 h fun x65 h =>
 vcall O (.v (.c (.func 279 []))) [x60, x65] h 66 fun x66 h =>
 vext x66 0 h fun x67 h =>
 vext x66 1 h fun x68 h =>
 vstore 6 x8 x67 h fun _ h =>
 vcell true 6 x8 h fun c0 => tcomp x68 fun c1 => vfin true q [c0, c1] h)
theorem e248_2 (O : Oracle) (R : Jump) (q : Nat) (x0 x3 x6 x8 x10 : TVal) (h : Heap) : b248_2 O R q x0 x3 x6 x8 x10 h = stepF c248 O R q 2 [x0, x3, x6, x8, x10] h := by kernel_rfl
noncomputable def d248 : BlkF := fun O R q => [.s fun y0 => .s fun y1 => .s fun y2 => .s fun y3 => .z fun h => b248_0 O R q y0 y1 y2 y3 h, .s fun y0 => .s fun y1 => .s fun y2 => .s fun y3 => .s fun y4 => .s fun y5 => .s fun y6 => .s fun y7 => .s fun y8 => .z fun h => b248_1 O R q y0 y1 y2 y3 y4 y5 y6 y7 y8 h, .s fun y0 => .s fun y1 => .s fun y2 => .s fun y3 => .s fun y4 => .z fun h => b248_2 O R q y0 y1 y2 y3 y4 h]
theorem o248 (O : Oracle) (R : Jump) (q : Nat) : HoldsAll c248 O R q 0 (d248 O R q) := ⟨fun y0 y1 y2 y3 h => e248_0 O R q y0 y1 y2 y3 h, fun y0 y1 y2 y3 y4 y5 y6 y7 y8 h => e248_1 O R q y0 y1 y2 y3 y4 y5 y6 y7 y8 h, fun y0 y1 y2 y3 y4 h => e248_2 O R q y0 y1 y2 y3 y4 h, trivial⟩
/- (*sprue/interp.run).operand -/
def c249 : MFunc := { np := 3, res := [.cell 6 true 6, .t 7], frz := true, body := (.seq (.reg [(oA 4 (.box (.t 1) true)), (oA 5 (.box (.t 2) true)), (oA 6 (.alloc [(.p (.int .i64 0)), (.p (.bool false)), (.p (.int .i64 0)), (.p (.str [])), (.p .nilslice), (.p .nilslice)] true)), (oA 7 (.mv (.k (.v (.c (.p (.int .i64 0)))))))] []) (.seq (.seq (.reg [(oA 8 (.faddr 0 (.t 5))), (oA 9 (.load false 1 (.t 8)))] []) (.block 0 (.seq (.reg [(oA 11 (.bin .eql 0 (.t 9) (.k (.v (.c (.p (.int .i64 2))))))), (oA 10 (.mv (.t 11)))] []) (.cond (.t 10) (.seq (.reg [(oA 12 (.faddr 3 (.t 5))), (oA 13 (.load false 1 (.t 12))), (oA 14 (.build [(.p (.int .i64 0)), (.p (.bool false)), (.p (.int .i64 0)), (.p (.str [])), (.p .nilslice), (.p .nilslice)] [(0, 1, (.k (.v (.c (.p (.int .i64 3)))))), (3, 1, (.t 13))])), (oN (.store 6 (.t 6) (.t 14))), (oA 7 (.mv (.k (.v (.c (.p (.int .i64 0)))))))] []) .ret) (.seq (.reg [(oA 16 (.bin .eql 0 (.t 9) (.k (.v (.c (.p (.int .i64 3))))))), (oA 15 (.mv (.t 16)))] []) (.cond (.t 15) (.seq (.reg [(oA 17 (.faddr 4 (.t 5))), (oA 18 (.load false 1 (.t 17))), (oA 19 (.build [(.p (.int .i64 0)), (.p (.bool false)), (.p (.int .i64 0)), (.p (.str [])), (.p .nilslice), (.p .nilslice)] [(0, 1, (.k (.v (.c (.p (.int .i64 2)))))), (2, 1, (.t 18))])), (oN (.store 6 (.t 6) (.t 19))), (oA 7 (.mv (.k (.v (.c (.p (.int .i64 0)))))))] []) .ret) (.seq (.reg [(oA 21 (.bin .eql 0 (.t 9) (.k (.v (.c (.p (.int .i64 4))))))), (oA 20 (.mv (.t 21)))] []) (.cond (.t 20) (.seq (.reg [(oA 22 (.faddr 5 (.t 5))), (oA 23 (.load false 1 (.t 22))), (oA 24 (.build [(.p (.int .i64 0)), (.p (.bool false)), (.p (.int .i64 0)), (.p (.str [])), (.p .nilslice), (.p .nilslice)] [(0, 1, (.k (.v (.c (.p (.int .i64 1)))))), (1, 1, (.t 23))])), (oN (.store 6 (.t 6) (.t 24))), (oA 7 (.mv (.k (.v (.c (.p (.int .i64 0)))))))] []) .ret) (.seq (.reg [(oA 26 (.bin .eql 0 (.t 9) (.k (.v (.c (.p (.int .i64 5))))))), (oA 25 (.mv (.t 26)))] []) (.cond (.t 25) (.seq (.reg [(oA 27 (.mv (.t 0))), (oA 28 (.load true 8 (.t 4))), (oA 29 (.faddr 6 (.t 5))), (oA 30 (.load false 1 (.t 29))), (oA 31 (.call (.k (.v (.c (.func 136 [])))) [(.t 27), (.t 28), (.t 30)])), (oA 32 (.extract (.t 31) 0)), (oA 33 (.extract (.t 31) 1)), (oN (.store 6 (.t 6) (.t 32))), (oA 7 (.mv (.t 33)))] []) .ret) .skip)))))))))) (.seq (.reg [(oA 34 (.load true 8 (.t 4))), (oA 35 (.load true 7 (.t 5))), (oA 36 (.call (.k (.v (.c (.func 280 [])))) [(.t 34), (.t 35)])), (oA 37 (.extract (.t 36) 0)), (oA 38 (.extract (.t 36) 1)), (oN (.store 6 (.t 6) (.t 37))), (oA 7 (.mv (.t 38)))] []) .ret))) }
theorem t249 : compF Tryz.prog (globs2 tabs opq) (fun _ => true) true Tryz.f249 = some c249.erase := by kernel_rfl
noncomputable def b249_0 (O : Oracle) (R : Jump) (q : Nat) (x0 x1 x2 : TVal) (h : Heap) : Res1 :=
 vop O (.box (.k x1) true) h 4 fun x4 h =>
 vop O (.box (.k x2) true) h 5 fun x5 h =>
 vop O (.alloc [(.p (.int .i64 0)), (.p (.bool false)), (.p (.int .i64 0)), (.p (.str [])), (.p .nilslice), (.p .nilslice)] true) h 6 fun x6 h =>
 vfaddr 0 x5 h fun x8 h =>
 vload false 1 x8 h fun x9 h =>
 vbin .eql 0 x9 (kI 2) h fun x11 h =>
 vif x11 (
 vfaddr 3 x5 h fun x12 h =>
 vload false 1 x12 h fun x13 h =>
 vop O (.build [(.p (.int .i64 0)), (.p (.bool false)), (.p (.int .i64 0)), (.p (.str [])), (.p .nilslice), (.p .nilslice)] [(0, 1, (.k (kI 3))), (3, 1, (.k x13))]) h 14 fun x14 h =>
 vstore 6 x6 x14 h fun _ h =>
 vcell true 6 x6 h fun c0 => tcomp (kI 0) fun c1 => vfin true q [c0, c1] h)
 (vbin .eql 0 x9 (kI 3) h fun x16 h =>
 vif x16 (
 vfaddr 4 x5 h fun x17 h =>
 vload false 1 x17 h fun x18 h =>
 vop O (.build [(.p (.int .i64 0)), (.p (.bool false)), (.p (.int .i64 0)), (.p (.str [])), (.p .nilslice), (.p .nilslice)] [(0, 1, (.k (kI 2))), (2, 1, (.k x18))]) h 19 fun x19 h =>
 vstore 6 x6 x19 h fun _ h =>
 vcell true 6 x6 h fun c0 => tcomp (kI 0) fun c1 => vfin true q [c0, c1] h)
 (vbin .eql 0 x9 (kI 4) h fun x21 h =>
 vif x21 (
 vfaddr 5 x5 h fun x22 h =>
 vload false 1 x22 h fun x23 h =>
 vop O (.build [(.p (.int .i64 0)), (.p (.bool false)), (.p (.int .i64 0)), (.p (.str [])), (.p .nilslice), (.p .nilslice)] [(0, 1, (.k (kI 1))), (1, 1, (.k x23))]) h 24 fun x24 h =>
 vstore 6 x6 x24 h fun _ h =>
 vcell true 6 x6 h fun c0 => tcomp (kI 0) fun c1 => vfin true q [c0, c1] h)
 (vbin .eql 0 x9 (kI 5) h fun x26 h =>
 vif x26 (
 vload true 8 x4 h fun x28 h =>
 vfaddr 6 x5 h fun x29 h =>
 vload false 1 x29 h fun x30 h =>
 vcall O (.v (.c (.func 136 []))) [x0, x28, x30] h 31 fun x31 h =>
 vext x31 0 h fun x32 h =>
 vext x31 1 h fun x33 h =>
 vstore 6 x6 x32 h fun _ h =>
 vcell true 6 x6 h fun c0 => tcomp x33 fun c1 => vfin true q [c0, c1] h)
 (vload true 8 x4 h fun x34 h =>
 vload true 7 x5 h fun x35 h =>
 vcall O (.v (.c (.func 280 []))) [x34, x35] h 36 fun x36 h =>
 vext x36 0 h fun x37 h =>
 vext x36 1 h fun x38 h =>
 vstore 6 x6 x37 h fun _ h =>
 vcell true 6 x6 h fun c0 => tcomp x38 fun c1 => vfin true q [c0, c1] h))))
theorem e249_0 (O : Oracle) (R : Jump) (q : Nat) (x0 x1 x2 : TVal) (h : Heap) : b249_0 O R q x0 x1 x2 h = stepF c249 O R q 0 [x0, x1, x2] h := by kernel_rfl
noncomputable def d249 : BlkF := fun O R q => [.s fun y0 => .s fun y1 => .s fun y2 => .z fun h => b249_0 O R q y0 y1 y2 h]
theorem o249 (O : Oracle) (R : Jump) (q : Nat) : HoldsAll c249 O R q 0 (d249 O R q) := ⟨fun y0 y1 y2 h => e249_0 O R q y0 y1 y2 h, trivial⟩
/- slices.Backward[[]*sprue/interp.variable,*sprue/interp.variable] -/
def c250 : MFunc := { np := 1, res := [.t 2], frz := false, body := (.seq (.reg [(oA 1 (.box (.t 0) false)), (oA 2 (.mv (.k (.v (.c (.p .nilfunc))))))] []) (.seq (.reg [(oA 3 (.mkfn 281 [(.t 1)])), (oA 2 (.mv (.t 3)))] []) .ret)) }
theorem t250 : compF Tryz.prog (globs2 tabs opq) (fun _ => false) false Tryz.f250 = some c250.erase := by kernel_rfl
noncomputable def b250_0 (O : Oracle) (R : Jump) (q : Nat) (x0 : TVal) (h : Heap) : Res1 :=
 vop O (.box (.k x0) false) h 1 fun x1 h =>
 vop O (.mkfn 281 [(.k x1)]) h 3 fun x3 h =>
 tcomp x3 fun c0 => vfin false q [c0] h
theorem e250_0 (O : Oracle) (R : Jump) (q : Nat) (x0 : TVal) (h : Heap) : b250_0 O R q x0 h = stepF c250 O R q 0 [x0] h := by kernel_rfl
noncomputable def d250 : BlkF := fun O R q => [.s fun y0 => .z fun h => b250_0 O R q y0 h]
theorem o250 (O : Oracle) (R : Jump) (q : Nat) : HoldsAll c250 O R q 0 (d250 O R q) := ⟨fun y0 h => e250_0 O R q y0 h, trivial⟩
/- slices.IndexFunc[[]sprue/api.Template,sprue/api.Template] -/
def c251 : MFunc := { np := 2, res := [.t 4], frz := true, body := (.seq (.reg [(oA 4 (.mv (.k (.v (.c (.p (.int .i64 0)))))))] []) (.seq (.seq (.reg [(oA 6 (.mv (.t 0))), (oA 7 (.len 2 (.t 6))), (oA 8 (.mv (.k (.v (.c (.p (.int .i64 0)))))))] []) (.block 0 (.loop 1 [0, 1, 7, 8] (.seq (.reg [(oA 9 (.bin .lss 0 (.t 8) (.t 7)))] []) (.seq (.cond (.t 9) .skip (.exit 0)) (.seq (.block 1 (.seq (.reg [(oA 10 (.mv (.t 8))), (oA 5 (.mv (.t 10)))] []) (.seq (.reg [(oA 11 (.mv (.t 1))), (oA 12 (.mv (.t 0))), (oA 13 (.mv (.t 5))), (oA 14 (.iaddr 2 (.t 12) (.t 13))), (oA 15 (.load true 2 (.t 14))), (oA 16 (.call (.t 11) [(.t 15)]))] []) (.cond (.t 16) (.seq (.reg [(oA 17 (.mv (.t 5))), (oA 4 (.mv (.t 17)))] []) .ret) .skip)))) (.reg [(oA 18 (.bin .add 0 (.t 8) (.k (.v (.c (.p (.int .i64 1))))))), (oA 8 (.mv (.t 18)))] []))))))) (.seq (.reg [(oA 4 (.mv (.k (.v (.c (.p (.int .i64 (-1))))))))] []) .ret))) }
theorem t251 : compF Tryz.prog (globs2 tabs opq) (fun _ => false) true Tryz.f251 = some c251.erase := by kernel_rfl
noncomputable def b251_0 (O : Oracle) (R : Jump) (q : Nat) (x0 x1 : TVal) (h : Heap) : Res1 :=
 vlen O 2 x0 h 7 fun x7 h =>
 R 1 [x0, x1, x7, (kI 0)] h
theorem e251_0 (O : Oracle) (R : Jump) (q : Nat) (x0 x1 : TVal) (h : Heap) : b251_0 O R q x0 x1 h = stepF c251 O R q 0 [x0, x1] h := by kernel_rfl
noncomputable def b251_1 (O : Oracle) (R : Jump) (q : Nat) (x0 x1 x7 x8 : TVal) (h : Heap) : Res1 :=
 vbin .lss 0 x8 x7 h fun x9 h =>
 vif x9 (
 viaddr 2 x0 x8 h fun x14 h =>
 vload true 2 x14 h fun x15 h =>
 vcall O x1 [x15] h 16 fun x16 h =>
 vif x16 (
 tcomp x8 fun c0 => vfin true q [c0] h)
 (vbin .add 0 x8 (kI 1) h fun x18 h =>
 R 1 [x0, x1, x7, x18] h))
 (tcomp (kI (-1)) fun c0 => vfin true q [c0] h)
theorem e251_1 (O : Oracle) (R : Jump) (q : Nat) (x0 x1 x7 x8 : TVal) (h : Heap) : b251_1 O R q x0 x1 x7 x8 h = stepF c251 O R q 1 [x0, x1, x7, x8] h := by kernel_rfl
noncomputable def d251 : BlkF := fun O R q => [.s fun y0 => .s fun y1 => .z fun h => b251_0 O R q y0 y1 h, .s fun y0 => .s fun y1 => .s fun y2 => .s fun y3 => .z fun h => b251_1 O R q y0 y1 y2 y3 h]
theorem o251 (O : Oracle) (R : Jump) (q : Nat) : HoldsAll c251 O R q 0 (d251 O R q) := ⟨fun y0 y1 h => e251_0 O R q y0 y1 h, fun y0 y1 y2 y3 h => e251_1 O R q y0 y1 y2 y3 h, trivial⟩
/- (*sprue/interp.run).template$1 -/
def c252 : MFunc := { np := 2, res := [.t 3], frz := true, body := (.seq (.reg [(oA 2 (.box (.t 0) true)), (oA 3 (.mv (.k (.v (.c (.p (.bool false)))))))] []) (.seq (.reg [(oA 4 (.faddr 0 (.t 2))), (oA 5 (.load false 1 (.t 4))), (oA 6 (.load false 1 (.t 1))), (oA 7 (.bin .eql 0 (.t 5) (.t 6))), (oA 3 (.mv (.t 7)))] []) .ret)) }
theorem t252 : compF Tryz.prog (globs2 tabs opq) (fun _ => true) true Tryz.f252 = some c252.erase := by kernel_rfl
noncomputable def b252_0 (O : Oracle) (R : Jump) (q : Nat) (x0 x1 : TVal) (h : Heap) : Res1 :=
 vop O (.box (.k x0) true) h 2 fun x2 h =>
 vfaddr 0 x2 h fun x4 h =>
 vload false 1 x4 h fun x5 h =>
 vload false 1 x1 h fun x6 h =>
 vbin .eql 0 x5 x6 h fun x7 h =>
 tcomp x7 fun c0 => vfin true q [c0] h
theorem e252_0 (O : Oracle) (R : Jump) (q : Nat) (x0 x1 : TVal) (h : Heap) : b252_0 O R q x0 x1 h = stepF c252 O R q 0 [x0, x1] h := by kernel_rfl
noncomputable def d252 : BlkF := fun O R q => [.s fun y0 => .s fun y1 => .z fun h => b252_0 O R q y0 y1 h]
theorem o252 (O : Oracle) (R : Jump) (q : Nat) : HoldsAll c252 O R q 0 (d252 O R q) := ⟨fun y0 y1 h => e252_0 O R q y0 y1 h, trivial⟩
/- (*sprue/sprueref13.reader).is -/
def c253 : MFunc := { np := 2, res := [.t 4], frz := true, body := (.seq (.reg [(oA 4 (.mv (.k (.v (.c (.p (.bool false)))))))] []) (.seq (.reg [(oA 5 (.mv (.t 0))), (oA 6 (.call (.k (.v (.c (.func 140 [])))) [(.t 5)]))] []) (.seq (.seq (.reg [(oA 7 (.mv (.t 0))), (oA 8 (.nilck (.t 7))), (oA 9 (.faddr 2 (.t 8))), (oA 10 (.load false 1 (.t 9))), (oA 11 (.bin .eql 0 (.t 10) (.k (.v (.c (.p (.int .i64 0))))))), (oA 12 (.mv (.t 11))), ⟨(some 13), (.mv (.t 0)), (some (12, true))⟩, ⟨(some 14), (.nilck (.t 13)), (some (12, true))⟩, ⟨(some 15), (.faddr 1 (.t 14)), (some (12, true))⟩, ⟨(some 16), (.load false 1 (.t 15)), (some (12, true))⟩, ⟨(some 17), (.mv (.t 0)), (some (12, true))⟩, ⟨(some 18), (.nilck (.t 17)), (some (12, true))⟩, ⟨(some 19), (.faddr 0 (.t 18)), (some (12, true))⟩, ⟨(some 20), (.load false 1 (.t 19)), (some (12, true))⟩, ⟨(some 21), (.len 0 (.t 20)), (some (12, true))⟩, ⟨(some 22), (.bin .lss 0 (.t 16) (.t 21)), (some (12, true))⟩, (oA 23 (.pick (.t 12) (.t 22) (.k (.v (.c (.p (.bool false))))))), (oA 24 (.mv (.t 23))), ⟨(some 25), (.mv (.t 0)), (some (24, true))⟩, ⟨(some 26), (.nilck (.t 25)), (some (24, true))⟩, ⟨(some 27), (.faddr 0 (.t 26)), (some (24, true))⟩, ⟨(some 28), (.load false 1 (.t 27)), (some (24, true))⟩, ⟨(some 29), (.mv (.t 0)), (some (24, true))⟩, ⟨(some 30), (.nilck (.t 29)), (some (24, true))⟩, ⟨(some 31), (.faddr 1 (.t 30)), (some (24, true))⟩, ⟨(some 32), (.load false 1 (.t 31)), (some (24, true))⟩, ⟨(some 33), (.index (.t 28) (.t 32)), (some (24, true))⟩, ⟨(some 34), (.mv (.t 1)), (some (24, true))⟩, ⟨(some 35), (.bin .eql 0 (.t 33) (.t 34)), (some (24, true))⟩, (oA 36 (.pick (.t 24) (.t 35) (.k (.v (.c (.p (.bool false)))))))] []) (.cond (.t 36) (.seq (.reg [(oA 37 (.mv (.t 0))), (oA 38 (.nilck (.t 37))), (oA 39 (.faddr 1 (.t 38))), (oA 40 (.load false 1 (.t 39))), (oA 41 (.bin .add 0 (.t 40) (.k (.v (.c (.p (.int .i64 1))))))), (oA 42 (.nilck (.t 37))), (oA 43 (.faddr 1 (.t 42))), (oN (.store 1 (.t 43) (.t 41)))] []) (.seq (.reg [(oA 4 (.mv (.k (.v (.c (.p (.bool true)))))))] []) .ret)) .skip)) (.seq (.reg [(oA 4 (.mv (.k (.v (.c (.p (.bool false)))))))] []) .ret)))) }
theorem t253 : compF Tryz.prog (globs2 tabs opq) (fun _ => false) true Tryz.f253 = some c253.erase := by kernel_rfl
noncomputable def b253_0 (O : Oracle) (R : Jump) (q : Nat) (x0 x1 : TVal) (h : Heap) : Res1 :=
 vcall O (.v (.c (.func 140 []))) [x0] h 6 fun x6 h =>
 vop O (.nilck (.k x0)) h 8 fun x8 h =>
 vfaddr 2 x8 h fun x9 h =>
 vload false 1 x9 h fun x10 h =>
 vbin .eql 0 x10 (kI 0) h fun x11 h =>
 vguard x11 true (fun kk => kk x0 h) h fun x13 h =>
 vguard x11 true (fun kk => vop O (.nilck (.k x13)) h 14 kk) h fun x14 h =>
 vguard x11 true (fun kk => vfaddr 1 x14 h kk) h fun x15 h =>
 vguard x11 true (fun kk => vload false 1 x15 h kk) h fun x16 h =>
 vguard x11 true (fun kk => kk x0 h) h fun x17 h =>
 vguard x11 true (fun kk => vop O (.nilck (.k x17)) h 18 kk) h fun x18 h =>
 vguard x11 true (fun kk => vfaddr 0 x18 h kk) h fun x19 h =>
 vguard x11 true (fun kk => vload false 1 x19 h kk) h fun x20 h =>
 vguard x11 true (fun kk => vlen O 0 x20 h 21 kk) h fun x21 h =>
 vguard x11 true (fun kk => vbin .lss 0 x16 x21 h kk) h fun x22 h =>
 vop O (.pick (.k x11) (.k x22) (.k (kB false))) h 23 fun x23 h =>
 vguard x23 true (fun kk => kk x0 h) h fun x25 h =>
 vguard x23 true (fun kk => vop O (.nilck (.k x25)) h 26 kk) h fun x26 h =>
 vguard x23 true (fun kk => vfaddr 0 x26 h kk) h fun x27 h =>
 vguard x23 true (fun kk => vload false 1 x27 h kk) h fun x28 h =>
 vguard x23 true (fun kk => kk x0 h) h fun x29 h =>
 vguard x23 true (fun kk => vop O (.nilck (.k x29)) h 30 kk) h fun x30 h =>
 vguard x23 true (fun kk => vfaddr 1 x30 h kk) h fun x31 h =>
 vguard x23 true (fun kk => vload false 1 x31 h kk) h fun x32 h =>
 vguard x23 true (fun kk => vindex x28 x32 h kk) h fun x33 h =>
 vguard x23 true (fun kk => kk x1 h) h fun x34 h =>
 vguard x23 true (fun kk => vbin .eql 0 x33 x34 h kk) h fun x35 h =>
 vop O (.pick (.k x23) (.k x35) (.k (kB false))) h 36 fun x36 h =>
 vif x36 (
 vop O (.nilck (.k x0)) h 38 fun x38 h =>
 vfaddr 1 x38 h fun x39 h =>
 vload false 1 x39 h fun x40 h =>
 vbin .add 0 x40 (kI 1) h fun x41 h =>
 vop O (.nilck (.k x0)) h 42 fun x42 h =>
 vfaddr 1 x42 h fun x43 h =>
 vstore 1 x43 x41 h fun _ h =>
 tcomp (kB true) fun c0 => vfin true q [c0] h)
 (tcomp (kB false) fun c0 => vfin true q [c0] h)
theorem e253_0 (O : Oracle) (R : Jump) (q : Nat) (x0 x1 : TVal) (h : Heap) : b253_0 O R q x0 x1 h = stepF c253 O R q 0 [x0, x1] h := by kernel_rfl
noncomputable def d253 : BlkF := fun O R q => [.s fun y0 => .s fun y1 => .z fun h => b253_0 O R q y0 y1 h]
theorem o253 (O : Oracle) (R : Jump) (q : Nat) : HoldsAll c253 O R q 0 (d253 O R q) := ⟨fun y0 y1 h => e253_0 O R q y0 y1 h, trivial⟩
/- sprue/scan.front -/
def c262 : MFunc := { np := 2, res := [.t 4], frz := true, body := (.seq (.reg [(oA 4 (.mv (.k (.v (.c (.p (.int .i64 0)))))))] []) (.seq (.seq (.reg [(oA 6 (.mv (.t 0))), (oA 7 (.rangeS (.t 6)))] []) (.block 0 (.loop 1 [0, 1, 7] (.seq (.reg [(oA 8 (.nextS (.t 7))), (oA 9 (.extract (.t 8) 0))] []) (.seq (.cond (.t 9) .skip (.exit 0)) (.block 1 (.seq (.reg [(oA 10 (.extract (.t 8) 1)), (oA 5 (.mv (.t 10)))] []) (.seq (.reg [(oA 11 (.mv (.t 1))), (oA 12 (.mv (.t 0))), (oA 13 (.mv (.t 5))), (oA 14 (.index (.t 12) (.t 13))), (oA 15 (.call (.t 11) [(.t 14)])), (oA 16 (.un .not (.t 15)))] []) (.cond (.t 16) (.seq (.reg [(oA 17 (.mv (.t 5))), (oA 4 (.mv (.t 17)))] []) .ret) .skip))))))))) (.mark 2 [0] (.seq (.reg [(oA 18 (.mv (.t 0))), (oA 19 (.len 0 (.t 18))), (oA 4 (.mv (.t 19)))] []) .ret)))) }
theorem t262 : compF Tryz.prog (globs2 tabs opq) (fun _ => false) true Tryz.f262 = some c262.erase := by kernel_rfl
noncomputable def b262_0 (O : Oracle) (R : Jump) (q : Nat) (x0 x1 : TVal) (h : Heap) : Res1 :=
 vop O (.rangeS (.k x0)) h 7 fun x7 h =>
 R 1 [x0, x1, x7] h
theorem e262_0 (O : Oracle) (R : Jump) (q : Nat) (x0 x1 : TVal) (h : Heap) : b262_0 O R q x0 x1 h = stepF c262 O R q 0 [x0, x1] h := by kernel_rfl
noncomputable def b262_1 (O : Oracle) (R : Jump) (q : Nat) (x0 x1 x7 : TVal) (h : Heap) : Res1 :=
 vop O (.nextS (.k x7)) h 8 fun x8 h =>
 vext x8 0 h fun x9 h =>
 vif x9 (
 vext x8 1 h fun x10 h =>
 vindex x0 x10 h fun x14 h =>
 vcall O x1 [x14] h 15 fun x15 h =>
 vop O (.un .not (.k x15)) h 16 fun x16 h =>
 vif x16 (
 tcomp x10 fun c0 => vfin true q [c0] h)
 (R 1 [x0, x1, x7] h))
 (R 2 [x0] h)
theorem e262_1 (O : Oracle) (R : Jump) (q : Nat) (x0 x1 x7 : TVal) (h : Heap) : b262_1 O R q x0 x1 x7 h = stepF c262 O R q 1 [x0, x1, x7] h := by kernel_rfl
noncomputable def b262_2 (O : Oracle) (R : Jump) (q : Nat) (x0 : TVal) (h : Heap) : Res1 :=
 vlen O 0 x0 h 19 fun x19 h =>
 tcomp x19 fun c0 => vfin true q [c0] h
theorem e262_2 (O : Oracle) (R : Jump) (q : Nat) (x0 : TVal) (h : Heap) : b262_2 O R q x0 h = stepF c262 O R q 2 [x0] h := by kernel_rfl
noncomputable def d262 : BlkF := fun O R q => [.s fun y0 => .s fun y1 => .z fun h => b262_0 O R q y0 y1 h, .s fun y0 => .s fun y1 => .s fun y2 => .z fun h => b262_1 O R q y0 y1 y2 h, .s fun y0 => .z fun h => b262_2 O R q y0 h]
theorem o262 (O : Oracle) (R : Jump) (q : Nat) : HoldsAll c262 O R q 0 (d262 O R q) := ⟨fun y0 y1 h => e262_0 O R q y0 y1 h, fun y0 y1 y2 h => e262_1 O R q y0 y1 y2 h, fun y0 h => e262_2 O R q y0 h, trivial⟩
/- sprue/scan.row$1 -/
def c263 : MFunc := { np := 1, res := [.t 2], frz := true, body := (.seq (.reg [(oA 2 (.mv (.k (.v (.c (.p (.bool false)))))))] []) (.seq (.reg [(oA 3 (.mv (.t 0))), (oA 4 (.call (.k (.v (.c (.func 237 [])))) [(.t 3)])), (oA 5 (.mv (.t 4))), ⟨(some 6), (.mv (.t 0)), (some (5, false))⟩, ⟨(some 7), (.call (.k (.v (.c (.func 228 [])))) [(.t 6)]), (some (5, false))⟩, (oA 8 (.pick (.t 5) (.k (.v (.c (.p (.bool true))))) (.t 7))), (oA 2 (.mv (.t 8)))] []) .ret)) }
theorem t263 : compF Tryz.prog (globs2 tabs opq) (fun _ => false) true Tryz.f263 = some c263.erase := by kernel_rfl
noncomputable def b263_0 (O : Oracle) (R : Jump) (q : Nat) (x0 : TVal) (h : Heap) : Res1 :=
 vcall O (.v (.c (.func 237 []))) [x0] h 4 fun x4 h =>
 vguard x4 false (fun kk => kk x0 h) h fun x6 h =>
 vguard x4 false (fun kk => vcall O (.v (.c (.func 228 []))) [x6] h 7 kk) h fun x7 h =>
 vop O (.pick (.k x4) (.k (kB true)) (.k x7)) h 8 fun x8 h =>
 tcomp x8 fun c0 => vfin true q [c0] h
theorem e263_0 (O : Oracle) (R : Jump) (q : Nat) (x0 : TVal) (h : Heap) : b263_0 O R q x0 h = stepF c263 O R q 0 [x0] h := by kernel_rfl
noncomputable def d263 : BlkF := fun O R q => [.s fun y0 => .z fun h => b263_0 O R q y0 h]
theorem o263 (O : Oracle) (R : Jump) (q : Nat) : HoldsAll c263 O R q 0 (d263 O R q) := ⟨fun y0 h => e263_0 O R q y0 h, trivial⟩
/- internal/stringslite.Index -/
def c264 : MFunc := { np := 2, res := [.t 4], frz := true, body := (.seq (.reg [(oA 4 (.mv (.k (.v (.c (.p (.int .i64 0)))))))] []) (.seq (.reg [(oA 14 (.mv (.t 1))), (oA 15 (.len 0 (.t 14))), (oA 5 (.mv (.t 15)))] []) (.seq (.block 0 (.seq (.reg [(oA 17 (.mv (.t 5))), (oA 18 (.bin .eql 0 (.t 17) (.k (.v (.c (.p (.int .i64 0))))))), (oA 19 (.mv (.t 18))), ⟨(some 20), (.mv (.t 1)), (some (19, false))⟩, ⟨(some 21), (.mv (.t 0)), (some (19, false))⟩, ⟨(some 22), (.bin .eql 0 (.t 20) (.t 21)), (some (19, false))⟩, (oA 23 (.pick (.t 19) (.k (.v (.c (.p (.bool true))))) (.t 22))), (oA 16 (.mv (.t 23)))] []) (.cond (.t 16) (.seq (.reg [(oA 4 (.mv (.k (.v (.c (.p (.int .i64 0)))))))] []) .ret) (.seq (.reg [(oA 25 (.mv (.t 5))), (oA 26 (.bin .eql 0 (.t 25) (.k (.v (.c (.p (.int .i64 1))))))), (oA 24 (.mv (.t 26)))] []) (.cond (.t 24) (.seq (.reg [(oA 27 (.mv (.t 0))), (oA 28 (.mv (.t 1))), (oA 29 (.index (.t 28) (.k (.v (.c (.p (.int .i64 0))))))), (oA 30 (.call (.k (.v (.c (.func 287 [])))) [(.t 27), (.t 29)])), (oA 4 (.mv (.t 30)))] []) .ret) (.seq (.reg [(oA 32 (.mv (.t 5))), (oA 33 (.mv (.t 0))), (oA 34 (.len 0 (.t 33))), (oA 35 (.bin .geq 0 (.t 32) (.t 34))), (oA 31 (.mv (.t 35)))] []) (.cond (.t 31) (.seq (.reg [(oA 4 (.mv (.k (.v (.c (.p (.int .i64 (-1))))))))] []) .ret) (.seq (.reg [(oA 37 (.mv (.t 5))), (oA 38 (.load false 1 (.k (.v (.c (.p (.pptr [(.sym .i64 63 (.ofNat 0) (.ofNat 1) (.ofNat 0))] 0))))))), (oA 39 (.bin .leq 0 (.t 37) (.t 38))), (oA 40 (.mv (.t 39))), ⟨(some 41), (.mv (.t 0)), (some (40, true))⟩, ⟨(some 42), (.len 0 (.t 41)), (some (40, true))⟩, ⟨(some 43), (.bin .leq 0 (.t 42) (.k (.v (.c (.p (.int .i64 64)))))), (some (40, true))⟩, (oA 44 (.pick (.t 40) (.t 43) (.k (.v (.c (.p (.bool false))))))), (oA 36 (.mv (.t 44)))] []) (.cond (.t 36) (.seq (.reg [(oA 45 (.mv (.t 0))), (oA 46 (.mv (.t 1))), (oA 47 (.call (.k (.v (.c (.func 288 [])))) [(.t 45), (.t 46)])), (oA 4 (.mv (.t 47)))] []) .ret) .skip))))))))) (.seq (.reg [(oA 48 (.mv (.t 1))), (oA 49 (.index (.t 48) (.k (.v (.c (.p (.int .i64 0))))))), (oA 6 (.mv (.t 49)))] []) (.seq (.reg [(oA 50 (.mv (.t 1))), (oA 51 (.index (.t 50) (.k (.v (.c (.p (.int .i64 1))))))), (oA 7 (.mv (.t 51)))] []) (.seq (.reg [(oA 8 (.mv (.k (.v (.c (.p (.int .i64 0)))))))] []) (.seq (.reg [(oA 52 (.mv (.t 0))), (oA 53 (.len 0 (.t 52))), (oA 54 (.mv (.t 5))), (oA 55 (.bin .sub 0 (.t 53) (.t 54))), (oA 56 (.bin .add 0 (.t 55) (.k (.v (.c (.p (.int .i64 1))))))), (oA 9 (.mv (.t 56)))] []) (.seq (.reg [(oA 10 (.mv (.k (.v (.c (.p (.int .i64 0)))))))] []) (.seq (.block 1 (.loop 1 [0, 1, 5, 6, 7, 8, 9, 10] (.seq (.seq (.reg [(oA 57 (.mv (.t 8))), (oA 58 (.mv (.t 9))), (oA 59 (.bin .lss 0 (.t 57) (.t 58)))] []) (.cond (.t 59) .skip (.exit 1))) (.block 2 (.seq (.seq (.reg [(oA 60 (.mv (.t 0))), (oA 61 (.mv (.t 8))), (oA 62 (.index (.t 60) (.t 61))), (oA 63 (.mv (.t 6))), (oA 64 (.bin .neq 0 (.t 62) (.t 63)))] []) (.cond (.t 64) (.seq (.reg [(oA 65 (.mv (.t 0))), (oA 66 (.mv (.t 8))), (oA 67 (.bin .add 0 (.t 66) (.k (.v (.c (.p (.int .i64 1))))))), (oA 68 (.mv (.t 9))), (oA 69 (.slice 0 true (.t 65) (some (.t 67)) (some (.t 68)) none)), (oA 70 (.mv (.t 6))), (oA 71 (.call (.k (.v (.c (.func 287 [])))) [(.t 69), (.t 70)])), (oA 11 (.mv (.t 71)))] []) (.seq (.seq (.reg [(oA 72 (.mv (.t 11))), (oA 73 (.bin .lss 0 (.t 72) (.k (.v (.c (.p (.int .i64 0)))))))] []) (.cond (.t 73) (.seq (.reg [(oA 4 (.mv (.k (.v (.c (.p (.int .i64 (-1))))))))] []) .ret) .skip)) (.reg [(oA 74 (.mv (.t 8))), (oA 75 (.mv (.t 11))), (oA 76 (.bin .add 0 (.t 75) (.k (.v (.c (.p (.int .i64 1))))))), (oA 77 (.bin .add 0 (.t 74) (.t 76))), (oA 8 (.mv (.t 77)))] []))) .skip)) (.mark 2 [0, 1, 5, 6, 7, 8, 9, 10] (.seq (.seq (.reg [(oA 78 (.mv (.t 0))), (oA 79 (.mv (.t 8))), (oA 80 (.bin .add 0 (.t 79) (.k (.v (.c (.p (.int .i64 1))))))), (oA 81 (.index (.t 78) (.t 80))), (oA 82 (.mv (.t 7))), (oA 83 (.bin .eql 0 (.t 81) (.t 82))), (oA 84 (.mv (.t 83))), ⟨(some 85), (.mv (.t 0)), (some (84, true))⟩, ⟨(some 86), (.mv (.t 8)), (some (84, true))⟩, ⟨(some 87), (.mv (.t 8)), (some (84, true))⟩, ⟨(some 88), (.mv (.t 5)), (some (84, true))⟩, ⟨(some 89), (.bin .add 0 (.t 87) (.t 88)), (some (84, true))⟩, ⟨(some 90), (.slice 0 true (.t 85) (some (.t 86)) (some (.t 89)) none), (some (84, true))⟩, ⟨(some 91), (.mv (.t 1)), (some (84, true))⟩, ⟨(some 92), (.bin .eql 0 (.t 90) (.t 91)), (some (84, true))⟩, (oA 93 (.pick (.t 84) (.t 92) (.k (.v (.c (.p (.bool false)))))))] []) (.cond (.t 93) (.seq (.reg [(oA 94 (.mv (.t 8))), (oA 4 (.mv (.t 94)))] []) .ret) .skip)) (.seq (.reg [(oA 95 (.mv (.t 8))), (oA 96 (.bin .add 0 (.t 95) (.k (.v (.c (.p (.int .i64 1))))))), (oA 8 (.mv (.t 96)))] []) (.seq (.reg [(oA 97 (.mv (.t 10))), (oA 98 (.bin .add 0 (.t 97) (.k (.v (.c (.p (.int .i64 1))))))), (oA 10 (.mv (.t 98)))] []) (.seq (.reg [(oA 99 (.mv (.t 5))), (oA 100 (.load false 1 (.k (.v (.c (.p (.pptr [(.sym .i64 63 (.ofNat 0) (.ofNat 1) (.ofNat 0))] 0))))))), (oA 101 (.bin .leq 0 (.t 99) (.t 100))), (oA 102 (.mv (.t 101))), ⟨(some 103), (.mv (.t 10)), (some (102, true))⟩, ⟨(some 104), (.mv (.t 8)), (some (102, true))⟩, ⟨(some 105), (.call (.k (.v (.c (.func 289 [])))) [(.t 104)]), (some (102, true))⟩, ⟨(some 106), (.bin .gtr 0 (.t 103) (.t 105)), (some (102, true))⟩, (oA 107 (.pick (.t 102) (.t 106) (.k (.v (.c (.p (.bool false)))))))] []) (.cond (.t 107) (.seq (.reg [(oA 108 (.mv (.t 0))), (oA 109 (.mv (.t 8))), (oA 110 (.slice 0 true (.t 108) (some (.t 109)) none none)), (oA 111 (.mv (.t 1))), (oA 112 (.call (.k (.v (.c (.func 288 [])))) [(.t 110), (.t 111)])), (oA 12 (.mv (.t 112)))] []) (.seq (.seq (.reg [(oA 113 (.mv (.t 12))), (oA 114 (.bin .geq 0 (.t 113) (.k (.v (.c (.p (.int .i64 0)))))))] []) (.cond (.t 114) (.seq (.reg [(oA 115 (.mv (.t 12))), (oA 116 (.mv (.t 8))), (oA 117 (.bin .add 0 (.t 115) (.t 116))), (oA 4 (.mv (.t 117)))] []) .ret) .skip)) (.seq (.reg [(oA 4 (.mv (.k (.v (.c (.p (.int .i64 (-1))))))))] []) .ret))) (.seq (.reg [(oA 118 (.mv (.t 5))), (oA 119 (.load false 1 (.k (.v (.c (.p (.pptr [(.sym .i64 63 (.ofNat 0) (.ofNat 1) (.ofNat 0))] 0))))))), (oA 120 (.bin .gtr 0 (.t 118) (.t 119))), (oA 121 (.mv (.t 120))), ⟨(some 122), (.mv (.t 10)), (some (121, true))⟩, ⟨(some 123), (.mv (.t 8)), (some (121, true))⟩, ⟨(some 124), (.bin .shr 0 (.t 123) (.k (.v (.c (.p (.int .u64 4)))))), (some (121, true))⟩, ⟨(some 125), (.bin .add 0 (.k (.v (.c (.p (.int .i64 4))))) (.t 124)), (some (121, true))⟩, ⟨(some 126), (.bin .geq 0 (.t 122) (.t 125)), (some (121, true))⟩, (oA 127 (.pick (.t 121) (.t 126) (.k (.v (.c (.p (.bool false))))))), (oA 128 (.mv (.t 127))), ⟨(some 129), (.mv (.t 8)), (some (128, true))⟩, ⟨(some 130), (.mv (.t 9)), (some (128, true))⟩, ⟨(some 131), (.bin .lss 0 (.t 129) (.t 130)), (some (128, true))⟩, (oA 132 (.pick (.t 128) (.t 131) (.k (.v (.c (.p (.bool false)))))))] []) (.cond (.t 132) (.seq (.reg [(oA 133 (.mv (.t 0))), (oA 134 (.mv (.t 8))), (oA 135 (.slice 0 true (.t 133) (some (.t 134)) none none)), (oA 136 (.mv (.t 1))), (oA 137 (.call (.k (.v (.c (.func 290 [])))) [(.t 135), (.t 136)])), (oA 13 (.mv (.t 137)))] []) (.seq (.seq (.reg [(oA 138 (.mv (.t 13))), (oA 139 (.bin .lss 0 (.t 138) (.k (.v (.c (.p (.int .i64 0)))))))] []) (.cond (.t 139) (.seq (.reg [(oA 4 (.mv (.k (.v (.c (.p (.int .i64 (-1))))))))] []) .ret) .skip)) (.seq (.reg [(oA 140 (.mv (.t 8))), (oA 141 (.mv (.t 13))), (oA 142 (.bin .add 0 (.t 140) (.t 141))), (oA 4 (.mv (.t 142)))] []) .ret))) .skip))))))))))))) (.seq (.reg [(oA 4 (.mv (.k (.v (.c (.p (.int .i64 (-1))))))))] []) .ret)))))))))) }
theorem t264 : compF Tryz.prog (globs2 tabs opq) (fun _ => false) true Tryz.f264 = some c264.erase := by kernel_rfl
noncomputable def b264_0 (O : Oracle) (R : Jump) (q : Nat) (x0 x1 : TVal) (h : Heap) : Res1 :=
 vlen O 0 x1 h 15 fun x15 h =>
 vbin .eql 0 x15 (kI 0) h fun x18 h =>
 vguard x18 false (fun kk => kk x1 h) h fun x20 h =>
 vguard x18 false (fun kk => kk x0 h) h fun x21 h =>
 vguard x18 false (fun kk => vbin .eql 0 x20 x21 h kk) h fun x22 h =>
 vop O (.pick (.k x18) (.k (kB true)) (.k x22)) h 23 fun x23 h =>
 vif x23 (
 tcomp (kI 0) fun c0 => vfin true q [c0] h)
 (vbin .eql 0 x15 (kI 1) h fun x26 h =>
 vif x26 (
 vindex x1 (kI 0) h fun x29 h =>
 vcall O (.v (.c (.func 287 []))) [x0, x29] h 30 fun x30 h =>
 tcomp x30 fun c0 => vfin true q [c0] h)
 (vlen O 0 x0 h 34 fun x34 h =>
 vbin .geq 0 x15 x34 h fun x35 h =>
 vif x35 (
 tcomp (kI (-1)) fun c0 => vfin true q [c0] h)
 (vload false 1 (.v (.c (.p (.pptr [(.sym .i64 63 (.ofNat 0) (.ofNat 1) (.ofNat 0))] 0)))) h fun x38 h =>
 vbin .leq 0 x15 x38 h fun x39 h =>
 vguard x39 true (fun kk => kk x0 h) h fun x41 h =>
 vguard x39 true (fun kk => vlen O 0 x41 h 42 kk) h fun x42 h =>
 vguard x39 true (fun kk => vbin .leq 0 x42 (kI 64) h kk) h fun x43 h =>
 vop O (.pick (.k x39) (.k x43) (.k (kB false))) h 44 fun x44 h =>
 vif x44 (
 vcall O (.v (.c (.func 288 []))) [x0, x1] h 47 fun x47 h =>
 tcomp x47 fun c0 => vfin true q [c0] h)
 (vindex x1 (kI 0) h fun x49 h =>
 vindex x1 (kI 1) h fun x51 h =>
 vlen O 0 x0 h 53 fun x53 h =>
 vbin .sub 0 x53 x15 h fun x55 h =>
 vbin .add 0 x55 (kI 1) h fun x56 h =>
 R 1 [x0, x1, x15, x49, x51, (kI 0), x56, (kI 0)] h))))
theorem e264_0 (O : Oracle) (R : Jump) (q : Nat) (x0 x1 : TVal) (h : Heap) : b264_0 O R q x0 x1 h = stepF c264 O R q 0 [x0, x1] h := by kernel_rfl
noncomputable def b264_1 (O : Oracle) (R : Jump) (q : Nat) (x0 x1 x5 x6 x7 x8 x9 x10 : TVal) (h : Heap) : Res1 :=
 vbin .lss 0 x8 x9 h fun x59 h =>
 vif x59 (
 vindex x0 x8 h fun x62 h =>
 vbin .neq 0 x62 x6 h fun x64 h =>
 vif x64 (
 vbin .add 0 x8 (kI 1) h fun x67 h =>
 vop O (.slice 0 true (.k x0) (some (.k x67)) (some (.k x9)) none) h 69 fun x69 h =>
 vcall O (.v (.c (.func 287 []))) [x69, x6] h 71 fun x71 h =>
 vbin .lss 0 x71 (kI 0) h fun x73 h =>
 vif x73 (
 tcomp (kI (-1)) fun c0 => vfin true q [c0] h)
 (vbin .add 0 x71 (kI 1) h fun x76 h =>
 vbin .add 0 x8 x76 h fun x77 h =>
 R 2 [x0, x1, x5, x6, x7, x77, x9, x10] h))
 (R 2 [x0, x1, x5, x6, x7, x8, x9, x10] h))
 (tcomp (kI (-1)) fun c0 => vfin true q [c0] h)
theorem e264_1 (O : Oracle) (R : Jump) (q : Nat) (x0 x1 x5 x6 x7 x8 x9 x10 : TVal) (h : Heap) : b264_1 O R q x0 x1 x5 x6 x7 x8 x9 x10 h = stepF c264 O R q 1 [x0, x1, x5, x6, x7, x8, x9, x10] h := by kernel_rfl
noncomputable def b264_2 (O : Oracle) (R : Jump) (q : Nat) (x0 x1 x5 x6 x7 x8 x9 x10 : TVal) (h : Heap) : Res1 :=
 vbin .add 0 x8 (kI 1) h fun x80 h =>
 vindex x0 x80 h fun x81 h =>
 vbin .eql 0 x81 x7 h fun x83 h =>
 vguard x83 true (fun kk => kk x0 h) h fun x85 h =>
 vguard x83 true (fun kk => kk x8 h) h fun x86 h =>
 vguard x83 true (fun kk => kk x8 h) h fun x87 h =>
 vguard x83 true (fun kk => kk x5 h) h fun x88 h =>
 vguard x83 true (fun kk => vbin .add 0 x87 x88 h kk) h fun x89 h =>
 vguard x83 true (fun kk => vop O (.slice 0 true (.k x85) (some (.k x86)) (some (.k x89)) none) h 90 kk) h fun x90 h =>
 vguard x83 true (fun kk => kk x1 h) h fun x91 h =>
 vguard x83 true (fun kk => vbin .eql 0 x90 x91 h kk) h fun x92 h =>
 vop O (.pick (.k x83) (.k x92) (.k (kB false))) h 93 fun x93 h =>
 vif x93 (
 tcomp x8 fun c0 => vfin true q [c0] h)
 (vbin .add 0 x8 (kI 1) h fun x96 h =>
 vbin .add 0 x10 (kI 1) h fun x98 h =>
 vload false 1 (.v (.c (.p (.pptr [(.sym .i64 63 (.ofNat 0) (.ofNat 1) (.ofNat 0))] 0)))) h fun x100 h =>
 vbin .leq 0 x5 x100 h fun x101 h =>
 vguard x101 true (fun kk => kk x98 h) h fun x103 h =>
 vguard x101 true (fun kk => kk x96 h) h fun x104 h =>
 vguard x101 true (fun kk => vcall O (.v (.c (.func 289 []))) [x104] h 105 kk) h fun x105 h =>
 vguard x101 true (fun kk => vbin .gtr 0 x103 x105 h kk) h fun x106 h =>
 vop O (.pick (.k x101) (.k x106) (.k (kB false))) h 107 fun x107 h =>
 vif x107 (
 vop O (.slice 0 true (.k x0) (some (.k x96)) none none) h 110 fun x110 h =>
 vcall O (.v (.c (.func 288 []))) [x110, x1] h 112 fun x112 h =>
 vbin .geq 0 x112 (kI 0) h fun x114 h =>
 vif x114 (
 vbin .add 0 x112 x96 h fun x117 h =>
 tcomp x117 fun c0 => vfin true q [c0] h)
 (tcomp (kI (-1)) fun c0 => vfin true q [c0] h))
 (vload false 1 (.v (.c (.p (.pptr [(.sym .i64 63 (.ofNat 0) (.ofNat 1) (.ofNat 0))] 0)))) h fun x119 h =>
 vbin .gtr 0 x5 x119 h fun x120 h =>
 vguard x120 true (fun kk => kk x98 h) h fun x122 h =>
 vguard x120 true (fun kk => kk x96 h) h fun x123 h =>
 vguard x120 true (fun kk => vbin .shr 0 x123 (.v (.c (.p (.int .u64 4)))) h kk) h fun x124 h =>
 vguard x120 true (fun kk => vbin .add 0 (kI 4) x124 h kk) h fun x125 h =>
 vguard x120 true (fun kk => vbin .geq 0 x122 x125 h kk) h fun x126 h =>
 vop O (.pick (.k x120) (.k x126) (.k (kB false))) h 127 fun x127 h =>
 vguard x127 true (fun kk => kk x96 h) h fun x129 h =>
 vguard x127 true (fun kk => kk x9 h) h fun x130 h =>
 vguard x127 true (fun kk => vbin .lss 0 x129 x130 h kk) h fun x131 h =>
 vop O (.pick (.k x127) (.k x131) (.k (kB false))) h 132 fun x132 h =>
 vif x132 (
 vop O (.slice 0 true (.k x0) (some (.k x96)) none none) h 135 fun x135 h =>
 vcall O (.v (.c (.func 290 []))) [x135, x1] h 137 fun x137 h =>
 vbin .lss 0 x137 (kI 0) h fun x139 h =>
 vif x139 (
 tcomp (kI (-1)) fun c0 => vfin true q [c0] h)
 (vbin .add 0 x96 x137 h fun x142 h =>
 tcomp x142 fun c0 => vfin true q [c0] h))
 (R 1 [x0, x1, x5, x6, x7, x96, x9, x98] h)))
theorem e264_2 (O : Oracle) (R : Jump) (q : Nat) (x0 x1 x5 x6 x7 x8 x9 x10 : TVal) (h : Heap) : b264_2 O R q x0 x1 x5 x6 x7 x8 x9 x10 h = stepF c264 O R q 2 [x0, x1, x5, x6, x7, x8, x9, x10] h := by kernel_rfl
noncomputable def d264 : BlkF := fun O R q => [.s fun y0 => .s fun y1 => .z fun h => b264_0 O R q y0 y1 h, .s fun y0 => .s fun y1 => .s fun y2 => .s fun y3 => .s fun y4 => .s fun y5 => .s fun y6 => .s fun y7 => .z fun h => b264_1 O R q y0 y1 y2 y3 y4 y5 y6 y7 h, .s fun y0 => .s fun y1 => .s fun y2 => .s fun y3 => .s fun y4 => .s fun y5 => .s fun y6 => .s fun y7 => .z fun h => b264_2 O R q y0 y1 y2 y3 y4 y5 y6 y7 h]
theorem o264 (O : Oracle) (R : Jump) (q : Nat) : HoldsAll c264 O R q 0 (d264 O R q) := ⟨fun y0 y1 h => e264_0 O R q y0 y1 h, fun y0 y1 y2 y3 y4 y5 y6 y7 h => e264_1 O R q y0 y1 y2 y3 y4 y5 y6 y7 h, fun y0 y1 y2 y3 y4 y5 y6 y7 h => e264_2 O R q y0 y1 y2 y3 y4 y5 y6 y7 h, trivial⟩
/- internal/strconv.small -/
def c265 : MFunc := { np := 1, res := [.t 2], frz := true, body := (.seq (.reg [(oA 2 (.mv (.k (.v (.c (.p (.str [])))))))] []) (.seq (.seq (.reg [(oA 3 (.mv (.t 0))), (oA 4 (.bin .lss 0 (.t 3) (.k (.v (.c (.p (.int .i64 10)))))))] []) (.cond (.t 4) (.seq (.reg [(oA 5 (.mv (.t 0))), (oA 6 (.mv (.t 0))), (oA 7 (.bin .add 0 (.t 6) (.k (.v (.c (.p (.int .i64 1))))))), (oA 8 (.slice 0 true (.k (.v (.c (.p (.str [48, 49, 50, 51, 52, 53, 54, 55, 56, 57, 97, 98, 99, 100, 101, 102, 103, 104, 105, 106, 107, 108, 109, 110, 111, 112, 113, 114, 115, 116, 117, 118, 119, 120, 121, 122]))))) (some (.t 5)) (some (.t 7)) none)), (oA 2 (.mv (.t 8)))] []) .ret) .skip)) (.seq (.reg [(oA 9 (.mv (.t 0))), (oA 10 (.bin .mul 0 (.t 9) (.k (.v (.c (.p (.int .i64 2))))))), (oA 11 (.mv (.t 0))), (oA 12 (.bin .mul 0 (.t 11) (.k (.v (.c (.p (.int .i64 2))))))), (oA 13 (.bin .add 0 (.t 12) (.k (.v (.c (.p (.int .i64 2))))))), (oA 14 (.slice 0 true (.k (.v (.c (.p (.str [48, 48, 48, 49, 48, 50, 48, 51, 48, 52, 48, 53, 48, 54, 48, 55, 48, 56, 48, 57, 49, 48, 49, 49, 49, 50, 49, 51, 49, 52, 49, 53, 49, 54, 49, 55, 49, 56, 49, 57, 50, 48, 50, 49, 50, 50, 50, 51, 50, 52, 50, 53, 50, 54, 50, 55, 50, 56, 50, 57, 51, 48, 51, 49, 51, 50, 51, 51, 51, 52, 51, 53, 51, 54, 51, 55, 51, 56, 51, 57, 52, 48, 52, 49, 52, 50, 52, 51, 52, 52, 52, 53, 52, 54, 52, 55, 52, 56, 52, 57, 53, 48, 53, 49, 53, 50, 53, 51, 53, 52, 53, 53, 53, 54, 53, 55, 53, 56, 53, 57, 54, 48, 54, 49, 54, 50, 54, 51, 54, 52, 54, 53, 54, 54, 54, 55, 54, 56, 54, 57, 55, 48, 55, 49, 55, 50, 55, 51, 55, 52, 55, 53, 55, 54, 55, 55, 55, 56, 55, 57, 56, 48, 56, 49, 56, 50, 56, 51, 56, 52, 56, 53, 56, 54, 56, 55, 56, 56, 56, 57, 57, 48, 57, 49, 57, 50, 57, 51, 57, 52, 57, 53, 57, 54, 57, 55, 57, 56, 57, 57]))))) (some (.t 10)) (some (.t 13)) none)), (oA 2 (.mv (.t 14)))] []) .ret))) }
theorem t265 : compF Tryz.prog (globs2 tabs opq) (fun _ => false) true Tryz.f265 = some c265.erase := by kernel_rfl
noncomputable def b265_0 (O : Oracle) (R : Jump) (q : Nat) (x0 : TVal) (h : Heap) : Res1 :=
 vbin .lss 0 x0 (kI 10) h fun x4 h =>
 vif x4 (
 vbin .add 0 x0 (kI 1) h fun x7 h =>
 vop O (.slice 0 true (.k (kS [48, 49, 50, 51, 52, 53, 54, 55, 56, 57, 97, 98, 99, 100, 101, 102, 103, 104, 105, 106, 107, 108, 109, 110, 111, 112, 113, 114, 115, 116, 117, 118, 119, 120, 121, 122])) (some (.k x0)) (some (.k x7)) none) h 8 fun x8 h =>
 tcomp x8 fun c0 => vfin true q [c0] h)
 (vbin .mul 0 x0 (kI 2) h fun x10 h =>
 vbin .mul 0 x0 (kI 2) h fun x12 h =>
 vbin .add 0 x12 (kI 2) h fun x13 h =>
 vop O (.slice 0 true (.k (kS [48, 48, 48, 49, 48, 50, 48, 51, 48, 52, 48, 53, 48, 54, 48, 55, 48, 56, 48, 57, 49, 48, 49, 49, 49, 50, 49, 51, 49, 52, 49, 53, 49, 54, 49, 55, 49, 56, 49, 57, 50, 48, 50, 49, 50, 50, 50, 51, 50, 52, 50, 53, 50, 54, 50, 55, 50, 56, 50, 57, 51, 48, 51, 49, 51, 50, 51, 51, 51, 52, 51, 53, 51, 54, 51, 55, 51, 56, 51, 57, 52, 48, 52, 49, 52, 50, 52, 51, 52, 52, 52, 53, 52, 54, 52, 55, 52, 56, 52, 57, 53, 48, 53, 49, 53, 50, 53, 51, 53, 52, 53, 53, 53, 54, 53, 55, 53, 56, 53, 57, 54, 48, 54, 49, 54, 50, 54, 51, 54, 52, 54, 53, 54, 54, 54, 55, 54, 56, 54, 57, 55, 48, 55, 49, 55, 50, 55, 51, 55, 52, 55, 53, 55, 54, 55, 55, 55, 56, 55, 57, 56, 48, 56, 49, 56, 50, 56, 51, 56, 52, 56, 53, 56, 54, 56, 55, 56, 56, 56, 57, 57, 48, 57, 49, 57, 50, 57, 51, 57, 52, 57, 53, 57, 54, 57, 55, 57, 56, 57, 57])) (some (.k x10)) (some (.k x13)) none) h 14 fun x14 h =>
 tcomp x14 fun c0 => vfin true q [c0] h)
theorem e265_0 (O : Oracle) (R : Jump) (q : Nat) (x0 : TVal) (h : Heap) : b265_0 O R q x0 h = stepF c265 O R q 0 [x0] h := by kernel_rfl
noncomputable def d265 : BlkF := fun O R q => [.s fun y0 => .z fun h => b265_0 O R q y0 h]
theorem o265 (O : Oracle) (R : Jump) (q : Nat) : HoldsAll c265 O R q 0 (d265 O R q) := ⟨fun y0 h => e265_0 O R q y0 h, trivial⟩
/- internal/strconv.numDigits -/
def c266 : MFunc := { np := 1, res := [.t 2], frz := true, body := (.seq (.reg [(oA 2 (.mv (.k (.v (.c (.p (.int .i64 0)))))))] []) (.seq (.reg [(oA 4 (.mv (.t 0))), (oA 5 (.call (.k (.v (.c (.func 292 [])))) [(.t 4)])), (oA 6 (.call (.k (.v (.c (.func 291 [])))) [(.t 5)])), (oA 3 (.mv (.t 6)))] []) (.seq (.reg [(oA 7 (.mv (.t 3))), (oA 8 (.mv (.t 0))), (oA 9 (.mv (.t 3))), (oA 10 (.iaddrA 20 1 (.k (.v (.c (.p (.pptr [(.int .u64 1), (.int .u64 10), (.int .u64 100), (.int .u64 1000), (.int .u64 10000), (.int .u64 100000), (.int .u64 1000000), (.int .u64 10000000), (.int .u64 100000000), (.int .u64 1000000000), (.int .u64 10000000000), (.int .u64 100000000000), (.int .u64 1000000000000), (.int .u64 10000000000000), (.int .u64 100000000000000), (.int .u64 1000000000000000), (.int .u64 10000000000000000), (.int .u64 100000000000000000), (.int .u64 1000000000000000000), (.int .u64 10000000000000000000)] 0))))) (.t 9))), (oA 11 (.load false 1 (.t 10))), (oA 12 (.bin .geq 0 (.t 8) (.t 11))), (oA 13 (.call (.k (.v (.c (.func 293 [])))) [(.t 12)])), (oA 14 (.bin .add 0 (.t 7) (.t 13))), (oA 2 (.mv (.t 14)))] []) .ret))) }
theorem t266 : compF Tryz.prog (globs2 tabs opq) (fun _ => false) true Tryz.f266 = some c266.erase := by kernel_rfl
noncomputable def b266_0 (O : Oracle) (R : Jump) (q : Nat) (x0 : TVal) (h : Heap) : Res1 :=
 vcall O (.v (.c (.func 292 []))) [x0] h 5 fun x5 h =>
 vcall O (.v (.c (.func 291 []))) [x5] h 6 fun x6 h =>
 vop O (.iaddrA 20 1 (.k (.v (.c (.p (.pptr [(.int .u64 1), (.int .u64 10), (.int .u64 100), (.int .u64 1000), (.int .u64 10000), (.int .u64 100000), (.int .u64 1000000), (.int .u64 10000000), (.int .u64 100000000), (.int .u64 1000000000), (.int .u64 10000000000), (.int .u64 100000000000), (.int .u64 1000000000000), (.int .u64 10000000000000), (.int .u64 100000000000000), (.int .u64 1000000000000000), (.int .u64 10000000000000000), (.int .u64 100000000000000000), (.int .u64 1000000000000000000), (.int .u64 10000000000000000000)] 0))))) (.k x6)) h 10 fun x10 h =>
 vload false 1 x10 h fun x11 h =>
 vbin .geq 0 x0 x11 h fun x12 h =>
 vcall O (.v (.c (.func 293 []))) [x12] h 13 fun x13 h =>
 vbin .add 0 x6 x13 h fun x14 h =>
 tcomp x14 fun c0 => vfin true q [c0] h
theorem e266_0 (O : Oracle) (R : Jump) (q : Nat) (x0 : TVal) (h : Heap) : b266_0 O R q x0 h = stepF c266 O R q 0 [x0] h := by kernel_rfl
noncomputable def d266 : BlkF := fun O R q => [.s fun y0 => .z fun h => b266_0 O R q y0 h]
theorem o266 (O : Oracle) (R : Jump) (q : Nat) : HoldsAll c266 O R q 0 (d266 O R q) := ⟨fun y0 h => e266_0 O R q y0 h, trivial⟩
end Go.Proofs.YtnlmlcfipbnpgaaGreatDoor.Ab
