/- Functions of the given program as the abstract interpreter has them (part 0), printed by a program of our own; each is shown to be what 'compF' makes of the given program's. No condition. -/
import Derived.Test.YtegimihckejnkaaDoorChecked
import Derived.Test.YtegimihckejnkaaDoorAd
namespace Go.Proofs.YtegimihckejnkaaDoor.Ab
open Go Go.AI
set_option linter.all false
set_option linter.unusedVariables false
set_option maxRecDepth 100000
def vals0 : List Int := [0, 0, 0, 0, 0, 0, 0, 0, 0, 1, 1, 1, 1, 1, 0, 0, 0, 0, 0, 0, 0, 0, 0, 0, 0, 0, 0, 0, 0, 0, 0, 0, 1, 0, 0, 0, 0, 0, 0, 0, 0, 0, 0, 0, 0, 0, 0, 0, 0, 0, 0, 0, 0, 0, 0, 0, 0, 0, 0, 0, 0, 0, 0, 0, 0, 0, 0, 0, 0, 0, 0, 0, 0, 0, 0, 0, 0, 0, 0, 0, 0, 0, 0, 0, 0, 0, 0, 0, 0, 0, 0, 0, 0, 0, 0, 0, 0, 0, 0, 0, 0, 0, 0, 0, 0, 0, 0, 0, 0, 0, 0, 0, 0, 0, 0, 0, 0, 0, 0, 0, 0, 0, 0, 0, 0, 0, 0, 0, 0, 0, 0, 0, 0, 0, 0, 0, 0, 0, 0, 0, 0, 0, 0, 0, 0, 0, 0, 0, 0, 0, 0, 0, 0, 0, 0, 0, 0, 0, 0, 0, 0, 0, 0, 0, 0, 0, 0, 0, 0, 0, 0, 0, 0, 0, 0, 0, 0, 0, 0, 0, 0, 0, 0, 0, 0, 0, 0, 0, 0, 0, 0, 0, 0, 0, 0, 0, 0, 0, 0, 0, 0, 0, 0, 0, 0, 0, 0, 0, 0, 0, 0, 0, 0, 0, 0, 0, 0, 0, 0, 0, 0, 0, 0, 0, 0, 0, 0, 0, 0, 0, 0, 0, 0, 0, 0, 0, 0, 0, 0, 0, 0, 0, 0, 0, 0, 0, 0, 0, 0, 0, 0, 0, 0, 0, 0, 0]
def tabs : List Tabl := [Tabl.mk "strings.asciiSpace" 1 .u8 [0, 0, 0, 0, 0, 0, 0, 0, 0, 1, 1, 1, 1, 1, 0, 0, 0, 0, 0, 0, 0, 0, 0, 0, 0, 0, 0, 0, 0, 0, 0, 0, 1, 0, 0, 0, 0, 0, 0, 0, 0, 0, 0, 0, 0, 0, 0, 0, 0, 0, 0, 0, 0, 0, 0, 0, 0, 0, 0, 0, 0, 0, 0, 0, 0, 0, 0, 0, 0, 0, 0, 0, 0, 0, 0, 0, 0, 0, 0, 0, 0, 0, 0, 0, 0, 0, 0, 0, 0, 0, 0, 0, 0, 0, 0, 0, 0, 0, 0, 0, 0, 0, 0, 0, 0, 0, 0, 0, 0, 0, 0, 0, 0, 0, 0, 0, 0, 0, 0, 0, 0, 0, 0, 0, 0, 0, 0, 0, 0, 0, 0, 0, 0, 0, 0, 0, 0, 0, 0, 0, 0, 0, 0, 0, 0, 0, 0, 0, 0, 0, 0, 0, 0, 0, 0, 0, 0, 0, 0, 0, 0, 0, 0, 0, 0, 0, 0, 0, 0, 0, 0, 0, 0, 0, 0, 0, 0, 0, 0, 0, 0, 0, 0, 0, 0, 0, 0, 0, 0, 0, 0, 0, 0, 0, 0, 0, 0, 0, 0, 0, 0, 0, 0, 0, 0, 0, 0, 0, 0, 0, 0, 0, 0, 0, 0, 0, 0, 0, 0, 0, 0, 0, 0, 0, 0, 0, 0, 0, 0, 0, 0, 0, 0, 0, 0, 0, 0, 0, 0, 0, 0, 0, 0, 0, 0, 0, 0, 0, 0, 0, 0, 0, 0, 0, 0, 0]]
def opq : Option Nat := some 0
/- sprue/spruelaw7.TreeDefines -/
def c3 : MFunc := { np := 2, res := [.t 4], frz := true, body := (.seq (.reg [⟨(some 4), (.mv (.k (.v (.c (.p (.bool false)))))), none⟩] []) (.seq (.seq (.reg [⟨(some 15), (.call (.k (.v (.c (.func 14 [])))) []), none⟩, ⟨(some 16), (.un .not (.t 15)), none⟩] []) (.cond (.t 16) (.seq (.reg [⟨(some 4), (.mv (.k (.v (.c (.p (.bool false)))))), none⟩] []) .ret) .skip)) (.seq (.reg [⟨(some 17), (.mv (.t 0)), none⟩, ⟨(some 18), (.call (.k (.v (.c (.func 15 [])))) [(.t 17), (.k (.v (.c (.p (.int .i64 15)))))]), none⟩, ⟨(some 0), (.mv (.t 18)), none⟩] []) (.seq (.reg [⟨(some 5), (.mv (.k (.v (.c (.p (.str [120])))))), none⟩] []) (.seq (.seq (.reg [⟨(some 6), (.mv (.k (.v (.c (.p (.int .i64 0)))))), none⟩] []) (.block 0 (.loop 1 [0, 1, 5, 6] (.seq (.seq (.reg [⟨(some 19), (.mv (.t 6)), none⟩, ⟨(some 20), (.mv (.t 0)), none⟩, ⟨(some 21), (.bin .lss 0 (.t 19) (.t 20)), none⟩] []) (.cond (.t 21) .skip (.exit 0))) (.seq (.block 1 (.reg [⟨(some 24), (.mv (.t 5)), none⟩, ⟨(some 25), (.bin .add 0 (.t 24) (.k (.v (.c (.p (.str [123, 123, 100, 101, 102, 105, 110, 101, 32, 34, 116])))))), none⟩, ⟨(some 26), (.mv (.t 6)), none⟩, ⟨(some 27), (.bin .add 0 (.k (.v (.c (.p (.int .i64 97))))) (.t 26)), none⟩, ⟨(some 28), (.toInt .u8 (.t 27)), none⟩, ⟨(some 29), (.bslice 1 1 [(.p (.int .u8 0))] [(0, (.t 28))] false), none⟩, ⟨(some 30), (.toStr (.t 29)), none⟩, ⟨(some 31), (.bin .add 0 (.t 25) (.t 30)), none⟩, ⟨(some 32), (.bin .add 0 (.t 31) (.k (.v (.c (.p (.str [34, 125, 125])))))), none⟩, ⟨(some 33), (.mv (.t 6)), none⟩, ⟨(some 34), (.bin .add 0 (.k (.v (.c (.p (.int .i64 65))))) (.t 33)), none⟩, ⟨(some 35), (.toInt .u8 (.t 34)), none⟩, ⟨(some 36), (.bslice 1 1 [(.p (.int .u8 0))] [(0, (.t 35))] false), none⟩, ⟨(some 37), (.toStr (.t 36)), none⟩, ⟨(some 38), (.bin .add 0 (.t 32) (.t 37)), none⟩, ⟨(some 39), (.bin .add 0 (.t 38) (.k (.v (.c (.p (.str [123, 123, 101, 110, 100, 125, 125])))))), none⟩, ⟨(some 5), (.mv (.t 39)), none⟩] [])) (.reg [⟨(some 22), (.mv (.t 6)), none⟩, ⟨(some 23), (.bin .add 0 (.t 22) (.k (.v (.c (.p (.int .i64 1)))))), none⟩, ⟨(some 6), (.mv (.t 23)), none⟩] [])))))) (.mark 2 [0, 1, 5] (.seq (.seq (.reg [⟨(some 40), (.mv (.t 0)), none⟩, ⟨(some 41), (.bin .gtr 0 (.t 40) (.k (.v (.c (.p (.int .i64 12)))))), none⟩] []) (.cond (.t 41) (.seq (.reg [⟨(some 43), (.mv (.t 5)), none⟩, ⟨(some 44), (.call (.k (.v (.c (.func 16 [])))) [(.t 43)]), none⟩, ⟨(some 42), (.mv (.t 44)), none⟩, ⟨(some 45), (.extract (.t 42) 0), none⟩, ⟨(some 46), (.extract (.t 42) 1), none⟩, ⟨(some 47), (.extract (.t 42) 2), none⟩, ⟨(some 7), (.mv (.t 45)), none⟩, ⟨(some 8), (.mv (.t 46)), none⟩, ⟨(some 9), (.mv (.t 47)), none⟩] []) (.seq (.reg [⟨(some 48), (.mv (.t 9)), none⟩, ⟨(some 49), (.bin .eql 0 (.t 48) (.k (.v (.c (.p (.int .i64 3)))))), none⟩, ⟨(some 4), (.mv (.t 49)), none⟩] []) .ret)) .skip)) (.seq (.reg [⟨(some 10), (.mv (.k (.v (.c (.p (.int .i64 0)))))), none⟩] []) (.seq (.seq (.reg [⟨(some 50), (.mv (.t 1)), none⟩, ⟨(some 51), (.call (.k (.v (.c (.func 15 [])))) [(.t 50), (.k (.v (.c (.p (.int .i64 4)))))]), none⟩] []) (.block 2 (.seq (.reg [⟨(some 53), (.bin .eql 0 (.t 51) (.k (.v (.c (.p (.int .i64 1)))))), none⟩, ⟨(some 52), (.mv (.t 53)), none⟩] []) (.cond (.t 52) (.seq (.reg [⟨(some 54), (.mv (.t 0)), none⟩, ⟨(some 55), (.bin .gtr 0 (.t 54) (.k (.v (.c (.p (.int .i64 0)))))), none⟩] []) (.cond (.t 55) (.reg [⟨(some 56), (.mv (.t 5)), none⟩, ⟨(some 57), (.bin .add 0 (.t 56) (.k (.v (.c (.p (.str [123, 123, 100, 101, 102, 105, 110, 101, 32, 34, 116, 97, 34, 125, 125, 123, 123, 101, 110, 100, 125, 125])))))), none⟩, ⟨(some 5), (.mv (.t 57)), none⟩, ⟨(some 10), (.mv (.k (.v (.c (.p (.int .i64 6)))))), none⟩] []) .skip)) (.seq (.reg [⟨(some 59), (.bin .eql 0 (.t 51) (.k (.v (.c (.p (.int .i64 2)))))), none⟩, ⟨(some 58), (.mv (.t 59)), none⟩] []) (.cond (.t 58) (.reg [⟨(some 60), (.mv (.t 5)), none⟩, ⟨(some 61), (.bin .add 0 (.t 60) (.k (.v (.c (.p (.str [123, 123, 100, 101, 102, 105, 110, 101, 32, 34, 97, 32, 98, 34, 125, 125, 123, 123, 101, 110, 100, 125, 125])))))), none⟩, ⟨(some 5), (.mv (.t 61)), none⟩, ⟨(some 10), (.mv (.k (.v (.c (.p (.int .i64 15)))))), none⟩] []) (.seq (.reg [⟨(some 63), (.bin .eql 0 (.t 51) (.k (.v (.c (.p (.int .i64 3)))))), none⟩, ⟨(some 62), (.mv (.t 63)), none⟩] []) (.cond (.t 62) (.reg [⟨(some 64), (.mv (.t 5)), none⟩, ⟨(some 65), (.bin .add 0 (.t 64) (.k (.v (.c (.p (.str [123, 123, 105, 102, 32, 46, 125, 125, 123, 123, 100, 101, 102, 105, 110, 101, 32, 34, 122, 34, 125, 125, 123, 123, 101, 110, 100, 125, 125, 123, 123, 101, 110, 100, 125, 125])))))), none⟩, ⟨(some 5), (.mv (.t 65)), none⟩, ⟨(some 10), (.mv (.k (.v (.c (.p (.int .i64 12)))))), none⟩] []) .skip)))))))) (.mark 3 [0, 5, 10] (.seq (.reg [⟨(some 67), (.mv (.t 5)), none⟩, ⟨(some 68), (.call (.k (.v (.c (.func 16 [])))) [(.t 67)]), none⟩, ⟨(some 66), (.mv (.t 68)), none⟩, ⟨(some 69), (.extract (.t 66) 0), none⟩, ⟨(some 70), (.extract (.t 66) 1), none⟩, ⟨(some 71), (.extract (.t 66) 2), none⟩, ⟨(some 11), (.mv (.t 69)), none⟩, ⟨(some 12), (.mv (.t 70)), none⟩, ⟨(some 13), (.mv (.t 71)), none⟩] []) (.seq (.seq (.reg [⟨(some 72), (.mv (.t 10)), none⟩, ⟨(some 73), (.bin .neq 0 (.t 72) (.k (.v (.c (.p (.int .i64 0)))))), none⟩] []) (.cond (.t 73) (.seq (.reg [⟨(some 74), (.mv (.t 13)), none⟩, ⟨(some 75), (.mv (.t 10)), none⟩, ⟨(some 76), (.bin .eql 0 (.t 74) (.t 75)), none⟩, ⟨(some 77), (.mv (.t 76)), none⟩, ⟨(some 78), (.mv (.t 11)), (some (77, true))⟩, ⟨(some 79), (.len 2 (.t 78)), (some (77, true))⟩, ⟨(some 80), (.bin .eql 0 (.t 79) (.k (.v (.c (.p (.int .i64 0)))))), (some (77, true))⟩, ⟨(some 81), (.pick (.t 77) (.t 80) (.k (.v (.c (.p (.bool false)))))), none⟩, ⟨(some 4), (.mv (.t 81)), none⟩] []) .ret) .skip)) (.seq (.seq (.reg [⟨(some 82), (.mv (.t 13)), none⟩, ⟨(some 83), (.bin .neq 0 (.t 82) (.k (.v (.c (.p (.int .i64 0)))))), none⟩, ⟨(some 84), (.mv (.t 83)), none⟩, ⟨(some 85), (.mv (.t 11)), (some (84, false))⟩, ⟨(some 86), (.len 2 (.t 85)), (some (84, false))⟩, ⟨(some 87), (.mv (.t 0)), (some (84, false))⟩, ⟨(some 88), (.bin .add 0 (.t 87) (.k (.v (.c (.p (.int .i64 1)))))), (some (84, false))⟩, ⟨(some 89), (.bin .neq 0 (.t 86) (.t 88)), (some (84, false))⟩, ⟨(some 90), (.pick (.t 84) (.k (.v (.c (.p (.bool true))))) (.t 89)), none⟩, ⟨(some 91), (.mv (.t 90)), none⟩, ⟨(some 92), (.mv (.t 11)), (some (91, false))⟩, ⟨(some 93), (.iaddr 2 (.t 92) (.k (.v (.c (.p (.int .i64 0)))))), (some (91, false))⟩, ⟨(some 94), (.faddr 0 (.t 93)), (some (91, false))⟩, ⟨(some 95), (.load false 1 (.t 94)), (some (91, false))⟩, ⟨(some 96), (.bin .neq 0 (.t 95) (.k (.v (.c (.p (.str [])))))), (some (91, false))⟩, ⟨(some 97), (.pick (.t 91) (.k (.v (.c (.p (.bool true))))) (.t 96)), none⟩, ⟨(some 98), (.mv (.t 97)), none⟩, ⟨(some 99), (.mv (.t 11)), (some (98, false))⟩, ⟨(some 100), (.iaddr 2 (.t 99) (.k (.v (.c (.p (.int .i64 0)))))), (some (98, false))⟩, ⟨(some 101), (.faddr 1 (.t 100)), (some (98, false))⟩, ⟨(some 102), (.load false 1 (.t 101)), (some (98, false))⟩, ⟨(some 103), (.len 2 (.t 102)), (some (98, false))⟩, ⟨(some 104), (.bin .neq 0 (.t 103) (.k (.v (.c (.p (.int .i64 1)))))), (some (98, false))⟩, ⟨(some 105), (.pick (.t 98) (.k (.v (.c (.p (.bool true))))) (.t 104)), none⟩] []) (.cond (.t 105) (.seq (.reg [⟨(some 4), (.mv (.k (.v (.c (.p (.bool false)))))), none⟩] []) .ret) .skip)) (.seq (.seq (.reg [⟨(some 14), (.mv (.k (.v (.c (.p (.int .i64 0)))))), none⟩] []) (.block 3 (.loop 4 [0, 11, 14] (.seq (.seq (.reg [⟨(some 106), (.mv (.t 14)), none⟩, ⟨(some 107), (.mv (.t 0)), none⟩, ⟨(some 108), (.bin .lss 0 (.t 106) (.t 107)), none⟩] []) (.cond (.t 108) .skip (.exit 3))) (.seq (.block 4 (.seq (.reg [⟨(some 111), (.mv (.t 11)), none⟩, ⟨(some 112), (.mv (.t 14)), none⟩, ⟨(some 113), (.bin .add 0 (.t 112) (.k (.v (.c (.p (.int .i64 1)))))), none⟩, ⟨(some 114), (.iaddr 2 (.t 111) (.t 113)), none⟩, ⟨(some 115), (.faddr 0 (.t 114)), none⟩, ⟨(some 116), (.load false 1 (.t 115)), none⟩, ⟨(some 117), (.mv (.t 14)), none⟩, ⟨(some 118), (.bin .add 0 (.k (.v (.c (.p (.int .i64 97))))) (.t 117)), none⟩, ⟨(some 119), (.toInt .u8 (.t 118)), none⟩, ⟨(some 120), (.bslice 1 1 [(.p (.int .u8 0))] [(0, (.t 119))] false), none⟩, ⟨(some 121), (.toStr (.t 120)), none⟩, ⟨(some 122), (.bin .add 0 (.k (.v (.c (.p (.str [116]))))) (.t 121)), none⟩, ⟨(some 123), (.bin .neq 0 (.t 116) (.t 122)), none⟩, ⟨(some 124), (.mv (.t 123)), none⟩, ⟨(some 125), (.mv (.t 11)), (some (124, false))⟩, ⟨(some 126), (.mv (.t 14)), (some (124, false))⟩, ⟨(some 127), (.bin .add 0 (.t 126) (.k (.v (.c (.p (.int .i64 1)))))), (some (124, false))⟩, ⟨(some 128), (.iaddr 2 (.t 125) (.t 127)), (some (124, false))⟩, ⟨(some 129), (.faddr 1 (.t 128)), (some (124, false))⟩, ⟨(some 130), (.load false 1 (.t 129)), (some (124, false))⟩, ⟨(some 131), (.len 2 (.t 130)), (some (124, false))⟩, ⟨(some 132), (.bin .neq 0 (.t 131) (.k (.v (.c (.p (.int .i64 1)))))), (some (124, false))⟩, ⟨(some 133), (.pick (.t 124) (.k (.v (.c (.p (.bool true))))) (.t 132)), none⟩, ⟨(some 134), (.mv (.t 133)), none⟩, ⟨(some 135), (.mv (.t 11)), (some (134, false))⟩, ⟨(some 136), (.mv (.t 14)), (some (134, false))⟩, ⟨(some 137), (.bin .add 0 (.t 136) (.k (.v (.c (.p (.int .i64 1)))))), (some (134, false))⟩, ⟨(some 138), (.iaddr 2 (.t 135) (.t 137)), (some (134, false))⟩, ⟨(some 139), (.faddr 1 (.t 138)), (some (134, false))⟩, ⟨(some 140), (.load false 1 (.t 139)), (some (134, false))⟩, ⟨(some 141), (.iaddr 9 (.t 140) (.k (.v (.c (.p (.int .i64 0)))))), (some (134, false))⟩, ⟨(some 142), (.faddr 2 (.t 141)), (some (134, false))⟩, ⟨(some 143), (.load false 1 (.t 142)), (some (134, false))⟩, ⟨(some 144), (.mv (.t 14)), (some (134, false))⟩, ⟨(some 145), (.bin .add 0 (.k (.v (.c (.p (.int .i64 65))))) (.t 144)), (some (134, false))⟩, ⟨(some 146), (.toInt .u8 (.t 145)), (some (134, false))⟩, ⟨(some 147), (.bslice 1 1 [(.p (.int .u8 0))] [(0, (.t 146))] false), (some (134, false))⟩, ⟨(some 148), (.toStr (.t 147)), (some (134, false))⟩, ⟨(some 149), (.bin .neq 0 (.t 143) (.t 148)), (some (134, false))⟩, ⟨(some 150), (.pick (.t 134) (.k (.v (.c (.p (.bool true))))) (.t 149)), none⟩] [(5, 9), (29, 36), (32, 36)]) (.cond (.t 150) (.seq (.reg [⟨(some 4), (.mv (.k (.v (.c (.p (.bool false)))))), none⟩] []) .ret) .skip))) (.reg [⟨(some 109), (.mv (.t 14)), none⟩, ⟨(some 110), (.bin .add 0 (.t 109) (.k (.v (.c (.p (.int .i64 1)))))), none⟩, ⟨(some 14), (.mv (.t 110)), none⟩] [])))))) (.seq (.reg [⟨(some 4), (.mv (.k (.v (.c (.p (.bool true)))))), none⟩] []) .ret))))))))))))))) }
theorem t3 : compF Tryd.prog (globs2 tabs opq) false true Tryd.f3 = some c3.erase := by kernel_rfl
noncomputable def b3_0 (O : Oracle) (R : Jump) (q : Nat) (x0 x1 : TVal) (h : Heap) : Res1 :=
  vcall O (.v (.c (.func 14 []))) [] h 15 fun x15 h =>
  vop O (.un .not (.k x15)) h 16 fun x16 h =>
  vif x16 (
  tcomp (kB false) fun c0 => vfin true q [c0] h)
  (vcall O (.v (.c (.func 15 []))) [x0, (kI 15)] h 18 fun x18 h =>
  R 1 [x18, x1, (kS [120]), (kI 0)] h)
theorem e3_0 (O : Oracle) (R : Jump) (q : Nat) (x0 x1 : TVal) (h : Heap) : b3_0 O R q x0 x1 h = stepF c3 O R q 0 [x0, x1] h := by kernel_rfl
noncomputable def b3_1 (O : Oracle) (R : Jump) (q : Nat) (x0 x1 x5 x6 : TVal) (h : Heap) : Res1 :=
  vbin .lss 0 x6 x0 h fun x21 h =>
  vif x21 (
  vbin .add 0 x5 (kS [123, 123, 100, 101, 102, 105, 110, 101, 32, 34, 116]) h fun x25 h =>
  vbin .add 0 (kI 97) x6 h fun x27 h =>
  vtoInt .u8 x27 h fun x28 h =>
  vop O (.bslice 1 1 [(.p (.int .u8 0))] [(0, (.k x28))] false) h 29 fun x29 h =>
  vop O (.toStr (.k x29)) h 30 fun x30 h =>
  vbin .add 0 x25 x30 h fun x31 h =>
  vbin .add 0 x31 (kS [34, 125, 125]) h fun x32 h =>
  vbin .add 0 (kI 65) x6 h fun x34 h =>
  vtoInt .u8 x34 h fun x35 h =>
  vop O (.bslice 1 1 [(.p (.int .u8 0))] [(0, (.k x35))] false) h 36 fun x36 h =>
  vop O (.toStr (.k x36)) h 37 fun x37 h =>
  vbin .add 0 x32 x37 h fun x38 h =>
  vbin .add 0 x38 (kS [123, 123, 101, 110, 100, 125, 125]) h fun x39 h =>
  vbin .add 0 x6 (kI 1) h fun x23 h =>
  R 1 [x0, x1, x39, x23] h)
  (R 2 [x0, x1, x5] h)
theorem e3_1 (O : Oracle) (R : Jump) (q : Nat) (x0 x1 x5 x6 : TVal) (h : Heap) : b3_1 O R q x0 x1 x5 x6 h = stepF c3 O R q 1 [x0, x1, x5, x6] h := by kernel_rfl
noncomputable def b3_2 (O : Oracle) (R : Jump) (q : Nat) (x0 x1 x5 : TVal) (h : Heap) : Res1 :=
  vbin .gtr 0 x0 (kI 12) h fun x41 h =>
  vif x41 (
  vcall O (.v (.c (.func 16 []))) [x5] h 44 fun x44 h =>
  vext x44 0 h fun x45 h =>
  vext x44 1 h fun x46 h =>
  vext x44 2 h fun x47 h =>
  vbin .eql 0 x47 (kI 3) h fun x49 h =>
  tcomp x49 fun c0 => vfin true q [c0] h)
  (vcall O (.v (.c (.func 15 []))) [x1, (kI 4)] h 51 fun x51 h =>
  vbin .eql 0 x51 (kI 1) h fun x53 h =>
  vif x53 (
  vbin .gtr 0 x0 (kI 0) h fun x55 h =>
  vif x55 (
  vbin .add 0 x5 (kS [123, 123, 100, 101, 102, 105, 110, 101, 32, 34, 116, 97, 34, 125, 125, 123, 123, 101, 110, 100, 125, 125]) h fun x57 h =>
  R 3 [x0, x57, (kI 6)] h)
  (R 3 [x0, x5, (kI 0)] h))
  (vbin .eql 0 x51 (kI 2) h fun x59 h =>
  vif x59 (
  vbin .add 0 x5 (kS [123, 123, 100, 101, 102, 105, 110, 101, 32, 34, 97, 32, 98, 34, 125, 125, 123, 123, 101, 110, 100, 125, 125]) h fun x61 h =>
  R 3 [x0, x61, (kI 15)] h)
  (vbin .eql 0 x51 (kI 3) h fun x63 h =>
  vif x63 (
  vbin .add 0 x5 (kS [123, 123, 105, 102, 32, 46, 125, 125, 123, 123, 100, 101, 102, 105, 110, 101, 32, 34, 122, 34, 125, 125, 123, 123, 101, 110, 100, 125, 125, 123, 123, 101, 110, 100, 125, 125]) h fun x65 h =>
  R 3 [x0, x65, (kI 12)] h)
  (R 3 [x0, x5, (kI 0)] h))))
theorem e3_2 (O : Oracle) (R : Jump) (q : Nat) (x0 x1 x5 : TVal) (h : Heap) : b3_2 O R q x0 x1 x5 h = stepF c3 O R q 2 [x0, x1, x5] h := by kernel_rfl
noncomputable def b3_3 (O : Oracle) (R : Jump) (q : Nat) (x0 x5 x10 : TVal) (h : Heap) : Res1 :=
  vcall O (.v (.c (.func 16 []))) [x5] h 68 fun x68 h =>
  vext x68 0 h fun x69 h =>
  vext x68 1 h fun x70 h =>
  vext x68 2 h fun x71 h =>
  vbin .neq 0 x10 (kI 0) h fun x73 h =>
  vif x73 (
  vbin .eql 0 x71 x10 h fun x76 h =>
  vguard x76 true (fun kk => kk x69 h) h fun x78 h =>
  vguard x76 true (fun kk => vlen O 2 x78 h 79 kk) h fun x79 h =>
  vguard x76 true (fun kk => vbin .eql 0 x79 (kI 0) h kk) h fun x80 h =>
  vop O (.pick (.k x76) (.k x80) (.k (kB false))) h 81 fun x81 h =>
  tcomp x81 fun c0 => vfin true q [c0] h)
  (vbin .neq 0 x71 (kI 0) h fun x83 h =>
  vguard x83 false (fun kk => kk x69 h) h fun x85 h =>
  vguard x83 false (fun kk => vlen O 2 x85 h 86 kk) h fun x86 h =>
  vguard x83 false (fun kk => kk x0 h) h fun x87 h =>
  vguard x83 false (fun kk => vbin .add 0 x87 (kI 1) h kk) h fun x88 h =>
  vguard x83 false (fun kk => vbin .neq 0 x86 x88 h kk) h fun x89 h =>
  vop O (.pick (.k x83) (.k (kB true)) (.k x89)) h 90 fun x90 h =>
  vguard x90 false (fun kk => kk x69 h) h fun x92 h =>
  vguard x90 false (fun kk => viaddr 2 x92 (kI 0) h kk) h fun x93 h =>
  vguard x90 false (fun kk => vfaddr 0 x93 h kk) h fun x94 h =>
  vguard x90 false (fun kk => vload false 1 x94 h kk) h fun x95 h =>
  vguard x90 false (fun kk => vbin .neq 0 x95 (kS []) h kk) h fun x96 h =>
  vop O (.pick (.k x90) (.k (kB true)) (.k x96)) h 97 fun x97 h =>
  vguard x97 false (fun kk => kk x69 h) h fun x99 h =>
  vguard x97 false (fun kk => viaddr 2 x99 (kI 0) h kk) h fun x100 h =>
  vguard x97 false (fun kk => vfaddr 1 x100 h kk) h fun x101 h =>
  vguard x97 false (fun kk => vload false 1 x101 h kk) h fun x102 h =>
  vguard x97 false (fun kk => vlen O 2 x102 h 103 kk) h fun x103 h =>
  vguard x97 false (fun kk => vbin .neq 0 x103 (kI 1) h kk) h fun x104 h =>
  vop O (.pick (.k x97) (.k (kB true)) (.k x104)) h 105 fun x105 h =>
  vif x105 (
  tcomp (kB false) fun c0 => vfin true q [c0] h)
  (R 4 [x0, x69, (kI 0)] h))
theorem e3_3 (O : Oracle) (R : Jump) (q : Nat) (x0 x5 x10 : TVal) (h : Heap) : b3_3 O R q x0 x5 x10 h = stepF c3 O R q 3 [x0, x5, x10] h := by kernel_rfl
noncomputable def b3_4 (O : Oracle) (R : Jump) (q : Nat) (x0 x11 x14 : TVal) (h : Heap) : Res1 :=
  vbin .lss 0 x14 x0 h fun x108 h =>
  vif x108 (
  vtouch O (.mv (.k x11)) h 111 fun x111 h t0 =>
  vtouch O (.mv (.k x14)) h 112 fun x112 h t1 =>
  vtouch O (.bin .add 0 (.k x112) (.k (kI 1))) h 113 fun x113 h t2 =>
  vtouch O (.iaddr 2 (.k x111) (.k x113)) h 114 fun x114 h t3 =>
  vtouch O (.faddr 0 (.k x114)) h 115 fun x115 h t4 =>
  vtouch O (.load false 1 (.k x115)) h 116 fun x116 h t5 =>
  vtouch O (.mv (.k x14)) h 117 fun x117 h t6 =>
  vtouch O (.bin .add 0 (.k (kI 97)) (.k x117)) h 118 fun x118 h t7 =>
  vtouch O (.toInt .u8 (.k x118)) h 119 fun x119 h t8 =>
  vtouch O (.bslice 1 1 [(.p (.int .u8 0))] [(0, (.k x119))] false) h 120 fun x120 h t9 =>
  vtouch O (.toStr (.k x120)) h 121 fun x121 h t10 =>
  vtouch O (.bin .add 0 (.k (kS [116])) (.k x121)) h 122 fun x122 h t11 =>
  vtouch O (.bin .neq 0 (.k x116) (.k x122)) h 123 fun x123 h t12 =>
  vtouch O (.mv (.k x123)) h 124 fun x124 h t13 =>
  vguardT x124 false (fun kk => vtouch O (.mv (.k x11)) h 125 kk) h fun x125 h t14 =>
  vguardT x124 false (fun kk => vtouch O (.mv (.k x14)) h 126 kk) h fun x126 h t15 =>
  vguardT x124 false (fun kk => vtouch O (.bin .add 0 (.k x126) (.k (kI 1))) h 127 kk) h fun x127 h t16 =>
  vguardT x124 false (fun kk => vtouch O (.iaddr 2 (.k x125) (.k x127)) h 128 kk) h fun x128 h t17 =>
  vguardT x124 false (fun kk => vtouch O (.faddr 1 (.k x128)) h 129 kk) h fun x129 h t18 =>
  vguardT x124 false (fun kk => vtouch O (.load false 1 (.k x129)) h 130 kk) h fun x130 h t19 =>
  vguardT x124 false (fun kk => vtouch O (.len 2 (.k x130)) h 131 kk) h fun x131 h t20 =>
  vguardT x124 false (fun kk => vtouch O (.bin .neq 0 (.k x131) (.k (kI 1))) h 132 kk) h fun x132 h t21 =>
  vtouch O (.pick (.k x124) (.k (kB true)) (.k x132)) h 133 fun x133 h t22 =>
  vtouch O (.mv (.k x133)) h 134 fun x134 h t23 =>
  vguardT x134 false (fun kk => vtouch O (.mv (.k x11)) h 135 kk) h fun x135 h t24 =>
  vguardT x134 false (fun kk => vtouch O (.mv (.k x14)) h 136 kk) h fun x136 h t25 =>
  vguardT x134 false (fun kk => vtouch O (.bin .add 0 (.k x136) (.k (kI 1))) h 137 kk) h fun x137 h t26 =>
  vguardT x134 false (fun kk => vtouch O (.iaddr 2 (.k x135) (.k x137)) h 138 kk) h fun x138 h t27 =>
  vguardT x134 false (fun kk => vtouch O (.faddr 1 (.k x138)) h 139 kk) h fun x139 h t28 =>
  vguardT x134 false (fun kk => vtouch O (.load false 1 (.k x139)) h 140 kk) h fun x140 h t29 =>
  vguardT x134 false (fun kk => vtouch O (.iaddr 9 (.k x140) (.k (kI 0))) h 141 kk) h fun x141 h t30 =>
  vguardT x134 false (fun kk => vtouch O (.faddr 2 (.k x141)) h 142 kk) h fun x142 h t31 =>
  vguardT x134 false (fun kk => vtouch O (.load false 1 (.k x142)) h 143 kk) h fun x143 h t32 =>
  vguardT x134 false (fun kk => vtouch O (.mv (.k x14)) h 144 kk) h fun x144 h t33 =>
  vguardT x134 false (fun kk => vtouch O (.bin .add 0 (.k (kI 65)) (.k x144)) h 145 kk) h fun x145 h t34 =>
  vguardT x134 false (fun kk => vtouch O (.toInt .u8 (.k x145)) h 146 kk) h fun x146 h t35 =>
  vguardT x134 false (fun kk => vtouch O (.bslice 1 1 [(.p (.int .u8 0))] [(0, (.k x146))] false) h 147 kk) h fun x147 h t36 =>
  vguardT x134 false (fun kk => vtouch O (.toStr (.k x147)) h 148 kk) h fun x148 h t37 =>
  vguardT x134 false (fun kk => vtouch O (.bin .neq 0 (.k x143) (.k x148)) h 149 kk) h fun x149 h t38 =>
  vtouch O (.pick (.k x134) (.k (kB true)) (.k x149)) h 150 fun x150 h t39 =>
  bif apartAll [t0, t1, t2, t3, t4, t5, t6, t7, t8, t9, t10, t11, t12, t13, t14, t15, t16, t17, t18, t19, t20, t21, t22, t23, t24, t25, t26, t27, t28, t29, t30, t31, t32, t33, t34, t35, t36, t37, t38, t39] [(5, 9), (29, 36), (32, 36)] then
  vif x150 (
  tcomp (kB false) fun c0 => vfin true q [c0] h)
  (vbin .add 0 x14 (kI 1) h fun x110 h =>
  R 4 [x0, x11, x110] h)
  else none)
  (tcomp (kB true) fun c0 => vfin true q [c0] h)
theorem e3_4 (O : Oracle) (R : Jump) (q : Nat) (x0 x11 x14 : TVal) (h : Heap) : b3_4 O R q x0 x11 x14 h = stepF c3 O R q 4 [x0, x11, x14] h := by kernel_rfl
noncomputable def d3 : BlkF := fun O R q => [.s fun y0 => .s fun y1 => .z fun h => b3_0 O R q y0 y1 h, .s fun y0 => .s fun y1 => .s fun y2 => .s fun y3 => .z fun h => b3_1 O R q y0 y1 y2 y3 h, .s fun y0 => .s fun y1 => .s fun y2 => .z fun h => b3_2 O R q y0 y1 y2 h, .s fun y0 => .s fun y1 => .s fun y2 => .z fun h => b3_3 O R q y0 y1 y2 h, .s fun y0 => .s fun y1 => .s fun y2 => .z fun h => b3_4 O R q y0 y1 y2 h]
theorem o3 (O : Oracle) (R : Jump) (q : Nat) : HoldsAll c3 O R q 0 (d3 O R q) := ⟨fun y0 y1 h => e3_0 O R q y0 y1 h, fun y0 y1 y2 y3 h => e3_1 O R q y0 y1 y2 y3 h, fun y0 y1 y2 h => e3_2 O R q y0 y1 y2 h, fun y0 y1 y2 h => e3_3 O R q y0 y1 y2 h, fun y0 y1 y2 h => e3_4 O R q y0 y1 y2 h, trivial⟩
/- sprue/spruelaw7.TreeMatches -/
def c4 : MFunc := { np := 2, res := [.t 4], frz := true, body := (.seq (.reg [⟨(some 4), (.mv (.k (.v (.c (.p (.bool false)))))), none⟩] []) (.seq (.seq (.reg [⟨(some 13), (.call (.k (.v (.c (.func 14 [])))) []), none⟩, ⟨(some 14), (.un .not (.t 13)), none⟩] []) (.cond (.t 14) (.seq (.reg [⟨(some 4), (.mv (.k (.v (.c (.p (.bool false)))))), none⟩] []) .ret) .skip)) (.seq (.reg [⟨(some 5), (.mv (.k (.v (.c (.p (.str [])))))), none⟩] []) (.seq (.seq (.reg [⟨(some 6), (.mv (.k (.v (.c (.p (.int .i64 0)))))), none⟩] []) (.block 0 (.loop 1 [0, 1, 5, 6] (.seq (.seq (.reg [⟨(some 15), (.mv (.t 6)), none⟩, ⟨(some 16), (.mv (.t 1)), none⟩, ⟨(some 17), (.call (.k (.v (.c (.func 15 [])))) [(.t 16), (.k (.v (.c (.p (.int .i64 6)))))]), none⟩, ⟨(some 18), (.bin .lss 0 (.t 15) (.t 17)), none⟩] []) (.cond (.t 18) .skip (.exit 0))) (.seq (.block 1 (.reg [⟨(some 21), (.mv (.t 5)), none⟩, ⟨(some 22), (.bslice 1 4 [(.p (.str []))] [(0, (.k (.v (.c (.p (.str [32])))))), (1, (.k (.v (.c (.p (.str [10])))))), (2, (.k (.v (.c (.p (.str [9])))))), (3, (.k (.v (.c (.p (.str [13]))))))] false), none⟩, ⟨(some 23), (.mv (.t 6)), none⟩, ⟨(some 24), (.bin .rem 0 (.t 23) (.k (.v (.c (.p (.int .i64 4)))))), none⟩, ⟨(some 25), (.iaddr 1 (.t 22) (.t 24)), none⟩, ⟨(some 26), (.load false 1 (.t 25)), none⟩, ⟨(some 27), (.bin .add 0 (.t 21) (.t 26)), none⟩, ⟨(some 5), (.mv (.t 27)), none⟩] [])) (.reg [⟨(some 19), (.mv (.t 6)), none⟩, ⟨(some 20), (.bin .add 0 (.t 19) (.k (.v (.c (.p (.int .i64 1)))))), none⟩, ⟨(some 6), (.mv (.t 20)), none⟩] [])))))) (.mark 2 [0, 5] (.seq (.reg [⟨(some 28), (.mv (.t 5)), none⟩, ⟨(some 29), (.bin .add 0 (.k (.v (.c (.p (.str [123, 123, 109, 97, 116, 99, 104, 32, 46, 125, 125]))))) (.t 28)), none⟩, ⟨(some 30), (.bin .add 0 (.t 29) (.k (.v (.c (.p (.str [123, 123, 99, 97, 115, 101, 32, 97, 125, 125, 49, 123, 123, 99, 97, 115, 101, 32, 98, 125, 125, 50, 123, 123, 101, 108, 115, 101, 125, 125, 51, 123, 123, 101, 110, 100, 125, 125])))))), none⟩, ⟨(some 31), (.mv (.t 5)), none⟩, ⟨(some 32), (.bin .add 0 (.k (.v (.c (.p (.str [123, 123, 109, 97, 116, 99, 104, 32, 46, 125, 125]))))) (.t 31)), none⟩, ⟨(some 33), (.bin .add 0 (.t 32) (.k (.v (.c (.p (.str [120, 123, 123, 99, 97, 115, 101, 32, 97, 125, 125, 123, 123, 101, 110, 100, 125, 125])))))), none⟩, ⟨(some 34), (.mv (.t 5)), none⟩, ⟨(some 35), (.bin .add 0 (.k (.v (.c (.p (.str [123, 123, 109, 97, 116, 99, 104, 32, 46, 125, 125]))))) (.t 34)), none⟩, ⟨(some 36), (.bin .add 0 (.t 35) (.k (.v (.c (.p (.str [123, 123, 46, 125, 125, 123, 123, 99, 97, 115, 101, 32, 97, 125, 125, 123, 123, 101, 110, 100, 125, 125])))))), none⟩, ⟨(some 37), (.mv (.t 5)), none⟩, ⟨(some 38), (.bin .add 0 (.k (.v (.c (.p (.str [123, 123, 109, 97, 116, 99, 104, 32, 46, 125, 125]))))) (.t 37)), none⟩, ⟨(some 39), (.bin .add 0 (.t 38) (.k (.v (.c (.p (.str [123, 123, 101, 108, 115, 101, 125, 125, 123, 123, 99, 97, 115, 101, 32, 97, 125, 125, 123, 123, 101, 110, 100, 125, 125])))))), none⟩, ⟨(some 40), (.mv (.t 5)), none⟩, ⟨(some 41), (.bin .add 0 (.k (.v (.c (.p (.str [123, 123, 109, 97, 116, 99, 104, 32, 46, 125, 125]))))) (.t 40)), none⟩, ⟨(some 42), (.bin .add 0 (.t 41) (.k (.v (.c (.p (.str [123, 123, 101, 110, 100, 125, 125])))))), none⟩, ⟨(some 43), (.mv (.t 5)), none⟩, ⟨(some 44), (.bin .add 0 (.k (.v (.c (.p (.str [123, 123, 109, 97, 116, 99, 104, 32, 46, 125, 125]))))) (.t 43)), none⟩, ⟨(some 45), (.bin .add 0 (.t 44) (.k (.v (.c (.p (.str [123, 123, 105, 102, 32, 46, 125, 125, 123, 123, 101, 110, 100, 125, 125, 123, 123, 101, 110, 100, 125, 125])))))), none⟩, ⟨(some 46), (.bslice 1 8 [(.p (.str []))] [(0, (.t 30)), (1, (.t 33)), (2, (.t 36)), (3, (.t 39)), (4, (.t 42)), (5, (.k (.v (.c (.p (.str [123, 123, 109, 97, 116, 99, 104, 32, 46, 125, 125, 123, 123, 99, 97, 115, 101, 32, 97, 125, 125, 123, 123, 101, 108, 115, 101, 125, 125, 123, 123, 101, 108, 115, 101, 125, 125, 123, 123, 101, 110, 100, 125, 125])))))), (6, (.k (.v (.c (.p (.str [123, 123, 105, 102, 32, 46, 125, 125, 123, 123, 99, 97, 115, 101, 32, 97, 125, 125, 123, 123, 101, 110, 100, 125, 125])))))), (7, (.t 45))] false), none⟩, ⟨(some 7), (.mv (.t 46)), none⟩] []) (.seq (.reg [⟨(some 47), (.mv (.t 0)), none⟩, ⟨(some 48), (.call (.k (.v (.c (.func 15 [])))) [(.t 47), (.k (.v (.c (.p (.int .i64 8)))))]), none⟩, ⟨(some 8), (.mv (.t 48)), none⟩] []) (.seq (.reg [⟨(some 50), (.mv (.t 7)), none⟩, ⟨(some 51), (.mv (.t 8)), none⟩, ⟨(some 52), (.iaddr 1 (.t 50) (.t 51)), none⟩, ⟨(some 53), (.load false 1 (.t 52)), none⟩, ⟨(some 54), (.call (.k (.v (.c (.func 16 [])))) [(.t 53)]), none⟩, ⟨(some 49), (.mv (.t 54)), none⟩, ⟨(some 55), (.extract (.t 49) 0), none⟩, ⟨(some 56), (.extract (.t 49) 1), none⟩, ⟨(some 57), (.extract (.t 49) 2), none⟩, ⟨(some 9), (.mv (.t 55)), none⟩, ⟨(some 10), (.mv (.t 56)), none⟩, ⟨(some 11), (.mv (.t 57)), none⟩] []) (.seq (.seq (.reg [⟨(some 58), (.mv (.t 8)), none⟩, ⟨(some 59), (.bin .neq 0 (.t 58) (.k (.v (.c (.p (.int .i64 0)))))), none⟩, ⟨(some 60), (.mv (.t 59)), none⟩, ⟨(some 61), (.mv (.t 8)), (some (60, true))⟩, ⟨(some 62), (.bin .neq 0 (.t 61) (.k (.v (.c (.p (.int .i64 4)))))), (some (60, true))⟩, ⟨(some 63), (.pick (.t 60) (.t 62) (.k (.v (.c (.p (.bool false)))))), none⟩] []) (.cond (.t 63) (.seq (.reg [⟨(some 64), (.mv (.t 11)), none⟩, ⟨(some 65), (.bin .eql 0 (.t 64) (.k (.v (.c (.p (.int .i64 12)))))), none⟩, ⟨(some 66), (.mv (.t 65)), none⟩, ⟨(some 67), (.mv (.t 9)), (some (66, true))⟩, ⟨(some 68), (.len 2 (.t 67)), (some (66, true))⟩, ⟨(some 69), (.bin .eql 0 (.t 68) (.k (.v (.c (.p (.int .i64 0)))))), (some (66, true))⟩, ⟨(some 70), (.pick (.t 66) (.t 69) (.k (.v (.c (.p (.bool false)))))), none⟩, ⟨(some 4), (.mv (.t 70)), none⟩] []) .ret) .skip)) (.seq (.seq (.reg [⟨(some 71), (.mv (.t 11)), none⟩, ⟨(some 72), (.bin .neq 0 (.t 71) (.k (.v (.c (.p (.int .i64 0)))))), none⟩, ⟨(some 73), (.mv (.t 72)), none⟩, ⟨(some 74), (.mv (.t 9)), (some (73, false))⟩, ⟨(some 75), (.len 2 (.t 74)), (some (73, false))⟩, ⟨(some 76), (.bin .neq 0 (.t 75) (.k (.v (.c (.p (.int .i64 1)))))), (some (73, false))⟩, ⟨(some 77), (.pick (.t 73) (.k (.v (.c (.p (.bool true))))) (.t 76)), none⟩, ⟨(some 78), (.mv (.t 77)), none⟩, ⟨(some 79), (.mv (.t 9)), (some (78, false))⟩, ⟨(some 80), (.iaddr 2 (.t 79) (.k (.v (.c (.p (.int .i64 0)))))), (some (78, false))⟩, ⟨(some 81), (.faddr 1 (.t 80)), (some (78, false))⟩, ⟨(some 82), (.load false 1 (.t 81)), (some (78, false))⟩, ⟨(some 83), (.len 2 (.t 82)), (some (78, false))⟩, ⟨(some 84), (.bin .neq 0 (.t 83) (.k (.v (.c (.p (.int .i64 1)))))), (some (78, false))⟩, ⟨(some 85), (.pick (.t 78) (.k (.v (.c (.p (.bool true))))) (.t 84)), none⟩, ⟨(some 86), (.mv (.t 85)), none⟩, ⟨(some 87), (.mv (.t 9)), (some (86, false))⟩, ⟨(some 88), (.iaddr 2 (.t 87) (.k (.v (.c (.p (.int .i64 0)))))), (some (86, false))⟩, ⟨(some 89), (.faddr 1 (.t 88)), (some (86, false))⟩, ⟨(some 90), (.load false 1 (.t 89)), (some (86, false))⟩, ⟨(some 91), (.iaddr 9 (.t 90) (.k (.v (.c (.p (.int .i64 0)))))), (some (86, false))⟩, ⟨(some 92), (.faddr 0 (.t 91)), (some (86, false))⟩, ⟨(some 93), (.load false 1 (.t 92)), (some (86, false))⟩, ⟨(some 94), (.bin .neq 0 (.t 93) (.k (.v (.c (.p (.int .i64 8)))))), (some (86, false))⟩, ⟨(some 95), (.pick (.t 86) (.k (.v (.c (.p (.bool true))))) (.t 94)), none⟩] []) (.cond (.t 95) (.seq (.reg [⟨(some 4), (.mv (.k (.v (.c (.p (.bool false)))))), none⟩] []) .ret) .skip)) (.seq (.reg [⟨(some 96), (.mv (.t 9)), none⟩, ⟨(some 97), (.iaddr 2 (.t 96) (.k (.v (.c (.p (.int .i64 0)))))), none⟩, ⟨(some 98), (.faddr 1 (.t 97)), none⟩, ⟨(some 99), (.load false 1 (.t 98)), none⟩, ⟨(some 100), (.iaddr 9 (.t 99) (.k (.v (.c (.p (.int .i64 0)))))), none⟩, ⟨(some 101), (.load true 9 (.t 100)), none⟩, ⟨(some 12), (.alloc [(.p (.int .i64 0)), (.p (.int .i64 0)), (.p (.str [])), (.p (.str [])), (.p .nilslice), (.p .nilslice), (.p .nilslice), (.p (.bool false)), (.p .nilslice)] false), none⟩, ⟨none, (.store 9 (.t 12) (.t 101)), none⟩] []) (.seq (.seq (.reg [⟨(some 102), (.mv (.t 8)), none⟩, ⟨(some 103), (.bin .eql 0 (.t 102) (.k (.v (.c (.p (.int .i64 4)))))), none⟩] []) (.cond (.t 103) (.seq (.reg [⟨(some 104), (.faddr 8 (.t 12)), none⟩, ⟨(some 105), (.load false 1 (.t 104)), none⟩, ⟨(some 106), (.len 2 (.t 105)), none⟩, ⟨(some 107), (.bin .eql 0 (.t 106) (.k (.v (.c (.p (.int .i64 0)))))), none⟩, ⟨(some 108), (.mv (.t 107)), none⟩, ⟨(some 109), (.faddr 7 (.t 12)), (some (108, true))⟩, ⟨(some 110), (.load false 1 (.t 109)), (some (108, true))⟩, ⟨(some 111), (.un .not (.t 110)), (some (108, true))⟩, ⟨(some 112), (.pick (.t 108) (.t 111) (.k (.v (.c (.p (.bool false)))))), none⟩, ⟨(some 4), (.mv (.t 112)), none⟩] []) .ret) .skip)) (.seq (.reg [⟨(some 113), (.faddr 8 (.t 12)), none⟩, ⟨(some 114), (.load false 1 (.t 113)), none⟩, ⟨(some 115), (.len 2 (.t 114)), none⟩, ⟨(some 116), (.bin .eql 0 (.t 115) (.k (.v (.c (.p (.int .i64 2)))))), none⟩, ⟨(some 117), (.mv (.t 116)), none⟩, ⟨(some 118), (.faddr 8 (.t 12)), (some (117, true))⟩, ⟨(some 119), (.load false 1 (.t 118)), (some (117, true))⟩, ⟨(some 120), (.iaddr 2 (.t 119) (.k (.v (.c (.p (.int .i64 1)))))), (some (117, true))⟩, ⟨(some 121), (.faddr 0 (.t 120)), (some (117, true))⟩, ⟨(some 122), (.load false 1 (.t 121)), (some (117, true))⟩, ⟨(some 123), (.bin .eql 0 (.t 122) (.k (.v (.c (.p (.str [98])))))), (some (117, true))⟩, ⟨(some 124), (.pick (.t 117) (.t 123) (.k (.v (.c (.p (.bool false)))))), none⟩, ⟨(some 125), (.mv (.t 124)), none⟩, ⟨(some 126), (.faddr 8 (.t 12)), (some (125, true))⟩, ⟨(some 127), (.load false 1 (.t 126)), (some (125, true))⟩, ⟨(some 128), (.iaddr 2 (.t 127) (.k (.v (.c (.p (.int .i64 1)))))), (some (125, true))⟩, ⟨(some 129), (.faddr 1 (.t 128)), (some (125, true))⟩, ⟨(some 130), (.load false 1 (.t 129)), (some (125, true))⟩, ⟨(some 131), (.len 2 (.t 130)), (some (125, true))⟩, ⟨(some 132), (.bin .eql 0 (.t 131) (.k (.v (.c (.p (.int .i64 1)))))), (some (125, true))⟩, ⟨(some 133), (.pick (.t 125) (.t 132) (.k (.v (.c (.p (.bool false)))))), none⟩, ⟨(some 134), (.mv (.t 133)), none⟩, ⟨(some 135), (.faddr 8 (.t 12)), (some (134, true))⟩, ⟨(some 136), (.load false 1 (.t 135)), (some (134, true))⟩, ⟨(some 137), (.iaddr 2 (.t 136) (.k (.v (.c (.p (.int .i64 1)))))), (some (134, true))⟩, ⟨(some 138), (.faddr 1 (.t 137)), (some (134, true))⟩, ⟨(some 139), (.load false 1 (.t 138)), (some (134, true))⟩, ⟨(some 140), (.iaddr 9 (.t 139) (.k (.v (.c (.p (.int .i64 0)))))), (some (134, true))⟩, ⟨(some 141), (.faddr 2 (.t 140)), (some (134, true))⟩, ⟨(some 142), (.load false 1 (.t 141)), (some (134, true))⟩, ⟨(some 143), (.bin .eql 0 (.t 142) (.k (.v (.c (.p (.str [50])))))), (some (134, true))⟩, ⟨(some 144), (.pick (.t 134) (.t 143) (.k (.v (.c (.p (.bool false)))))), none⟩, ⟨(some 145), (.mv (.t 144)), none⟩, ⟨(some 146), (.faddr 7 (.t 12)), (some (145, true))⟩, ⟨(some 147), (.load false 1 (.t 146)), (some (145, true))⟩, ⟨(some 148), (.pick (.t 145) (.t 147) (.k (.v (.c (.p (.bool false)))))), none⟩, ⟨(some 149), (.mv (.t 148)), none⟩, ⟨(some 150), (.faddr 6 (.t 12)), (some (149, true))⟩, ⟨(some 151), (.load false 1 (.t 150)), (some (149, true))⟩, ⟨(some 152), (.len 2 (.t 151)), (some (149, true))⟩, ⟨(some 153), (.bin .eql 0 (.t 152) (.k (.v (.c (.p (.int .i64 1)))))), (some (149, true))⟩, ⟨(some 154), (.pick (.t 149) (.t 153) (.k (.v (.c (.p (.bool false)))))), none⟩, ⟨(some 4), (.mv (.t 154)), none⟩] []) .ret))))))))))))) }
theorem t4 : compF Tryd.prog (globs2 tabs opq) false true Tryd.f4 = some c4.erase := by kernel_rfl
noncomputable def b4_0 (O : Oracle) (R : Jump) (q : Nat) (x0 x1 : TVal) (h : Heap) : Res1 :=
  vcall O (.v (.c (.func 14 []))) [] h 13 fun x13 h =>
  vop O (.un .not (.k x13)) h 14 fun x14 h =>
  vif x14 (
  tcomp (kB false) fun c0 => vfin true q [c0] h)
  (R 1 [x0, x1, (kS []), (kI 0)] h)
theorem e4_0 (O : Oracle) (R : Jump) (q : Nat) (x0 x1 : TVal) (h : Heap) : b4_0 O R q x0 x1 h = stepF c4 O R q 0 [x0, x1] h := by kernel_rfl
noncomputable def b4_1 (O : Oracle) (R : Jump) (q : Nat) (x0 x1 x5 x6 : TVal) (h : Heap) : Res1 :=
  vcall O (.v (.c (.func 15 []))) [x1, (kI 6)] h 17 fun x17 h =>
  vbin .lss 0 x6 x17 h fun x18 h =>
  vif x18 (
  vop O (.bslice 1 4 [(.p (.str []))] [(0, (.k (kS [32]))), (1, (.k (kS [10]))), (2, (.k (kS [9]))), (3, (.k (kS [13])))] false) h 22 fun x22 h =>
  vbin .rem 0 x6 (kI 4) h fun x24 h =>
  viaddr 1 x22 x24 h fun x25 h =>
  vload false 1 x25 h fun x26 h =>
  vbin .add 0 x5 x26 h fun x27 h =>
  vbin .add 0 x6 (kI 1) h fun x20 h =>
  R 1 [x0, x1, x27, x20] h)
  (R 2 [x0, x5] h)
theorem e4_1 (O : Oracle) (R : Jump) (q : Nat) (x0 x1 x5 x6 : TVal) (h : Heap) : b4_1 O R q x0 x1 x5 x6 h = stepF c4 O R q 1 [x0, x1, x5, x6] h := by kernel_rfl
noncomputable def b4_2 (O : Oracle) (R : Jump) (q : Nat) (x0 x5 : TVal) (h : Heap) : Res1 :=
  vbin .add 0 (kS [123, 123, 109, 97, 116, 99, 104, 32, 46, 125, 125]) x5 h fun x29 h =>
  vbin .add 0 x29 (kS [123, 123, 99, 97, 115, 101, 32, 97, 125, 125, 49, 123, 123, 99, 97, 115, 101, 32, 98, 125, 125, 50, 123, 123, 101, 108, 115, 101, 125, 125, 51, 123, 123, 101, 110, 100, 125, 125]) h fun x30 h =>
  vbin .add 0 (kS [123, 123, 109, 97, 116, 99, 104, 32, 46, 125, 125]) x5 h fun x32 h =>
  vbin .add 0 x32 (kS [120, 123, 123, 99, 97, 115, 101, 32, 97, 125, 125, 123, 123, 101, 110, 100, 125, 125]) h fun x33 h =>
  vbin .add 0 (kS [123, 123, 109, 97, 116, 99, 104, 32, 46, 125, 125]) x5 h fun x35 h =>
  vbin .add 0 x35 (kS [123, 123, 46, 125, 125, 123, 123, 99, 97, 115, 101, 32, 97, 125, 125, 123, 123, 101, 110, 100, 125, 125]) h fun x36 h =>
  vbin .add 0 (kS [123, 123, 109, 97, 116, 99, 104, 32, 46, 125, 125]) x5 h fun x38 h =>
  vbin .add 0 x38 (kS [123, 123, 101, 108, 115, 101, 125, 125, 123, 123, 99, 97, 115, 101, 32, 97, 125, 125, 123, 123, 101, 110, 100, 125, 125]) h fun x39 h =>
  vbin .add 0 (kS [123, 123, 109, 97, 116, 99, 104, 32, 46, 125, 125]) x5 h fun x41 h =>
  vbin .add 0 x41 (kS [123, 123, 101, 110, 100, 125, 125]) h fun x42 h =>
  vbin .add 0 (kS [123, 123, 109, 97, 116, 99, 104, 32, 46, 125, 125]) x5 h fun x44 h =>
  vbin .add 0 x44 (kS [123, 123, 105, 102, 32, 46, 125, 125, 123, 123, 101, 110, 100, 125, 125, 123, 123, 101, 110, 100, 125, 125]) h fun x45 h =>
  vop O (.bslice 1 8 [(.p (.str []))] [(0, (.k x30)), (1, (.k x33)), (2, (.k x36)), (3, (.k x39)), (4, (.k x42)), (5, (.k (kS [123, 123, 109, 97, 116, 99, 104, 32, 46, 125, 125, 123, 123, 99, 97, 115, 101, 32, 97, 125, 125, 123, 123, 101, 108, 115, 101, 125, 125, 123, 123, 101, 108, 115, 101, 125, 125, 123, 123, 101, 110, 100, 125, 125]))), (6, (.k (kS [123, 123, 105, 102, 32, 46, 125, 125, 123, 123, 99, 97, 115, 101, 32, 97, 125, 125, 123, 123, 101, 110, 100, 125, 125]))), (7, (.k x45))] false) h 46 fun x46 h =>
  vcall O (.v (.c (.func 15 []))) [x0, (kI 8)] h 48 fun x48 h =>
  viaddr 1 x46 x48 h fun x52 h =>
  vload false 1 x52 h fun x53 h =>
  vcall O (.v (.c (.func 16 []))) [x53] h 54 fun x54 h =>
  vext x54 0 h fun x55 h =>
  vext x54 1 h fun x56 h =>
  vext x54 2 h fun x57 h =>
  vbin .neq 0 x48 (kI 0) h fun x59 h =>
  vguard x59 true (fun kk => kk x48 h) h fun x61 h =>
  vguard x59 true (fun kk => vbin .neq 0 x61 (kI 4) h kk) h fun x62 h =>
  vop O (.pick (.k x59) (.k x62) (.k (kB false))) h 63 fun x63 h =>
  vif x63 (
  vbin .eql 0 x57 (kI 12) h fun x65 h =>
  vguard x65 true (fun kk => kk x55 h) h fun x67 h =>
  vguard x65 true (fun kk => vlen O 2 x67 h 68 kk) h fun x68 h =>
  vguard x65 true (fun kk => vbin .eql 0 x68 (kI 0) h kk) h fun x69 h =>
  vop O (.pick (.k x65) (.k x69) (.k (kB false))) h 70 fun x70 h =>
  tcomp x70 fun c0 => vfin true q [c0] h)
  (vbin .neq 0 x57 (kI 0) h fun x72 h =>
  vguard x72 false (fun kk => kk x55 h) h fun x74 h =>
  vguard x72 false (fun kk => vlen O 2 x74 h 75 kk) h fun x75 h =>
  vguard x72 false (fun kk => vbin .neq 0 x75 (kI 1) h kk) h fun x76 h =>
  vop O (.pick (.k x72) (.k (kB true)) (.k x76)) h 77 fun x77 h =>
  vguard x77 false (fun kk => kk x55 h) h fun x79 h =>
  vguard x77 false (fun kk => viaddr 2 x79 (kI 0) h kk) h fun x80 h =>
  vguard x77 false (fun kk => vfaddr 1 x80 h kk) h fun x81 h =>
  vguard x77 false (fun kk => vload false 1 x81 h kk) h fun x82 h =>
  vguard x77 false (fun kk => vlen O 2 x82 h 83 kk) h fun x83 h =>
  vguard x77 false (fun kk => vbin .neq 0 x83 (kI 1) h kk) h fun x84 h =>
  vop O (.pick (.k x77) (.k (kB true)) (.k x84)) h 85 fun x85 h =>
  vguard x85 false (fun kk => kk x55 h) h fun x87 h =>
  vguard x85 false (fun kk => viaddr 2 x87 (kI 0) h kk) h fun x88 h =>
  vguard x85 false (fun kk => vfaddr 1 x88 h kk) h fun x89 h =>
  vguard x85 false (fun kk => vload false 1 x89 h kk) h fun x90 h =>
  vguard x85 false (fun kk => viaddr 9 x90 (kI 0) h kk) h fun x91 h =>
  vguard x85 false (fun kk => vfaddr 0 x91 h kk) h fun x92 h =>
  vguard x85 false (fun kk => vload false 1 x92 h kk) h fun x93 h =>
  vguard x85 false (fun kk => vbin .neq 0 x93 (kI 8) h kk) h fun x94 h =>
  vop O (.pick (.k x85) (.k (kB true)) (.k x94)) h 95 fun x95 h =>
  vif x95 (
  tcomp (kB false) fun c0 => vfin true q [c0] h)
  (viaddr 2 x55 (kI 0) h fun x97 h =>
  vfaddr 1 x97 h fun x98 h =>
  vload false 1 x98 h fun x99 h =>
  viaddr 9 x99 (kI 0) h fun x100 h =>
  vload true 9 x100 h fun x101 h =>
  vop O (.alloc [(.p (.int .i64 0)), (.p (.int .i64 0)), (.p (.str [])), (.p (.str [])), (.p .nilslice), (.p .nilslice), (.p .nilslice), (.p (.bool false)), (.p .nilslice)] false) h 12 fun x12 h =>
  vstore 9 x12 x101 h fun _ h =>
  vbin .eql 0 x48 (kI 4) h fun x103 h =>
  vif x103 (
  vfaddr 8 x12 h fun x104 h =>
  vload false 1 x104 h fun x105 h =>
  vlen O 2 x105 h 106 fun x106 h =>
  vbin .eql 0 x106 (kI 0) h fun x107 h =>
  vguard x107 true (fun kk => vfaddr 7 x12 h kk) h fun x109 h =>
  vguard x107 true (fun kk => vload false 1 x109 h kk) h fun x110 h =>
  vguard x107 true (fun kk => vop O (.un .not (.k x110)) h 111 kk) h fun x111 h =>
  vop O (.pick (.k x107) (.k x111) (.k (kB false))) h 112 fun x112 h =>
  tcomp x112 fun c0 => vfin true q [c0] h)
  (vfaddr 8 x12 h fun x113 h =>
  vload false 1 x113 h fun x114 h =>
  vlen O 2 x114 h 115 fun x115 h =>
  vbin .eql 0 x115 (kI 2) h fun x116 h =>
  vguard x116 true (fun kk => vfaddr 8 x12 h kk) h fun x118 h =>
  vguard x116 true (fun kk => vload false 1 x118 h kk) h fun x119 h =>
  vguard x116 true (fun kk => viaddr 2 x119 (kI 1) h kk) h fun x120 h =>
  vguard x116 true (fun kk => vfaddr 0 x120 h kk) h fun x121 h =>
  vguard x116 true (fun kk => vload false 1 x121 h kk) h fun x122 h =>
  vguard x116 true (fun kk => vbin .eql 0 x122 (kS [98]) h kk) h fun x123 h =>
  vop O (.pick (.k x116) (.k x123) (.k (kB false))) h 124 fun x124 h =>
  vguard x124 true (fun kk => vfaddr 8 x12 h kk) h fun x126 h =>
  vguard x124 true (fun kk => vload false 1 x126 h kk) h fun x127 h =>
  vguard x124 true (fun kk => viaddr 2 x127 (kI 1) h kk) h fun x128 h =>
  vguard x124 true (fun kk => vfaddr 1 x128 h kk) h fun x129 h =>
  vguard x124 true (fun kk => vload false 1 x129 h kk) h fun x130 h =>
  vguard x124 true (fun kk => vlen O 2 x130 h 131 kk) h fun x131 h =>
  vguard x124 true (fun kk => vbin .eql 0 x131 (kI 1) h kk) h fun x132 h =>
  vop O (.pick (.k x124) (.k x132) (.k (kB false))) h 133 fun x133 h =>
  vguard x133 true (fun kk => vfaddr 8 x12 h kk) h fun x135 h =>
  vguard x133 true (fun kk => vload false 1 x135 h kk) h fun x136 h =>
  vguard x133 true (fun kk => viaddr 2 x136 (kI 1) h kk) h fun x137 h =>
  vguard x133 true (fun kk => vfaddr 1 x137 h kk) h fun x138 h =>
  vguard x133 true (fun kk => vload false 1 x138 h kk) h fun x139 h =>
  vguard x133 true (fun kk => viaddr 9 x139 (kI 0) h kk) h fun x140 h =>
  vguard x133 true (fun kk => vfaddr 2 x140 h kk) h fun x141 h =>
  vguard x133 true (fun kk => vload false 1 x141 h kk) h fun x142 h =>
  vguard x133 true (fun kk => vbin .eql 0 x142 (kS [50]) h kk) h fun x143 h =>
  vop O (.pick (.k x133) (.k x143) (.k (kB false))) h 144 fun x144 h =>
  vguard x144 true (fun kk => vfaddr 7 x12 h kk) h fun x146 h =>
  vguard x144 true (fun kk => vload false 1 x146 h kk) h fun x147 h =>
  vop O (.pick (.k x144) (.k x147) (.k (kB false))) h 148 fun x148 h =>
  vguard x148 true (fun kk => vfaddr 6 x12 h kk) h fun x150 h =>
  vguard x148 true (fun kk => vload false 1 x150 h kk) h fun x151 h =>
  vguard x148 true (fun kk => vlen O 2 x151 h 152 kk) h fun x152 h =>
  vguard x148 true (fun kk => vbin .eql 0 x152 (kI 1) h kk) h fun x153 h =>
  vop O (.pick (.k x148) (.k x153) (.k (kB false))) h 154 fun x154 h =>
  tcomp x154 fun c0 => vfin true q [c0] h)))
theorem e4_2 (O : Oracle) (R : Jump) (q : Nat) (x0 x5 : TVal) (h : Heap) : b4_2 O R q x0 x5 h = stepF c4 O R q 2 [x0, x5] h := by kernel_rfl
noncomputable def d4 : BlkF := fun O R q => [.s fun y0 => .s fun y1 => .z fun h => b4_0 O R q y0 y1 h, .s fun y0 => .s fun y1 => .s fun y2 => .s fun y3 => .z fun h => b4_1 O R q y0 y1 y2 y3 h, .s fun y0 => .s fun y1 => .z fun h => b4_2 O R q y0 y1 h]
theorem o4 (O : Oracle) (R : Jump) (q : Nat) : HoldsAll c4 O R q 0 (d4 O R q) := ⟨fun y0 y1 h => e4_0 O R q y0 y1 h, fun y0 y1 y2 y3 h => e4_1 O R q y0 y1 y2 y3 h, fun y0 y1 h => e4_2 O R q y0 y1 h, trivial⟩
/- sprue/spruelaw7.TreeElses -/
def c5 : MFunc := { np := 1, res := [.t 2], frz := true, body := (.seq (.reg [⟨(some 2), (.mv (.k (.v (.c (.p (.bool false)))))), none⟩] []) (.seq (.seq (.reg [⟨(some 11), (.call (.k (.v (.c (.func 14 [])))) []), none⟩, ⟨(some 12), (.un .not (.t 11)), none⟩] []) (.cond (.t 12) (.seq (.reg [⟨(some 2), (.mv (.k (.v (.c (.p (.bool false)))))), none⟩] []) .ret) .skip)) (.seq (.reg [⟨(some 13), (.bslice 1 10 [(.p (.str []))] [(0, (.k (.v (.c (.p (.str [123, 123, 105, 102, 32, 46, 125, 125, 97, 123, 123, 101, 108, 115, 101, 125, 125, 98, 123, 123, 101, 110, 100, 125, 125])))))), (1, (.k (.v (.c (.p (.str [123, 123, 105, 102, 32, 46, 125, 125, 123, 123, 105, 102, 32, 46, 125, 125, 123, 123, 101, 108, 115, 101, 125, 125, 98, 123, 123, 101, 110, 100, 125, 125, 123, 123, 101, 110, 100, 125, 125])))))), (2, (.k (.v (.c (.p (.str [123, 123, 101, 108, 115, 101, 125, 125])))))), (3, (.k (.v (.c (.p (.str [123, 123, 105, 102, 32, 46, 125, 125, 123, 123, 101, 108, 115, 101, 125, 125, 123, 123, 101, 108, 115, 101, 125, 125, 123, 123, 101, 110, 100, 125, 125])))))), (4, (.k (.v (.c (.p (.str [123, 123, 100, 101, 102, 105, 110, 101, 32, 34, 116, 34, 125, 125, 123, 123, 101, 108, 115, 101, 125, 125, 123, 123, 101, 110, 100, 125, 125])))))), (5, (.k (.v (.c (.p (.str [123, 123, 114, 97, 110, 103, 101, 32, 46, 125, 125, 123, 123, 101, 108, 115, 101, 125, 125, 123, 123, 101, 110, 100, 125, 125, 123, 123, 101, 108, 115, 101, 125, 125])))))), (6, (.k (.v (.c (.p (.str [123, 123, 119, 105, 116, 104, 32, 46, 125, 125, 123, 123, 101, 108, 115, 101, 125, 125, 98, 123, 123, 101, 110, 100, 125, 125])))))), (7, (.k (.v (.c (.p (.str [123, 123, 101, 110, 100, 125, 125])))))), (8, (.k (.v (.c (.p (.str [123, 123, 105, 102, 32, 46, 125, 125])))))), (9, (.k (.v (.c (.p (.str [123, 123, 105, 102, 32, 46, 125, 125, 123, 123, 101, 108, 115, 101, 125, 125]))))))] false), none⟩, ⟨(some 3), (.mv (.t 13)), none⟩] []) (.seq (.reg [⟨(some 14), (.bslice 1 10 [(.p (.int .i64 0))] [(0, (.k (.v (.c (.p (.int .i64 0)))))), (1, (.k (.v (.c (.p (.int .i64 0)))))), (2, (.k (.v (.c (.p (.int .i64 12)))))), (3, (.k (.v (.c (.p (.int .i64 12)))))), (4, (.k (.v (.c (.p (.int .i64 12)))))), (5, (.k (.v (.c (.p (.int .i64 12)))))), (6, (.k (.v (.c (.p (.int .i64 0)))))), (7, (.k (.v (.c (.p (.int .i64 12)))))), (8, (.k (.v (.c (.p (.int .i64 12)))))), (9, (.k (.v (.c (.p (.int .i64 12))))))] false), none⟩, ⟨(some 4), (.mv (.t 14)), none⟩] []) (.seq (.reg [⟨(some 15), (.mv (.t 0)), none⟩, ⟨(some 16), (.call (.k (.v (.c (.func 15 [])))) [(.t 15), (.k (.v (.c (.p (.int .i64 10)))))]), none⟩, ⟨(some 5), (.mv (.t 16)), none⟩] []) (.seq (.reg [⟨(some 18), (.mv (.t 3)), none⟩, ⟨(some 19), (.mv (.t 5)), none⟩, ⟨(some 20), (.iaddr 1 (.t 18) (.t 19)), none⟩, ⟨(some 21), (.load false 1 (.t 20)), none⟩, ⟨(some 22), (.call (.k (.v (.c (.func 16 [])))) [(.t 21)]), none⟩, ⟨(some 17), (.mv (.t 22)), none⟩, ⟨(some 23), (.extract (.t 17) 0), none⟩, ⟨(some 24), (.extract (.t 17) 1), none⟩, ⟨(some 25), (.extract (.t 17) 2), none⟩, ⟨(some 6), (.mv (.t 23)), none⟩, ⟨(some 7), (.mv (.t 24)), none⟩, ⟨(some 8), (.mv (.t 25)), none⟩] []) (.seq (.seq (.reg [⟨(some 26), (.mv (.t 8)), none⟩, ⟨(some 27), (.mv (.t 4)), none⟩, ⟨(some 28), (.mv (.t 5)), none⟩, ⟨(some 29), (.iaddr 1 (.t 27) (.t 28)), none⟩, ⟨(some 30), (.load false 1 (.t 29)), none⟩, ⟨(some 31), (.bin .neq 0 (.t 26) (.t 30)), none⟩, ⟨(some 32), (.mv (.t 31)), none⟩, ⟨(some 33), (.mv (.t 8)), (some (32, false))⟩, ⟨(some 34), (.bin .neq 0 (.t 33) (.k (.v (.c (.p (.int .i64 0)))))), (some (32, false))⟩, ⟨(some 35), (.mv (.t 34)), (some (32, false))⟩, ⟨(some 36), (.mv (.t 6)), (some (35, true))⟩, ⟨(some 37), (.len 2 (.t 36)), (some (35, true))⟩, ⟨(some 38), (.bin .neq 0 (.t 37) (.k (.v (.c (.p (.int .i64 0)))))), (some (35, true))⟩, ⟨(some 39), (.pick (.t 35) (.t 38) (.k (.v (.c (.p (.bool false)))))), (some (32, false))⟩, ⟨(some 40), (.pick (.t 32) (.k (.v (.c (.p (.bool true))))) (.t 39)), none⟩, ⟨(some 41), (.mv (.t 40)), none⟩, ⟨(some 42), (.mv (.t 8)), (some (41, false))⟩, ⟨(some 43), (.bin .eql 0 (.t 42) (.k (.v (.c (.p (.int .i64 0)))))), (some (41, false))⟩, ⟨(some 44), (.mv (.t 43)), (some (41, false))⟩, ⟨(some 45), (.mv (.t 7)), (some (44, true))⟩, ⟨(some 46), (.bin .neq 0 (.t 45) (.k (.v (.c (.p (.int .i64 0)))))), (some (44, true))⟩, ⟨(some 47), (.pick (.t 44) (.t 46) (.k (.v (.c (.p (.bool false)))))), (some (41, false))⟩, ⟨(some 48), (.pick (.t 41) (.k (.v (.c (.p (.bool true))))) (.t 47)), none⟩, ⟨(some 49), (.mv (.t 48)), none⟩, ⟨(some 50), (.mv (.t 5)), (some (49, false))⟩, ⟨(some 51), (.bin .geq 0 (.t 50) (.k (.v (.c (.p (.int .i64 8)))))), (some (49, false))⟩, ⟨(some 52), (.mv (.t 51)), (some (49, false))⟩, ⟨(some 53), (.mv (.t 7)), (some (52, true))⟩, ⟨(some 54), (.mv (.t 3)), (some (52, true))⟩, ⟨(some 55), (.mv (.t 5)), (some (52, true))⟩, ⟨(some 56), (.iaddr 1 (.t 54) (.t 55)), (some (52, true))⟩, ⟨(some 57), (.load false 1 (.t 56)), (some (52, true))⟩, ⟨(some 58), (.len 0 (.t 57)), (some (52, true))⟩, ⟨(some 59), (.bin .neq 0 (.t 53) (.t 58)), (some (52, true))⟩, ⟨(some 60), (.pick (.t 52) (.t 59) (.k (.v (.c (.p (.bool false)))))), (some (49, false))⟩, ⟨(some 61), (.pick (.t 49) (.k (.v (.c (.p (.bool true))))) (.t 60)), none⟩] []) (.cond (.t 61) (.seq (.reg [⟨(some 2), (.mv (.k (.v (.c (.p (.bool false)))))), none⟩] []) .ret) .skip)) (.seq (.seq (.reg [⟨(some 62), (.mv (.t 5)), none⟩] []) (.block 0 (.seq (.seq (.reg [⟨(some 64), (.bin .eql 0 (.t 62) (.k (.v (.c (.p (.int .i64 0)))))), none⟩, ⟨(some 63), (.mv (.t 64)), none⟩] []) (.cond (.t 63) .skip (.reg [⟨(some 65), (.bin .eql 0 (.t 62) (.k (.v (.c (.p (.int .i64 6)))))), none⟩, ⟨(some 63), (.mv (.t 65)), none⟩] []))) (.mark 1 [6, 62, 63] (.cond (.t 63) (.seq (.reg [⟨(some 66), (.mv (.t 6)), none⟩, ⟨(some 67), (.iaddr 2 (.t 66) (.k (.v (.c (.p (.int .i64 0)))))), none⟩, ⟨(some 68), (.faddr 1 (.t 67)), none⟩, ⟨(some 69), (.load false 1 (.t 68)), none⟩, ⟨(some 70), (.iaddr 9 (.t 69) (.k (.v (.c (.p (.int .i64 0)))))), none⟩, ⟨(some 71), (.load true 9 (.t 70)), none⟩, ⟨(some 9), (.alloc [(.p (.int .i64 0)), (.p (.int .i64 0)), (.p (.str [])), (.p (.str [])), (.p .nilslice), (.p .nilslice), (.p .nilslice), (.p (.bool false)), (.p .nilslice)] false), none⟩, ⟨none, (.store 9 (.t 9) (.t 71)), none⟩] []) (.seq (.reg [⟨(some 72), (.faddr 7 (.t 9)), none⟩, ⟨(some 73), (.load false 1 (.t 72)), none⟩, ⟨(some 74), (.mv (.t 73)), none⟩, ⟨(some 75), (.faddr 6 (.t 9)), (some (74, true))⟩, ⟨(some 76), (.load false 1 (.t 75)), (some (74, true))⟩, ⟨(some 77), (.len 2 (.t 76)), (some (74, true))⟩, ⟨(some 78), (.bin .eql 0 (.t 77) (.k (.v (.c (.p (.int .i64 1)))))), (some (74, true))⟩, ⟨(some 79), (.pick (.t 74) (.t 78) (.k (.v (.c (.p (.bool false)))))), none⟩, ⟨(some 80), (.mv (.t 79)), none⟩, ⟨(some 81), (.faddr 6 (.t 9)), (some (80, true))⟩, ⟨(some 82), (.load false 1 (.t 81)), (some (80, true))⟩, ⟨(some 83), (.iaddr 9 (.t 82) (.k (.v (.c (.p (.int .i64 0)))))), (some (80, true))⟩, ⟨(some 84), (.faddr 2 (.t 83)), (some (80, true))⟩, ⟨(some 85), (.load false 1 (.t 84)), (some (80, true))⟩, ⟨(some 86), (.bin .eql 0 (.t 85) (.k (.v (.c (.p (.str [98])))))), (some (80, true))⟩, ⟨(some 87), (.pick (.t 80) (.t 86) (.k (.v (.c (.p (.bool false)))))), none⟩, ⟨(some 2), (.mv (.t 87)), none⟩] []) .ret)) (.seq (.reg [⟨(some 89), (.bin .eql 0 (.t 62) (.k (.v (.c (.p (.int .i64 1)))))), none⟩, ⟨(some 88), (.mv (.t 89)), none⟩] []) (.cond (.t 88) (.seq (.reg [⟨(some 90), (.mv (.t 6)), none⟩, ⟨(some 91), (.iaddr 2 (.t 90) (.k (.v (.c (.p (.int .i64 0)))))), none⟩, ⟨(some 92), (.faddr 1 (.t 91)), none⟩, ⟨(some 93), (.load false 1 (.t 92)), none⟩, ⟨(some 94), (.iaddr 9 (.t 93) (.k (.v (.c (.p (.int .i64 0)))))), none⟩, ⟨(some 95), (.load true 9 (.t 94)), none⟩, ⟨(some 10), (.alloc [(.p (.int .i64 0)), (.p (.int .i64 0)), (.p (.str [])), (.p (.str [])), (.p .nilslice), (.p .nilslice), (.p .nilslice), (.p (.bool false)), (.p .nilslice)] false), none⟩, ⟨none, (.store 9 (.t 10) (.t 95)), none⟩] []) (.seq (.reg [⟨(some 96), (.faddr 7 (.t 10)), none⟩, ⟨(some 97), (.load false 1 (.t 96)), none⟩, ⟨(some 98), (.un .not (.t 97)), none⟩, ⟨(some 99), (.mv (.t 98)), none⟩, ⟨(some 100), (.faddr 6 (.t 10)), (some (99, true))⟩, ⟨(some 101), (.load false 1 (.t 100)), (some (99, true))⟩, ⟨(some 102), (.len 2 (.t 101)), (some (99, true))⟩, ⟨(some 103), (.bin .eql 0 (.t 102) (.k (.v (.c (.p (.int .i64 0)))))), (some (99, true))⟩, ⟨(some 104), (.pick (.t 99) (.t 103) (.k (.v (.c (.p (.bool false)))))), none⟩, ⟨(some 105), (.mv (.t 104)), none⟩, ⟨(some 106), (.faddr 5 (.t 10)), (some (105, true))⟩, ⟨(some 107), (.load false 1 (.t 106)), (some (105, true))⟩, ⟨(some 108), (.len 2 (.t 107)), (some (105, true))⟩, ⟨(some 109), (.bin .eql 0 (.t 108) (.k (.v (.c (.p (.int .i64 1)))))), (some (105, true))⟩, ⟨(some 110), (.pick (.t 105) (.t 109) (.k (.v (.c (.p (.bool false)))))), none⟩, ⟨(some 111), (.mv (.t 110)), none⟩, ⟨(some 112), (.faddr 5 (.t 10)), (some (111, true))⟩, ⟨(some 113), (.load false 1 (.t 112)), (some (111, true))⟩, ⟨(some 114), (.iaddr 9 (.t 113) (.k (.v (.c (.p (.int .i64 0)))))), (some (111, true))⟩, ⟨(some 115), (.faddr 7 (.t 114)), (some (111, true))⟩, ⟨(some 116), (.load false 1 (.t 115)), (some (111, true))⟩, ⟨(some 117), (.pick (.t 111) (.t 116) (.k (.v (.c (.p (.bool false)))))), none⟩, ⟨(some 2), (.mv (.t 117)), none⟩] []) .ret)) .skip))))))) (.seq (.reg [⟨(some 2), (.mv (.k (.v (.c (.p (.bool true)))))), none⟩] []) .ret))))))))) }
theorem t5 : compF Tryd.prog (globs2 tabs opq) false true Tryd.f5 = some c5.erase := by kernel_rfl
noncomputable def b5_0 (O : Oracle) (R : Jump) (q : Nat) (x0 : TVal) (h : Heap) : Res1 :=
  vcall O (.v (.c (.func 14 []))) [] h 11 fun x11 h =>
  vop O (.un .not (.k x11)) h 12 fun x12 h =>
  vif x12 (
  tcomp (kB false) fun c0 => vfin true q [c0] h)
  (vop O (.bslice 1 10 [(.p (.str []))] [(0, (.k (kS [123, 123, 105, 102, 32, 46, 125, 125, 97, 123, 123, 101, 108, 115, 101, 125, 125, 98, 123, 123, 101, 110, 100, 125, 125]))), (1, (.k (kS [123, 123, 105, 102, 32, 46, 125, 125, 123, 123, 105, 102, 32, 46, 125, 125, 123, 123, 101, 108, 115, 101, 125, 125, 98, 123, 123, 101, 110, 100, 125, 125, 123, 123, 101, 110, 100, 125, 125]))), (2, (.k (kS [123, 123, 101, 108, 115, 101, 125, 125]))), (3, (.k (kS [123, 123, 105, 102, 32, 46, 125, 125, 123, 123, 101, 108, 115, 101, 125, 125, 123, 123, 101, 108, 115, 101, 125, 125, 123, 123, 101, 110, 100, 125, 125]))), (4, (.k (kS [123, 123, 100, 101, 102, 105, 110, 101, 32, 34, 116, 34, 125, 125, 123, 123, 101, 108, 115, 101, 125, 125, 123, 123, 101, 110, 100, 125, 125]))), (5, (.k (kS [123, 123, 114, 97, 110, 103, 101, 32, 46, 125, 125, 123, 123, 101, 108, 115, 101, 125, 125, 123, 123, 101, 110, 100, 125, 125, 123, 123, 101, 108, 115, 101, 125, 125]))), (6, (.k (kS [123, 123, 119, 105, 116, 104, 32, 46, 125, 125, 123, 123, 101, 108, 115, 101, 125, 125, 98, 123, 123, 101, 110, 100, 125, 125]))), (7, (.k (kS [123, 123, 101, 110, 100, 125, 125]))), (8, (.k (kS [123, 123, 105, 102, 32, 46, 125, 125]))), (9, (.k (kS [123, 123, 105, 102, 32, 46, 125, 125, 123, 123, 101, 108, 115, 101, 125, 125])))] false) h 13 fun x13 h =>
  vop O (.bslice 1 10 [(.p (.int .i64 0))] [(0, (.k (kI 0))), (1, (.k (kI 0))), (2, (.k (kI 12))), (3, (.k (kI 12))), (4, (.k (kI 12))), (5, (.k (kI 12))), (6, (.k (kI 0))), (7, (.k (kI 12))), (8, (.k (kI 12))), (9, (.k (kI 12)))] false) h 14 fun x14 h =>
  vcall O (.v (.c (.func 15 []))) [x0, (kI 10)] h 16 fun x16 h =>
  viaddr 1 x13 x16 h fun x20 h =>
  vload false 1 x20 h fun x21 h =>
  vcall O (.v (.c (.func 16 []))) [x21] h 22 fun x22 h =>
  vext x22 0 h fun x23 h =>
  vext x22 1 h fun x24 h =>
  vext x22 2 h fun x25 h =>
  viaddr 1 x14 x16 h fun x29 h =>
  vload false 1 x29 h fun x30 h =>
  vbin .neq 0 x25 x30 h fun x31 h =>
  vguard x31 false (fun kk => kk x25 h) h fun x33 h =>
  vguard x31 false (fun kk => vbin .neq 0 x33 (kI 0) h kk) h fun x34 h =>
  vguard x31 false (fun kk => kk x34 h) h fun x35 h =>
  vguard x35 true (fun kk => kk x23 h) h fun x36 h =>
  vguard x35 true (fun kk => vlen O 2 x36 h 37 kk) h fun x37 h =>
  vguard x35 true (fun kk => vbin .neq 0 x37 (kI 0) h kk) h fun x38 h =>
  vguard x31 false (fun kk => vop O (.pick (.k x35) (.k x38) (.k (kB false))) h 39 kk) h fun x39 h =>
  vop O (.pick (.k x31) (.k (kB true)) (.k x39)) h 40 fun x40 h =>
  vguard x40 false (fun kk => kk x25 h) h fun x42 h =>
  vguard x40 false (fun kk => vbin .eql 0 x42 (kI 0) h kk) h fun x43 h =>
  vguard x40 false (fun kk => kk x43 h) h fun x44 h =>
  vguard x44 true (fun kk => kk x24 h) h fun x45 h =>
  vguard x44 true (fun kk => vbin .neq 0 x45 (kI 0) h kk) h fun x46 h =>
  vguard x40 false (fun kk => vop O (.pick (.k x44) (.k x46) (.k (kB false))) h 47 kk) h fun x47 h =>
  vop O (.pick (.k x40) (.k (kB true)) (.k x47)) h 48 fun x48 h =>
  vguard x48 false (fun kk => kk x16 h) h fun x50 h =>
  vguard x48 false (fun kk => vbin .geq 0 x50 (kI 8) h kk) h fun x51 h =>
  vguard x48 false (fun kk => kk x51 h) h fun x52 h =>
  vguard x52 true (fun kk => kk x24 h) h fun x53 h =>
  vguard x52 true (fun kk => kk x13 h) h fun x54 h =>
  vguard x52 true (fun kk => kk x16 h) h fun x55 h =>
  vguard x52 true (fun kk => viaddr 1 x54 x55 h kk) h fun x56 h =>
  vguard x52 true (fun kk => vload false 1 x56 h kk) h fun x57 h =>
  vguard x52 true (fun kk => vlen O 0 x57 h 58 kk) h fun x58 h =>
  vguard x52 true (fun kk => vbin .neq 0 x53 x58 h kk) h fun x59 h =>
  vguard x48 false (fun kk => vop O (.pick (.k x52) (.k x59) (.k (kB false))) h 60 kk) h fun x60 h =>
  vop O (.pick (.k x48) (.k (kB true)) (.k x60)) h 61 fun x61 h =>
  vif x61 (
  tcomp (kB false) fun c0 => vfin true q [c0] h)
  (vbin .eql 0 x16 (kI 0) h fun x64 h =>
  vif x64 (
  R 1 [x23, x16, x64] h)
  (vbin .eql 0 x16 (kI 6) h fun x65 h =>
  R 1 [x23, x16, x65] h)))
theorem e5_0 (O : Oracle) (R : Jump) (q : Nat) (x0 : TVal) (h : Heap) : b5_0 O R q x0 h = stepF c5 O R q 0 [x0] h := by kernel_rfl
noncomputable def b5_1 (O : Oracle) (R : Jump) (q : Nat) (x6 x62 x63 : TVal) (h : Heap) : Res1 :=
  vif x63 (
  viaddr 2 x6 (kI 0) h fun x67 h =>
  vfaddr 1 x67 h fun x68 h =>
  vload false 1 x68 h fun x69 h =>
  viaddr 9 x69 (kI 0) h fun x70 h =>
  vload true 9 x70 h fun x71 h =>
  vop O (.alloc [(.p (.int .i64 0)), (.p (.int .i64 0)), (.p (.str [])), (.p (.str [])), (.p .nilslice), (.p .nilslice), (.p .nilslice), (.p (.bool false)), (.p .nilslice)] false) h 9 fun x9 h =>
  vstore 9 x9 x71 h fun _ h =>
  vfaddr 7 x9 h fun x72 h =>
  vload false 1 x72 h fun x73 h =>
  vguard x73 true (fun kk => vfaddr 6 x9 h kk) h fun x75 h =>
  vguard x73 true (fun kk => vload false 1 x75 h kk) h fun x76 h =>
  vguard x73 true (fun kk => vlen O 2 x76 h 77 kk) h fun x77 h =>
  vguard x73 true (fun kk => vbin .eql 0 x77 (kI 1) h kk) h fun x78 h =>
  vop O (.pick (.k x73) (.k x78) (.k (kB false))) h 79 fun x79 h =>
  vguard x79 true (fun kk => vfaddr 6 x9 h kk) h fun x81 h =>
  vguard x79 true (fun kk => vload false 1 x81 h kk) h fun x82 h =>
  vguard x79 true (fun kk => viaddr 9 x82 (kI 0) h kk) h fun x83 h =>
  vguard x79 true (fun kk => vfaddr 2 x83 h kk) h fun x84 h =>
  vguard x79 true (fun kk => vload false 1 x84 h kk) h fun x85 h =>
  vguard x79 true (fun kk => vbin .eql 0 x85 (kS [98]) h kk) h fun x86 h =>
  vop O (.pick (.k x79) (.k x86) (.k (kB false))) h 87 fun x87 h =>
  tcomp x87 fun c0 => vfin true q [c0] h)
  (vbin .eql 0 x62 (kI 1) h fun x89 h =>
  vif x89 (
  viaddr 2 x6 (kI 0) h fun x91 h =>
  vfaddr 1 x91 h fun x92 h =>
  vload false 1 x92 h fun x93 h =>
  viaddr 9 x93 (kI 0) h fun x94 h =>
  vload true 9 x94 h fun x95 h =>
  vop O (.alloc [(.p (.int .i64 0)), (.p (.int .i64 0)), (.p (.str [])), (.p (.str [])), (.p .nilslice), (.p .nilslice), (.p .nilslice), (.p (.bool false)), (.p .nilslice)] false) h 10 fun x10 h =>
  vstore 9 x10 x95 h fun _ h =>
  vfaddr 7 x10 h fun x96 h =>
  vload false 1 x96 h fun x97 h =>
  vop O (.un .not (.k x97)) h 98 fun x98 h =>
  vguard x98 true (fun kk => vfaddr 6 x10 h kk) h fun x100 h =>
  vguard x98 true (fun kk => vload false 1 x100 h kk) h fun x101 h =>
  vguard x98 true (fun kk => vlen O 2 x101 h 102 kk) h fun x102 h =>
  vguard x98 true (fun kk => vbin .eql 0 x102 (kI 0) h kk) h fun x103 h =>
  vop O (.pick (.k x98) (.k x103) (.k (kB false))) h 104 fun x104 h =>
  vguard x104 true (fun kk => vfaddr 5 x10 h kk) h fun x106 h =>
  vguard x104 true (fun kk => vload false 1 x106 h kk) h fun x107 h =>
  vguard x104 true (fun kk => vlen O 2 x107 h 108 kk) h fun x108 h =>
  vguard x104 true (fun kk => vbin .eql 0 x108 (kI 1) h kk) h fun x109 h =>
  vop O (.pick (.k x104) (.k x109) (.k (kB false))) h 110 fun x110 h =>
  vguard x110 true (fun kk => vfaddr 5 x10 h kk) h fun x112 h =>
  vguard x110 true (fun kk => vload false 1 x112 h kk) h fun x113 h =>
  vguard x110 true (fun kk => viaddr 9 x113 (kI 0) h kk) h fun x114 h =>
  vguard x110 true (fun kk => vfaddr 7 x114 h kk) h fun x115 h =>
  vguard x110 true (fun kk => vload false 1 x115 h kk) h fun x116 h =>
  vop O (.pick (.k x110) (.k x116) (.k (kB false))) h 117 fun x117 h =>
  tcomp x117 fun c0 => vfin true q [c0] h)
  (tcomp (kB true) fun c0 => vfin true q [c0] h))
theorem e5_1 (O : Oracle) (R : Jump) (q : Nat) (x6 x62 x63 : TVal) (h : Heap) : b5_1 O R q x6 x62 x63 h = stepF c5 O R q 1 [x6, x62, x63] h := by kernel_rfl
noncomputable def d5 : BlkF := fun O R q => [.s fun y0 => .z fun h => b5_0 O R q y0 h, .s fun y0 => .s fun y1 => .s fun y2 => .z fun h => b5_1 O R q y0 y1 y2 h]
theorem o5 (O : Oracle) (R : Jump) (q : Nat) : HoldsAll c5 O R q 0 (d5 O R q) := ⟨fun y0 h => e5_0 O R q y0 h, fun y0 y1 y2 h => e5_1 O R q y0 y1 y2 h, trivial⟩
/- sprue/spruelaw7.TreeActions -/
def c6 : MFunc := { np := 1, res := [.t 2], frz := true, body := (.seq (.reg [⟨(some 2), (.mv (.k (.v (.c (.p (.bool false)))))), none⟩] []) (.seq (.seq (.reg [⟨(some 9), (.call (.k (.v (.c (.func 14 [])))) []), none⟩, ⟨(some 10), (.un .not (.t 9)), none⟩] []) (.cond (.t 10) (.seq (.reg [⟨(some 2), (.mv (.k (.v (.c (.p (.bool false)))))), none⟩] []) .ret) .skip)) (.seq (.reg [⟨(some 11), (.bslice 1 27 [(.p (.str []))] [(0, (.k (.v (.c (.p (.str [123, 123, 125, 125])))))), (1, (.k (.v (.c (.p (.str [123, 123, 46, 125, 125])))))), (2, (.k (.v (.c (.p (.str [123, 123, 36, 120, 125, 125])))))), (3, (.k (.v (.c (.p (.str [123, 123, 36, 120, 32, 58, 61, 32, 46, 125, 125])))))), (4, (.k (.v (.c (.p (.str [123, 123, 36, 120, 32, 61, 32, 46, 125, 125])))))), (5, (.k (.v (.c (.p (.str [123, 123, 36, 120, 32, 46, 125, 125])))))), (6, (.k (.v (.c (.p (.str [123, 123, 36, 120, 32, 58, 61, 125, 125])))))), (7, (.k (.v (.c (.p (.str [123, 123, 116, 101, 109, 112, 108, 97, 116, 101, 32, 34, 116, 34, 125, 125])))))), (8, (.k (.v (.c (.p (.str [123, 123, 116, 101, 109, 112, 108, 97, 116, 101, 32, 34, 116, 34, 32, 46, 97, 125, 125])))))), (9, (.k (.v (.c (.p (.str [123, 123, 116, 101, 109, 112, 108, 97, 116, 101, 32, 34, 116, 34, 32, 46, 97, 32, 46, 98, 125, 125])))))), (10, (.k (.v (.c (.p (.str [123, 123, 116, 101, 109, 112, 108, 97, 116, 101, 32, 116, 125, 125])))))), (11, (.k (.v (.c (.p (.str [123, 123, 116, 101, 109, 112, 108, 97, 116, 101, 32, 34, 57, 34, 125, 125])))))), (12, (.k (.v (.c (.p (.str [123, 123, 116, 101, 109, 112, 108, 97, 116, 101, 125, 125])))))), (13, (.k (.v (.c (.p (.str [123, 123, 105, 102, 125, 125, 123, 123, 101, 110, 100, 125, 125])))))), (14, (.k (.v (.c (.p (.str [123, 123, 105, 102, 32, 46, 32, 46, 125, 125, 123, 123, 101, 110, 100, 125, 125])))))), (15, (.k (.v (.c (.p (.str [123, 123, 101, 110, 100, 32, 46, 125, 125])))))), (16, (.k (.v (.c (.p (.str [123, 123, 46, 32, 124, 32, 108, 101, 110, 125, 125])))))), (17, (.k (.v (.c (.p (.str [123, 123, 46, 32, 124, 125, 125])))))), (18, (.k (.v (.c (.p (.str [123, 123, 124, 32, 46, 125, 125])))))), (19, (.k (.v (.c (.p (.str [123, 123, 108, 101, 110, 32, 40, 46, 32, 124, 32, 108, 101, 110, 41, 125, 125])))))), (20, (.k (.v (.c (.p (.str [123, 123, 108, 101, 110, 32, 40, 125, 125])))))), (21, (.k (.v (.c (.p (.str [123, 123, 49, 32, 50, 125, 125])))))), (22, (.k (.v (.c (.p (.str [123, 123, 102, 32, 49, 32, 50, 32, 51, 32, 52, 125, 125])))))), (23, (.k (.v (.c (.p (.str [123, 123, 102, 32, 49, 32, 50, 32, 51, 32, 52, 32, 53, 125, 125])))))), (24, (.k (.v (.c (.p (.str [123, 123, 34, 97, 34, 125, 125])))))), (25, (.k (.v (.c (.p (.str [123, 123, 99, 97, 115, 101, 32, 97, 125, 125])))))), (26, (.k (.v (.c (.p (.str [123, 123, 102, 59, 32, 103, 125, 125]))))))] false), none⟩, ⟨(some 3), (.mv (.t 11)), none⟩] []) (.seq (.reg [⟨(some 12), (.bslice 1 27 [(.p (.bool false))] [(0, (.k (.v (.c (.p (.bool false)))))), (1, (.k (.v (.c (.p (.bool true)))))), (2, (.k (.v (.c (.p (.bool true)))))), (3, (.k (.v (.c (.p (.bool true)))))), (4, (.k (.v (.c (.p (.bool true)))))), (5, (.k (.v (.c (.p (.bool false)))))), (6, (.k (.v (.c (.p (.bool false)))))), (7, (.k (.v (.c (.p (.bool true)))))), (8, (.k (.v (.c (.p (.bool true)))))), (9, (.k (.v (.c (.p (.bool false)))))), (10, (.k (.v (.c (.p (.bool false)))))), (11, (.k (.v (.c (.p (.bool false)))))), (12, (.k (.v (.c (.p (.bool false)))))), (13, (.k (.v (.c (.p (.bool false)))))), (14, (.k (.v (.c (.p (.bool false)))))), (15, (.k (.v (.c (.p (.bool false)))))), (16, (.k (.v (.c (.p (.bool true)))))), (17, (.k (.v (.c (.p (.bool false)))))), (18, (.k (.v (.c (.p (.bool false)))))), (19, (.k (.v (.c (.p (.bool true)))))), (20, (.k (.v (.c (.p (.bool false)))))), (21, (.k (.v (.c (.p (.bool false)))))), (22, (.k (.v (.c (.p (.bool true)))))), (23, (.k (.v (.c (.p (.bool false)))))), (24, (.k (.v (.c (.p (.bool true)))))), (25, (.k (.v (.c (.p (.bool false)))))), (26, (.k (.v (.c (.p (.bool false))))))] false), none⟩, ⟨(some 4), (.mv (.t 12)), none⟩] []) (.seq (.reg [⟨(some 13), (.mv (.t 0)), none⟩, ⟨(some 14), (.mv (.t 3)), none⟩, ⟨(some 15), (.len 2 (.t 14)), none⟩, ⟨(some 16), (.call (.k (.v (.c (.func 15 [])))) [(.t 13), (.t 15)]), none⟩, ⟨(some 5), (.mv (.t 16)), none⟩] []) (.seq (.reg [⟨(some 18), (.mv (.t 3)), none⟩, ⟨(some 19), (.mv (.t 5)), none⟩, ⟨(some 20), (.iaddr 1 (.t 18) (.t 19)), none⟩, ⟨(some 21), (.load false 1 (.t 20)), none⟩, ⟨(some 22), (.call (.k (.v (.c (.func 16 [])))) [(.t 21)]), none⟩, ⟨(some 17), (.mv (.t 22)), none⟩, ⟨(some 23), (.extract (.t 17) 0), none⟩, ⟨(some 24), (.extract (.t 17) 1), none⟩, ⟨(some 25), (.extract (.t 17) 2), none⟩, ⟨(some 6), (.mv (.t 23)), none⟩, ⟨(some 7), (.mv (.t 24)), none⟩, ⟨(some 8), (.mv (.t 25)), none⟩] []) (.seq (.reg [⟨(some 26), (.mv (.t 3)), none⟩, ⟨(some 27), (.len 2 (.t 26)), none⟩, ⟨(some 28), (.mv (.t 4)), none⟩, ⟨(some 29), (.len 2 (.t 28)), none⟩, ⟨(some 30), (.bin .eql 0 (.t 27) (.t 29)), none⟩, ⟨(some 31), (.mv (.t 30)), none⟩, ⟨(some 32), (.mv (.t 8)), (some (31, true))⟩, ⟨(some 33), (.bin .eql 0 (.t 32) (.k (.v (.c (.p (.int .i64 0)))))), (some (31, true))⟩, ⟨(some 34), (.mv (.t 4)), (some (31, true))⟩, ⟨(some 35), (.mv (.t 5)), (some (31, true))⟩, ⟨(some 36), (.iaddr 1 (.t 34) (.t 35)), (some (31, true))⟩, ⟨(some 37), (.load false 1 (.t 36)), (some (31, true))⟩, ⟨(some 38), (.bin .eql 5 (.t 33) (.t 37)), (some (31, true))⟩, ⟨(some 39), (.pick (.t 31) (.t 38) (.k (.v (.c (.p (.bool false)))))), none⟩, ⟨(some 40), (.mv (.t 39)), none⟩, ⟨(some 41), (.mv (.t 8)), (some (40, true))⟩, ⟨(some 42), (.bin .eql 0 (.t 41) (.k (.v (.c (.p (.int .i64 0)))))), (some (40, true))⟩, ⟨(some 43), (.mv (.t 6)), (some (40, true))⟩, ⟨(some 44), (.len 2 (.t 43)), (some (40, true))⟩, ⟨(some 45), (.bin .eql 0 (.t 44) (.k (.v (.c (.p (.int .i64 1)))))), (some (40, true))⟩, ⟨(some 46), (.bin .eql 5 (.t 42) (.t 45)), (some (40, true))⟩, ⟨(some 47), (.pick (.t 40) (.t 46) (.k (.v (.c (.p (.bool false)))))), none⟩, ⟨(some 2), (.mv (.t 47)), none⟩] []) .ret))))))) }
theorem t6 : compF Tryd.prog (globs2 tabs opq) false true Tryd.f6 = some c6.erase := by kernel_rfl
noncomputable def b6_0 (O : Oracle) (R : Jump) (q : Nat) (x0 : TVal) (h : Heap) : Res1 :=
  vcall O (.v (.c (.func 14 []))) [] h 9 fun x9 h =>
  vop O (.un .not (.k x9)) h 10 fun x10 h =>
  vif x10 (
  tcomp (kB false) fun c0 => vfin true q [c0] h)
  (vop O (.bslice 1 27 [(.p (.str []))] [(0, (.k (kS [123, 123, 125, 125]))), (1, (.k (kS [123, 123, 46, 125, 125]))), (2, (.k (kS [123, 123, 36, 120, 125, 125]))), (3, (.k (kS [123, 123, 36, 120, 32, 58, 61, 32, 46, 125, 125]))), (4, (.k (kS [123, 123, 36, 120, 32, 61, 32, 46, 125, 125]))), (5, (.k (kS [123, 123, 36, 120, 32, 46, 125, 125]))), (6, (.k (kS [123, 123, 36, 120, 32, 58, 61, 125, 125]))), (7, (.k (kS [123, 123, 116, 101, 109, 112, 108, 97, 116, 101, 32, 34, 116, 34, 125, 125]))), (8, (.k (kS [123, 123, 116, 101, 109, 112, 108, 97, 116, 101, 32, 34, 116, 34, 32, 46, 97, 125, 125]))), (9, (.k (kS [123, 123, 116, 101, 109, 112, 108, 97, 116, 101, 32, 34, 116, 34, 32, 46, 97, 32, 46, 98, 125, 125]))), (10, (.k (kS [123, 123, 116, 101, 109, 112, 108, 97, 116, 101, 32, 116, 125, 125]))), (11, (.k (kS [123, 123, 116, 101, 109, 112, 108, 97, 116, 101, 32, 34, 57, 34, 125, 125]))), (12, (.k (kS [123, 123, 116, 101, 109, 112, 108, 97, 116, 101, 125, 125]))), (13, (.k (kS [123, 123, 105, 102, 125, 125, 123, 123, 101, 110, 100, 125, 125]))), (14, (.k (kS [123, 123, 105, 102, 32, 46, 32, 46, 125, 125, 123, 123, 101, 110, 100, 125, 125]))), (15, (.k (kS [123, 123, 101, 110, 100, 32, 46, 125, 125]))), (16, (.k (kS [123, 123, 46, 32, 124, 32, 108, 101, 110, 125, 125]))), (17, (.k (kS [123, 123, 46, 32, 124, 125, 125]))), (18, (.k (kS [123, 123, 124, 32, 46, 125, 125]))), (19, (.k (kS [123, 123, 108, 101, 110, 32, 40, 46, 32, 124, 32, 108, 101, 110, 41, 125, 125]))), (20, (.k (kS [123, 123, 108, 101, 110, 32, 40, 125, 125]))), (21, (.k (kS [123, 123, 49, 32, 50, 125, 125]))), (22, (.k (kS [123, 123, 102, 32, 49, 32, 50, 32, 51, 32, 52, 125, 125]))), (23, (.k (kS [123, 123, 102, 32, 49, 32, 50, 32, 51, 32, 52, 32, 53, 125, 125]))), (24, (.k (kS [123, 123, 34, 97, 34, 125, 125]))), (25, (.k (kS [123, 123, 99, 97, 115, 101, 32, 97, 125, 125]))), (26, (.k (kS [123, 123, 102, 59, 32, 103, 125, 125])))] false) h 11 fun x11 h =>
  vop O (.bslice 1 27 [(.p (.bool false))] [(0, (.k (kB false))), (1, (.k (kB true))), (2, (.k (kB true))), (3, (.k (kB true))), (4, (.k (kB true))), (5, (.k (kB false))), (6, (.k (kB false))), (7, (.k (kB true))), (8, (.k (kB true))), (9, (.k (kB false))), (10, (.k (kB false))), (11, (.k (kB false))), (12, (.k (kB false))), (13, (.k (kB false))), (14, (.k (kB false))), (15, (.k (kB false))), (16, (.k (kB true))), (17, (.k (kB false))), (18, (.k (kB false))), (19, (.k (kB true))), (20, (.k (kB false))), (21, (.k (kB false))), (22, (.k (kB true))), (23, (.k (kB false))), (24, (.k (kB true))), (25, (.k (kB false))), (26, (.k (kB false)))] false) h 12 fun x12 h =>
  vlen O 2 x11 h 15 fun x15 h =>
  vcall O (.v (.c (.func 15 []))) [x0, x15] h 16 fun x16 h =>
  viaddr 1 x11 x16 h fun x20 h =>
  vload false 1 x20 h fun x21 h =>
  vcall O (.v (.c (.func 16 []))) [x21] h 22 fun x22 h =>
  vext x22 0 h fun x23 h =>
  vext x22 1 h fun x24 h =>
  vext x22 2 h fun x25 h =>
  vlen O 2 x11 h 27 fun x27 h =>
  vlen O 2 x12 h 29 fun x29 h =>
  vbin .eql 0 x27 x29 h fun x30 h =>
  vguard x30 true (fun kk => kk x25 h) h fun x32 h =>
  vguard x30 true (fun kk => vbin .eql 0 x32 (kI 0) h kk) h fun x33 h =>
  vguard x30 true (fun kk => kk x12 h) h fun x34 h =>
  vguard x30 true (fun kk => kk x16 h) h fun x35 h =>
  vguard x30 true (fun kk => viaddr 1 x34 x35 h kk) h fun x36 h =>
  vguard x30 true (fun kk => vload false 1 x36 h kk) h fun x37 h =>
  vguard x30 true (fun kk => vbin .eql 5 x33 x37 h kk) h fun x38 h =>
  vop O (.pick (.k x30) (.k x38) (.k (kB false))) h 39 fun x39 h =>
  vguard x39 true (fun kk => kk x25 h) h fun x41 h =>
  vguard x39 true (fun kk => vbin .eql 0 x41 (kI 0) h kk) h fun x42 h =>
  vguard x39 true (fun kk => kk x23 h) h fun x43 h =>
  vguard x39 true (fun kk => vlen O 2 x43 h 44 kk) h fun x44 h =>
  vguard x39 true (fun kk => vbin .eql 0 x44 (kI 1) h kk) h fun x45 h =>
  vguard x39 true (fun kk => vbin .eql 5 x42 x45 h kk) h fun x46 h =>
  vop O (.pick (.k x39) (.k x46) (.k (kB false))) h 47 fun x47 h =>
  tcomp x47 fun c0 => vfin true q [c0] h)
theorem e6_0 (O : Oracle) (R : Jump) (q : Nat) (x0 : TVal) (h : Heap) : b6_0 O R q x0 h = stepF c6 O R q 0 [x0] h := by kernel_rfl
noncomputable def d6 : BlkF := fun O R q => [.s fun y0 => .z fun h => b6_0 O R q y0 h]
theorem o6 (O : Oracle) (R : Jump) (q : Nat) : HoldsAll c6 O R q 0 (d6 O R q) := ⟨fun y0 h => e6_0 O R q y0 h, trivial⟩
/- sprue/spruelaw7.TreeBounds -/
def c7 : MFunc := { np := 2, res := [.t 4], frz := true, body := (.seq (.reg [⟨(some 4), (.mv (.k (.v (.c (.p (.bool false)))))), none⟩] []) (.seq (.seq (.reg [⟨(some 11), (.call (.k (.v (.c (.func 14 [])))) []), none⟩, ⟨(some 12), (.un .not (.t 11)), none⟩] []) (.cond (.t 12) (.seq (.reg [⟨(some 4), (.mv (.k (.v (.c (.p (.bool false)))))), none⟩] []) .ret) .skip)) (.seq (.reg [⟨(some 13), (.mv (.t 0)), none⟩, ⟨(some 14), (.call (.k (.v (.c (.func 15 [])))) [(.t 13), (.k (.v (.c (.p (.int .i64 4)))))]), none⟩, ⟨(some 0), (.mv (.t 14)), none⟩] []) (.seq (.reg [⟨(some 5), (.mv (.k (.v (.c (.p (.str [102])))))), none⟩, ⟨(some 6), (.mv (.k (.v (.c (.p (.int .i64 18)))))), none⟩] []) (.seq (.seq (.reg [⟨(some 15), (.mv (.t 1)), none⟩] []) (.cond (.t 15) (.seq (.reg [⟨(some 6), (.mv (.k (.v (.c (.p (.int .i64 13)))))), none⟩] []) (.seq (.reg [⟨(some 5), (.mv (.k (.v (.c (.p (.str [49])))))), none⟩] []) (.seq (.reg [⟨(some 7), (.mv (.k (.v (.c (.p (.int .i64 0)))))), none⟩] []) (.block 0 (.loop 1 [0, 5, 6, 7] (.seq (.seq (.reg [⟨(some 16), (.mv (.t 7)), none⟩, ⟨(some 17), (.mv (.t 0)), none⟩, ⟨(some 18), (.bin .add 0 (.k (.v (.c (.p (.int .i64 11))))) (.t 17)), none⟩, ⟨(some 19), (.bin .lss 0 (.t 16) (.t 18)), none⟩] []) (.cond (.t 19) .skip (.exit 0))) (.seq (.block 1 (.reg [⟨(some 22), (.mv (.t 5)), none⟩, ⟨(some 23), (.bin .add 0 (.k (.v (.c (.p (.str [40]))))) (.t 22)), none⟩, ⟨(some 24), (.bin .add 0 (.t 23) (.k (.v (.c (.p (.str [41])))))), none⟩, ⟨(some 5), (.mv (.t 24)), none⟩] [])) (.reg [⟨(some 20), (.mv (.t 7)), none⟩, ⟨(some 21), (.bin .add 0 (.t 20) (.k (.v (.c (.p (.int .i64 1)))))), none⟩, ⟨(some 7), (.mv (.t 21)), none⟩] [])))))))) (.seq (.reg [⟨(some 8), (.mv (.k (.v (.c (.p (.int .i64 0)))))), none⟩] []) (.block 2 (.loop 2 [0, 5, 6, 8] (.seq (.seq (.reg [⟨(some 25), (.mv (.t 8)), none⟩, ⟨(some 26), (.mv (.t 0)), none⟩, ⟨(some 27), (.bin .add 0 (.k (.v (.c (.p (.int .i64 3))))) (.t 26)), none⟩, ⟨(some 28), (.bin .lss 0 (.t 25) (.t 27)), none⟩] []) (.cond (.t 28) .skip (.exit 2))) (.seq (.block 3 (.reg [⟨(some 31), (.mv (.t 5)), none⟩, ⟨(some 32), (.bin .add 0 (.t 31) (.k (.v (.c (.p (.str [32, 46])))))), none⟩, ⟨(some 5), (.mv (.t 32)), none⟩] [])) (.reg [⟨(some 29), (.mv (.t 8)), none⟩, ⟨(some 30), (.bin .add 0 (.t 29) (.k (.v (.c (.p (.int .i64 1)))))), none⟩, ⟨(some 8), (.mv (.t 30)), none⟩] [])))))))) (.mark 3 [0, 5, 6] (.seq (.reg [⟨(some 34), (.mv (.t 5)), none⟩, ⟨(some 35), (.call (.k (.v (.c (.func 17 [])))) [(.t 34)]), none⟩, ⟨(some 33), (.mv (.t 35)), none⟩, ⟨(some 36), (.extract (.t 33) 0), none⟩, ⟨(some 37), (.extract (.t 33) 1), none⟩, ⟨(some 9), (.mv (.t 36)), none⟩, ⟨(some 10), (.mv (.t 37)), none⟩] []) (.seq (.reg [⟨(some 38), (.mv (.t 0)), none⟩, ⟨(some 39), (.bin .leq 0 (.t 38) (.k (.v (.c (.p (.int .i64 1)))))), none⟩, ⟨(some 40), (.mv (.t 39)), none⟩, ⟨(some 41), (.mv (.t 10)), (some (40, true))⟩, ⟨(some 42), (.bin .eql 0 (.t 41) (.k (.v (.c (.p (.int .i64 0)))))), (some (40, true))⟩, ⟨(some 43), (.pick (.t 40) (.t 42) (.k (.v (.c (.p (.bool false)))))), none⟩, ⟨(some 44), (.mv (.t 43)), none⟩, ⟨(some 45), (.mv (.t 9)), (some (44, true))⟩, ⟨(some 46), (.len 2 (.t 45)), (some (44, true))⟩, ⟨(some 47), (.bin .eql 0 (.t 46) (.k (.v (.c (.p (.int .i64 1)))))), (some (44, true))⟩, ⟨(some 48), (.pick (.t 44) (.t 47) (.k (.v (.c (.p (.bool false)))))), none⟩, ⟨(some 49), (.mv (.t 48)), none⟩, ⟨(some 50), (.mv (.t 0)), (some (49, false))⟩, ⟨(some 51), (.bin .gtr 0 (.t 50) (.k (.v (.c (.p (.int .i64 1)))))), (some (49, false))⟩, ⟨(some 52), (.mv (.t 51)), (some (49, false))⟩, ⟨(some 53), (.mv (.t 10)), (some (52, true))⟩, ⟨(some 54), (.mv (.t 6)), (some (52, true))⟩, ⟨(some 55), (.bin .eql 0 (.t 53) (.t 54)), (some (52, true))⟩, ⟨(some 56), (.pick (.t 52) (.t 55) (.k (.v (.c (.p (.bool false)))))), (some (49, false))⟩, ⟨(some 57), (.pick (.t 49) (.k (.v (.c (.p (.bool true))))) (.t 56)), none⟩, ⟨(some 4), (.mv (.t 57)), none⟩] []) .ret)))))))) }
theorem t7 : compF Tryd.prog (globs2 tabs opq) false true Tryd.f7 = some c7.erase := by kernel_rfl
noncomputable def b7_0 (O : Oracle) (R : Jump) (q : Nat) (x0 x1 : TVal) (h : Heap) : Res1 :=
  vcall O (.v (.c (.func 14 []))) [] h 11 fun x11 h =>
  vop O (.un .not (.k x11)) h 12 fun x12 h =>
  vif x12 (
  tcomp (kB false) fun c0 => vfin true q [c0] h)
  (vcall O (.v (.c (.func 15 []))) [x0, (kI 4)] h 14 fun x14 h =>
  vif x1 (
  R 1 [x14, (kS [49]), (kI 13), (kI 0)] h)
  (R 2 [x14, (kS [102]), (kI 18), (kI 0)] h))
theorem e7_0 (O : Oracle) (R : Jump) (q : Nat) (x0 x1 : TVal) (h : Heap) : b7_0 O R q x0 x1 h = stepF c7 O R q 0 [x0, x1] h := by kernel_rfl
noncomputable def b7_1 (O : Oracle) (R : Jump) (q : Nat) (x0 x5 x6 x7 : TVal) (h : Heap) : Res1 :=
  vbin .add 0 (kI 11) x0 h fun x18 h =>
  vbin .lss 0 x7 x18 h fun x19 h =>
  vif x19 (
  vbin .add 0 (kS [40]) x5 h fun x23 h =>
  vbin .add 0 x23 (kS [41]) h fun x24 h =>
  vbin .add 0 x7 (kI 1) h fun x21 h =>
  R 1 [x0, x24, x6, x21] h)
  (R 3 [x0, x5, x6] h)
theorem e7_1 (O : Oracle) (R : Jump) (q : Nat) (x0 x5 x6 x7 : TVal) (h : Heap) : b7_1 O R q x0 x5 x6 x7 h = stepF c7 O R q 1 [x0, x5, x6, x7] h := by kernel_rfl
noncomputable def b7_2 (O : Oracle) (R : Jump) (q : Nat) (x0 x5 x6 x8 : TVal) (h : Heap) : Res1 :=
  vbin .add 0 (kI 3) x0 h fun x27 h =>
  vbin .lss 0 x8 x27 h fun x28 h =>
  vif x28 (
  vbin .add 0 x5 (kS [32, 46]) h fun x32 h =>
  vbin .add 0 x8 (kI 1) h fun x30 h =>
  R 2 [x0, x32, x6, x30] h)
  (R 3 [x0, x5, x6] h)
theorem e7_2 (O : Oracle) (R : Jump) (q : Nat) (x0 x5 x6 x8 : TVal) (h : Heap) : b7_2 O R q x0 x5 x6 x8 h = stepF c7 O R q 2 [x0, x5, x6, x8] h := by kernel_rfl
noncomputable def b7_3 (O : Oracle) (R : Jump) (q : Nat) (x0 x5 x6 : TVal) (h : Heap) : Res1 :=
  vcall O (.v (.c (.func 17 []))) [x5] h 35 fun x35 h =>
  vext x35 0 h fun x36 h =>
  vext x35 1 h fun x37 h =>
  vbin .leq 0 x0 (kI 1) h fun x39 h =>
  vguard x39 true (fun kk => kk x37 h) h fun x41 h =>
  vguard x39 true (fun kk => vbin .eql 0 x41 (kI 0) h kk) h fun x42 h =>
  vop O (.pick (.k x39) (.k x42) (.k (kB false))) h 43 fun x43 h =>
  vguard x43 true (fun kk => kk x36 h) h fun x45 h =>
  vguard x43 true (fun kk => vlen O 2 x45 h 46 kk) h fun x46 h =>
  vguard x43 true (fun kk => vbin .eql 0 x46 (kI 1) h kk) h fun x47 h =>
  vop O (.pick (.k x43) (.k x47) (.k (kB false))) h 48 fun x48 h =>
  vguard x48 false (fun kk => kk x0 h) h fun x50 h =>
  vguard x48 false (fun kk => vbin .gtr 0 x50 (kI 1) h kk) h fun x51 h =>
  vguard x48 false (fun kk => kk x51 h) h fun x52 h =>
  vguard x52 true (fun kk => kk x37 h) h fun x53 h =>
  vguard x52 true (fun kk => kk x6 h) h fun x54 h =>
  vguard x52 true (fun kk => vbin .eql 0 x53 x54 h kk) h fun x55 h =>
  vguard x48 false (fun kk => vop O (.pick (.k x52) (.k x55) (.k (kB false))) h 56 kk) h fun x56 h =>
  vop O (.pick (.k x48) (.k (kB true)) (.k x56)) h 57 fun x57 h =>
  tcomp x57 fun c0 => vfin true q [c0] h
theorem e7_3 (O : Oracle) (R : Jump) (q : Nat) (x0 x5 x6 : TVal) (h : Heap) : b7_3 O R q x0 x5 x6 h = stepF c7 O R q 3 [x0, x5, x6] h := by kernel_rfl
noncomputable def d7 : BlkF := fun O R q => [.s fun y0 => .s fun y1 => .z fun h => b7_0 O R q y0 y1 h, .s fun y0 => .s fun y1 => .s fun y2 => .s fun y3 => .z fun h => b7_1 O R q y0 y1 y2 y3 h, .s fun y0 => .s fun y1 => .s fun y2 => .s fun y3 => .z fun h => b7_2 O R q y0 y1 y2 y3 h, .s fun y0 => .s fun y1 => .s fun y2 => .z fun h => b7_3 O R q y0 y1 y2 h]
theorem o7 (O : Oracle) (R : Jump) (q : Nat) : HoldsAll c7 O R q 0 (d7 O R q) := ⟨fun y0 y1 h => e7_0 O R q y0 y1 h, fun y0 y1 y2 y3 h => e7_1 O R q y0 y1 y2 y3 h, fun y0 y1 y2 y3 h => e7_2 O R q y0 y1 y2 y3 h, fun y0 y1 y2 h => e7_3 O R q y0 y1 y2 h, trivial⟩
/- sprue/spruelaw7.TreePaths -/
def c8 : MFunc := { np := 4, res := [.t 8], frz := true, body := (.seq (.reg [⟨(some 8), (.mv (.k (.v (.c (.p (.bool false)))))), none⟩] []) (.seq (.seq (.reg [⟨(some 19), (.call (.k (.v (.c (.func 14 [])))) []), none⟩, ⟨(some 20), (.un .not (.t 19)), none⟩] []) (.cond (.t 20) (.seq (.reg [⟨(some 8), (.mv (.k (.v (.c (.p (.bool false)))))), none⟩] []) .ret) .skip)) (.seq (.reg [⟨(some 21), (.mv (.t 0)), none⟩, ⟨(some 22), (.call (.k (.v (.c (.func 15 [])))) [(.t 21), (.k (.v (.c (.p (.int .i64 4)))))]), none⟩, ⟨(some 23), (.bin .add 0 (.k (.v (.c (.p (.int .i64 1))))) (.t 22)), none⟩, ⟨(some 24), (.mv (.t 1)), none⟩, ⟨(some 25), (.call (.k (.v (.c (.func 15 [])))) [(.t 24), (.k (.v (.c (.p (.int .i64 4)))))]), none⟩, ⟨(some 26), (.bin .add 0 (.k (.v (.c (.p (.int .i64 1))))) (.t 25)), none⟩, ⟨(some 0), (.mv (.t 23)), none⟩, ⟨(some 1), (.mv (.t 26)), none⟩] []) (.seq (.reg [⟨(some 9), (.mv (.k (.v (.c (.p (.str [])))))), none⟩, ⟨(some 10), (.mv (.k (.v (.c (.p (.str [])))))), none⟩] []) (.seq (.seq (.reg [⟨(some 11), (.mv (.k (.v (.c (.p (.int .i64 0)))))), none⟩] []) (.block 0 (.loop 1 [0, 1, 2, 3, 9, 10, 11] (.seq (.seq (.reg [⟨(some 27), (.mv (.t 11)), none⟩, ⟨(some 28), (.mv (.t 0)), none⟩, ⟨(some 29), (.bin .lss 0 (.t 27) (.t 28)), none⟩] []) (.cond (.t 29) .skip (.exit 0))) (.seq (.block 1 (.reg [⟨(some 32), (.mv (.t 9)), none⟩, ⟨(some 33), (.bin .add 0 (.t 32) (.k (.v (.c (.p (.str [46])))))), none⟩, ⟨(some 34), (.mv (.t 11)), none⟩, ⟨(some 35), (.bin .add 0 (.k (.v (.c (.p (.int .i64 97))))) (.t 34)), none⟩, ⟨(some 36), (.toInt .u8 (.t 35)), none⟩, ⟨(some 37), (.bslice 1 1 [(.p (.int .u8 0))] [(0, (.t 36))] false), none⟩, ⟨(some 38), (.toStr (.t 37)), none⟩, ⟨(some 39), (.bin .add 0 (.t 33) (.t 38)), none⟩, ⟨(some 9), (.mv (.t 39)), none⟩] [])) (.reg [⟨(some 30), (.mv (.t 11)), none⟩, ⟨(some 31), (.bin .add 0 (.t 30) (.k (.v (.c (.p (.int .i64 1)))))), none⟩, ⟨(some 11), (.mv (.t 31)), none⟩] [])))))) (.mark 2 [0, 1, 2, 3, 9, 10] (.seq (.seq (.reg [⟨(some 12), (.mv (.k (.v (.c (.p (.int .i64 0)))))), none⟩] []) (.block 2 (.loop 3 [0, 1, 2, 3, 9, 10, 12] (.seq (.seq (.reg [⟨(some 40), (.mv (.t 12)), none⟩, ⟨(some 41), (.mv (.t 1)), none⟩, ⟨(some 42), (.bin .lss 0 (.t 40) (.t 41)), none⟩] []) (.cond (.t 42) .skip (.exit 2))) (.seq (.block 3 (.reg [⟨(some 45), (.mv (.t 10)), none⟩, ⟨(some 46), (.bin .add 0 (.t 45) (.k (.v (.c (.p (.str [46])))))), none⟩, ⟨(some 47), (.mv (.t 12)), none⟩, ⟨(some 48), (.bin .add 0 (.k (.v (.c (.p (.int .i64 112))))) (.t 47)), none⟩, ⟨(some 49), (.toInt .u8 (.t 48)), none⟩, ⟨(some 50), (.bslice 1 1 [(.p (.int .u8 0))] [(0, (.t 49))] false), none⟩, ⟨(some 51), (.toStr (.t 50)), none⟩, ⟨(some 52), (.bin .add 0 (.t 46) (.t 51)), none⟩, ⟨(some 10), (.mv (.t 52)), none⟩] [])) (.reg [⟨(some 43), (.mv (.t 12)), none⟩, ⟨(some 44), (.bin .add 0 (.t 43) (.k (.v (.c (.p (.int .i64 1)))))), none⟩, ⟨(some 12), (.mv (.t 44)), none⟩] [])))))) (.mark 4 [0, 1, 2, 3, 9, 10] (.seq (.reg [⟨(some 13), (.mv (.k (.v (.c (.p (.int .i64 2)))))), none⟩] []) (.seq (.seq (.reg [⟨(some 53), (.mv (.t 2)), none⟩] []) (.cond (.t 53) (.reg [⟨(some 54), (.mv (.t 9)), none⟩, ⟨(some 55), (.bin .add 0 (.k (.v (.c (.p (.str [36, 118]))))) (.t 54)), none⟩, ⟨(some 9), (.mv (.t 55)), none⟩] []) .skip)) (.mark 5 [0, 1, 2, 3, 9, 10, 13] (.seq (.seq (.reg [⟨(some 56), (.mv (.t 3)), none⟩, ⟨(some 57), (.call (.k (.v (.c (.func 15 [])))) [(.t 56), (.k (.v (.c (.p (.int .i64 4)))))]), none⟩] []) (.block 4 (.seq (.reg [⟨(some 63), (.bin .eql 0 (.t 57) (.k (.v (.c (.p (.int .i64 1)))))), none⟩, ⟨(some 62), (.mv (.t 63)), none⟩] []) (.cond (.t 62) (.reg [⟨(some 64), (.mv (.t 9)), none⟩, ⟨(some 65), (.mv (.t 10)), none⟩, ⟨(some 66), (.bin .add 0 (.t 64) (.t 65)), none⟩, ⟨(some 9), (.mv (.t 66)), none⟩, ⟨(some 13), (.mv (.k (.v (.c (.p (.int .i64 1)))))), none⟩] []) (.seq (.reg [⟨(some 68), (.bin .eql 0 (.t 57) (.k (.v (.c (.p (.int .i64 2)))))), none⟩, ⟨(some 67), (.mv (.t 68)), none⟩] []) (.cond (.t 67) (.reg [⟨(some 69), (.mv (.t 9)), none⟩, ⟨(some 70), (.bin .add 0 (.t 69) (.k (.v (.c (.p (.str [32])))))), none⟩, ⟨(some 71), (.mv (.t 10)), none⟩, ⟨(some 72), (.bin .add 0 (.t 70) (.t 71)), none⟩, ⟨(some 9), (.mv (.t 72)), none⟩] []) (.seq (.reg [⟨(some 74), (.bin .eql 0 (.t 57) (.k (.v (.c (.p (.int .i64 3)))))), none⟩, ⟨(some 73), (.mv (.t 74)), none⟩] []) (.cond (.t 73) (.reg [⟨(some 75), (.mv (.t 9)), none⟩, ⟨(some 76), (.bin .add 0 (.t 75) (.k (.v (.c (.p (.str [10, 9])))))), none⟩, ⟨(some 77), (.mv (.t 10)), none⟩, ⟨(some 78), (.bin .add 0 (.t 76) (.t 77)), none⟩, ⟨(some 9), (.mv (.t 78)), none⟩] []) (.reg [⟨(some 58), (.mv (.t 9)), none⟩, ⟨(some 59), (.bin .add 0 (.t 58) (.k (.v (.c (.p (.str [32, 32])))))), none⟩, ⟨(some 60), (.mv (.t 10)), none⟩, ⟨(some 61), (.bin .add 0 (.t 59) (.t 60)), none⟩, ⟨(some 9), (.mv (.t 61)), none⟩] []))))))))) (.mark 6 [0, 1, 2, 9, 13] (.seq (.reg [⟨(some 80), (.mv (.t 9)), none⟩, ⟨(some 81), (.bin .add 0 (.k (.v (.c (.p (.str [102, 32]))))) (.t 80)), none⟩, ⟨(some 82), (.call (.k (.v (.c (.func 17 [])))) [(.t 81)]), none⟩, ⟨(some 79), (.mv (.t 82)), none⟩, ⟨(some 83), (.extract (.t 79) 0), none⟩, ⟨(some 84), (.extract (.t 79) 1), none⟩, ⟨(some 14), (.mv (.t 83)), none⟩, ⟨(some 15), (.mv (.t 84)), none⟩] []) (.seq (.seq (.reg [⟨(some 85), (.mv (.t 15)), none⟩, ⟨(some 86), (.bin .neq 0 (.t 85) (.k (.v (.c (.p (.int .i64 0)))))), none⟩, ⟨(some 87), (.mv (.t 86)), none⟩, ⟨(some 88), (.mv (.t 14)), (some (87, false))⟩, ⟨(some 89), (.len 2 (.t 88)), (some (87, false))⟩, ⟨(some 90), (.bin .neq 0 (.t 89) (.k (.v (.c (.p (.int .i64 1)))))), (some (87, false))⟩, ⟨(some 91), (.pick (.t 87) (.k (.v (.c (.p (.bool true))))) (.t 90)), none⟩, ⟨(some 92), (.mv (.t 91)), none⟩, ⟨(some 93), (.mv (.t 14)), (some (92, false))⟩, ⟨(some 94), (.iaddr 1 (.t 93) (.k (.v (.c (.p (.int .i64 0)))))), (some (92, false))⟩, ⟨(some 95), (.faddr 0 (.t 94)), (some (92, false))⟩, ⟨(some 96), (.load false 1 (.t 95)), (some (92, false))⟩, ⟨(some 97), (.len 2 (.t 96)), (some (92, false))⟩, ⟨(some 98), (.mv (.t 13)), (some (92, false))⟩, ⟨(some 99), (.bin .add 0 (.t 98) (.k (.v (.c (.p (.int .i64 1)))))), (some (92, false))⟩, ⟨(some 100), (.bin .neq 0 (.t 97) (.t 99)), (some (92, false))⟩, ⟨(some 101), (.pick (.t 92) (.k (.v (.c (.p (.bool true))))) (.t 100)), none⟩] []) (.cond (.t 101) (.seq (.reg [⟨(some 8), (.mv (.k (.v (.c (.p (.bool false)))))), none⟩] []) .ret) .skip)) (.seq (.reg [⟨(some 102), (.mv (.t 14)), none⟩, ⟨(some 103), (.iaddr 1 (.t 102) (.k (.v (.c (.p (.int .i64 0)))))), none⟩, ⟨(some 104), (.faddr 0 (.t 103)), none⟩, ⟨(some 105), (.load false 1 (.t 104)), none⟩, ⟨(some 106), (.iaddr 7 (.t 105) (.k (.v (.c (.p (.int .i64 1)))))), none⟩, ⟨(some 107), (.load true 7 (.t 106)), none⟩, ⟨(some 16), (.alloc [(.p (.int .i64 0)), (.p (.str [])), (.p .nilslice), (.p (.str [])), (.p (.int .i64 0)), (.p (.bool false)), (.p .nilslice)] false), none⟩, ⟨none, (.store 7 (.t 16) (.t 107)), none⟩] []) (.seq (.seq (.reg [⟨(some 108), (.mv (.t 13)), none⟩, ⟨(some 109), (.bin .eql 0 (.t 108) (.k (.v (.c (.p (.int .i64 1)))))), none⟩] []) (.cond (.t 109) (.seq (.reg [⟨(some 110), (.faddr 2 (.t 16)), none⟩, ⟨(some 111), (.load false 1 (.t 110)), none⟩, ⟨(some 112), (.len 2 (.t 111)), none⟩, ⟨(some 113), (.mv (.t 0)), none⟩, ⟨(some 114), (.mv (.t 1)), none⟩, ⟨(some 115), (.bin .add 0 (.t 113) (.t 114)), none⟩, ⟨(some 116), (.bin .eql 0 (.t 112) (.t 115)), none⟩, ⟨(some 117), (.mv (.t 116)), none⟩, ⟨(some 118), (.faddr 1 (.t 16)), (some (117, true))⟩, ⟨(some 119), (.load false 1 (.t 118)), (some (117, true))⟩, ⟨(some 120), (.bin .eql 0 (.t 119) (.k (.v (.c (.p (.str [118])))))), (some (117, true))⟩, ⟨(some 121), (.mv (.t 2)), (some (117, true))⟩, ⟨(some 122), (.bin .eql 5 (.t 120) (.t 121)), (some (117, true))⟩, ⟨(some 123), (.pick (.t 117) (.t 122) (.k (.v (.c (.p (.bool false)))))), none⟩, ⟨(some 8), (.mv (.t 123)), none⟩] []) .ret) .skip)) (.seq (.reg [⟨(some 125), (.call (.k (.v (.c (.func 17 [])))) [(.k (.v (.c (.p (.str [46, 32, 97])))))]), none⟩, ⟨(some 124), (.mv (.t 125)), none⟩, ⟨(some 126), (.extract (.t 124) 0), none⟩, ⟨(some 127), (.extract (.t 124) 1), none⟩, ⟨(some 17), (.mv (.t 126)), none⟩, ⟨(some 18), (.mv (.t 127)), none⟩] []) (.seq (.reg [⟨(some 128), (.faddr 2 (.t 16)), none⟩, ⟨(some 129), (.load false 1 (.t 128)), none⟩, ⟨(some 130), (.len 2 (.t 129)), none⟩, ⟨(some 131), (.mv (.t 0)), none⟩, ⟨(some 132), (.bin .eql 0 (.t 130) (.t 131)), none⟩, ⟨(some 133), (.mv (.t 132)), none⟩, ⟨(some 134), (.faddr 1 (.t 16)), (some (133, true))⟩, ⟨(some 135), (.load false 1 (.t 134)), (some (133, true))⟩, ⟨(some 136), (.bin .eql 0 (.t 135) (.k (.v (.c (.p (.str [118])))))), (some (133, true))⟩, ⟨(some 137), (.mv (.t 2)), (some (133, true))⟩, ⟨(some 138), (.bin .eql 5 (.t 136) (.t 137)), (some (133, true))⟩, ⟨(some 139), (.pick (.t 133) (.t 138) (.k (.v (.c (.p (.bool false)))))), none⟩, ⟨(some 140), (.mv (.t 139)), none⟩, ⟨(some 141), (.mv (.t 14)), (some (140, true))⟩, ⟨(some 142), (.iaddr 1 (.t 141) (.k (.v (.c (.p (.int .i64 0)))))), (some (140, true))⟩, ⟨(some 143), (.faddr 0 (.t 142)), (some (140, true))⟩, ⟨(some 144), (.load false 1 (.t 143)), (some (140, true))⟩, ⟨(some 145), (.iaddr 7 (.t 144) (.k (.v (.c (.p (.int .i64 2)))))), (some (140, true))⟩, ⟨(some 146), (.faddr 2 (.t 145)), (some (140, true))⟩, ⟨(some 147), (.load false 1 (.t 146)), (some (140, true))⟩, ⟨(some 148), (.len 2 (.t 147)), (some (140, true))⟩, ⟨(some 149), (.mv (.t 1)), (some (140, true))⟩, ⟨(some 150), (.bin .eql 0 (.t 148) (.t 149)), (some (140, true))⟩, ⟨(some 151), (.pick (.t 140) (.t 150) (.k (.v (.c (.p (.bool false)))))), none⟩, ⟨(some 152), (.mv (.t 151)), none⟩, ⟨(some 153), (.mv (.t 14)), (some (152, true))⟩, ⟨(some 154), (.iaddr 1 (.t 153) (.k (.v (.c (.p (.int .i64 0)))))), (some (152, true))⟩, ⟨(some 155), (.faddr 0 (.t 154)), (some (152, true))⟩, ⟨(some 156), (.load false 1 (.t 155)), (some (152, true))⟩, ⟨(some 157), (.iaddr 7 (.t 156) (.k (.v (.c (.p (.int .i64 2)))))), (some (152, true))⟩, ⟨(some 158), (.faddr 1 (.t 157)), (some (152, true))⟩, ⟨(some 159), (.load false 1 (.t 158)), (some (152, true))⟩, ⟨(some 160), (.bin .eql 0 (.t 159) (.k (.v (.c (.p (.str [])))))), (some (152, true))⟩, ⟨(some 161), (.pick (.t 152) (.t 160) (.k (.v (.c (.p (.bool false)))))), none⟩, ⟨(some 162), (.mv (.t 161)), none⟩, ⟨(some 163), (.mv (.t 18)), (some (162, true))⟩, ⟨(some 164), (.bin .eql 0 (.t 163) (.k (.v (.c (.p (.int .i64 12)))))), (some (162, true))⟩, ⟨(some 165), (.pick (.t 162) (.t 164) (.k (.v (.c (.p (.bool false)))))), none⟩, ⟨(some 8), (.mv (.t 165)), none⟩] []) .ret))))))))))))))))))) }
theorem t8 : compF Tryd.prog (globs2 tabs opq) false true Tryd.f8 = some c8.erase := by kernel_rfl
noncomputable def b8_0 (O : Oracle) (R : Jump) (q : Nat) (x0 x1 x2 x3 : TVal) (h : Heap) : Res1 :=
  vcall O (.v (.c (.func 14 []))) [] h 19 fun x19 h =>
  vop O (.un .not (.k x19)) h 20 fun x20 h =>
  vif x20 (
  tcomp (kB false) fun c0 => vfin true q [c0] h)
  (vcall O (.v (.c (.func 15 []))) [x0, (kI 4)] h 22 fun x22 h =>
  vbin .add 0 (kI 1) x22 h fun x23 h =>
  vcall O (.v (.c (.func 15 []))) [x1, (kI 4)] h 25 fun x25 h =>
  vbin .add 0 (kI 1) x25 h fun x26 h =>
  R 1 [x23, x26, x2, x3, (kS []), (kS []), (kI 0)] h)
theorem e8_0 (O : Oracle) (R : Jump) (q : Nat) (x0 x1 x2 x3 : TVal) (h : Heap) : b8_0 O R q x0 x1 x2 x3 h = stepF c8 O R q 0 [x0, x1, x2, x3] h := by kernel_rfl
noncomputable def b8_1 (O : Oracle) (R : Jump) (q : Nat) (x0 x1 x2 x3 x9 x10 x11 : TVal) (h : Heap) : Res1 :=
  vbin .lss 0 x11 x0 h fun x29 h =>
  vif x29 (
  vbin .add 0 x9 (kS [46]) h fun x33 h =>
  vbin .add 0 (kI 97) x11 h fun x35 h =>
  vtoInt .u8 x35 h fun x36 h =>
  vop O (.bslice 1 1 [(.p (.int .u8 0))] [(0, (.k x36))] false) h 37 fun x37 h =>
  vop O (.toStr (.k x37)) h 38 fun x38 h =>
  vbin .add 0 x33 x38 h fun x39 h =>
  vbin .add 0 x11 (kI 1) h fun x31 h =>
  R 1 [x0, x1, x2, x3, x39, x10, x31] h)
  (R 2 [x0, x1, x2, x3, x9, x10] h)
theorem e8_1 (O : Oracle) (R : Jump) (q : Nat) (x0 x1 x2 x3 x9 x10 x11 : TVal) (h : Heap) : b8_1 O R q x0 x1 x2 x3 x9 x10 x11 h = stepF c8 O R q 1 [x0, x1, x2, x3, x9, x10, x11] h := by kernel_rfl
noncomputable def b8_2 (O : Oracle) (R : Jump) (q : Nat) (x0 x1 x2 x3 x9 x10 : TVal) (h : Heap) : Res1 :=
  R 3 [x0, x1, x2, x3, x9, x10, (kI 0)] h
theorem e8_2 (O : Oracle) (R : Jump) (q : Nat) (x0 x1 x2 x3 x9 x10 : TVal) (h : Heap) : b8_2 O R q x0 x1 x2 x3 x9 x10 h = stepF c8 O R q 2 [x0, x1, x2, x3, x9, x10] h := by kernel_rfl
noncomputable def b8_3 (O : Oracle) (R : Jump) (q : Nat) (x0 x1 x2 x3 x9 x10 x12 : TVal) (h : Heap) : Res1 :=
  vbin .lss 0 x12 x1 h fun x42 h =>
  vif x42 (
  vbin .add 0 x10 (kS [46]) h fun x46 h =>
  vbin .add 0 (kI 112) x12 h fun x48 h =>
  vtoInt .u8 x48 h fun x49 h =>
  vop O (.bslice 1 1 [(.p (.int .u8 0))] [(0, (.k x49))] false) h 50 fun x50 h =>
  vop O (.toStr (.k x50)) h 51 fun x51 h =>
  vbin .add 0 x46 x51 h fun x52 h =>
  vbin .add 0 x12 (kI 1) h fun x44 h =>
  R 3 [x0, x1, x2, x3, x9, x52, x44] h)
  (R 4 [x0, x1, x2, x3, x9, x10] h)
theorem e8_3 (O : Oracle) (R : Jump) (q : Nat) (x0 x1 x2 x3 x9 x10 x12 : TVal) (h : Heap) : b8_3 O R q x0 x1 x2 x3 x9 x10 x12 h = stepF c8 O R q 3 [x0, x1, x2, x3, x9, x10, x12] h := by kernel_rfl
noncomputable def b8_4 (O : Oracle) (R : Jump) (q : Nat) (x0 x1 x2 x3 x9 x10 : TVal) (h : Heap) : Res1 :=
  vif x2 (
  vbin .add 0 (kS [36, 118]) x9 h fun x55 h =>
  R 5 [x0, x1, x2, x3, x55, x10, (kI 2)] h)
  (R 5 [x0, x1, x2, x3, x9, x10, (kI 2)] h)
theorem e8_4 (O : Oracle) (R : Jump) (q : Nat) (x0 x1 x2 x3 x9 x10 : TVal) (h : Heap) : b8_4 O R q x0 x1 x2 x3 x9 x10 h = stepF c8 O R q 4 [x0, x1, x2, x3, x9, x10] h := by kernel_rfl
noncomputable def b8_5 (O : Oracle) (R : Jump) (q : Nat) (x0 x1 x2 x3 x9 x10 x13 : TVal) (h : Heap) : Res1 :=
  vcall O (.v (.c (.func 15 []))) [x3, (kI 4)] h 57 fun x57 h =>
  vbin .eql 0 x57 (kI 1) h fun x63 h =>
  vif x63 (
  vbin .add 0 x9 x10 h fun x66 h =>
  R 6 [x0, x1, x2, x66, (kI 1)] h)
  (vbin .eql 0 x57 (kI 2) h fun x68 h =>
  vif x68 (
  vbin .add 0 x9 (kS [32]) h fun x70 h =>
  vbin .add 0 x70 x10 h fun x72 h =>
  R 6 [x0, x1, x2, x72, x13] h)
  (vbin .eql 0 x57 (kI 3) h fun x74 h =>
  vif x74 (
  vbin .add 0 x9 (kS [10, 9]) h fun x76 h =>
  vbin .add 0 x76 x10 h fun x78 h =>
  R 6 [x0, x1, x2, x78, x13] h)
  (vbin .add 0 x9 (kS [32, 32]) h fun x59 h =>
  vbin .add 0 x59 x10 h fun x61 h =>
  R 6 [x0, x1, x2, x61, x13] h)))
theorem e8_5 (O : Oracle) (R : Jump) (q : Nat) (x0 x1 x2 x3 x9 x10 x13 : TVal) (h : Heap) : b8_5 O R q x0 x1 x2 x3 x9 x10 x13 h = stepF c8 O R q 5 [x0, x1, x2, x3, x9, x10, x13] h := by kernel_rfl
noncomputable def b8_6 (O : Oracle) (R : Jump) (q : Nat) (x0 x1 x2 x9 x13 : TVal) (h : Heap) : Res1 :=
  vbin .add 0 (kS [102, 32]) x9 h fun x81 h =>
  vcall O (.v (.c (.func 17 []))) [x81] h 82 fun x82 h =>
  vext x82 0 h fun x83 h =>
  vext x82 1 h fun x84 h =>
  vbin .neq 0 x84 (kI 0) h fun x86 h =>
  vguard x86 false (fun kk => kk x83 h) h fun x88 h =>
  vguard x86 false (fun kk => vlen O 2 x88 h 89 kk) h fun x89 h =>
  vguard x86 false (fun kk => vbin .neq 0 x89 (kI 1) h kk) h fun x90 h =>
  vop O (.pick (.k x86) (.k (kB true)) (.k x90)) h 91 fun x91 h =>
  vguard x91 false (fun kk => kk x83 h) h fun x93 h =>
  vguard x91 false (fun kk => viaddr 1 x93 (kI 0) h kk) h fun x94 h =>
  vguard x91 false (fun kk => vfaddr 0 x94 h kk) h fun x95 h =>
  vguard x91 false (fun kk => vload false 1 x95 h kk) h fun x96 h =>
  vguard x91 false (fun kk => vlen O 2 x96 h 97 kk) h fun x97 h =>
  vguard x91 false (fun kk => kk x13 h) h fun x98 h =>
  vguard x91 false (fun kk => vbin .add 0 x98 (kI 1) h kk) h fun x99 h =>
  vguard x91 false (fun kk => vbin .neq 0 x97 x99 h kk) h fun x100 h =>
  vop O (.pick (.k x91) (.k (kB true)) (.k x100)) h 101 fun x101 h =>
  vif x101 (
  tcomp (kB false) fun c0 => vfin true q [c0] h)
  (viaddr 1 x83 (kI 0) h fun x103 h =>
  vfaddr 0 x103 h fun x104 h =>
  vload false 1 x104 h fun x105 h =>
  viaddr 7 x105 (kI 1) h fun x106 h =>
  vload true 7 x106 h fun x107 h =>
  vop O (.alloc [(.p (.int .i64 0)), (.p (.str [])), (.p .nilslice), (.p (.str [])), (.p (.int .i64 0)), (.p (.bool false)), (.p .nilslice)] false) h 16 fun x16 h =>
  vstore 7 x16 x107 h fun _ h =>
  vbin .eql 0 x13 (kI 1) h fun x109 h =>
  vif x109 (
  vfaddr 2 x16 h fun x110 h =>
  vload false 1 x110 h fun x111 h =>
  vlen O 2 x111 h 112 fun x112 h =>
  vbin .add 0 x0 x1 h fun x115 h =>
  vbin .eql 0 x112 x115 h fun x116 h =>
  vguard x116 true (fun kk => vfaddr 1 x16 h kk) h fun x118 h =>
  vguard x116 true (fun kk => vload false 1 x118 h kk) h fun x119 h =>
  vguard x116 true (fun kk => vbin .eql 0 x119 (kS [118]) h kk) h fun x120 h =>
  vguard x116 true (fun kk => kk x2 h) h fun x121 h =>
  vguard x116 true (fun kk => vbin .eql 5 x120 x121 h kk) h fun x122 h =>
  vop O (.pick (.k x116) (.k x122) (.k (kB false))) h 123 fun x123 h =>
  tcomp x123 fun c0 => vfin true q [c0] h)
  (vcall O (.v (.c (.func 17 []))) [(kS [46, 32, 97])] h 125 fun x125 h =>
  vext x125 0 h fun x126 h =>
  vext x125 1 h fun x127 h =>
  vfaddr 2 x16 h fun x128 h =>
  vload false 1 x128 h fun x129 h =>
  vlen O 2 x129 h 130 fun x130 h =>
  vbin .eql 0 x130 x0 h fun x132 h =>
  vguard x132 true (fun kk => vfaddr 1 x16 h kk) h fun x134 h =>
  vguard x132 true (fun kk => vload false 1 x134 h kk) h fun x135 h =>
  vguard x132 true (fun kk => vbin .eql 0 x135 (kS [118]) h kk) h fun x136 h =>
  vguard x132 true (fun kk => kk x2 h) h fun x137 h =>
  vguard x132 true (fun kk => vbin .eql 5 x136 x137 h kk) h fun x138 h =>
  vop O (.pick (.k x132) (.k x138) (.k (kB false))) h 139 fun x139 h =>
  vguard x139 true (fun kk => kk x83 h) h fun x141 h =>
  vguard x139 true (fun kk => viaddr 1 x141 (kI 0) h kk) h fun x142 h =>
  vguard x139 true (fun kk => vfaddr 0 x142 h kk) h fun x143 h =>
  vguard x139 true (fun kk => vload false 1 x143 h kk) h fun x144 h =>
  vguard x139 true (fun kk => viaddr 7 x144 (kI 2) h kk) h fun x145 h =>
  vguard x139 true (fun kk => vfaddr 2 x145 h kk) h fun x146 h =>
  vguard x139 true (fun kk => vload false 1 x146 h kk) h fun x147 h =>
  vguard x139 true (fun kk => vlen O 2 x147 h 148 kk) h fun x148 h =>
  vguard x139 true (fun kk => kk x1 h) h fun x149 h =>
  vguard x139 true (fun kk => vbin .eql 0 x148 x149 h kk) h fun x150 h =>
  vop O (.pick (.k x139) (.k x150) (.k (kB false))) h 151 fun x151 h =>
  vguard x151 true (fun kk => kk x83 h) h fun x153 h =>
  vguard x151 true (fun kk => viaddr 1 x153 (kI 0) h kk) h fun x154 h =>
  vguard x151 true (fun kk => vfaddr 0 x154 h kk) h fun x155 h =>
  vguard x151 true (fun kk => vload false 1 x155 h kk) h fun x156 h =>
  vguard x151 true (fun kk => viaddr 7 x156 (kI 2) h kk) h fun x157 h =>
  vguard x151 true (fun kk => vfaddr 1 x157 h kk) h fun x158 h =>
  vguard x151 true (fun kk => vload false 1 x158 h kk) h fun x159 h =>
  vguard x151 true (fun kk => vbin .eql 0 x159 (kS []) h kk) h fun x160 h =>
  vop O (.pick (.k x151) (.k x160) (.k (kB false))) h 161 fun x161 h =>
  vguard x161 true (fun kk => kk x127 h) h fun x163 h =>
  vguard x161 true (fun kk => vbin .eql 0 x163 (kI 12) h kk) h fun x164 h =>
  vop O (.pick (.k x161) (.k x164) (.k (kB false))) h 165 fun x165 h =>
  tcomp x165 fun c0 => vfin true q [c0] h))
theorem e8_6 (O : Oracle) (R : Jump) (q : Nat) (x0 x1 x2 x9 x13 : TVal) (h : Heap) : b8_6 O R q x0 x1 x2 x9 x13 h = stepF c8 O R q 6 [x0, x1, x2, x9, x13] h := by kernel_rfl
noncomputable def d8 : BlkF := fun O R q => [.s fun y0 => .s fun y1 => .s fun y2 => .s fun y3 => .z fun h => b8_0 O R q y0 y1 y2 y3 h, .s fun y0 => .s fun y1 => .s fun y2 => .s fun y3 => .s fun y4 => .s fun y5 => .s fun y6 => .z fun h => b8_1 O R q y0 y1 y2 y3 y4 y5 y6 h, .s fun y0 => .s fun y1 => .s fun y2 => .s fun y3 => .s fun y4 => .s fun y5 => .z fun h => b8_2 O R q y0 y1 y2 y3 y4 y5 h, .s fun y0 => .s fun y1 => .s fun y2 => .s fun y3 => .s fun y4 => .s fun y5 => .s fun y6 => .z fun h => b8_3 O R q y0 y1 y2 y3 y4 y5 y6 h, .s fun y0 => .s fun y1 => .s fun y2 => .s fun y3 => .s fun y4 => .s fun y5 => .z fun h => b8_4 O R q y0 y1 y2 y3 y4 y5 h, .s fun y0 => .s fun y1 => .s fun y2 => .s fun y3 => .s fun y4 => .s fun y5 => .s fun y6 => .z fun h => b8_5 O R q y0 y1 y2 y3 y4 y5 y6 h, .s fun y0 => .s fun y1 => .s fun y2 => .s fun y3 => .s fun y4 => .z fun h => b8_6 O R q y0 y1 y2 y3 y4 h]
theorem o8 (O : Oracle) (R : Jump) (q : Nat) : HoldsAll c8 O R q 0 (d8 O R q) := ⟨fun y0 y1 y2 y3 h => e8_0 O R q y0 y1 y2 y3 h, fun y0 y1 y2 y3 y4 y5 y6 h => e8_1 O R q y0 y1 y2 y3 y4 y5 y6 h, fun y0 y1 y2 y3 y4 y5 h => e8_2 O R q y0 y1 y2 y3 y4 y5 h, fun y0 y1 y2 y3 y4 y5 y6 h => e8_3 O R q y0 y1 y2 y3 y4 y5 y6 h, fun y0 y1 y2 y3 y4 y5 h => e8_4 O R q y0 y1 y2 y3 y4 y5 h, fun y0 y1 y2 y3 y4 y5 y6 h => e8_5 O R q y0 y1 y2 y3 y4 y5 y6 h, fun y0 y1 y2 y3 y4 h => e8_6 O R q y0 y1 y2 y3 y4 h, trivial⟩
/- sprue/spruelaw7.TreeWords -/
def c9 : MFunc := { np := 1, res := [.t 2], frz := true, body := (.seq (.reg [⟨(some 2), (.mv (.k (.v (.c (.p (.bool false)))))), none⟩] []) (.seq (.seq (.reg [⟨(some 14), (.call (.k (.v (.c (.func 14 [])))) []), none⟩, ⟨(some 15), (.un .not (.t 14)), none⟩] []) (.cond (.t 15) (.seq (.reg [⟨(some 2), (.mv (.k (.v (.c (.p (.bool false)))))), none⟩] []) .ret) .skip)) (.seq (.reg [⟨(some 16), (.bslice 1 11 [(.p (.str []))] [(0, (.k (.v (.c (.p (.str [105, 102])))))), (1, (.k (.v (.c (.p (.str [119, 105, 116, 104])))))), (2, (.k (.v (.c (.p (.str [114, 97, 110, 103, 101])))))), (3, (.k (.v (.c (.p (.str [109, 97, 116, 99, 104])))))), (4, (.k (.v (.c (.p (.str [101, 108, 115, 101])))))), (5, (.k (.v (.c (.p (.str [101, 110, 100])))))), (6, (.k (.v (.c (.p (.str [99, 97, 115, 101])))))), (7, (.k (.v (.c (.p (.str [116, 101, 109, 112, 108, 97, 116, 101])))))), (8, (.k (.v (.c (.p (.str [100, 101, 102, 105, 110, 101])))))), (9, (.k (.v (.c (.p (.str [116, 114, 117, 101])))))), (10, (.k (.v (.c (.p (.str [102, 97, 108, 115, 101]))))))] false), none⟩, ⟨(some 3), (.mv (.t 16)), none⟩] []) (.seq (.reg [⟨(some 17), (.mv (.t 3)), none⟩, ⟨(some 18), (.mv (.t 0)), none⟩, ⟨(some 19), (.call (.k (.v (.c (.func 15 [])))) [(.t 18), (.k (.v (.c (.p (.int .i64 11)))))]), none⟩, ⟨(some 20), (.iaddr 1 (.t 17) (.t 19)), none⟩, ⟨(some 21), (.load false 1 (.t 20)), none⟩, ⟨(some 4), (.mv (.t 21)), none⟩] []) (.seq (.reg [⟨(some 23), (.mv (.t 4)), none⟩, ⟨(some 24), (.bin .add 0 (.t 23) (.k (.v (.c (.p (.str [32, 49])))))), none⟩, ⟨(some 25), (.call (.k (.v (.c (.func 17 [])))) [(.t 24)]), none⟩, ⟨(some 22), (.mv (.t 25)), none⟩, ⟨(some 26), (.extract (.t 22) 0), none⟩, ⟨(some 27), (.extract (.t 22) 1), none⟩, ⟨(some 5), (.mv (.t 26)), none⟩, ⟨(some 6), (.mv (.t 27)), none⟩] []) (.seq (.reg [⟨(some 29), (.mv (.t 4)), none⟩, ⟨(some 30), (.bin .add 0 (.k (.v (.c (.p (.str [46]))))) (.t 29)), none⟩, ⟨(some 31), (.call (.k (.v (.c (.func 17 [])))) [(.t 30)]), none⟩, ⟨(some 28), (.mv (.t 31)), none⟩, ⟨(some 32), (.extract (.t 28) 0), none⟩, ⟨(some 33), (.extract (.t 28) 1), none⟩, ⟨(some 7), (.mv (.t 32)), none⟩, ⟨(some 8), (.mv (.t 33)), none⟩] []) (.seq (.reg [⟨(some 35), (.mv (.t 4)), none⟩, ⟨(some 36), (.bin .add 0 (.k (.v (.c (.p (.str [110, 111, 116, 32]))))) (.t 35)), none⟩, ⟨(some 37), (.call (.k (.v (.c (.func 17 [])))) [(.t 36)]), none⟩, ⟨(some 34), (.mv (.t 37)), none⟩, ⟨(some 38), (.extract (.t 34) 0), none⟩, ⟨(some 39), (.extract (.t 34) 1), none⟩, ⟨(some 9), (.mv (.t 38)), none⟩, ⟨(some 10), (.mv (.t 39)), none⟩] []) (.seq (.reg [⟨(some 41), (.mv (.t 4)), none⟩, ⟨(some 42), (.bin .add 0 (.k (.v (.c (.p (.str [36]))))) (.t 41)), none⟩, ⟨(some 43), (.bin .add 0 (.t 42) (.k (.v (.c (.p (.str [46])))))), none⟩, ⟨(some 44), (.mv (.t 4)), none⟩, ⟨(some 45), (.bin .add 0 (.t 43) (.t 44)), none⟩, ⟨(some 46), (.call (.k (.v (.c (.func 17 [])))) [(.t 45)]), none⟩, ⟨(some 40), (.mv (.t 46)), none⟩, ⟨(some 47), (.extract (.t 40) 0), none⟩, ⟨(some 48), (.extract (.t 40) 1), none⟩, ⟨(some 11), (.mv (.t 47)), none⟩, ⟨(some 12), (.mv (.t 48)), none⟩] []) (.seq (.reg [⟨(some 49), (.mv (.t 0)), none⟩, ⟨(some 50), (.call (.k (.v (.c (.func 15 [])))) [(.t 49), (.k (.v (.c (.p (.int .i64 11)))))]), none⟩, ⟨(some 51), (.bin .geq 0 (.t 50) (.k (.v (.c (.p (.int .i64 9)))))), none⟩, ⟨(some 13), (.mv (.t 51)), none⟩] []) (.seq (.reg [⟨(some 52), (.mv (.t 6)), none⟩, ⟨(some 53), (.bin .eql 0 (.t 52) (.k (.v (.c (.p (.int .i64 12)))))), none⟩, ⟨(some 54), (.mv (.t 53)), none⟩, ⟨(some 55), (.mv (.t 8)), (some (54, true))⟩, ⟨(some 56), (.bin .eql 0 (.t 55) (.k (.v (.c (.p (.int .i64 0)))))), (some (54, true))⟩, ⟨(some 57), (.pick (.t 54) (.t 56) (.k (.v (.c (.p (.bool false)))))), none⟩, ⟨(some 58), (.mv (.t 57)), none⟩, ⟨(some 59), (.mv (.t 7)), (some (58, true))⟩, ⟨(some 60), (.iaddr 1 (.t 59) (.k (.v (.c (.p (.int .i64 0)))))), (some (58, true))⟩, ⟨(some 61), (.faddr 0 (.t 60)), (some (58, true))⟩, ⟨(some 62), (.load false 1 (.t 61)), (some (58, true))⟩, ⟨(some 63), (.iaddr 7 (.t 62) (.k (.v (.c (.p (.int .i64 0)))))), (some (58, true))⟩, ⟨(some 64), (.faddr 2 (.t 63)), (some (58, true))⟩, ⟨(some 65), (.load false 1 (.t 64)), (some (58, true))⟩, ⟨(some 66), (.len 2 (.t 65)), (some (58, true))⟩, ⟨(some 67), (.bin .eql 0 (.t 66) (.k (.v (.c (.p (.int .i64 1)))))), (some (58, true))⟩, ⟨(some 68), (.pick (.t 58) (.t 67) (.k (.v (.c (.p (.bool false)))))), none⟩, ⟨(some 69), (.mv (.t 68)), none⟩, ⟨(some 70), (.mv (.t 7)), (some (69, true))⟩, ⟨(some 71), (.iaddr 1 (.t 70) (.k (.v (.c (.p (.int .i64 0)))))), (some (69, true))⟩, ⟨(some 72), (.faddr 0 (.t 71)), (some (69, true))⟩, ⟨(some 73), (.load false 1 (.t 72)), (some (69, true))⟩, ⟨(some 74), (.iaddr 7 (.t 73) (.k (.v (.c (.p (.int .i64 0)))))), (some (69, true))⟩, ⟨(some 75), (.faddr 2 (.t 74)), (some (69, true))⟩, ⟨(some 76), (.load false 1 (.t 75)), (some (69, true))⟩, ⟨(some 77), (.iaddr 1 (.t 76) (.k (.v (.c (.p (.int .i64 0)))))), (some (69, true))⟩, ⟨(some 78), (.load false 1 (.t 77)), (some (69, true))⟩, ⟨(some 79), (.mv (.t 4)), (some (69, true))⟩, ⟨(some 80), (.bin .eql 0 (.t 78) (.t 79)), (some (69, true))⟩, ⟨(some 81), (.pick (.t 69) (.t 80) (.k (.v (.c (.p (.bool false)))))), none⟩, ⟨(some 82), (.mv (.t 81)), none⟩, ⟨(some 83), (.mv (.t 12)), (some (82, true))⟩, ⟨(some 84), (.bin .eql 0 (.t 83) (.k (.v (.c (.p (.int .i64 0)))))), (some (82, true))⟩, ⟨(some 85), (.pick (.t 82) (.t 84) (.k (.v (.c (.p (.bool false)))))), none⟩, ⟨(some 86), (.mv (.t 85)), none⟩, ⟨(some 87), (.mv (.t 11)), (some (86, true))⟩, ⟨(some 88), (.iaddr 1 (.t 87) (.k (.v (.c (.p (.int .i64 0)))))), (some (86, true))⟩, ⟨(some 89), (.faddr 0 (.t 88)), (some (86, true))⟩, ⟨(some 90), (.load false 1 (.t 89)), (some (86, true))⟩, ⟨(some 91), (.iaddr 7 (.t 90) (.k (.v (.c (.p (.int .i64 0)))))), (some (86, true))⟩, ⟨(some 92), (.faddr 1 (.t 91)), (some (86, true))⟩, ⟨(some 93), (.load false 1 (.t 92)), (some (86, true))⟩, ⟨(some 94), (.mv (.t 4)), (some (86, true))⟩, ⟨(some 95), (.bin .eql 0 (.t 93) (.t 94)), (some (86, true))⟩, ⟨(some 96), (.pick (.t 86) (.t 95) (.k (.v (.c (.p (.bool false)))))), none⟩, ⟨(some 97), (.mv (.t 96)), none⟩, ⟨(some 98), (.mv (.t 10)), (some (97, true))⟩, ⟨(some 99), (.bin .eql 0 (.t 98) (.k (.v (.c (.p (.int .i64 0)))))), (some (97, true))⟩, ⟨(some 100), (.mv (.t 13)), (some (97, true))⟩, ⟨(some 101), (.bin .eql 5 (.t 99) (.t 100)), (some (97, true))⟩, ⟨(some 102), (.pick (.t 97) (.t 101) (.k (.v (.c (.p (.bool false)))))), none⟩, ⟨(some 103), (.mv (.t 102)), none⟩, ⟨(some 104), (.mv (.t 13)), (some (103, true))⟩, ⟨(some 105), (.un .not (.t 104)), (some (103, true))⟩, ⟨(some 106), (.mv (.t 105)), (some (103, true))⟩, ⟨(some 107), (.mv (.t 9)), (some (106, false))⟩, ⟨(some 108), (.iaddr 1 (.t 107) (.k (.v (.c (.p (.int .i64 0)))))), (some (106, false))⟩, ⟨(some 109), (.faddr 0 (.t 108)), (some (106, false))⟩, ⟨(some 110), (.load false 1 (.t 109)), (some (106, false))⟩, ⟨(some 111), (.iaddr 7 (.t 110) (.k (.v (.c (.p (.int .i64 1)))))), (some (106, false))⟩, ⟨(some 112), (.faddr 0 (.t 111)), (some (106, false))⟩, ⟨(some 113), (.load false 1 (.t 112)), (some (106, false))⟩, ⟨(some 114), (.bin .eql 0 (.t 113) (.k (.v (.c (.p (.int .i64 4)))))), (some (106, false))⟩, ⟨(some 115), (.mv (.t 114)), (some (106, false))⟩, ⟨(some 116), (.mv (.t 9)), (some (115, true))⟩, ⟨(some 117), (.iaddr 1 (.t 116) (.k (.v (.c (.p (.int .i64 0)))))), (some (115, true))⟩, ⟨(some 118), (.faddr 0 (.t 117)), (some (115, true))⟩, ⟨(some 119), (.load false 1 (.t 118)), (some (115, true))⟩, ⟨(some 120), (.iaddr 7 (.t 119) (.k (.v (.c (.p (.int .i64 1)))))), (some (115, true))⟩, ⟨(some 121), (.faddr 5 (.t 120)), (some (115, true))⟩, ⟨(some 122), (.load false 1 (.t 121)), (some (115, true))⟩, ⟨(some 123), (.mv (.t 4)), (some (115, true))⟩, ⟨(some 124), (.bin .eql 0 (.t 123) (.k (.v (.c (.p (.str [116, 114, 117, 101])))))), (some (115, true))⟩, ⟨(some 125), (.bin .eql 5 (.t 122) (.t 124)), (some (115, true))⟩, ⟨(some 126), (.pick (.t 115) (.t 125) (.k (.v (.c (.p (.bool false)))))), (some (106, false))⟩, ⟨(some 127), (.pick (.t 106) (.k (.v (.c (.p (.bool true))))) (.t 126)), (some (103, true))⟩, ⟨(some 128), (.pick (.t 103) (.t 127) (.k (.v (.c (.p (.bool false)))))), none⟩, ⟨(some 2), (.mv (.t 128)), none⟩] []) .ret)))))))))) }
theorem t9 : compF Tryd.prog (globs2 tabs opq) false true Tryd.f9 = some c9.erase := by kernel_rfl
noncomputable def b9_0 (O : Oracle) (R : Jump) (q : Nat) (x0 : TVal) (h : Heap) : Res1 :=
  vcall O (.v (.c (.func 14 []))) [] h 14 fun x14 h =>
  vop O (.un .not (.k x14)) h 15 fun x15 h =>
  vif x15 (
  tcomp (kB false) fun c0 => vfin true q [c0] h)
  (vop O (.bslice 1 11 [(.p (.str []))] [(0, (.k (kS [105, 102]))), (1, (.k (kS [119, 105, 116, 104]))), (2, (.k (kS [114, 97, 110, 103, 101]))), (3, (.k (kS [109, 97, 116, 99, 104]))), (4, (.k (kS [101, 108, 115, 101]))), (5, (.k (kS [101, 110, 100]))), (6, (.k (kS [99, 97, 115, 101]))), (7, (.k (kS [116, 101, 109, 112, 108, 97, 116, 101]))), (8, (.k (kS [100, 101, 102, 105, 110, 101]))), (9, (.k (kS [116, 114, 117, 101]))), (10, (.k (kS [102, 97, 108, 115, 101])))] false) h 16 fun x16 h =>
  vcall O (.v (.c (.func 15 []))) [x0, (kI 11)] h 19 fun x19 h =>
  viaddr 1 x16 x19 h fun x20 h =>
  vload false 1 x20 h fun x21 h =>
  vbin .add 0 x21 (kS [32, 49]) h fun x24 h =>
  vcall O (.v (.c (.func 17 []))) [x24] h 25 fun x25 h =>
  vext x25 0 h fun x26 h =>
  vext x25 1 h fun x27 h =>
  vbin .add 0 (kS [46]) x21 h fun x30 h =>
  vcall O (.v (.c (.func 17 []))) [x30] h 31 fun x31 h =>
  vext x31 0 h fun x32 h =>
  vext x31 1 h fun x33 h =>
  vbin .add 0 (kS [110, 111, 116, 32]) x21 h fun x36 h =>
  vcall O (.v (.c (.func 17 []))) [x36] h 37 fun x37 h =>
  vext x37 0 h fun x38 h =>
  vext x37 1 h fun x39 h =>
  vbin .add 0 (kS [36]) x21 h fun x42 h =>
  vbin .add 0 x42 (kS [46]) h fun x43 h =>
  vbin .add 0 x43 x21 h fun x45 h =>
  vcall O (.v (.c (.func 17 []))) [x45] h 46 fun x46 h =>
  vext x46 0 h fun x47 h =>
  vext x46 1 h fun x48 h =>
  vcall O (.v (.c (.func 15 []))) [x0, (kI 11)] h 50 fun x50 h =>
  vbin .geq 0 x50 (kI 9) h fun x51 h =>
  vbin .eql 0 x27 (kI 12) h fun x53 h =>
  vguard x53 true (fun kk => kk x33 h) h fun x55 h =>
  vguard x53 true (fun kk => vbin .eql 0 x55 (kI 0) h kk) h fun x56 h =>
  vop O (.pick (.k x53) (.k x56) (.k (kB false))) h 57 fun x57 h =>
  vguard x57 true (fun kk => kk x32 h) h fun x59 h =>
  vguard x57 true (fun kk => viaddr 1 x59 (kI 0) h kk) h fun x60 h =>
  vguard x57 true (fun kk => vfaddr 0 x60 h kk) h fun x61 h =>
  vguard x57 true (fun kk => vload false 1 x61 h kk) h fun x62 h =>
  vguard x57 true (fun kk => viaddr 7 x62 (kI 0) h kk) h fun x63 h =>
  vguard x57 true (fun kk => vfaddr 2 x63 h kk) h fun x64 h =>
  vguard x57 true (fun kk => vload false 1 x64 h kk) h fun x65 h =>
  vguard x57 true (fun kk => vlen O 2 x65 h 66 kk) h fun x66 h =>
  vguard x57 true (fun kk => vbin .eql 0 x66 (kI 1) h kk) h fun x67 h =>
  vop O (.pick (.k x57) (.k x67) (.k (kB false))) h 68 fun x68 h =>
  vguard x68 true (fun kk => kk x32 h) h fun x70 h =>
  vguard x68 true (fun kk => viaddr 1 x70 (kI 0) h kk) h fun x71 h =>
  vguard x68 true (fun kk => vfaddr 0 x71 h kk) h fun x72 h =>
  vguard x68 true (fun kk => vload false 1 x72 h kk) h fun x73 h =>
  vguard x68 true (fun kk => viaddr 7 x73 (kI 0) h kk) h fun x74 h =>
  vguard x68 true (fun kk => vfaddr 2 x74 h kk) h fun x75 h =>
  vguard x68 true (fun kk => vload false 1 x75 h kk) h fun x76 h =>
  vguard x68 true (fun kk => viaddr 1 x76 (kI 0) h kk) h fun x77 h =>
  vguard x68 true (fun kk => vload false 1 x77 h kk) h fun x78 h =>
  vguard x68 true (fun kk => kk x21 h) h fun x79 h =>
  vguard x68 true (fun kk => vbin .eql 0 x78 x79 h kk) h fun x80 h =>
  vop O (.pick (.k x68) (.k x80) (.k (kB false))) h 81 fun x81 h =>
  vguard x81 true (fun kk => kk x48 h) h fun x83 h =>
  vguard x81 true (fun kk => vbin .eql 0 x83 (kI 0) h kk) h fun x84 h =>
  vop O (.pick (.k x81) (.k x84) (.k (kB false))) h 85 fun x85 h =>
  vguard x85 true (fun kk => kk x47 h) h fun x87 h =>
  vguard x85 true (fun kk => viaddr 1 x87 (kI 0) h kk) h fun x88 h =>
  vguard x85 true (fun kk => vfaddr 0 x88 h kk) h fun x89 h =>
  vguard x85 true (fun kk => vload false 1 x89 h kk) h fun x90 h =>
  vguard x85 true (fun kk => viaddr 7 x90 (kI 0) h kk) h fun x91 h =>
  vguard x85 true (fun kk => vfaddr 1 x91 h kk) h fun x92 h =>
  vguard x85 true (fun kk => vload false 1 x92 h kk) h fun x93 h =>
  vguard x85 true (fun kk => kk x21 h) h fun x94 h =>
  vguard x85 true (fun kk => vbin .eql 0 x93 x94 h kk) h fun x95 h =>
  vop O (.pick (.k x85) (.k x95) (.k (kB false))) h 96 fun x96 h =>
  vguard x96 true (fun kk => kk x39 h) h fun x98 h =>
  vguard x96 true (fun kk => vbin .eql 0 x98 (kI 0) h kk) h fun x99 h =>
  vguard x96 true (fun kk => kk x51 h) h fun x100 h =>
  vguard x96 true (fun kk => vbin .eql 5 x99 x100 h kk) h fun x101 h =>
  vop O (.pick (.k x96) (.k x101) (.k (kB false))) h 102 fun x102 h =>
  vguard x102 true (fun kk => kk x51 h) h fun x104 h =>
  vguard x102 true (fun kk => vop O (.un .not (.k x104)) h 105 kk) h fun x105 h =>
  vguard x102 true (fun kk => kk x105 h) h fun x106 h =>
  vguard x106 false (fun kk => kk x38 h) h fun x107 h =>
  vguard x106 false (fun kk => viaddr 1 x107 (kI 0) h kk) h fun x108 h =>
  vguard x106 false (fun kk => vfaddr 0 x108 h kk) h fun x109 h =>
  vguard x106 false (fun kk => vload false 1 x109 h kk) h fun x110 h =>
  vguard x106 false (fun kk => viaddr 7 x110 (kI 1) h kk) h fun x111 h =>
  vguard x106 false (fun kk => vfaddr 0 x111 h kk) h fun x112 h =>
  vguard x106 false (fun kk => vload false 1 x112 h kk) h fun x113 h =>
  vguard x106 false (fun kk => vbin .eql 0 x113 (kI 4) h kk) h fun x114 h =>
  vguard x106 false (fun kk => kk x114 h) h fun x115 h =>
  vguard x115 true (fun kk => kk x38 h) h fun x116 h =>
  vguard x115 true (fun kk => viaddr 1 x116 (kI 0) h kk) h fun x117 h =>
  vguard x115 true (fun kk => vfaddr 0 x117 h kk) h fun x118 h =>
  vguard x115 true (fun kk => vload false 1 x118 h kk) h fun x119 h =>
  vguard x115 true (fun kk => viaddr 7 x119 (kI 1) h kk) h fun x120 h =>
  vguard x115 true (fun kk => vfaddr 5 x120 h kk) h fun x121 h =>
  vguard x115 true (fun kk => vload false 1 x121 h kk) h fun x122 h =>
  vguard x115 true (fun kk => kk x21 h) h fun x123 h =>
  vguard x115 true (fun kk => vbin .eql 0 x123 (kS [116, 114, 117, 101]) h kk) h fun x124 h =>
  vguard x115 true (fun kk => vbin .eql 5 x122 x124 h kk) h fun x125 h =>
  vguard x106 false (fun kk => vop O (.pick (.k x115) (.k x125) (.k (kB false))) h 126 kk) h fun x126 h =>
  vguard x102 true (fun kk => vop O (.pick (.k x106) (.k (kB true)) (.k x126)) h 127 kk) h fun x127 h =>
  vop O (.pick (.k x102) (.k x127) (.k (kB false))) h 128 fun x128 h =>
  tcomp x128 fun c0 => vfin true q [c0] h)
theorem e9_0 (O : Oracle) (R : Jump) (q : Nat) (x0 : TVal) (h : Heap) : b9_0 O R q x0 h = stepF c9 O R q 0 [x0] h := by kernel_rfl
noncomputable def d9 : BlkF := fun O R q => [.s fun y0 => .z fun h => b9_0 O R q y0 h]
theorem o9 (O : Oracle) (R : Jump) (q : Nat) : HoldsAll c9 O R q 0 (d9 O R q) := ⟨fun y0 h => e9_0 O R q y0 h, trivial⟩
/- sprue/spruelaw7.known -/
def c14 : MFunc := { np := 0, res := [.t 0], frz := true, body := (.seq (.reg [⟨(some 0), (.mv (.k (.v (.c (.p (.bool false)))))), none⟩] []) (.seq (.reg [⟨(some 5), (.call (.k (.v (.c (.func 16 [])))) [(.k (.v (.c (.p (.str [97, 32, 123, 123, 105, 102, 32, 46, 120, 125, 125, 98, 123, 123, 101, 110, 100, 125, 125])))))]), none⟩, ⟨(some 4), (.mv (.t 5)), none⟩, ⟨(some 6), (.extract (.t 4) 0), none⟩, ⟨(some 7), (.extract (.t 4) 1), none⟩, ⟨(some 8), (.extract (.t 4) 2), none⟩, ⟨(some 1), (.mv (.t 6)), none⟩, ⟨(some 2), (.mv (.t 7)), none⟩, ⟨(some 3), (.mv (.t 8)), none⟩] []) (.seq (.reg [⟨(some 9), (.mv (.t 3)), none⟩, ⟨(some 10), (.bin .eql 0 (.t 9) (.k (.v (.c (.p (.int .i64 0)))))), none⟩, ⟨(some 11), (.mv (.t 10)), none⟩, ⟨(some 12), (.mv (.t 1)), (some (11, true))⟩, ⟨(some 13), (.len 2 (.t 12)), (some (11, true))⟩, ⟨(some 14), (.bin .eql 0 (.t 13) (.k (.v (.c (.p (.int .i64 1)))))), (some (11, true))⟩, ⟨(some 15), (.pick (.t 11) (.t 14) (.k (.v (.c (.p (.bool false)))))), none⟩, ⟨(some 16), (.mv (.t 15)), none⟩, ⟨(some 17), (.mv (.t 1)), (some (16, true))⟩, ⟨(some 18), (.iaddr 2 (.t 17) (.k (.v (.c (.p (.int .i64 0)))))), (some (16, true))⟩, ⟨(some 19), (.faddr 1 (.t 18)), (some (16, true))⟩, ⟨(some 20), (.load false 1 (.t 19)), (some (16, true))⟩, ⟨(some 21), (.len 2 (.t 20)), (some (16, true))⟩, ⟨(some 22), (.bin .eql 0 (.t 21) (.k (.v (.c (.p (.int .i64 2)))))), (some (16, true))⟩, ⟨(some 23), (.pick (.t 16) (.t 22) (.k (.v (.c (.p (.bool false)))))), none⟩, ⟨(some 24), (.mv (.t 23)), none⟩, ⟨(some 25), (.mv (.t 1)), (some (24, true))⟩, ⟨(some 26), (.iaddr 2 (.t 25) (.k (.v (.c (.p (.int .i64 0)))))), (some (24, true))⟩, ⟨(some 27), (.faddr 1 (.t 26)), (some (24, true))⟩, ⟨(some 28), (.load false 1 (.t 27)), (some (24, true))⟩, ⟨(some 29), (.iaddr 9 (.t 28) (.k (.v (.c (.p (.int .i64 1)))))), (some (24, true))⟩, ⟨(some 30), (.faddr 0 (.t 29)), (some (24, true))⟩, ⟨(some 31), (.load false 1 (.t 30)), (some (24, true))⟩, ⟨(some 32), (.bin .eql 0 (.t 31) (.k (.v (.c (.p (.int .i64 5)))))), (some (24, true))⟩, ⟨(some 33), (.pick (.t 24) (.t 32) (.k (.v (.c (.p (.bool false)))))), none⟩, ⟨(some 34), (.mv (.t 33)), none⟩, ⟨(some 35), (.mv (.t 1)), (some (34, true))⟩, ⟨(some 36), (.iaddr 2 (.t 35) (.k (.v (.c (.p (.int .i64 0)))))), (some (34, true))⟩, ⟨(some 37), (.faddr 1 (.t 36)), (some (34, true))⟩, ⟨(some 38), (.load false 1 (.t 37)), (some (34, true))⟩, ⟨(some 39), (.iaddr 9 (.t 38) (.k (.v (.c (.p (.int .i64 1)))))), (some (34, true))⟩, ⟨(some 40), (.faddr 5 (.t 39)), (some (34, true))⟩, ⟨(some 41), (.load false 1 (.t 40)), (some (34, true))⟩, ⟨(some 42), (.len 2 (.t 41)), (some (34, true))⟩, ⟨(some 43), (.bin .eql 0 (.t 42) (.k (.v (.c (.p (.int .i64 1)))))), (some (34, true))⟩, ⟨(some 44), (.pick (.t 34) (.t 43) (.k (.v (.c (.p (.bool false)))))), none⟩, ⟨(some 0), (.mv (.t 44)), none⟩] []) .ret))) }
theorem t14 : compF Tryd.prog (globs2 tabs opq) false true Tryd.f14 = some c14.erase := by kernel_rfl
noncomputable def b14_0 (O : Oracle) (R : Jump) (q : Nat) (h : Heap) : Res1 :=
  vcall O (.v (.c (.func 16 []))) [(kS [97, 32, 123, 123, 105, 102, 32, 46, 120, 125, 125, 98, 123, 123, 101, 110, 100, 125, 125])] h 5 fun x5 h =>
  vext x5 0 h fun x6 h =>
  vext x5 1 h fun x7 h =>
  vext x5 2 h fun x8 h =>
  vbin .eql 0 x8 (kI 0) h fun x10 h =>
  vguard x10 true (fun kk => kk x6 h) h fun x12 h =>
  vguard x10 true (fun kk => vlen O 2 x12 h 13 kk) h fun x13 h =>
  vguard x10 true (fun kk => vbin .eql 0 x13 (kI 1) h kk) h fun x14 h =>
  vop O (.pick (.k x10) (.k x14) (.k (kB false))) h 15 fun x15 h =>
  vguard x15 true (fun kk => kk x6 h) h fun x17 h =>
  vguard x15 true (fun kk => viaddr 2 x17 (kI 0) h kk) h fun x18 h =>
  vguard x15 true (fun kk => vfaddr 1 x18 h kk) h fun x19 h =>
  vguard x15 true (fun kk => vload false 1 x19 h kk) h fun x20 h =>
  vguard x15 true (fun kk => vlen O 2 x20 h 21 kk) h fun x21 h =>
  vguard x15 true (fun kk => vbin .eql 0 x21 (kI 2) h kk) h fun x22 h =>
  vop O (.pick (.k x15) (.k x22) (.k (kB false))) h 23 fun x23 h =>
  vguard x23 true (fun kk => kk x6 h) h fun x25 h =>
  vguard x23 true (fun kk => viaddr 2 x25 (kI 0) h kk) h fun x26 h =>
  vguard x23 true (fun kk => vfaddr 1 x26 h kk) h fun x27 h =>
  vguard x23 true (fun kk => vload false 1 x27 h kk) h fun x28 h =>
  vguard x23 true (fun kk => viaddr 9 x28 (kI 1) h kk) h fun x29 h =>
  vguard x23 true (fun kk => vfaddr 0 x29 h kk) h fun x30 h =>
  vguard x23 true (fun kk => vload false 1 x30 h kk) h fun x31 h =>
  vguard x23 true (fun kk => vbin .eql 0 x31 (kI 5) h kk) h fun x32 h =>
  vop O (.pick (.k x23) (.k x32) (.k (kB false))) h 33 fun x33 h =>
  vguard x33 true (fun kk => kk x6 h) h fun x35 h =>
  vguard x33 true (fun kk => viaddr 2 x35 (kI 0) h kk) h fun x36 h =>
  vguard x33 true (fun kk => vfaddr 1 x36 h kk) h fun x37 h =>
  vguard x33 true (fun kk => vload false 1 x37 h kk) h fun x38 h =>
  vguard x33 true (fun kk => viaddr 9 x38 (kI 1) h kk) h fun x39 h =>
  vguard x33 true (fun kk => vfaddr 5 x39 h kk) h fun x40 h =>
  vguard x33 true (fun kk => vload false 1 x40 h kk) h fun x41 h =>
  vguard x33 true (fun kk => vlen O 2 x41 h 42 kk) h fun x42 h =>
  vguard x33 true (fun kk => vbin .eql 0 x42 (kI 1) h kk) h fun x43 h =>
  vop O (.pick (.k x33) (.k x43) (.k (kB false))) h 44 fun x44 h =>
  tcomp x44 fun c0 => vfin true q [c0] h
theorem e14_0 (O : Oracle) (R : Jump) (q : Nat) (h : Heap) : b14_0 O R q  h = stepF c14 O R q 0 [] h := by kernel_rfl
noncomputable def d14 : BlkF := fun O R q => [.z fun h => b14_0 O R q  h]
theorem o14 (O : Oracle) (R : Jump) (q : Nat) : HoldsAll c14 O R q 0 (d14 O R q) := ⟨fun  h => e14_0 O R q  h, trivial⟩
/- sprue/spruelaw7.within -/
def c15 : MFunc := { np := 2, res := [.t 4], frz := true, body := (.seq (.reg [⟨(some 4), (.mv (.k (.v (.c (.p (.int .i64 0)))))), none⟩] []) (.seq (.reg [⟨(some 6), (.mv (.t 0)), none⟩, ⟨(some 7), (.mv (.t 1)), none⟩, ⟨(some 8), (.bin .rem 0 (.t 6) (.t 7)), none⟩, ⟨(some 5), (.mv (.t 8)), none⟩] []) (.seq (.seq (.reg [⟨(some 9), (.mv (.t 5)), none⟩, ⟨(some 10), (.bin .lss 0 (.t 9) (.k (.v (.c (.p (.int .i64 0)))))), none⟩] []) (.cond (.t 10) (.reg [⟨(some 11), (.mv (.t 5)), none⟩, ⟨(some 12), (.mv (.t 1)), none⟩, ⟨(some 13), (.bin .add 0 (.t 11) (.t 12)), none⟩, ⟨(some 5), (.mv (.t 13)), none⟩] []) .skip)) (.seq (.reg [⟨(some 14), (.mv (.t 5)), none⟩, ⟨(some 4), (.mv (.t 14)), none⟩] []) .ret)))) }
theorem t15 : compF Tryd.prog (globs2 tabs opq) false true Tryd.f15 = some c15.erase := by kernel_rfl
noncomputable def b15_0 (O : Oracle) (R : Jump) (q : Nat) (x0 x1 : TVal) (h : Heap) : Res1 :=
  vbin .rem 0 x0 x1 h fun x8 h =>
  vbin .lss 0 x8 (kI 0) h fun x10 h =>
  vif x10 (
  vbin .add 0 x8 x1 h fun x13 h =>
  tcomp x13 fun c0 => vfin true q [c0] h)
  (tcomp x8 fun c0 => vfin true q [c0] h)
theorem e15_0 (O : Oracle) (R : Jump) (q : Nat) (x0 x1 : TVal) (h : Heap) : b15_0 O R q x0 x1 h = stepF c15 O R q 0 [x0, x1] h := by kernel_rfl
noncomputable def d15 : BlkF := fun O R q => [.s fun y0 => .s fun y1 => .z fun h => b15_0 O R q y0 y1 h]
theorem o15 (O : Oracle) (R : Jump) (q : Nat) : HoldsAll c15 O R q 0 (d15 O R q) := ⟨fun y0 y1 h => e15_0 O R q y0 y1 h, trivial⟩
/- sprue/tree.Parse -/
def c16 : MFunc := { np := 1, res := [.t 2, .t 3, .t 4], frz := true, body := (.seq (.reg [⟨(some 2), (.mv (.k (.v (.c (.p .nilslice))))), none⟩, ⟨(some 3), (.mv (.k (.v (.c (.p (.int .i64 0)))))), none⟩, ⟨(some 4), (.mv (.k (.v (.c (.p (.int .i64 0)))))), none⟩] []) (.seq (.reg [⟨(some 10), (.mv (.t 0)), none⟩, ⟨(some 11), (.call (.k (.v (.c (.func 25 [])))) [(.t 10)]), none⟩, ⟨(some 9), (.mv (.t 11)), none⟩, ⟨(some 12), (.extract (.t 9) 0), none⟩, ⟨(some 13), (.extract (.t 9) 1), none⟩, ⟨(some 5), (.mv (.t 12)), none⟩, ⟨(some 4), (.mv (.t 13)), none⟩] []) (.seq (.seq (.reg [⟨(some 14), (.mv (.t 4)), none⟩, ⟨(some 15), (.bin .neq 0 (.t 14) (.k (.v (.c (.p (.int .i64 0)))))), none⟩] []) (.cond (.t 15) (.seq (.reg [⟨(some 16), (.mv (.t 4)), none⟩, ⟨(some 2), (.mv (.k (.v (.c (.p .nilslice))))), none⟩, ⟨(some 3), (.mv (.k (.v (.c (.p (.int .i64 0)))))), none⟩, ⟨(some 4), (.mv (.t 16)), none⟩] []) .ret) .skip)) (.seq (.reg [⟨(some 17), (.build [(.p .nilslice), (.p .nilslice), (.p .nilslice), (.p .nilslice)] []), none⟩, ⟨(some 18), (.box (.t 17) true), none⟩, ⟨(some 6), (.mv (.t 18)), none⟩] []) (.seq (.seq (.reg [⟨(some 19), (.mv (.t 5)), none⟩, ⟨(some 20), (.len 2 (.t 19)), none⟩, ⟨(some 21), (.mv (.k (.v (.c (.p (.int .i64 0)))))), none⟩] []) (.block 0 (.loop 1 [0, 6, 19, 20, 21] (.seq (.reg [⟨(some 22), (.bin .lss 0 (.t 21) (.t 20)), none⟩] []) (.seq (.cond (.t 22) .skip (.exit 0)) (.seq (.block 1 (.seq (.reg [⟨(some 23), (.iaddr 3 (.t 19) (.t 21)), none⟩, ⟨(some 24), (.load true 3 (.t 23)), none⟩, ⟨(some 8), (.alloc [(.p (.bool false)), (.p (.str [])), (.p (.int .i64 0))] true), none⟩, ⟨none, (.store 3 (.t 8) (.t 24)), none⟩] []) (.seq (.seq (.reg [⟨(some 25), (.faddr 0 (.t 8)), none⟩, ⟨(some 26), (.load false 1 (.t 25)), none⟩] []) (.cond (.t 26) (.reg [⟨(some 27), (.mv (.t 6)), none⟩, ⟨(some 28), (.load true 3 (.t 8)), none⟩, ⟨(some 29), (.call (.k (.v (.c (.func 26 [])))) [(.t 27), (.t 28)]), none⟩, ⟨(some 4), (.mv (.t 29)), none⟩] []) (.reg [⟨(some 30), (.mv (.t 6)), none⟩, ⟨(some 31), (.load true 3 (.t 8)), none⟩, ⟨(some 32), (.call (.k (.v (.c (.func 27 [])))) [(.t 30), (.t 31)]), none⟩, ⟨(some 4), (.mv (.t 32)), none⟩] []))) (.mark 2 [0, 4, 6, 8, 19, 20, 21] (.seq (.reg [⟨(some 33), (.mv (.t 4)), none⟩, ⟨(some 34), (.bin .neq 0 (.t 33) (.k (.v (.c (.p (.int .i64 0)))))), none⟩] []) (.cond (.t 34) (.seq (.reg [⟨(some 35), (.faddr 2 (.t 8)), none⟩, ⟨(some 36), (.load false 1 (.t 35)), none⟩, ⟨(some 37), (.mv (.t 4)), none⟩, ⟨(some 2), (.mv (.k (.v (.c (.p .nilslice))))), none⟩, ⟨(some 3), (.mv (.t 36)), none⟩, ⟨(some 4), (.mv (.t 37)), none⟩] []) .ret) .skip)))))) (.reg [⟨(some 38), (.bin .add 0 (.t 21) (.k (.v (.c (.p (.int .i64 1)))))), none⟩, ⟨(some 21), (.mv (.t 38)), none⟩] []))))))) (.mark 3 [0, 6] (.seq (.seq (.reg [⟨(some 39), (.mv (.t 6)), none⟩, ⟨(some 40), (.call (.k (.v (.c (.func 28 [])))) [(.t 39)]), none⟩, ⟨(some 41), (.bin .neq 1 (.t 40) (.k (.v (.c (.p .nilptr))))), none⟩] []) (.cond (.t 41) (.seq (.reg [⟨(some 42), (.mv (.t 0)), none⟩, ⟨(some 43), (.len 0 (.t 42)), none⟩, ⟨(some 2), (.mv (.k (.v (.c (.p .nilslice))))), none⟩, ⟨(some 3), (.mv (.t 43)), none⟩, ⟨(some 4), (.mv (.k (.v (.c (.p (.int .i64 12)))))), none⟩] []) .ret) .skip)) (.seq (.reg [⟨(some 44), (.mv (.t 6)), none⟩, ⟨(some 45), (.nilck (.t 44)), none⟩, ⟨(some 46), (.faddr 0 (.t 45)), none⟩, ⟨(some 47), (.load false 1 (.t 46)), none⟩, ⟨(some 48), (.build [(.p (.str [])), (.p .nilslice)] [(1, 1, (.t 47))]), none⟩, ⟨(some 49), (.bslice 2 1 [(.p (.str [])), (.p .nilslice)] [(0, (.t 48))] true), none⟩, ⟨(some 50), (.mv (.t 6)), none⟩, ⟨(some 51), (.nilck (.t 50)), none⟩, ⟨(some 52), (.faddr 1 (.t 51)), none⟩, ⟨(some 53), (.load false 1 (.t 52)), none⟩, ⟨(some 54), (.append 2 40 true (.t 49) (.t 53)), none⟩, ⟨(some 2), (.mv (.t 54)), none⟩, ⟨(some 3), (.mv (.k (.v (.c (.p (.int .i64 0)))))), none⟩, ⟨(some 4), (.mv (.k (.v (.c (.p (.int .i64 0)))))), none⟩] [(5, 9)]) .ret)))))))) }
theorem t16 : compF Tryd.prog (globs2 tabs opq) true true Tryd.f16 = some c16.erase := by kernel_rfl
noncomputable def b16_0 (O : Oracle) (R : Jump) (q : Nat) (x0 : TVal) (h : Heap) : Res1 :=
  vcall O (.v (.c (.func 25 []))) [x0] h 11 fun x11 h =>
  vext x11 0 h fun x12 h =>
  vext x11 1 h fun x13 h =>
  vbin .neq 0 x13 (kI 0) h fun x15 h =>
  vif x15 (
  tcomp (.v (.c (.p .nilslice))) fun c0 => tcomp (kI 0) fun c1 => tcomp x13 fun c2 => vfin true q [c0, c1, c2] h)
  (vop O (.build [(.p .nilslice), (.p .nilslice), (.p .nilslice), (.p .nilslice)] []) h 17 fun x17 h =>
  vop O (.box (.k x17) true) h 18 fun x18 h =>
  vlen O 2 x12 h 20 fun x20 h =>
  R 1 [x0, x18, x12, x20, (kI 0)] h)
theorem e16_0 (O : Oracle) (R : Jump) (q : Nat) (x0 : TVal) (h : Heap) : b16_0 O R q x0 h = stepF c16 O R q 0 [x0] h := by kernel_rfl
noncomputable def b16_1 (O : Oracle) (R : Jump) (q : Nat) (x0 x6 x19 x20 x21 : TVal) (h : Heap) : Res1 :=
  vbin .lss 0 x21 x20 h fun x22 h =>
  vif x22 (
  viaddr 3 x19 x21 h fun x23 h =>
  vload true 3 x23 h fun x24 h =>
  vop O (.alloc [(.p (.bool false)), (.p (.str [])), (.p (.int .i64 0))] true) h 8 fun x8 h =>
  vstore 3 x8 x24 h fun _ h =>
  vfaddr 0 x8 h fun x25 h =>
  vload false 1 x25 h fun x26 h =>
  vif x26 (
  vload true 3 x8 h fun x28 h =>
  vcall O (.v (.c (.func 26 []))) [x6, x28] h 29 fun x29 h =>
  R 2 [x0, x29, x6, x8, x19, x20, x21] h)
  (vload true 3 x8 h fun x31 h =>
  vcall O (.v (.c (.func 27 []))) [x6, x31] h 32 fun x32 h =>
  R 2 [x0, x32, x6, x8, x19, x20, x21] h))
  (R 3 [x0, x6] h)
theorem e16_1 (O : Oracle) (R : Jump) (q : Nat) (x0 x6 x19 x20 x21 : TVal) (h : Heap) : b16_1 O R q x0 x6 x19 x20 x21 h = stepF c16 O R q 1 [x0, x6, x19, x20, x21] h := by kernel_rfl
noncomputable def b16_2 (O : Oracle) (R : Jump) (q : Nat) (x0 x4 x6 x8 x19 x20 x21 : TVal) (h : Heap) : Res1 :=
  vbin .neq 0 x4 (kI 0) h fun x34 h =>
  vif x34 (
  vfaddr 2 x8 h fun x35 h =>
  vload false 1 x35 h fun x36 h =>
  tcomp (.v (.c (.p .nilslice))) fun c0 => tcomp x36 fun c1 => tcomp x4 fun c2 => vfin true q [c0, c1, c2] h)
  (vbin .add 0 x21 (kI 1) h fun x38 h =>
  R 1 [x0, x6, x19, x20, x38] h)
theorem e16_2 (O : Oracle) (R : Jump) (q : Nat) (x0 x4 x6 x8 x19 x20 x21 : TVal) (h : Heap) : b16_2 O R q x0 x4 x6 x8 x19 x20 x21 h = stepF c16 O R q 2 [x0, x4, x6, x8, x19, x20, x21] h := by kernel_rfl
noncomputable def b16_3 (O : Oracle) (R : Jump) (q : Nat) (x0 x6 : TVal) (h : Heap) : Res1 :=
  vcall O (.v (.c (.func 28 []))) [x6] h 40 fun x40 h =>
  vbin .neq 1 x40 (.v (.c (.p .nilptr))) h fun x41 h =>
  vif x41 (
  vlen O 0 x0 h 43 fun x43 h =>
  tcomp (.v (.c (.p .nilslice))) fun c0 => tcomp x43 fun c1 => tcomp (kI 12) fun c2 => vfin true q [c0, c1, c2] h)
  (vtouch O (.mv (.k x6)) h 44 fun x44 h t0 =>
  vtouch O (.nilck (.k x44)) h 45 fun x45 h t1 =>
  vtouch O (.faddr 0 (.k x45)) h 46 fun x46 h t2 =>
  vtouch O (.load false 1 (.k x46)) h 47 fun x47 h t3 =>
  vtouch O (.build [(.p (.str [])), (.p .nilslice)] [(1, 1, (.k x47))]) h 48 fun x48 h t4 =>
  vtouch O (.bslice 2 1 [(.p (.str [])), (.p .nilslice)] [(0, (.k x48))] true) h 49 fun x49 h t5 =>
  vtouch O (.mv (.k x6)) h 50 fun x50 h t6 =>
  vtouch O (.nilck (.k x50)) h 51 fun x51 h t7 =>
  vtouch O (.faddr 1 (.k x51)) h 52 fun x52 h t8 =>
  vtouch O (.load false 1 (.k x52)) h 53 fun x53 h t9 =>
  vtouch O (.append 2 40 true (.k x49) (.k x53)) h 54 fun x54 h t10 =>
  vtouch O (.mv (.k x54)) h 2 fun x2 h t11 =>
  vtouch O (.mv (.k (kI 0))) h 3 fun x3 h t12 =>
  vtouch O (.mv (.k (kI 0))) h 4 fun x4 h t13 =>
  bif apartAll [t0, t1, t2, t3, t4, t5, t6, t7, t8, t9, t10, t11, t12, t13] [(5, 9)] then
  tcomp x2 fun c0 => tcomp x3 fun c1 => tcomp x4 fun c2 => vfin true q [c0, c1, c2] h
  else none)
theorem e16_3 (O : Oracle) (R : Jump) (q : Nat) (x0 x6 : TVal) (h : Heap) : b16_3 O R q x0 x6 h = stepF c16 O R q 3 [x0, x6] h := by kernel_rfl
noncomputable def d16 : BlkF := fun O R q => [.s fun y0 => .z fun h => b16_0 O R q y0 h, .s fun y0 => .s fun y1 => .s fun y2 => .s fun y3 => .s fun y4 => .z fun h => b16_1 O R q y0 y1 y2 y3 y4 h, .s fun y0 => .s fun y1 => .s fun y2 => .s fun y3 => .s fun y4 => .s fun y5 => .s fun y6 => .z fun h => b16_2 O R q y0 y1 y2 y3 y4 y5 y6 h, .s fun y0 => .s fun y1 => .z fun h => b16_3 O R q y0 y1 h]
theorem o16 (O : Oracle) (R : Jump) (q : Nat) : HoldsAll c16 O R q 0 (d16 O R q) := ⟨fun y0 h => e16_0 O R q y0 h, fun y0 y1 y2 y3 y4 h => e16_1 O R q y0 y1 y2 y3 y4 h, fun y0 y1 y2 y3 y4 y5 y6 h => e16_2 O R q y0 y1 y2 y3 y4 y5 y6 h, fun y0 y1 h => e16_3 O R q y0 y1 h, trivial⟩
/- sprue/tree.Pipe -/
def c17 : MFunc := { np := 1, res := [.t 2, .t 3], frz := true, body := (.seq (.reg [⟨(some 2), (.mv (.k (.v (.c (.p .nilslice))))), none⟩, ⟨(some 3), (.mv (.k (.v (.c (.p (.int .i64 0)))))), none⟩] []) (.seq (.reg [⟨(some 7), (.mv (.t 0)), none⟩, ⟨(some 8), (.call (.k (.v (.c (.func 29 [])))) [(.t 7)]), none⟩, ⟨(some 4), (.mv (.t 8)), none⟩] []) (.seq (.reg [⟨(some 9), (.mv (.t 4)), none⟩, ⟨(some 10), (.call (.k (.v (.c (.func 30 [])))) [(.t 9)]), none⟩, ⟨(some 5), (.mv (.t 10)), none⟩] []) (.seq (.seq (.reg [⟨(some 11), (.mv (.t 4)), none⟩, ⟨(some 12), (.call (.k (.v (.c (.func 31 [])))) [(.t 11)]), none⟩, ⟨(some 6), (.mv (.t 12)), none⟩] []) (.seq (.reg [⟨(some 13), (.mv (.t 6)), none⟩, ⟨(some 14), (.bin .neq 0 (.t 13) (.k (.v (.c (.p (.int .i64 0)))))), none⟩] []) (.cond (.t 14) (.seq (.reg [⟨(some 15), (.mv (.t 6)), none⟩, ⟨(some 2), (.mv (.k (.v (.c (.p .nilslice))))), none⟩, ⟨(some 3), (.mv (.t 15)), none⟩] []) .ret) .skip))) (.seq (.reg [⟨(some 16), (.mv (.t 5)), none⟩, ⟨(some 2), (.mv (.t 16)), none⟩, ⟨(some 3), (.mv (.k (.v (.c (.p (.int .i64 0)))))), none⟩] []) .ret))))) }
theorem t17 : compF Tryd.prog (globs2 tabs opq) false true Tryd.f17 = some c17.erase := by kernel_rfl
noncomputable def b17_0 (O : Oracle) (R : Jump) (q : Nat) (x0 : TVal) (h : Heap) : Res1 :=
  vcall O (.v (.c (.func 29 []))) [x0] h 8 fun x8 h =>
  vcall O (.v (.c (.func 30 []))) [x8] h 10 fun x10 h =>
  vcall O (.v (.c (.func 31 []))) [x8] h 12 fun x12 h =>
  vbin .neq 0 x12 (kI 0) h fun x14 h =>
  vif x14 (
  tcomp (.v (.c (.p .nilslice))) fun c0 => tcomp x12 fun c1 => vfin true q [c0, c1] h)
  (tcomp x10 fun c0 => tcomp (kI 0) fun c1 => vfin true q [c0, c1] h)
theorem e17_0 (O : Oracle) (R : Jump) (q : Nat) (x0 : TVal) (h : Heap) : b17_0 O R q x0 h = stepF c17 O R q 0 [x0] h := by kernel_rfl
noncomputable def d17 : BlkF := fun O R q => [.s fun y0 => .z fun h => b17_0 O R q y0 h]
theorem o17 (O : Oracle) (R : Jump) (q : Nat) : HoldsAll c17 O R q 0 (d17 O R q) := ⟨fun y0 h => e17_0 O R q y0 h, trivial⟩
/- sprue/scan.Tokens -/
def c24 : MFunc := { np := 1, res := [.t 2, .t 3], frz := true, body := (.seq (.reg [⟨(some 2), (.mv (.k (.v (.c (.p .nilslice))))), none⟩, ⟨(some 3), (.mv (.k (.v (.c (.p (.int .i64 0)))))), none⟩] []) (.seq (.seq (.reg [⟨(some 9), (.mv (.t 0)), none⟩, ⟨(some 10), (.len 0 (.t 9)), none⟩, ⟨(some 11), (.bin .gtr 0 (.t 10) (.k (.v (.c (.p (.int .i64 1500)))))), none⟩] []) (.cond (.t 11) (.seq (.reg [⟨(some 2), (.mv (.k (.v (.c (.p .nilslice))))), none⟩, ⟨(some 3), (.mv (.k (.v (.c (.p (.int .i64 4)))))), none⟩] []) .ret) .skip)) (.seq (.reg [⟨(some 4), (.mv (.k (.v (.c (.p .nilslice))))), none⟩] []) (.seq (.seq (.reg [⟨(some 5), (.mv (.k (.v (.c (.p (.int .i64 0)))))), none⟩] []) (.block 0 (.loop 1 [0, 4, 5] (.block 1 (.seq (.block 2 (.loop 2 [0, 4, 5] (.seq (.seq (.reg [⟨(some 12), (.mv (.t 5)), none⟩, ⟨(some 13), (.mv (.t 0)), none⟩, ⟨(some 14), (.len 0 (.t 13)), none⟩, ⟨(some 15), (.bin .lss 0 (.t 12) (.t 14)), none⟩, ⟨(some 16), (.mv (.t 15)), none⟩, ⟨(some 17), (.mv (.t 0)), (some (16, true))⟩, ⟨(some 18), (.mv (.t 5)), (some (16, true))⟩, ⟨(some 19), (.mv (.t 5)), (some (16, true))⟩, ⟨(some 20), (.bin .add 0 (.t 19) (.k (.v (.c (.p (.int .i64 1)))))), (some (16, true))⟩, ⟨(some 21), (.slice 0 true (.t 17) (some (.t 18)) (some (.t 20)) none), (some (16, true))⟩, ⟨(some 22), (.call (.k (.v (.c (.func 46 [])))) [(.k (.v (.c (.p (.str [32, 9, 10, 13]))))), (.t 21)]), (some (16, true))⟩, ⟨(some 23), (.pick (.t 16) (.t 22) (.k (.v (.c (.p (.bool false)))))), none⟩] []) (.cond (.t 23) .skip (.exit 2))) (.block 3 (.reg [⟨(some 24), (.mv (.t 5)), none⟩, ⟨(some 25), (.bin .add 0 (.t 24) (.k (.v (.c (.p (.int .i64 1)))))), none⟩, ⟨(some 5), (.mv (.t 25)), none⟩] []))))) (.mark 3 [0, 4, 5] (.seq (.seq (.reg [⟨(some 26), (.mv (.t 5)), none⟩, ⟨(some 27), (.mv (.t 0)), none⟩, ⟨(some 28), (.len 0 (.t 27)), none⟩, ⟨(some 29), (.bin .eql 0 (.t 26) (.t 28)), none⟩] []) (.cond (.t 29) (.exit 0) .skip)) (.seq (.reg [⟨(some 31), (.mv (.t 0)), none⟩, ⟨(some 32), (.mv (.t 5)), none⟩, ⟨(some 33), (.slice 0 true (.t 31) (some (.t 32)) none none), none⟩, ⟨(some 34), (.call (.k (.v (.c (.func 47 [])))) [(.t 33)]), none⟩, ⟨(some 30), (.mv (.t 34)), none⟩, ⟨(some 35), (.extract (.t 30) 0), none⟩, ⟨(some 36), (.extract (.t 30) 1), none⟩, ⟨(some 37), (.extract (.t 30) 2), none⟩, ⟨(some 6), (.alloc [(.p (.int .i64 0)), (.p (.str [])), (.p (.int .i64 0)), (.p (.int .i64 0))] false), none⟩, ⟨none, (.store 4 (.t 6) (.t 35)), none⟩, ⟨(some 7), (.mv (.t 36)), none⟩, ⟨(some 8), (.mv (.t 37)), none⟩] []) (.seq (.seq (.reg [⟨(some 38), (.mv (.t 8)), none⟩, ⟨(some 39), (.bin .neq 0 (.t 38) (.k (.v (.c (.p (.int .i64 0)))))), none⟩] []) (.cond (.t 39) (.seq (.reg [⟨(some 40), (.mv (.t 8)), none⟩, ⟨(some 2), (.mv (.k (.v (.c (.p .nilslice))))), none⟩, ⟨(some 3), (.mv (.t 40)), none⟩] []) .ret) .skip)) (.seq (.reg [⟨(some 41), (.mv (.t 5)), none⟩, ⟨(some 42), (.faddr 3 (.t 6)), none⟩, ⟨none, (.store 1 (.t 42) (.t 41)), none⟩] []) (.seq (.reg [⟨(some 43), (.mv (.t 4)), none⟩, ⟨(some 44), (.load true 4 (.t 6)), none⟩, ⟨(some 45), (.bslice 4 1 [(.p (.int .i64 0)), (.p (.str [])), (.p (.int .i64 0)), (.p (.int .i64 0))] [(0, (.t 44))] false), none⟩, ⟨(some 46), (.append 4 40 false (.t 43) (.t 45)), none⟩, ⟨(some 4), (.mv (.t 46)), none⟩] []) (.reg [⟨(some 47), (.mv (.t 5)), none⟩, ⟨(some 48), (.mv (.t 7)), none⟩, ⟨(some 49), (.bin .add 0 (.t 47) (.t 48)), none⟩, ⟨(some 5), (.mv (.t 49)), none⟩] [])))))))))))) (.mark 4 [4] (.seq (.seq (.reg [⟨(some 50), (.mv (.t 4)), none⟩, ⟨(some 51), (.len 2 (.t 50)), none⟩, ⟨(some 52), (.bin .gtr 0 (.t 51) (.k (.v (.c (.p (.int .i64 400)))))), none⟩] []) (.cond (.t 52) (.seq (.reg [⟨(some 2), (.mv (.k (.v (.c (.p .nilslice))))), none⟩, ⟨(some 3), (.mv (.k (.v (.c (.p (.int .i64 3)))))), none⟩] []) .ret) .skip)) (.seq (.reg [⟨(some 53), (.mv (.t 4)), none⟩, ⟨(some 2), (.mv (.t 53)), none⟩, ⟨(some 3), (.mv (.k (.v (.c (.p (.int .i64 0)))))), none⟩] []) .ret))))))) }
theorem t24 : compF Tryd.prog (globs2 tabs opq) false true Tryd.f24 = some c24.erase := by kernel_rfl
noncomputable def b24_0 (O : Oracle) (R : Jump) (q : Nat) (x0 : TVal) (h : Heap) : Res1 :=
  vlen O 0 x0 h 10 fun x10 h =>
  vbin .gtr 0 x10 (kI 1500) h fun x11 h =>
  vif x11 (
  tcomp (.v (.c (.p .nilslice))) fun c0 => tcomp (kI 4) fun c1 => vfin true q [c0, c1] h)
  (R 1 [x0, (.v (.c (.p .nilslice))), (kI 0)] h)
theorem e24_0 (O : Oracle) (R : Jump) (q : Nat) (x0 : TVal) (h : Heap) : b24_0 O R q x0 h = stepF c24 O R q 0 [x0] h := by kernel_rfl
noncomputable def b24_1 (O : Oracle) (R : Jump) (q : Nat) (x0 x4 x5 : TVal) (h : Heap) : Res1 :=
  R 2 [x0, x4, x5] h
theorem e24_1 (O : Oracle) (R : Jump) (q : Nat) (x0 x4 x5 : TVal) (h : Heap) : b24_1 O R q x0 x4 x5 h = stepF c24 O R q 1 [x0, x4, x5] h := by kernel_rfl
noncomputable def b24_2 (O : Oracle) (R : Jump) (q : Nat) (x0 x4 x5 : TVal) (h : Heap) : Res1 :=
  vlen O 0 x0 h 14 fun x14 h =>
  vbin .lss 0 x5 x14 h fun x15 h =>
  vguard x15 true (fun kk => kk x0 h) h fun x17 h =>
  vguard x15 true (fun kk => kk x5 h) h fun x18 h =>
  vguard x15 true (fun kk => kk x5 h) h fun x19 h =>
  vguard x15 true (fun kk => vbin .add 0 x19 (kI 1) h kk) h fun x20 h =>
  vguard x15 true (fun kk => vop O (.slice 0 true (.k x17) (some (.k x18)) (some (.k x20)) none) h 21 kk) h fun x21 h =>
  vguard x15 true (fun kk => vcall O (.v (.c (.func 46 []))) [(kS [32, 9, 10, 13]), x21] h 22 kk) h fun x22 h =>
  vop O (.pick (.k x15) (.k x22) (.k (kB false))) h 23 fun x23 h =>
  vif x23 (
  vbin .add 0 x5 (kI 1) h fun x25 h =>
  R 2 [x0, x4, x25] h)
  (R 3 [x0, x4, x5] h)
theorem e24_2 (O : Oracle) (R : Jump) (q : Nat) (x0 x4 x5 : TVal) (h : Heap) : b24_2 O R q x0 x4 x5 h = stepF c24 O R q 2 [x0, x4, x5] h := by kernel_rfl
noncomputable def b24_3 (O : Oracle) (R : Jump) (q : Nat) (x0 x4 x5 : TVal) (h : Heap) : Res1 :=
  vlen O 0 x0 h 28 fun x28 h =>
  vbin .eql 0 x5 x28 h fun x29 h =>
  vif x29 (
  R 4 [x4] h)
  (vop O (.slice 0 true (.k x0) (some (.k x5)) none none) h 33 fun x33 h =>
  vcall O (.v (.c (.func 47 []))) [x33] h 34 fun x34 h =>
  vext x34 0 h fun x35 h =>
  vext x34 1 h fun x36 h =>
  vext x34 2 h fun x37 h =>
  vop O (.alloc [(.p (.int .i64 0)), (.p (.str [])), (.p (.int .i64 0)), (.p (.int .i64 0))] false) h 6 fun x6 h =>
  vstore 4 x6 x35 h fun _ h =>
  vbin .neq 0 x37 (kI 0) h fun x39 h =>
  vif x39 (
  tcomp (.v (.c (.p .nilslice))) fun c0 => tcomp x37 fun c1 => vfin true q [c0, c1] h)
  (vfaddr 3 x6 h fun x42 h =>
  vstore 1 x42 x5 h fun _ h =>
  vload true 4 x6 h fun x44 h =>
  vop O (.bslice 4 1 [(.p (.int .i64 0)), (.p (.str [])), (.p (.int .i64 0)), (.p (.int .i64 0))] [(0, (.k x44))] false) h 45 fun x45 h =>
  vop O (.append 4 40 false (.k x4) (.k x45)) h 46 fun x46 h =>
  vbin .add 0 x5 x36 h fun x49 h =>
  R 1 [x0, x46, x49] h))
theorem e24_3 (O : Oracle) (R : Jump) (q : Nat) (x0 x4 x5 : TVal) (h : Heap) : b24_3 O R q x0 x4 x5 h = stepF c24 O R q 3 [x0, x4, x5] h := by kernel_rfl
noncomputable def b24_4 (O : Oracle) (R : Jump) (q : Nat) (x4 : TVal) (h : Heap) : Res1 :=
  vlen O 2 x4 h 51 fun x51 h =>
  vbin .gtr 0 x51 (kI 400) h fun x52 h =>
  vif x52 (
  tcomp (.v (.c (.p .nilslice))) fun c0 => tcomp (kI 3) fun c1 => vfin true q [c0, c1] h)
  (tcomp x4 fun c0 => tcomp (kI 0) fun c1 => vfin true q [c0, c1] h)
theorem e24_4 (O : Oracle) (R : Jump) (q : Nat) (x4 : TVal) (h : Heap) : b24_4 O R q x4 h = stepF c24 O R q 4 [x4] h := by kernel_rfl
noncomputable def d24 : BlkF := fun O R q => [.s fun y0 => .z fun h => b24_0 O R q y0 h, .s fun y0 => .s fun y1 => .s fun y2 => .z fun h => b24_1 O R q y0 y1 y2 h, .s fun y0 => .s fun y1 => .s fun y2 => .z fun h => b24_2 O R q y0 y1 y2 h, .s fun y0 => .s fun y1 => .s fun y2 => .z fun h => b24_3 O R q y0 y1 y2 h, .s fun y0 => .z fun h => b24_4 O R q y0 h]
theorem o24 (O : Oracle) (R : Jump) (q : Nat) : HoldsAll c24 O R q 0 (d24 O R q) := ⟨fun y0 h => e24_0 O R q y0 h, fun y0 y1 y2 h => e24_1 O R q y0 y1 y2 h, fun y0 y1 y2 h => e24_2 O R q y0 y1 y2 h, fun y0 y1 y2 h => e24_3 O R q y0 y1 y2 h, fun y0 h => e24_4 O R q y0 h, trivial⟩
/- sprue/text.Split -/
def c25 : MFunc := { np := 1, res := [.t 2, .t 3], frz := true, body := (.seq (.reg [⟨(some 2), (.mv (.k (.v (.c (.p .nilslice))))), none⟩, ⟨(some 3), (.mv (.k (.v (.c (.p (.int .i64 0)))))), none⟩] []) (.seq (.seq (.reg [⟨(some 7), (.mv (.t 0)), none⟩, ⟨(some 8), (.len 0 (.t 7)), none⟩, ⟨(some 9), (.bin .gtr 0 (.t 8) (.k (.v (.c (.p (.int .i64 1500)))))), none⟩] []) (.cond (.t 9) (.seq (.reg [⟨(some 2), (.mv (.k (.v (.c (.p .nilslice))))), none⟩, ⟨(some 3), (.mv (.k (.v (.c (.p (.int .i64 4)))))), none⟩] []) .ret) .skip)) (.seq (.reg [⟨(some 4), (.mv (.k (.v (.c (.p .nilslice))))), none⟩] []) (.seq (.seq (.reg [⟨(some 5), (.mv (.k (.v (.c (.p (.int .i64 0)))))), none⟩] []) (.block 0 (.loop 1 [0, 4, 5] (.seq (.seq (.reg [⟨(some 10), (.mv (.t 5)), none⟩, ⟨(some 11), (.mv (.t 0)), none⟩, ⟨(some 12), (.len 0 (.t 11)), none⟩, ⟨(some 13), (.bin .lss 0 (.t 10) (.t 12)), none⟩] []) (.cond (.t 13) .skip (.exit 0))) (.block 1 (.seq (.reg [⟨(some 14), (.mv (.t 0)), none⟩, ⟨(some 15), (.mv (.t 5)), none⟩, ⟨(some 16), (.slice 0 true (.t 14) (some (.t 15)) none none), none⟩, ⟨(some 17), (.call (.k (.v (.c (.func 48 [])))) [(.t 16), (.k (.v (.c (.p (.str [123, 123])))))]), none⟩, ⟨(some 6), (.mv (.t 17)), none⟩] []) (.seq (.seq (.reg [⟨(some 18), (.mv (.t 6)), none⟩, ⟨(some 19), (.bin .lss 0 (.t 18) (.k (.v (.c (.p (.int .i64 0)))))), none⟩] []) (.cond (.t 19) (.reg [⟨(some 20), (.mv (.t 0)), none⟩, ⟨(some 21), (.len 0 (.t 20)), none⟩, ⟨(some 22), (.mv (.t 5)), none⟩, ⟨(some 23), (.bin .sub 0 (.t 21) (.t 22)), none⟩, ⟨(some 6), (.mv (.t 23)), none⟩] []) .skip)) (.mark 2 [0, 4, 5, 6] (.seq (.seq (.reg [⟨(some 24), (.mv (.t 6)), none⟩, ⟨(some 25), (.bin .gtr 0 (.t 24) (.k (.v (.c (.p (.int .i64 0)))))), none⟩] []) (.cond (.t 25) (.seq (.reg [⟨(some 26), (.mv (.t 4)), none⟩, ⟨(some 27), (.mv (.t 0)), none⟩, ⟨(some 28), (.mv (.t 5)), none⟩, ⟨(some 29), (.mv (.t 5)), none⟩, ⟨(some 30), (.mv (.t 6)), none⟩, ⟨(some 31), (.bin .add 0 (.t 29) (.t 30)), none⟩, ⟨(some 32), (.slice 0 true (.t 27) (some (.t 28)) (some (.t 31)) none), none⟩, ⟨(some 33), (.mv (.t 5)), none⟩, ⟨(some 34), (.build [(.p (.bool false)), (.p (.str [])), (.p (.int .i64 0))] [(1, 1, (.t 32)), (2, 1, (.t 33))]), none⟩, ⟨(some 35), (.bslice 3 1 [(.p (.bool false)), (.p (.str [])), (.p (.int .i64 0))] [(0, (.t 34))] false), none⟩, ⟨(some 36), (.append 3 32 false (.t 26) (.t 35)), none⟩, ⟨(some 4), (.mv (.t 36)), none⟩] []) (.seq (.reg [⟨(some 37), (.mv (.t 5)), none⟩, ⟨(some 38), (.mv (.t 6)), none⟩, ⟨(some 39), (.bin .add 0 (.t 37) (.t 38)), none⟩, ⟨(some 5), (.mv (.t 39)), none⟩] []) (.exit 1))) .skip)) (.seq (.reg [⟨(some 40), (.mv (.t 0)), none⟩, ⟨(some 41), (.mv (.t 5)), none⟩, ⟨(some 42), (.bin .add 0 (.t 41) (.k (.v (.c (.p (.int .i64 2)))))), none⟩, ⟨(some 43), (.slice 0 true (.t 40) (some (.t 42)) none none), none⟩, ⟨(some 44), (.call (.k (.v (.c (.func 49 [])))) [(.t 43)]), none⟩, ⟨(some 6), (.mv (.t 44)), none⟩] []) (.seq (.seq (.reg [⟨(some 45), (.mv (.t 6)), none⟩, ⟨(some 46), (.bin .lss 0 (.t 45) (.k (.v (.c (.p (.int .i64 0)))))), none⟩] []) (.cond (.t 46) (.seq (.reg [⟨(some 2), (.mv (.k (.v (.c (.p .nilslice))))), none⟩, ⟨(some 3), (.mv (.k (.v (.c (.p (.int .i64 11)))))), none⟩] []) .ret) .skip)) (.seq (.reg [⟨(some 47), (.mv (.t 4)), none⟩, ⟨(some 48), (.mv (.t 0)), none⟩, ⟨(some 49), (.mv (.t 5)), none⟩, ⟨(some 50), (.bin .add 0 (.t 49) (.k (.v (.c (.p (.int .i64 2)))))), none⟩, ⟨(some 51), (.mv (.t 5)), none⟩, ⟨(some 52), (.bin .add 0 (.t 51) (.k (.v (.c (.p (.int .i64 2)))))), none⟩, ⟨(some 53), (.mv (.t 6)), none⟩, ⟨(some 54), (.bin .add 0 (.t 52) (.t 53)), none⟩, ⟨(some 55), (.slice 0 true (.t 48) (some (.t 50)) (some (.t 54)) none), none⟩, ⟨(some 56), (.mv (.t 5)), none⟩, ⟨(some 57), (.build [(.p (.bool false)), (.p (.str [])), (.p (.int .i64 0))] [(0, 1, (.k (.v (.c (.p (.bool true)))))), (1, 1, (.t 55)), (2, 1, (.t 56))]), none⟩, ⟨(some 58), (.bslice 3 1 [(.p (.bool false)), (.p (.str [])), (.p (.int .i64 0))] [(0, (.t 57))] false), none⟩, ⟨(some 59), (.append 3 32 false (.t 47) (.t 58)), none⟩, ⟨(some 4), (.mv (.t 59)), none⟩] []) (.reg [⟨(some 60), (.mv (.t 5)), none⟩, ⟨(some 61), (.mv (.t 6)), none⟩, ⟨(some 62), (.bin .add 0 (.k (.v (.c (.p (.int .i64 2))))) (.t 61)), none⟩, ⟨(some 63), (.bin .add 0 (.t 62) (.k (.v (.c (.p (.int .i64 2)))))), none⟩, ⟨(some 64), (.bin .add 0 (.t 60) (.t 63)), none⟩, ⟨(some 5), (.mv (.t 64)), none⟩] []))))))))))))) (.mark 3 [4] (.seq (.seq (.reg [⟨(some 65), (.mv (.t 4)), none⟩, ⟨(some 66), (.len 2 (.t 65)), none⟩, ⟨(some 67), (.bin .gtr 0 (.t 66) (.k (.v (.c (.p (.int .i64 200)))))), none⟩] []) (.cond (.t 67) (.seq (.reg [⟨(some 2), (.mv (.k (.v (.c (.p .nilslice))))), none⟩, ⟨(some 3), (.mv (.k (.v (.c (.p (.int .i64 3)))))), none⟩] []) .ret) .skip)) (.seq (.reg [⟨(some 68), (.mv (.t 4)), none⟩, ⟨(some 2), (.mv (.t 68)), none⟩, ⟨(some 3), (.mv (.k (.v (.c (.p (.int .i64 0)))))), none⟩] []) .ret))))))) }
theorem t25 : compF Tryd.prog (globs2 tabs opq) false true Tryd.f25 = some c25.erase := by kernel_rfl
noncomputable def b25_0 (O : Oracle) (R : Jump) (q : Nat) (x0 : TVal) (h : Heap) : Res1 :=
  vlen O 0 x0 h 8 fun x8 h =>
  vbin .gtr 0 x8 (kI 1500) h fun x9 h =>
  vif x9 (
  tcomp (.v (.c (.p .nilslice))) fun c0 => tcomp (kI 4) fun c1 => vfin true q [c0, c1] h)
  (R 1 [x0, (.v (.c (.p .nilslice))), (kI 0)] h)
theorem e25_0 (O : Oracle) (R : Jump) (q : Nat) (x0 : TVal) (h : Heap) : b25_0 O R q x0 h = stepF c25 O R q 0 [x0] h := by kernel_rfl
noncomputable def b25_1 (O : Oracle) (R : Jump) (q : Nat) (x0 x4 x5 : TVal) (h : Heap) : Res1 :=
  vlen O 0 x0 h 12 fun x12 h =>
  vbin .lss 0 x5 x12 h fun x13 h =>
  vif x13 (
  vop O (.slice 0 true (.k x0) (some (.k x5)) none none) h 16 fun x16 h =>
  vcall O (.v (.c (.func 48 []))) [x16, (kS [123, 123])] h 17 fun x17 h =>
  vbin .lss 0 x17 (kI 0) h fun x19 h =>
  vif x19 (
  vlen O 0 x0 h 21 fun x21 h =>
  vbin .sub 0 x21 x5 h fun x23 h =>
  R 2 [x0, x4, x5, x23] h)
  (R 2 [x0, x4, x5, x17] h))
  (R 3 [x4] h)
theorem e25_1 (O : Oracle) (R : Jump) (q : Nat) (x0 x4 x5 : TVal) (h : Heap) : b25_1 O R q x0 x4 x5 h = stepF c25 O R q 1 [x0, x4, x5] h := by kernel_rfl
noncomputable def b25_2 (O : Oracle) (R : Jump) (q : Nat) (x0 x4 x5 x6 : TVal) (h : Heap) : Res1 :=
  vbin .gtr 0 x6 (kI 0) h fun x25 h =>
  vif x25 (
  vbin .add 0 x5 x6 h fun x31 h =>
  vop O (.slice 0 true (.k x0) (some (.k x5)) (some (.k x31)) none) h 32 fun x32 h =>
  vop O (.build [(.p (.bool false)), (.p (.str [])), (.p (.int .i64 0))] [(1, 1, (.k x32)), (2, 1, (.k x5))]) h 34 fun x34 h =>
  vop O (.bslice 3 1 [(.p (.bool false)), (.p (.str [])), (.p (.int .i64 0))] [(0, (.k x34))] false) h 35 fun x35 h =>
  vop O (.append 3 32 false (.k x4) (.k x35)) h 36 fun x36 h =>
  vbin .add 0 x5 x6 h fun x39 h =>
  R 1 [x0, x36, x39] h)
  (vbin .add 0 x5 (kI 2) h fun x42 h =>
  vop O (.slice 0 true (.k x0) (some (.k x42)) none none) h 43 fun x43 h =>
  vcall O (.v (.c (.func 49 []))) [x43] h 44 fun x44 h =>
  vbin .lss 0 x44 (kI 0) h fun x46 h =>
  vif x46 (
  tcomp (.v (.c (.p .nilslice))) fun c0 => tcomp (kI 11) fun c1 => vfin true q [c0, c1] h)
  (vbin .add 0 x5 (kI 2) h fun x50 h =>
  vbin .add 0 x5 (kI 2) h fun x52 h =>
  vbin .add 0 x52 x44 h fun x54 h =>
  vop O (.slice 0 true (.k x0) (some (.k x50)) (some (.k x54)) none) h 55 fun x55 h =>
  vop O (.build [(.p (.bool false)), (.p (.str [])), (.p (.int .i64 0))] [(0, 1, (.k (kB true))), (1, 1, (.k x55)), (2, 1, (.k x5))]) h 57 fun x57 h =>
  vop O (.bslice 3 1 [(.p (.bool false)), (.p (.str [])), (.p (.int .i64 0))] [(0, (.k x57))] false) h 58 fun x58 h =>
  vop O (.append 3 32 false (.k x4) (.k x58)) h 59 fun x59 h =>
  vbin .add 0 (kI 2) x44 h fun x62 h =>
  vbin .add 0 x62 (kI 2) h fun x63 h =>
  vbin .add 0 x5 x63 h fun x64 h =>
  R 1 [x0, x59, x64] h))
theorem e25_2 (O : Oracle) (R : Jump) (q : Nat) (x0 x4 x5 x6 : TVal) (h : Heap) : b25_2 O R q x0 x4 x5 x6 h = stepF c25 O R q 2 [x0, x4, x5, x6] h := by kernel_rfl
noncomputable def b25_3 (O : Oracle) (R : Jump) (q : Nat) (x4 : TVal) (h : Heap) : Res1 :=
  vlen O 2 x4 h 66 fun x66 h =>
  vbin .gtr 0 x66 (kI 200) h fun x67 h =>
  vif x67 (
  tcomp (.v (.c (.p .nilslice))) fun c0 => tcomp (kI 3) fun c1 => vfin true q [c0, c1] h)
  (tcomp x4 fun c0 => tcomp (kI 0) fun c1 => vfin true q [c0, c1] h)
theorem e25_3 (O : Oracle) (R : Jump) (q : Nat) (x4 : TVal) (h : Heap) : b25_3 O R q x4 h = stepF c25 O R q 3 [x4] h := by kernel_rfl
noncomputable def d25 : BlkF := fun O R q => [.s fun y0 => .z fun h => b25_0 O R q y0 h, .s fun y0 => .s fun y1 => .s fun y2 => .z fun h => b25_1 O R q y0 y1 y2 h, .s fun y0 => .s fun y1 => .s fun y2 => .s fun y3 => .z fun h => b25_2 O R q y0 y1 y2 y3 h, .s fun y0 => .z fun h => b25_3 O R q y0 h]
theorem o25 (O : Oracle) (R : Jump) (q : Nat) : HoldsAll c25 O R q 0 (d25 O R q) := ⟨fun y0 h => e25_0 O R q y0 h, fun y0 y1 y2 h => e25_1 O R q y0 y1 y2 h, fun y0 y1 y2 y3 h => e25_2 O R q y0 y1 y2 y3 h, fun y0 h => e25_3 O R q y0 h, trivial⟩
/- (*sprue/tree.maker).action -/
def c26 : MFunc := { np := 2, res := [.t 4], frz := true, body := (.seq (.reg [⟨(some 3), (.box (.t 1) true), none⟩, ⟨(some 4), (.mv (.k (.v (.c (.p (.int .i64 0)))))), none⟩] []) (.seq (.reg [⟨(some 9), (.faddr 1 (.t 3)), none⟩, ⟨(some 10), (.load false 1 (.t 9)), none⟩, ⟨(some 11), (.call (.k (.v (.c (.func 50 [])))) [(.t 10)]), none⟩, ⟨(some 8), (.mv (.t 11)), none⟩, ⟨(some 12), (.extract (.t 8) 0), none⟩, ⟨(some 13), (.extract (.t 8) 1), none⟩, ⟨(some 5), (.alloc [(.p (.int .i64 0)), (.p (.int .i64 0)), (.p (.str [])), (.p (.str [])), (.p .nilslice), (.p .nilslice), (.p .nilslice), (.p (.bool false)), (.p .nilslice), (.p (.str []))] true), none⟩, ⟨none, (.store 10 (.t 5) (.t 12)), none⟩, ⟨(some 6), (.mv (.t 13)), none⟩] []) (.seq (.seq (.reg [⟨(some 14), (.mv (.t 6)), none⟩, ⟨(some 15), (.bin .neq 0 (.t 14) (.k (.v (.c (.p (.int .i64 0)))))), none⟩] []) (.cond (.t 15) (.seq (.reg [⟨(some 16), (.mv (.t 6)), none⟩, ⟨(some 4), (.mv (.t 16)), none⟩] []) .ret) .skip)) (.seq (.seq (.reg [⟨(some 17), (.mv (.t 0)), none⟩, ⟨(some 18), (.load true 10 (.t 5)), none⟩, ⟨(some 19), (.call (.k (.v (.c (.func 51 [])))) [(.t 17), (.t 18)]), none⟩] []) (.cond (.t 19) (.seq (.reg [⟨(some 4), (.mv (.k (.v (.c (.p (.int .i64 12)))))), none⟩] []) .ret) .skip)) (.seq (.reg [⟨(some 20), (.faddr 2 (.t 3)), none⟩, ⟨(some 21), (.load false 1 (.t 20)), none⟩, ⟨(some 22), (.faddr 0 (.t 5)), none⟩, ⟨(some 23), (.faddr 1 (.t 22)), none⟩, ⟨none, (.store 1 (.t 23) (.t 21)), none⟩] []) (.seq (.reg [⟨(some 24), (.mv (.t 0)), none⟩, ⟨(some 25), (.call (.k (.v (.c (.func 28 [])))) [(.t 24)]), none⟩, ⟨(some 7), (.mv (.t 25)), none⟩] []) (.seq (.seq (.reg [⟨(some 26), (.faddr 0 (.t 5)), none⟩, ⟨(some 27), (.faddr 0 (.t 26)), none⟩, ⟨(some 28), (.load false 1 (.t 27)), none⟩] []) (.block 0 (.seq (.block 6 (.seq (.block 5 (.seq (.block 4 (.seq (.block 3 (.seq (.block 2 (.seq (.block 1 (.seq (.seq (.seq (.reg [⟨(some 30), (.bin .eql 0 (.t 28) (.k (.v (.c (.p (.int .i64 (-2))))))), none⟩, ⟨(some 29), (.mv (.t 30)), none⟩] []) (.cond (.t 29) (.exit 1) .skip)) (.seq (.seq (.reg [⟨(some 32), (.bin .eql 0 (.t 28) (.k (.v (.c (.p (.int .i64 (-1))))))), none⟩, ⟨(some 31), (.mv (.t 32)), none⟩] []) (.cond (.t 31) (.exit 2) .skip)) (.seq (.seq (.reg [⟨(some 34), (.bin .eql 0 (.t 28) (.k (.v (.c (.p (.int .i64 (-3))))))), none⟩, ⟨(some 33), (.mv (.t 34)), none⟩] []) (.cond (.t 33) (.exit 3) .skip)) (.seq (.seq (.seq (.reg [⟨(some 36), (.bin .eql 0 (.t 28) (.k (.v (.c (.p (.int .i64 (-4))))))), none⟩, ⟨(some 35), (.mv (.t 36)), none⟩] []) (.cond (.t 35) .skip (.seq (.reg [⟨(some 37), (.bin .eql 0 (.t 28) (.k (.v (.c (.p (.int .i64 5)))))), none⟩, ⟨(some 35), (.mv (.t 37)), none⟩] []) (.cond (.t 35) .skip (.seq (.reg [⟨(some 38), (.bin .eql 0 (.t 28) (.k (.v (.c (.p (.int .i64 6)))))), none⟩, ⟨(some 35), (.mv (.t 38)), none⟩] []) (.cond (.t 35) .skip (.seq (.reg [⟨(some 39), (.bin .eql 0 (.t 28) (.k (.v (.c (.p (.int .i64 7)))))), none⟩, ⟨(some 35), (.mv (.t 39)), none⟩] []) (.cond (.t 35) .skip (.reg [⟨(some 40), (.bin .eql 0 (.t 28) (.k (.v (.c (.p (.int .i64 8)))))), none⟩, ⟨(some 35), (.mv (.t 40)), none⟩] []))))))))) (.mark 1 [0, 5, 28, 35] (.cond (.t 35) (.exit 4) .skip))) (.seq (.reg [⟨(some 42), (.bin .eql 0 (.t 28) (.k (.v (.c (.p (.int .i64 9)))))), none⟩, ⟨(some 41), (.mv (.t 42)), none⟩] []) (.cond (.t 41) (.exit 5) .skip)))))) (.exit 6))) (.seq (.reg [⟨(some 43), (.mv (.t 0)), none⟩, ⟨(some 44), (.call (.k (.v (.c (.func 52 [])))) [(.t 43)]), none⟩] []) (.exit 0)))) (.seq (.seq (.reg [⟨(some 45), (.mv (.t 7)), none⟩, ⟨(some 46), (.nilck (.t 45)), none⟩, ⟨(some 47), (.faddr 11 (.t 46)), none⟩, ⟨none, (.store 1 (.t 47) (.k (.v (.c (.p (.bool true)))))), none⟩] []) (.reg [⟨(some 48), (.mv (.t 7)), none⟩, ⟨(some 49), (.mv (.t 7)), none⟩, ⟨(some 50), (.nilck (.t 49)), none⟩, ⟨(some 51), (.faddr 10 (.t 50)), none⟩, ⟨(some 52), (.load false 1 (.t 51)), none⟩, ⟨(some 53), (.bslice 1 1 [(.p .nilslice)] [(0, (.k (.v (.c (.p .nilslice)))))] true), none⟩, ⟨(some 54), (.append 1 24 true (.t 52) (.t 53)), none⟩, ⟨(some 55), (.nilck (.t 48)), none⟩, ⟨(some 56), (.faddr 10 (.t 55)), none⟩, ⟨none, (.store 1 (.t 56) (.t 54)), none⟩] [])) (.exit 0)))) (.seq (.seq (.reg [⟨(some 57), (.mv (.t 7)), none⟩, ⟨(some 58), (.nilck (.t 57)), none⟩, ⟨(some 59), (.faddr 12 (.t 58)), none⟩, ⟨none, (.store 1 (.t 59) (.k (.v (.c (.p (.bool true)))))), none⟩] []) (.seq (.reg [⟨(some 60), (.mv (.t 7)), none⟩, ⟨(some 61), (.mv (.t 7)), none⟩, ⟨(some 62), (.nilck (.t 61)), none⟩, ⟨(some 63), (.faddr 0 (.t 62)), none⟩, ⟨(some 64), (.faddr 8 (.t 63)), none⟩, ⟨(some 65), (.load false 1 (.t 64)), none⟩, ⟨(some 66), (.faddr 0 (.t 5)), none⟩, ⟨(some 67), (.faddr 3 (.t 66)), none⟩, ⟨(some 68), (.load false 1 (.t 67)), none⟩, ⟨(some 69), (.build [(.p (.str [])), (.p .nilslice)] [(0, 1, (.t 68))]), none⟩, ⟨(some 70), (.bslice 2 1 [(.p (.str [])), (.p .nilslice)] [(0, (.t 69))] true), none⟩, ⟨(some 71), (.append 2 40 true (.t 65) (.t 70)), none⟩, ⟨(some 72), (.nilck (.t 60)), none⟩, ⟨(some 73), (.faddr 0 (.t 72)), none⟩, ⟨(some 74), (.faddr 8 (.t 73)), none⟩, ⟨none, (.store 1 (.t 74) (.t 71)), none⟩] [(5, 10)]) (.reg [⟨(some 75), (.mv (.t 7)), none⟩, ⟨(some 76), (.mv (.t 7)), none⟩, ⟨(some 77), (.nilck (.t 76)), none⟩, ⟨(some 78), (.faddr 10 (.t 77)), none⟩, ⟨(some 79), (.load false 1 (.t 78)), none⟩, ⟨(some 80), (.bslice 1 1 [(.p .nilslice)] [(0, (.k (.v (.c (.p .nilslice)))))] true), none⟩, ⟨(some 81), (.append 1 24 true (.t 79) (.t 80)), none⟩, ⟨(some 82), (.nilck (.t 75)), none⟩, ⟨(some 83), (.faddr 10 (.t 82)), none⟩, ⟨none, (.store 1 (.t 83) (.t 81)), none⟩] []))) (.exit 0)))) (.seq (.seq (.reg [⟨(some 84), (.mv (.t 0)), none⟩, ⟨(some 85), (.load true 10 (.t 5)), none⟩, ⟨(some 86), (.call (.k (.v (.c (.func 53 [])))) [(.t 84), (.t 85)]), none⟩, ⟨(some 4), (.mv (.t 86)), none⟩] []) .ret) (.exit 0)))) (.seq (.reg [⟨(some 87), (.faddr 0 (.t 5)), none⟩, ⟨(some 88), (.faddr 3 (.t 87)), none⟩, ⟨(some 89), (.load false 1 (.t 88)), none⟩, ⟨(some 90), (.call (.k (.v (.c (.func 54 [])))) [(.t 89)]), none⟩, ⟨(some 91), (.un .not (.t 90)), none⟩] []) (.cond (.t 91) (.seq (.reg [⟨(some 4), (.mv (.k (.v (.c (.p (.int .i64 15)))))), none⟩] []) .ret) .skip)))) (.mark 2 [0, 5] (.seq (.reg [⟨(some 92), (.mv (.t 0)), none⟩, ⟨(some 93), (.faddr 0 (.t 5)), none⟩, ⟨(some 94), (.load true 9 (.t 93)), none⟩, ⟨(some 95), (.call (.k (.v (.c (.func 55 [])))) [(.t 92), (.t 94)]), none⟩] []) (.exit 0)))))) (.seq (.reg [⟨(some 4), (.mv (.k (.v (.c (.p (.int .i64 0)))))), none⟩] []) .ret)))))))) }
theorem t26 : compF Tryd.prog (globs2 tabs opq) true true Tryd.f26 = some c26.erase := by kernel_rfl
noncomputable def b26_0 (O : Oracle) (R : Jump) (q : Nat) (x0 x1 : TVal) (h : Heap) : Res1 :=
  vop O (.box (.k x1) true) h 3 fun x3 h =>
  vfaddr 1 x3 h fun x9 h =>
  vload false 1 x9 h fun x10 h =>
  vcall O (.v (.c (.func 50 []))) [x10] h 11 fun x11 h =>
  vext x11 0 h fun x12 h =>
  vext x11 1 h fun x13 h =>
  vop O (.alloc [(.p (.int .i64 0)), (.p (.int .i64 0)), (.p (.str [])), (.p (.str [])), (.p .nilslice), (.p .nilslice), (.p .nilslice), (.p (.bool false)), (.p .nilslice), (.p (.str []))] true) h 5 fun x5 h =>
  vstore 10 x5 x12 h fun _ h =>
  vbin .neq 0 x13 (kI 0) h fun x15 h =>
  vif x15 (
  tcomp x13 fun c0 => vfin true q [c0] h)
  (vload true 10 x5 h fun x18 h =>
  vcall O (.v (.c (.func 51 []))) [x0, x18] h 19 fun x19 h =>
  vif x19 (
  tcomp (kI 12) fun c0 => vfin true q [c0] h)
  (vfaddr 2 x3 h fun x20 h =>
  vload false 1 x20 h fun x21 h =>
  vfaddr 0 x5 h fun x22 h =>
  vfaddr 1 x22 h fun x23 h =>
  vstore 1 x23 x21 h fun _ h =>
  vcall O (.v (.c (.func 28 []))) [x0] h 25 fun x25 h =>
  vfaddr 0 x5 h fun x26 h =>
  vfaddr 0 x26 h fun x27 h =>
  vload false 1 x27 h fun x28 h =>
  vbin .eql 0 x28 (kI (-2)) h fun x30 h =>
  vif x30 (
  vcall O (.v (.c (.func 52 []))) [x0] h 44 fun x44 h =>
  tcomp (kI 0) fun c0 => vfin true q [c0] h)
  (vbin .eql 0 x28 (kI (-1)) h fun x32 h =>
  vif x32 (
  vop O (.nilck (.k x25)) h 46 fun x46 h =>
  vfaddr 11 x46 h fun x47 h =>
  vstore 1 x47 (kB true) h fun _ h =>
  vop O (.nilck (.k x25)) h 50 fun x50 h =>
  vfaddr 10 x50 h fun x51 h =>
  vload false 1 x51 h fun x52 h =>
  vop O (.bslice 1 1 [(.p .nilslice)] [(0, (.k (.v (.c (.p .nilslice)))))] true) h 53 fun x53 h =>
  vop O (.append 1 24 true (.k x52) (.k x53)) h 54 fun x54 h =>
  vop O (.nilck (.k x25)) h 55 fun x55 h =>
  vfaddr 10 x55 h fun x56 h =>
  vstore 1 x56 x54 h fun _ h =>
  tcomp (kI 0) fun c0 => vfin true q [c0] h)
  (vbin .eql 0 x28 (kI (-3)) h fun x34 h =>
  vif x34 (
  vop O (.nilck (.k x25)) h 58 fun x58 h =>
  vfaddr 12 x58 h fun x59 h =>
  vstore 1 x59 (kB true) h fun _ h =>
  vtouch O (.mv (.k x25)) h 60 fun x60 h t0 =>
  vtouch O (.mv (.k x25)) h 61 fun x61 h t1 =>
  vtouch O (.nilck (.k x61)) h 62 fun x62 h t2 =>
  vtouch O (.faddr 0 (.k x62)) h 63 fun x63 h t3 =>
  vtouch O (.faddr 8 (.k x63)) h 64 fun x64 h t4 =>
  vtouch O (.load false 1 (.k x64)) h 65 fun x65 h t5 =>
  vtouch O (.faddr 0 (.k x5)) h 66 fun x66 h t6 =>
  vtouch O (.faddr 3 (.k x66)) h 67 fun x67 h t7 =>
  vtouch O (.load false 1 (.k x67)) h 68 fun x68 h t8 =>
  vtouch O (.build [(.p (.str [])), (.p .nilslice)] [(0, 1, (.k x68))]) h 69 fun x69 h t9 =>
  vtouch O (.bslice 2 1 [(.p (.str [])), (.p .nilslice)] [(0, (.k x69))] true) h 70 fun x70 h t10 =>
  vtouch O (.append 2 40 true (.k x65) (.k x70)) h 71 fun x71 h t11 =>
  vtouch O (.nilck (.k x60)) h 72 fun x72 h t12 =>
  vtouch O (.faddr 0 (.k x72)) h 73 fun x73 h t13 =>
  vtouch O (.faddr 8 (.k x73)) h 74 fun x74 h t14 =>
  vtouch O (.store 1 (.k x74) (.k x71)) h 1000000 fun _ h t15 =>
  bif apartAll [t0, t1, t2, t3, t4, t5, t6, t7, t8, t9, t10, t11, t12, t13, t14, t15] [(5, 10)] then
  vop O (.nilck (.k x25)) h 77 fun x77 h =>
  vfaddr 10 x77 h fun x78 h =>
  vload false 1 x78 h fun x79 h =>
  vop O (.bslice 1 1 [(.p .nilslice)] [(0, (.k (.v (.c (.p .nilslice)))))] true) h 80 fun x80 h =>
  vop O (.append 1 24 true (.k x79) (.k x80)) h 81 fun x81 h =>
  vop O (.nilck (.k x25)) h 82 fun x82 h =>
  vfaddr 10 x82 h fun x83 h =>
  vstore 1 x83 x81 h fun _ h =>
  tcomp (kI 0) fun c0 => vfin true q [c0] h
  else none)
  (vbin .eql 0 x28 (kI (-4)) h fun x36 h =>
  vif x36 (
  R 1 [x0, x5, x28, x36] h)
  (vbin .eql 0 x28 (kI 5) h fun x37 h =>
  vif x37 (
  R 1 [x0, x5, x28, x37] h)
  (vbin .eql 0 x28 (kI 6) h fun x38 h =>
  vif x38 (
  R 1 [x0, x5, x28, x38] h)
  (vbin .eql 0 x28 (kI 7) h fun x39 h =>
  vif x39 (
  R 1 [x0, x5, x28, x39] h)
  (vbin .eql 0 x28 (kI 8) h fun x40 h =>
  R 1 [x0, x5, x28, x40] h)))))))))
theorem e26_0 (O : Oracle) (R : Jump) (q : Nat) (x0 x1 : TVal) (h : Heap) : b26_0 O R q x0 x1 h = stepF c26 O R q 0 [x0, x1] h := by kernel_rfl
noncomputable def b26_1 (O : Oracle) (R : Jump) (q : Nat) (x0 x5 x28 x35 : TVal) (h : Heap) : Res1 :=
  vif x35 (
  vload true 10 x5 h fun x85 h =>
  vcall O (.v (.c (.func 53 []))) [x0, x85] h 86 fun x86 h =>
  tcomp x86 fun c0 => vfin true q [c0] h)
  (vbin .eql 0 x28 (kI 9) h fun x42 h =>
  vif x42 (
  vfaddr 0 x5 h fun x87 h =>
  vfaddr 3 x87 h fun x88 h =>
  vload false 1 x88 h fun x89 h =>
  vcall O (.v (.c (.func 54 []))) [x89] h 90 fun x90 h =>
  vop O (.un .not (.k x90)) h 91 fun x91 h =>
  vif x91 (
  tcomp (kI 15) fun c0 => vfin true q [c0] h)
  (R 2 [x0, x5] h))
  (R 2 [x0, x5] h))
theorem e26_1 (O : Oracle) (R : Jump) (q : Nat) (x0 x5 x28 x35 : TVal) (h : Heap) : b26_1 O R q x0 x5 x28 x35 h = stepF c26 O R q 1 [x0, x5, x28, x35] h := by kernel_rfl
noncomputable def b26_2 (O : Oracle) (R : Jump) (q : Nat) (x0 x5 : TVal) (h : Heap) : Res1 :=
  vfaddr 0 x5 h fun x93 h =>
  vload true 9 x93 h fun x94 h =>
  vcall O (.v (.c (.func 55 []))) [x0, x94] h 95 fun x95 h =>
  tcomp (kI 0) fun c0 => vfin true q [c0] h
theorem e26_2 (O : Oracle) (R : Jump) (q : Nat) (x0 x5 : TVal) (h : Heap) : b26_2 O R q x0 x5 h = stepF c26 O R q 2 [x0, x5] h := by kernel_rfl
noncomputable def d26 : BlkF := fun O R q => [.s fun y0 => .s fun y1 => .z fun h => b26_0 O R q y0 y1 h, .s fun y0 => .s fun y1 => .s fun y2 => .s fun y3 => .z fun h => b26_1 O R q y0 y1 y2 y3 h, .s fun y0 => .s fun y1 => .z fun h => b26_2 O R q y0 y1 h]
theorem o26 (O : Oracle) (R : Jump) (q : Nat) : HoldsAll c26 O R q 0 (d26 O R q) := ⟨fun y0 y1 h => e26_0 O R q y0 y1 h, fun y0 y1 y2 y3 h => e26_1 O R q y0 y1 y2 y3 h, fun y0 y1 h => e26_2 O R q y0 y1 h, trivial⟩
/- (*sprue/tree.maker).text -/
def c27 : MFunc := { np := 2, res := [.t 4], frz := true, body := (.seq (.reg [⟨(some 3), (.box (.t 1) true), none⟩, ⟨(some 4), (.mv (.k (.v (.c (.p (.int .i64 0)))))), none⟩] []) (.seq (.seq (.reg [⟨(some 5), (.mv (.t 0)), none⟩, ⟨(some 6), (.call (.k (.v (.c (.func 28 [])))) [(.t 5)]), none⟩, ⟨(some 7), (.call (.k (.v (.c (.func 56 [])))) [(.t 6)]), none⟩] []) (.cond (.t 7) (.seq (.seq (.reg [⟨(some 8), (.faddr 1 (.t 3)), none⟩, ⟨(some 9), (.load false 1 (.t 8)), none⟩, ⟨(some 10), (.call (.k (.v (.c (.func 57 [])))) [(.t 9), (.k (.v (.c (.p (.str [32, 9, 10, 13])))))]), none⟩, ⟨(some 11), (.bin .neq 0 (.t 10) (.k (.v (.c (.p (.str [])))))), none⟩] []) (.cond (.t 11) (.seq (.reg [⟨(some 4), (.mv (.k (.v (.c (.p (.int .i64 12)))))), none⟩] []) .ret) .skip)) (.seq (.reg [⟨(some 4), (.mv (.k (.v (.c (.p (.int .i64 0)))))), none⟩] []) .ret)) .skip)) (.seq (.reg [⟨(some 12), (.mv (.t 0)), none⟩, ⟨(some 13), (.faddr 2 (.t 3)), none⟩, ⟨(some 14), (.load false 1 (.t 13)), none⟩, ⟨(some 15), (.faddr 1 (.t 3)), none⟩, ⟨(some 16), (.load false 1 (.t 15)), none⟩, ⟨(some 17), (.build [(.p (.int .i64 0)), (.p (.int .i64 0)), (.p (.str [])), (.p (.str [])), (.p .nilslice), (.p .nilslice), (.p .nilslice), (.p (.bool false)), (.p .nilslice)] [(0, 1, (.k (.v (.c (.p (.int .i64 1)))))), (1, 1, (.t 14)), (2, 1, (.t 16))]), none⟩, ⟨(some 18), (.call (.k (.v (.c (.func 55 [])))) [(.t 12), (.t 17)]), none⟩] []) (.seq (.reg [⟨(some 4), (.mv (.k (.v (.c (.p (.int .i64 0)))))), none⟩] []) .ret)))) }
theorem t27 : compF Tryd.prog (globs2 tabs opq) true true Tryd.f27 = some c27.erase := by kernel_rfl
noncomputable def b27_0 (O : Oracle) (R : Jump) (q : Nat) (x0 x1 : TVal) (h : Heap) : Res1 :=
  vop O (.box (.k x1) true) h 3 fun x3 h =>
  vcall O (.v (.c (.func 28 []))) [x0] h 6 fun x6 h =>
  vcall O (.v (.c (.func 56 []))) [x6] h 7 fun x7 h =>
  vif x7 (
  vfaddr 1 x3 h fun x8 h =>
  vload false 1 x8 h fun x9 h =>
  vcall O (.v (.c (.func 57 []))) [x9, (kS [32, 9, 10, 13])] h 10 fun x10 h =>
  vbin .neq 0 x10 (kS []) h fun x11 h =>
  vif x11 (
  tcomp (kI 12) fun c0 => vfin true q [c0] h)
  (tcomp (kI 0) fun c0 => vfin true q [c0] h))
  (vfaddr 2 x3 h fun x13 h =>
  vload false 1 x13 h fun x14 h =>
  vfaddr 1 x3 h fun x15 h =>
  vload false 1 x15 h fun x16 h =>
  vop O (.build [(.p (.int .i64 0)), (.p (.int .i64 0)), (.p (.str [])), (.p (.str [])), (.p .nilslice), (.p .nilslice), (.p .nilslice), (.p (.bool false)), (.p .nilslice)] [(0, 1, (.k (kI 1))), (1, 1, (.k x14)), (2, 1, (.k x16))]) h 17 fun x17 h =>
  vcall O (.v (.c (.func 55 []))) [x0, x17] h 18 fun x18 h =>
  tcomp (kI 0) fun c0 => vfin true q [c0] h)
theorem e27_0 (O : Oracle) (R : Jump) (q : Nat) (x0 x1 : TVal) (h : Heap) : b27_0 O R q x0 x1 h = stepF c27 O R q 0 [x0, x1] h := by kernel_rfl
noncomputable def d27 : BlkF := fun O R q => [.s fun y0 => .s fun y1 => .z fun h => b27_0 O R q y0 y1 h]
theorem o27 (O : Oracle) (R : Jump) (q : Nat) : HoldsAll c27 O R q 0 (d27 O R q) := ⟨fun y0 y1 h => e27_0 O R q y0 y1 h, trivial⟩
/- (*sprue/tree.maker).top -/
def c28 : MFunc := { np := 1, res := [.t 2], frz := false, body := (.seq (.reg [⟨(some 2), (.mv (.k (.v (.c (.p .nilptr))))), none⟩] []) (.seq (.seq (.reg [⟨(some 3), (.mv (.t 0)), none⟩, ⟨(some 4), (.nilck (.t 3)), none⟩, ⟨(some 5), (.faddr 2 (.t 4)), none⟩, ⟨(some 6), (.load false 1 (.t 5)), none⟩, ⟨(some 7), (.len 2 (.t 6)), none⟩, ⟨(some 8), (.bin .eql 0 (.t 7) (.k (.v (.c (.p (.int .i64 0)))))), none⟩] []) (.cond (.t 8) (.seq (.reg [⟨(some 2), (.mv (.k (.v (.c (.p .nilptr))))), none⟩] []) .ret) .skip)) (.seq (.reg [⟨(some 9), (.mv (.t 0)), none⟩, ⟨(some 10), (.nilck (.t 9)), none⟩, ⟨(some 11), (.faddr 2 (.t 10)), none⟩, ⟨(some 12), (.load false 1 (.t 11)), none⟩, ⟨(some 13), (.mv (.t 0)), none⟩, ⟨(some 14), (.nilck (.t 13)), none⟩, ⟨(some 15), (.faddr 2 (.t 14)), none⟩, ⟨(some 16), (.load false 1 (.t 15)), none⟩, ⟨(some 17), (.len 2 (.t 16)), none⟩, ⟨(some 18), (.bin .sub 0 (.t 17) (.k (.v (.c (.p (.int .i64 1)))))), none⟩, ⟨(some 19), (.iaddr 1 (.t 12) (.t 18)), none⟩, ⟨(some 20), (.load false 1 (.t 19)), none⟩, ⟨(some 2), (.mv (.t 20)), none⟩] []) .ret))) }
theorem t28 : compF Tryd.prog (globs2 tabs opq) true false Tryd.f28 = some c28.erase := by kernel_rfl
noncomputable def b28_0 (O : Oracle) (R : Jump) (q : Nat) (x0 : TVal) (h : Heap) : Res1 :=
  vop O (.nilck (.k x0)) h 4 fun x4 h =>
  vfaddr 2 x4 h fun x5 h =>
  vload false 1 x5 h fun x6 h =>
  vlen O 2 x6 h 7 fun x7 h =>
  vbin .eql 0 x7 (kI 0) h fun x8 h =>
  vif x8 (
  tcomp (.v (.c (.p .nilptr))) fun c0 => vfin false q [c0] h)
  (vop O (.nilck (.k x0)) h 10 fun x10 h =>
  vfaddr 2 x10 h fun x11 h =>
  vload false 1 x11 h fun x12 h =>
  vop O (.nilck (.k x0)) h 14 fun x14 h =>
  vfaddr 2 x14 h fun x15 h =>
  vload false 1 x15 h fun x16 h =>
  vlen O 2 x16 h 17 fun x17 h =>
  vbin .sub 0 x17 (kI 1) h fun x18 h =>
  viaddr 1 x12 x18 h fun x19 h =>
  vload false 1 x19 h fun x20 h =>
  tcomp x20 fun c0 => vfin false q [c0] h)
theorem e28_0 (O : Oracle) (R : Jump) (q : Nat) (x0 : TVal) (h : Heap) : b28_0 O R q x0 h = stepF c28 O R q 0 [x0] h := by kernel_rfl
noncomputable def d28 : BlkF := fun O R q => [.s fun y0 => .z fun h => b28_0 O R q y0 h]
theorem o28 (O : Oracle) (R : Jump) (q : Nat) : HoldsAll c28 O R q 0 (d28 O R q) := ⟨fun y0 h => e28_0 O R q y0 h, trivial⟩
/- sprue/tree.read -/
def c29 : MFunc := { np := 1, res := [.t 2], frz := false, body := (.seq (.reg [⟨(some 2), (.mv (.k (.v (.c (.p .nilptr))))), none⟩] []) (.seq (.reg [⟨(some 6), (.mv (.t 0)), none⟩, ⟨(some 7), (.call (.k (.v (.c (.func 24 [])))) [(.t 6)]), none⟩, ⟨(some 5), (.mv (.t 7)), none⟩, ⟨(some 8), (.extract (.t 5) 0), none⟩, ⟨(some 9), (.extract (.t 5) 1), none⟩, ⟨(some 3), (.mv (.t 8)), none⟩, ⟨(some 4), (.mv (.t 9)), none⟩] []) (.seq (.reg [⟨(some 10), (.mv (.t 3)), none⟩, ⟨(some 11), (.mv (.t 4)), none⟩, ⟨(some 12), (.build [(.p .nilslice), (.p (.int .i64 0)), (.p (.int .i64 0)), (.p (.int .i64 0))] [(0, 1, (.t 10)), (2, 1, (.t 11))]), none⟩, ⟨(some 13), (.box (.t 12) false), none⟩, ⟨(some 2), (.mv (.t 13)), none⟩] []) .ret))) }
theorem t29 : compF Tryd.prog (globs2 tabs opq) false false Tryd.f29 = some c29.erase := by kernel_rfl
noncomputable def b29_0 (O : Oracle) (R : Jump) (q : Nat) (x0 : TVal) (h : Heap) : Res1 :=
  vcall O (.v (.c (.func 24 []))) [x0] h 7 fun x7 h =>
  vext x7 0 h fun x8 h =>
  vext x7 1 h fun x9 h =>
  vop O (.build [(.p .nilslice), (.p (.int .i64 0)), (.p (.int .i64 0)), (.p (.int .i64 0))] [(0, 1, (.k x8)), (2, 1, (.k x9))]) h 12 fun x12 h =>
  vop O (.box (.k x12) false) h 13 fun x13 h =>
  tcomp x13 fun c0 => vfin false q [c0] h
theorem e29_0 (O : Oracle) (R : Jump) (q : Nat) (x0 : TVal) (h : Heap) : b29_0 O R q x0 h = stepF c29 O R q 0 [x0] h := by kernel_rfl
noncomputable def d29 : BlkF := fun O R q => [.s fun y0 => .z fun h => b29_0 O R q y0 h]
theorem o29 (O : Oracle) (R : Jump) (q : Nat) : HoldsAll c29 O R q 0 (d29 O R q) := ⟨fun y0 h => e29_0 O R q y0 h, trivial⟩
/- (*sprue/tree.reader).pipe -/
def c30 : MFunc := { np := 1, res := [.t 2], frz := true, body := (.seq (.reg [⟨(some 2), (.mv (.k (.v (.c (.p .nilslice))))), none⟩] []) (.seq (.reg [⟨(some 4), (.mv (.t 0)), none⟩, ⟨(some 5), (.call (.k (.v (.c (.func 58 [])))) [(.t 4)]), none⟩, ⟨(some 6), (.bslice 1 1 [(.p .nilslice)] [(0, (.t 5))] false), none⟩, ⟨(some 3), (.mv (.t 6)), none⟩] []) (.seq (.block 0 (.loop 1 [0, 3] (.seq (.seq (.reg [⟨(some 7), (.mv (.t 0)), none⟩, ⟨(some 8), (.call (.k (.v (.c (.func 59 [])))) [(.t 7), (.k (.v (.c (.p (.str [124])))))]), none⟩] []) (.cond (.t 8) .skip (.exit 0))) (.block 1 (.reg [⟨(some 9), (.mv (.t 3)), none⟩, ⟨(some 10), (.mv (.t 0)), none⟩, ⟨(some 11), (.call (.k (.v (.c (.func 58 [])))) [(.t 10)]), none⟩, ⟨(some 12), (.bslice 1 1 [(.p .nilslice)] [(0, (.t 11))] false), none⟩, ⟨(some 13), (.append 1 24 false (.t 9) (.t 12)), none⟩, ⟨(some 3), (.mv (.t 13)), none⟩] []))))) (.seq (.reg [⟨(some 14), (.mv (.t 3)), none⟩, ⟨(some 2), (.mv (.t 14)), none⟩] []) .ret)))) }
theorem t30 : compF Tryd.prog (globs2 tabs opq) false true Tryd.f30 = some c30.erase := by kernel_rfl
noncomputable def b30_0 (O : Oracle) (R : Jump) (q : Nat) (x0 : TVal) (h : Heap) : Res1 :=
  vcall O (.v (.c (.func 58 []))) [x0] h 5 fun x5 h =>
  vop O (.bslice 1 1 [(.p .nilslice)] [(0, (.k x5))] false) h 6 fun x6 h =>
  R 1 [x0, x6] h
theorem e30_0 (O : Oracle) (R : Jump) (q : Nat) (x0 : TVal) (h : Heap) : b30_0 O R q x0 h = stepF c30 O R q 0 [x0] h := by kernel_rfl
noncomputable def b30_1 (O : Oracle) (R : Jump) (q : Nat) (x0 x3 : TVal) (h : Heap) : Res1 :=
  vcall O (.v (.c (.func 59 []))) [x0, (kS [124])] h 8 fun x8 h =>
  vif x8 (
  vcall O (.v (.c (.func 58 []))) [x0] h 11 fun x11 h =>
  vop O (.bslice 1 1 [(.p .nilslice)] [(0, (.k x11))] false) h 12 fun x12 h =>
  vop O (.append 1 24 false (.k x3) (.k x12)) h 13 fun x13 h =>
  R 1 [x0, x13] h)
  (tcomp x3 fun c0 => vfin true q [c0] h)
theorem e30_1 (O : Oracle) (R : Jump) (q : Nat) (x0 x3 : TVal) (h : Heap) : b30_1 O R q x0 x3 h = stepF c30 O R q 1 [x0, x3] h := by kernel_rfl
noncomputable def d30 : BlkF := fun O R q => [.s fun y0 => .z fun h => b30_0 O R q y0 h, .s fun y0 => .s fun y1 => .z fun h => b30_1 O R q y0 y1 h]
theorem o30 (O : Oracle) (R : Jump) (q : Nat) : HoldsAll c30 O R q 0 (d30 O R q) := ⟨fun y0 h => e30_0 O R q y0 h, fun y0 y1 h => e30_1 O R q y0 y1 h, trivial⟩
/- (*sprue/tree.reader).end -/
def c31 : MFunc := { np := 1, res := [.t 2], frz := true, body := (.seq (.reg [⟨(some 2), (.mv (.k (.v (.c (.p (.int .i64 0)))))), none⟩] []) (.seq (.reg [⟨(some 3), (.mv (.t 0)), none⟩, ⟨(some 4), (.mv (.t 0)), none⟩, ⟨(some 5), (.nilck (.t 4)), none⟩, ⟨(some 6), (.faddr 1 (.t 5)), none⟩, ⟨(some 7), (.load false 1 (.t 6)), none⟩, ⟨(some 8), (.mv (.t 0)), none⟩, ⟨(some 9), (.nilck (.t 8)), none⟩, ⟨(some 10), (.faddr 0 (.t 9)), none⟩, ⟨(some 11), (.load false 1 (.t 10)), none⟩, ⟨(some 12), (.len 2 (.t 11)), none⟩, ⟨(some 13), (.bin .geq 0 (.t 7) (.t 12)), none⟩, ⟨(some 14), (.call (.k (.v (.c (.func 60 [])))) [(.t 3), (.t 13)]), none⟩] []) (.seq (.reg [⟨(some 15), (.mv (.t 0)), none⟩, ⟨(some 16), (.nilck (.t 15)), none⟩, ⟨(some 17), (.faddr 2 (.t 16)), none⟩, ⟨(some 18), (.load false 1 (.t 17)), none⟩, ⟨(some 2), (.mv (.t 18)), none⟩] []) .ret))) }
theorem t31 : compF Tryd.prog (globs2 tabs opq) false true Tryd.f31 = some c31.erase := by kernel_rfl
noncomputable def b31_0 (O : Oracle) (R : Jump) (q : Nat) (x0 : TVal) (h : Heap) : Res1 :=
  vop O (.nilck (.k x0)) h 5 fun x5 h =>
  vfaddr 1 x5 h fun x6 h =>
  vload false 1 x6 h fun x7 h =>
  vop O (.nilck (.k x0)) h 9 fun x9 h =>
  vfaddr 0 x9 h fun x10 h =>
  vload false 1 x10 h fun x11 h =>
  vlen O 2 x11 h 12 fun x12 h =>
  vbin .geq 0 x7 x12 h fun x13 h =>
  vcall O (.v (.c (.func 60 []))) [x0, x13] h 14 fun x14 h =>
  vop O (.nilck (.k x0)) h 16 fun x16 h =>
  vfaddr 2 x16 h fun x17 h =>
  vload false 1 x17 h fun x18 h =>
  tcomp x18 fun c0 => vfin true q [c0] h
theorem e31_0 (O : Oracle) (R : Jump) (q : Nat) (x0 : TVal) (h : Heap) : b31_0 O R q x0 h = stepF c31 O R q 0 [x0] h := by kernel_rfl
noncomputable def d31 : BlkF := fun O R q => [.s fun y0 => .z fun h => b31_0 O R q y0 h]
theorem o31 (O : Oracle) (R : Jump) (q : Nat) : HoldsAll c31 O R q 0 (d31 O R q) := ⟨fun y0 h => e31_0 O R q y0 h, trivial⟩
/- strings.Contains -/
def c46 : MFunc := { np := 2, res := [.t 4], frz := true, body := (.seq (.reg [⟨(some 4), (.mv (.k (.v (.c (.p (.bool false)))))), none⟩] []) (.seq (.reg [⟨(some 5), (.mv (.t 0)), none⟩, ⟨(some 6), (.mv (.t 1)), none⟩, ⟨(some 7), (.call (.k (.v (.c (.func 48 [])))) [(.t 5), (.t 6)]), none⟩, ⟨(some 8), (.bin .geq 0 (.t 7) (.k (.v (.c (.p (.int .i64 0)))))), none⟩, ⟨(some 4), (.mv (.t 8)), none⟩] []) .ret)) }
theorem t46 : compF Tryd.prog (globs2 tabs opq) false true Tryd.f46 = some c46.erase := by kernel_rfl
noncomputable def b46_0 (O : Oracle) (R : Jump) (q : Nat) (x0 x1 : TVal) (h : Heap) : Res1 :=
  vcall O (.v (.c (.func 48 []))) [x0, x1] h 7 fun x7 h =>
  vbin .geq 0 x7 (kI 0) h fun x8 h =>
  tcomp x8 fun c0 => vfin true q [c0] h
theorem e46_0 (O : Oracle) (R : Jump) (q : Nat) (x0 x1 : TVal) (h : Heap) : b46_0 O R q x0 x1 h = stepF c46 O R q 0 [x0, x1] h := by kernel_rfl
noncomputable def d46 : BlkF := fun O R q => [.s fun y0 => .s fun y1 => .z fun h => b46_0 O R q y0 y1 h]
theorem o46 (O : Oracle) (R : Jump) (q : Nat) : HoldsAll c46 O R q 0 (d46 O R q) := ⟨fun y0 y1 h => e46_0 O R q y0 y1 h, trivial⟩
/- sprue/scan.one -/
def c47 : MFunc := { np := 1, res := [.cell 2 true 4, .t 3, .t 4], frz := true, body := (.seq (.reg [⟨(some 2), (.alloc [(.p (.int .i64 0)), (.p (.str [])), (.p (.int .i64 0)), (.p (.int .i64 0))] false), none⟩, ⟨(some 3), (.mv (.k (.v (.c (.p (.int .i64 0)))))), none⟩, ⟨(some 4), (.mv (.k (.v (.c (.p (.int .i64 0)))))), none⟩] []) (.seq (.seq (.reg [⟨(some 6), (.mv (.t 0)), none⟩, ⟨(some 7), (.index (.t 6) (.k (.v (.c (.p (.int .i64 0)))))), none⟩, ⟨(some 5), (.mv (.t 7)), none⟩] []) (.block 0 (.seq (.reg [⟨(some 9), (.mv (.t 5)), none⟩, ⟨(some 10), (.call (.k (.v (.c (.func 72 [])))) [(.t 9)]), none⟩, ⟨(some 8), (.mv (.t 10)), none⟩] []) (.cond (.t 8) (.seq (.reg [⟨(some 11), (.mv (.t 0)), none⟩, ⟨(some 12), (.call (.k (.v (.c (.func 73 [])))) [(.t 11)]), none⟩, ⟨(some 13), (.extract (.t 12) 0), none⟩, ⟨(some 14), (.extract (.t 12) 1), none⟩, ⟨(some 15), (.extract (.t 12) 2), none⟩, ⟨none, (.store 4 (.t 2) (.t 13)), none⟩, ⟨(some 3), (.mv (.t 14)), none⟩, ⟨(some 4), (.mv (.t 15)), none⟩] []) .ret) (.seq (.seq (.reg [⟨(some 17), (.mv (.t 5)), none⟩, ⟨(some 18), (.call (.k (.v (.c (.func 74 [])))) [(.t 17)]), none⟩, ⟨(some 16), (.mv (.t 18)), none⟩] []) (.cond (.t 16) .skip (.reg [⟨(some 19), (.mv (.t 5)), none⟩, ⟨(some 20), (.bin .eql 0 (.t 19) (.k (.v (.c (.p (.int .u8 45)))))), none⟩, ⟨(some 21), (.mv (.t 20)), none⟩, ⟨(some 22), (.mv (.t 0)), (some (21, true))⟩, ⟨(some 23), (.len 0 (.t 22)), (some (21, true))⟩, ⟨(some 24), (.bin .gtr 0 (.t 23) (.k (.v (.c (.p (.int .i64 1)))))), (some (21, true))⟩, ⟨(some 25), (.pick (.t 21) (.t 24) (.k (.v (.c (.p (.bool false)))))), none⟩, ⟨(some 26), (.mv (.t 25)), none⟩, ⟨(some 27), (.mv (.t 0)), (some (26, true))⟩, ⟨(some 28), (.index (.t 27) (.k (.v (.c (.p (.int .i64 1)))))), (some (26, true))⟩, ⟨(some 29), (.call (.k (.v (.c (.func 74 [])))) [(.t 28)]), (some (26, true))⟩, ⟨(some 30), (.pick (.t 26) (.t 29) (.k (.v (.c (.p (.bool false)))))), none⟩, ⟨(some 16), (.mv (.t 30)), none⟩] []))) (.mark 1 [0, 2, 5, 16] (.cond (.t 16) (.seq (.reg [⟨(some 31), (.mv (.t 0)), none⟩, ⟨(some 32), (.call (.k (.v (.c (.func 75 [])))) [(.t 31)]), none⟩, ⟨(some 33), (.extract (.t 32) 0), none⟩, ⟨(some 34), (.extract (.t 32) 1), none⟩, ⟨(some 35), (.extract (.t 32) 2), none⟩, ⟨none, (.store 4 (.t 2) (.t 33)), none⟩, ⟨(some 3), (.mv (.t 34)), none⟩, ⟨(some 4), (.mv (.t 35)), none⟩] []) .ret) (.seq (.reg [⟨(some 37), (.mv (.t 5)), none⟩, ⟨(some 38), (.bin .eql 0 (.t 37) (.k (.v (.c (.p (.int .u8 34)))))), none⟩, ⟨(some 36), (.mv (.t 38)), none⟩] []) (.cond (.t 36) (.seq (.reg [⟨(some 39), (.mv (.t 0)), none⟩, ⟨(some 40), (.call (.k (.v (.c (.func 76 [])))) [(.t 39)]), none⟩, ⟨(some 41), (.extract (.t 40) 0), none⟩, ⟨(some 42), (.extract (.t 40) 1), none⟩, ⟨(some 43), (.extract (.t 40) 2), none⟩, ⟨none, (.store 4 (.t 2) (.t 41)), none⟩, ⟨(some 3), (.mv (.t 42)), none⟩, ⟨(some 4), (.mv (.t 43)), none⟩] []) .ret) .skip))))))))) (.seq (.reg [⟨(some 44), (.mv (.t 0)), none⟩, ⟨(some 45), (.call (.k (.v (.c (.func 77 [])))) [(.t 44)]), none⟩, ⟨(some 46), (.extract (.t 45) 0), none⟩, ⟨(some 47), (.extract (.t 45) 1), none⟩, ⟨(some 48), (.extract (.t 45) 2), none⟩, ⟨none, (.store 4 (.t 2) (.t 46)), none⟩, ⟨(some 3), (.mv (.t 47)), none⟩, ⟨(some 4), (.mv (.t 48)), none⟩] []) .ret))) }
theorem t47 : compF Tryd.prog (globs2 tabs opq) false true Tryd.f47 = some c47.erase := by kernel_rfl
noncomputable def b47_0 (O : Oracle) (R : Jump) (q : Nat) (x0 : TVal) (h : Heap) : Res1 :=
  vop O (.alloc [(.p (.int .i64 0)), (.p (.str [])), (.p (.int .i64 0)), (.p (.int .i64 0))] false) h 2 fun x2 h =>
  vindex x0 (kI 0) h fun x7 h =>
  vcall O (.v (.c (.func 72 []))) [x7] h 10 fun x10 h =>
  vif x10 (
  vcall O (.v (.c (.func 73 []))) [x0] h 12 fun x12 h =>
  vext x12 0 h fun x13 h =>
  vext x12 1 h fun x14 h =>
  vext x12 2 h fun x15 h =>
  vstore 4 x2 x13 h fun _ h =>
  vcell true 4 x2 h fun c0 => tcomp x14 fun c1 => tcomp x15 fun c2 => vfin true q [c0, c1, c2] h)
  (vcall O (.v (.c (.func 74 []))) [x7] h 18 fun x18 h =>
  vif x18 (
  R 1 [x0, x2, x7, x18] h)
  (vbin .eql 0 x7 (.v (.c (.p (.int .u8 45)))) h fun x20 h =>
  vguard x20 true (fun kk => kk x0 h) h fun x22 h =>
  vguard x20 true (fun kk => vlen O 0 x22 h 23 kk) h fun x23 h =>
  vguard x20 true (fun kk => vbin .gtr 0 x23 (kI 1) h kk) h fun x24 h =>
  vop O (.pick (.k x20) (.k x24) (.k (kB false))) h 25 fun x25 h =>
  vguard x25 true (fun kk => kk x0 h) h fun x27 h =>
  vguard x25 true (fun kk => vindex x27 (kI 1) h kk) h fun x28 h =>
  vguard x25 true (fun kk => vcall O (.v (.c (.func 74 []))) [x28] h 29 kk) h fun x29 h =>
  vop O (.pick (.k x25) (.k x29) (.k (kB false))) h 30 fun x30 h =>
  R 1 [x0, x2, x7, x30] h))
theorem e47_0 (O : Oracle) (R : Jump) (q : Nat) (x0 : TVal) (h : Heap) : b47_0 O R q x0 h = stepF c47 O R q 0 [x0] h := by kernel_rfl
noncomputable def b47_1 (O : Oracle) (R : Jump) (q : Nat) (x0 x2 x5 x16 : TVal) (h : Heap) : Res1 :=
  vif x16 (
  vcall O (.v (.c (.func 75 []))) [x0] h 32 fun x32 h =>
  vext x32 0 h fun x33 h =>
  vext x32 1 h fun x34 h =>
  vext x32 2 h fun x35 h =>
  vstore 4 x2 x33 h fun _ h =>
  vcell true 4 x2 h fun c0 => tcomp x34 fun c1 => tcomp x35 fun c2 => vfin true q [c0, c1, c2] h)
  (vbin .eql 0 x5 (.v (.c (.p (.int .u8 34)))) h fun x38 h =>
  vif x38 (
  vcall O (.v (.c (.func 76 []))) [x0] h 40 fun x40 h =>
  vext x40 0 h fun x41 h =>
  vext x40 1 h fun x42 h =>
  vext x40 2 h fun x43 h =>
  vstore 4 x2 x41 h fun _ h =>
  vcell true 4 x2 h fun c0 => tcomp x42 fun c1 => tcomp x43 fun c2 => vfin true q [c0, c1, c2] h)
  (vcall O (.v (.c (.func 77 []))) [x0] h 45 fun x45 h =>
  vext x45 0 h fun x46 h =>
  vext x45 1 h fun x47 h =>
  vext x45 2 h fun x48 h =>
  vstore 4 x2 x46 h fun _ h =>
  vcell true 4 x2 h fun c0 => tcomp x47 fun c1 => tcomp x48 fun c2 => vfin true q [c0, c1, c2] h))
theorem e47_1 (O : Oracle) (R : Jump) (q : Nat) (x0 x2 x5 x16 : TVal) (h : Heap) : b47_1 O R q x0 x2 x5 x16 h = stepF c47 O R q 1 [x0, x2, x5, x16] h := by kernel_rfl
noncomputable def d47 : BlkF := fun O R q => [.s fun y0 => .z fun h => b47_0 O R q y0 h, .s fun y0 => .s fun y1 => .s fun y2 => .s fun y3 => .z fun h => b47_1 O R q y0 y1 y2 y3 h]
theorem o47 (O : Oracle) (R : Jump) (q : Nat) : HoldsAll c47 O R q 0 (d47 O R q) := ⟨fun y0 h => e47_0 O R q y0 h, fun y0 y1 y2 y3 h => e47_1 O R q y0 y1 y2 y3 h, trivial⟩
/- strings.Index -/
def c48 : MFunc := { np := 2, res := [.t 4], frz := true, body := (.seq (.reg [⟨(some 4), (.mv (.k (.v (.c (.p (.int .i64 0)))))), none⟩] []) (.seq (.reg [⟨(some 5), (.mv (.t 0)), none⟩, ⟨(some 6), (.mv (.t 1)), none⟩, ⟨(some 7), (.call (.k (.v (.c (.func 78 [])))) [(.t 5), (.t 6)]), none⟩, ⟨(some 4), (.mv (.t 7)), none⟩] []) .ret)) }
theorem t48 : compF Tryd.prog (globs2 tabs opq) false true Tryd.f48 = some c48.erase := by kernel_rfl
noncomputable def b48_0 (O : Oracle) (R : Jump) (q : Nat) (x0 x1 : TVal) (h : Heap) : Res1 :=
  vcall O (.v (.c (.func 78 []))) [x0, x1] h 7 fun x7 h =>
  tcomp x7 fun c0 => vfin true q [c0] h
theorem e48_0 (O : Oracle) (R : Jump) (q : Nat) (x0 x1 : TVal) (h : Heap) : b48_0 O R q x0 x1 h = stepF c48 O R q 0 [x0, x1] h := by kernel_rfl
noncomputable def d48 : BlkF := fun O R q => [.s fun y0 => .s fun y1 => .z fun h => b48_0 O R q y0 y1 h]
theorem o48 (O : Oracle) (R : Jump) (q : Nat) : HoldsAll c48 O R q 0 (d48 O R q) := ⟨fun y0 y1 h => e48_0 O R q y0 y1 h, trivial⟩
/- sprue/text.end -/
def c49 : MFunc := { np := 1, res := [.t 2], frz := true, body := (.seq (.reg [⟨(some 2), (.mv (.k (.v (.c (.p (.int .i64 0)))))), none⟩] []) (.seq (.reg [⟨(some 3), (.mv (.k (.v (.c (.p (.bool false)))))), none⟩, ⟨(some 4), (.mv (.k (.v (.c (.p (.int .i64 0)))))), none⟩] []) (.seq (.seq (.reg [⟨(some 6), (.mv (.t 0)), none⟩, ⟨(some 7), (.len 0 (.t 6)), none⟩, ⟨(some 8), (.mv (.k (.v (.c (.p (.int .i64 0)))))), none⟩] []) (.block 0 (.loop 1 [0, 3, 4, 7, 8] (.seq (.reg [⟨(some 9), (.bin .lss 0 (.t 8) (.t 7)), none⟩] []) (.seq (.cond (.t 9) .skip (.exit 0)) (.seq (.block 1 (.seq (.reg [⟨(some 10), (.mv (.t 8)), none⟩, ⟨(some 5), (.mv (.t 10)), none⟩] []) (.seq (.block 2 (.seq (.reg [⟨(some 12), (.mv (.t 0)), none⟩, ⟨(some 13), (.mv (.t 5)), none⟩, ⟨(some 14), (.index (.t 12) (.t 13)), none⟩, ⟨(some 15), (.bin .eql 0 (.t 14) (.k (.v (.c (.p (.int .u8 34)))))), none⟩, ⟨(some 16), (.mv (.t 15)), none⟩, ⟨(some 17), (.mv (.t 3)), (some (16, true))⟩, ⟨(some 18), (.un .not (.t 17)), (some (16, true))⟩, ⟨(some 19), (.mv (.t 18)), (some (16, true))⟩, ⟨(some 20), (.mv (.t 4)), (some (19, false))⟩, ⟨(some 21), (.bin .rem 0 (.t 20) (.k (.v (.c (.p (.int .i64 2)))))), (some (19, false))⟩, ⟨(some 22), (.bin .eql 0 (.t 21) (.k (.v (.c (.p (.int .i64 0)))))), (some (19, false))⟩, ⟨(some 23), (.pick (.t 19) (.k (.v (.c (.p (.bool true))))) (.t 22)), (some (16, true))⟩, ⟨(some 24), (.pick (.t 16) (.t 23) (.k (.v (.c (.p (.bool false)))))), none⟩, ⟨(some 11), (.mv (.t 24)), none⟩] []) (.cond (.t 11) (.reg [⟨(some 25), (.mv (.t 3)), none⟩, ⟨(some 26), (.un .not (.t 25)), none⟩, ⟨(some 3), (.mv (.t 26)), none⟩] []) (.seq (.reg [⟨(some 28), (.mv (.t 3)), none⟩, ⟨(some 29), (.un .not (.t 28)), none⟩, ⟨(some 30), (.mv (.t 29)), none⟩, ⟨(some 31), (.mv (.t 0)), (some (30, true))⟩, ⟨(some 32), (.mv (.t 5)), (some (30, true))⟩, ⟨(some 33), (.slice 0 true (.t 31) (some (.t 32)) none none), (some (30, true))⟩, ⟨(some 34), (.call (.k (.v (.c (.func 79 [])))) [(.t 33), (.k (.v (.c (.p (.str [125, 125])))))]), (some (30, true))⟩, ⟨(some 35), (.pick (.t 30) (.t 34) (.k (.v (.c (.p (.bool false)))))), none⟩, ⟨(some 27), (.mv (.t 35)), none⟩] []) (.cond (.t 27) (.seq (.reg [⟨(some 36), (.mv (.t 5)), none⟩, ⟨(some 2), (.mv (.t 36)), none⟩] []) .ret) .skip))))) (.mark 2 [0, 3, 4, 5, 7, 8] (.seq (.reg [⟨(some 37), (.mv (.t 0)), none⟩, ⟨(some 38), (.mv (.t 5)), none⟩, ⟨(some 39), (.index (.t 37) (.t 38)), none⟩, ⟨(some 40), (.bin .eql 0 (.t 39) (.k (.v (.c (.p (.int .u8 92)))))), none⟩] []) (.cond (.t 40) (.reg [⟨(some 41), (.mv (.t 4)), none⟩, ⟨(some 42), (.bin .add 0 (.t 41) (.k (.v (.c (.p (.int .i64 1)))))), none⟩, ⟨(some 4), (.mv (.t 42)), none⟩] []) (.reg [⟨(some 4), (.mv (.k (.v (.c (.p (.int .i64 0)))))), none⟩] []))))))) (.mark 3 [0, 3, 4, 7, 8] (.reg [⟨(some 43), (.bin .add 0 (.t 8) (.k (.v (.c (.p (.int .i64 1)))))), none⟩, ⟨(some 8), (.mv (.t 43)), none⟩] [])))))))) (.seq (.reg [⟨(some 2), (.mv (.k (.v (.c (.p (.int .i64 (-1))))))), none⟩] []) .ret)))) }
theorem t49 : compF Tryd.prog (globs2 tabs opq) false true Tryd.f49 = some c49.erase := by kernel_rfl
noncomputable def b49_0 (O : Oracle) (R : Jump) (q : Nat) (x0 : TVal) (h : Heap) : Res1 :=
  vlen O 0 x0 h 7 fun x7 h =>
  R 1 [x0, (kB false), (kI 0), x7, (kI 0)] h
theorem e49_0 (O : Oracle) (R : Jump) (q : Nat) (x0 : TVal) (h : Heap) : b49_0 O R q x0 h = stepF c49 O R q 0 [x0] h := by kernel_rfl
noncomputable def b49_1 (O : Oracle) (R : Jump) (q : Nat) (x0 x3 x4 x7 x8 : TVal) (h : Heap) : Res1 :=
  vbin .lss 0 x8 x7 h fun x9 h =>
  vif x9 (
  vindex x0 x8 h fun x14 h =>
  vbin .eql 0 x14 (.v (.c (.p (.int .u8 34)))) h fun x15 h =>
  vguard x15 true (fun kk => kk x3 h) h fun x17 h =>
  vguard x15 true (fun kk => vop O (.un .not (.k x17)) h 18 kk) h fun x18 h =>
  vguard x15 true (fun kk => kk x18 h) h fun x19 h =>
  vguard x19 false (fun kk => kk x4 h) h fun x20 h =>
  vguard x19 false (fun kk => vbin .rem 0 x20 (kI 2) h kk) h fun x21 h =>
  vguard x19 false (fun kk => vbin .eql 0 x21 (kI 0) h kk) h fun x22 h =>
  vguard x15 true (fun kk => vop O (.pick (.k x19) (.k (kB true)) (.k x22)) h 23 kk) h fun x23 h =>
  vop O (.pick (.k x15) (.k x23) (.k (kB false))) h 24 fun x24 h =>
  vif x24 (
  vop O (.un .not (.k x3)) h 26 fun x26 h =>
  R 2 [x0, x26, x4, x8, x7, x8] h)
  (vop O (.un .not (.k x3)) h 29 fun x29 h =>
  vguard x29 true (fun kk => kk x0 h) h fun x31 h =>
  vguard x29 true (fun kk => kk x8 h) h fun x32 h =>
  vguard x29 true (fun kk => vop O (.slice 0 true (.k x31) (some (.k x32)) none none) h 33 kk) h fun x33 h =>
  vguard x29 true (fun kk => vcall O (.v (.c (.func 79 []))) [x33, (kS [125, 125])] h 34 kk) h fun x34 h =>
  vop O (.pick (.k x29) (.k x34) (.k (kB false))) h 35 fun x35 h =>
  vif x35 (
  tcomp x8 fun c0 => vfin true q [c0] h)
  (R 2 [x0, x3, x4, x8, x7, x8] h)))
  (tcomp (kI (-1)) fun c0 => vfin true q [c0] h)
theorem e49_1 (O : Oracle) (R : Jump) (q : Nat) (x0 x3 x4 x7 x8 : TVal) (h : Heap) : b49_1 O R q x0 x3 x4 x7 x8 h = stepF c49 O R q 1 [x0, x3, x4, x7, x8] h := by kernel_rfl
noncomputable def b49_2 (O : Oracle) (R : Jump) (q : Nat) (x0 x3 x4 x5 x7 x8 : TVal) (h : Heap) : Res1 :=
  vindex x0 x5 h fun x39 h =>
  vbin .eql 0 x39 (.v (.c (.p (.int .u8 92)))) h fun x40 h =>
  vif x40 (
  vbin .add 0 x4 (kI 1) h fun x42 h =>
  R 3 [x0, x3, x42, x7, x8] h)
  (R 3 [x0, x3, (kI 0), x7, x8] h)
theorem e49_2 (O : Oracle) (R : Jump) (q : Nat) (x0 x3 x4 x5 x7 x8 : TVal) (h : Heap) : b49_2 O R q x0 x3 x4 x5 x7 x8 h = stepF c49 O R q 2 [x0, x3, x4, x5, x7, x8] h := by kernel_rfl
noncomputable def b49_3 (O : Oracle) (R : Jump) (q : Nat) (x0 x3 x4 x7 x8 : TVal) (h : Heap) : Res1 :=
  vbin .add 0 x8 (kI 1) h fun x43 h =>
  R 1 [x0, x3, x4, x7, x43] h
theorem e49_3 (O : Oracle) (R : Jump) (q : Nat) (x0 x3 x4 x7 x8 : TVal) (h : Heap) : b49_3 O R q x0 x3 x4 x7 x8 h = stepF c49 O R q 3 [x0, x3, x4, x7, x8] h := by kernel_rfl
noncomputable def d49 : BlkF := fun O R q => [.s fun y0 => .z fun h => b49_0 O R q y0 h, .s fun y0 => .s fun y1 => .s fun y2 => .s fun y3 => .s fun y4 => .z fun h => b49_1 O R q y0 y1 y2 y3 y4 h, .s fun y0 => .s fun y1 => .s fun y2 => .s fun y3 => .s fun y4 => .s fun y5 => .z fun h => b49_2 O R q y0 y1 y2 y3 y4 y5 h, .s fun y0 => .s fun y1 => .s fun y2 => .s fun y3 => .s fun y4 => .z fun h => b49_3 O R q y0 y1 y2 y3 y4 h]
theorem o49 (O : Oracle) (R : Jump) (q : Nat) : HoldsAll c49 O R q 0 (d49 O R q) := ⟨fun y0 h => e49_0 O R q y0 h, fun y0 y1 y2 y3 y4 h => e49_1 O R q y0 y1 y2 y3 y4 h, fun y0 y1 y2 y3 y4 y5 h => e49_2 O R q y0 y1 y2 y3 y4 y5 h, fun y0 y1 y2 y3 y4 h => e49_3 O R q y0 y1 y2 y3 y4 h, trivial⟩
end Go.Proofs.YtegimihckejnkaaDoor.Ab
