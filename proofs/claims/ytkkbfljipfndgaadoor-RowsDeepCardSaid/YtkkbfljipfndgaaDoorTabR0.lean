/- Functions of the given program as the abstract interpreter has them (part 0), printed by a program of our own; each is shown to be what 'compF' makes of the given program's. No condition. -/
import Derived.Test.YtkkbfljipfndgaaDoorChecked
import Derived.Test.YtkkbfljipfndgaaDoorAd
namespace Go.Proofs.YtkkbfljipfndgaaDoor.Ab
open Go Go.AI
set_option linter.all false
set_option linter.unusedVariables false
set_option maxRecDepth 100000
def tabs : List Tabl := []
def opq : Option Nat := some 0
/- sprue/spruelaw17.RowsKinds -/
def c5 : MFunc := { np := 1, res := [.t 2], frz := true, body := (.seq (.reg [⟨(some 2), (.mv (.k (.v (.c (.p (.bool false)))))), none⟩] []) (.seq (.seq (.reg [⟨(some 9), (.call (.k (.v (.c (.func 14 [])))) []), none⟩, ⟨(some 10), (.un .not (.t 9)), none⟩] []) (.cond (.t 10) (.seq (.reg [⟨(some 2), (.mv (.k (.v (.c (.p (.bool false)))))), none⟩] []) .ret) .skip)) (.seq (.reg [⟨(some 11), (.bslice 1 14 [(.p (.str []))] [(0, (.k (.v (.c (.p (.str [100, 97, 116, 97, 32, 66, 111, 111, 108, 59])))))), (1, (.k (.v (.c (.p (.str [100, 97, 116, 97, 32, 73, 110, 116, 59])))))), (2, (.k (.v (.c (.p (.str [100, 97, 116, 97, 32, 84, 101, 120, 116, 59])))))), (3, (.k (.v (.c (.p (.str [100, 97, 116, 97, 32, 76, 105, 115, 116, 60, 73, 110, 116, 62, 59])))))), (4, (.k (.v (.c (.p (.str [100, 97, 116, 97, 32, 77, 97, 112, 60, 84, 101, 120, 116, 62, 59])))))), (5, (.k (.v (.c (.p (.str [100, 97, 116, 97, 32, 79, 112, 116, 60, 73, 110, 116, 62, 59])))))), (6, (.k (.v (.c (.p (.str [100, 97, 116, 97, 32, 79, 112, 116, 60, 66, 111, 111, 108, 62, 59])))))), (7, (.k (.v (.c (.p (.str [100, 97, 116, 97, 32, 123, 125, 59])))))), (8, (.k (.v (.c (.p (.str [100, 97, 116, 97, 32, 123, 97, 58, 32, 79, 112, 116, 60, 73, 110, 116, 62, 44, 32, 98, 58, 32, 79, 112, 116, 60, 123, 99, 58, 32, 79, 112, 116, 60, 84, 101, 120, 116, 62, 125, 62, 125, 59])))))), (9, (.k (.v (.c (.p (.str [100, 97, 116, 97, 32, 85, 110, 105, 111, 110, 32, 123, 97, 58, 32, 73, 110, 116, 44, 32, 98, 58, 32, 76, 105, 115, 116, 60, 84, 101, 120, 116, 62, 125, 59])))))), (10, (.k (.v (.c (.p (.str [100, 97, 116, 97, 32, 76, 105, 115, 116, 60, 76, 105, 115, 116, 60, 79, 112, 116, 60, 66, 111, 111, 108, 62, 62, 62, 59])))))), (11, (.k (.v (.c (.p (.str [100, 97, 116, 97, 32, 65, 59, 32, 116, 121, 112, 101, 32, 65, 32, 61, 32, 123, 110, 58, 32, 73, 110, 116, 44, 32, 107, 58, 32, 76, 105, 115, 116, 60, 65, 62, 125, 59])))))), (12, (.k (.v (.c (.p (.str [100, 97, 116, 97, 32, 77, 97, 112, 60, 77, 97, 112, 60, 79, 112, 116, 60, 73, 110, 116, 62, 62, 62, 59])))))), (13, (.k (.v (.c (.p (.str [100, 97, 116, 97, 32, 79, 112, 116, 60, 85, 110, 105, 111, 110, 32, 123, 120, 58, 32, 123, 125, 44, 32, 121, 58, 32, 73, 110, 116, 125, 62, 59]))))))] false), none⟩, ⟨(some 3), (.mv (.t 11)), none⟩] []) (.seq (.reg [⟨(some 12), (.bslice 1 14 [(.p (.str []))] [(0, (.k (.v (.c (.p (.str [116, 114, 117, 101])))))), (1, (.k (.v (.c (.p (.str [45, 57, 50, 50, 51, 51, 55, 50, 48, 51, 54, 56, 53, 52, 55, 55, 53, 56, 48, 56])))))), (2, (.k (.v (.c (.p (.str [34, 97, 92, 110, 98, 34])))))), (3, (.k (.v (.c (.p (.str [91, 49, 44, 45, 49, 44, 48, 93])))))), (4, (.k (.v (.c (.p (.str [123, 34, 34, 58, 34, 120, 34, 44, 34, 107, 34, 58, 34, 34, 125])))))), (5, (.k (.v (.c (.p (.str [110, 117, 108, 108])))))), (6, (.k (.v (.c (.p (.str [102, 97, 108, 115, 101])))))), (7, (.k (.v (.c (.p (.str [123, 125])))))), (8, (.k (.v (.c (.p (.str [123, 34, 98, 34, 58, 123, 125, 125])))))), (9, (.k (.v (.c (.p (.str [123, 34, 98, 34, 58, 91, 34, 112, 34, 44, 34, 34, 93, 125])))))), (10, (.k (.v (.c (.p (.str [91, 91, 93, 44, 91, 110, 117, 108, 108, 44, 116, 114, 117, 101, 44, 102, 97, 108, 115, 101, 93, 93])))))), (11, (.k (.v (.c (.p (.str [123, 34, 107, 34, 58, 91, 123, 34, 107, 34, 58, 91, 93, 44, 34, 110, 34, 58, 50, 125, 93, 44, 34, 110, 34, 58, 49, 125])))))), (12, (.k (.v (.c (.p (.str [123, 34, 97, 34, 58, 123, 125, 44, 34, 98, 34, 58, 123, 34, 99, 34, 58, 110, 117, 108, 108, 44, 34, 100, 34, 58, 48, 125, 125])))))), (13, (.k (.v (.c (.p (.str [123, 34, 120, 34, 58, 123, 125, 125]))))))] false), none⟩, ⟨(some 4), (.mv (.t 12)), none⟩] []) (.seq (.reg [⟨(some 13), (.bslice 1 14 [(.p (.str []))] [(0, (.k (.v (.c (.p (.str [116, 114, 117, 101])))))), (1, (.k (.v (.c (.p (.str [45, 57, 50, 50, 51, 51, 55, 50, 48, 51, 54, 56, 53, 52, 55, 55, 53, 56, 48, 56])))))), (2, (.k (.v (.c (.p (.str [34, 97, 92, 110, 98, 34])))))), (3, (.k (.v (.c (.p (.str [91, 49, 44, 45, 49, 44, 48, 93])))))), (4, (.k (.v (.c (.p (.str [123, 34, 34, 58, 34, 120, 34, 44, 34, 107, 34, 58, 34, 34, 125])))))), (5, (.k (.v (.c (.p (.str [110, 117, 108, 108])))))), (6, (.k (.v (.c (.p (.str [102, 97, 108, 115, 101])))))), (7, (.k (.v (.c (.p (.str [123, 125])))))), (8, (.k (.v (.c (.p (.str [123, 34, 97, 34, 58, 110, 117, 108, 108, 44, 34, 98, 34, 58, 123, 34, 99, 34, 58, 110, 117, 108, 108, 125, 125])))))), (9, (.k (.v (.c (.p (.str [123, 34, 98, 34, 58, 91, 34, 112, 34, 44, 34, 34, 93, 125])))))), (10, (.k (.v (.c (.p (.str [91, 91, 93, 44, 91, 110, 117, 108, 108, 44, 116, 114, 117, 101, 44, 102, 97, 108, 115, 101, 93, 93])))))), (11, (.k (.v (.c (.p (.str [123, 34, 107, 34, 58, 91, 123, 34, 107, 34, 58, 91, 93, 44, 34, 110, 34, 58, 50, 125, 93, 44, 34, 110, 34, 58, 49, 125])))))), (12, (.k (.v (.c (.p (.str [123, 34, 97, 34, 58, 123, 125, 44, 34, 98, 34, 58, 123, 34, 99, 34, 58, 110, 117, 108, 108, 44, 34, 100, 34, 58, 48, 125, 125])))))), (13, (.k (.v (.c (.p (.str [123, 34, 120, 34, 58, 123, 125, 125]))))))] false), none⟩, ⟨(some 5), (.mv (.t 13)), none⟩] []) (.seq (.reg [⟨(some 14), (.mv (.t 0)), none⟩, ⟨(some 15), (.call (.k (.v (.c (.func 15 [])))) [(.t 14), (.k (.v (.c (.p (.int .i64 14)))))]), none⟩, ⟨(some 6), (.mv (.t 15)), none⟩] []) (.seq (.reg [⟨(some 17), (.mv (.t 3)), none⟩, ⟨(some 18), (.mv (.t 6)), none⟩, ⟨(some 19), (.iaddr 1 (.t 17) (.t 18)), none⟩, ⟨(some 20), (.load false 1 (.t 19)), none⟩, ⟨(some 21), (.mv (.t 4)), none⟩, ⟨(some 22), (.mv (.t 6)), none⟩, ⟨(some 23), (.iaddr 1 (.t 21) (.t 22)), none⟩, ⟨(some 24), (.load false 1 (.t 23)), none⟩, ⟨(some 25), (.call (.k (.v (.c (.func 16 [])))) [(.t 20), (.t 24)]), none⟩, ⟨(some 16), (.mv (.t 25)), none⟩, ⟨(some 26), (.extract (.t 16) 0), none⟩, ⟨(some 27), (.extract (.t 16) 1), none⟩, ⟨(some 7), (.mv (.t 26)), none⟩, ⟨(some 8), (.mv (.t 27)), none⟩] []) (.seq (.reg [⟨(some 28), (.mv (.t 8)), none⟩, ⟨(some 29), (.bin .eql 0 (.t 28) (.k (.v (.c (.p (.int .i64 0)))))), none⟩, ⟨(some 30), (.mv (.t 29)), none⟩, ⟨(some 31), (.mv (.t 7)), (some (30, true))⟩, ⟨(some 32), (.mv (.t 5)), (some (30, true))⟩, ⟨(some 33), (.mv (.t 6)), (some (30, true))⟩, ⟨(some 34), (.iaddr 1 (.t 32) (.t 33)), (some (30, true))⟩, ⟨(some 35), (.load false 1 (.t 34)), (some (30, true))⟩, ⟨(some 36), (.bin .eql 0 (.t 31) (.t 35)), (some (30, true))⟩, ⟨(some 37), (.pick (.t 30) (.t 36) (.k (.v (.c (.p (.bool false)))))), none⟩, ⟨(some 2), (.mv (.t 37)), none⟩] []) .ret)))))))) }
theorem t5 : compF Tryd.prog (globs2 tabs opq) false true Tryd.f5 = some c5.erase := by kernel_rfl
noncomputable def b5_0 (O : Oracle) (R : Jump) (q : Nat) (x0 : TVal) (h : Heap) : Res1 :=
  vcall O (.v (.c (.func 14 []))) [] h 9 fun x9 h =>
  vop O (.un .not (.k x9)) h 10 fun x10 h =>
  vif x10 (
  tcomp (kB false) fun c0 => vfin true q [c0] h)
  (vop O (.bslice 1 14 [(.p (.str []))] [(0, (.k (kS [100, 97, 116, 97, 32, 66, 111, 111, 108, 59]))), (1, (.k (kS [100, 97, 116, 97, 32, 73, 110, 116, 59]))), (2, (.k (kS [100, 97, 116, 97, 32, 84, 101, 120, 116, 59]))), (3, (.k (kS [100, 97, 116, 97, 32, 76, 105, 115, 116, 60, 73, 110, 116, 62, 59]))), (4, (.k (kS [100, 97, 116, 97, 32, 77, 97, 112, 60, 84, 101, 120, 116, 62, 59]))), (5, (.k (kS [100, 97, 116, 97, 32, 79, 112, 116, 60, 73, 110, 116, 62, 59]))), (6, (.k (kS [100, 97, 116, 97, 32, 79, 112, 116, 60, 66, 111, 111, 108, 62, 59]))), (7, (.k (kS [100, 97, 116, 97, 32, 123, 125, 59]))), (8, (.k (kS [100, 97, 116, 97, 32, 123, 97, 58, 32, 79, 112, 116, 60, 73, 110, 116, 62, 44, 32, 98, 58, 32, 79, 112, 116, 60, 123, 99, 58, 32, 79, 112, 116, 60, 84, 101, 120, 116, 62, 125, 62, 125, 59]))), (9, (.k (kS [100, 97, 116, 97, 32, 85, 110, 105, 111, 110, 32, 123, 97, 58, 32, 73, 110, 116, 44, 32, 98, 58, 32, 76, 105, 115, 116, 60, 84, 101, 120, 116, 62, 125, 59]))), (10, (.k (kS [100, 97, 116, 97, 32, 76, 105, 115, 116, 60, 76, 105, 115, 116, 60, 79, 112, 116, 60, 66, 111, 111, 108, 62, 62, 62, 59]))), (11, (.k (kS [100, 97, 116, 97, 32, 65, 59, 32, 116, 121, 112, 101, 32, 65, 32, 61, 32, 123, 110, 58, 32, 73, 110, 116, 44, 32, 107, 58, 32, 76, 105, 115, 116, 60, 65, 62, 125, 59]))), (12, (.k (kS [100, 97, 116, 97, 32, 77, 97, 112, 60, 77, 97, 112, 60, 79, 112, 116, 60, 73, 110, 116, 62, 62, 62, 59]))), (13, (.k (kS [100, 97, 116, 97, 32, 79, 112, 116, 60, 85, 110, 105, 111, 110, 32, 123, 120, 58, 32, 123, 125, 44, 32, 121, 58, 32, 73, 110, 116, 125, 62, 59])))] false) h 11 fun x11 h =>
  vop O (.bslice 1 14 [(.p (.str []))] [(0, (.k (kS [116, 114, 117, 101]))), (1, (.k (kS [45, 57, 50, 50, 51, 51, 55, 50, 48, 51, 54, 56, 53, 52, 55, 55, 53, 56, 48, 56]))), (2, (.k (kS [34, 97, 92, 110, 98, 34]))), (3, (.k (kS [91, 49, 44, 45, 49, 44, 48, 93]))), (4, (.k (kS [123, 34, 34, 58, 34, 120, 34, 44, 34, 107, 34, 58, 34, 34, 125]))), (5, (.k (kS [110, 117, 108, 108]))), (6, (.k (kS [102, 97, 108, 115, 101]))), (7, (.k (kS [123, 125]))), (8, (.k (kS [123, 34, 98, 34, 58, 123, 125, 125]))), (9, (.k (kS [123, 34, 98, 34, 58, 91, 34, 112, 34, 44, 34, 34, 93, 125]))), (10, (.k (kS [91, 91, 93, 44, 91, 110, 117, 108, 108, 44, 116, 114, 117, 101, 44, 102, 97, 108, 115, 101, 93, 93]))), (11, (.k (kS [123, 34, 107, 34, 58, 91, 123, 34, 107, 34, 58, 91, 93, 44, 34, 110, 34, 58, 50, 125, 93, 44, 34, 110, 34, 58, 49, 125]))), (12, (.k (kS [123, 34, 97, 34, 58, 123, 125, 44, 34, 98, 34, 58, 123, 34, 99, 34, 58, 110, 117, 108, 108, 44, 34, 100, 34, 58, 48, 125, 125]))), (13, (.k (kS [123, 34, 120, 34, 58, 123, 125, 125])))] false) h 12 fun x12 h =>
  vop O (.bslice 1 14 [(.p (.str []))] [(0, (.k (kS [116, 114, 117, 101]))), (1, (.k (kS [45, 57, 50, 50, 51, 51, 55, 50, 48, 51, 54, 56, 53, 52, 55, 55, 53, 56, 48, 56]))), (2, (.k (kS [34, 97, 92, 110, 98, 34]))), (3, (.k (kS [91, 49, 44, 45, 49, 44, 48, 93]))), (4, (.k (kS [123, 34, 34, 58, 34, 120, 34, 44, 34, 107, 34, 58, 34, 34, 125]))), (5, (.k (kS [110, 117, 108, 108]))), (6, (.k (kS [102, 97, 108, 115, 101]))), (7, (.k (kS [123, 125]))), (8, (.k (kS [123, 34, 97, 34, 58, 110, 117, 108, 108, 44, 34, 98, 34, 58, 123, 34, 99, 34, 58, 110, 117, 108, 108, 125, 125]))), (9, (.k (kS [123, 34, 98, 34, 58, 91, 34, 112, 34, 44, 34, 34, 93, 125]))), (10, (.k (kS [91, 91, 93, 44, 91, 110, 117, 108, 108, 44, 116, 114, 117, 101, 44, 102, 97, 108, 115, 101, 93, 93]))), (11, (.k (kS [123, 34, 107, 34, 58, 91, 123, 34, 107, 34, 58, 91, 93, 44, 34, 110, 34, 58, 50, 125, 93, 44, 34, 110, 34, 58, 49, 125]))), (12, (.k (kS [123, 34, 97, 34, 58, 123, 125, 44, 34, 98, 34, 58, 123, 34, 99, 34, 58, 110, 117, 108, 108, 44, 34, 100, 34, 58, 48, 125, 125]))), (13, (.k (kS [123, 34, 120, 34, 58, 123, 125, 125])))] false) h 13 fun x13 h =>
  vcall O (.v (.c (.func 15 []))) [x0, (kI 14)] h 15 fun x15 h =>
  viaddr 1 x11 x15 h fun x19 h =>
  vload false 1 x19 h fun x20 h =>
  viaddr 1 x12 x15 h fun x23 h =>
  vload false 1 x23 h fun x24 h =>
  vcall O (.v (.c (.func 16 []))) [x20, x24] h 25 fun x25 h =>
  vext x25 0 h fun x26 h =>
  vext x25 1 h fun x27 h =>
  vbin .eql 0 x27 (kI 0) h fun x29 h =>
  vguard x29 true (fun kk => kk x26 h) h fun x31 h =>
  vguard x29 true (fun kk => kk x13 h) h fun x32 h =>
  vguard x29 true (fun kk => kk x15 h) h fun x33 h =>
  vguard x29 true (fun kk => viaddr 1 x32 x33 h kk) h fun x34 h =>
  vguard x29 true (fun kk => vload false 1 x34 h kk) h fun x35 h =>
  vguard x29 true (fun kk => vbin .eql 0 x31 x35 h kk) h fun x36 h =>
  vop O (.pick (.k x29) (.k x36) (.k (kB false))) h 37 fun x37 h =>
  tcomp x37 fun c0 => vfin true q [c0] h)
theorem e5_0 (O : Oracle) (R : Jump) (q : Nat) (x0 : TVal) (h : Heap) : b5_0 O R q x0 h = stepF c5 O R q 0 [x0] h := by kernel_rfl
noncomputable def d5 : BlkF := fun O R q => [.s fun y0 => .z fun h => b5_0 O R q y0 h]
theorem o5 (O : Oracle) (R : Jump) (q : Nat) : HoldsAll c5 O R q 0 (d5 O R q) := ⟨fun y0 h => e5_0 O R q y0 h, trivial⟩
/- sprue/spruelaw17.RowsDeep -/
def c6 : MFunc := { np := 2, res := [.t 4], frz := true, body := (.seq (.reg [⟨(some 4), (.mv (.k (.v (.c (.p (.bool false)))))), none⟩] []) (.seq (.seq (.reg [⟨(some 11), (.call (.k (.v (.c (.func 14 [])))) []), none⟩, ⟨(some 12), (.un .not (.t 11)), none⟩] []) (.cond (.t 12) (.seq (.reg [⟨(some 4), (.mv (.k (.v (.c (.p (.bool false)))))), none⟩] []) .ret) .skip)) (.seq (.reg [⟨(some 13), (.mv (.t 0)), none⟩, ⟨(some 14), (.call (.k (.v (.c (.func 15 [])))) [(.t 13), (.k (.v (.c (.p (.int .i64 6)))))]), none⟩, ⟨(some 0), (.mv (.t 14)), none⟩] []) (.seq (.reg [⟨(some 5), (.mv (.k (.v (.c (.p (.str [123, 34, 118, 34, 58, 49, 125])))))), none⟩, ⟨(some 6), (.mv (.k (.v (.c (.p (.str [46, 118])))))), none⟩] []) (.seq (.reg [⟨(some 7), (.mv (.k (.v (.c (.p (.str [123, 34, 108, 34, 58, 110, 117, 108, 108, 44, 34, 118, 34, 58, 49, 125])))))), none⟩] []) (.seq (.seq (.reg [⟨(some 15), (.mv (.t 1)), none⟩] []) (.cond (.t 15) (.reg [⟨(some 5), (.mv (.k (.v (.c (.p (.str [123, 34, 118, 34, 58, 91, 93, 125])))))), none⟩] []) .skip)) (.mark 1 [0, 1, 5, 6, 7] (.seq (.seq (.reg [⟨(some 8), (.mv (.k (.v (.c (.p (.int .i64 0)))))), none⟩] []) (.block 0 (.loop 2 [0, 1, 5, 6, 7, 8] (.seq (.seq (.reg [⟨(some 16), (.mv (.t 8)), none⟩, ⟨(some 17), (.mv (.t 0)), none⟩, ⟨(some 18), (.bin .lss 0 (.t 16) (.t 17)), none⟩] []) (.cond (.t 18) .skip (.exit 0))) (.seq (.block 1 (.seq (.reg [⟨(some 21), (.mv (.t 5)), none⟩, ⟨(some 22), (.bin .add 0 (.k (.v (.c (.p (.str [123, 34, 108, 34, 58, 91]))))) (.t 21)), none⟩, ⟨(some 23), (.bin .add 0 (.t 22) (.k (.v (.c (.p (.str [93, 44, 34, 118, 34, 58, 50, 125])))))), none⟩, ⟨(some 24), (.mv (.t 6)), none⟩, ⟨(some 25), (.bin .add 0 (.k (.v (.c (.p (.str [46, 108, 91, 48, 93]))))) (.t 24)), none⟩, ⟨(some 5), (.mv (.t 23)), none⟩, ⟨(some 6), (.mv (.t 25)), none⟩] []) (.reg [⟨(some 26), (.mv (.t 7)), none⟩, ⟨(some 27), (.bin .add 0 (.k (.v (.c (.p (.str [123, 34, 108, 34, 58, 91]))))) (.t 26)), none⟩, ⟨(some 28), (.bin .add 0 (.t 27) (.k (.v (.c (.p (.str [93, 44, 34, 118, 34, 58, 50, 125])))))), none⟩, ⟨(some 7), (.mv (.t 28)), none⟩] []))) (.reg [⟨(some 19), (.mv (.t 8)), none⟩, ⟨(some 20), (.bin .add 0 (.t 19) (.k (.v (.c (.p (.int .i64 1)))))), none⟩, ⟨(some 8), (.mv (.t 20)), none⟩] [])))))) (.mark 3 [1, 5, 6, 7] (.seq (.reg [⟨(some 30), (.mv (.t 5)), none⟩, ⟨(some 31), (.call (.k (.v (.c (.func 16 [])))) [(.k (.v (.c (.p (.str [100, 97, 116, 97, 32, 65, 59, 32, 116, 121, 112, 101, 32, 65, 32, 61, 32, 123, 118, 58, 32, 73, 110, 116, 44, 32, 108, 58, 32, 79, 112, 116, 60, 76, 105, 115, 116, 60, 65, 62, 62, 125, 59]))))), (.t 30)]), none⟩, ⟨(some 29), (.mv (.t 31)), none⟩, ⟨(some 32), (.extract (.t 29) 0), none⟩, ⟨(some 33), (.extract (.t 29) 1), none⟩, ⟨(some 9), (.mv (.t 32)), none⟩, ⟨(some 10), (.mv (.t 33)), none⟩] []) (.seq (.seq (.reg [⟨(some 34), (.mv (.t 1)), none⟩] []) (.cond (.t 34) (.seq (.reg [⟨(some 35), (.mv (.t 10)), none⟩, ⟨(some 36), (.bin .eql 0 (.t 35) (.k (.v (.c (.p (.int .i64 31)))))), none⟩, ⟨(some 37), (.mv (.t 36)), none⟩, ⟨(some 38), (.mv (.t 9)), (some (37, true))⟩, ⟨(some 39), (.mv (.t 6)), (some (37, true))⟩, ⟨(some 40), (.bin .eql 0 (.t 38) (.t 39)), (some (37, true))⟩, ⟨(some 41), (.pick (.t 37) (.t 40) (.k (.v (.c (.p (.bool false)))))), none⟩, ⟨(some 4), (.mv (.t 41)), none⟩] []) .ret) .skip)) (.seq (.reg [⟨(some 42), (.mv (.t 10)), none⟩, ⟨(some 43), (.bin .eql 0 (.t 42) (.k (.v (.c (.p (.int .i64 0)))))), none⟩, ⟨(some 44), (.mv (.t 43)), none⟩, ⟨(some 45), (.mv (.t 9)), (some (44, true))⟩, ⟨(some 46), (.mv (.t 7)), (some (44, true))⟩, ⟨(some 47), (.bin .eql 0 (.t 45) (.t 46)), (some (44, true))⟩, ⟨(some 48), (.pick (.t 44) (.t 47) (.k (.v (.c (.p (.bool false)))))), none⟩, ⟨(some 4), (.mv (.t 48)), none⟩] []) .ret)))))))))))) }
theorem t6 : compF Tryd.prog (globs2 tabs opq) false true Tryd.f6 = some c6.erase := by kernel_rfl
noncomputable def b6_0 (O : Oracle) (R : Jump) (q : Nat) (x0 x1 : TVal) (h : Heap) : Res1 :=
  vcall O (.v (.c (.func 14 []))) [] h 11 fun x11 h =>
  vop O (.un .not (.k x11)) h 12 fun x12 h =>
  vif x12 (
  tcomp (kB false) fun c0 => vfin true q [c0] h)
  (vcall O (.v (.c (.func 15 []))) [x0, (kI 6)] h 14 fun x14 h =>
  vif x1 (
  R 1 [x14, x1, (kS [123, 34, 118, 34, 58, 91, 93, 125]), (kS [46, 118]), (kS [123, 34, 108, 34, 58, 110, 117, 108, 108, 44, 34, 118, 34, 58, 49, 125])] h)
  (R 1 [x14, x1, (kS [123, 34, 118, 34, 58, 49, 125]), (kS [46, 118]), (kS [123, 34, 108, 34, 58, 110, 117, 108, 108, 44, 34, 118, 34, 58, 49, 125])] h))
theorem e6_0 (O : Oracle) (R : Jump) (q : Nat) (x0 x1 : TVal) (h : Heap) : b6_0 O R q x0 x1 h = stepF c6 O R q 0 [x0, x1] h := by kernel_rfl
noncomputable def b6_1 (O : Oracle) (R : Jump) (q : Nat) (x0 x1 x5 x6 x7 : TVal) (h : Heap) : Res1 :=
  R 2 [x0, x1, x5, x6, x7, (kI 0)] h
theorem e6_1 (O : Oracle) (R : Jump) (q : Nat) (x0 x1 x5 x6 x7 : TVal) (h : Heap) : b6_1 O R q x0 x1 x5 x6 x7 h = stepF c6 O R q 1 [x0, x1, x5, x6, x7] h := by kernel_rfl
noncomputable def b6_2 (O : Oracle) (R : Jump) (q : Nat) (x0 x1 x5 x6 x7 x8 : TVal) (h : Heap) : Res1 :=
  vbin .lss 0 x8 x0 h fun x18 h =>
  vif x18 (
  vbin .add 0 (kS [123, 34, 108, 34, 58, 91]) x5 h fun x22 h =>
  vbin .add 0 x22 (kS [93, 44, 34, 118, 34, 58, 50, 125]) h fun x23 h =>
  vbin .add 0 (kS [46, 108, 91, 48, 93]) x6 h fun x25 h =>
  vbin .add 0 (kS [123, 34, 108, 34, 58, 91]) x7 h fun x27 h =>
  vbin .add 0 x27 (kS [93, 44, 34, 118, 34, 58, 50, 125]) h fun x28 h =>
  vbin .add 0 x8 (kI 1) h fun x20 h =>
  R 2 [x0, x1, x23, x25, x28, x20] h)
  (R 3 [x1, x5, x6, x7] h)
theorem e6_2 (O : Oracle) (R : Jump) (q : Nat) (x0 x1 x5 x6 x7 x8 : TVal) (h : Heap) : b6_2 O R q x0 x1 x5 x6 x7 x8 h = stepF c6 O R q 2 [x0, x1, x5, x6, x7, x8] h := by kernel_rfl
noncomputable def b6_3 (O : Oracle) (R : Jump) (q : Nat) (x1 x5 x6 x7 : TVal) (h : Heap) : Res1 :=
  vcall O (.v (.c (.func 16 []))) [(kS [100, 97, 116, 97, 32, 65, 59, 32, 116, 121, 112, 101, 32, 65, 32, 61, 32, 123, 118, 58, 32, 73, 110, 116, 44, 32, 108, 58, 32, 79, 112, 116, 60, 76, 105, 115, 116, 60, 65, 62, 62, 125, 59]), x5] h 31 fun x31 h =>
  vext x31 0 h fun x32 h =>
  vext x31 1 h fun x33 h =>
  vif x1 (
  vbin .eql 0 x33 (kI 31) h fun x36 h =>
  vguard x36 true (fun kk => kk x32 h) h fun x38 h =>
  vguard x36 true (fun kk => kk x6 h) h fun x39 h =>
  vguard x36 true (fun kk => vbin .eql 0 x38 x39 h kk) h fun x40 h =>
  vop O (.pick (.k x36) (.k x40) (.k (kB false))) h 41 fun x41 h =>
  tcomp x41 fun c0 => vfin true q [c0] h)
  (vbin .eql 0 x33 (kI 0) h fun x43 h =>
  vguard x43 true (fun kk => kk x32 h) h fun x45 h =>
  vguard x43 true (fun kk => kk x7 h) h fun x46 h =>
  vguard x43 true (fun kk => vbin .eql 0 x45 x46 h kk) h fun x47 h =>
  vop O (.pick (.k x43) (.k x47) (.k (kB false))) h 48 fun x48 h =>
  tcomp x48 fun c0 => vfin true q [c0] h)
theorem e6_3 (O : Oracle) (R : Jump) (q : Nat) (x1 x5 x6 x7 : TVal) (h : Heap) : b6_3 O R q x1 x5 x6 x7 h = stepF c6 O R q 3 [x1, x5, x6, x7] h := by kernel_rfl
noncomputable def d6 : BlkF := fun O R q => [.s fun y0 => .s fun y1 => .z fun h => b6_0 O R q y0 y1 h, .s fun y0 => .s fun y1 => .s fun y2 => .s fun y3 => .s fun y4 => .z fun h => b6_1 O R q y0 y1 y2 y3 y4 h, .s fun y0 => .s fun y1 => .s fun y2 => .s fun y3 => .s fun y4 => .s fun y5 => .z fun h => b6_2 O R q y0 y1 y2 y3 y4 y5 h, .s fun y0 => .s fun y1 => .s fun y2 => .s fun y3 => .z fun h => b6_3 O R q y0 y1 y2 y3 h]
theorem o6 (O : Oracle) (R : Jump) (q : Nat) : HoldsAll c6 O R q 0 (d6 O R q) := ⟨fun y0 y1 h => e6_0 O R q y0 y1 h, fun y0 y1 y2 y3 y4 h => e6_1 O R q y0 y1 y2 y3 y4 h, fun y0 y1 y2 y3 y4 y5 h => e6_2 O R q y0 y1 y2 y3 y4 y5 h, fun y0 y1 y2 y3 h => e6_3 O R q y0 y1 y2 y3 h, trivial⟩
/- sprue/spruelaw17.known -/
def c14 : MFunc := { np := 0, res := [.t 0], frz := true, body := (.seq (.reg [⟨(some 0), (.mv (.k (.v (.c (.p (.bool false)))))), none⟩] []) (.seq (.reg [⟨(some 5), (.build [(.p (.int .i64 0)), (.p (.str [])), (.p .nilslice), (.p .nilslice)] [(0, 1, (.k (.v (.c (.p (.int .i64 2))))))]), none⟩, ⟨(some 6), (.build [(.p (.int .i64 0)), (.p (.str [])), (.p .nilslice), (.p .nilslice), (.p .nilslice), (.p .nilslice)] [(0, 4, (.t 5))]), none⟩, ⟨(some 1), (.alloc [(.p (.int .i64 0)), (.p (.str [])), (.p .nilslice), (.p .nilslice), (.p .nilslice), (.p .nilslice)] false), none⟩, ⟨none, (.store 6 (.t 1) (.t 6)), none⟩] []) (.seq (.reg [⟨(some 8), (.load true 6 (.t 1)), none⟩, ⟨(some 9), (.faddr 0 (.t 1)), none⟩, ⟨(some 10), (.load true 4 (.t 9)), none⟩, ⟨(some 11), (.build [(.p (.int .i64 0)), (.p (.bool false)), (.p (.int .i64 0)), (.p (.str [])), (.p .nilslice), (.p .nilslice)] [(0, 1, (.k (.v (.c (.p (.int .i64 2)))))), (2, 1, (.k (.v (.c (.p (.int .i64 5))))))]), none⟩, ⟨(some 12), (.call (.k (.v (.c (.func 20 [])))) [(.t 8), (.t 10), (.t 11)]), none⟩, ⟨(some 7), (.mv (.t 12)), none⟩, ⟨(some 13), (.extract (.t 7) 0), none⟩, ⟨(some 14), (.extract (.t 7) 1), none⟩, ⟨(some 15), (.extract (.t 7) 2), none⟩, ⟨(some 2), (.mv (.t 13)), none⟩, ⟨(some 3), (.mv (.t 14)), none⟩, ⟨(some 4), (.mv (.t 15)), none⟩] []) (.seq (.reg [⟨(some 16), (.mv (.t 4)), none⟩, ⟨(some 17), (.bin .eql 0 (.t 16) (.k (.v (.c (.p (.int .i64 0)))))), none⟩, ⟨(some 18), (.mv (.t 17)), none⟩, ⟨(some 19), (.mv (.t 3)), (some (18, true))⟩, ⟨(some 20), (.bin .eql 0 (.t 19) (.k (.v (.c (.p (.str [])))))), (some (18, true))⟩, ⟨(some 21), (.pick (.t 18) (.t 20) (.k (.v (.c (.p (.bool false)))))), none⟩, ⟨(some 22), (.mv (.t 21)), none⟩, ⟨(some 23), (.mv (.t 2)), (some (22, true))⟩, ⟨(some 24), (.bin .neq 1 (.t 23) (.k (.v (.c (.p .nilptr))))), (some (22, true))⟩, ⟨(some 25), (.pick (.t 22) (.t 24) (.k (.v (.c (.p (.bool false)))))), none⟩, ⟨(some 26), (.mv (.t 25)), none⟩, ⟨(some 27), (.mv (.t 2)), (some (26, true))⟩, ⟨(some 28), (.call (.k (.v (.c (.func 21 [])))) [(.t 27)]), (some (26, true))⟩, ⟨(some 29), (.field 2 1 false (.t 28)), (some (26, true))⟩, ⟨(some 30), (.bin .eql 0 (.t 29) (.k (.v (.c (.p (.int .i64 5)))))), (some (26, true))⟩, ⟨(some 31), (.pick (.t 26) (.t 30) (.k (.v (.c (.p (.bool false)))))), none⟩, ⟨(some 32), (.mv (.t 31)), none⟩, ⟨(some 33), (.mv (.t 2)), (some (32, true))⟩, ⟨(some 34), (.call (.k (.v (.c (.func 22 [])))) [(.t 33)]), (some (32, true))⟩, ⟨(some 35), (.bin .geq 0 (.t 34) (.k (.v (.c (.p (.int .i64 1)))))), (some (32, true))⟩, ⟨(some 36), (.pick (.t 32) (.t 35) (.k (.v (.c (.p (.bool false)))))), none⟩, ⟨(some 0), (.mv (.t 36)), none⟩] []) .ret)))) }
theorem t14 : compF Tryd.prog (globs2 tabs opq) false true Tryd.f14 = some c14.erase := by kernel_rfl
noncomputable def b14_0 (O : Oracle) (R : Jump) (q : Nat) (h : Heap) : Res1 :=
  vop O (.build [(.p (.int .i64 0)), (.p (.str [])), (.p .nilslice), (.p .nilslice)] [(0, 1, (.k (kI 2)))]) h 5 fun x5 h =>
  vop O (.build [(.p (.int .i64 0)), (.p (.str [])), (.p .nilslice), (.p .nilslice), (.p .nilslice), (.p .nilslice)] [(0, 4, (.k x5))]) h 6 fun x6 h =>
  vop O (.alloc [(.p (.int .i64 0)), (.p (.str [])), (.p .nilslice), (.p .nilslice), (.p .nilslice), (.p .nilslice)] false) h 1 fun x1 h =>
  vstore 6 x1 x6 h fun _ h =>
  vload true 6 x1 h fun x8 h =>
  vfaddr 0 x1 h fun x9 h =>
  vload true 4 x9 h fun x10 h =>
  vop O (.build [(.p (.int .i64 0)), (.p (.bool false)), (.p (.int .i64 0)), (.p (.str [])), (.p .nilslice), (.p .nilslice)] [(0, 1, (.k (kI 2))), (2, 1, (.k (kI 5)))]) h 11 fun x11 h =>
  vcall O (.v (.c (.func 20 []))) [x8, x10, x11] h 12 fun x12 h =>
  vext x12 0 h fun x13 h =>
  vext x12 1 h fun x14 h =>
  vext x12 2 h fun x15 h =>
  vbin .eql 0 x15 (kI 0) h fun x17 h =>
  vguard x17 true (fun kk => kk x14 h) h fun x19 h =>
  vguard x17 true (fun kk => vbin .eql 0 x19 (kS []) h kk) h fun x20 h =>
  vop O (.pick (.k x17) (.k x20) (.k (kB false))) h 21 fun x21 h =>
  vguard x21 true (fun kk => kk x13 h) h fun x23 h =>
  vguard x21 true (fun kk => vbin .neq 1 x23 (.v (.c (.p .nilptr))) h kk) h fun x24 h =>
  vop O (.pick (.k x21) (.k x24) (.k (kB false))) h 25 fun x25 h =>
  vguard x25 true (fun kk => kk x13 h) h fun x27 h =>
  vguard x25 true (fun kk => vcall O (.v (.c (.func 21 []))) [x27] h 28 kk) h fun x28 h =>
  vguard x25 true (fun kk => vfield 2 1 false x28 h kk) h fun x29 h =>
  vguard x25 true (fun kk => vbin .eql 0 x29 (kI 5) h kk) h fun x30 h =>
  vop O (.pick (.k x25) (.k x30) (.k (kB false))) h 31 fun x31 h =>
  vguard x31 true (fun kk => kk x13 h) h fun x33 h =>
  vguard x31 true (fun kk => vcall O (.v (.c (.func 22 []))) [x33] h 34 kk) h fun x34 h =>
  vguard x31 true (fun kk => vbin .geq 0 x34 (kI 1) h kk) h fun x35 h =>
  vop O (.pick (.k x31) (.k x35) (.k (kB false))) h 36 fun x36 h =>
  tcomp x36 fun c0 => vfin true q [c0] h
theorem e14_0 (O : Oracle) (R : Jump) (q : Nat) (h : Heap) : b14_0 O R q  h = stepF c14 O R q 0 [] h := by kernel_rfl
noncomputable def d14 : BlkF := fun O R q => [.z fun h => b14_0 O R q  h]
theorem o14 (O : Oracle) (R : Jump) (q : Nat) : HoldsAll c14 O R q 0 (d14 O R q) := ⟨fun  h => e14_0 O R q  h, trivial⟩
/- sprue/spruelaw17.within -/
def c15 : MFunc := { np := 2, res := [.t 4], frz := true, body := (.seq (.reg [⟨(some 4), (.mv (.k (.v (.c (.p (.int .i64 0)))))), none⟩] []) (.seq (.reg [⟨(some 6), (.mv (.t 0)), none⟩, ⟨(some 7), (.mv (.t 1)), none⟩, ⟨(some 8), (.bin .rem 0 (.t 6) (.t 7)), none⟩, ⟨(some 5), (.mv (.t 8)), none⟩] []) (.seq (.seq (.reg [⟨(some 9), (.mv (.t 5)), none⟩, ⟨(some 10), (.bin .lss 0 (.t 9) (.k (.v (.c (.p (.int .i64 0)))))), none⟩] []) (.cond (.t 10) (.reg [⟨(some 11), (.mv (.t 5)), none⟩, ⟨(some 12), (.mv (.t 1)), none⟩, ⟨(some 13), (.bin .add 0 (.t 11) (.t 12)), none⟩, ⟨(some 5), (.mv (.t 13)), none⟩] []) .skip)) (.seq (.reg [⟨(some 14), (.mv (.t 5)), none⟩, ⟨(some 4), (.mv (.t 14)), none⟩] []) .ret)))) }
theorem t15 : compF Tryd.prog (globs2 tabs opq) false true Tryd.f15 = some c15.erase := by kernel_rfl
noncomputable def b15_0 (O : Oracle) (R : Jump) (q : Nat) (x0 x1 : TVal) (h : Heap) : Res1 :=
  vbin .rem 0 x0 x1 h fun x8 h =>
  vbin .lss 0 x8 (kI 0) h fun x10 h =>
  vif x10 (
  vbin .add 0 x8 x1 h fun x13 h =>
  tcomp x13 fun c0 => vfin true q [c0] h)
  (tcomp x8 fun c0 => vfin true q [c0] h)
theorem e15_0 (O : Oracle) (R : Jump) (q : Nat) (x0 x1 : TVal) (h : Heap) : b15_0 O R q x0 x1 h = stepF c15 O R q 0 [x0, x1] h := by kernel_rfl
noncomputable def d15 : BlkF := fun O R q => [.s fun y0 => .s fun y1 => .z fun h => b15_0 O R q y0 y1 h]
theorem o15 (O : Oracle) (R : Jump) (q : Nat) : HoldsAll c15 O R q 0 (d15 O R q) := ⟨fun y0 y1 h => e15_0 O R q y0 y1 h, trivial⟩
/- sprue/spruelaw17.back -/
def c16 : MFunc := { np := 2, res := [.t 4, .t 5], frz := true, body := (.seq (.reg [⟨(some 4), (.mv (.k (.v (.c (.p (.str [])))))), none⟩, ⟨(some 5), (.mv (.k (.v (.c (.p (.int .i64 0)))))), none⟩] []) (.seq (.reg [⟨(some 14), (.mv (.t 0)), none⟩, ⟨(some 15), (.call (.k (.v (.c (.func 23 [])))) [(.t 14)]), none⟩, ⟨(some 13), (.mv (.t 15)), none⟩, ⟨(some 16), (.extract (.t 13) 0), none⟩, ⟨(some 17), (.extract (.t 13) 1), none⟩, ⟨(some 6), (.alloc [(.p (.int .i64 0)), (.p (.str [])), (.p .nilslice), (.p .nilslice), (.p .nilslice), (.p .nilslice)] false), none⟩, ⟨none, (.store 6 (.t 6) (.t 16)), none⟩, ⟨(some 7), (.mv (.t 17)), none⟩] []) (.seq (.reg [⟨(some 19), (.mv (.t 1)), none⟩, ⟨(some 20), (.call (.k (.v (.c (.func 24 [])))) [(.t 19)]), none⟩, ⟨(some 18), (.mv (.t 20)), none⟩, ⟨(some 21), (.extract (.t 18) 0), none⟩, ⟨(some 22), (.extract (.t 18) 1), none⟩, ⟨(some 8), (.alloc [(.p (.int .i64 0)), (.p (.bool false)), (.p (.int .i64 0)), (.p (.str [])), (.p .nilslice), (.p .nilslice)] false), none⟩, ⟨none, (.store 6 (.t 8) (.t 21)), none⟩, ⟨(some 9), (.mv (.t 22)), none⟩] []) (.seq (.seq (.reg [⟨(some 23), (.mv (.t 7)), none⟩, ⟨(some 24), (.bin .neq 0 (.t 23) (.k (.v (.c (.p (.int .i64 0)))))), none⟩, ⟨(some 25), (.mv (.t 24)), none⟩, ⟨(some 26), (.mv (.t 9)), (some (25, false))⟩, ⟨(some 27), (.bin .neq 0 (.t 26) (.k (.v (.c (.p (.int .i64 0)))))), (some (25, false))⟩, ⟨(some 28), (.pick (.t 25) (.k (.v (.c (.p (.bool true))))) (.t 27)), none⟩] []) (.cond (.t 28) (.seq (.reg [⟨(some 4), (.mv (.k (.v (.c (.p (.str [33])))))), none⟩, ⟨(some 5), (.mv (.k (.v (.c (.p (.int .i64 1)))))), none⟩] []) .ret) .skip)) (.seq (.reg [⟨(some 30), (.load true 6 (.t 6)), none⟩, ⟨(some 31), (.faddr 0 (.t 6)), none⟩, ⟨(some 32), (.load true 4 (.t 31)), none⟩, ⟨(some 33), (.load true 6 (.t 8)), none⟩, ⟨(some 34), (.call (.k (.v (.c (.func 20 [])))) [(.t 30), (.t 32), (.t 33)]), none⟩, ⟨(some 29), (.mv (.t 34)), none⟩, ⟨(some 35), (.extract (.t 29) 0), none⟩, ⟨(some 36), (.extract (.t 29) 1), none⟩, ⟨(some 37), (.extract (.t 29) 2), none⟩, ⟨(some 10), (.mv (.t 35)), none⟩, ⟨(some 11), (.mv (.t 36)), none⟩, ⟨(some 12), (.mv (.t 37)), none⟩] []) (.seq (.seq (.reg [⟨(some 38), (.mv (.t 12)), none⟩, ⟨(some 39), (.bin .neq 0 (.t 38) (.k (.v (.c (.p (.int .i64 0)))))), none⟩] []) (.cond (.t 39) (.seq (.reg [⟨(some 40), (.mv (.t 11)), none⟩, ⟨(some 41), (.mv (.t 12)), none⟩, ⟨(some 4), (.mv (.t 40)), none⟩, ⟨(some 5), (.mv (.t 41)), none⟩] []) .ret) .skip)) (.seq (.reg [⟨(some 42), (.mv (.t 10)), none⟩, ⟨(some 43), (.call (.k (.v (.c (.func 21 [])))) [(.t 42)]), none⟩, ⟨(some 44), (.call (.k (.v (.c (.func 25 [])))) [(.t 43)]), none⟩, ⟨(some 45), (.mv (.t 12)), none⟩, ⟨(some 4), (.mv (.t 44)), none⟩, ⟨(some 5), (.mv (.t 45)), none⟩] []) .ret))))))) }
theorem t16 : compF Tryd.prog (globs2 tabs opq) false true Tryd.f16 = some c16.erase := by kernel_rfl
noncomputable def b16_0 (O : Oracle) (R : Jump) (q : Nat) (x0 x1 : TVal) (h : Heap) : Res1 :=
  vcall O (.v (.c (.func 23 []))) [x0] h 15 fun x15 h =>
  vext x15 0 h fun x16 h =>
  vext x15 1 h fun x17 h =>
  vop O (.alloc [(.p (.int .i64 0)), (.p (.str [])), (.p .nilslice), (.p .nilslice), (.p .nilslice), (.p .nilslice)] false) h 6 fun x6 h =>
  vstore 6 x6 x16 h fun _ h =>
  vcall O (.v (.c (.func 24 []))) [x1] h 20 fun x20 h =>
  vext x20 0 h fun x21 h =>
  vext x20 1 h fun x22 h =>
  vop O (.alloc [(.p (.int .i64 0)), (.p (.bool false)), (.p (.int .i64 0)), (.p (.str [])), (.p .nilslice), (.p .nilslice)] false) h 8 fun x8 h =>
  vstore 6 x8 x21 h fun _ h =>
  vbin .neq 0 x17 (kI 0) h fun x24 h =>
  vguard x24 false (fun kk => kk x22 h) h fun x26 h =>
  vguard x24 false (fun kk => vbin .neq 0 x26 (kI 0) h kk) h fun x27 h =>
  vop O (.pick (.k x24) (.k (kB true)) (.k x27)) h 28 fun x28 h =>
  vif x28 (
  tcomp (kS [33]) fun c0 => tcomp (kI 1) fun c1 => vfin true q [c0, c1] h)
  (vload true 6 x6 h fun x30 h =>
  vfaddr 0 x6 h fun x31 h =>
  vload true 4 x31 h fun x32 h =>
  vload true 6 x8 h fun x33 h =>
  vcall O (.v (.c (.func 20 []))) [x30, x32, x33] h 34 fun x34 h =>
  vext x34 0 h fun x35 h =>
  vext x34 1 h fun x36 h =>
  vext x34 2 h fun x37 h =>
  vbin .neq 0 x37 (kI 0) h fun x39 h =>
  vif x39 (
  tcomp x36 fun c0 => tcomp x37 fun c1 => vfin true q [c0, c1] h)
  (vcall O (.v (.c (.func 21 []))) [x35] h 43 fun x43 h =>
  vcall O (.v (.c (.func 25 []))) [x43] h 44 fun x44 h =>
  tcomp x44 fun c0 => tcomp x37 fun c1 => vfin true q [c0, c1] h))
theorem e16_0 (O : Oracle) (R : Jump) (q : Nat) (x0 x1 : TVal) (h : Heap) : b16_0 O R q x0 x1 h = stepF c16 O R q 0 [x0, x1] h := by kernel_rfl
noncomputable def d16 : BlkF := fun O R q => [.s fun y0 => .s fun y1 => .z fun h => b16_0 O R q y0 y1 h]
theorem o16 (O : Oracle) (R : Jump) (q : Nat) : HoldsAll c16 O R q 0 (d16 O R q) := ⟨fun y0 y1 h => e16_0 O R q y0 y1 h, trivial⟩
/- sprue/rows.Pack -/
def c20 : MFunc := { np := 3, res := [.t 6, .t 7, .t 8], frz := false, body := (.seq (.reg [⟨(some 3), (.box (.t 0) false), none⟩, ⟨(some 4), (.box (.t 1) false), none⟩, ⟨(some 5), (.box (.t 2) false), none⟩, ⟨(some 6), (.mv (.k (.v (.c (.p .nilptr))))), none⟩, ⟨(some 7), (.mv (.k (.v (.c (.p (.str [])))))), none⟩, ⟨(some 8), (.mv (.k (.v (.c (.p (.int .i64 0)))))), none⟩] []) (.seq (.seq (.reg [⟨(some 14), (.load true 6 (.t 3)), none⟩, ⟨(some 15), (.load true 4 (.t 4)), none⟩, ⟨(some 16), (.load true 6 (.t 5)), none⟩, ⟨(some 17), (.call (.k (.v (.c (.func 38 [])))) [(.t 14), (.t 15), (.t 16)]), none⟩, ⟨(some 13), (.mv (.t 17)), none⟩, ⟨(some 18), (.extract (.t 13) 0), none⟩, ⟨(some 19), (.extract (.t 13) 1), none⟩, ⟨(some 9), (.mv (.t 18)), none⟩, ⟨(some 10), (.mv (.t 19)), none⟩] []) (.seq (.reg [⟨(some 20), (.mv (.t 10)), none⟩, ⟨(some 21), (.bin .neq 0 (.t 20) (.k (.v (.c (.p (.int .i64 0)))))), none⟩] []) (.cond (.t 21) (.seq (.reg [⟨(some 22), (.mv (.t 9)), none⟩, ⟨(some 23), (.mv (.t 10)), none⟩, ⟨(some 6), (.mv (.k (.v (.c (.p .nilptr))))), none⟩, ⟨(some 7), (.mv (.t 22)), none⟩, ⟨(some 8), (.mv (.t 23)), none⟩] []) .ret) .skip))) (.seq (.reg [⟨(some 24), (.load true 6 (.t 3)), none⟩, ⟨(some 25), (.call (.k (.v (.c (.func 39 [])))) [(.t 24)]), none⟩, ⟨(some 11), (.mv (.t 25)), none⟩] []) (.seq (.reg [⟨(some 26), (.mv (.t 11)), none⟩, ⟨(some 27), (.load true 4 (.t 4)), none⟩, ⟨(some 28), (.load true 6 (.t 5)), none⟩, ⟨(some 29), (.call (.k (.v (.c (.func 40 [])))) [(.t 26), (.t 27), (.t 28)]), none⟩, ⟨(some 12), (.mv (.t 29)), none⟩] []) (.seq (.reg [⟨(some 30), (.mv (.t 11)), none⟩, ⟨(some 31), (.mv (.t 12)), none⟩, ⟨(some 32), (.bslice 1 1 [(.p (.int .u64 0))] [(0, (.t 31))] false), none⟩, ⟨(some 33), (.call (.k (.v (.c (.func 41 [])))) [(.t 30), (.t 32)]), none⟩] []) (.seq (.reg [⟨(some 34), (.mv (.t 11)), none⟩, ⟨(some 35), (.load true 4 (.t 4)), none⟩, ⟨(some 36), (.mv (.t 12)), none⟩, ⟨(some 37), (.build [(.p .nilptr), (.p (.int .i64 0)), (.p (.str [])), (.p .nilslice), (.p .nilslice), (.p (.int .u64 0))] [(0, 1, (.t 34)), (1, 4, (.t 35)), (5, 1, (.t 36))]), none⟩, ⟨(some 38), (.box (.t 37) false), none⟩, ⟨(some 6), (.mv (.t 38)), none⟩, ⟨(some 7), (.mv (.k (.v (.c (.p (.str [])))))), none⟩, ⟨(some 8), (.mv (.k (.v (.c (.p (.int .i64 0)))))), none⟩] []) .ret)))))) }
theorem t20 : compF Tryd.prog (globs2 tabs opq) false false Tryd.f20 = some c20.erase := by kernel_rfl
noncomputable def b20_0 (O : Oracle) (R : Jump) (q : Nat) (x0 x1 x2 : TVal) (h : Heap) : Res1 :=
  vop O (.box (.k x0) false) h 3 fun x3 h =>
  vop O (.box (.k x1) false) h 4 fun x4 h =>
  vop O (.box (.k x2) false) h 5 fun x5 h =>
  vload true 6 x3 h fun x14 h =>
  vload true 4 x4 h fun x15 h =>
  vload true 6 x5 h fun x16 h =>
  vcall O (.v (.c (.func 38 []))) [x14, x15, x16] h 17 fun x17 h =>
  vext x17 0 h fun x18 h =>
  vext x17 1 h fun x19 h =>
  vbin .neq 0 x19 (kI 0) h fun x21 h =>
  vif x21 (
  tcomp (.v (.c (.p .nilptr))) fun c0 => tcomp x18 fun c1 => tcomp x19 fun c2 => vfin false q [c0, c1, c2] h)
  (vload true 6 x3 h fun x24 h =>
  vcall O (.v (.c (.func 39 []))) [x24] h 25 fun x25 h =>
  vload true 4 x4 h fun x27 h =>
  vload true 6 x5 h fun x28 h =>
  vcall O (.v (.c (.func 40 []))) [x25, x27, x28] h 29 fun x29 h =>
  vop O (.bslice 1 1 [(.p (.int .u64 0))] [(0, (.k x29))] false) h 32 fun x32 h =>
  vcall O (.v (.c (.func 41 []))) [x25, x32] h 33 fun x33 h =>
  vload true 4 x4 h fun x35 h =>
  vop O (.build [(.p .nilptr), (.p (.int .i64 0)), (.p (.str [])), (.p .nilslice), (.p .nilslice), (.p (.int .u64 0))] [(0, 1, (.k x25)), (1, 4, (.k x35)), (5, 1, (.k x29))]) h 37 fun x37 h =>
  vop O (.box (.k x37) false) h 38 fun x38 h =>
  tcomp x38 fun c0 => tcomp (kS []) fun c1 => tcomp (kI 0) fun c2 => vfin false q [c0, c1, c2] h)
theorem e20_0 (O : Oracle) (R : Jump) (q : Nat) (x0 x1 x2 : TVal) (h : Heap) : b20_0 O R q x0 x1 x2 h = stepF c20 O R q 0 [x0, x1, x2] h := by kernel_rfl
noncomputable def d20 : BlkF := fun O R q => [.s fun y0 => .s fun y1 => .s fun y2 => .z fun h => b20_0 O R q y0 y1 y2 h]
theorem o20 (O : Oracle) (R : Jump) (q : Nat) : HoldsAll c20 O R q 0 (d20 O R q) := ⟨fun y0 y1 y2 h => e20_0 O R q y0 y1 y2 h, trivial⟩
/- (*sprue/rows.Rows).Value -/
def c21 : MFunc := { np := 1, res := [.cell 2 true 6], frz := true, body := (.seq (.reg [⟨(some 2), (.alloc [(.p (.int .i64 0)), (.p (.bool false)), (.p (.int .i64 0)), (.p (.str [])), (.p .nilslice), (.p .nilslice)] false), none⟩] []) (.seq (.reg [⟨(some 3), (.mv (.t 0)), none⟩, ⟨(some 4), (.nilck (.t 3)), none⟩, ⟨(some 5), (.faddr 0 (.t 4)), none⟩, ⟨(some 6), (.load false 1 (.t 5)), none⟩, ⟨(some 7), (.mv (.t 0)), none⟩, ⟨(some 8), (.nilck (.t 7)), none⟩, ⟨(some 9), (.faddr 1 (.t 8)), none⟩, ⟨(some 10), (.load true 4 (.t 9)), none⟩, ⟨(some 11), (.mv (.t 0)), none⟩, ⟨(some 12), (.nilck (.t 11)), none⟩, ⟨(some 13), (.faddr 5 (.t 12)), none⟩, ⟨(some 14), (.load false 1 (.t 13)), none⟩, ⟨(some 15), (.call (.k (.v (.c (.func 42 [])))) [(.t 6), (.t 10), (.t 14)]), none⟩, ⟨none, (.store 6 (.t 2) (.t 15)), none⟩] []) .ret)) }
theorem t21 : compF Tryd.prog (globs2 tabs opq) false true Tryd.f21 = some c21.erase := by kernel_rfl
noncomputable def b21_0 (O : Oracle) (R : Jump) (q : Nat) (x0 : TVal) (h : Heap) : Res1 :=
  vop O (.alloc [(.p (.int .i64 0)), (.p (.bool false)), (.p (.int .i64 0)), (.p (.str [])), (.p .nilslice), (.p .nilslice)] false) h 2 fun x2 h =>
  vop O (.nilck (.k x0)) h 4 fun x4 h =>
  vfaddr 0 x4 h fun x5 h =>
  vload false 1 x5 h fun x6 h =>
  vop O (.nilck (.k x0)) h 8 fun x8 h =>
  vfaddr 1 x8 h fun x9 h =>
  vload true 4 x9 h fun x10 h =>
  vop O (.nilck (.k x0)) h 12 fun x12 h =>
  vfaddr 5 x12 h fun x13 h =>
  vload false 1 x13 h fun x14 h =>
  vcall O (.v (.c (.func 42 []))) [x6, x10, x14] h 15 fun x15 h =>
  vstore 6 x2 x15 h fun _ h =>
  vcell true 6 x2 h fun c0 => vfin true q [c0] h
theorem e21_0 (O : Oracle) (R : Jump) (q : Nat) (x0 : TVal) (h : Heap) : b21_0 O R q x0 h = stepF c21 O R q 0 [x0] h := by kernel_rfl
noncomputable def d21 : BlkF := fun O R q => [.s fun y0 => .z fun h => b21_0 O R q y0 h]
theorem o21 (O : Oracle) (R : Jump) (q : Nat) : HoldsAll c21 O R q 0 (d21 O R q) := ⟨fun y0 h => e21_0 O R q y0 h, trivial⟩
/- (*sprue/rows.Rows).Words -/
def c22 : MFunc := { np := 1, res := [.t 2], frz := true, body := (.seq (.reg [⟨(some 2), (.mv (.k (.v (.c (.p (.int .i64 0)))))), none⟩] []) (.seq (.reg [⟨(some 3), (.mv (.t 0)), none⟩, ⟨(some 4), (.nilck (.t 3)), none⟩, ⟨(some 5), (.faddr 0 (.t 4)), none⟩, ⟨(some 6), (.load false 1 (.t 5)), none⟩, ⟨(some 7), (.nilck (.t 6)), none⟩, ⟨(some 8), (.faddr 0 (.t 7)), none⟩, ⟨(some 9), (.load false 1 (.t 8)), none⟩, ⟨(some 10), (.len 2 (.t 9)), none⟩, ⟨(some 2), (.mv (.t 10)), none⟩] []) .ret)) }
theorem t22 : compF Tryd.prog (globs2 tabs opq) false true Tryd.f22 = some c22.erase := by kernel_rfl
noncomputable def b22_0 (O : Oracle) (R : Jump) (q : Nat) (x0 : TVal) (h : Heap) : Res1 :=
  vop O (.nilck (.k x0)) h 4 fun x4 h =>
  vfaddr 0 x4 h fun x5 h =>
  vload false 1 x5 h fun x6 h =>
  vop O (.nilck (.k x6)) h 7 fun x7 h =>
  vfaddr 0 x7 h fun x8 h =>
  vload false 1 x8 h fun x9 h =>
  vlen O 2 x9 h 10 fun x10 h =>
  tcomp x10 fun c0 => vfin true q [c0] h
theorem e22_0 (O : Oracle) (R : Jump) (q : Nat) (x0 : TVal) (h : Heap) : b22_0 O R q x0 h = stepF c22 O R q 0 [x0] h := by kernel_rfl
noncomputable def d22 : BlkF := fun O R q => [.s fun y0 => .z fun h => b22_0 O R q y0 h]
theorem o22 (O : Oracle) (R : Jump) (q : Nat) : HoldsAll c22 O R q 0 (d22 O R q) := ⟨fun y0 h => e22_0 O R q y0 h, trivial⟩
/- sprue/sprueref3.Parse -/
def c23 : MFunc := { np := 1, res := [.cell 2 true 6, .t 3], frz := true, body := (.seq (.reg [⟨(some 2), (.alloc [(.p (.int .i64 0)), (.p (.str [])), (.p .nilslice), (.p .nilslice), (.p .nilslice), (.p .nilslice)] false), none⟩, ⟨(some 3), (.mv (.k (.v (.c (.p (.int .i64 0)))))), none⟩] []) (.seq (.reg [⟨(some 15), (.mv (.t 0)), none⟩, ⟨(some 16), (.call (.k (.v (.c (.func 43 [])))) [(.t 15)]), none⟩, ⟨(some 14), (.mv (.t 16)), none⟩, ⟨(some 17), (.extract (.t 14) 0), none⟩, ⟨(some 18), (.extract (.t 14) 1), none⟩, ⟨(some 4), (.mv (.t 17)), none⟩, ⟨(some 5), (.mv (.t 18)), none⟩] []) (.seq (.seq (.reg [⟨(some 19), (.mv (.t 5)), none⟩, ⟨(some 20), (.bin .neq 0 (.t 19) (.k (.v (.c (.p (.int .i64 0)))))), none⟩] []) (.cond (.t 20) (.seq (.reg [⟨(some 21), (.build [(.p (.int .i64 0)), (.p (.str [])), (.p .nilslice), (.p .nilslice), (.p .nilslice), (.p .nilslice)] []), none⟩, ⟨(some 22), (.mv (.t 5)), none⟩, ⟨none, (.store 6 (.t 2) (.t 21)), none⟩, ⟨(some 3), (.mv (.t 22)), none⟩] []) .ret) .skip)) (.seq (.reg [⟨(some 23), (.mv (.t 4)), none⟩, ⟨(some 24), (.build [(.p .nilslice), (.p (.int .i64 0)), (.p (.int .i64 0)), (.p (.bool false))] [(0, 1, (.t 23))]), none⟩, ⟨(some 25), (.box (.t 24) false), none⟩, ⟨(some 6), (.mv (.t 25)), none⟩] []) (.seq (.reg [⟨(some 26), (.mv (.t 6)), none⟩, ⟨(some 27), (.call (.k (.v (.c (.func 44 [])))) [(.t 26), (.k (.v (.c (.p (.str [100, 97, 116, 97])))))]), none⟩] []) (.seq (.reg [⟨(some 28), (.mv (.t 6)), none⟩, ⟨(some 29), (.call (.k (.v (.c (.func 45 [])))) [(.t 28), (.k (.v (.c (.p (.int .i64 1)))))]), none⟩, ⟨(some 30), (.build [(.p (.int .i64 0)), (.p (.str [])), (.p .nilslice), (.p .nilslice), (.p .nilslice), (.p .nilslice)] [(0, 4, (.t 29))]), none⟩, ⟨(some 7), (.alloc [(.p (.int .i64 0)), (.p (.str [])), (.p .nilslice), (.p .nilslice), (.p .nilslice), (.p .nilslice)] false), none⟩, ⟨none, (.store 6 (.t 7) (.t 30)), none⟩] []) (.seq (.reg [⟨(some 31), (.mv (.t 6)), none⟩, ⟨(some 32), (.call (.k (.v (.c (.func 44 [])))) [(.t 31), (.k (.v (.c (.p (.str [59])))))]), none⟩] []) (.seq (.block 0 (.loop 1 [2, 6, 7] (.seq (.seq (.reg [⟨(some 33), (.mv (.t 6)), none⟩, ⟨(some 34), (.nilck (.t 33)), none⟩, ⟨(some 35), (.faddr 2 (.t 34)), none⟩, ⟨(some 36), (.load false 1 (.t 35)), none⟩, ⟨(some 37), (.bin .eql 0 (.t 36) (.k (.v (.c (.p (.int .i64 0)))))), none⟩, ⟨(some 38), (.mv (.t 37)), none⟩, ⟨(some 39), (.mv (.t 6)), (some (38, true))⟩, ⟨(some 40), (.nilck (.t 39)), (some (38, true))⟩, ⟨(some 41), (.faddr 1 (.t 40)), (some (38, true))⟩, ⟨(some 42), (.load false 1 (.t 41)), (some (38, true))⟩, ⟨(some 43), (.mv (.t 6)), (some (38, true))⟩, ⟨(some 44), (.nilck (.t 43)), (some (38, true))⟩, ⟨(some 45), (.faddr 0 (.t 44)), (some (38, true))⟩, ⟨(some 46), (.load false 1 (.t 45)), (some (38, true))⟩, ⟨(some 47), (.len 2 (.t 46)), (some (38, true))⟩, ⟨(some 48), (.bin .lss 0 (.t 42) (.t 47)), (some (38, true))⟩, ⟨(some 49), (.pick (.t 38) (.t 48) (.k (.v (.c (.p (.bool false)))))), none⟩] []) (.cond (.t 49) .skip (.exit 0))) (.block 1 (.seq (.seq (.reg [⟨(some 50), (.mv (.t 6)), none⟩, ⟨(some 51), (.call (.k (.v (.c (.func 46 [])))) [(.t 50), (.k (.v (.c (.p (.str [102, 110])))))]), none⟩] []) (.cond (.t 51) (.seq (.reg [⟨(some 52), (.mv (.t 6)), none⟩, ⟨(some 53), (.nilck (.t 52)), none⟩, ⟨(some 54), (.faddr 1 (.t 53)), none⟩, ⟨(some 55), (.load false 1 (.t 54)), none⟩, ⟨(some 56), (.bin .add 0 (.t 55) (.k (.v (.c (.p (.int .i64 1)))))), none⟩, ⟨(some 57), (.nilck (.t 52)), none⟩, ⟨(some 58), (.faddr 1 (.t 57)), none⟩, ⟨none, (.store 1 (.t 58) (.t 56)), none⟩] []) (.seq (.reg [⟨(some 59), (.mv (.t 6)), none⟩, ⟨(some 60), (.call (.k (.v (.c (.func 47 [])))) [(.t 59)]), none⟩, ⟨(some 8), (.alloc [(.p (.str [])), (.p .nilslice), (.p (.int .i64 0)), (.p (.str [])), (.p .nilslice), (.p .nilslice)] false), none⟩, ⟨none, (.store 6 (.t 8) (.t 60)), none⟩] []) (.seq (.reg [⟨(some 9), (.mv (.k (.v (.c (.p (.int .i64 0)))))), none⟩] []) (.seq (.block 2 (.loop 2 [2, 6, 7, 8, 9] (.seq (.seq (.reg [⟨(some 61), (.mv (.t 9)), none⟩, ⟨(some 62), (.faddr 5 (.t 7)), none⟩, ⟨(some 63), (.load false 1 (.t 62)), none⟩, ⟨(some 64), (.len 2 (.t 63)), none⟩, ⟨(some 65), (.bin .lss 0 (.t 61) (.t 64)), none⟩, ⟨(some 66), (.mv (.t 65)), none⟩, ⟨(some 67), (.faddr 5 (.t 7)), (some (66, true))⟩, ⟨(some 68), (.load false 1 (.t 67)), (some (66, true))⟩, ⟨(some 69), (.mv (.t 9)), (some (66, true))⟩, ⟨(some 70), (.iaddr 6 (.t 68) (.t 69)), (some (66, true))⟩, ⟨(some 71), (.faddr 0 (.t 70)), (some (66, true))⟩, ⟨(some 72), (.load false 1 (.t 71)), (some (66, true))⟩, ⟨(some 73), (.faddr 0 (.t 8)), (some (66, true))⟩, ⟨(some 74), (.load false 1 (.t 73)), (some (66, true))⟩, ⟨(some 75), (.bin .lss 0 (.t 72) (.t 74)), (some (66, true))⟩, ⟨(some 76), (.pick (.t 66) (.t 75) (.k (.v (.c (.p (.bool false)))))), none⟩] []) (.cond (.t 76) .skip (.exit 2))) (.block 3 (.reg [⟨(some 77), (.mv (.t 9)), none⟩, ⟨(some 78), (.bin .add 0 (.t 77) (.k (.v (.c (.p (.int .i64 1)))))), none⟩, ⟨(some 9), (.mv (.t 78)), none⟩] []))))) (.mark 3 [2, 6, 7, 8, 9] (.seq (.reg [⟨(some 79), (.mv (.t 6)), none⟩, ⟨(some 80), (.mv (.t 6)), none⟩, ⟨(some 81), (.nilck (.t 80)), none⟩, ⟨(some 82), (.faddr 3 (.t 81)), none⟩, ⟨(some 83), (.load false 1 (.t 82)), none⟩, ⟨(some 84), (.mv (.t 83)), none⟩, ⟨(some 85), (.mv (.t 9)), (some (84, false))⟩, ⟨(some 86), (.faddr 5 (.t 7)), (some (84, false))⟩, ⟨(some 87), (.load false 1 (.t 86)), (some (84, false))⟩, ⟨(some 88), (.len 2 (.t 87)), (some (84, false))⟩, ⟨(some 89), (.bin .lss 0 (.t 85) (.t 88)), (some (84, false))⟩, ⟨(some 90), (.mv (.t 89)), (some (84, false))⟩, ⟨(some 91), (.faddr 5 (.t 7)), (some (90, true))⟩, ⟨(some 92), (.load false 1 (.t 91)), (some (90, true))⟩, ⟨(some 93), (.mv (.t 9)), (some (90, true))⟩, ⟨(some 94), (.iaddr 6 (.t 92) (.t 93)), (some (90, true))⟩, ⟨(some 95), (.faddr 0 (.t 94)), (some (90, true))⟩, ⟨(some 96), (.load false 1 (.t 95)), (some (90, true))⟩, ⟨(some 97), (.faddr 0 (.t 8)), (some (90, true))⟩, ⟨(some 98), (.load false 1 (.t 97)), (some (90, true))⟩, ⟨(some 99), (.bin .eql 0 (.t 96) (.t 98)), (some (90, true))⟩, ⟨(some 100), (.pick (.t 90) (.t 99) (.k (.v (.c (.p (.bool false)))))), (some (84, false))⟩, ⟨(some 101), (.pick (.t 84) (.k (.v (.c (.p (.bool true))))) (.t 100)), none⟩, ⟨(some 102), (.nilck (.t 79)), none⟩, ⟨(some 103), (.faddr 3 (.t 102)), none⟩, ⟨none, (.store 1 (.t 103) (.t 101)), none⟩] []) (.seq (.reg [⟨(some 104), (.bslice 6 0 [(.p (.str [])), (.p .nilslice), (.p (.int .i64 0)), (.p (.str [])), (.p .nilslice), (.p .nilslice)] [] false), none⟩, ⟨(some 105), (.faddr 5 (.t 7)), none⟩, ⟨(some 106), (.load false 1 (.t 105)), none⟩, ⟨(some 107), (.mv (.t 9)), none⟩, ⟨(some 108), (.slice 6 false (.t 106) none (some (.t 107)) none), none⟩, ⟨(some 109), (.append 6 112 false (.t 104) (.t 108)), none⟩, ⟨(some 10), (.mv (.t 109)), none⟩] []) (.seq (.reg [⟨(some 110), (.mv (.t 10)), none⟩, ⟨(some 111), (.load true 6 (.t 8)), none⟩, ⟨(some 112), (.bslice 6 1 [(.p (.str [])), (.p .nilslice), (.p (.int .i64 0)), (.p (.str [])), (.p .nilslice), (.p .nilslice)] [(0, (.t 111))] false), none⟩, ⟨(some 113), (.append 6 112 false (.t 110) (.t 112)), none⟩, ⟨(some 114), (.faddr 5 (.t 7)), none⟩, ⟨(some 115), (.load false 1 (.t 114)), none⟩, ⟨(some 116), (.mv (.t 9)), none⟩, ⟨(some 117), (.slice 6 false (.t 115) (some (.t 116)) none none), none⟩, ⟨(some 118), (.append 6 112 false (.t 113) (.t 117)), none⟩, ⟨(some 119), (.faddr 5 (.t 7)), none⟩, ⟨none, (.store 1 (.t 119) (.t 118)), none⟩] [(2, 5), (3, 5)]) (.exit 1))))))))) .skip)) (.mark 4 [2, 6, 7] (.seq (.reg [⟨(some 120), (.mv (.t 6)), none⟩, ⟨(some 121), (.call (.k (.v (.c (.func 44 [])))) [(.t 120), (.k (.v (.c (.p (.str [116, 121, 112, 101])))))]), none⟩] []) (.seq (.reg [⟨(some 122), (.mv (.t 6)), none⟩, ⟨(some 123), (.call (.k (.v (.c (.func 48 [])))) [(.t 122)]), none⟩, ⟨(some 124), (.build [(.p (.str [])), (.p (.int .i64 0)), (.p (.str [])), (.p .nilslice), (.p .nilslice)] [(0, 1, (.t 123))]), none⟩, ⟨(some 11), (.alloc [(.p (.str [])), (.p (.int .i64 0)), (.p (.str [])), (.p .nilslice), (.p .nilslice)] false), none⟩, ⟨none, (.store 5 (.t 11) (.t 124)), none⟩] []) (.seq (.reg [⟨(some 125), (.mv (.t 6)), none⟩, ⟨(some 126), (.call (.k (.v (.c (.func 44 [])))) [(.t 125), (.k (.v (.c (.p (.str [61])))))]), none⟩] []) (.seq (.reg [⟨(some 127), (.mv (.t 6)), none⟩, ⟨(some 128), (.call (.k (.v (.c (.func 45 [])))) [(.t 127), (.k (.v (.c (.p (.int .i64 1)))))]), none⟩, ⟨(some 129), (.faddr 1 (.t 11)), none⟩, ⟨none, (.store 4 (.t 129) (.t 128)), none⟩] []) (.seq (.reg [⟨(some 130), (.mv (.t 6)), none⟩, ⟨(some 131), (.call (.k (.v (.c (.func 44 [])))) [(.t 130), (.k (.v (.c (.p (.str [59])))))]), none⟩] []) (.seq (.reg [⟨(some 12), (.mv (.k (.v (.c (.p (.int .i64 0)))))), none⟩] []) (.seq (.block 4 (.loop 5 [2, 6, 7, 11, 12] (.seq (.seq (.reg [⟨(some 132), (.mv (.t 12)), none⟩, ⟨(some 133), (.faddr 4 (.t 7)), none⟩, ⟨(some 134), (.load false 1 (.t 133)), none⟩, ⟨(some 135), (.len 2 (.t 134)), none⟩, ⟨(some 136), (.bin .lss 0 (.t 132) (.t 135)), none⟩, ⟨(some 137), (.mv (.t 136)), none⟩, ⟨(some 138), (.faddr 4 (.t 7)), (some (137, true))⟩, ⟨(some 139), (.load false 1 (.t 138)), (some (137, true))⟩, ⟨(some 140), (.mv (.t 12)), (some (137, true))⟩, ⟨(some 141), (.iaddr 5 (.t 139) (.t 140)), (some (137, true))⟩, ⟨(some 142), (.faddr 0 (.t 141)), (some (137, true))⟩, ⟨(some 143), (.load false 1 (.t 142)), (some (137, true))⟩, ⟨(some 144), (.faddr 0 (.t 11)), (some (137, true))⟩, ⟨(some 145), (.load false 1 (.t 144)), (some (137, true))⟩, ⟨(some 146), (.bin .lss 0 (.t 143) (.t 145)), (some (137, true))⟩, ⟨(some 147), (.pick (.t 137) (.t 146) (.k (.v (.c (.p (.bool false)))))), none⟩] []) (.cond (.t 147) .skip (.exit 4))) (.block 5 (.reg [⟨(some 148), (.mv (.t 12)), none⟩, ⟨(some 149), (.bin .add 0 (.t 148) (.k (.v (.c (.p (.int .i64 1)))))), none⟩, ⟨(some 12), (.mv (.t 149)), none⟩] []))))) (.mark 6 [2, 6, 7, 11, 12] (.seq (.reg [⟨(some 150), (.mv (.t 6)), none⟩, ⟨(some 151), (.mv (.t 6)), none⟩, ⟨(some 152), (.nilck (.t 151)), none⟩, ⟨(some 153), (.faddr 3 (.t 152)), none⟩, ⟨(some 154), (.load false 1 (.t 153)), none⟩, ⟨(some 155), (.mv (.t 154)), none⟩, ⟨(some 156), (.mv (.t 12)), (some (155, false))⟩, ⟨(some 157), (.faddr 4 (.t 7)), (some (155, false))⟩, ⟨(some 158), (.load false 1 (.t 157)), (some (155, false))⟩, ⟨(some 159), (.len 2 (.t 158)), (some (155, false))⟩, ⟨(some 160), (.bin .lss 0 (.t 156) (.t 159)), (some (155, false))⟩, ⟨(some 161), (.mv (.t 160)), (some (155, false))⟩, ⟨(some 162), (.faddr 4 (.t 7)), (some (161, true))⟩, ⟨(some 163), (.load false 1 (.t 162)), (some (161, true))⟩, ⟨(some 164), (.mv (.t 12)), (some (161, true))⟩, ⟨(some 165), (.iaddr 5 (.t 163) (.t 164)), (some (161, true))⟩, ⟨(some 166), (.faddr 0 (.t 165)), (some (161, true))⟩, ⟨(some 167), (.load false 1 (.t 166)), (some (161, true))⟩, ⟨(some 168), (.faddr 0 (.t 11)), (some (161, true))⟩, ⟨(some 169), (.load false 1 (.t 168)), (some (161, true))⟩, ⟨(some 170), (.bin .eql 0 (.t 167) (.t 169)), (some (161, true))⟩, ⟨(some 171), (.pick (.t 161) (.t 170) (.k (.v (.c (.p (.bool false)))))), (some (155, false))⟩, ⟨(some 172), (.pick (.t 155) (.k (.v (.c (.p (.bool true))))) (.t 171)), none⟩, ⟨(some 173), (.nilck (.t 150)), none⟩, ⟨(some 174), (.faddr 3 (.t 173)), none⟩, ⟨none, (.store 1 (.t 174) (.t 172)), none⟩] []) (.seq (.reg [⟨(some 175), (.bslice 5 0 [(.p (.str [])), (.p (.int .i64 0)), (.p (.str [])), (.p .nilslice), (.p .nilslice)] [] false), none⟩, ⟨(some 176), (.faddr 4 (.t 7)), none⟩, ⟨(some 177), (.load false 1 (.t 176)), none⟩, ⟨(some 178), (.mv (.t 12)), none⟩, ⟨(some 179), (.slice 5 false (.t 177) none (some (.t 178)) none), none⟩, ⟨(some 180), (.append 5 88 false (.t 175) (.t 179)), none⟩, ⟨(some 13), (.mv (.t 180)), none⟩] []) (.reg [⟨(some 181), (.mv (.t 13)), none⟩, ⟨(some 182), (.load true 5 (.t 11)), none⟩, ⟨(some 183), (.bslice 5 1 [(.p (.str [])), (.p (.int .i64 0)), (.p (.str [])), (.p .nilslice), (.p .nilslice)] [(0, (.t 182))] false), none⟩, ⟨(some 184), (.append 5 88 false (.t 181) (.t 183)), none⟩, ⟨(some 185), (.faddr 4 (.t 7)), none⟩, ⟨(some 186), (.load false 1 (.t 185)), none⟩, ⟨(some 187), (.mv (.t 12)), none⟩, ⟨(some 188), (.slice 5 false (.t 186) (some (.t 187)) none none), none⟩, ⟨(some 189), (.append 5 88 false (.t 184) (.t 188)), none⟩, ⟨(some 190), (.faddr 4 (.t 7)), none⟩, ⟨none, (.store 1 (.t 190) (.t 189)), none⟩] [(2, 5), (3, 5)]))))))))))))))))) (.mark 7 [2, 6, 7] (.seq (.seq (.reg [⟨(some 191), (.mv (.t 6)), none⟩, ⟨(some 192), (.call (.k (.v (.c (.func 49 [])))) [(.t 191)]), none⟩, ⟨(some 193), (.bin .neq 0 (.t 192) (.k (.v (.c (.p (.int .i64 0)))))), none⟩] []) (.cond (.t 193) (.seq (.reg [⟨(some 194), (.build [(.p (.int .i64 0)), (.p (.str [])), (.p .nilslice), (.p .nilslice), (.p .nilslice), (.p .nilslice)] []), none⟩, ⟨(some 195), (.mv (.t 6)), none⟩, ⟨(some 196), (.nilck (.t 195)), none⟩, ⟨(some 197), (.faddr 2 (.t 196)), none⟩, ⟨(some 198), (.load false 1 (.t 197)), none⟩, ⟨none, (.store 6 (.t 2) (.t 194)), none⟩, ⟨(some 3), (.mv (.t 198)), none⟩] [(4, 5)]) .ret) .skip)) (.seq (.reg [⟨(some 199), (.load true 6 (.t 7)), none⟩, ⟨none, (.store 6 (.t 2) (.t 199)), none⟩, ⟨(some 3), (.mv (.k (.v (.c (.p (.int .i64 0)))))), none⟩] []) .ret))))))))))) }
theorem t23 : compF Tryd.prog (globs2 tabs opq) false true Tryd.f23 = some c23.erase := by kernel_rfl
noncomputable def b23_0 (O : Oracle) (R : Jump) (q : Nat) (x0 : TVal) (h : Heap) : Res1 :=
  vop O (.alloc [(.p (.int .i64 0)), (.p (.str [])), (.p .nilslice), (.p .nilslice), (.p .nilslice), (.p .nilslice)] false) h 2 fun x2 h =>
  vcall O (.v (.c (.func 43 []))) [x0] h 16 fun x16 h =>
  vext x16 0 h fun x17 h =>
  vext x16 1 h fun x18 h =>
  vbin .neq 0 x18 (kI 0) h fun x20 h =>
  vif x20 (
  vop O (.build [(.p (.int .i64 0)), (.p (.str [])), (.p .nilslice), (.p .nilslice), (.p .nilslice), (.p .nilslice)] []) h 21 fun x21 h =>
  vstore 6 x2 x21 h fun _ h =>
  vcell true 6 x2 h fun c0 => tcomp x18 fun c1 => vfin true q [c0, c1] h)
  (vop O (.build [(.p .nilslice), (.p (.int .i64 0)), (.p (.int .i64 0)), (.p (.bool false))] [(0, 1, (.k x17))]) h 24 fun x24 h =>
  vop O (.box (.k x24) false) h 25 fun x25 h =>
  vcall O (.v (.c (.func 44 []))) [x25, (kS [100, 97, 116, 97])] h 27 fun x27 h =>
  vcall O (.v (.c (.func 45 []))) [x25, (kI 1)] h 29 fun x29 h =>
  vop O (.build [(.p (.int .i64 0)), (.p (.str [])), (.p .nilslice), (.p .nilslice), (.p .nilslice), (.p .nilslice)] [(0, 4, (.k x29))]) h 30 fun x30 h =>
  vop O (.alloc [(.p (.int .i64 0)), (.p (.str [])), (.p .nilslice), (.p .nilslice), (.p .nilslice), (.p .nilslice)] false) h 7 fun x7 h =>
  vstore 6 x7 x30 h fun _ h =>
  vcall O (.v (.c (.func 44 []))) [x25, (kS [59])] h 32 fun x32 h =>
  R 1 [x2, x25, x7] h)
theorem e23_0 (O : Oracle) (R : Jump) (q : Nat) (x0 : TVal) (h : Heap) : b23_0 O R q x0 h = stepF c23 O R q 0 [x0] h := by kernel_rfl
noncomputable def b23_1 (O : Oracle) (R : Jump) (q : Nat) (x2 x6 x7 : TVal) (h : Heap) : Res1 :=
  vop O (.nilck (.k x6)) h 34 fun x34 h =>
  vfaddr 2 x34 h fun x35 h =>
  vload false 1 x35 h fun x36 h =>
  vbin .eql 0 x36 (kI 0) h fun x37 h =>
  vguard x37 true (fun kk => kk x6 h) h fun x39 h =>
  vguard x37 true (fun kk => vop O (.nilck (.k x39)) h 40 kk) h fun x40 h =>
  vguard x37 true (fun kk => vfaddr 1 x40 h kk) h fun x41 h =>
  vguard x37 true (fun kk => vload false 1 x41 h kk) h fun x42 h =>
  vguard x37 true (fun kk => kk x6 h) h fun x43 h =>
  vguard x37 true (fun kk => vop O (.nilck (.k x43)) h 44 kk) h fun x44 h =>
  vguard x37 true (fun kk => vfaddr 0 x44 h kk) h fun x45 h =>
  vguard x37 true (fun kk => vload false 1 x45 h kk) h fun x46 h =>
  vguard x37 true (fun kk => vlen O 2 x46 h 47 kk) h fun x47 h =>
  vguard x37 true (fun kk => vbin .lss 0 x42 x47 h kk) h fun x48 h =>
  vop O (.pick (.k x37) (.k x48) (.k (kB false))) h 49 fun x49 h =>
  vif x49 (
  vcall O (.v (.c (.func 46 []))) [x6, (kS [102, 110])] h 51 fun x51 h =>
  vif x51 (
  vop O (.nilck (.k x6)) h 53 fun x53 h =>
  vfaddr 1 x53 h fun x54 h =>
  vload false 1 x54 h fun x55 h =>
  vbin .add 0 x55 (kI 1) h fun x56 h =>
  vop O (.nilck (.k x6)) h 57 fun x57 h =>
  vfaddr 1 x57 h fun x58 h =>
  vstore 1 x58 x56 h fun _ h =>
  vcall O (.v (.c (.func 47 []))) [x6] h 60 fun x60 h =>
  vop O (.alloc [(.p (.str [])), (.p .nilslice), (.p (.int .i64 0)), (.p (.str [])), (.p .nilslice), (.p .nilslice)] false) h 8 fun x8 h =>
  vstore 6 x8 x60 h fun _ h =>
  R 2 [x2, x6, x7, x8, (kI 0)] h)
  (R 4 [x2, x6, x7] h))
  (R 7 [x2, x6, x7] h)
theorem e23_1 (O : Oracle) (R : Jump) (q : Nat) (x2 x6 x7 : TVal) (h : Heap) : b23_1 O R q x2 x6 x7 h = stepF c23 O R q 1 [x2, x6, x7] h := by kernel_rfl
noncomputable def b23_2 (O : Oracle) (R : Jump) (q : Nat) (x2 x6 x7 x8 x9 : TVal) (h : Heap) : Res1 :=
  vfaddr 5 x7 h fun x62 h =>
  vload false 1 x62 h fun x63 h =>
  vlen O 2 x63 h 64 fun x64 h =>
  vbin .lss 0 x9 x64 h fun x65 h =>
  vguard x65 true (fun kk => vfaddr 5 x7 h kk) h fun x67 h =>
  vguard x65 true (fun kk => vload false 1 x67 h kk) h fun x68 h =>
  vguard x65 true (fun kk => kk x9 h) h fun x69 h =>
  vguard x65 true (fun kk => viaddr 6 x68 x69 h kk) h fun x70 h =>
  vguard x65 true (fun kk => vfaddr 0 x70 h kk) h fun x71 h =>
  vguard x65 true (fun kk => vload false 1 x71 h kk) h fun x72 h =>
  vguard x65 true (fun kk => vfaddr 0 x8 h kk) h fun x73 h =>
  vguard x65 true (fun kk => vload false 1 x73 h kk) h fun x74 h =>
  vguard x65 true (fun kk => vbin .lss 0 x72 x74 h kk) h fun x75 h =>
  vop O (.pick (.k x65) (.k x75) (.k (kB false))) h 76 fun x76 h =>
  vif x76 (
  vbin .add 0 x9 (kI 1) h fun x78 h =>
  R 2 [x2, x6, x7, x8, x78] h)
  (R 3 [x2, x6, x7, x8, x9] h)
theorem e23_2 (O : Oracle) (R : Jump) (q : Nat) (x2 x6 x7 x8 x9 : TVal) (h : Heap) : b23_2 O R q x2 x6 x7 x8 x9 h = stepF c23 O R q 2 [x2, x6, x7, x8, x9] h := by kernel_rfl
noncomputable def b23_3 (O : Oracle) (R : Jump) (q : Nat) (x2 x6 x7 x8 x9 : TVal) (h : Heap) : Res1 :=
  vop O (.nilck (.k x6)) h 81 fun x81 h =>
  vfaddr 3 x81 h fun x82 h =>
  vload false 1 x82 h fun x83 h =>
  vguard x83 false (fun kk => kk x9 h) h fun x85 h =>
  vguard x83 false (fun kk => vfaddr 5 x7 h kk) h fun x86 h =>
  vguard x83 false (fun kk => vload false 1 x86 h kk) h fun x87 h =>
  vguard x83 false (fun kk => vlen O 2 x87 h 88 kk) h fun x88 h =>
  vguard x83 false (fun kk => vbin .lss 0 x85 x88 h kk) h fun x89 h =>
  vguard x83 false (fun kk => kk x89 h) h fun x90 h =>
  vguard x90 true (fun kk => vfaddr 5 x7 h kk) h fun x91 h =>
  vguard x90 true (fun kk => vload false 1 x91 h kk) h fun x92 h =>
  vguard x90 true (fun kk => kk x9 h) h fun x93 h =>
  vguard x90 true (fun kk => viaddr 6 x92 x93 h kk) h fun x94 h =>
  vguard x90 true (fun kk => vfaddr 0 x94 h kk) h fun x95 h =>
  vguard x90 true (fun kk => vload false 1 x95 h kk) h fun x96 h =>
  vguard x90 true (fun kk => vfaddr 0 x8 h kk) h fun x97 h =>
  vguard x90 true (fun kk => vload false 1 x97 h kk) h fun x98 h =>
  vguard x90 true (fun kk => vbin .eql 0 x96 x98 h kk) h fun x99 h =>
  vguard x83 false (fun kk => vop O (.pick (.k x90) (.k x99) (.k (kB false))) h 100 kk) h fun x100 h =>
  vop O (.pick (.k x83) (.k (kB true)) (.k x100)) h 101 fun x101 h =>
  vop O (.nilck (.k x6)) h 102 fun x102 h =>
  vfaddr 3 x102 h fun x103 h =>
  vstore 1 x103 x101 h fun _ h =>
  vop O (.bslice 6 0 [(.p (.str [])), (.p .nilslice), (.p (.int .i64 0)), (.p (.str [])), (.p .nilslice), (.p .nilslice)] [] false) h 104 fun x104 h =>
  vfaddr 5 x7 h fun x105 h =>
  vload false 1 x105 h fun x106 h =>
  vop O (.slice 6 false (.k x106) none (some (.k x9)) none) h 108 fun x108 h =>
  vop O (.append 6 112 false (.k x104) (.k x108)) h 109 fun x109 h =>
  vtouch O (.mv (.k x109)) h 110 fun x110 h t0 =>
  vtouch O (.load true 6 (.k x8)) h 111 fun x111 h t1 =>
  vtouch O (.bslice 6 1 [(.p (.str [])), (.p .nilslice), (.p (.int .i64 0)), (.p (.str [])), (.p .nilslice), (.p .nilslice)] [(0, (.k x111))] false) h 112 fun x112 h t2 =>
  vtouch O (.append 6 112 false (.k x110) (.k x112)) h 113 fun x113 h t3 =>
  vtouch O (.faddr 5 (.k x7)) h 114 fun x114 h t4 =>
  vtouch O (.load false 1 (.k x114)) h 115 fun x115 h t5 =>
  vtouch O (.mv (.k x9)) h 116 fun x116 h t6 =>
  vtouch O (.slice 6 false (.k x115) (some (.k x116)) none none) h 117 fun x117 h t7 =>
  vtouch O (.append 6 112 false (.k x113) (.k x117)) h 118 fun x118 h t8 =>
  vtouch O (.faddr 5 (.k x7)) h 119 fun x119 h t9 =>
  vtouch O (.store 1 (.k x119) (.k x118)) h 1000000 fun _ h t10 =>
  bif apartAll [t0, t1, t2, t3, t4, t5, t6, t7, t8, t9, t10] [(2, 5), (3, 5)] then
  R 1 [x2, x6, x7] h
  else none
theorem e23_3 (O : Oracle) (R : Jump) (q : Nat) (x2 x6 x7 x8 x9 : TVal) (h : Heap) : b23_3 O R q x2 x6 x7 x8 x9 h = stepF c23 O R q 3 [x2, x6, x7, x8, x9] h := by kernel_rfl
noncomputable def b23_4 (O : Oracle) (R : Jump) (q : Nat) (x2 x6 x7 : TVal) (h : Heap) : Res1 :=
  vcall O (.v (.c (.func 44 []))) [x6, (kS [116, 121, 112, 101])] h 121 fun x121 h =>
  vcall O (.v (.c (.func 48 []))) [x6] h 123 fun x123 h =>
  vop O (.build [(.p (.str [])), (.p (.int .i64 0)), (.p (.str [])), (.p .nilslice), (.p .nilslice)] [(0, 1, (.k x123))]) h 124 fun x124 h =>
  vop O (.alloc [(.p (.str [])), (.p (.int .i64 0)), (.p (.str [])), (.p .nilslice), (.p .nilslice)] false) h 11 fun x11 h =>
  vstore 5 x11 x124 h fun _ h =>
  vcall O (.v (.c (.func 44 []))) [x6, (kS [61])] h 126 fun x126 h =>
  vcall O (.v (.c (.func 45 []))) [x6, (kI 1)] h 128 fun x128 h =>
  vfaddr 1 x11 h fun x129 h =>
  vstore 4 x129 x128 h fun _ h =>
  vcall O (.v (.c (.func 44 []))) [x6, (kS [59])] h 131 fun x131 h =>
  R 5 [x2, x6, x7, x11, (kI 0)] h
theorem e23_4 (O : Oracle) (R : Jump) (q : Nat) (x2 x6 x7 : TVal) (h : Heap) : b23_4 O R q x2 x6 x7 h = stepF c23 O R q 4 [x2, x6, x7] h := by kernel_rfl
noncomputable def b23_5 (O : Oracle) (R : Jump) (q : Nat) (x2 x6 x7 x11 x12 : TVal) (h : Heap) : Res1 :=
  vfaddr 4 x7 h fun x133 h =>
  vload false 1 x133 h fun x134 h =>
  vlen O 2 x134 h 135 fun x135 h =>
  vbin .lss 0 x12 x135 h fun x136 h =>
  vguard x136 true (fun kk => vfaddr 4 x7 h kk) h fun x138 h =>
  vguard x136 true (fun kk => vload false 1 x138 h kk) h fun x139 h =>
  vguard x136 true (fun kk => kk x12 h) h fun x140 h =>
  vguard x136 true (fun kk => viaddr 5 x139 x140 h kk) h fun x141 h =>
  vguard x136 true (fun kk => vfaddr 0 x141 h kk) h fun x142 h =>
  vguard x136 true (fun kk => vload false 1 x142 h kk) h fun x143 h =>
  vguard x136 true (fun kk => vfaddr 0 x11 h kk) h fun x144 h =>
  vguard x136 true (fun kk => vload false 1 x144 h kk) h fun x145 h =>
  vguard x136 true (fun kk => vbin .lss 0 x143 x145 h kk) h fun x146 h =>
  vop O (.pick (.k x136) (.k x146) (.k (kB false))) h 147 fun x147 h =>
  vif x147 (
  vbin .add 0 x12 (kI 1) h fun x149 h =>
  R 5 [x2, x6, x7, x11, x149] h)
  (R 6 [x2, x6, x7, x11, x12] h)
theorem e23_5 (O : Oracle) (R : Jump) (q : Nat) (x2 x6 x7 x11 x12 : TVal) (h : Heap) : b23_5 O R q x2 x6 x7 x11 x12 h = stepF c23 O R q 5 [x2, x6, x7, x11, x12] h := by kernel_rfl
noncomputable def b23_6 (O : Oracle) (R : Jump) (q : Nat) (x2 x6 x7 x11 x12 : TVal) (h : Heap) : Res1 :=
  vop O (.nilck (.k x6)) h 152 fun x152 h =>
  vfaddr 3 x152 h fun x153 h =>
  vload false 1 x153 h fun x154 h =>
  vguard x154 false (fun kk => kk x12 h) h fun x156 h =>
  vguard x154 false (fun kk => vfaddr 4 x7 h kk) h fun x157 h =>
  vguard x154 false (fun kk => vload false 1 x157 h kk) h fun x158 h =>
  vguard x154 false (fun kk => vlen O 2 x158 h 159 kk) h fun x159 h =>
  vguard x154 false (fun kk => vbin .lss 0 x156 x159 h kk) h fun x160 h =>
  vguard x154 false (fun kk => kk x160 h) h fun x161 h =>
  vguard x161 true (fun kk => vfaddr 4 x7 h kk) h fun x162 h =>
  vguard x161 true (fun kk => vload false 1 x162 h kk) h fun x163 h =>
  vguard x161 true (fun kk => kk x12 h) h fun x164 h =>
  vguard x161 true (fun kk => viaddr 5 x163 x164 h kk) h fun x165 h =>
  vguard x161 true (fun kk => vfaddr 0 x165 h kk) h fun x166 h =>
  vguard x161 true (fun kk => vload false 1 x166 h kk) h fun x167 h =>
  vguard x161 true (fun kk => vfaddr 0 x11 h kk) h fun x168 h =>
  vguard x161 true (fun kk => vload false 1 x168 h kk) h fun x169 h =>
  vguard x161 true (fun kk => vbin .eql 0 x167 x169 h kk) h fun x170 h =>
  vguard x154 false (fun kk => vop O (.pick (.k x161) (.k x170) (.k (kB false))) h 171 kk) h fun x171 h =>
  vop O (.pick (.k x154) (.k (kB true)) (.k x171)) h 172 fun x172 h =>
  vop O (.nilck (.k x6)) h 173 fun x173 h =>
  vfaddr 3 x173 h fun x174 h =>
  vstore 1 x174 x172 h fun _ h =>
  vop O (.bslice 5 0 [(.p (.str [])), (.p (.int .i64 0)), (.p (.str [])), (.p .nilslice), (.p .nilslice)] [] false) h 175 fun x175 h =>
  vfaddr 4 x7 h fun x176 h =>
  vload false 1 x176 h fun x177 h =>
  vop O (.slice 5 false (.k x177) none (some (.k x12)) none) h 179 fun x179 h =>
  vop O (.append 5 88 false (.k x175) (.k x179)) h 180 fun x180 h =>
  vtouch O (.mv (.k x180)) h 181 fun x181 h t0 =>
  vtouch O (.load true 5 (.k x11)) h 182 fun x182 h t1 =>
  vtouch O (.bslice 5 1 [(.p (.str [])), (.p (.int .i64 0)), (.p (.str [])), (.p .nilslice), (.p .nilslice)] [(0, (.k x182))] false) h 183 fun x183 h t2 =>
  vtouch O (.append 5 88 false (.k x181) (.k x183)) h 184 fun x184 h t3 =>
  vtouch O (.faddr 4 (.k x7)) h 185 fun x185 h t4 =>
  vtouch O (.load false 1 (.k x185)) h 186 fun x186 h t5 =>
  vtouch O (.mv (.k x12)) h 187 fun x187 h t6 =>
  vtouch O (.slice 5 false (.k x186) (some (.k x187)) none none) h 188 fun x188 h t7 =>
  vtouch O (.append 5 88 false (.k x184) (.k x188)) h 189 fun x189 h t8 =>
  vtouch O (.faddr 4 (.k x7)) h 190 fun x190 h t9 =>
  vtouch O (.store 1 (.k x190) (.k x189)) h 1000000 fun _ h t10 =>
  bif apartAll [t0, t1, t2, t3, t4, t5, t6, t7, t8, t9, t10] [(2, 5), (3, 5)] then
  R 1 [x2, x6, x7] h
  else none
theorem e23_6 (O : Oracle) (R : Jump) (q : Nat) (x2 x6 x7 x11 x12 : TVal) (h : Heap) : b23_6 O R q x2 x6 x7 x11 x12 h = stepF c23 O R q 6 [x2, x6, x7, x11, x12] h := by kernel_rfl
noncomputable def b23_7 (O : Oracle) (R : Jump) (q : Nat) (x2 x6 x7 : TVal) (h : Heap) : Res1 :=
  vcall O (.v (.c (.func 49 []))) [x6] h 192 fun x192 h =>
  vbin .neq 0 x192 (kI 0) h fun x193 h =>
  vif x193 (
  vtouch O (.build [(.p (.int .i64 0)), (.p (.str [])), (.p .nilslice), (.p .nilslice), (.p .nilslice), (.p .nilslice)] []) h 194 fun x194 h t0 =>
  vtouch O (.mv (.k x6)) h 195 fun x195 h t1 =>
  vtouch O (.nilck (.k x195)) h 196 fun x196 h t2 =>
  vtouch O (.faddr 2 (.k x196)) h 197 fun x197 h t3 =>
  vtouch O (.load false 1 (.k x197)) h 198 fun x198 h t4 =>
  vtouch O (.store 6 (.k x2) (.k x194)) h 1000000 fun _ h t5 =>
  vtouch O (.mv (.k x198)) h 3 fun x3 h t6 =>
  bif apartAll [t0, t1, t2, t3, t4, t5, t6] [(4, 5)] then
  vcell true 6 x2 h fun c0 => tcomp x3 fun c1 => vfin true q [c0, c1] h
  else none)
  (vload true 6 x7 h fun x199 h =>
  vstore 6 x2 x199 h fun _ h =>
  vcell true 6 x2 h fun c0 => tcomp (kI 0) fun c1 => vfin true q [c0, c1] h)
theorem e23_7 (O : Oracle) (R : Jump) (q : Nat) (x2 x6 x7 : TVal) (h : Heap) : b23_7 O R q x2 x6 x7 h = stepF c23 O R q 7 [x2, x6, x7] h := by kernel_rfl
noncomputable def d23 : BlkF := fun O R q => [.s fun y0 => .z fun h => b23_0 O R q y0 h, .s fun y0 => .s fun y1 => .s fun y2 => .z fun h => b23_1 O R q y0 y1 y2 h, .s fun y0 => .s fun y1 => .s fun y2 => .s fun y3 => .s fun y4 => .z fun h => b23_2 O R q y0 y1 y2 y3 y4 h, .s fun y0 => .s fun y1 => .s fun y2 => .s fun y3 => .s fun y4 => .z fun h => b23_3 O R q y0 y1 y2 y3 y4 h, .s fun y0 => .s fun y1 => .s fun y2 => .z fun h => b23_4 O R q y0 y1 y2 h, .s fun y0 => .s fun y1 => .s fun y2 => .s fun y3 => .s fun y4 => .z fun h => b23_5 O R q y0 y1 y2 y3 y4 h, .s fun y0 => .s fun y1 => .s fun y2 => .s fun y3 => .s fun y4 => .z fun h => b23_6 O R q y0 y1 y2 y3 y4 h, .s fun y0 => .s fun y1 => .s fun y2 => .z fun h => b23_7 O R q y0 y1 y2 h]
theorem o23 (O : Oracle) (R : Jump) (q : Nat) : HoldsAll c23 O R q 0 (d23 O R q) := ⟨fun y0 h => e23_0 O R q y0 h, fun y0 y1 y2 h => e23_1 O R q y0 y1 y2 h, fun y0 y1 y2 y3 y4 h => e23_2 O R q y0 y1 y2 y3 y4 h, fun y0 y1 y2 y3 y4 h => e23_3 O R q y0 y1 y2 y3 y4 h, fun y0 y1 y2 h => e23_4 O R q y0 y1 y2 h, fun y0 y1 y2 y3 y4 h => e23_5 O R q y0 y1 y2 y3 y4 h, fun y0 y1 y2 y3 y4 h => e23_6 O R q y0 y1 y2 y3 y4 h, fun y0 y1 y2 h => e23_7 O R q y0 y1 y2 h, trivial⟩
/- sprue/sprueref13.Parse -/
def c24 : MFunc := { np := 1, res := [.cell 2 true 6, .t 3], frz := true, body := (.seq (.reg [⟨(some 2), (.alloc [(.p (.int .i64 0)), (.p (.bool false)), (.p (.int .i64 0)), (.p (.str [])), (.p .nilslice), (.p .nilslice)] false), none⟩, ⟨(some 3), (.mv (.k (.v (.c (.p (.int .i64 0)))))), none⟩] []) (.seq (.seq (.reg [⟨(some 6), (.mv (.t 0)), none⟩, ⟨(some 7), (.len 0 (.t 6)), none⟩, ⟨(some 8), (.bin .gtr 0 (.t 7) (.k (.v (.c (.p (.int .i64 20000)))))), none⟩] []) (.cond (.t 8) (.seq (.reg [⟨(some 9), (.build [(.p (.int .i64 0)), (.p (.bool false)), (.p (.int .i64 0)), (.p (.str [])), (.p .nilslice), (.p .nilslice)] []), none⟩, ⟨none, (.store 6 (.t 2) (.t 9)), none⟩, ⟨(some 3), (.mv (.k (.v (.c (.p (.int .i64 4)))))), none⟩] []) .ret) .skip)) (.seq (.reg [⟨(some 10), (.mv (.t 0)), none⟩, ⟨(some 11), (.build [(.p (.str [])), (.p (.int .i64 0)), (.p (.int .i64 0))] [(0, 1, (.t 10))]), none⟩, ⟨(some 12), (.box (.t 11) false), none⟩, ⟨(some 4), (.mv (.t 12)), none⟩] []) (.seq (.reg [⟨(some 13), (.mv (.t 4)), none⟩, ⟨(some 14), (.call (.k (.v (.c (.func 50 [])))) [(.t 13), (.k (.v (.c (.p (.int .i64 1)))))]), none⟩, ⟨(some 5), (.alloc [(.p (.int .i64 0)), (.p (.bool false)), (.p (.int .i64 0)), (.p (.str [])), (.p .nilslice), (.p .nilslice)] false), none⟩, ⟨none, (.store 6 (.t 5) (.t 14)), none⟩] []) (.seq (.reg [⟨(some 15), (.mv (.t 4)), none⟩, ⟨(some 16), (.call (.k (.v (.c (.func 51 [])))) [(.t 15)]), none⟩] []) (.seq (.seq (.reg [⟨(some 17), (.mv (.t 4)), none⟩, ⟨(some 18), (.nilck (.t 17)), none⟩, ⟨(some 19), (.faddr 1 (.t 18)), none⟩, ⟨(some 20), (.load false 1 (.t 19)), none⟩, ⟨(some 21), (.mv (.t 0)), none⟩, ⟨(some 22), (.len 0 (.t 21)), none⟩, ⟨(some 23), (.bin .lss 0 (.t 20) (.t 22)), none⟩] []) (.cond (.t 23) (.reg [⟨(some 24), (.mv (.t 4)), none⟩, ⟨(some 25), (.call (.k (.v (.c (.func 52 [])))) [(.t 24), (.k (.v (.c (.p (.int .i64 12)))))]), none⟩] []) .skip)) (.mark 1 [2, 4, 5] (.seq (.seq (.reg [⟨(some 26), (.mv (.t 4)), none⟩, ⟨(some 27), (.nilck (.t 26)), none⟩, ⟨(some 28), (.faddr 2 (.t 27)), none⟩, ⟨(some 29), (.load false 1 (.t 28)), none⟩, ⟨(some 30), (.bin .eql 0 (.t 29) (.k (.v (.c (.p (.int .i64 0)))))), none⟩] []) (.cond (.t 30) (.reg [⟨(some 31), (.mv (.t 4)), none⟩, ⟨(some 32), (.load true 6 (.t 5)), none⟩, ⟨(some 33), (.call (.k (.v (.c (.func 53 [])))) [(.t 32)]), none⟩, ⟨(some 34), (.nilck (.t 31)), none⟩, ⟨(some 35), (.faddr 2 (.t 34)), none⟩, ⟨none, (.store 1 (.t 35) (.t 33)), none⟩] []) .skip)) (.mark 2 [2, 4, 5] (.seq (.seq (.reg [⟨(some 36), (.mv (.t 4)), none⟩, ⟨(some 37), (.nilck (.t 36)), none⟩, ⟨(some 38), (.faddr 2 (.t 37)), none⟩, ⟨(some 39), (.load false 1 (.t 38)), none⟩, ⟨(some 40), (.bin .neq 0 (.t 39) (.k (.v (.c (.p (.int .i64 0)))))), none⟩] []) (.cond (.t 40) (.seq (.reg [⟨(some 41), (.build [(.p (.int .i64 0)), (.p (.bool false)), (.p (.int .i64 0)), (.p (.str [])), (.p .nilslice), (.p .nilslice)] []), none⟩, ⟨(some 42), (.mv (.t 4)), none⟩, ⟨(some 43), (.nilck (.t 42)), none⟩, ⟨(some 44), (.faddr 2 (.t 43)), none⟩, ⟨(some 45), (.load false 1 (.t 44)), none⟩, ⟨none, (.store 6 (.t 2) (.t 41)), none⟩, ⟨(some 3), (.mv (.t 45)), none⟩] [(4, 5)]) .ret) .skip)) (.seq (.reg [⟨(some 46), (.load true 6 (.t 5)), none⟩, ⟨none, (.store 6 (.t 2) (.t 46)), none⟩, ⟨(some 3), (.mv (.k (.v (.c (.p (.int .i64 0)))))), none⟩] []) .ret))))))))))) }
theorem t24 : compF Tryd.prog (globs2 tabs opq) false true Tryd.f24 = some c24.erase := by kernel_rfl
noncomputable def b24_0 (O : Oracle) (R : Jump) (q : Nat) (x0 : TVal) (h : Heap) : Res1 :=
  vop O (.alloc [(.p (.int .i64 0)), (.p (.bool false)), (.p (.int .i64 0)), (.p (.str [])), (.p .nilslice), (.p .nilslice)] false) h 2 fun x2 h =>
  vlen O 0 x0 h 7 fun x7 h =>
  vbin .gtr 0 x7 (kI 20000) h fun x8 h =>
  vif x8 (
  vop O (.build [(.p (.int .i64 0)), (.p (.bool false)), (.p (.int .i64 0)), (.p (.str [])), (.p .nilslice), (.p .nilslice)] []) h 9 fun x9 h =>
  vstore 6 x2 x9 h fun _ h =>
  vcell true 6 x2 h fun c0 => tcomp (kI 4) fun c1 => vfin true q [c0, c1] h)
  (vop O (.build [(.p (.str [])), (.p (.int .i64 0)), (.p (.int .i64 0))] [(0, 1, (.k x0))]) h 11 fun x11 h =>
  vop O (.box (.k x11) false) h 12 fun x12 h =>
  vcall O (.v (.c (.func 50 []))) [x12, (kI 1)] h 14 fun x14 h =>
  vop O (.alloc [(.p (.int .i64 0)), (.p (.bool false)), (.p (.int .i64 0)), (.p (.str [])), (.p .nilslice), (.p .nilslice)] false) h 5 fun x5 h =>
  vstore 6 x5 x14 h fun _ h =>
  vcall O (.v (.c (.func 51 []))) [x12] h 16 fun x16 h =>
  vop O (.nilck (.k x12)) h 18 fun x18 h =>
  vfaddr 1 x18 h fun x19 h =>
  vload false 1 x19 h fun x20 h =>
  vlen O 0 x0 h 22 fun x22 h =>
  vbin .lss 0 x20 x22 h fun x23 h =>
  vif x23 (
  vcall O (.v (.c (.func 52 []))) [x12, (kI 12)] h 25 fun x25 h =>
  R 1 [x2, x12, x5] h)
  (R 1 [x2, x12, x5] h))
theorem e24_0 (O : Oracle) (R : Jump) (q : Nat) (x0 : TVal) (h : Heap) : b24_0 O R q x0 h = stepF c24 O R q 0 [x0] h := by kernel_rfl
noncomputable def b24_1 (O : Oracle) (R : Jump) (q : Nat) (x2 x4 x5 : TVal) (h : Heap) : Res1 :=
  vop O (.nilck (.k x4)) h 27 fun x27 h =>
  vfaddr 2 x27 h fun x28 h =>
  vload false 1 x28 h fun x29 h =>
  vbin .eql 0 x29 (kI 0) h fun x30 h =>
  vif x30 (
  vload true 6 x5 h fun x32 h =>
  vcall O (.v (.c (.func 53 []))) [x32] h 33 fun x33 h =>
  vop O (.nilck (.k x4)) h 34 fun x34 h =>
  vfaddr 2 x34 h fun x35 h =>
  vstore 1 x35 x33 h fun _ h =>
  R 2 [x2, x4, x5] h)
  (R 2 [x2, x4, x5] h)
theorem e24_1 (O : Oracle) (R : Jump) (q : Nat) (x2 x4 x5 : TVal) (h : Heap) : b24_1 O R q x2 x4 x5 h = stepF c24 O R q 1 [x2, x4, x5] h := by kernel_rfl
noncomputable def b24_2 (O : Oracle) (R : Jump) (q : Nat) (x2 x4 x5 : TVal) (h : Heap) : Res1 :=
  vop O (.nilck (.k x4)) h 37 fun x37 h =>
  vfaddr 2 x37 h fun x38 h =>
  vload false 1 x38 h fun x39 h =>
  vbin .neq 0 x39 (kI 0) h fun x40 h =>
  vif x40 (
  vtouch O (.build [(.p (.int .i64 0)), (.p (.bool false)), (.p (.int .i64 0)), (.p (.str [])), (.p .nilslice), (.p .nilslice)] []) h 41 fun x41 h t0 =>
  vtouch O (.mv (.k x4)) h 42 fun x42 h t1 =>
  vtouch O (.nilck (.k x42)) h 43 fun x43 h t2 =>
  vtouch O (.faddr 2 (.k x43)) h 44 fun x44 h t3 =>
  vtouch O (.load false 1 (.k x44)) h 45 fun x45 h t4 =>
  vtouch O (.store 6 (.k x2) (.k x41)) h 1000000 fun _ h t5 =>
  vtouch O (.mv (.k x45)) h 3 fun x3 h t6 =>
  bif apartAll [t0, t1, t2, t3, t4, t5, t6] [(4, 5)] then
  vcell true 6 x2 h fun c0 => tcomp x3 fun c1 => vfin true q [c0, c1] h
  else none)
  (vload true 6 x5 h fun x46 h =>
  vstore 6 x2 x46 h fun _ h =>
  vcell true 6 x2 h fun c0 => tcomp (kI 0) fun c1 => vfin true q [c0, c1] h)
theorem e24_2 (O : Oracle) (R : Jump) (q : Nat) (x2 x4 x5 : TVal) (h : Heap) : b24_2 O R q x2 x4 x5 h = stepF c24 O R q 2 [x2, x4, x5] h := by kernel_rfl
noncomputable def d24 : BlkF := fun O R q => [.s fun y0 => .z fun h => b24_0 O R q y0 h, .s fun y0 => .s fun y1 => .s fun y2 => .z fun h => b24_1 O R q y0 y1 y2 h, .s fun y0 => .s fun y1 => .s fun y2 => .z fun h => b24_2 O R q y0 y1 y2 h]
theorem o24 (O : Oracle) (R : Jump) (q : Nat) : HoldsAll c24 O R q 0 (d24 O R q) := ⟨fun y0 h => e24_0 O R q y0 h, fun y0 y1 y2 h => e24_1 O R q y0 y1 y2 h, fun y0 y1 y2 h => e24_2 O R q y0 y1 y2 h, trivial⟩
/- sprue/sprueref13.Text -/
def c25 : MFunc := { np := 1, res := [.t 2], frz := true, body := (.seq (.reg [⟨(some 1), (.box (.t 0) false), none⟩, ⟨(some 2), (.mv (.k (.v (.c (.p (.str [])))))), none⟩] []) (.seq (.seq (.reg [⟨(some 7), (.faddr 0 (.t 1)), none⟩, ⟨(some 8), (.load false 1 (.t 7)), none⟩] []) (.block 0 (.seq (.reg [⟨(some 10), (.bin .eql 0 (.t 8) (.k (.v (.c (.p (.int .i64 0)))))), none⟩, ⟨(some 9), (.mv (.t 10)), none⟩] []) (.cond (.t 9) (.seq (.reg [⟨(some 2), (.mv (.k (.v (.c (.p (.str [110, 117, 108, 108])))))), none⟩] []) .ret) (.seq (.reg [⟨(some 12), (.bin .eql 0 (.t 8) (.k (.v (.c (.p (.int .i64 1)))))), none⟩, ⟨(some 11), (.mv (.t 12)), none⟩] []) (.cond (.t 11) (.seq (.seq (.reg [⟨(some 13), (.faddr 1 (.t 1)), none⟩, ⟨(some 14), (.load false 1 (.t 13)), none⟩] []) (.cond (.t 14) (.seq (.reg [⟨(some 2), (.mv (.k (.v (.c (.p (.str [116, 114, 117, 101])))))), none⟩] []) .ret) .skip)) (.seq (.reg [⟨(some 2), (.mv (.k (.v (.c (.p (.str [102, 97, 108, 115, 101])))))), none⟩] []) .ret)) (.seq (.reg [⟨(some 16), (.bin .eql 0 (.t 8) (.k (.v (.c (.p (.int .i64 2)))))), none⟩, ⟨(some 15), (.mv (.t 16)), none⟩] []) (.cond (.t 15) (.seq (.reg [⟨(some 17), (.faddr 2 (.t 1)), none⟩, ⟨(some 18), (.load false 1 (.t 17)), none⟩, ⟨(some 19), (.build [(.p (.int .i64 0)), (.p (.str [])), (.p .nilslice), (.p (.str [])), (.p (.int .i64 0)), (.p (.bool false)), (.p .nilslice)] [(0, 1, (.k (.v (.c (.p (.int .i64 3)))))), (4, 1, (.t 18))]), none⟩, ⟨(some 20), (.bslice 7 1 [(.p (.int .i64 0)), (.p (.str [])), (.p .nilslice), (.p (.str [])), (.p (.int .i64 0)), (.p (.bool false)), (.p .nilslice)] [(0, (.t 19))] false), none⟩, ⟨(some 21), (.build [(.p .nilslice)] [(0, 1, (.t 20))]), none⟩, ⟨(some 22), (.bslice 1 1 [(.p .nilslice)] [(0, (.t 21))] false), none⟩, ⟨(some 23), (.call (.k (.v (.c (.func 54 [])))) [(.t 22)]), none⟩, ⟨(some 2), (.mv (.t 23)), none⟩] []) .ret) (.seq (.reg [⟨(some 25), (.bin .eql 0 (.t 8) (.k (.v (.c (.p (.int .i64 3)))))), none⟩, ⟨(some 24), (.mv (.t 25)), none⟩] []) (.cond (.t 24) (.seq (.reg [⟨(some 26), (.faddr 3 (.t 1)), none⟩, ⟨(some 27), (.load false 1 (.t 26)), none⟩, ⟨(some 28), (.call (.k (.v (.c (.func 55 [])))) [(.t 27)]), none⟩, ⟨(some 2), (.mv (.t 28)), none⟩] []) .ret) (.seq (.reg [⟨(some 30), (.bin .eql 0 (.t 8) (.k (.v (.c (.p (.int .i64 4)))))), none⟩, ⟨(some 29), (.mv (.t 30)), none⟩] []) (.cond (.t 29) (.seq (.reg [⟨(some 3), (.mv (.k (.v (.c (.p (.str [91])))))), none⟩] []) (.seq (.seq (.reg [⟨(some 4), (.mv (.k (.v (.c (.p (.int .i64 0)))))), none⟩] []) (.block 1 (.loop 1 [1, 3, 4] (.seq (.seq (.reg [⟨(some 31), (.mv (.t 4)), none⟩, ⟨(some 32), (.faddr 5 (.t 1)), none⟩, ⟨(some 33), (.load false 1 (.t 32)), none⟩, ⟨(some 34), (.len 2 (.t 33)), none⟩, ⟨(some 35), (.bin .lss 0 (.t 31) (.t 34)), none⟩] []) (.cond (.t 35) .skip (.exit 1))) (.seq (.block 2 (.seq (.seq (.reg [⟨(some 38), (.mv (.t 4)), none⟩, ⟨(some 39), (.bin .gtr 0 (.t 38) (.k (.v (.c (.p (.int .i64 0)))))), none⟩] []) (.cond (.t 39) (.reg [⟨(some 40), (.mv (.t 3)), none⟩, ⟨(some 41), (.bin .add 0 (.t 40) (.k (.v (.c (.p (.str [44])))))), none⟩, ⟨(some 3), (.mv (.t 41)), none⟩] []) .skip)) (.mark 2 [1, 3, 4] (.reg [⟨(some 42), (.mv (.t 3)), none⟩, ⟨(some 43), (.faddr 5 (.t 1)), none⟩, ⟨(some 44), (.load false 1 (.t 43)), none⟩, ⟨(some 45), (.mv (.t 4)), none⟩, ⟨(some 46), (.iaddr 6 (.t 44) (.t 45)), none⟩, ⟨(some 47), (.load true 6 (.t 46)), none⟩, ⟨(some 48), (.call (.k (.v (.c (.func 25 [])))) [(.t 47)]), none⟩, ⟨(some 49), (.bin .add 0 (.t 42) (.t 48)), none⟩, ⟨(some 3), (.mv (.t 49)), none⟩] [])))) (.reg [⟨(some 36), (.mv (.t 4)), none⟩, ⟨(some 37), (.bin .add 0 (.t 36) (.k (.v (.c (.p (.int .i64 1)))))), none⟩, ⟨(some 4), (.mv (.t 37)), none⟩] [])))))) (.mark 3 [3] (.seq (.reg [⟨(some 50), (.mv (.t 3)), none⟩, ⟨(some 51), (.bin .add 0 (.t 50) (.k (.v (.c (.p (.str [93])))))), none⟩, ⟨(some 2), (.mv (.t 51)), none⟩] []) .ret)))) .skip)))))))))))) (.mark 4 [1] (.seq (.reg [⟨(some 5), (.mv (.k (.v (.c (.p (.str [123])))))), none⟩] []) (.seq (.seq (.reg [⟨(some 6), (.mv (.k (.v (.c (.p (.int .i64 0)))))), none⟩] []) (.block 3 (.loop 5 [1, 5, 6] (.seq (.seq (.reg [⟨(some 52), (.mv (.t 6)), none⟩, ⟨(some 53), (.faddr 5 (.t 1)), none⟩, ⟨(some 54), (.load false 1 (.t 53)), none⟩, ⟨(some 55), (.len 2 (.t 54)), none⟩, ⟨(some 56), (.bin .lss 0 (.t 52) (.t 55)), none⟩] []) (.cond (.t 56) .skip (.exit 3))) (.seq (.block 4 (.seq (.seq (.reg [⟨(some 59), (.mv (.t 6)), none⟩, ⟨(some 60), (.bin .gtr 0 (.t 59) (.k (.v (.c (.p (.int .i64 0)))))), none⟩] []) (.cond (.t 60) (.reg [⟨(some 61), (.mv (.t 5)), none⟩, ⟨(some 62), (.bin .add 0 (.t 61) (.k (.v (.c (.p (.str [44])))))), none⟩, ⟨(some 5), (.mv (.t 62)), none⟩] []) .skip)) (.mark 6 [1, 5, 6] (.reg [⟨(some 63), (.mv (.t 5)), none⟩, ⟨(some 64), (.faddr 4 (.t 1)), none⟩, ⟨(some 65), (.load false 1 (.t 64)), none⟩, ⟨(some 66), (.mv (.t 6)), none⟩, ⟨(some 67), (.iaddr 1 (.t 65) (.t 66)), none⟩, ⟨(some 68), (.load false 1 (.t 67)), none⟩, ⟨(some 69), (.call (.k (.v (.c (.func 55 [])))) [(.t 68)]), none⟩, ⟨(some 70), (.bin .add 0 (.t 63) (.t 69)), none⟩, ⟨(some 71), (.bin .add 0 (.t 70) (.k (.v (.c (.p (.str [58])))))), none⟩, ⟨(some 72), (.faddr 5 (.t 1)), none⟩, ⟨(some 73), (.load false 1 (.t 72)), none⟩, ⟨(some 74), (.mv (.t 6)), none⟩, ⟨(some 75), (.iaddr 6 (.t 73) (.t 74)), none⟩, ⟨(some 76), (.load true 6 (.t 75)), none⟩, ⟨(some 77), (.call (.k (.v (.c (.func 25 [])))) [(.t 76)]), none⟩, ⟨(some 78), (.bin .add 0 (.t 71) (.t 77)), none⟩, ⟨(some 5), (.mv (.t 78)), none⟩] [(6, 10), (6, 13)])))) (.reg [⟨(some 57), (.mv (.t 6)), none⟩, ⟨(some 58), (.bin .add 0 (.t 57) (.k (.v (.c (.p (.int .i64 1)))))), none⟩, ⟨(some 6), (.mv (.t 58)), none⟩] [])))))) (.mark 7 [5] (.seq (.reg [⟨(some 79), (.mv (.t 5)), none⟩, ⟨(some 80), (.bin .add 0 (.t 79) (.k (.v (.c (.p (.str [125])))))), none⟩, ⟨(some 2), (.mv (.t 80)), none⟩] []) .ret))))))) }
theorem t25 : compF Tryd.prog (globs2 tabs opq) false true Tryd.f25 = some c25.erase := by kernel_rfl
noncomputable def b25_0 (O : Oracle) (R : Jump) (q : Nat) (x0 : TVal) (h : Heap) : Res1 :=
  vop O (.box (.k x0) false) h 1 fun x1 h =>
  vfaddr 0 x1 h fun x7 h =>
  vload false 1 x7 h fun x8 h =>
  vbin .eql 0 x8 (kI 0) h fun x10 h =>
  vif x10 (
  tcomp (kS [110, 117, 108, 108]) fun c0 => vfin true q [c0] h)
  (vbin .eql 0 x8 (kI 1) h fun x12 h =>
  vif x12 (
  vfaddr 1 x1 h fun x13 h =>
  vload false 1 x13 h fun x14 h =>
  vif x14 (
  tcomp (kS [116, 114, 117, 101]) fun c0 => vfin true q [c0] h)
  (tcomp (kS [102, 97, 108, 115, 101]) fun c0 => vfin true q [c0] h))
  (vbin .eql 0 x8 (kI 2) h fun x16 h =>
  vif x16 (
  vfaddr 2 x1 h fun x17 h =>
  vload false 1 x17 h fun x18 h =>
  vop O (.build [(.p (.int .i64 0)), (.p (.str [])), (.p .nilslice), (.p (.str [])), (.p (.int .i64 0)), (.p (.bool false)), (.p .nilslice)] [(0, 1, (.k (kI 3))), (4, 1, (.k x18))]) h 19 fun x19 h =>
  vop O (.bslice 7 1 [(.p (.int .i64 0)), (.p (.str [])), (.p .nilslice), (.p (.str [])), (.p (.int .i64 0)), (.p (.bool false)), (.p .nilslice)] [(0, (.k x19))] false) h 20 fun x20 h =>
  vop O (.build [(.p .nilslice)] [(0, 1, (.k x20))]) h 21 fun x21 h =>
  vop O (.bslice 1 1 [(.p .nilslice)] [(0, (.k x21))] false) h 22 fun x22 h =>
  vcall O (.v (.c (.func 54 []))) [x22] h 23 fun x23 h =>
  tcomp x23 fun c0 => vfin true q [c0] h)
  (vbin .eql 0 x8 (kI 3) h fun x25 h =>
  vif x25 (
  vfaddr 3 x1 h fun x26 h =>
  vload false 1 x26 h fun x27 h =>
  vcall O (.v (.c (.func 55 []))) [x27] h 28 fun x28 h =>
  tcomp x28 fun c0 => vfin true q [c0] h)
  (vbin .eql 0 x8 (kI 4) h fun x30 h =>
  vif x30 (
  R 1 [x1, (kS [91]), (kI 0)] h)
  (R 4 [x1] h)))))
theorem e25_0 (O : Oracle) (R : Jump) (q : Nat) (x0 : TVal) (h : Heap) : b25_0 O R q x0 h = stepF c25 O R q 0 [x0] h := by kernel_rfl
noncomputable def b25_1 (O : Oracle) (R : Jump) (q : Nat) (x1 x3 x4 : TVal) (h : Heap) : Res1 :=
  vfaddr 5 x1 h fun x32 h =>
  vload false 1 x32 h fun x33 h =>
  vlen O 2 x33 h 34 fun x34 h =>
  vbin .lss 0 x4 x34 h fun x35 h =>
  vif x35 (
  vbin .gtr 0 x4 (kI 0) h fun x39 h =>
  vif x39 (
  vbin .add 0 x3 (kS [44]) h fun x41 h =>
  R 2 [x1, x41, x4] h)
  (R 2 [x1, x3, x4] h))
  (R 3 [x3] h)
theorem e25_1 (O : Oracle) (R : Jump) (q : Nat) (x1 x3 x4 : TVal) (h : Heap) : b25_1 O R q x1 x3 x4 h = stepF c25 O R q 1 [x1, x3, x4] h := by kernel_rfl
noncomputable def b25_2 (O : Oracle) (R : Jump) (q : Nat) (x1 x3 x4 : TVal) (h : Heap) : Res1 :=
  vfaddr 5 x1 h fun x43 h =>
  vload false 1 x43 h fun x44 h =>
  viaddr 6 x44 x4 h fun x46 h =>
  vload true 6 x46 h fun x47 h =>
  vcall O (.v (.c (.func 25 []))) [x47] h 48 fun x48 h =>
  vbin .add 0 x3 x48 h fun x49 h =>
  vbin .add 0 x4 (kI 1) h fun x37 h =>
  R 1 [x1, x49, x37] h
theorem e25_2 (O : Oracle) (R : Jump) (q : Nat) (x1 x3 x4 : TVal) (h : Heap) : b25_2 O R q x1 x3 x4 h = stepF c25 O R q 2 [x1, x3, x4] h := by kernel_rfl
noncomputable def b25_3 (O : Oracle) (R : Jump) (q : Nat) (x3 : TVal) (h : Heap) : Res1 :=
  vbin .add 0 x3 (kS [93]) h fun x51 h =>
  tcomp x51 fun c0 => vfin true q [c0] h
theorem e25_3 (O : Oracle) (R : Jump) (q : Nat) (x3 : TVal) (h : Heap) : b25_3 O R q x3 h = stepF c25 O R q 3 [x3] h := by kernel_rfl
noncomputable def b25_4 (O : Oracle) (R : Jump) (q : Nat) (x1 : TVal) (h : Heap) : Res1 :=
  R 5 [x1, (kS [123]), (kI 0)] h
theorem e25_4 (O : Oracle) (R : Jump) (q : Nat) (x1 : TVal) (h : Heap) : b25_4 O R q x1 h = stepF c25 O R q 4 [x1] h := by kernel_rfl
noncomputable def b25_5 (O : Oracle) (R : Jump) (q : Nat) (x1 x5 x6 : TVal) (h : Heap) : Res1 :=
  vfaddr 5 x1 h fun x53 h =>
  vload false 1 x53 h fun x54 h =>
  vlen O 2 x54 h 55 fun x55 h =>
  vbin .lss 0 x6 x55 h fun x56 h =>
  vif x56 (
  vbin .gtr 0 x6 (kI 0) h fun x60 h =>
  vif x60 (
  vbin .add 0 x5 (kS [44]) h fun x62 h =>
  R 6 [x1, x62, x6] h)
  (R 6 [x1, x5, x6] h))
  (R 7 [x5] h)
theorem e25_5 (O : Oracle) (R : Jump) (q : Nat) (x1 x5 x6 : TVal) (h : Heap) : b25_5 O R q x1 x5 x6 h = stepF c25 O R q 5 [x1, x5, x6] h := by kernel_rfl
noncomputable def b25_6 (O : Oracle) (R : Jump) (q : Nat) (x1 x5 x6 : TVal) (h : Heap) : Res1 :=
  vtouch O (.mv (.k x5)) h 63 fun x63 h t0 =>
  vtouch O (.faddr 4 (.k x1)) h 64 fun x64 h t1 =>
  vtouch O (.load false 1 (.k x64)) h 65 fun x65 h t2 =>
  vtouch O (.mv (.k x6)) h 66 fun x66 h t3 =>
  vtouch O (.iaddr 1 (.k x65) (.k x66)) h 67 fun x67 h t4 =>
  vtouch O (.load false 1 (.k x67)) h 68 fun x68 h t5 =>
  vtouch O (.call (.k (.v (.c (.func 55 [])))) [(.k x68)]) h 69 fun x69 h t6 =>
  vtouch O (.bin .add 0 (.k x63) (.k x69)) h 70 fun x70 h t7 =>
  vtouch O (.bin .add 0 (.k x70) (.k (kS [58]))) h 71 fun x71 h t8 =>
  vtouch O (.faddr 5 (.k x1)) h 72 fun x72 h t9 =>
  vtouch O (.load false 1 (.k x72)) h 73 fun x73 h t10 =>
  vtouch O (.mv (.k x6)) h 74 fun x74 h t11 =>
  vtouch O (.iaddr 6 (.k x73) (.k x74)) h 75 fun x75 h t12 =>
  vtouch O (.load true 6 (.k x75)) h 76 fun x76 h t13 =>
  vtouch O (.call (.k (.v (.c (.func 25 [])))) [(.k x76)]) h 77 fun x77 h t14 =>
  vtouch O (.bin .add 0 (.k x71) (.k x77)) h 78 fun x78 h t15 =>
  vtouch O (.mv (.k x78)) h 5 fun x5_1 h t16 =>
  bif apartAll [t0, t1, t2, t3, t4, t5, t6, t7, t8, t9, t10, t11, t12, t13, t14, t15, t16] [(6, 10), (6, 13)] then
  vbin .add 0 x6 (kI 1) h fun x58 h =>
  R 5 [x1, x5_1, x58] h
  else none
theorem e25_6 (O : Oracle) (R : Jump) (q : Nat) (x1 x5 x6 : TVal) (h : Heap) : b25_6 O R q x1 x5 x6 h = stepF c25 O R q 6 [x1, x5, x6] h := by kernel_rfl
noncomputable def b25_7 (O : Oracle) (R : Jump) (q : Nat) (x5 : TVal) (h : Heap) : Res1 :=
  vbin .add 0 x5 (kS [125]) h fun x80 h =>
  tcomp x80 fun c0 => vfin true q [c0] h
theorem e25_7 (O : Oracle) (R : Jump) (q : Nat) (x5 : TVal) (h : Heap) : b25_7 O R q x5 h = stepF c25 O R q 7 [x5] h := by kernel_rfl
noncomputable def d25 : BlkF := fun O R q => [.s fun y0 => .z fun h => b25_0 O R q y0 h, .s fun y0 => .s fun y1 => .s fun y2 => .z fun h => b25_1 O R q y0 y1 y2 h, .s fun y0 => .s fun y1 => .s fun y2 => .z fun h => b25_2 O R q y0 y1 y2 h, .s fun y0 => .z fun h => b25_3 O R q y0 h, .s fun y0 => .z fun h => b25_4 O R q y0 h, .s fun y0 => .s fun y1 => .s fun y2 => .z fun h => b25_5 O R q y0 y1 y2 h, .s fun y0 => .s fun y1 => .s fun y2 => .z fun h => b25_6 O R q y0 y1 y2 h, .s fun y0 => .z fun h => b25_7 O R q y0 h]
theorem o25 (O : Oracle) (R : Jump) (q : Nat) : HoldsAll c25 O R q 0 (d25 O R q) := ⟨fun y0 h => e25_0 O R q y0 h, fun y0 y1 y2 h => e25_1 O R q y0 y1 y2 h, fun y0 y1 y2 h => e25_2 O R q y0 y1 y2 h, fun y0 h => e25_3 O R q y0 h, fun y0 h => e25_4 O R q y0 h, fun y0 y1 y2 h => e25_5 O R q y0 y1 y2 h, fun y0 y1 y2 h => e25_6 O R q y0 y1 y2 h, fun y0 h => e25_7 O R q y0 h, trivial⟩
/- sprue/fits.Fit -/
def c38 : MFunc := { np := 3, res := [.t 6, .t 7], frz := true, body := (.seq (.reg [⟨(some 3), (.box (.t 0) false), none⟩, ⟨(some 4), (.box (.t 1) false), none⟩, ⟨(some 5), (.box (.t 2) false), none⟩, ⟨(some 6), (.mv (.k (.v (.c (.p (.str [])))))), none⟩, ⟨(some 7), (.mv (.k (.v (.c (.p (.int .i64 0)))))), none⟩] []) (.seq (.seq (.reg [⟨(some 11), (.load true 6 (.t 3)), none⟩, ⟨(some 12), (.call (.k (.v (.c (.func 69 [])))) [(.t 11)]), none⟩, ⟨(some 13), (.load true 4 (.t 4)), none⟩, ⟨(some 14), (.load true 6 (.t 5)), none⟩, ⟨(some 15), (.call (.k (.v (.c (.func 70 [])))) [(.t 12), (.t 13), (.t 14)]), none⟩, ⟨(some 10), (.mv (.t 15)), none⟩, ⟨(some 16), (.extract (.t 10) 0), none⟩, ⟨(some 17), (.extract (.t 10) 1), none⟩, ⟨(some 8), (.mv (.t 16)), none⟩, ⟨(some 9), (.mv (.t 17)), none⟩] [(1, 2), (1, 3)]) (.seq (.reg [⟨(some 18), (.mv (.t 9)), none⟩, ⟨(some 19), (.un .not (.t 18)), none⟩] []) (.cond (.t 19) (.seq (.reg [⟨(some 20), (.mv (.t 8)), none⟩, ⟨(some 6), (.mv (.t 20)), none⟩, ⟨(some 7), (.mv (.k (.v (.c (.p (.int .i64 31)))))), none⟩] []) .ret) .skip))) (.seq (.reg [⟨(some 6), (.mv (.k (.v (.c (.p (.str [])))))), none⟩, ⟨(some 7), (.mv (.k (.v (.c (.p (.int .i64 0)))))), none⟩] []) .ret))) }
theorem t38 : compF Tryd.prog (globs2 tabs opq) false true Tryd.f38 = some c38.erase := by kernel_rfl
noncomputable def b38_0 (O : Oracle) (R : Jump) (q : Nat) (x0 x1 x2 : TVal) (h : Heap) : Res1 :=
  vop O (.box (.k x0) false) h 3 fun x3 h =>
  vop O (.box (.k x1) false) h 4 fun x4 h =>
  vop O (.box (.k x2) false) h 5 fun x5 h =>
  vtouch O (.load true 6 (.k x3)) h 11 fun x11 h t0 =>
  vtouch O (.call (.k (.v (.c (.func 69 [])))) [(.k x11)]) h 12 fun x12 h t1 =>
  vtouch O (.load true 4 (.k x4)) h 13 fun x13 h t2 =>
  vtouch O (.load true 6 (.k x5)) h 14 fun x14 h t3 =>
  vtouch O (.call (.k (.v (.c (.func 70 [])))) [(.k x12), (.k x13), (.k x14)]) h 15 fun x15 h t4 =>
  vtouch O (.mv (.k x15)) h 10 fun x10 h t5 =>
  vtouch O (.extract (.k x10) 0) h 16 fun x16 h t6 =>
  vtouch O (.extract (.k x10) 1) h 17 fun x17 h t7 =>
  vtouch O (.mv (.k x16)) h 8 fun x8 h t8 =>
  vtouch O (.mv (.k x17)) h 9 fun x9 h t9 =>
  bif apartAll [t0, t1, t2, t3, t4, t5, t6, t7, t8, t9] [(1, 2), (1, 3)] then
  vop O (.un .not (.k x9)) h 19 fun x19 h =>
  vif x19 (
  tcomp x8 fun c0 => tcomp (kI 31) fun c1 => vfin true q [c0, c1] h)
  (tcomp (kS []) fun c0 => tcomp (kI 0) fun c1 => vfin true q [c0, c1] h)
  else none
theorem e38_0 (O : Oracle) (R : Jump) (q : Nat) (x0 x1 x2 : TVal) (h : Heap) : b38_0 O R q x0 x1 x2 h = stepF c38 O R q 0 [x0, x1, x2] h := by kernel_rfl
noncomputable def d38 : BlkF := fun O R q => [.s fun y0 => .s fun y1 => .s fun y2 => .z fun h => b38_0 O R q y0 y1 y2 h]
theorem o38 (O : Oracle) (R : Jump) (q : Nat) : HoldsAll c38 O R q 0 (d38 O R q) := ⟨fun y0 y1 y2 h => e38_0 O R q y0 y1 y2 h, trivial⟩
/- sprue/rows.NewHeap -/
def c39 : MFunc := { np := 1, res := [.t 2], frz := false, body := (.seq (.reg [⟨(some 1), (.box (.t 0) false), none⟩, ⟨(some 2), (.mv (.k (.v (.c (.p .nilptr))))), none⟩] []) (.seq (.reg [⟨(some 6), .mkmap, none⟩, ⟨(some 7), .mkmap, none⟩, ⟨(some 8), (.build [(.p .nilslice), (.p .nilslice), (.p .nilmap), (.p .nilmap)] [(2, 1, (.t 6)), (3, 1, (.t 7))]), none⟩, ⟨(some 9), (.box (.t 8) false), none⟩, ⟨(some 3), (.mv (.t 9)), none⟩] []) (.seq (.seq (.reg [⟨(some 10), (.faddr 4 (.t 1)), none⟩, ⟨(some 11), (.load false 1 (.t 10)), none⟩, ⟨(some 12), (.len 2 (.t 11)), none⟩, ⟨(some 13), (.mv (.k (.v (.c (.p (.int .i64 0)))))), none⟩] []) (.block 0 (.loop 1 [3, 11, 12, 13] (.seq (.reg [⟨(some 14), (.bin .lss 0 (.t 13) (.t 12)), none⟩] []) (.seq (.cond (.t 14) .skip (.exit 0)) (.seq (.block 1 (.seq (.reg [⟨(some 15), (.iaddr 5 (.t 11) (.t 13)), none⟩, ⟨(some 16), (.load true 5 (.t 15)), none⟩, ⟨(some 5), (.alloc [(.p (.str [])), (.p (.int .i64 0)), (.p (.str [])), (.p .nilslice), (.p .nilslice)] false), none⟩, ⟨none, (.store 5 (.t 5) (.t 16)), none⟩] []) (.reg [⟨(some 17), (.mv (.t 3)), none⟩, ⟨(some 18), (.nilck (.t 17)), none⟩, ⟨(some 19), (.faddr 3 (.t 18)), none⟩, ⟨(some 20), (.load false 1 (.t 19)), none⟩, ⟨(some 21), (.faddr 0 (.t 5)), none⟩, ⟨(some 22), (.load false 1 (.t 21)), none⟩, ⟨(some 23), (.faddr 1 (.t 5)), none⟩, ⟨(some 24), (.load true 4 (.t 23)), none⟩, ⟨none, (.mapup 2 (.t 20) (.t 22) (.t 24)), none⟩] []))) (.reg [⟨(some 25), (.bin .add 0 (.t 13) (.k (.v (.c (.p (.int .i64 1)))))), none⟩, ⟨(some 13), (.mv (.t 25)), none⟩] []))))))) (.seq (.reg [⟨(some 26), (.mv (.t 3)), none⟩, ⟨(some 2), (.mv (.t 26)), none⟩] []) .ret)))) }
theorem t39 : compF Tryd.prog (globs2 tabs opq) false false Tryd.f39 = some c39.erase := by kernel_rfl
noncomputable def b39_0 (O : Oracle) (R : Jump) (q : Nat) (x0 : TVal) (h : Heap) : Res1 :=
  vop O (.box (.k x0) false) h 1 fun x1 h =>
  vop O .mkmap h 6 fun x6 h =>
  vop O .mkmap h 7 fun x7 h =>
  vop O (.build [(.p .nilslice), (.p .nilslice), (.p .nilmap), (.p .nilmap)] [(2, 1, (.k x6)), (3, 1, (.k x7))]) h 8 fun x8 h =>
  vop O (.box (.k x8) false) h 9 fun x9 h =>
  vfaddr 4 x1 h fun x10 h =>
  vload false 1 x10 h fun x11 h =>
  vlen O 2 x11 h 12 fun x12 h =>
  R 1 [x9, x11, x12, (kI 0)] h
theorem e39_0 (O : Oracle) (R : Jump) (q : Nat) (x0 : TVal) (h : Heap) : b39_0 O R q x0 h = stepF c39 O R q 0 [x0] h := by kernel_rfl
noncomputable def b39_1 (O : Oracle) (R : Jump) (q : Nat) (x3 x11 x12 x13 : TVal) (h : Heap) : Res1 :=
  vbin .lss 0 x13 x12 h fun x14 h =>
  vif x14 (
  viaddr 5 x11 x13 h fun x15 h =>
  vload true 5 x15 h fun x16 h =>
  vop O (.alloc [(.p (.str [])), (.p (.int .i64 0)), (.p (.str [])), (.p .nilslice), (.p .nilslice)] false) h 5 fun x5 h =>
  vstore 5 x5 x16 h fun _ h =>
  vop O (.nilck (.k x3)) h 18 fun x18 h =>
  vfaddr 3 x18 h fun x19 h =>
  vload false 1 x19 h fun x20 h =>
  vfaddr 0 x5 h fun x21 h =>
  vload false 1 x21 h fun x22 h =>
  vfaddr 1 x5 h fun x23 h =>
  vload true 4 x23 h fun x24 h =>
  vop O (.mapup 2 (.k x20) (.k x22) (.k x24)) h 1000000 fun _ h =>
  vbin .add 0 x13 (kI 1) h fun x25 h =>
  R 1 [x3, x11, x12, x25] h)
  (tcomp x3 fun c0 => vfin false q [c0] h)
theorem e39_1 (O : Oracle) (R : Jump) (q : Nat) (x3 x11 x12 x13 : TVal) (h : Heap) : b39_1 O R q x3 x11 x12 x13 h = stepF c39 O R q 1 [x3, x11, x12, x13] h := by kernel_rfl
noncomputable def d39 : BlkF := fun O R q => [.s fun y0 => .z fun h => b39_0 O R q y0 h, .s fun y0 => .s fun y1 => .s fun y2 => .s fun y3 => .z fun h => b39_1 O R q y0 y1 y2 y3 h]
theorem o39 (O : Oracle) (R : Jump) (q : Nat) : HoldsAll c39 O R q 0 (d39 O R q) := ⟨fun y0 h => e39_0 O R q y0 h, fun y0 y1 y2 y3 h => e39_1 O R q y0 y1 y2 y3 h, trivial⟩
/- (*sprue/rows.Heap).Put -/
def c40 : MFunc := { np := 3, res := [.t 6], frz := true, body := (.seq (.reg [⟨(some 4), (.box (.t 1) false), none⟩, ⟨(some 5), (.box (.t 2) false), none⟩, ⟨(some 6), (.mv (.k (.v (.c (.p (.int .u64 0)))))), none⟩] []) (.seq (.reg [⟨(some 12), (.mv (.t 0)), none⟩, ⟨(some 13), (.load true 4 (.t 4)), none⟩, ⟨(some 14), (.call (.k (.v (.c (.func 71 [])))) [(.t 12), (.t 13)]), none⟩, ⟨none, (.store 4 (.t 4) (.t 14)), none⟩] []) (.seq (.seq (.reg [⟨(some 15), (.faddr 0 (.t 4)), none⟩, ⟨(some 16), (.load false 1 (.t 15)), none⟩] []) (.block 0 (.seq (.reg [⟨(some 18), (.bin .eql 0 (.t 16) (.k (.v (.c (.p (.int .i64 1)))))), none⟩, ⟨(some 17), (.mv (.t 18)), none⟩] []) (.cond (.t 17) (.seq (.seq (.reg [⟨(some 19), (.faddr 1 (.t 5)), none⟩, ⟨(some 20), (.load false 1 (.t 19)), none⟩] []) (.cond (.t 20) (.seq (.reg [⟨(some 6), (.mv (.k (.v (.c (.p (.int .u64 1)))))), none⟩] []) .ret) .skip)) (.seq (.reg [⟨(some 6), (.mv (.k (.v (.c (.p (.int .u64 0)))))), none⟩] []) .ret)) (.seq (.reg [⟨(some 22), (.bin .eql 0 (.t 16) (.k (.v (.c (.p (.int .i64 2)))))), none⟩, ⟨(some 21), (.mv (.t 22)), none⟩] []) (.cond (.t 21) (.seq (.reg [⟨(some 23), (.faddr 2 (.t 5)), none⟩, ⟨(some 24), (.load false 1 (.t 23)), none⟩, ⟨(some 25), (.toInt .u64 (.t 24)), none⟩, ⟨(some 6), (.mv (.t 25)), none⟩] []) .ret) (.seq (.reg [⟨(some 27), (.bin .eql 0 (.t 16) (.k (.v (.c (.p (.int .i64 3)))))), none⟩, ⟨(some 26), (.mv (.t 27)), none⟩] []) (.cond (.t 26) (.seq (.reg [⟨(some 28), (.mv (.t 0)), none⟩, ⟨(some 29), (.faddr 3 (.t 5)), none⟩, ⟨(some 30), (.load false 1 (.t 29)), none⟩, ⟨(some 31), (.call (.k (.v (.c (.func 72 [])))) [(.t 28), (.t 30)]), none⟩, ⟨(some 6), (.mv (.t 31)), none⟩] []) .ret) (.seq (.seq (.reg [⟨(some 33), (.bin .eql 0 (.t 16) (.k (.v (.c (.p (.int .i64 4)))))), none⟩, ⟨(some 32), (.mv (.t 33)), none⟩] []) (.cond (.t 32) .skip (.reg [⟨(some 34), (.bin .eql 0 (.t 16) (.k (.v (.c (.p (.int .i64 5)))))), none⟩, ⟨(some 32), (.mv (.t 34)), none⟩] []))) (.mark 1 [0, 4, 5, 16, 32] (.cond (.t 32) (.seq (.reg [⟨(some 35), (.mv (.t 0)), none⟩, ⟨(some 36), (.load true 4 (.t 4)), none⟩, ⟨(some 37), (.load true 6 (.t 5)), none⟩, ⟨(some 38), (.call (.k (.v (.c (.func 73 [])))) [(.t 35), (.t 36), (.t 37)]), none⟩, ⟨(some 6), (.mv (.t 38)), none⟩] []) .ret) (.seq (.reg [⟨(some 40), (.bin .eql 0 (.t 16) (.k (.v (.c (.p (.int .i64 6)))))), none⟩, ⟨(some 39), (.mv (.t 40)), none⟩] []) (.cond (.t 39) (.seq (.seq (.reg [⟨(some 41), (.faddr 0 (.t 5)), none⟩, ⟨(some 42), (.load false 1 (.t 41)), none⟩, ⟨(some 43), (.bin .eql 0 (.t 42) (.k (.v (.c (.p (.int .i64 0)))))), none⟩] []) (.cond (.t 43) (.seq (.reg [⟨(some 6), (.mv (.k (.v (.c (.p (.int .u64 0)))))), none⟩] []) .ret) .skip)) (.seq (.reg [⟨(some 44), (.mv (.t 0)), none⟩, ⟨(some 45), (.mv (.t 0)), none⟩, ⟨(some 46), (.load true 4 (.t 4)), none⟩, ⟨(some 47), (.call (.k (.v (.c (.func 74 [])))) [(.t 46), (.k (.v (.c (.p (.int .i64 0)))))]), none⟩, ⟨(some 48), (.load true 6 (.t 5)), none⟩, ⟨(some 49), (.call (.k (.v (.c (.func 40 [])))) [(.t 45), (.t 47), (.t 48)]), none⟩, ⟨(some 50), (.bslice 1 1 [(.p (.int .u64 0))] [(0, (.t 49))] false), none⟩, ⟨(some 51), (.call (.k (.v (.c (.func 41 [])))) [(.t 44), (.t 50)]), none⟩, ⟨(some 52), (.bin .add 0 (.t 51) (.k (.v (.c (.p (.int .u64 1)))))), none⟩, ⟨(some 6), (.mv (.t 52)), none⟩] [(3, 4)]) .ret)) (.seq (.reg [⟨(some 54), (.bin .eql 0 (.t 16) (.k (.v (.c (.p (.int .i64 7)))))), none⟩, ⟨(some 53), (.mv (.t 54)), none⟩] []) (.cond (.t 53) (.seq (.reg [⟨(some 7), (.mv (.k (.v (.c (.p .nilslice))))), none⟩] []) (.seq (.seq (.reg [⟨(some 55), (.faddr 2 (.t 4)), none⟩, ⟨(some 56), (.load false 1 (.t 55)), none⟩, ⟨(some 57), (.len 2 (.t 56)), none⟩, ⟨(some 58), (.mv (.k (.v (.c (.p (.int .i64 0)))))), none⟩] []) (.block 1 (.loop 2 [0, 4, 5, 7, 56, 57, 58] (.seq (.reg [⟨(some 59), (.bin .lss 0 (.t 58) (.t 57)), none⟩] []) (.seq (.cond (.t 59) .skip (.exit 1)) (.seq (.block 2 (.seq (.reg [⟨(some 60), (.mv (.t 58)), none⟩, ⟨(some 61), (.iaddr 1 (.t 56) (.t 58)), none⟩, ⟨(some 62), (.load false 1 (.t 61)), none⟩, ⟨(some 8), (.mv (.t 60)), none⟩, ⟨(some 9), (.mv (.t 62)), none⟩] []) (.reg [⟨(some 63), (.mv (.t 7)), none⟩, ⟨(some 64), (.mv (.t 0)), none⟩, ⟨(some 65), (.load true 4 (.t 4)), none⟩, ⟨(some 66), (.mv (.t 8)), none⟩, ⟨(some 67), (.call (.k (.v (.c (.func 74 [])))) [(.t 65), (.t 66)]), none⟩, ⟨(some 68), (.load true 6 (.t 5)), none⟩, ⟨(some 69), (.mv (.t 9)), none⟩, ⟨(some 70), (.call (.k (.v (.c (.func 75 [])))) [(.t 68), (.t 69)]), none⟩, ⟨(some 71), (.call (.k (.v (.c (.func 40 [])))) [(.t 64), (.t 67), (.t 70)]), none⟩, ⟨(some 72), (.bslice 1 1 [(.p (.int .u64 0))] [(0, (.t 71))] false), none⟩, ⟨(some 73), (.append 1 8 false (.t 63) (.t 72)), none⟩, ⟨(some 7), (.mv (.t 73)), none⟩] [(4, 5)]))) (.reg [⟨(some 74), (.bin .add 0 (.t 58) (.k (.v (.c (.p (.int .i64 1)))))), none⟩, ⟨(some 58), (.mv (.t 74)), none⟩] []))))))) (.mark 3 [0, 7] (.seq (.reg [⟨(some 75), (.mv (.t 0)), none⟩, ⟨(some 76), (.mv (.t 7)), none⟩, ⟨(some 77), (.call (.k (.v (.c (.func 41 [])))) [(.t 75), (.t 76)]), none⟩, ⟨(some 6), (.mv (.t 77)), none⟩] []) .ret)))) (.seq (.reg [⟨(some 79), (.bin .eql 0 (.t 16) (.k (.v (.c (.p (.int .i64 8)))))), none⟩, ⟨(some 78), (.mv (.t 79)), none⟩] []) (.cond (.t 78) (.seq (.reg [⟨(some 80), (.faddr 2 (.t 4)), none⟩, ⟨(some 81), (.load false 1 (.t 80)), none⟩, ⟨(some 82), (.len 2 (.t 81)), none⟩, ⟨(some 83), (.mv (.k (.v (.c (.p (.int .i64 0)))))), none⟩] []) (.block 3 (.loop 4 [0, 4, 5, 81, 82, 83] (.seq (.reg [⟨(some 84), (.bin .lss 0 (.t 83) (.t 82)), none⟩] []) (.seq (.cond (.t 84) .skip (.exit 3)) (.seq (.block 4 (.seq (.reg [⟨(some 85), (.mv (.t 83)), none⟩, ⟨(some 86), (.iaddr 1 (.t 81) (.t 83)), none⟩, ⟨(some 87), (.load false 1 (.t 86)), none⟩, ⟨(some 10), (.mv (.t 85)), none⟩, ⟨(some 11), (.mv (.t 87)), none⟩] []) (.seq (.reg [⟨(some 88), (.faddr 4 (.t 5)), none⟩, ⟨(some 89), (.load false 1 (.t 88)), none⟩, ⟨(some 90), (.mv (.t 11)), none⟩, ⟨(some 91), (.call (.k (.v (.c (.func 76 [])))) [(.t 89), (.t 90)]), none⟩] []) (.cond (.t 91) (.seq (.reg [⟨(some 92), (.mv (.t 0)), none⟩, ⟨(some 93), (.mv (.t 10)), none⟩, ⟨(some 94), (.toInt .u64 (.t 93)), none⟩, ⟨(some 95), (.mv (.t 0)), none⟩, ⟨(some 96), (.load true 4 (.t 4)), none⟩, ⟨(some 97), (.mv (.t 10)), none⟩, ⟨(some 98), (.call (.k (.v (.c (.func 74 [])))) [(.t 96), (.t 97)]), none⟩, ⟨(some 99), (.load true 6 (.t 5)), none⟩, ⟨(some 100), (.mv (.t 11)), none⟩, ⟨(some 101), (.call (.k (.v (.c (.func 75 [])))) [(.t 99), (.t 100)]), none⟩, ⟨(some 102), (.call (.k (.v (.c (.func 40 [])))) [(.t 95), (.t 98), (.t 101)]), none⟩, ⟨(some 103), (.bslice 1 2 [(.p (.int .u64 0))] [(0, (.t 94)), (1, (.t 102))] false), none⟩, ⟨(some 104), (.call (.k (.v (.c (.func 41 [])))) [(.t 92), (.t 103)]), none⟩, ⟨(some 6), (.mv (.t 104)), none⟩] [(6, 7)]) .ret) .skip)))) (.reg [⟨(some 105), (.bin .add 0 (.t 83) (.k (.v (.c (.p (.int .i64 1)))))), none⟩, ⟨(some 83), (.mv (.t 105)), none⟩] []))))))) .skip))))))))))))))))) (.seq (.reg [⟨(some 6), (.mv (.k (.v (.c (.p (.int .u64 0)))))), none⟩] []) .ret)))) }
theorem t40 : compF Tryd.prog (globs2 tabs opq) false true Tryd.f40 = some c40.erase := by kernel_rfl
noncomputable def b40_0 (O : Oracle) (R : Jump) (q : Nat) (x0 x1 x2 : TVal) (h : Heap) : Res1 :=
  vop O (.box (.k x1) false) h 4 fun x4 h =>
  vop O (.box (.k x2) false) h 5 fun x5 h =>
  vload true 4 x4 h fun x13 h =>
  vcall O (.v (.c (.func 71 []))) [x0, x13] h 14 fun x14 h =>
  vstore 4 x4 x14 h fun _ h =>
  vfaddr 0 x4 h fun x15 h =>
  vload false 1 x15 h fun x16 h =>
  vbin .eql 0 x16 (kI 1) h fun x18 h =>
  vif x18 (
  vfaddr 1 x5 h fun x19 h =>
  vload false 1 x19 h fun x20 h =>
  vif x20 (
  tcomp (.v (.c (.p (.int .u64 1)))) fun c0 => vfin true q [c0] h)
  (tcomp (.v (.c (.p (.int .u64 0)))) fun c0 => vfin true q [c0] h))
  (vbin .eql 0 x16 (kI 2) h fun x22 h =>
  vif x22 (
  vfaddr 2 x5 h fun x23 h =>
  vload false 1 x23 h fun x24 h =>
  vtoInt .u64 x24 h fun x25 h =>
  tcomp x25 fun c0 => vfin true q [c0] h)
  (vbin .eql 0 x16 (kI 3) h fun x27 h =>
  vif x27 (
  vfaddr 3 x5 h fun x29 h =>
  vload false 1 x29 h fun x30 h =>
  vcall O (.v (.c (.func 72 []))) [x0, x30] h 31 fun x31 h =>
  tcomp x31 fun c0 => vfin true q [c0] h)
  (vbin .eql 0 x16 (kI 4) h fun x33 h =>
  vif x33 (
  R 1 [x0, x4, x5, x16, x33] h)
  (vbin .eql 0 x16 (kI 5) h fun x34 h =>
  R 1 [x0, x4, x5, x16, x34] h))))
theorem e40_0 (O : Oracle) (R : Jump) (q : Nat) (x0 x1 x2 : TVal) (h : Heap) : b40_0 O R q x0 x1 x2 h = stepF c40 O R q 0 [x0, x1, x2] h := by kernel_rfl
noncomputable def b40_1 (O : Oracle) (R : Jump) (q : Nat) (x0 x4 x5 x16 x32 : TVal) (h : Heap) : Res1 :=
  vif x32 (
  vload true 4 x4 h fun x36 h =>
  vload true 6 x5 h fun x37 h =>
  vcall O (.v (.c (.func 73 []))) [x0, x36, x37] h 38 fun x38 h =>
  tcomp x38 fun c0 => vfin true q [c0] h)
  (vbin .eql 0 x16 (kI 6) h fun x40 h =>
  vif x40 (
  vfaddr 0 x5 h fun x41 h =>
  vload false 1 x41 h fun x42 h =>
  vbin .eql 0 x42 (kI 0) h fun x43 h =>
  vif x43 (
  tcomp (.v (.c (.p (.int .u64 0)))) fun c0 => vfin true q [c0] h)
  (vtouch O (.mv (.k x0)) h 44 fun x44 h t0 =>
  vtouch O (.mv (.k x0)) h 45 fun x45 h t1 =>
  vtouch O (.load true 4 (.k x4)) h 46 fun x46 h t2 =>
  vtouch O (.call (.k (.v (.c (.func 74 [])))) [(.k x46), (.k (kI 0))]) h 47 fun x47 h t3 =>
  vtouch O (.load true 6 (.k x5)) h 48 fun x48 h t4 =>
  vtouch O (.call (.k (.v (.c (.func 40 [])))) [(.k x45), (.k x47), (.k x48)]) h 49 fun x49 h t5 =>
  vtouch O (.bslice 1 1 [(.p (.int .u64 0))] [(0, (.k x49))] false) h 50 fun x50 h t6 =>
  vtouch O (.call (.k (.v (.c (.func 41 [])))) [(.k x44), (.k x50)]) h 51 fun x51 h t7 =>
  vtouch O (.bin .add 0 (.k x51) (.k (.v (.c (.p (.int .u64 1)))))) h 52 fun x52 h t8 =>
  vtouch O (.mv (.k x52)) h 6 fun x6 h t9 =>
  bif apartAll [t0, t1, t2, t3, t4, t5, t6, t7, t8, t9] [(3, 4)] then
  tcomp x6 fun c0 => vfin true q [c0] h
  else none))
  (vbin .eql 0 x16 (kI 7) h fun x54 h =>
  vif x54 (
  vfaddr 2 x4 h fun x55 h =>
  vload false 1 x55 h fun x56 h =>
  vlen O 2 x56 h 57 fun x57 h =>
  R 2 [x0, x4, x5, (.v (.c (.p .nilslice))), x56, x57, (kI 0)] h)
  (vbin .eql 0 x16 (kI 8) h fun x79 h =>
  vif x79 (
  vfaddr 2 x4 h fun x80 h =>
  vload false 1 x80 h fun x81 h =>
  vlen O 2 x81 h 82 fun x82 h =>
  R 4 [x0, x4, x5, x81, x82, (kI 0)] h)
  (tcomp (.v (.c (.p (.int .u64 0)))) fun c0 => vfin true q [c0] h))))
theorem e40_1 (O : Oracle) (R : Jump) (q : Nat) (x0 x4 x5 x16 x32 : TVal) (h : Heap) : b40_1 O R q x0 x4 x5 x16 x32 h = stepF c40 O R q 1 [x0, x4, x5, x16, x32] h := by kernel_rfl
noncomputable def b40_2 (O : Oracle) (R : Jump) (q : Nat) (x0 x4 x5 x7 x56 x57 x58 : TVal) (h : Heap) : Res1 :=
  vbin .lss 0 x58 x57 h fun x59 h =>
  vif x59 (
  viaddr 1 x56 x58 h fun x61 h =>
  vload false 1 x61 h fun x62 h =>
  vtouch O (.mv (.k x7)) h 63 fun x63 h t0 =>
  vtouch O (.mv (.k x0)) h 64 fun x64 h t1 =>
  vtouch O (.load true 4 (.k x4)) h 65 fun x65 h t2 =>
  vtouch O (.mv (.k x58)) h 66 fun x66 h t3 =>
  vtouch O (.call (.k (.v (.c (.func 74 [])))) [(.k x65), (.k x66)]) h 67 fun x67 h t4 =>
  vtouch O (.load true 6 (.k x5)) h 68 fun x68 h t5 =>
  vtouch O (.mv (.k x62)) h 69 fun x69 h t6 =>
  vtouch O (.call (.k (.v (.c (.func 75 [])))) [(.k x68), (.k x69)]) h 70 fun x70 h t7 =>
  vtouch O (.call (.k (.v (.c (.func 40 [])))) [(.k x64), (.k x67), (.k x70)]) h 71 fun x71 h t8 =>
  vtouch O (.bslice 1 1 [(.p (.int .u64 0))] [(0, (.k x71))] false) h 72 fun x72 h t9 =>
  vtouch O (.append 1 8 false (.k x63) (.k x72)) h 73 fun x73 h t10 =>
  vtouch O (.mv (.k x73)) h 7 fun x7_1 h t11 =>
  bif apartAll [t0, t1, t2, t3, t4, t5, t6, t7, t8, t9, t10, t11] [(4, 5)] then
  vbin .add 0 x58 (kI 1) h fun x74 h =>
  R 2 [x0, x4, x5, x7_1, x56, x57, x74] h
  else none)
  (R 3 [x0, x7] h)
theorem e40_2 (O : Oracle) (R : Jump) (q : Nat) (x0 x4 x5 x7 x56 x57 x58 : TVal) (h : Heap) : b40_2 O R q x0 x4 x5 x7 x56 x57 x58 h = stepF c40 O R q 2 [x0, x4, x5, x7, x56, x57, x58] h := by kernel_rfl
noncomputable def b40_3 (O : Oracle) (R : Jump) (q : Nat) (x0 x7 : TVal) (h : Heap) : Res1 :=
  vcall O (.v (.c (.func 41 []))) [x0, x7] h 77 fun x77 h =>
  tcomp x77 fun c0 => vfin true q [c0] h
theorem e40_3 (O : Oracle) (R : Jump) (q : Nat) (x0 x7 : TVal) (h : Heap) : b40_3 O R q x0 x7 h = stepF c40 O R q 3 [x0, x7] h := by kernel_rfl
noncomputable def b40_4 (O : Oracle) (R : Jump) (q : Nat) (x0 x4 x5 x81 x82 x83 : TVal) (h : Heap) : Res1 :=
  vbin .lss 0 x83 x82 h fun x84 h =>
  vif x84 (
  viaddr 1 x81 x83 h fun x86 h =>
  vload false 1 x86 h fun x87 h =>
  vfaddr 4 x5 h fun x88 h =>
  vload false 1 x88 h fun x89 h =>
  vcall O (.v (.c (.func 76 []))) [x89, x87] h 91 fun x91 h =>
  vif x91 (
  vtouch O (.mv (.k x0)) h 92 fun x92 h t0 =>
  vtouch O (.mv (.k x83)) h 93 fun x93 h t1 =>
  vtouch O (.toInt .u64 (.k x93)) h 94 fun x94 h t2 =>
  vtouch O (.mv (.k x0)) h 95 fun x95 h t3 =>
  vtouch O (.load true 4 (.k x4)) h 96 fun x96 h t4 =>
  vtouch O (.mv (.k x83)) h 97 fun x97 h t5 =>
  vtouch O (.call (.k (.v (.c (.func 74 [])))) [(.k x96), (.k x97)]) h 98 fun x98 h t6 =>
  vtouch O (.load true 6 (.k x5)) h 99 fun x99 h t7 =>
  vtouch O (.mv (.k x87)) h 100 fun x100 h t8 =>
  vtouch O (.call (.k (.v (.c (.func 75 [])))) [(.k x99), (.k x100)]) h 101 fun x101 h t9 =>
  vtouch O (.call (.k (.v (.c (.func 40 [])))) [(.k x95), (.k x98), (.k x101)]) h 102 fun x102 h t10 =>
  vtouch O (.bslice 1 2 [(.p (.int .u64 0))] [(0, (.k x94)), (1, (.k x102))] false) h 103 fun x103 h t11 =>
  vtouch O (.call (.k (.v (.c (.func 41 [])))) [(.k x92), (.k x103)]) h 104 fun x104 h t12 =>
  vtouch O (.mv (.k x104)) h 6 fun x6 h t13 =>
  bif apartAll [t0, t1, t2, t3, t4, t5, t6, t7, t8, t9, t10, t11, t12, t13] [(6, 7)] then
  tcomp x6 fun c0 => vfin true q [c0] h
  else none)
  (vbin .add 0 x83 (kI 1) h fun x105 h =>
  R 4 [x0, x4, x5, x81, x82, x105] h))
  (tcomp (.v (.c (.p (.int .u64 0)))) fun c0 => vfin true q [c0] h)
theorem e40_4 (O : Oracle) (R : Jump) (q : Nat) (x0 x4 x5 x81 x82 x83 : TVal) (h : Heap) : b40_4 O R q x0 x4 x5 x81 x82 x83 h = stepF c40 O R q 4 [x0, x4, x5, x81, x82, x83] h := by kernel_rfl
noncomputable def d40 : BlkF := fun O R q => [.s fun y0 => .s fun y1 => .s fun y2 => .z fun h => b40_0 O R q y0 y1 y2 h, .s fun y0 => .s fun y1 => .s fun y2 => .s fun y3 => .s fun y4 => .z fun h => b40_1 O R q y0 y1 y2 y3 y4 h, .s fun y0 => .s fun y1 => .s fun y2 => .s fun y3 => .s fun y4 => .s fun y5 => .s fun y6 => .z fun h => b40_2 O R q y0 y1 y2 y3 y4 y5 y6 h, .s fun y0 => .s fun y1 => .z fun h => b40_3 O R q y0 y1 h, .s fun y0 => .s fun y1 => .s fun y2 => .s fun y3 => .s fun y4 => .s fun y5 => .z fun h => b40_4 O R q y0 y1 y2 y3 y4 y5 h]
theorem o40 (O : Oracle) (R : Jump) (q : Nat) : HoldsAll c40 O R q 0 (d40 O R q) := ⟨fun y0 y1 y2 h => e40_0 O R q y0 y1 y2 h, fun y0 y1 y2 y3 y4 h => e40_1 O R q y0 y1 y2 y3 y4 h, fun y0 y1 y2 y3 y4 y5 y6 h => e40_2 O R q y0 y1 y2 y3 y4 y5 y6 h, fun y0 y1 h => e40_3 O R q y0 y1 h, fun y0 y1 y2 y3 y4 y5 h => e40_4 O R q y0 y1 y2 y3 y4 y5 h, trivial⟩
/- (*sprue/rows.Heap).lay -/
def c41 : MFunc := { np := 2, res := [.t 4], frz := true, body := (.seq (.reg [⟨(some 4), (.mv (.k (.v (.c (.p (.int .u64 0)))))), none⟩] []) (.seq (.reg [⟨(some 6), (.mv (.t 0)), none⟩, ⟨(some 7), (.nilck (.t 6)), none⟩, ⟨(some 8), (.faddr 0 (.t 7)), none⟩, ⟨(some 9), (.load false 1 (.t 8)), none⟩, ⟨(some 10), (.len 2 (.t 9)), none⟩, ⟨(some 11), (.toInt .u64 (.t 10)), none⟩, ⟨(some 5), (.mv (.t 11)), none⟩] []) (.seq (.reg [⟨(some 12), (.mv (.t 0)), none⟩, ⟨(some 13), (.mv (.t 0)), none⟩, ⟨(some 14), (.nilck (.t 13)), none⟩, ⟨(some 15), (.faddr 0 (.t 14)), none⟩, ⟨(some 16), (.load false 1 (.t 15)), none⟩, ⟨(some 17), (.mv (.t 1)), none⟩, ⟨(some 18), (.append 1 8 false (.t 16) (.t 17)), none⟩, ⟨(some 19), (.nilck (.t 12)), none⟩, ⟨(some 20), (.faddr 0 (.t 19)), none⟩, ⟨none, (.store 1 (.t 20) (.t 18)), none⟩] []) (.seq (.reg [⟨(some 21), (.mv (.t 5)), none⟩, ⟨(some 4), (.mv (.t 21)), none⟩] []) .ret)))) }
theorem t41 : compF Tryd.prog (globs2 tabs opq) false true Tryd.f41 = some c41.erase := by kernel_rfl
noncomputable def b41_0 (O : Oracle) (R : Jump) (q : Nat) (x0 x1 : TVal) (h : Heap) : Res1 :=
  vop O (.nilck (.k x0)) h 7 fun x7 h =>
  vfaddr 0 x7 h fun x8 h =>
  vload false 1 x8 h fun x9 h =>
  vlen O 2 x9 h 10 fun x10 h =>
  vtoInt .u64 x10 h fun x11 h =>
  vop O (.nilck (.k x0)) h 14 fun x14 h =>
  vfaddr 0 x14 h fun x15 h =>
  vload false 1 x15 h fun x16 h =>
  vop O (.append 1 8 false (.k x16) (.k x1)) h 18 fun x18 h =>
  vop O (.nilck (.k x0)) h 19 fun x19 h =>
  vfaddr 0 x19 h fun x20 h =>
  vstore 1 x20 x18 h fun _ h =>
  tcomp x11 fun c0 => vfin true q [c0] h
theorem e41_0 (O : Oracle) (R : Jump) (q : Nat) (x0 x1 : TVal) (h : Heap) : b41_0 O R q x0 x1 h = stepF c41 O R q 0 [x0, x1] h := by kernel_rfl
noncomputable def d41 : BlkF := fun O R q => [.s fun y0 => .s fun y1 => .z fun h => b41_0 O R q y0 y1 h]
theorem o41 (O : Oracle) (R : Jump) (q : Nat) : HoldsAll c41 O R q 0 (d41 O R q) := ⟨fun y0 y1 h => e41_0 O R q y0 y1 h, trivial⟩
/- (*sprue/rows.Heap).Get -/
def c42 : MFunc := { np := 3, res := [.cell 6 true 6], frz := true, body := (.seq (.reg [⟨(some 4), (.box (.t 1) false), none⟩, ⟨(some 6), (.alloc [(.p (.int .i64 0)), (.p (.bool false)), (.p (.int .i64 0)), (.p (.str [])), (.p .nilslice), (.p .nilslice)] false), none⟩] []) (.seq (.reg [⟨(some 11), (.mv (.t 0)), none⟩, ⟨(some 12), (.load true 4 (.t 4)), none⟩, ⟨(some 13), (.call (.k (.v (.c (.func 71 [])))) [(.t 11), (.t 12)]), none⟩, ⟨none, (.store 4 (.t 4) (.t 13)), none⟩] []) (.seq (.seq (.reg [⟨(some 14), (.faddr 0 (.t 4)), none⟩, ⟨(some 15), (.load false 1 (.t 14)), none⟩] []) (.block 0 (.seq (.reg [⟨(some 17), (.bin .eql 0 (.t 15) (.k (.v (.c (.p (.int .i64 1)))))), none⟩, ⟨(some 16), (.mv (.t 17)), none⟩] []) (.cond (.t 16) (.seq (.reg [⟨(some 18), (.mv (.t 2)), none⟩, ⟨(some 19), (.bin .neq 0 (.t 18) (.k (.v (.c (.p (.int .u64 0)))))), none⟩, ⟨(some 20), (.build [(.p (.int .i64 0)), (.p (.bool false)), (.p (.int .i64 0)), (.p (.str [])), (.p .nilslice), (.p .nilslice)] [(0, 1, (.k (.v (.c (.p (.int .i64 1)))))), (1, 1, (.t 19))]), none⟩, ⟨none, (.store 6 (.t 6) (.t 20)), none⟩] []) .ret) (.seq (.reg [⟨(some 22), (.bin .eql 0 (.t 15) (.k (.v (.c (.p (.int .i64 2)))))), none⟩, ⟨(some 21), (.mv (.t 22)), none⟩] []) (.cond (.t 21) (.seq (.reg [⟨(some 23), (.mv (.t 2)), none⟩, ⟨(some 24), (.toInt .i64 (.t 23)), none⟩, ⟨(some 25), (.build [(.p (.int .i64 0)), (.p (.bool false)), (.p (.int .i64 0)), (.p (.str [])), (.p .nilslice), (.p .nilslice)] [(0, 1, (.k (.v (.c (.p (.int .i64 2)))))), (2, 1, (.t 24))]), none⟩, ⟨none, (.store 6 (.t 6) (.t 25)), none⟩] []) .ret) (.seq (.reg [⟨(some 27), (.bin .eql 0 (.t 15) (.k (.v (.c (.p (.int .i64 3)))))), none⟩, ⟨(some 26), (.mv (.t 27)), none⟩] []) (.cond (.t 26) (.seq (.reg [⟨(some 28), (.mv (.t 0)), none⟩, ⟨(some 29), (.mv (.t 2)), none⟩, ⟨(some 30), (.call (.k (.v (.c (.func 77 [])))) [(.t 28), (.t 29)]), none⟩, ⟨(some 31), (.build [(.p (.int .i64 0)), (.p (.bool false)), (.p (.int .i64 0)), (.p (.str [])), (.p .nilslice), (.p .nilslice)] [(0, 1, (.k (.v (.c (.p (.int .i64 3)))))), (3, 1, (.t 30))]), none⟩, ⟨none, (.store 6 (.t 6) (.t 31)), none⟩] []) .ret) (.seq (.reg [⟨(some 33), (.bin .eql 0 (.t 15) (.k (.v (.c (.p (.int .i64 6)))))), none⟩, ⟨(some 32), (.mv (.t 33)), none⟩] []) (.cond (.t 32) (.seq (.seq (.reg [⟨(some 34), (.mv (.t 2)), none⟩, ⟨(some 35), (.bin .eql 0 (.t 34) (.k (.v (.c (.p (.int .u64 0)))))), none⟩] []) (.cond (.t 35) (.seq (.reg [⟨(some 36), (.build [(.p (.int .i64 0)), (.p (.bool false)), (.p (.int .i64 0)), (.p (.str [])), (.p .nilslice), (.p .nilslice)] []), none⟩, ⟨none, (.store 6 (.t 6) (.t 36)), none⟩] []) .ret) .skip)) (.seq (.reg [⟨(some 37), (.mv (.t 0)), none⟩, ⟨(some 38), (.load true 4 (.t 4)), none⟩, ⟨(some 39), (.call (.k (.v (.c (.func 74 [])))) [(.t 38), (.k (.v (.c (.p (.int .i64 0)))))]), none⟩, ⟨(some 40), (.mv (.t 0)), none⟩, ⟨(some 41), (.mv (.t 2)), none⟩, ⟨(some 42), (.bin .sub 0 (.t 41) (.k (.v (.c (.p (.int .u64 1)))))), none⟩, ⟨(some 43), (.call (.k (.v (.c (.func 78 [])))) [(.t 40), (.t 42)]), none⟩, ⟨(some 44), (.call (.k (.v (.c (.func 42 [])))) [(.t 37), (.t 39), (.t 43)]), none⟩, ⟨none, (.store 6 (.t 6) (.t 44)), none⟩] []) .ret)) (.seq (.seq (.reg [⟨(some 46), (.bin .eql 0 (.t 15) (.k (.v (.c (.p (.int .i64 7)))))), none⟩, ⟨(some 45), (.mv (.t 46)), none⟩] []) (.cond (.t 45) .skip (.reg [⟨(some 47), (.bin .eql 0 (.t 15) (.k (.v (.c (.p (.int .i64 8)))))), none⟩, ⟨(some 45), (.mv (.t 47)), none⟩] []))) (.mark 1 [0, 2, 4, 6, 15, 45] (.cond (.t 45) (.seq (.reg [⟨(some 48), (.mv (.t 0)), none⟩, ⟨(some 49), (.load true 4 (.t 4)), none⟩, ⟨(some 50), (.mv (.t 2)), none⟩, ⟨(some 51), (.call (.k (.v (.c (.func 79 [])))) [(.t 48), (.t 49), (.t 50)]), none⟩, ⟨none, (.store 6 (.t 6) (.t 51)), none⟩] []) .ret) (.seq (.reg [⟨(some 53), (.bin .eql 0 (.t 15) (.k (.v (.c (.p (.int .i64 4)))))), none⟩, ⟨(some 52), (.mv (.t 53)), none⟩] []) (.cond (.t 52) (.seq (.reg [⟨(some 54), (.build [(.p (.int .i64 0)), (.p (.bool false)), (.p (.int .i64 0)), (.p (.str [])), (.p .nilslice), (.p .nilslice)] [(0, 1, (.k (.v (.c (.p (.int .i64 4))))))]), none⟩, ⟨(some 7), (.alloc [(.p (.int .i64 0)), (.p (.bool false)), (.p (.int .i64 0)), (.p (.str [])), (.p .nilslice), (.p .nilslice)] false), none⟩, ⟨none, (.store 6 (.t 7) (.t 54)), none⟩] []) (.seq (.seq (.reg [⟨(some 55), (.mv (.t 0)), none⟩, ⟨(some 56), (.mv (.t 2)), none⟩, ⟨(some 57), (.call (.k (.v (.c (.func 78 [])))) [(.t 55), (.t 56)]), none⟩, ⟨(some 58), (.mv (.k (.v (.c (.p (.int .u64 0)))))), none⟩] []) (.block 1 (.loop 2 [0, 2, 4, 6, 7, 57, 58] (.seq (.reg [⟨(some 59), (.bin .lss 0 (.t 58) (.t 57)), none⟩] []) (.seq (.cond (.t 59) .skip (.exit 1)) (.seq (.block 2 (.seq (.reg [⟨(some 60), (.mv (.t 58)), none⟩, ⟨(some 8), (.mv (.t 60)), none⟩] []) (.reg [⟨(some 61), (.faddr 5 (.t 7)), none⟩, ⟨(some 62), (.load false 1 (.t 61)), none⟩, ⟨(some 63), (.mv (.t 0)), none⟩, ⟨(some 64), (.load true 4 (.t 4)), none⟩, ⟨(some 65), (.call (.k (.v (.c (.func 74 [])))) [(.t 64), (.k (.v (.c (.p (.int .i64 0)))))]), none⟩, ⟨(some 66), (.mv (.t 0)), none⟩, ⟨(some 67), (.mv (.t 2)), none⟩, ⟨(some 68), (.bin .add 0 (.t 67) (.k (.v (.c (.p (.int .u64 1)))))), none⟩, ⟨(some 69), (.mv (.t 8)), none⟩, ⟨(some 70), (.bin .add 0 (.t 68) (.t 69)), none⟩, ⟨(some 71), (.call (.k (.v (.c (.func 78 [])))) [(.t 66), (.t 70)]), none⟩, ⟨(some 72), (.call (.k (.v (.c (.func 42 [])))) [(.t 63), (.t 65), (.t 71)]), none⟩, ⟨(some 73), (.bslice 6 1 [(.p (.int .i64 0)), (.p (.bool false)), (.p (.int .i64 0)), (.p (.str [])), (.p .nilslice), (.p .nilslice)] [(0, (.t 72))] false), none⟩, ⟨(some 74), (.append 6 88 false (.t 62) (.t 73)), none⟩, ⟨(some 75), (.faddr 5 (.t 7)), none⟩, ⟨none, (.store 1 (.t 75) (.t 74)), none⟩] [(1, 4), (1, 10), (1, 11), (1, 12)]))) (.reg [⟨(some 76), (.bin .add 0 (.t 58) (.k (.v (.c (.p (.int .u64 1)))))), none⟩, ⟨(some 58), (.mv (.t 76)), none⟩] []))))))) (.mark 3 [6, 7] (.seq (.reg [⟨(some 77), (.load true 6 (.t 7)), none⟩, ⟨none, (.store 6 (.t 6) (.t 77)), none⟩] []) .ret)))) (.seq (.reg [⟨(some 79), (.bin .eql 0 (.t 15) (.k (.v (.c (.p (.int .i64 5)))))), none⟩, ⟨(some 78), (.mv (.t 79)), none⟩] []) (.cond (.t 78) (.seq (.reg [⟨(some 80), (.build [(.p (.int .i64 0)), (.p (.bool false)), (.p (.int .i64 0)), (.p (.str [])), (.p .nilslice), (.p .nilslice)] [(0, 1, (.k (.v (.c (.p (.int .i64 5))))))]), none⟩, ⟨(some 9), (.alloc [(.p (.int .i64 0)), (.p (.bool false)), (.p (.int .i64 0)), (.p (.str [])), (.p .nilslice), (.p .nilslice)] false), none⟩, ⟨none, (.store 6 (.t 9) (.t 80)), none⟩] []) (.seq (.seq (.reg [⟨(some 81), (.mv (.t 0)), none⟩, ⟨(some 82), (.mv (.t 2)), none⟩, ⟨(some 83), (.call (.k (.v (.c (.func 78 [])))) [(.t 81), (.t 82)]), none⟩, ⟨(some 84), (.mv (.k (.v (.c (.p (.int .u64 0)))))), none⟩] []) (.block 3 (.loop 4 [0, 2, 4, 6, 9, 83, 84] (.seq (.reg [⟨(some 85), (.bin .lss 0 (.t 84) (.t 83)), none⟩] []) (.seq (.cond (.t 85) .skip (.exit 3)) (.seq (.block 4 (.seq (.reg [⟨(some 86), (.mv (.t 84)), none⟩, ⟨(some 10), (.mv (.t 86)), none⟩] []) (.reg [⟨(some 87), (.faddr 4 (.t 9)), none⟩, ⟨(some 88), (.load false 1 (.t 87)), none⟩, ⟨(some 89), (.mv (.t 0)), none⟩, ⟨(some 90), (.mv (.t 0)), none⟩, ⟨(some 91), (.mv (.t 2)), none⟩, ⟨(some 92), (.bin .add 0 (.t 91) (.k (.v (.c (.p (.int .u64 1)))))), none⟩, ⟨(some 93), (.mv (.t 10)), none⟩, ⟨(some 94), (.bin .mul 0 (.k (.v (.c (.p (.int .u64 2))))) (.t 93)), none⟩, ⟨(some 95), (.bin .add 0 (.t 92) (.t 94)), none⟩, ⟨(some 96), (.call (.k (.v (.c (.func 78 [])))) [(.t 90), (.t 95)]), none⟩, ⟨(some 97), (.call (.k (.v (.c (.func 77 [])))) [(.t 89), (.t 96)]), none⟩, ⟨(some 98), (.bslice 1 1 [(.p (.str []))] [(0, (.t 97))] false), none⟩, ⟨(some 99), (.append 1 16 false (.t 88) (.t 98)), none⟩, ⟨(some 100), (.faddr 5 (.t 9)), none⟩, ⟨(some 101), (.load false 1 (.t 100)), none⟩, ⟨(some 102), (.mv (.t 0)), none⟩, ⟨(some 103), (.load true 4 (.t 4)), none⟩, ⟨(some 104), (.call (.k (.v (.c (.func 74 [])))) [(.t 103), (.k (.v (.c (.p (.int .i64 0)))))]), none⟩, ⟨(some 105), (.mv (.t 0)), none⟩, ⟨(some 106), (.mv (.t 2)), none⟩, ⟨(some 107), (.bin .add 0 (.t 106) (.k (.v (.c (.p (.int .u64 2)))))), none⟩, ⟨(some 108), (.mv (.t 10)), none⟩, ⟨(some 109), (.bin .mul 0 (.k (.v (.c (.p (.int .u64 2))))) (.t 108)), none⟩, ⟨(some 110), (.bin .add 0 (.t 107) (.t 109)), none⟩, ⟨(some 111), (.call (.k (.v (.c (.func 78 [])))) [(.t 105), (.t 110)]), none⟩, ⟨(some 112), (.call (.k (.v (.c (.func 42 [])))) [(.t 102), (.t 104), (.t 111)]), none⟩, ⟨(some 113), (.bslice 6 1 [(.p (.int .i64 0)), (.p (.bool false)), (.p (.int .i64 0)), (.p (.str [])), (.p .nilslice), (.p .nilslice)] [(0, (.t 112))] false), none⟩, ⟨(some 114), (.append 6 88 false (.t 101) (.t 113)), none⟩, ⟨(some 115), (.faddr 4 (.t 9)), none⟩, ⟨none, (.store 1 (.t 115) (.t 99)), none⟩, ⟨(some 116), (.faddr 5 (.t 9)), none⟩, ⟨none, (.store 1 (.t 116) (.t 114)), none⟩] [(1, 9), (1, 10), (1, 11), (9, 14), (10, 14), (11, 14), (12, 14), (9, 16), (10, 16), (11, 16), (12, 16), (14, 17), (14, 24), (14, 25), (14, 26)]))) (.reg [⟨(some 117), (.bin .add 0 (.t 84) (.k (.v (.c (.p (.int .u64 1)))))), none⟩, ⟨(some 84), (.mv (.t 117)), none⟩] []))))))) (.mark 5 [6, 9] (.seq (.reg [⟨(some 118), (.load true 6 (.t 9)), none⟩, ⟨none, (.store 6 (.t 6) (.t 118)), none⟩] []) .ret)))) .skip))))))))))))))))) (.mark 6 [6] (.seq (.reg [⟨(some 119), (.build [(.p (.int .i64 0)), (.p (.bool false)), (.p (.int .i64 0)), (.p (.str [])), (.p .nilslice), (.p .nilslice)] []), none⟩, ⟨none, (.store 6 (.t 6) (.t 119)), none⟩] []) .ret))))) }
theorem t42 : compF Tryd.prog (globs2 tabs opq) false true Tryd.f42 = some c42.erase := by kernel_rfl
noncomputable def b42_0 (O : Oracle) (R : Jump) (q : Nat) (x0 x1 x2 : TVal) (h : Heap) : Res1 :=
  vop O (.box (.k x1) false) h 4 fun x4 h =>
  vop O (.alloc [(.p (.int .i64 0)), (.p (.bool false)), (.p (.int .i64 0)), (.p (.str [])), (.p .nilslice), (.p .nilslice)] false) h 6 fun x6 h =>
  vload true 4 x4 h fun x12 h =>
  vcall O (.v (.c (.func 71 []))) [x0, x12] h 13 fun x13 h =>
  vstore 4 x4 x13 h fun _ h =>
  vfaddr 0 x4 h fun x14 h =>
  vload false 1 x14 h fun x15 h =>
  vbin .eql 0 x15 (kI 1) h fun x17 h =>
  vif x17 (
  vbin .neq 0 x2 (.v (.c (.p (.int .u64 0)))) h fun x19 h =>
  vop O (.build [(.p (.int .i64 0)), (.p (.bool false)), (.p (.int .i64 0)), (.p (.str [])), (.p .nilslice), (.p .nilslice)] [(0, 1, (.k (kI 1))), (1, 1, (.k x19))]) h 20 fun x20 h =>
  vstore 6 x6 x20 h fun _ h =>
  vcell true 6 x6 h fun c0 => vfin true q [c0] h)
  (vbin .eql 0 x15 (kI 2) h fun x22 h =>
  vif x22 (
  vtoInt .i64 x2 h fun x24 h =>
  vop O (.build [(.p (.int .i64 0)), (.p (.bool false)), (.p (.int .i64 0)), (.p (.str [])), (.p .nilslice), (.p .nilslice)] [(0, 1, (.k (kI 2))), (2, 1, (.k x24))]) h 25 fun x25 h =>
  vstore 6 x6 x25 h fun _ h =>
  vcell true 6 x6 h fun c0 => vfin true q [c0] h)
  (vbin .eql 0 x15 (kI 3) h fun x27 h =>
  vif x27 (
  vcall O (.v (.c (.func 77 []))) [x0, x2] h 30 fun x30 h =>
  vop O (.build [(.p (.int .i64 0)), (.p (.bool false)), (.p (.int .i64 0)), (.p (.str [])), (.p .nilslice), (.p .nilslice)] [(0, 1, (.k (kI 3))), (3, 1, (.k x30))]) h 31 fun x31 h =>
  vstore 6 x6 x31 h fun _ h =>
  vcell true 6 x6 h fun c0 => vfin true q [c0] h)
  (vbin .eql 0 x15 (kI 6) h fun x33 h =>
  vif x33 (
  vbin .eql 0 x2 (.v (.c (.p (.int .u64 0)))) h fun x35 h =>
  vif x35 (
  vop O (.build [(.p (.int .i64 0)), (.p (.bool false)), (.p (.int .i64 0)), (.p (.str [])), (.p .nilslice), (.p .nilslice)] []) h 36 fun x36 h =>
  vstore 6 x6 x36 h fun _ h =>
  vcell true 6 x6 h fun c0 => vfin true q [c0] h)
  (vload true 4 x4 h fun x38 h =>
  vcall O (.v (.c (.func 74 []))) [x38, (kI 0)] h 39 fun x39 h =>
  vbin .sub 0 x2 (.v (.c (.p (.int .u64 1)))) h fun x42 h =>
  vcall O (.v (.c (.func 78 []))) [x0, x42] h 43 fun x43 h =>
  vcall O (.v (.c (.func 42 []))) [x0, x39, x43] h 44 fun x44 h =>
  vstore 6 x6 x44 h fun _ h =>
  vcell true 6 x6 h fun c0 => vfin true q [c0] h))
  (vbin .eql 0 x15 (kI 7) h fun x46 h =>
  vif x46 (
  R 1 [x0, x2, x4, x6, x15, x46] h)
  (vbin .eql 0 x15 (kI 8) h fun x47 h =>
  R 1 [x0, x2, x4, x6, x15, x47] h)))))
theorem e42_0 (O : Oracle) (R : Jump) (q : Nat) (x0 x1 x2 : TVal) (h : Heap) : b42_0 O R q x0 x1 x2 h = stepF c42 O R q 0 [x0, x1, x2] h := by kernel_rfl
noncomputable def b42_1 (O : Oracle) (R : Jump) (q : Nat) (x0 x2 x4 x6 x15 x45 : TVal) (h : Heap) : Res1 :=
  vif x45 (
  vload true 4 x4 h fun x49 h =>
  vcall O (.v (.c (.func 79 []))) [x0, x49, x2] h 51 fun x51 h =>
  vstore 6 x6 x51 h fun _ h =>
  vcell true 6 x6 h fun c0 => vfin true q [c0] h)
  (vbin .eql 0 x15 (kI 4) h fun x53 h =>
  vif x53 (
  vop O (.build [(.p (.int .i64 0)), (.p (.bool false)), (.p (.int .i64 0)), (.p (.str [])), (.p .nilslice), (.p .nilslice)] [(0, 1, (.k (kI 4)))]) h 54 fun x54 h =>
  vop O (.alloc [(.p (.int .i64 0)), (.p (.bool false)), (.p (.int .i64 0)), (.p (.str [])), (.p .nilslice), (.p .nilslice)] false) h 7 fun x7 h =>
  vstore 6 x7 x54 h fun _ h =>
  vcall O (.v (.c (.func 78 []))) [x0, x2] h 57 fun x57 h =>
  R 2 [x0, x2, x4, x6, x7, x57, (.v (.c (.p (.int .u64 0))))] h)
  (vbin .eql 0 x15 (kI 5) h fun x79 h =>
  vif x79 (
  vop O (.build [(.p (.int .i64 0)), (.p (.bool false)), (.p (.int .i64 0)), (.p (.str [])), (.p .nilslice), (.p .nilslice)] [(0, 1, (.k (kI 5)))]) h 80 fun x80 h =>
  vop O (.alloc [(.p (.int .i64 0)), (.p (.bool false)), (.p (.int .i64 0)), (.p (.str [])), (.p .nilslice), (.p .nilslice)] false) h 9 fun x9 h =>
  vstore 6 x9 x80 h fun _ h =>
  vcall O (.v (.c (.func 78 []))) [x0, x2] h 83 fun x83 h =>
  R 4 [x0, x2, x4, x6, x9, x83, (.v (.c (.p (.int .u64 0))))] h)
  (R 6 [x6] h)))
theorem e42_1 (O : Oracle) (R : Jump) (q : Nat) (x0 x2 x4 x6 x15 x45 : TVal) (h : Heap) : b42_1 O R q x0 x2 x4 x6 x15 x45 h = stepF c42 O R q 1 [x0, x2, x4, x6, x15, x45] h := by kernel_rfl
noncomputable def b42_2 (O : Oracle) (R : Jump) (q : Nat) (x0 x2 x4 x6 x7 x57 x58 : TVal) (h : Heap) : Res1 :=
  vbin .lss 0 x58 x57 h fun x59 h =>
  vif x59 (
  vtouch O (.faddr 5 (.k x7)) h 61 fun x61 h t0 =>
  vtouch O (.load false 1 (.k x61)) h 62 fun x62 h t1 =>
  vtouch O (.mv (.k x0)) h 63 fun x63 h t2 =>
  vtouch O (.load true 4 (.k x4)) h 64 fun x64 h t3 =>
  vtouch O (.call (.k (.v (.c (.func 74 [])))) [(.k x64), (.k (kI 0))]) h 65 fun x65 h t4 =>
  vtouch O (.mv (.k x0)) h 66 fun x66 h t5 =>
  vtouch O (.mv (.k x2)) h 67 fun x67 h t6 =>
  vtouch O (.bin .add 0 (.k x67) (.k (.v (.c (.p (.int .u64 1)))))) h 68 fun x68 h t7 =>
  vtouch O (.mv (.k x58)) h 69 fun x69 h t8 =>
  vtouch O (.bin .add 0 (.k x68) (.k x69)) h 70 fun x70 h t9 =>
  vtouch O (.call (.k (.v (.c (.func 78 [])))) [(.k x66), (.k x70)]) h 71 fun x71 h t10 =>
  vtouch O (.call (.k (.v (.c (.func 42 [])))) [(.k x63), (.k x65), (.k x71)]) h 72 fun x72 h t11 =>
  vtouch O (.bslice 6 1 [(.p (.int .i64 0)), (.p (.bool false)), (.p (.int .i64 0)), (.p (.str [])), (.p .nilslice), (.p .nilslice)] [(0, (.k x72))] false) h 73 fun x73 h t12 =>
  vtouch O (.append 6 88 false (.k x62) (.k x73)) h 74 fun x74 h t13 =>
  vtouch O (.faddr 5 (.k x7)) h 75 fun x75 h t14 =>
  vtouch O (.store 1 (.k x75) (.k x74)) h 1000000 fun _ h t15 =>
  bif apartAll [t0, t1, t2, t3, t4, t5, t6, t7, t8, t9, t10, t11, t12, t13, t14, t15] [(1, 4), (1, 10), (1, 11), (1, 12)] then
  vbin .add 0 x58 (.v (.c (.p (.int .u64 1)))) h fun x76 h =>
  R 2 [x0, x2, x4, x6, x7, x57, x76] h
  else none)
  (R 3 [x6, x7] h)
theorem e42_2 (O : Oracle) (R : Jump) (q : Nat) (x0 x2 x4 x6 x7 x57 x58 : TVal) (h : Heap) : b42_2 O R q x0 x2 x4 x6 x7 x57 x58 h = stepF c42 O R q 2 [x0, x2, x4, x6, x7, x57, x58] h := by kernel_rfl
noncomputable def b42_3 (O : Oracle) (R : Jump) (q : Nat) (x6 x7 : TVal) (h : Heap) : Res1 :=
  vload true 6 x7 h fun x77 h =>
  vstore 6 x6 x77 h fun _ h =>
  vcell true 6 x6 h fun c0 => vfin true q [c0] h
theorem e42_3 (O : Oracle) (R : Jump) (q : Nat) (x6 x7 : TVal) (h : Heap) : b42_3 O R q x6 x7 h = stepF c42 O R q 3 [x6, x7] h := by kernel_rfl
noncomputable def b42_4 (O : Oracle) (R : Jump) (q : Nat) (x0 x2 x4 x6 x9 x83 x84 : TVal) (h : Heap) : Res1 :=
  vbin .lss 0 x84 x83 h fun x85 h =>
  vif x85 (
  vtouch O (.faddr 4 (.k x9)) h 87 fun x87 h t0 =>
  vtouch O (.load false 1 (.k x87)) h 88 fun x88 h t1 =>
  vtouch O (.mv (.k x0)) h 89 fun x89 h t2 =>
  vtouch O (.mv (.k x0)) h 90 fun x90 h t3 =>
  vtouch O (.mv (.k x2)) h 91 fun x91 h t4 =>
  vtouch O (.bin .add 0 (.k x91) (.k (.v (.c (.p (.int .u64 1)))))) h 92 fun x92 h t5 =>
  vtouch O (.mv (.k x84)) h 93 fun x93 h t6 =>
  vtouch O (.bin .mul 0 (.k (.v (.c (.p (.int .u64 2))))) (.k x93)) h 94 fun x94 h t7 =>
  vtouch O (.bin .add 0 (.k x92) (.k x94)) h 95 fun x95 h t8 =>
  vtouch O (.call (.k (.v (.c (.func 78 [])))) [(.k x90), (.k x95)]) h 96 fun x96 h t9 =>
  vtouch O (.call (.k (.v (.c (.func 77 [])))) [(.k x89), (.k x96)]) h 97 fun x97 h t10 =>
  vtouch O (.bslice 1 1 [(.p (.str []))] [(0, (.k x97))] false) h 98 fun x98 h t11 =>
  vtouch O (.append 1 16 false (.k x88) (.k x98)) h 99 fun x99 h t12 =>
  vtouch O (.faddr 5 (.k x9)) h 100 fun x100 h t13 =>
  vtouch O (.load false 1 (.k x100)) h 101 fun x101 h t14 =>
  vtouch O (.mv (.k x0)) h 102 fun x102 h t15 =>
  vtouch O (.load true 4 (.k x4)) h 103 fun x103 h t16 =>
  vtouch O (.call (.k (.v (.c (.func 74 [])))) [(.k x103), (.k (kI 0))]) h 104 fun x104 h t17 =>
  vtouch O (.mv (.k x0)) h 105 fun x105 h t18 =>
  vtouch O (.mv (.k x2)) h 106 fun x106 h t19 =>
  vtouch O (.bin .add 0 (.k x106) (.k (.v (.c (.p (.int .u64 2)))))) h 107 fun x107 h t20 =>
  vtouch O (.mv (.k x84)) h 108 fun x108 h t21 =>
  vtouch O (.bin .mul 0 (.k (.v (.c (.p (.int .u64 2))))) (.k x108)) h 109 fun x109 h t22 =>
  vtouch O (.bin .add 0 (.k x107) (.k x109)) h 110 fun x110 h t23 =>
  vtouch O (.call (.k (.v (.c (.func 78 [])))) [(.k x105), (.k x110)]) h 111 fun x111 h t24 =>
  vtouch O (.call (.k (.v (.c (.func 42 [])))) [(.k x102), (.k x104), (.k x111)]) h 112 fun x112 h t25 =>
  vtouch O (.bslice 6 1 [(.p (.int .i64 0)), (.p (.bool false)), (.p (.int .i64 0)), (.p (.str [])), (.p .nilslice), (.p .nilslice)] [(0, (.k x112))] false) h 113 fun x113 h t26 =>
  vtouch O (.append 6 88 false (.k x101) (.k x113)) h 114 fun x114 h t27 =>
  vtouch O (.faddr 4 (.k x9)) h 115 fun x115 h t28 =>
  vtouch O (.store 1 (.k x115) (.k x99)) h 1000000 fun _ h t29 =>
  vtouch O (.faddr 5 (.k x9)) h 116 fun x116 h t30 =>
  vtouch O (.store 1 (.k x116) (.k x114)) h 1000000 fun _ h t31 =>
  bif apartAll [t0, t1, t2, t3, t4, t5, t6, t7, t8, t9, t10, t11, t12, t13, t14, t15, t16, t17, t18, t19, t20, t21, t22, t23, t24, t25, t26, t27, t28, t29, t30, t31] [(1, 9), (1, 10), (1, 11), (9, 14), (10, 14), (11, 14), (12, 14), (9, 16), (10, 16), (11, 16), (12, 16), (14, 17), (14, 24), (14, 25), (14, 26)] then
  vbin .add 0 x84 (.v (.c (.p (.int .u64 1)))) h fun x117 h =>
  R 4 [x0, x2, x4, x6, x9, x83, x117] h
  else none)
  (R 5 [x6, x9] h)
theorem e42_4 (O : Oracle) (R : Jump) (q : Nat) (x0 x2 x4 x6 x9 x83 x84 : TVal) (h : Heap) : b42_4 O R q x0 x2 x4 x6 x9 x83 x84 h = stepF c42 O R q 4 [x0, x2, x4, x6, x9, x83, x84] h := by kernel_rfl
noncomputable def b42_5 (O : Oracle) (R : Jump) (q : Nat) (x6 x9 : TVal) (h : Heap) : Res1 :=
  vload true 6 x9 h fun x118 h =>
  vstore 6 x6 x118 h fun _ h =>
  vcell true 6 x6 h fun c0 => vfin true q [c0] h
theorem e42_5 (O : Oracle) (R : Jump) (q : Nat) (x6 x9 : TVal) (h : Heap) : b42_5 O R q x6 x9 h = stepF c42 O R q 5 [x6, x9] h := by kernel_rfl
noncomputable def b42_6 (O : Oracle) (R : Jump) (q : Nat) (x6 : TVal) (h : Heap) : Res1 :=
  vop O (.build [(.p (.int .i64 0)), (.p (.bool false)), (.p (.int .i64 0)), (.p (.str [])), (.p .nilslice), (.p .nilslice)] []) h 119 fun x119 h =>
  vstore 6 x6 x119 h fun _ h =>
  vcell true 6 x6 h fun c0 => vfin true q [c0] h
theorem e42_6 (O : Oracle) (R : Jump) (q : Nat) (x6 : TVal) (h : Heap) : b42_6 O R q x6 h = stepF c42 O R q 6 [x6] h := by kernel_rfl
noncomputable def d42 : BlkF := fun O R q => [.s fun y0 => .s fun y1 => .s fun y2 => .z fun h => b42_0 O R q y0 y1 y2 h, .s fun y0 => .s fun y1 => .s fun y2 => .s fun y3 => .s fun y4 => .s fun y5 => .z fun h => b42_1 O R q y0 y1 y2 y3 y4 y5 h, .s fun y0 => .s fun y1 => .s fun y2 => .s fun y3 => .s fun y4 => .s fun y5 => .s fun y6 => .z fun h => b42_2 O R q y0 y1 y2 y3 y4 y5 y6 h, .s fun y0 => .s fun y1 => .z fun h => b42_3 O R q y0 y1 h, .s fun y0 => .s fun y1 => .s fun y2 => .s fun y3 => .s fun y4 => .s fun y5 => .s fun y6 => .z fun h => b42_4 O R q y0 y1 y2 y3 y4 y5 y6 h, .s fun y0 => .s fun y1 => .z fun h => b42_5 O R q y0 y1 h, .s fun y0 => .z fun h => b42_6 O R q y0 h]
theorem o42 (O : Oracle) (R : Jump) (q : Nat) : HoldsAll c42 O R q 0 (d42 O R q) := ⟨fun y0 y1 y2 h => e42_0 O R q y0 y1 y2 h, fun y0 y1 y2 y3 y4 y5 h => e42_1 O R q y0 y1 y2 y3 y4 y5 h, fun y0 y1 y2 y3 y4 y5 y6 h => e42_2 O R q y0 y1 y2 y3 y4 y5 y6 h, fun y0 y1 h => e42_3 O R q y0 y1 h, fun y0 y1 y2 y3 y4 y5 y6 h => e42_4 O R q y0 y1 y2 y3 y4 y5 y6 h, fun y0 y1 h => e42_5 O R q y0 y1 h, fun y0 h => e42_6 O R q y0 h, trivial⟩
/- sprue/sprueref1.Tokens -/
def c43 : MFunc := { np := 1, res := [.t 2, .t 3], frz := true, body := (.seq (.reg [⟨(some 2), (.mv (.k (.v (.c (.p .nilslice))))), none⟩, ⟨(some 3), (.mv (.k (.v (.c (.p (.int .i64 0)))))), none⟩] []) (.seq (.seq (.reg [⟨(some 9), (.mv (.t 0)), none⟩, ⟨(some 10), (.len 0 (.t 9)), none⟩, ⟨(some 11), (.bin .gtr 0 (.t 10) (.k (.v (.c (.p (.int .i64 1500)))))), none⟩] []) (.cond (.t 11) (.seq (.reg [⟨(some 2), (.mv (.k (.v (.c (.p .nilslice))))), none⟩, ⟨(some 3), (.mv (.k (.v (.c (.p (.int .i64 4)))))), none⟩] []) .ret) .skip)) (.seq (.reg [⟨(some 4), (.mv (.k (.v (.c (.p .nilslice))))), none⟩] []) (.seq (.reg [⟨(some 5), (.mv (.k (.v (.c (.p (.int .i64 0)))))), none⟩] []) (.seq (.block 0 (.loop 1 [0, 4, 5] (.seq (.seq (.reg [⟨(some 12), (.mv (.t 5)), none⟩, ⟨(some 13), (.mv (.t 0)), none⟩, ⟨(some 14), (.len 0 (.t 13)), none⟩, ⟨(some 15), (.bin .lss 0 (.t 12) (.t 14)), none⟩] []) (.cond (.t 15) .skip (.exit 0))) (.block 1 (.seq (.seq (.reg [⟨(some 16), (.mv (.t 0)), none⟩, ⟨(some 17), (.mv (.t 5)), none⟩, ⟨(some 18), (.index (.t 16) (.t 17)), none⟩, ⟨(some 19), (.call (.k (.v (.c (.func 80 [])))) [(.t 18)]), none⟩] []) (.cond (.t 19) (.seq (.reg [⟨(some 20), (.mv (.t 5)), none⟩, ⟨(some 21), (.bin .add 0 (.t 20) (.k (.v (.c (.p (.int .i64 1)))))), none⟩, ⟨(some 5), (.mv (.t 21)), none⟩] []) (.exit 1)) .skip)) (.seq (.reg [⟨(some 23), (.mv (.t 0)), none⟩, ⟨(some 24), (.mv (.t 5)), none⟩, ⟨(some 25), (.call (.k (.v (.c (.func 81 [])))) [(.t 23), (.t 24)]), none⟩, ⟨(some 22), (.mv (.t 25)), none⟩, ⟨(some 26), (.extract (.t 22) 0), none⟩, ⟨(some 27), (.extract (.t 22) 1), none⟩, ⟨(some 28), (.extract (.t 22) 2), none⟩, ⟨(some 6), (.alloc [(.p (.int .i64 0)), (.p (.str [])), (.p (.int .i64 0)), (.p (.int .i64 0))] false), none⟩, ⟨none, (.store 4 (.t 6) (.t 26)), none⟩, ⟨(some 7), (.mv (.t 27)), none⟩, ⟨(some 8), (.mv (.t 28)), none⟩] []) (.seq (.seq (.reg [⟨(some 29), (.mv (.t 8)), none⟩, ⟨(some 30), (.bin .neq 0 (.t 29) (.k (.v (.c (.p (.int .i64 0)))))), none⟩] []) (.cond (.t 30) (.seq (.reg [⟨(some 31), (.mv (.t 8)), none⟩, ⟨(some 2), (.mv (.k (.v (.c (.p .nilslice))))), none⟩, ⟨(some 3), (.mv (.t 31)), none⟩] []) .ret) .skip)) (.seq (.reg [⟨(some 32), (.mv (.t 4)), none⟩, ⟨(some 33), (.load true 4 (.t 6)), none⟩, ⟨(some 34), (.bslice 4 1 [(.p (.int .i64 0)), (.p (.str [])), (.p (.int .i64 0)), (.p (.int .i64 0))] [(0, (.t 33))] false), none⟩, ⟨(some 35), (.append 4 40 false (.t 32) (.t 34)), none⟩, ⟨(some 4), (.mv (.t 35)), none⟩] []) (.reg [⟨(some 36), (.mv (.t 7)), none⟩, ⟨(some 5), (.mv (.t 36)), none⟩] []))))))))) (.mark 2 [4] (.seq (.seq (.reg [⟨(some 37), (.mv (.t 4)), none⟩, ⟨(some 38), (.len 2 (.t 37)), none⟩, ⟨(some 39), (.bin .gtr 0 (.t 38) (.k (.v (.c (.p (.int .i64 400)))))), none⟩] []) (.cond (.t 39) (.seq (.reg [⟨(some 2), (.mv (.k (.v (.c (.p .nilslice))))), none⟩, ⟨(some 3), (.mv (.k (.v (.c (.p (.int .i64 3)))))), none⟩] []) .ret) .skip)) (.seq (.reg [⟨(some 40), (.mv (.t 4)), none⟩, ⟨(some 2), (.mv (.t 40)), none⟩, ⟨(some 3), (.mv (.k (.v (.c (.p (.int .i64 0)))))), none⟩] []) .ret)))))))) }
theorem t43 : compF Tryd.prog (globs2 tabs opq) false true Tryd.f43 = some c43.erase := by kernel_rfl
noncomputable def b43_0 (O : Oracle) (R : Jump) (q : Nat) (x0 : TVal) (h : Heap) : Res1 :=
  vlen O 0 x0 h 10 fun x10 h =>
  vbin .gtr 0 x10 (kI 1500) h fun x11 h =>
  vif x11 (
  tcomp (.v (.c (.p .nilslice))) fun c0 => tcomp (kI 4) fun c1 => vfin true q [c0, c1] h)
  (R 1 [x0, (.v (.c (.p .nilslice))), (kI 0)] h)
theorem e43_0 (O : Oracle) (R : Jump) (q : Nat) (x0 : TVal) (h : Heap) : b43_0 O R q x0 h = stepF c43 O R q 0 [x0] h := by kernel_rfl
noncomputable def b43_1 (O : Oracle) (R : Jump) (q : Nat) (x0 x4 x5 : TVal) (h : Heap) : Res1 :=
  vlen O 0 x0 h 14 fun x14 h =>
  vbin .lss 0 x5 x14 h fun x15 h =>
  vif x15 (
  vindex x0 x5 h fun x18 h =>
  vcall O (.v (.c (.func 80 []))) [x18] h 19 fun x19 h =>
  vif x19 (
  vbin .add 0 x5 (kI 1) h fun x21 h =>
  R 1 [x0, x4, x21] h)
  (vcall O (.v (.c (.func 81 []))) [x0, x5] h 25 fun x25 h =>
  vext x25 0 h fun x26 h =>
  vext x25 1 h fun x27 h =>
  vext x25 2 h fun x28 h =>
  vop O (.alloc [(.p (.int .i64 0)), (.p (.str [])), (.p (.int .i64 0)), (.p (.int .i64 0))] false) h 6 fun x6 h =>
  vstore 4 x6 x26 h fun _ h =>
  vbin .neq 0 x28 (kI 0) h fun x30 h =>
  vif x30 (
  tcomp (.v (.c (.p .nilslice))) fun c0 => tcomp x28 fun c1 => vfin true q [c0, c1] h)
  (vload true 4 x6 h fun x33 h =>
  vop O (.bslice 4 1 [(.p (.int .i64 0)), (.p (.str [])), (.p (.int .i64 0)), (.p (.int .i64 0))] [(0, (.k x33))] false) h 34 fun x34 h =>
  vop O (.append 4 40 false (.k x4) (.k x34)) h 35 fun x35 h =>
  R 1 [x0, x35, x27] h)))
  (R 2 [x4] h)
theorem e43_1 (O : Oracle) (R : Jump) (q : Nat) (x0 x4 x5 : TVal) (h : Heap) : b43_1 O R q x0 x4 x5 h = stepF c43 O R q 1 [x0, x4, x5] h := by kernel_rfl
noncomputable def b43_2 (O : Oracle) (R : Jump) (q : Nat) (x4 : TVal) (h : Heap) : Res1 :=
  vlen O 2 x4 h 38 fun x38 h =>
  vbin .gtr 0 x38 (kI 400) h fun x39 h =>
  vif x39 (
  tcomp (.v (.c (.p .nilslice))) fun c0 => tcomp (kI 3) fun c1 => vfin true q [c0, c1] h)
  (tcomp x4 fun c0 => tcomp (kI 0) fun c1 => vfin true q [c0, c1] h)
theorem e43_2 (O : Oracle) (R : Jump) (q : Nat) (x4 : TVal) (h : Heap) : b43_2 O R q x4 h = stepF c43 O R q 2 [x4] h := by kernel_rfl
noncomputable def d43 : BlkF := fun O R q => [.s fun y0 => .z fun h => b43_0 O R q y0 h, .s fun y0 => .s fun y1 => .s fun y2 => .z fun h => b43_1 O R q y0 y1 y2 h, .s fun y0 => .z fun h => b43_2 O R q y0 h]
theorem o43 (O : Oracle) (R : Jump) (q : Nat) : HoldsAll c43 O R q 0 (d43 O R q) := ⟨fun y0 h => e43_0 O R q y0 h, fun y0 y1 y2 h => e43_1 O R q y0 y1 y2 h, fun y0 h => e43_2 O R q y0 h, trivial⟩
/- (*sprue/sprueref3.reader).eat -/
def c44 : MFunc := { np := 2, res := [], frz := true, body := (.seq (.seq (.reg [⟨(some 4), (.mv (.t 0)), none⟩, ⟨(some 5), (.mv (.t 1)), none⟩, ⟨(some 6), (.call (.k (.v (.c (.func 46 [])))) [(.t 4), (.t 5)]), none⟩] []) (.cond (.t 6) (.seq (.reg [⟨(some 7), (.mv (.t 0)), none⟩, ⟨(some 8), (.nilck (.t 7)), none⟩, ⟨(some 9), (.faddr 1 (.t 8)), none⟩, ⟨(some 10), (.load false 1 (.t 9)), none⟩, ⟨(some 11), (.bin .add 0 (.t 10) (.k (.v (.c (.p (.int .i64 1)))))), none⟩, ⟨(some 12), (.nilck (.t 7)), none⟩, ⟨(some 13), (.faddr 1 (.t 12)), none⟩, ⟨none, (.store 1 (.t 13) (.t 11)), none⟩] []) .ret) .skip)) (.reg [⟨(some 14), (.mv (.t 0)), none⟩, ⟨(some 15), (.call (.k (.v (.c (.func 82 [])))) [(.t 14), (.k (.v (.c (.p (.int .i64 12)))))]), none⟩] [])) }
theorem t44 : compF Tryd.prog (globs2 tabs opq) false true Tryd.f44 = some c44.erase := by kernel_rfl
noncomputable def b44_0 (O : Oracle) (R : Jump) (q : Nat) (x0 x1 : TVal) (h : Heap) : Res1 :=
  vcall O (.v (.c (.func 46 []))) [x0, x1] h 6 fun x6 h =>
  vif x6 (
  vop O (.nilck (.k x0)) h 8 fun x8 h =>
  vfaddr 1 x8 h fun x9 h =>
  vload false 1 x9 h fun x10 h =>
  vbin .add 0 x10 (kI 1) h fun x11 h =>
  vop O (.nilck (.k x0)) h 12 fun x12 h =>
  vfaddr 1 x12 h fun x13 h =>
  vstore 1 x13 x11 h fun _ h =>
  vfin true q [] h)
  (vcall O (.v (.c (.func 82 []))) [x0, (kI 12)] h 15 fun x15 h =>
  vfin true q [] h)
theorem e44_0 (O : Oracle) (R : Jump) (q : Nat) (x0 x1 : TVal) (h : Heap) : b44_0 O R q x0 x1 h = stepF c44 O R q 0 [x0, x1] h := by kernel_rfl
noncomputable def d44 : BlkF := fun O R q => [.s fun y0 => .s fun y1 => .z fun h => b44_0 O R q y0 y1 h]
theorem o44 (O : Oracle) (R : Jump) (q : Nat) : HoldsAll c44 O R q 0 (d44 O R q) := ⟨fun y0 y1 h => e44_0 O R q y0 y1 h, trivial⟩
/- (*sprue/sprueref3.reader).typ -/
def c45 : MFunc := { np := 2, res := [.cell 4 true 4], frz := true, body := (.seq (.reg [⟨(some 4), (.alloc [(.p (.int .i64 0)), (.p (.str [])), (.p .nilslice), (.p .nilslice)] false), none⟩] []) (.seq (.seq (.reg [⟨(some 6), (.mv (.t 0)), none⟩, ⟨(some 7), (.nilck (.t 6)), none⟩, ⟨(some 8), (.faddr 2 (.t 7)), none⟩, ⟨(some 9), (.load false 1 (.t 8)), none⟩, ⟨(some 10), (.bin .neq 0 (.t 9) (.k (.v (.c (.p (.int .i64 0)))))), none⟩, ⟨(some 11), (.mv (.t 10)), none⟩, ⟨(some 12), (.mv (.t 0)), (some (11, false))⟩, ⟨(some 13), (.nilck (.t 12)), (some (11, false))⟩, ⟨(some 14), (.faddr 1 (.t 13)), (some (11, false))⟩, ⟨(some 15), (.load false 1 (.t 14)), (some (11, false))⟩, ⟨(some 16), (.mv (.t 0)), (some (11, false))⟩, ⟨(some 17), (.nilck (.t 16)), (some (11, false))⟩, ⟨(some 18), (.faddr 0 (.t 17)), (some (11, false))⟩, ⟨(some 19), (.load false 1 (.t 18)), (some (11, false))⟩, ⟨(some 20), (.len 2 (.t 19)), (some (11, false))⟩, ⟨(some 21), (.bin .geq 0 (.t 15) (.t 20)), (some (11, false))⟩, ⟨(some 22), (.pick (.t 11) (.k (.v (.c (.p (.bool true))))) (.t 21)), none⟩, ⟨(some 23), (.mv (.t 22)), none⟩, ⟨(some 24), (.mv (.t 0)), (some (23, false))⟩, ⟨(some 25), (.nilck (.t 24)), (some (23, false))⟩, ⟨(some 26), (.faddr 0 (.t 25)), (some (23, false))⟩, ⟨(some 27), (.load false 1 (.t 26)), (some (23, false))⟩, ⟨(some 28), (.mv (.t 0)), (some (23, false))⟩, ⟨(some 29), (.nilck (.t 28)), (some (23, false))⟩, ⟨(some 30), (.faddr 1 (.t 29)), (some (23, false))⟩, ⟨(some 31), (.load false 1 (.t 30)), (some (23, false))⟩, ⟨(some 32), (.iaddr 4 (.t 27) (.t 31)), (some (23, false))⟩, ⟨(some 33), (.faddr 0 (.t 32)), (some (23, false))⟩, ⟨(some 34), (.load false 1 (.t 33)), (some (23, false))⟩, ⟨(some 35), (.bin .neq 0 (.t 34) (.k (.v (.c (.p (.int .i64 1)))))), (some (23, false))⟩, ⟨(some 36), (.mv (.t 35)), (some (23, false))⟩, ⟨(some 37), (.mv (.t 0)), (some (36, true))⟩, ⟨(some 38), (.call (.k (.v (.c (.func 46 [])))) [(.t 37), (.k (.v (.c (.p (.str [123])))))]), (some (36, true))⟩, ⟨(some 39), (.un .not (.t 38)), (some (36, true))⟩, ⟨(some 40), (.pick (.t 36) (.t 39) (.k (.v (.c (.p (.bool false)))))), (some (23, false))⟩, ⟨(some 41), (.pick (.t 23) (.k (.v (.c (.p (.bool true))))) (.t 40)), none⟩] []) (.cond (.t 41) (.seq (.reg [⟨(some 42), (.mv (.t 0)), none⟩, ⟨(some 43), (.call (.k (.v (.c (.func 82 [])))) [(.t 42), (.k (.v (.c (.p (.int .i64 12)))))]), none⟩] []) (.seq (.reg [⟨(some 44), (.build [(.p (.int .i64 0)), (.p (.str [])), (.p .nilslice), (.p .nilslice)] []), none⟩, ⟨none, (.store 4 (.t 4) (.t 44)), none⟩] []) .ret)) .skip)) (.seq (.seq (.reg [⟨(some 45), (.mv (.t 1)), none⟩, ⟨(some 46), (.bin .gtr 0 (.t 45) (.k (.v (.c (.p (.int .i64 12)))))), none⟩] []) (.cond (.t 46) (.seq (.reg [⟨(some 47), (.mv (.t 0)), none⟩, ⟨(some 48), (.call (.k (.v (.c (.func 82 [])))) [(.t 47), (.k (.v (.c (.p (.int .i64 13)))))]), none⟩] []) (.seq (.reg [⟨(some 49), (.build [(.p (.int .i64 0)), (.p (.str [])), (.p .nilslice), (.p .nilslice)] []), none⟩, ⟨none, (.store 4 (.t 4) (.t 49)), none⟩] []) .ret)) .skip)) (.seq (.seq (.reg [⟨(some 50), (.mv (.t 0)), none⟩, ⟨(some 51), (.call (.k (.v (.c (.func 46 [])))) [(.t 50), (.k (.v (.c (.p (.str [123])))))]), none⟩] []) (.cond (.t 51) (.seq (.reg [⟨(some 52), (.mv (.t 0)), none⟩, ⟨(some 53), (.mv (.t 1)), none⟩, ⟨(some 54), (.call (.k (.v (.c (.func 83 [])))) [(.t 52), (.k (.v (.c (.p (.int .i64 7))))), (.t 53)]), none⟩, ⟨none, (.store 4 (.t 4) (.t 54)), none⟩] []) .ret) .skip)) (.seq (.reg [⟨(some 55), (.mv (.t 0)), none⟩, ⟨(some 56), (.call (.k (.v (.c (.func 48 [])))) [(.t 55)]), none⟩, ⟨(some 5), (.mv (.t 56)), none⟩] []) (.seq (.seq (.reg [⟨(some 57), (.mv (.t 5)), none⟩] []) (.block 0 (.seq (.reg [⟨(some 59), (.bin .eql 0 (.t 57) (.k (.v (.c (.p (.str [66, 111, 111, 108])))))), none⟩, ⟨(some 58), (.mv (.t 59)), none⟩] []) (.cond (.t 58) (.seq (.reg [⟨(some 60), (.build [(.p (.int .i64 0)), (.p (.str [])), (.p .nilslice), (.p .nilslice)] [(0, 1, (.k (.v (.c (.p (.int .i64 1))))))]), none⟩, ⟨none, (.store 4 (.t 4) (.t 60)), none⟩] []) .ret) (.seq (.reg [⟨(some 62), (.bin .eql 0 (.t 57) (.k (.v (.c (.p (.str [73, 110, 116])))))), none⟩, ⟨(some 61), (.mv (.t 62)), none⟩] []) (.cond (.t 61) (.seq (.reg [⟨(some 63), (.build [(.p (.int .i64 0)), (.p (.str [])), (.p .nilslice), (.p .nilslice)] [(0, 1, (.k (.v (.c (.p (.int .i64 2))))))]), none⟩, ⟨none, (.store 4 (.t 4) (.t 63)), none⟩] []) .ret) (.seq (.reg [⟨(some 65), (.bin .eql 0 (.t 57) (.k (.v (.c (.p (.str [84, 101, 120, 116])))))), none⟩, ⟨(some 64), (.mv (.t 65)), none⟩] []) (.cond (.t 64) (.seq (.reg [⟨(some 66), (.build [(.p (.int .i64 0)), (.p (.str [])), (.p .nilslice), (.p .nilslice)] [(0, 1, (.k (.v (.c (.p (.int .i64 3))))))]), none⟩, ⟨none, (.store 4 (.t 4) (.t 66)), none⟩] []) .ret) (.seq (.reg [⟨(some 68), (.bin .eql 0 (.t 57) (.k (.v (.c (.p (.str [76, 105, 115, 116])))))), none⟩, ⟨(some 67), (.mv (.t 68)), none⟩] []) (.cond (.t 67) (.seq (.reg [⟨(some 69), (.mv (.t 0)), none⟩, ⟨(some 70), (.mv (.t 1)), none⟩, ⟨(some 71), (.call (.k (.v (.c (.func 84 [])))) [(.t 69), (.k (.v (.c (.p (.int .i64 4))))), (.t 70)]), none⟩, ⟨none, (.store 4 (.t 4) (.t 71)), none⟩] []) .ret) (.seq (.reg [⟨(some 73), (.bin .eql 0 (.t 57) (.k (.v (.c (.p (.str [77, 97, 112])))))), none⟩, ⟨(some 72), (.mv (.t 73)), none⟩] []) (.cond (.t 72) (.seq (.reg [⟨(some 74), (.mv (.t 0)), none⟩, ⟨(some 75), (.mv (.t 1)), none⟩, ⟨(some 76), (.call (.k (.v (.c (.func 84 [])))) [(.t 74), (.k (.v (.c (.p (.int .i64 5))))), (.t 75)]), none⟩, ⟨none, (.store 4 (.t 4) (.t 76)), none⟩] []) .ret) (.seq (.reg [⟨(some 78), (.bin .eql 0 (.t 57) (.k (.v (.c (.p (.str [79, 112, 116])))))), none⟩, ⟨(some 77), (.mv (.t 78)), none⟩] []) (.cond (.t 77) (.seq (.reg [⟨(some 79), (.mv (.t 0)), none⟩, ⟨(some 80), (.mv (.t 1)), none⟩, ⟨(some 81), (.call (.k (.v (.c (.func 84 [])))) [(.t 79), (.k (.v (.c (.p (.int .i64 6))))), (.t 80)]), none⟩, ⟨none, (.store 4 (.t 4) (.t 81)), none⟩] []) .ret) (.seq (.reg [⟨(some 83), (.bin .eql 0 (.t 57) (.k (.v (.c (.p (.str [85, 110, 105, 111, 110])))))), none⟩, ⟨(some 82), (.mv (.t 83)), none⟩] []) (.cond (.t 82) (.seq (.seq (.reg [⟨(some 84), (.mv (.t 0)), none⟩, ⟨(some 85), (.call (.k (.v (.c (.func 46 [])))) [(.t 84), (.k (.v (.c (.p (.str [123])))))]), none⟩, ⟨(some 86), (.un .not (.t 85)), none⟩] []) (.cond (.t 86) (.seq (.reg [⟨(some 87), (.mv (.t 0)), none⟩, ⟨(some 88), (.call (.k (.v (.c (.func 82 [])))) [(.t 87), (.k (.v (.c (.p (.int .i64 12)))))]), none⟩] []) (.seq (.reg [⟨(some 89), (.build [(.p (.int .i64 0)), (.p (.str [])), (.p .nilslice), (.p .nilslice)] []), none⟩, ⟨none, (.store 4 (.t 4) (.t 89)), none⟩] []) .ret)) .skip)) (.seq (.reg [⟨(some 90), (.mv (.t 0)), none⟩, ⟨(some 91), (.mv (.t 1)), none⟩, ⟨(some 92), (.call (.k (.v (.c (.func 83 [])))) [(.t 90), (.k (.v (.c (.p (.int .i64 8))))), (.t 91)]), none⟩, ⟨none, (.store 4 (.t 4) (.t 92)), none⟩] []) .ret)) .skip)))))))))))))))) (.seq (.reg [⟨(some 93), (.mv (.t 5)), none⟩, ⟨(some 94), (.build [(.p (.int .i64 0)), (.p (.str [])), (.p .nilslice), (.p .nilslice)] [(0, 1, (.k (.v (.c (.p (.int .i64 9)))))), (1, 1, (.t 93))]), none⟩, ⟨none, (.store 4 (.t 4) (.t 94)), none⟩] []) .ret))))))) }
theorem t45 : compF Tryd.prog (globs2 tabs opq) false true Tryd.f45 = some c45.erase := by kernel_rfl
noncomputable def b45_0 (O : Oracle) (R : Jump) (q : Nat) (x0 x1 : TVal) (h : Heap) : Res1 :=
  vop O (.alloc [(.p (.int .i64 0)), (.p (.str [])), (.p .nilslice), (.p .nilslice)] false) h 4 fun x4 h =>
  vop O (.nilck (.k x0)) h 7 fun x7 h =>
  vfaddr 2 x7 h fun x8 h =>
  vload false 1 x8 h fun x9 h =>
  vbin .neq 0 x9 (kI 0) h fun x10 h =>
  vguard x10 false (fun kk => kk x0 h) h fun x12 h =>
  vguard x10 false (fun kk => vop O (.nilck (.k x12)) h 13 kk) h fun x13 h =>
  vguard x10 false (fun kk => vfaddr 1 x13 h kk) h fun x14 h =>
  vguard x10 false (fun kk => vload false 1 x14 h kk) h fun x15 h =>
  vguard x10 false (fun kk => kk x0 h) h fun x16 h =>
  vguard x10 false (fun kk => vop O (.nilck (.k x16)) h 17 kk) h fun x17 h =>
  vguard x10 false (fun kk => vfaddr 0 x17 h kk) h fun x18 h =>
  vguard x10 false (fun kk => vload false 1 x18 h kk) h fun x19 h =>
  vguard x10 false (fun kk => vlen O 2 x19 h 20 kk) h fun x20 h =>
  vguard x10 false (fun kk => vbin .geq 0 x15 x20 h kk) h fun x21 h =>
  vop O (.pick (.k x10) (.k (kB true)) (.k x21)) h 22 fun x22 h =>
  vguard x22 false (fun kk => kk x0 h) h fun x24 h =>
  vguard x22 false (fun kk => vop O (.nilck (.k x24)) h 25 kk) h fun x25 h =>
  vguard x22 false (fun kk => vfaddr 0 x25 h kk) h fun x26 h =>
  vguard x22 false (fun kk => vload false 1 x26 h kk) h fun x27 h =>
  vguard x22 false (fun kk => kk x0 h) h fun x28 h =>
  vguard x22 false (fun kk => vop O (.nilck (.k x28)) h 29 kk) h fun x29 h =>
  vguard x22 false (fun kk => vfaddr 1 x29 h kk) h fun x30 h =>
  vguard x22 false (fun kk => vload false 1 x30 h kk) h fun x31 h =>
  vguard x22 false (fun kk => viaddr 4 x27 x31 h kk) h fun x32 h =>
  vguard x22 false (fun kk => vfaddr 0 x32 h kk) h fun x33 h =>
  vguard x22 false (fun kk => vload false 1 x33 h kk) h fun x34 h =>
  vguard x22 false (fun kk => vbin .neq 0 x34 (kI 1) h kk) h fun x35 h =>
  vguard x22 false (fun kk => kk x35 h) h fun x36 h =>
  vguard x36 true (fun kk => kk x0 h) h fun x37 h =>
  vguard x36 true (fun kk => vcall O (.v (.c (.func 46 []))) [x37, (kS [123])] h 38 kk) h fun x38 h =>
  vguard x36 true (fun kk => vop O (.un .not (.k x38)) h 39 kk) h fun x39 h =>
  vguard x22 false (fun kk => vop O (.pick (.k x36) (.k x39) (.k (kB false))) h 40 kk) h fun x40 h =>
  vop O (.pick (.k x22) (.k (kB true)) (.k x40)) h 41 fun x41 h =>
  vif x41 (
  vcall O (.v (.c (.func 82 []))) [x0, (kI 12)] h 43 fun x43 h =>
  vop O (.build [(.p (.int .i64 0)), (.p (.str [])), (.p .nilslice), (.p .nilslice)] []) h 44 fun x44 h =>
  vstore 4 x4 x44 h fun _ h =>
  vcell true 4 x4 h fun c0 => vfin true q [c0] h)
  (vbin .gtr 0 x1 (kI 12) h fun x46 h =>
  vif x46 (
  vcall O (.v (.c (.func 82 []))) [x0, (kI 13)] h 48 fun x48 h =>
  vop O (.build [(.p (.int .i64 0)), (.p (.str [])), (.p .nilslice), (.p .nilslice)] []) h 49 fun x49 h =>
  vstore 4 x4 x49 h fun _ h =>
  vcell true 4 x4 h fun c0 => vfin true q [c0] h)
  (vcall O (.v (.c (.func 46 []))) [x0, (kS [123])] h 51 fun x51 h =>
  vif x51 (
  vcall O (.v (.c (.func 83 []))) [x0, (kI 7), x1] h 54 fun x54 h =>
  vstore 4 x4 x54 h fun _ h =>
  vcell true 4 x4 h fun c0 => vfin true q [c0] h)
  (vcall O (.v (.c (.func 48 []))) [x0] h 56 fun x56 h =>
  vbin .eql 0 x56 (kS [66, 111, 111, 108]) h fun x59 h =>
  vif x59 (
  vop O (.build [(.p (.int .i64 0)), (.p (.str [])), (.p .nilslice), (.p .nilslice)] [(0, 1, (.k (kI 1)))]) h 60 fun x60 h =>
  vstore 4 x4 x60 h fun _ h =>
  vcell true 4 x4 h fun c0 => vfin true q [c0] h)
  (vbin .eql 0 x56 (kS [73, 110, 116]) h fun x62 h =>
  vif x62 (
  vop O (.build [(.p (.int .i64 0)), (.p (.str [])), (.p .nilslice), (.p .nilslice)] [(0, 1, (.k (kI 2)))]) h 63 fun x63 h =>
  vstore 4 x4 x63 h fun _ h =>
  vcell true 4 x4 h fun c0 => vfin true q [c0] h)
  (vbin .eql 0 x56 (kS [84, 101, 120, 116]) h fun x65 h =>
  vif x65 (
  vop O (.build [(.p (.int .i64 0)), (.p (.str [])), (.p .nilslice), (.p .nilslice)] [(0, 1, (.k (kI 3)))]) h 66 fun x66 h =>
  vstore 4 x4 x66 h fun _ h =>
  vcell true 4 x4 h fun c0 => vfin true q [c0] h)
  (vbin .eql 0 x56 (kS [76, 105, 115, 116]) h fun x68 h =>
  vif x68 (
  vcall O (.v (.c (.func 84 []))) [x0, (kI 4), x1] h 71 fun x71 h =>
  vstore 4 x4 x71 h fun _ h =>
  vcell true 4 x4 h fun c0 => vfin true q [c0] h)
  (vbin .eql 0 x56 (kS [77, 97, 112]) h fun x73 h =>
  vif x73 (
  vcall O (.v (.c (.func 84 []))) [x0, (kI 5), x1] h 76 fun x76 h =>
  vstore 4 x4 x76 h fun _ h =>
  vcell true 4 x4 h fun c0 => vfin true q [c0] h)
  (vbin .eql 0 x56 (kS [79, 112, 116]) h fun x78 h =>
  vif x78 (
  vcall O (.v (.c (.func 84 []))) [x0, (kI 6), x1] h 81 fun x81 h =>
  vstore 4 x4 x81 h fun _ h =>
  vcell true 4 x4 h fun c0 => vfin true q [c0] h)
  (vbin .eql 0 x56 (kS [85, 110, 105, 111, 110]) h fun x83 h =>
  vif x83 (
  vcall O (.v (.c (.func 46 []))) [x0, (kS [123])] h 85 fun x85 h =>
  vop O (.un .not (.k x85)) h 86 fun x86 h =>
  vif x86 (
  vcall O (.v (.c (.func 82 []))) [x0, (kI 12)] h 88 fun x88 h =>
  vop O (.build [(.p (.int .i64 0)), (.p (.str [])), (.p .nilslice), (.p .nilslice)] []) h 89 fun x89 h =>
  vstore 4 x4 x89 h fun _ h =>
  vcell true 4 x4 h fun c0 => vfin true q [c0] h)
  (vcall O (.v (.c (.func 83 []))) [x0, (kI 8), x1] h 92 fun x92 h =>
  vstore 4 x4 x92 h fun _ h =>
  vcell true 4 x4 h fun c0 => vfin true q [c0] h))
  (vop O (.build [(.p (.int .i64 0)), (.p (.str [])), (.p .nilslice), (.p .nilslice)] [(0, 1, (.k (kI 9))), (1, 1, (.k x56))]) h 94 fun x94 h =>
  vstore 4 x4 x94 h fun _ h =>
  vcell true 4 x4 h fun c0 => vfin true q [c0] h))))))))))
theorem e45_0 (O : Oracle) (R : Jump) (q : Nat) (x0 x1 : TVal) (h : Heap) : b45_0 O R q x0 x1 h = stepF c45 O R q 0 [x0, x1] h := by kernel_rfl
noncomputable def d45 : BlkF := fun O R q => [.s fun y0 => .s fun y1 => .z fun h => b45_0 O R q y0 y1 h]
theorem o45 (O : Oracle) (R : Jump) (q : Nat) : HoldsAll c45 O R q 0 (d45 O R q) := ⟨fun y0 y1 h => e45_0 O R q y0 y1 h, trivial⟩
/- (*sprue/sprueref3.reader).is -/
def c46 : MFunc := { np := 2, res := [.t 4], frz := true, body := (.seq (.reg [⟨(some 4), (.mv (.k (.v (.c (.p (.bool false)))))), none⟩] []) (.seq (.reg [⟨(some 5), (.mv (.t 0)), none⟩, ⟨(some 6), (.nilck (.t 5)), none⟩, ⟨(some 7), (.faddr 2 (.t 6)), none⟩, ⟨(some 8), (.load false 1 (.t 7)), none⟩, ⟨(some 9), (.bin .eql 0 (.t 8) (.k (.v (.c (.p (.int .i64 0)))))), none⟩, ⟨(some 10), (.mv (.t 9)), none⟩, ⟨(some 11), (.mv (.t 0)), (some (10, true))⟩, ⟨(some 12), (.nilck (.t 11)), (some (10, true))⟩, ⟨(some 13), (.faddr 1 (.t 12)), (some (10, true))⟩, ⟨(some 14), (.load false 1 (.t 13)), (some (10, true))⟩, ⟨(some 15), (.mv (.t 0)), (some (10, true))⟩, ⟨(some 16), (.nilck (.t 15)), (some (10, true))⟩, ⟨(some 17), (.faddr 0 (.t 16)), (some (10, true))⟩, ⟨(some 18), (.load false 1 (.t 17)), (some (10, true))⟩, ⟨(some 19), (.len 2 (.t 18)), (some (10, true))⟩, ⟨(some 20), (.bin .lss 0 (.t 14) (.t 19)), (some (10, true))⟩, ⟨(some 21), (.pick (.t 10) (.t 20) (.k (.v (.c (.p (.bool false)))))), none⟩, ⟨(some 22), (.mv (.t 21)), none⟩, ⟨(some 23), (.mv (.t 0)), (some (22, true))⟩, ⟨(some 24), (.nilck (.t 23)), (some (22, true))⟩, ⟨(some 25), (.faddr 0 (.t 24)), (some (22, true))⟩, ⟨(some 26), (.load false 1 (.t 25)), (some (22, true))⟩, ⟨(some 27), (.mv (.t 0)), (some (22, true))⟩, ⟨(some 28), (.nilck (.t 27)), (some (22, true))⟩, ⟨(some 29), (.faddr 1 (.t 28)), (some (22, true))⟩, ⟨(some 30), (.load false 1 (.t 29)), (some (22, true))⟩, ⟨(some 31), (.iaddr 4 (.t 26) (.t 30)), (some (22, true))⟩, ⟨(some 32), (.faddr 1 (.t 31)), (some (22, true))⟩, ⟨(some 33), (.load false 1 (.t 32)), (some (22, true))⟩, ⟨(some 34), (.mv (.t 1)), (some (22, true))⟩, ⟨(some 35), (.bin .eql 0 (.t 33) (.t 34)), (some (22, true))⟩, ⟨(some 36), (.pick (.t 22) (.t 35) (.k (.v (.c (.p (.bool false)))))), none⟩, ⟨(some 37), (.mv (.t 36)), none⟩, ⟨(some 38), (.mv (.t 0)), (some (37, true))⟩, ⟨(some 39), (.nilck (.t 38)), (some (37, true))⟩, ⟨(some 40), (.faddr 0 (.t 39)), (some (37, true))⟩, ⟨(some 41), (.load false 1 (.t 40)), (some (37, true))⟩, ⟨(some 42), (.mv (.t 0)), (some (37, true))⟩, ⟨(some 43), (.nilck (.t 42)), (some (37, true))⟩, ⟨(some 44), (.faddr 1 (.t 43)), (some (37, true))⟩, ⟨(some 45), (.load false 1 (.t 44)), (some (37, true))⟩, ⟨(some 46), (.iaddr 4 (.t 41) (.t 45)), (some (37, true))⟩, ⟨(some 47), (.faddr 0 (.t 46)), (some (37, true))⟩, ⟨(some 48), (.load false 1 (.t 47)), (some (37, true))⟩, ⟨(some 49), (.bin .neq 0 (.t 48) (.k (.v (.c (.p (.int .i64 2)))))), (some (37, true))⟩, ⟨(some 50), (.pick (.t 37) (.t 49) (.k (.v (.c (.p (.bool false)))))), none⟩, ⟨(some 4), (.mv (.t 50)), none⟩] []) .ret)) }
theorem t46 : compF Tryd.prog (globs2 tabs opq) false true Tryd.f46 = some c46.erase := by kernel_rfl
noncomputable def b46_0 (O : Oracle) (R : Jump) (q : Nat) (x0 x1 : TVal) (h : Heap) : Res1 :=
  vop O (.nilck (.k x0)) h 6 fun x6 h =>
  vfaddr 2 x6 h fun x7 h =>
  vload false 1 x7 h fun x8 h =>
  vbin .eql 0 x8 (kI 0) h fun x9 h =>
  vguard x9 true (fun kk => kk x0 h) h fun x11 h =>
  vguard x9 true (fun kk => vop O (.nilck (.k x11)) h 12 kk) h fun x12 h =>
  vguard x9 true (fun kk => vfaddr 1 x12 h kk) h fun x13 h =>
  vguard x9 true (fun kk => vload false 1 x13 h kk) h fun x14 h =>
  vguard x9 true (fun kk => kk x0 h) h fun x15 h =>
  vguard x9 true (fun kk => vop O (.nilck (.k x15)) h 16 kk) h fun x16 h =>
  vguard x9 true (fun kk => vfaddr 0 x16 h kk) h fun x17 h =>
  vguard x9 true (fun kk => vload false 1 x17 h kk) h fun x18 h =>
  vguard x9 true (fun kk => vlen O 2 x18 h 19 kk) h fun x19 h =>
  vguard x9 true (fun kk => vbin .lss 0 x14 x19 h kk) h fun x20 h =>
  vop O (.pick (.k x9) (.k x20) (.k (kB false))) h 21 fun x21 h =>
  vguard x21 true (fun kk => kk x0 h) h fun x23 h =>
  vguard x21 true (fun kk => vop O (.nilck (.k x23)) h 24 kk) h fun x24 h =>
  vguard x21 true (fun kk => vfaddr 0 x24 h kk) h fun x25 h =>
  vguard x21 true (fun kk => vload false 1 x25 h kk) h fun x26 h =>
  vguard x21 true (fun kk => kk x0 h) h fun x27 h =>
  vguard x21 true (fun kk => vop O (.nilck (.k x27)) h 28 kk) h fun x28 h =>
  vguard x21 true (fun kk => vfaddr 1 x28 h kk) h fun x29 h =>
  vguard x21 true (fun kk => vload false 1 x29 h kk) h fun x30 h =>
  vguard x21 true (fun kk => viaddr 4 x26 x30 h kk) h fun x31 h =>
  vguard x21 true (fun kk => vfaddr 1 x31 h kk) h fun x32 h =>
  vguard x21 true (fun kk => vload false 1 x32 h kk) h fun x33 h =>
  vguard x21 true (fun kk => kk x1 h) h fun x34 h =>
  vguard x21 true (fun kk => vbin .eql 0 x33 x34 h kk) h fun x35 h =>
  vop O (.pick (.k x21) (.k x35) (.k (kB false))) h 36 fun x36 h =>
  vguard x36 true (fun kk => kk x0 h) h fun x38 h =>
  vguard x36 true (fun kk => vop O (.nilck (.k x38)) h 39 kk) h fun x39 h =>
  vguard x36 true (fun kk => vfaddr 0 x39 h kk) h fun x40 h =>
  vguard x36 true (fun kk => vload false 1 x40 h kk) h fun x41 h =>
  vguard x36 true (fun kk => kk x0 h) h fun x42 h =>
  vguard x36 true (fun kk => vop O (.nilck (.k x42)) h 43 kk) h fun x43 h =>
  vguard x36 true (fun kk => vfaddr 1 x43 h kk) h fun x44 h =>
  vguard x36 true (fun kk => vload false 1 x44 h kk) h fun x45 h =>
  vguard x36 true (fun kk => viaddr 4 x41 x45 h kk) h fun x46 h =>
  vguard x36 true (fun kk => vfaddr 0 x46 h kk) h fun x47 h =>
  vguard x36 true (fun kk => vload false 1 x47 h kk) h fun x48 h =>
  vguard x36 true (fun kk => vbin .neq 0 x48 (kI 2) h kk) h fun x49 h =>
  vop O (.pick (.k x36) (.k x49) (.k (kB false))) h 50 fun x50 h =>
  tcomp x50 fun c0 => vfin true q [c0] h
theorem e46_0 (O : Oracle) (R : Jump) (q : Nat) (x0 x1 : TVal) (h : Heap) : b46_0 O R q x0 x1 h = stepF c46 O R q 0 [x0, x1] h := by kernel_rfl
noncomputable def d46 : BlkF := fun O R q => [.s fun y0 => .s fun y1 => .z fun h => b46_0 O R q y0 y1 h]
theorem o46 (O : Oracle) (R : Jump) (q : Nat) : HoldsAll c46 O R q 0 (d46 O R q) := ⟨fun y0 y1 h => e46_0 O R q y0 y1 h, trivial⟩
/- (*sprue/sprueref3.reader).fn -/
def c47 : MFunc := { np := 1, res := [.cell 2 true 6], frz := true, body := (.seq (.reg [⟨(some 2), (.alloc [(.p (.str [])), (.p .nilslice), (.p (.int .i64 0)), (.p (.str [])), (.p .nilslice), (.p .nilslice)] false), none⟩] []) (.seq (.reg [⟨(some 4), (.mv (.t 0)), none⟩, ⟨(some 5), (.call (.k (.v (.c (.func 48 [])))) [(.t 4)]), none⟩, ⟨(some 6), (.build [(.p (.str [])), (.p .nilslice), (.p (.int .i64 0)), (.p (.str [])), (.p .nilslice), (.p .nilslice)] [(0, 1, (.t 5))]), none⟩, ⟨(some 3), (.alloc [(.p (.str [])), (.p .nilslice), (.p (.int .i64 0)), (.p (.str [])), (.p .nilslice), (.p .nilslice)] false), none⟩, ⟨none, (.store 6 (.t 3) (.t 6)), none⟩] []) (.seq (.reg [⟨(some 7), (.mv (.t 0)), none⟩, ⟨(some 8), (.call (.k (.v (.c (.func 44 [])))) [(.t 7), (.k (.v (.c (.p (.str [40])))))]), none⟩] []) (.seq (.seq (.reg [⟨(some 9), (.mv (.t 0)), none⟩, ⟨(some 10), (.call (.k (.v (.c (.func 46 [])))) [(.t 9), (.k (.v (.c (.p (.str [41])))))]), none⟩, ⟨(some 11), (.un .not (.t 10)), none⟩] []) (.cond (.t 11) (.seq (.reg [⟨(some 12), (.faddr 1 (.t 3)), none⟩, ⟨(some 13), (.load false 1 (.t 12)), none⟩, ⟨(some 14), (.mv (.t 0)), none⟩, ⟨(some 15), (.call (.k (.v (.c (.func 45 [])))) [(.t 14), (.k (.v (.c (.p (.int .i64 1)))))]), none⟩, ⟨(some 16), (.bslice 4 1 [(.p (.int .i64 0)), (.p (.str [])), (.p .nilslice), (.p .nilslice)] [(0, (.t 15))] false), none⟩, ⟨(some 17), (.append 4 72 false (.t 13) (.t 16)), none⟩, ⟨(some 18), (.faddr 1 (.t 3)), none⟩, ⟨none, (.store 1 (.t 18) (.t 17)), none⟩] [(1, 3), (1, 4)]) (.block 0 (.loop 1 [0, 2, 3] (.seq (.seq (.reg [⟨(some 19), (.mv (.t 0)), none⟩, ⟨(some 20), (.call (.k (.v (.c (.func 46 [])))) [(.t 19), (.k (.v (.c (.p (.str [44])))))]), none⟩] []) (.cond (.t 20) .skip (.exit 0))) (.block 1 (.seq (.reg [⟨(some 21), (.mv (.t 0)), none⟩, ⟨(some 22), (.call (.k (.v (.c (.func 44 [])))) [(.t 21), (.k (.v (.c (.p (.str [44])))))]), none⟩] []) (.reg [⟨(some 23), (.faddr 1 (.t 3)), none⟩, ⟨(some 24), (.load false 1 (.t 23)), none⟩, ⟨(some 25), (.mv (.t 0)), none⟩, ⟨(some 26), (.call (.k (.v (.c (.func 45 [])))) [(.t 25), (.k (.v (.c (.p (.int .i64 1)))))]), none⟩, ⟨(some 27), (.bslice 4 1 [(.p (.int .i64 0)), (.p (.str [])), (.p .nilslice), (.p .nilslice)] [(0, (.t 26))] false), none⟩, ⟨(some 28), (.append 4 72 false (.t 24) (.t 27)), none⟩, ⟨(some 29), (.faddr 1 (.t 3)), none⟩, ⟨none, (.store 1 (.t 29) (.t 28)), none⟩] [(1, 3), (1, 4)]))))))) .skip)) (.mark 2 [0, 2, 3] (.seq (.reg [⟨(some 30), (.mv (.t 0)), none⟩, ⟨(some 31), (.call (.k (.v (.c (.func 44 [])))) [(.t 30), (.k (.v (.c (.p (.str [41])))))]), none⟩] []) (.seq (.reg [⟨(some 32), (.mv (.t 0)), none⟩, ⟨(some 33), (.call (.k (.v (.c (.func 44 [])))) [(.t 32), (.k (.v (.c (.p (.str [45, 62])))))]), none⟩] []) (.seq (.reg [⟨(some 34), (.mv (.t 0)), none⟩, ⟨(some 35), (.call (.k (.v (.c (.func 45 [])))) [(.t 34), (.k (.v (.c (.p (.int .i64 1)))))]), none⟩, ⟨(some 36), (.faddr 2 (.t 3)), none⟩, ⟨none, (.store 4 (.t 36) (.t 35)), none⟩] []) (.seq (.reg [⟨(some 37), (.mv (.t 0)), none⟩, ⟨(some 38), (.call (.k (.v (.c (.func 44 [])))) [(.t 37), (.k (.v (.c (.p (.str [59])))))]), none⟩] []) (.seq (.reg [⟨(some 39), (.load true 6 (.t 3)), none⟩, ⟨none, (.store 6 (.t 2) (.t 39)), none⟩] []) .ret)))))))))) }
theorem t47 : compF Tryd.prog (globs2 tabs opq) false true Tryd.f47 = some c47.erase := by kernel_rfl
noncomputable def b47_0 (O : Oracle) (R : Jump) (q : Nat) (x0 : TVal) (h : Heap) : Res1 :=
  vop O (.alloc [(.p (.str [])), (.p .nilslice), (.p (.int .i64 0)), (.p (.str [])), (.p .nilslice), (.p .nilslice)] false) h 2 fun x2 h =>
  vcall O (.v (.c (.func 48 []))) [x0] h 5 fun x5 h =>
  vop O (.build [(.p (.str [])), (.p .nilslice), (.p (.int .i64 0)), (.p (.str [])), (.p .nilslice), (.p .nilslice)] [(0, 1, (.k x5))]) h 6 fun x6 h =>
  vop O (.alloc [(.p (.str [])), (.p .nilslice), (.p (.int .i64 0)), (.p (.str [])), (.p .nilslice), (.p .nilslice)] false) h 3 fun x3 h =>
  vstore 6 x3 x6 h fun _ h =>
  vcall O (.v (.c (.func 44 []))) [x0, (kS [40])] h 8 fun x8 h =>
  vcall O (.v (.c (.func 46 []))) [x0, (kS [41])] h 10 fun x10 h =>
  vop O (.un .not (.k x10)) h 11 fun x11 h =>
  vif x11 (
  vtouch O (.faddr 1 (.k x3)) h 12 fun x12 h t0 =>
  vtouch O (.load false 1 (.k x12)) h 13 fun x13 h t1 =>
  vtouch O (.mv (.k x0)) h 14 fun x14 h t2 =>
  vtouch O (.call (.k (.v (.c (.func 45 [])))) [(.k x14), (.k (kI 1))]) h 15 fun x15 h t3 =>
  vtouch O (.bslice 4 1 [(.p (.int .i64 0)), (.p (.str [])), (.p .nilslice), (.p .nilslice)] [(0, (.k x15))] false) h 16 fun x16 h t4 =>
  vtouch O (.append 4 72 false (.k x13) (.k x16)) h 17 fun x17 h t5 =>
  vtouch O (.faddr 1 (.k x3)) h 18 fun x18 h t6 =>
  vtouch O (.store 1 (.k x18) (.k x17)) h 1000000 fun _ h t7 =>
  bif apartAll [t0, t1, t2, t3, t4, t5, t6, t7] [(1, 3), (1, 4)] then
  R 1 [x0, x2, x3] h
  else none)
  (R 2 [x0, x2, x3] h)
theorem e47_0 (O : Oracle) (R : Jump) (q : Nat) (x0 : TVal) (h : Heap) : b47_0 O R q x0 h = stepF c47 O R q 0 [x0] h := by kernel_rfl
noncomputable def b47_1 (O : Oracle) (R : Jump) (q : Nat) (x0 x2 x3 : TVal) (h : Heap) : Res1 :=
  vcall O (.v (.c (.func 46 []))) [x0, (kS [44])] h 20 fun x20 h =>
  vif x20 (
  vcall O (.v (.c (.func 44 []))) [x0, (kS [44])] h 22 fun x22 h =>
  vtouch O (.faddr 1 (.k x3)) h 23 fun x23 h t0 =>
  vtouch O (.load false 1 (.k x23)) h 24 fun x24 h t1 =>
  vtouch O (.mv (.k x0)) h 25 fun x25 h t2 =>
  vtouch O (.call (.k (.v (.c (.func 45 [])))) [(.k x25), (.k (kI 1))]) h 26 fun x26 h t3 =>
  vtouch O (.bslice 4 1 [(.p (.int .i64 0)), (.p (.str [])), (.p .nilslice), (.p .nilslice)] [(0, (.k x26))] false) h 27 fun x27 h t4 =>
  vtouch O (.append 4 72 false (.k x24) (.k x27)) h 28 fun x28 h t5 =>
  vtouch O (.faddr 1 (.k x3)) h 29 fun x29 h t6 =>
  vtouch O (.store 1 (.k x29) (.k x28)) h 1000000 fun _ h t7 =>
  bif apartAll [t0, t1, t2, t3, t4, t5, t6, t7] [(1, 3), (1, 4)] then
  R 1 [x0, x2, x3] h
  else none)
  (R 2 [x0, x2, x3] h)
theorem e47_1 (O : Oracle) (R : Jump) (q : Nat) (x0 x2 x3 : TVal) (h : Heap) : b47_1 O R q x0 x2 x3 h = stepF c47 O R q 1 [x0, x2, x3] h := by kernel_rfl
noncomputable def b47_2 (O : Oracle) (R : Jump) (q : Nat) (x0 x2 x3 : TVal) (h : Heap) : Res1 :=
  vcall O (.v (.c (.func 44 []))) [x0, (kS [41])] h 31 fun x31 h =>
  vcall O (.v (.c (.func 44 []))) [x0, (kS [45, 62])] h 33 fun x33 h =>
  vcall O (.v (.c (.func 45 []))) [x0, (kI 1)] h 35 fun x35 h =>
  vfaddr 2 x3 h fun x36 h =>
  vstore 4 x36 x35 h fun _ h =>
  vcall O (.v (.c (.func 44 []))) [x0, (kS [59])] h 38 fun x38 h =>
  vload true 6 x3 h fun x39 h =>
  vstore 6 x2 x39 h fun _ h =>
  vcell true 6 x2 h fun c0 => vfin true q [c0] h
theorem e47_2 (O : Oracle) (R : Jump) (q : Nat) (x0 x2 x3 : TVal) (h : Heap) : b47_2 O R q x0 x2 x3 h = stepF c47 O R q 2 [x0, x2, x3] h := by kernel_rfl
noncomputable def d47 : BlkF := fun O R q => [.s fun y0 => .z fun h => b47_0 O R q y0 h, .s fun y0 => .s fun y1 => .s fun y2 => .z fun h => b47_1 O R q y0 y1 y2 h, .s fun y0 => .s fun y1 => .s fun y2 => .z fun h => b47_2 O R q y0 y1 y2 h]
theorem o47 (O : Oracle) (R : Jump) (q : Nat) : HoldsAll c47 O R q 0 (d47 O R q) := ⟨fun y0 h => e47_0 O R q y0 h, fun y0 y1 y2 h => e47_1 O R q y0 y1 y2 h, fun y0 y1 y2 h => e47_2 O R q y0 y1 y2 h, trivial⟩
/- (*sprue/sprueref3.reader).name -/
def c48 : MFunc := { np := 1, res := [.t 2], frz := true, body := (.seq (.reg [⟨(some 2), (.mv (.k (.v (.c (.p (.str [])))))), none⟩] []) (.seq (.seq (.reg [⟨(some 3), (.mv (.t 0)), none⟩, ⟨(some 4), (.nilck (.t 3)), none⟩, ⟨(some 5), (.faddr 2 (.t 4)), none⟩, ⟨(some 6), (.load false 1 (.t 5)), none⟩, ⟨(some 7), (.bin .neq 0 (.t 6) (.k (.v (.c (.p (.int .i64 0)))))), none⟩, ⟨(some 8), (.mv (.t 7)), none⟩, ⟨(some 9), (.mv (.t 0)), (some (8, false))⟩, ⟨(some 10), (.nilck (.t 9)), (some (8, false))⟩, ⟨(some 11), (.faddr 1 (.t 10)), (some (8, false))⟩, ⟨(some 12), (.load false 1 (.t 11)), (some (8, false))⟩, ⟨(some 13), (.mv (.t 0)), (some (8, false))⟩, ⟨(some 14), (.nilck (.t 13)), (some (8, false))⟩, ⟨(some 15), (.faddr 0 (.t 14)), (some (8, false))⟩, ⟨(some 16), (.load false 1 (.t 15)), (some (8, false))⟩, ⟨(some 17), (.len 2 (.t 16)), (some (8, false))⟩, ⟨(some 18), (.bin .geq 0 (.t 12) (.t 17)), (some (8, false))⟩, ⟨(some 19), (.pick (.t 8) (.k (.v (.c (.p (.bool true))))) (.t 18)), none⟩, ⟨(some 20), (.mv (.t 19)), none⟩, ⟨(some 21), (.mv (.t 0)), (some (20, false))⟩, ⟨(some 22), (.nilck (.t 21)), (some (20, false))⟩, ⟨(some 23), (.faddr 0 (.t 22)), (some (20, false))⟩, ⟨(some 24), (.load false 1 (.t 23)), (some (20, false))⟩, ⟨(some 25), (.mv (.t 0)), (some (20, false))⟩, ⟨(some 26), (.nilck (.t 25)), (some (20, false))⟩, ⟨(some 27), (.faddr 1 (.t 26)), (some (20, false))⟩, ⟨(some 28), (.load false 1 (.t 27)), (some (20, false))⟩, ⟨(some 29), (.iaddr 4 (.t 24) (.t 28)), (some (20, false))⟩, ⟨(some 30), (.faddr 0 (.t 29)), (some (20, false))⟩, ⟨(some 31), (.load false 1 (.t 30)), (some (20, false))⟩, ⟨(some 32), (.bin .neq 0 (.t 31) (.k (.v (.c (.p (.int .i64 1)))))), (some (20, false))⟩, ⟨(some 33), (.pick (.t 20) (.k (.v (.c (.p (.bool true))))) (.t 32)), none⟩] []) (.cond (.t 33) (.seq (.reg [⟨(some 34), (.mv (.t 0)), none⟩, ⟨(some 35), (.call (.k (.v (.c (.func 82 [])))) [(.t 34), (.k (.v (.c (.p (.int .i64 12)))))]), none⟩] []) (.seq (.reg [⟨(some 2), (.mv (.k (.v (.c (.p (.str [])))))), none⟩] []) .ret)) .skip)) (.seq (.reg [⟨(some 36), (.mv (.t 0)), none⟩, ⟨(some 37), (.nilck (.t 36)), none⟩, ⟨(some 38), (.faddr 1 (.t 37)), none⟩, ⟨(some 39), (.load false 1 (.t 38)), none⟩, ⟨(some 40), (.bin .add 0 (.t 39) (.k (.v (.c (.p (.int .i64 1)))))), none⟩, ⟨(some 41), (.nilck (.t 36)), none⟩, ⟨(some 42), (.faddr 1 (.t 41)), none⟩, ⟨none, (.store 1 (.t 42) (.t 40)), none⟩] []) (.seq (.reg [⟨(some 43), (.mv (.t 0)), none⟩, ⟨(some 44), (.nilck (.t 43)), none⟩, ⟨(some 45), (.faddr 0 (.t 44)), none⟩, ⟨(some 46), (.load false 1 (.t 45)), none⟩, ⟨(some 47), (.mv (.t 0)), none⟩, ⟨(some 48), (.nilck (.t 47)), none⟩, ⟨(some 49), (.faddr 1 (.t 48)), none⟩, ⟨(some 50), (.load false 1 (.t 49)), none⟩, ⟨(some 51), (.bin .sub 0 (.t 50) (.k (.v (.c (.p (.int .i64 1)))))), none⟩, ⟨(some 52), (.iaddr 4 (.t 46) (.t 51)), none⟩, ⟨(some 53), (.faddr 1 (.t 52)), none⟩, ⟨(some 54), (.load false 1 (.t 53)), none⟩, ⟨(some 2), (.mv (.t 54)), none⟩] []) .ret)))) }
theorem t48 : compF Tryd.prog (globs2 tabs opq) false true Tryd.f48 = some c48.erase := by kernel_rfl
noncomputable def b48_0 (O : Oracle) (R : Jump) (q : Nat) (x0 : TVal) (h : Heap) : Res1 :=
  vop O (.nilck (.k x0)) h 4 fun x4 h =>
  vfaddr 2 x4 h fun x5 h =>
  vload false 1 x5 h fun x6 h =>
  vbin .neq 0 x6 (kI 0) h fun x7 h =>
  vguard x7 false (fun kk => kk x0 h) h fun x9 h =>
  vguard x7 false (fun kk => vop O (.nilck (.k x9)) h 10 kk) h fun x10 h =>
  vguard x7 false (fun kk => vfaddr 1 x10 h kk) h fun x11 h =>
  vguard x7 false (fun kk => vload false 1 x11 h kk) h fun x12 h =>
  vguard x7 false (fun kk => kk x0 h) h fun x13 h =>
  vguard x7 false (fun kk => vop O (.nilck (.k x13)) h 14 kk) h fun x14 h =>
  vguard x7 false (fun kk => vfaddr 0 x14 h kk) h fun x15 h =>
  vguard x7 false (fun kk => vload false 1 x15 h kk) h fun x16 h =>
  vguard x7 false (fun kk => vlen O 2 x16 h 17 kk) h fun x17 h =>
  vguard x7 false (fun kk => vbin .geq 0 x12 x17 h kk) h fun x18 h =>
  vop O (.pick (.k x7) (.k (kB true)) (.k x18)) h 19 fun x19 h =>
  vguard x19 false (fun kk => kk x0 h) h fun x21 h =>
  vguard x19 false (fun kk => vop O (.nilck (.k x21)) h 22 kk) h fun x22 h =>
  vguard x19 false (fun kk => vfaddr 0 x22 h kk) h fun x23 h =>
  vguard x19 false (fun kk => vload false 1 x23 h kk) h fun x24 h =>
  vguard x19 false (fun kk => kk x0 h) h fun x25 h =>
  vguard x19 false (fun kk => vop O (.nilck (.k x25)) h 26 kk) h fun x26 h =>
  vguard x19 false (fun kk => vfaddr 1 x26 h kk) h fun x27 h =>
  vguard x19 false (fun kk => vload false 1 x27 h kk) h fun x28 h =>
  vguard x19 false (fun kk => viaddr 4 x24 x28 h kk) h fun x29 h =>
  vguard x19 false (fun kk => vfaddr 0 x29 h kk) h fun x30 h =>
  vguard x19 false (fun kk => vload false 1 x30 h kk) h fun x31 h =>
  vguard x19 false (fun kk => vbin .neq 0 x31 (kI 1) h kk) h fun x32 h =>
  vop O (.pick (.k x19) (.k (kB true)) (.k x32)) h 33 fun x33 h =>
  vif x33 (
  vcall O (.v (.c (.func 82 []))) [x0, (kI 12)] h 35 fun x35 h =>
  tcomp (kS []) fun c0 => vfin true q [c0] h)
  (vop O (.nilck (.k x0)) h 37 fun x37 h =>
  vfaddr 1 x37 h fun x38 h =>
  vload false 1 x38 h fun x39 h =>
  vbin .add 0 x39 (kI 1) h fun x40 h =>
  vop O (.nilck (.k x0)) h 41 fun x41 h =>
  vfaddr 1 x41 h fun x42 h =>
  vstore 1 x42 x40 h fun _ h =>
  vop O (.nilck (.k x0)) h 44 fun x44 h =>
  vfaddr 0 x44 h fun x45 h =>
  vload false 1 x45 h fun x46 h =>
  vop O (.nilck (.k x0)) h 48 fun x48 h =>
  vfaddr 1 x48 h fun x49 h =>
  vload false 1 x49 h fun x50 h =>
  vbin .sub 0 x50 (kI 1) h fun x51 h =>
  viaddr 4 x46 x51 h fun x52 h =>
  vfaddr 1 x52 h fun x53 h =>
  vload false 1 x53 h fun x54 h =>
  tcomp x54 fun c0 => vfin true q [c0] h)
theorem e48_0 (O : Oracle) (R : Jump) (q : Nat) (x0 : TVal) (h : Heap) : b48_0 O R q x0 h = stepF c48 O R q 0 [x0] h := by kernel_rfl
noncomputable def d48 : BlkF := fun O R q => [.s fun y0 => .z fun h => b48_0 O R q y0 h]
theorem o48 (O : Oracle) (R : Jump) (q : Nat) : HoldsAll c48 O R q 0 (d48 O R q) := ⟨fun y0 h => e48_0 O R q y0 h, trivial⟩
/- (*sprue/sprueref3.reader).done -/
def c49 : MFunc := { np := 1, res := [.t 2], frz := true, body := (.seq (.reg [⟨(some 2), (.mv (.k (.v (.c (.p (.int .i64 0)))))), none⟩] []) (.seq (.seq (.reg [⟨(some 3), (.mv (.t 0)), none⟩, ⟨(some 4), (.nilck (.t 3)), none⟩, ⟨(some 5), (.faddr 1 (.t 4)), none⟩, ⟨(some 6), (.load false 1 (.t 5)), none⟩, ⟨(some 7), (.mv (.t 0)), none⟩, ⟨(some 8), (.nilck (.t 7)), none⟩, ⟨(some 9), (.faddr 0 (.t 8)), none⟩, ⟨(some 10), (.load false 1 (.t 9)), none⟩, ⟨(some 11), (.len 2 (.t 10)), none⟩, ⟨(some 12), (.bin .lss 0 (.t 6) (.t 11)), none⟩] []) (.cond (.t 12) (.reg [⟨(some 13), (.mv (.t 0)), none⟩, ⟨(some 14), (.call (.k (.v (.c (.func 82 [])))) [(.t 13), (.k (.v (.c (.p (.int .i64 12)))))]), none⟩] []) .skip)) (.mark 1 [0] (.seq (.seq (.reg [⟨(some 15), (.mv (.t 0)), none⟩, ⟨(some 16), (.nilck (.t 15)), none⟩, ⟨(some 17), (.faddr 3 (.t 16)), none⟩, ⟨(some 18), (.load false 1 (.t 17)), none⟩] []) (.cond (.t 18) (.reg [⟨(some 19), (.mv (.t 0)), none⟩, ⟨(some 20), (.call (.k (.v (.c (.func 82 [])))) [(.t 19), (.k (.v (.c (.p (.int .i64 6)))))]), none⟩] []) .skip)) (.mark 2 [0] (.seq (.reg [⟨(some 21), (.mv (.t 0)), none⟩, ⟨(some 22), (.nilck (.t 21)), none⟩, ⟨(some 23), (.faddr 2 (.t 22)), none⟩, ⟨(some 24), (.load false 1 (.t 23)), none⟩, ⟨(some 2), (.mv (.t 24)), none⟩] []) .ret)))))) }
theorem t49 : compF Tryd.prog (globs2 tabs opq) false true Tryd.f49 = some c49.erase := by kernel_rfl
noncomputable def b49_0 (O : Oracle) (R : Jump) (q : Nat) (x0 : TVal) (h : Heap) : Res1 :=
  vop O (.nilck (.k x0)) h 4 fun x4 h =>
  vfaddr 1 x4 h fun x5 h =>
  vload false 1 x5 h fun x6 h =>
  vop O (.nilck (.k x0)) h 8 fun x8 h =>
  vfaddr 0 x8 h fun x9 h =>
  vload false 1 x9 h fun x10 h =>
  vlen O 2 x10 h 11 fun x11 h =>
  vbin .lss 0 x6 x11 h fun x12 h =>
  vif x12 (
  vcall O (.v (.c (.func 82 []))) [x0, (kI 12)] h 14 fun x14 h =>
  R 1 [x0] h)
  (R 1 [x0] h)
theorem e49_0 (O : Oracle) (R : Jump) (q : Nat) (x0 : TVal) (h : Heap) : b49_0 O R q x0 h = stepF c49 O R q 0 [x0] h := by kernel_rfl
noncomputable def b49_1 (O : Oracle) (R : Jump) (q : Nat) (x0 : TVal) (h : Heap) : Res1 :=
  vop O (.nilck (.k x0)) h 16 fun x16 h =>
  vfaddr 3 x16 h fun x17 h =>
  vload false 1 x17 h fun x18 h =>
  vif x18 (
  vcall O (.v (.c (.func 82 []))) [x0, (kI 6)] h 20 fun x20 h =>
  R 2 [x0] h)
  (R 2 [x0] h)
theorem e49_1 (O : Oracle) (R : Jump) (q : Nat) (x0 : TVal) (h : Heap) : b49_1 O R q x0 h = stepF c49 O R q 1 [x0] h := by kernel_rfl
noncomputable def b49_2 (O : Oracle) (R : Jump) (q : Nat) (x0 : TVal) (h : Heap) : Res1 :=
  vop O (.nilck (.k x0)) h 22 fun x22 h =>
  vfaddr 2 x22 h fun x23 h =>
  vload false 1 x23 h fun x24 h =>
  tcomp x24 fun c0 => vfin true q [c0] h
theorem e49_2 (O : Oracle) (R : Jump) (q : Nat) (x0 : TVal) (h : Heap) : b49_2 O R q x0 h = stepF c49 O R q 2 [x0] h := by kernel_rfl
noncomputable def d49 : BlkF := fun O R q => [.s fun y0 => .z fun h => b49_0 O R q y0 h, .s fun y0 => .z fun h => b49_1 O R q y0 h, .s fun y0 => .z fun h => b49_2 O R q y0 h]
theorem o49 (O : Oracle) (R : Jump) (q : Nat) : HoldsAll c49 O R q 0 (d49 O R q) := ⟨fun y0 h => e49_0 O R q y0 h, fun y0 h => e49_1 O R q y0 h, fun y0 h => e49_2 O R q y0 h, trivial⟩
/- (*sprue/sprueref13.reader).value -/
def c50 : MFunc := { np := 2, res := [.cell 4 true 6], frz := true, body := (.seq (.reg [⟨(some 4), (.alloc [(.p (.int .i64 0)), (.p (.bool false)), (.p (.int .i64 0)), (.p (.str [])), (.p .nilslice), (.p .nilslice)] false), none⟩] []) (.seq (.reg [⟨(some 8), (.mv (.t 0)), none⟩, ⟨(some 9), (.call (.k (.v (.c (.func 51 [])))) [(.t 8)]), none⟩] []) (.seq (.seq (.reg [⟨(some 10), (.mv (.t 0)), none⟩, ⟨(some 11), (.nilck (.t 10)), none⟩, ⟨(some 12), (.faddr 2 (.t 11)), none⟩, ⟨(some 13), (.load false 1 (.t 12)), none⟩, ⟨(some 14), (.bin .neq 0 (.t 13) (.k (.v (.c (.p (.int .i64 0)))))), none⟩, ⟨(some 15), (.mv (.t 14)), none⟩, ⟨(some 16), (.mv (.t 0)), (some (15, false))⟩, ⟨(some 17), (.nilck (.t 16)), (some (15, false))⟩, ⟨(some 18), (.faddr 1 (.t 17)), (some (15, false))⟩, ⟨(some 19), (.load false 1 (.t 18)), (some (15, false))⟩, ⟨(some 20), (.mv (.t 0)), (some (15, false))⟩, ⟨(some 21), (.nilck (.t 20)), (some (15, false))⟩, ⟨(some 22), (.faddr 0 (.t 21)), (some (15, false))⟩, ⟨(some 23), (.load false 1 (.t 22)), (some (15, false))⟩, ⟨(some 24), (.len 0 (.t 23)), (some (15, false))⟩, ⟨(some 25), (.bin .geq 0 (.t 19) (.t 24)), (some (15, false))⟩, ⟨(some 26), (.pick (.t 15) (.k (.v (.c (.p (.bool true))))) (.t 25)), none⟩] []) (.cond (.t 26) (.seq (.reg [⟨(some 27), (.mv (.t 0)), none⟩, ⟨(some 28), (.call (.k (.v (.c (.func 52 [])))) [(.t 27), (.k (.v (.c (.p (.int .i64 12)))))]), none⟩] []) (.seq (.reg [⟨(some 29), (.build [(.p (.int .i64 0)), (.p (.bool false)), (.p (.int .i64 0)), (.p (.str [])), (.p .nilslice), (.p .nilslice)] []), none⟩, ⟨none, (.store 6 (.t 4) (.t 29)), none⟩] []) .ret)) .skip)) (.seq (.reg [⟨(some 30), (.mv (.t 0)), none⟩, ⟨(some 31), (.nilck (.t 30)), none⟩, ⟨(some 32), (.faddr 0 (.t 31)), none⟩, ⟨(some 33), (.load false 1 (.t 32)), none⟩, ⟨(some 34), (.mv (.t 0)), none⟩, ⟨(some 35), (.nilck (.t 34)), none⟩, ⟨(some 36), (.faddr 1 (.t 35)), none⟩, ⟨(some 37), (.load false 1 (.t 36)), none⟩, ⟨(some 38), (.index (.t 33) (.t 37)), none⟩, ⟨(some 5), (.mv (.t 38)), none⟩] []) (.seq (.reg [⟨(some 40), (.mv (.t 0)), none⟩, ⟨(some 41), (.call (.k (.v (.c (.func 85 [])))) [(.t 40)]), none⟩, ⟨(some 39), (.mv (.t 41)), none⟩, ⟨(some 42), (.extract (.t 39) 0), none⟩, ⟨(some 43), (.extract (.t 39) 1), none⟩, ⟨(some 6), (.alloc [(.p (.int .i64 0)), (.p (.bool false)), (.p (.int .i64 0)), (.p (.str [])), (.p .nilslice), (.p .nilslice)] false), none⟩, ⟨none, (.store 6 (.t 6) (.t 42)), none⟩, ⟨(some 7), (.mv (.t 43)), none⟩] []) (.seq (.seq (.reg [⟨(some 44), (.mv (.t 7)), none⟩, ⟨(some 45), (.un .not (.t 44)), none⟩, ⟨(some 46), (.mv (.t 45)), none⟩, ⟨(some 47), (.mv (.t 5)), (some (46, true))⟩, ⟨(some 48), (.bin .neq 0 (.t 47) (.k (.v (.c (.p (.int .u8 34)))))), (some (46, true))⟩, ⟨(some 49), (.pick (.t 46) (.t 48) (.k (.v (.c (.p (.bool false)))))), none⟩, ⟨(some 50), (.mv (.t 49)), none⟩, ⟨(some 51), (.mv (.t 5)), (some (50, true))⟩, ⟨(some 52), (.bin .neq 0 (.t 51) (.k (.v (.c (.p (.int .u8 45)))))), (some (50, true))⟩, ⟨(some 53), (.pick (.t 50) (.t 52) (.k (.v (.c (.p (.bool false)))))), none⟩, ⟨(some 54), (.mv (.t 53)), none⟩, ⟨(some 55), (.mv (.t 5)), (some (54, true))⟩, ⟨(some 56), (.call (.k (.v (.c (.func 86 [])))) [(.t 55)]), (some (54, true))⟩, ⟨(some 57), (.un .not (.t 56)), (some (54, true))⟩, ⟨(some 58), (.pick (.t 54) (.t 57) (.k (.v (.c (.p (.bool false)))))), none⟩, ⟨(some 59), (.mv (.t 58)), none⟩, ⟨(some 60), (.mv (.t 5)), (some (59, true))⟩, ⟨(some 61), (.bin .neq 0 (.t 60) (.k (.v (.c (.p (.int .u8 91)))))), (some (59, true))⟩, ⟨(some 62), (.pick (.t 59) (.t 61) (.k (.v (.c (.p (.bool false)))))), none⟩, ⟨(some 63), (.mv (.t 62)), none⟩, ⟨(some 64), (.mv (.t 5)), (some (63, true))⟩, ⟨(some 65), (.bin .neq 0 (.t 64) (.k (.v (.c (.p (.int .u8 123)))))), (some (63, true))⟩, ⟨(some 66), (.pick (.t 63) (.t 65) (.k (.v (.c (.p (.bool false)))))), none⟩] []) (.cond (.t 66) (.seq (.reg [⟨(some 67), (.mv (.t 0)), none⟩, ⟨(some 68), (.call (.k (.v (.c (.func 52 [])))) [(.t 67), (.k (.v (.c (.p (.int .i64 12)))))]), none⟩] []) (.seq (.reg [⟨(some 69), (.build [(.p (.int .i64 0)), (.p (.bool false)), (.p (.int .i64 0)), (.p (.str [])), (.p .nilslice), (.p .nilslice)] []), none⟩, ⟨none, (.store 6 (.t 4) (.t 69)), none⟩] []) .ret)) .skip)) (.seq (.seq (.reg [⟨(some 70), (.mv (.t 1)), none⟩, ⟨(some 71), (.bin .gtr 0 (.t 70) (.k (.v (.c (.p (.int .i64 12)))))), none⟩] []) (.cond (.t 71) (.seq (.reg [⟨(some 72), (.mv (.t 0)), none⟩, ⟨(some 73), (.call (.k (.v (.c (.func 52 [])))) [(.t 72), (.k (.v (.c (.p (.int .i64 13)))))]), none⟩] []) (.seq (.reg [⟨(some 74), (.build [(.p (.int .i64 0)), (.p (.bool false)), (.p (.int .i64 0)), (.p (.str [])), (.p .nilslice), (.p .nilslice)] []), none⟩, ⟨none, (.store 6 (.t 4) (.t 74)), none⟩] []) .ret)) .skip)) (.seq (.block 0 (.seq (.reg [⟨(some 76), (.mv (.t 7)), none⟩, ⟨(some 75), (.mv (.t 76)), none⟩] []) (.cond (.t 75) (.seq (.reg [⟨(some 77), (.load true 6 (.t 6)), none⟩, ⟨none, (.store 6 (.t 4) (.t 77)), none⟩] []) .ret) (.seq (.reg [⟨(some 79), (.mv (.t 5)), none⟩, ⟨(some 80), (.bin .eql 0 (.t 79) (.k (.v (.c (.p (.int .u8 34)))))), none⟩, ⟨(some 78), (.mv (.t 80)), none⟩] []) (.cond (.t 78) (.seq (.reg [⟨(some 81), (.mv (.t 0)), none⟩, ⟨(some 82), (.call (.k (.v (.c (.func 87 [])))) [(.t 81)]), none⟩, ⟨(some 83), (.build [(.p (.int .i64 0)), (.p (.bool false)), (.p (.int .i64 0)), (.p (.str [])), (.p .nilslice), (.p .nilslice)] [(0, 1, (.k (.v (.c (.p (.int .i64 3)))))), (3, 1, (.t 82))]), none⟩, ⟨none, (.store 6 (.t 4) (.t 83)), none⟩] []) .ret) (.seq (.reg [⟨(some 85), (.mv (.t 5)), none⟩, ⟨(some 86), (.bin .eql 0 (.t 85) (.k (.v (.c (.p (.int .u8 91)))))), none⟩, ⟨(some 84), (.mv (.t 86)), none⟩] []) (.cond (.t 84) (.seq (.reg [⟨(some 87), (.mv (.t 0)), none⟩, ⟨(some 88), (.mv (.t 1)), none⟩, ⟨(some 89), (.call (.k (.v (.c (.func 88 [])))) [(.t 87), (.t 88)]), none⟩, ⟨none, (.store 6 (.t 4) (.t 89)), none⟩] []) .ret) (.seq (.reg [⟨(some 91), (.mv (.t 5)), none⟩, ⟨(some 92), (.bin .eql 0 (.t 91) (.k (.v (.c (.p (.int .u8 123)))))), none⟩, ⟨(some 90), (.mv (.t 92)), none⟩] []) (.cond (.t 90) (.seq (.reg [⟨(some 93), (.mv (.t 0)), none⟩, ⟨(some 94), (.mv (.t 1)), none⟩, ⟨(some 95), (.call (.k (.v (.c (.func 89 [])))) [(.t 93), (.t 94)]), none⟩, ⟨none, (.store 6 (.t 4) (.t 95)), none⟩] []) .ret) .skip))))))))) (.seq (.reg [⟨(some 96), (.mv (.t 0)), none⟩, ⟨(some 97), (.call (.k (.v (.c (.func 90 [])))) [(.t 96)]), none⟩, ⟨none, (.store 6 (.t 4) (.t 97)), none⟩] []) .ret))))))))) }
theorem t50 : compF Tryd.prog (globs2 tabs opq) false true Tryd.f50 = some c50.erase := by kernel_rfl
noncomputable def b50_0 (O : Oracle) (R : Jump) (q : Nat) (x0 x1 : TVal) (h : Heap) : Res1 :=
  vop O (.alloc [(.p (.int .i64 0)), (.p (.bool false)), (.p (.int .i64 0)), (.p (.str [])), (.p .nilslice), (.p .nilslice)] false) h 4 fun x4 h =>
  vcall O (.v (.c (.func 51 []))) [x0] h 9 fun x9 h =>
  vop O (.nilck (.k x0)) h 11 fun x11 h =>
  vfaddr 2 x11 h fun x12 h =>
  vload false 1 x12 h fun x13 h =>
  vbin .neq 0 x13 (kI 0) h fun x14 h =>
  vguard x14 false (fun kk => kk x0 h) h fun x16 h =>
  vguard x14 false (fun kk => vop O (.nilck (.k x16)) h 17 kk) h fun x17 h =>
  vguard x14 false (fun kk => vfaddr 1 x17 h kk) h fun x18 h =>
  vguard x14 false (fun kk => vload false 1 x18 h kk) h fun x19 h =>
  vguard x14 false (fun kk => kk x0 h) h fun x20 h =>
  vguard x14 false (fun kk => vop O (.nilck (.k x20)) h 21 kk) h fun x21 h =>
  vguard x14 false (fun kk => vfaddr 0 x21 h kk) h fun x22 h =>
  vguard x14 false (fun kk => vload false 1 x22 h kk) h fun x23 h =>
  vguard x14 false (fun kk => vlen O 0 x23 h 24 kk) h fun x24 h =>
  vguard x14 false (fun kk => vbin .geq 0 x19 x24 h kk) h fun x25 h =>
  vop O (.pick (.k x14) (.k (kB true)) (.k x25)) h 26 fun x26 h =>
  vif x26 (
  vcall O (.v (.c (.func 52 []))) [x0, (kI 12)] h 28 fun x28 h =>
  vop O (.build [(.p (.int .i64 0)), (.p (.bool false)), (.p (.int .i64 0)), (.p (.str [])), (.p .nilslice), (.p .nilslice)] []) h 29 fun x29 h =>
  vstore 6 x4 x29 h fun _ h =>
  vcell true 6 x4 h fun c0 => vfin true q [c0] h)
  (vop O (.nilck (.k x0)) h 31 fun x31 h =>
  vfaddr 0 x31 h fun x32 h =>
  vload false 1 x32 h fun x33 h =>
  vop O (.nilck (.k x0)) h 35 fun x35 h =>
  vfaddr 1 x35 h fun x36 h =>
  vload false 1 x36 h fun x37 h =>
  vindex x33 x37 h fun x38 h =>
  vcall O (.v (.c (.func 85 []))) [x0] h 41 fun x41 h =>
  vext x41 0 h fun x42 h =>
  vext x41 1 h fun x43 h =>
  vop O (.alloc [(.p (.int .i64 0)), (.p (.bool false)), (.p (.int .i64 0)), (.p (.str [])), (.p .nilslice), (.p .nilslice)] false) h 6 fun x6 h =>
  vstore 6 x6 x42 h fun _ h =>
  vop O (.un .not (.k x43)) h 45 fun x45 h =>
  vguard x45 true (fun kk => kk x38 h) h fun x47 h =>
  vguard x45 true (fun kk => vbin .neq 0 x47 (.v (.c (.p (.int .u8 34)))) h kk) h fun x48 h =>
  vop O (.pick (.k x45) (.k x48) (.k (kB false))) h 49 fun x49 h =>
  vguard x49 true (fun kk => kk x38 h) h fun x51 h =>
  vguard x49 true (fun kk => vbin .neq 0 x51 (.v (.c (.p (.int .u8 45)))) h kk) h fun x52 h =>
  vop O (.pick (.k x49) (.k x52) (.k (kB false))) h 53 fun x53 h =>
  vguard x53 true (fun kk => kk x38 h) h fun x55 h =>
  vguard x53 true (fun kk => vcall O (.v (.c (.func 86 []))) [x55] h 56 kk) h fun x56 h =>
  vguard x53 true (fun kk => vop O (.un .not (.k x56)) h 57 kk) h fun x57 h =>
  vop O (.pick (.k x53) (.k x57) (.k (kB false))) h 58 fun x58 h =>
  vguard x58 true (fun kk => kk x38 h) h fun x60 h =>
  vguard x58 true (fun kk => vbin .neq 0 x60 (.v (.c (.p (.int .u8 91)))) h kk) h fun x61 h =>
  vop O (.pick (.k x58) (.k x61) (.k (kB false))) h 62 fun x62 h =>
  vguard x62 true (fun kk => kk x38 h) h fun x64 h =>
  vguard x62 true (fun kk => vbin .neq 0 x64 (.v (.c (.p (.int .u8 123)))) h kk) h fun x65 h =>
  vop O (.pick (.k x62) (.k x65) (.k (kB false))) h 66 fun x66 h =>
  vif x66 (
  vcall O (.v (.c (.func 52 []))) [x0, (kI 12)] h 68 fun x68 h =>
  vop O (.build [(.p (.int .i64 0)), (.p (.bool false)), (.p (.int .i64 0)), (.p (.str [])), (.p .nilslice), (.p .nilslice)] []) h 69 fun x69 h =>
  vstore 6 x4 x69 h fun _ h =>
  vcell true 6 x4 h fun c0 => vfin true q [c0] h)
  (vbin .gtr 0 x1 (kI 12) h fun x71 h =>
  vif x71 (
  vcall O (.v (.c (.func 52 []))) [x0, (kI 13)] h 73 fun x73 h =>
  vop O (.build [(.p (.int .i64 0)), (.p (.bool false)), (.p (.int .i64 0)), (.p (.str [])), (.p .nilslice), (.p .nilslice)] []) h 74 fun x74 h =>
  vstore 6 x4 x74 h fun _ h =>
  vcell true 6 x4 h fun c0 => vfin true q [c0] h)
  (vif x43 (
  vload true 6 x6 h fun x77 h =>
  vstore 6 x4 x77 h fun _ h =>
  vcell true 6 x4 h fun c0 => vfin true q [c0] h)
  (vbin .eql 0 x38 (.v (.c (.p (.int .u8 34)))) h fun x80 h =>
  vif x80 (
  vcall O (.v (.c (.func 87 []))) [x0] h 82 fun x82 h =>
  vop O (.build [(.p (.int .i64 0)), (.p (.bool false)), (.p (.int .i64 0)), (.p (.str [])), (.p .nilslice), (.p .nilslice)] [(0, 1, (.k (kI 3))), (3, 1, (.k x82))]) h 83 fun x83 h =>
  vstore 6 x4 x83 h fun _ h =>
  vcell true 6 x4 h fun c0 => vfin true q [c0] h)
  (vbin .eql 0 x38 (.v (.c (.p (.int .u8 91)))) h fun x86 h =>
  vif x86 (
  vcall O (.v (.c (.func 88 []))) [x0, x1] h 89 fun x89 h =>
  vstore 6 x4 x89 h fun _ h =>
  vcell true 6 x4 h fun c0 => vfin true q [c0] h)
  (vbin .eql 0 x38 (.v (.c (.p (.int .u8 123)))) h fun x92 h =>
  vif x92 (
  vcall O (.v (.c (.func 89 []))) [x0, x1] h 95 fun x95 h =>
  vstore 6 x4 x95 h fun _ h =>
  vcell true 6 x4 h fun c0 => vfin true q [c0] h)
  (vcall O (.v (.c (.func 90 []))) [x0] h 97 fun x97 h =>
  vstore 6 x4 x97 h fun _ h =>
  vcell true 6 x4 h fun c0 => vfin true q [c0] h)))))))
theorem e50_0 (O : Oracle) (R : Jump) (q : Nat) (x0 x1 : TVal) (h : Heap) : b50_0 O R q x0 x1 h = stepF c50 O R q 0 [x0, x1] h := by kernel_rfl
noncomputable def d50 : BlkF := fun O R q => [.s fun y0 => .s fun y1 => .z fun h => b50_0 O R q y0 y1 h]
theorem o50 (O : Oracle) (R : Jump) (q : Nat) : HoldsAll c50 O R q 0 (d50 O R q) := ⟨fun y0 y1 h => e50_0 O R q y0 y1 h, trivial⟩
end Go.Proofs.YtkkbfljipfndgaaDoor.Ab
