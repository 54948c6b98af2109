/- Functions of the given program as the abstract interpreter has them (part 0), printed by a program of our own; each is shown to be what 'compF' makes of the given program's. No condition. -/
import Derived.Test.YtkkbfljipfndgaaDoorChecked
import Derived.Test.YtkkbfljipfndgaaDoorAd
namespace Go.Proofs.YtkkbfljipfndgaaDoor.Ab
open Go Go.AI
set_option linter.all false
set_option linter.unusedVariables false
set_option maxRecDepth 100000
def tabs : List Tabl := []
def opq : Option Nat := some 0
/- sprue/spruelaw15.CallsTruths -/
def c3 : MFunc := { np := 3, res := [.t 6], frz := true, body := (.seq (.reg [⟨(some 6), (.mv (.k (.v (.c (.p (.bool false)))))), none⟩] []) (.seq (.seq (.reg [⟨(some 25), (.call (.k (.v (.c (.func 7 [])))) []), none⟩, ⟨(some 26), (.un .not (.t 25)), none⟩] []) (.cond (.t 26) (.seq (.reg [⟨(some 6), (.mv (.k (.v (.c (.p (.bool false)))))), none⟩] []) .ret) .skip)) (.seq (.reg [⟨(some 27), (.mv (.t 0)), none⟩, ⟨(some 28), (.build [(.p (.int .i64 0)), (.p (.bool false)), (.p (.int .i64 0)), (.p (.str [])), (.p .nilslice), (.p .nilslice)] [(0, 1, (.k (.v (.c (.p (.int .i64 1)))))), (1, 1, (.t 27))]), none⟩, ⟨(some 29), (.mv (.t 1)), none⟩, ⟨(some 30), (.build [(.p (.int .i64 0)), (.p (.bool false)), (.p (.int .i64 0)), (.p (.str [])), (.p .nilslice), (.p .nilslice)] [(0, 1, (.k (.v (.c (.p (.int .i64 1)))))), (1, 1, (.t 29))]), none⟩, ⟨(some 7), (.alloc [(.p (.int .i64 0)), (.p (.bool false)), (.p (.int .i64 0)), (.p (.str [])), (.p .nilslice), (.p .nilslice)] false), none⟩, ⟨(some 8), (.alloc [(.p (.int .i64 0)), (.p (.bool false)), (.p (.int .i64 0)), (.p (.str [])), (.p .nilslice), (.p .nilslice)] false), none⟩, ⟨none, (.store 6 (.t 7) (.t 28)), none⟩, ⟨none, (.store 6 (.t 8) (.t 30)), none⟩] []) (.seq (.reg [⟨(some 32), (.load true 6 (.t 7)), none⟩, ⟨(some 33), (.load true 6 (.t 8)), none⟩, ⟨(some 34), (.bslice 6 2 [(.p (.int .i64 0)), (.p (.bool false)), (.p (.int .i64 0)), (.p (.str [])), (.p .nilslice), (.p .nilslice)] [(0, (.t 32)), (1, (.t 33))] false), none⟩, ⟨(some 35), (.call (.k (.v (.c (.func 8 [])))) [(.k (.v (.c (.p (.str [97, 110, 100]))))), (.t 34)]), none⟩, ⟨(some 31), (.mv (.t 35)), none⟩, ⟨(some 36), (.extract (.t 31) 0), none⟩, ⟨(some 37), (.extract (.t 31) 1), none⟩, ⟨(some 9), (.alloc [(.p (.int .i64 0)), (.p (.bool false)), (.p (.int .i64 0)), (.p (.str [])), (.p .nilslice), (.p .nilslice)] false), none⟩, ⟨none, (.store 6 (.t 9) (.t 36)), none⟩, ⟨(some 10), (.mv (.t 37)), none⟩] []) (.seq (.reg [⟨(some 39), (.load true 6 (.t 7)), none⟩, ⟨(some 40), (.load true 6 (.t 8)), none⟩, ⟨(some 41), (.bslice 6 2 [(.p (.int .i64 0)), (.p (.bool false)), (.p (.int .i64 0)), (.p (.str [])), (.p .nilslice), (.p .nilslice)] [(0, (.t 39)), (1, (.t 40))] false), none⟩, ⟨(some 42), (.call (.k (.v (.c (.func 8 [])))) [(.k (.v (.c (.p (.str [111, 114]))))), (.t 41)]), none⟩, ⟨(some 38), (.mv (.t 42)), none⟩, ⟨(some 43), (.extract (.t 38) 0), none⟩, ⟨(some 44), (.extract (.t 38) 1), none⟩, ⟨(some 11), (.alloc [(.p (.int .i64 0)), (.p (.bool false)), (.p (.int .i64 0)), (.p (.str [])), (.p .nilslice), (.p .nilslice)] false), none⟩, ⟨none, (.store 6 (.t 11) (.t 43)), none⟩, ⟨(some 12), (.mv (.t 44)), none⟩] []) (.seq (.reg [⟨(some 46), (.load true 6 (.t 7)), none⟩, ⟨(some 47), (.bslice 6 1 [(.p (.int .i64 0)), (.p (.bool false)), (.p (.int .i64 0)), (.p (.str [])), (.p .nilslice), (.p .nilslice)] [(0, (.t 46))] false), none⟩, ⟨(some 48), (.call (.k (.v (.c (.func 8 [])))) [(.k (.v (.c (.p (.str [110, 111, 116]))))), (.t 47)]), none⟩, ⟨(some 45), (.mv (.t 48)), none⟩, ⟨(some 49), (.extract (.t 45) 0), none⟩, ⟨(some 50), (.extract (.t 45) 1), none⟩, ⟨(some 13), (.alloc [(.p (.int .i64 0)), (.p (.bool false)), (.p (.int .i64 0)), (.p (.str [])), (.p .nilslice), (.p .nilslice)] false), none⟩, ⟨none, (.store 6 (.t 13) (.t 49)), none⟩, ⟨(some 14), (.mv (.t 50)), none⟩] []) (.seq (.reg [⟨(some 52), (.load true 6 (.t 7)), none⟩, ⟨(some 53), (.load true 6 (.t 8)), none⟩, ⟨(some 54), (.bslice 6 2 [(.p (.int .i64 0)), (.p (.bool false)), (.p (.int .i64 0)), (.p (.str [])), (.p .nilslice), (.p .nilslice)] [(0, (.t 52)), (1, (.t 53))] false), none⟩, ⟨(some 55), (.call (.k (.v (.c (.func 8 [])))) [(.k (.v (.c (.p (.str [101, 113]))))), (.t 54)]), none⟩, ⟨(some 51), (.mv (.t 55)), none⟩, ⟨(some 56), (.extract (.t 51) 0), none⟩, ⟨(some 57), (.extract (.t 51) 1), none⟩, ⟨(some 15), (.alloc [(.p (.int .i64 0)), (.p (.bool false)), (.p (.int .i64 0)), (.p (.str [])), (.p .nilslice), (.p .nilslice)] false), none⟩, ⟨none, (.store 6 (.t 15) (.t 56)), none⟩, ⟨(some 16), (.mv (.t 57)), none⟩] []) (.seq (.reg [⟨(some 59), (.load true 6 (.t 7)), none⟩, ⟨(some 60), (.mv (.t 2)), none⟩, ⟨(some 61), (.call (.k (.v (.c (.func 9 [])))) [(.t 60)]), none⟩, ⟨(some 62), (.bslice 6 2 [(.p (.int .i64 0)), (.p (.bool false)), (.p (.int .i64 0)), (.p (.str [])), (.p .nilslice), (.p .nilslice)] [(0, (.t 59)), (1, (.t 61))] false), none⟩, ⟨(some 63), (.call (.k (.v (.c (.func 8 [])))) [(.k (.v (.c (.p (.str [97, 110, 100]))))), (.t 62)]), none⟩, ⟨(some 58), (.mv (.t 63)), none⟩, ⟨(some 64), (.extract (.t 58) 0), none⟩, ⟨(some 65), (.extract (.t 58) 1), none⟩, ⟨(some 17), (.alloc [(.p (.int .i64 0)), (.p (.bool false)), (.p (.int .i64 0)), (.p (.str [])), (.p .nilslice), (.p .nilslice)] false), none⟩, ⟨none, (.store 6 (.t 17) (.t 64)), none⟩, ⟨(some 18), (.mv (.t 65)), none⟩] [(0, 2), (0, 8), (2, 8), (3, 8), (4, 8)]) (.seq (.reg [⟨(some 67), (.mv (.t 2)), none⟩, ⟨(some 68), (.call (.k (.v (.c (.func 9 [])))) [(.t 67)]), none⟩, ⟨(some 69), (.load true 6 (.t 8)), none⟩, ⟨(some 70), (.bslice 6 2 [(.p (.int .i64 0)), (.p (.bool false)), (.p (.int .i64 0)), (.p (.str [])), (.p .nilslice), (.p .nilslice)] [(0, (.t 68)), (1, (.t 69))] false), none⟩, ⟨(some 71), (.call (.k (.v (.c (.func 8 [])))) [(.k (.v (.c (.p (.str [111, 114]))))), (.t 70)]), none⟩, ⟨(some 66), (.mv (.t 71)), none⟩, ⟨(some 72), (.extract (.t 66) 0), none⟩, ⟨(some 73), (.extract (.t 66) 1), none⟩, ⟨(some 19), (.alloc [(.p (.int .i64 0)), (.p (.bool false)), (.p (.int .i64 0)), (.p (.str [])), (.p .nilslice), (.p .nilslice)] false), none⟩, ⟨none, (.store 6 (.t 19) (.t 72)), none⟩, ⟨(some 20), (.mv (.t 73)), none⟩] [(1, 2), (1, 8), (2, 8), (3, 8), (4, 8)]) (.seq (.reg [⟨(some 75), (.load true 6 (.t 7)), none⟩, ⟨(some 76), (.mv (.t 2)), none⟩, ⟨(some 77), (.call (.k (.v (.c (.func 9 [])))) [(.t 76)]), none⟩, ⟨(some 78), (.bslice 6 2 [(.p (.int .i64 0)), (.p (.bool false)), (.p (.int .i64 0)), (.p (.str [])), (.p .nilslice), (.p .nilslice)] [(0, (.t 75)), (1, (.t 77))] false), none⟩, ⟨(some 79), (.call (.k (.v (.c (.func 8 [])))) [(.k (.v (.c (.p (.str [101, 113]))))), (.t 78)]), none⟩, ⟨(some 74), (.mv (.t 79)), none⟩, ⟨(some 80), (.extract (.t 74) 0), none⟩, ⟨(some 81), (.extract (.t 74) 1), none⟩, ⟨(some 21), (.alloc [(.p (.int .i64 0)), (.p (.bool false)), (.p (.int .i64 0)), (.p (.str [])), (.p .nilslice), (.p .nilslice)] false), none⟩, ⟨none, (.store 6 (.t 21) (.t 80)), none⟩, ⟨(some 22), (.mv (.t 81)), none⟩] [(0, 2), (0, 8), (2, 8), (3, 8), (4, 8)]) (.seq (.reg [⟨(some 83), (.build [(.p (.int .i64 0)), (.p (.bool false)), (.p (.int .i64 0)), (.p (.str [])), (.p .nilslice), (.p .nilslice)] []), none⟩, ⟨(some 84), (.build [(.p (.int .i64 0)), (.p (.bool false)), (.p (.int .i64 0)), (.p (.str [])), (.p .nilslice), (.p .nilslice)] []), none⟩, ⟨(some 85), (.bslice 6 2 [(.p (.int .i64 0)), (.p (.bool false)), (.p (.int .i64 0)), (.p (.str [])), (.p .nilslice), (.p .nilslice)] [(0, (.t 83)), (1, (.t 84))] false), none⟩, ⟨(some 86), (.call (.k (.v (.c (.func 8 [])))) [(.k (.v (.c (.p (.str [101, 113]))))), (.t 85)]), none⟩, ⟨(some 82), (.mv (.t 86)), none⟩, ⟨(some 87), (.extract (.t 82) 0), none⟩, ⟨(some 88), (.extract (.t 82) 1), none⟩, ⟨(some 23), (.alloc [(.p (.int .i64 0)), (.p (.bool false)), (.p (.int .i64 0)), (.p (.str [])), (.p .nilslice), (.p .nilslice)] false), none⟩, ⟨none, (.store 6 (.t 23) (.t 87)), none⟩, ⟨(some 24), (.mv (.t 88)), none⟩] []) (.seq (.reg [⟨(some 89), (.mv (.t 10)), none⟩, ⟨(some 90), (.bin .eql 0 (.t 89) (.k (.v (.c (.p (.int .i64 0)))))), none⟩, ⟨(some 91), (.mv (.t 90)), none⟩, ⟨(some 92), (.faddr 1 (.t 9)), (some (91, true))⟩, ⟨(some 93), (.load false 1 (.t 92)), (some (91, true))⟩, ⟨(some 94), (.mv (.t 0)), (some (91, true))⟩, ⟨(some 95), (.mv (.t 94)), (some (91, true))⟩, ⟨(some 96), (.mv (.t 1)), (some (95, true))⟩, ⟨(some 97), (.pick (.t 95) (.t 96) (.k (.v (.c (.p (.bool false)))))), (some (91, true))⟩, ⟨(some 98), (.bin .eql 5 (.t 93) (.t 97)), (some (91, true))⟩, ⟨(some 99), (.pick (.t 91) (.t 98) (.k (.v (.c (.p (.bool false)))))), none⟩, ⟨(some 100), (.mv (.t 99)), none⟩, ⟨(some 101), (.mv (.t 12)), (some (100, true))⟩, ⟨(some 102), (.bin .eql 0 (.t 101) (.k (.v (.c (.p (.int .i64 0)))))), (some (100, true))⟩, ⟨(some 103), (.pick (.t 100) (.t 102) (.k (.v (.c (.p (.bool false)))))), none⟩, ⟨(some 104), (.mv (.t 103)), none⟩, ⟨(some 105), (.faddr 1 (.t 11)), (some (104, true))⟩, ⟨(some 106), (.load false 1 (.t 105)), (some (104, true))⟩, ⟨(some 107), (.mv (.t 0)), (some (104, true))⟩, ⟨(some 108), (.mv (.t 107)), (some (104, true))⟩, ⟨(some 109), (.mv (.t 1)), (some (108, false))⟩, ⟨(some 110), (.pick (.t 108) (.k (.v (.c (.p (.bool true))))) (.t 109)), (some (104, true))⟩, ⟨(some 111), (.bin .eql 5 (.t 106) (.t 110)), (some (104, true))⟩, ⟨(some 112), (.pick (.t 104) (.t 111) (.k (.v (.c (.p (.bool false)))))), none⟩, ⟨(some 113), (.mv (.t 112)), none⟩, ⟨(some 114), (.mv (.t 14)), (some (113, true))⟩, ⟨(some 115), (.bin .eql 0 (.t 114) (.k (.v (.c (.p (.int .i64 0)))))), (some (113, true))⟩, ⟨(some 116), (.pick (.t 113) (.t 115) (.k (.v (.c (.p (.bool false)))))), none⟩, ⟨(some 117), (.mv (.t 116)), none⟩, ⟨(some 118), (.faddr 1 (.t 13)), (some (117, true))⟩, ⟨(some 119), (.load false 1 (.t 118)), (some (117, true))⟩, ⟨(some 120), (.mv (.t 0)), (some (117, true))⟩, ⟨(some 121), (.bin .neq 5 (.t 119) (.t 120)), (some (117, true))⟩, ⟨(some 122), (.pick (.t 117) (.t 121) (.k (.v (.c (.p (.bool false)))))), none⟩, ⟨(some 123), (.mv (.t 122)), none⟩, ⟨(some 124), (.mv (.t 16)), (some (123, true))⟩, ⟨(some 125), (.bin .eql 0 (.t 124) (.k (.v (.c (.p (.int .i64 0)))))), (some (123, true))⟩, ⟨(some 126), (.pick (.t 123) (.t 125) (.k (.v (.c (.p (.bool false)))))), none⟩, ⟨(some 127), (.mv (.t 126)), none⟩, ⟨(some 128), (.faddr 1 (.t 15)), (some (127, true))⟩, ⟨(some 129), (.load false 1 (.t 128)), (some (127, true))⟩, ⟨(some 130), (.mv (.t 0)), (some (127, true))⟩, ⟨(some 131), (.mv (.t 1)), (some (127, true))⟩, ⟨(some 132), (.bin .eql 5 (.t 130) (.t 131)), (some (127, true))⟩, ⟨(some 133), (.bin .eql 5 (.t 129) (.t 132)), (some (127, true))⟩, ⟨(some 134), (.pick (.t 127) (.t 133) (.k (.v (.c (.p (.bool false)))))), none⟩, ⟨(some 135), (.mv (.t 134)), none⟩, ⟨(some 136), (.mv (.t 18)), (some (135, true))⟩, ⟨(some 137), (.bin .eql 0 (.t 136) (.k (.v (.c (.p (.int .i64 17)))))), (some (135, true))⟩, ⟨(some 138), (.pick (.t 135) (.t 137) (.k (.v (.c (.p (.bool false)))))), none⟩, ⟨(some 139), (.mv (.t 138)), none⟩, ⟨(some 140), (.mv (.t 20)), (some (139, true))⟩, ⟨(some 141), (.bin .eql 0 (.t 140) (.k (.v (.c (.p (.int .i64 17)))))), (some (139, true))⟩, ⟨(some 142), (.pick (.t 139) (.t 141) (.k (.v (.c (.p (.bool false)))))), none⟩, ⟨(some 143), (.mv (.t 142)), none⟩, ⟨(some 144), (.mv (.t 22)), (some (143, true))⟩, ⟨(some 145), (.bin .eql 0 (.t 144) (.k (.v (.c (.p (.int .i64 17)))))), (some (143, true))⟩, ⟨(some 146), (.pick (.t 143) (.t 145) (.k (.v (.c (.p (.bool false)))))), none⟩, ⟨(some 147), (.mv (.t 146)), none⟩, ⟨(some 148), (.mv (.t 24)), (some (147, true))⟩, ⟨(some 149), (.bin .eql 0 (.t 148) (.k (.v (.c (.p (.int .i64 17)))))), (some (147, true))⟩, ⟨(some 150), (.pick (.t 147) (.t 149) (.k (.v (.c (.p (.bool false)))))), none⟩, ⟨(some 6), (.mv (.t 150)), none⟩] []) .ret)))))))))))) }
theorem t3 : compF Tryd.prog (globs2 tabs opq) false true Tryd.f3 = some c3.erase := by kernel_rfl
noncomputable def b3_0 (O : Oracle) (R : Jump) (q : Nat) (x0 x1 x2 : TVal) (h : Heap) : Res1 :=
  vcall O (.v (.c (.func 7 []))) [] h 25 fun x25 h =>
  vop O (.un .not (.k x25)) h 26 fun x26 h =>
  vif x26 (
  tcomp (kB false) fun c0 => vfin true q [c0] h)
  (vop O (.build [(.p (.int .i64 0)), (.p (.bool false)), (.p (.int .i64 0)), (.p (.str [])), (.p .nilslice), (.p .nilslice)] [(0, 1, (.k (kI 1))), (1, 1, (.k x0))]) h 28 fun x28 h =>
  vop O (.build [(.p (.int .i64 0)), (.p (.bool false)), (.p (.int .i64 0)), (.p (.str [])), (.p .nilslice), (.p .nilslice)] [(0, 1, (.k (kI 1))), (1, 1, (.k x1))]) h 30 fun x30 h =>
  vop O (.alloc [(.p (.int .i64 0)), (.p (.bool false)), (.p (.int .i64 0)), (.p (.str [])), (.p .nilslice), (.p .nilslice)] false) h 7 fun x7 h =>
  vop O (.alloc [(.p (.int .i64 0)), (.p (.bool false)), (.p (.int .i64 0)), (.p (.str [])), (.p .nilslice), (.p .nilslice)] false) h 8 fun x8 h =>
  vstore 6 x7 x28 h fun _ h =>
  vstore 6 x8 x30 h fun _ h =>
  vload true 6 x7 h fun x32 h =>
  vload true 6 x8 h fun x33 h =>
  vop O (.bslice 6 2 [(.p (.int .i64 0)), (.p (.bool false)), (.p (.int .i64 0)), (.p (.str [])), (.p .nilslice), (.p .nilslice)] [(0, (.k x32)), (1, (.k x33))] false) h 34 fun x34 h =>
  vcall O (.v (.c (.func 8 []))) [(kS [97, 110, 100]), x34] h 35 fun x35 h =>
  vext x35 0 h fun x36 h =>
  vext x35 1 h fun x37 h =>
  vop O (.alloc [(.p (.int .i64 0)), (.p (.bool false)), (.p (.int .i64 0)), (.p (.str [])), (.p .nilslice), (.p .nilslice)] false) h 9 fun x9 h =>
  vstore 6 x9 x36 h fun _ h =>
  vload true 6 x7 h fun x39 h =>
  vload true 6 x8 h fun x40 h =>
  vop O (.bslice 6 2 [(.p (.int .i64 0)), (.p (.bool false)), (.p (.int .i64 0)), (.p (.str [])), (.p .nilslice), (.p .nilslice)] [(0, (.k x39)), (1, (.k x40))] false) h 41 fun x41 h =>
  vcall O (.v (.c (.func 8 []))) [(kS [111, 114]), x41] h 42 fun x42 h =>
  vext x42 0 h fun x43 h =>
  vext x42 1 h fun x44 h =>
  vop O (.alloc [(.p (.int .i64 0)), (.p (.bool false)), (.p (.int .i64 0)), (.p (.str [])), (.p .nilslice), (.p .nilslice)] false) h 11 fun x11 h =>
  vstore 6 x11 x43 h fun _ h =>
  vload true 6 x7 h fun x46 h =>
  vop O (.bslice 6 1 [(.p (.int .i64 0)), (.p (.bool false)), (.p (.int .i64 0)), (.p (.str [])), (.p .nilslice), (.p .nilslice)] [(0, (.k x46))] false) h 47 fun x47 h =>
  vcall O (.v (.c (.func 8 []))) [(kS [110, 111, 116]), x47] h 48 fun x48 h =>
  vext x48 0 h fun x49 h =>
  vext x48 1 h fun x50 h =>
  vop O (.alloc [(.p (.int .i64 0)), (.p (.bool false)), (.p (.int .i64 0)), (.p (.str [])), (.p .nilslice), (.p .nilslice)] false) h 13 fun x13 h =>
  vstore 6 x13 x49 h fun _ h =>
  vload true 6 x7 h fun x52 h =>
  vload true 6 x8 h fun x53 h =>
  vop O (.bslice 6 2 [(.p (.int .i64 0)), (.p (.bool false)), (.p (.int .i64 0)), (.p (.str [])), (.p .nilslice), (.p .nilslice)] [(0, (.k x52)), (1, (.k x53))] false) h 54 fun x54 h =>
  vcall O (.v (.c (.func 8 []))) [(kS [101, 113]), x54] h 55 fun x55 h =>
  vext x55 0 h fun x56 h =>
  vext x55 1 h fun x57 h =>
  vop O (.alloc [(.p (.int .i64 0)), (.p (.bool false)), (.p (.int .i64 0)), (.p (.str [])), (.p .nilslice), (.p .nilslice)] false) h 15 fun x15 h =>
  vstore 6 x15 x56 h fun _ h =>
  vtouch O (.load true 6 (.k x7)) h 59 fun x59 h t0 =>
  vtouch O (.mv (.k x2)) h 60 fun x60 h t1 =>
  vtouch O (.call (.k (.v (.c (.func 9 [])))) [(.k x60)]) h 61 fun x61 h t2 =>
  vtouch O (.bslice 6 2 [(.p (.int .i64 0)), (.p (.bool false)), (.p (.int .i64 0)), (.p (.str [])), (.p .nilslice), (.p .nilslice)] [(0, (.k x59)), (1, (.k x61))] false) h 62 fun x62 h t3 =>
  vtouch O (.call (.k (.v (.c (.func 8 [])))) [(.k (kS [97, 110, 100])), (.k x62)]) h 63 fun x63 h t4 =>
  vtouch O (.mv (.k x63)) h 58 fun x58 h t5 =>
  vtouch O (.extract (.k x58) 0) h 64 fun x64 h t6 =>
  vtouch O (.extract (.k x58) 1) h 65 fun x65 h t7 =>
  vtouch O (.alloc [(.p (.int .i64 0)), (.p (.bool false)), (.p (.int .i64 0)), (.p (.str [])), (.p .nilslice), (.p .nilslice)] false) h 17 fun x17 h t8 =>
  vtouch O (.store 6 (.k x17) (.k x64)) h 1000000 fun _ h t9 =>
  vtouch O (.mv (.k x65)) h 18 fun x18 h t10 =>
  bif apartAll [t0, t1, t2, t3, t4, t5, t6, t7, t8, t9, t10] [(0, 2), (0, 8), (2, 8), (3, 8), (4, 8)] then
  vtouch O (.mv (.k x2)) h 67 fun x67 h t0 =>
  vtouch O (.call (.k (.v (.c (.func 9 [])))) [(.k x67)]) h 68 fun x68 h t1 =>
  vtouch O (.load true 6 (.k x8)) h 69 fun x69 h t2 =>
  vtouch O (.bslice 6 2 [(.p (.int .i64 0)), (.p (.bool false)), (.p (.int .i64 0)), (.p (.str [])), (.p .nilslice), (.p .nilslice)] [(0, (.k x68)), (1, (.k x69))] false) h 70 fun x70 h t3 =>
  vtouch O (.call (.k (.v (.c (.func 8 [])))) [(.k (kS [111, 114])), (.k x70)]) h 71 fun x71 h t4 =>
  vtouch O (.mv (.k x71)) h 66 fun x66 h t5 =>
  vtouch O (.extract (.k x66) 0) h 72 fun x72 h t6 =>
  vtouch O (.extract (.k x66) 1) h 73 fun x73 h t7 =>
  vtouch O (.alloc [(.p (.int .i64 0)), (.p (.bool false)), (.p (.int .i64 0)), (.p (.str [])), (.p .nilslice), (.p .nilslice)] false) h 19 fun x19 h t8 =>
  vtouch O (.store 6 (.k x19) (.k x72)) h 1000000 fun _ h t9 =>
  vtouch O (.mv (.k x73)) h 20 fun x20 h t10 =>
  bif apartAll [t0, t1, t2, t3, t4, t5, t6, t7, t8, t9, t10] [(1, 2), (1, 8), (2, 8), (3, 8), (4, 8)] then
  vtouch O (.load true 6 (.k x7)) h 75 fun x75 h t0 =>
  vtouch O (.mv (.k x2)) h 76 fun x76 h t1 =>
  vtouch O (.call (.k (.v (.c (.func 9 [])))) [(.k x76)]) h 77 fun x77 h t2 =>
  vtouch O (.bslice 6 2 [(.p (.int .i64 0)), (.p (.bool false)), (.p (.int .i64 0)), (.p (.str [])), (.p .nilslice), (.p .nilslice)] [(0, (.k x75)), (1, (.k x77))] false) h 78 fun x78 h t3 =>
  vtouch O (.call (.k (.v (.c (.func 8 [])))) [(.k (kS [101, 113])), (.k x78)]) h 79 fun x79 h t4 =>
  vtouch O (.mv (.k x79)) h 74 fun x74 h t5 =>
  vtouch O (.extract (.k x74) 0) h 80 fun x80 h t6 =>
  vtouch O (.extract (.k x74) 1) h 81 fun x81 h t7 =>
  vtouch O (.alloc [(.p (.int .i64 0)), (.p (.bool false)), (.p (.int .i64 0)), (.p (.str [])), (.p .nilslice), (.p .nilslice)] false) h 21 fun x21 h t8 =>
  vtouch O (.store 6 (.k x21) (.k x80)) h 1000000 fun _ h t9 =>
  vtouch O (.mv (.k x81)) h 22 fun x22 h t10 =>
  bif apartAll [t0, t1, t2, t3, t4, t5, t6, t7, t8, t9, t10] [(0, 2), (0, 8), (2, 8), (3, 8), (4, 8)] then
  vop O (.build [(.p (.int .i64 0)), (.p (.bool false)), (.p (.int .i64 0)), (.p (.str [])), (.p .nilslice), (.p .nilslice)] []) h 83 fun x83 h =>
  vop O (.build [(.p (.int .i64 0)), (.p (.bool false)), (.p (.int .i64 0)), (.p (.str [])), (.p .nilslice), (.p .nilslice)] []) h 84 fun x84 h =>
  vop O (.bslice 6 2 [(.p (.int .i64 0)), (.p (.bool false)), (.p (.int .i64 0)), (.p (.str [])), (.p .nilslice), (.p .nilslice)] [(0, (.k x83)), (1, (.k x84))] false) h 85 fun x85 h =>
  vcall O (.v (.c (.func 8 []))) [(kS [101, 113]), x85] h 86 fun x86 h =>
  vext x86 0 h fun x87 h =>
  vext x86 1 h fun x88 h =>
  vop O (.alloc [(.p (.int .i64 0)), (.p (.bool false)), (.p (.int .i64 0)), (.p (.str [])), (.p .nilslice), (.p .nilslice)] false) h 23 fun x23 h =>
  vstore 6 x23 x87 h fun _ h =>
  vbin .eql 0 x37 (kI 0) h fun x90 h =>
  vguard x90 true (fun kk => vfaddr 1 x9 h kk) h fun x92 h =>
  vguard x90 true (fun kk => vload false 1 x92 h kk) h fun x93 h =>
  vguard x90 true (fun kk => kk x0 h) h fun x94 h =>
  vguard x90 true (fun kk => kk x94 h) h fun x95 h =>
  vguard x95 true (fun kk => kk x1 h) h fun x96 h =>
  vguard x90 true (fun kk => vop O (.pick (.k x95) (.k x96) (.k (kB false))) h 97 kk) h fun x97 h =>
  vguard x90 true (fun kk => vbin .eql 5 x93 x97 h kk) h fun x98 h =>
  vop O (.pick (.k x90) (.k x98) (.k (kB false))) h 99 fun x99 h =>
  vguard x99 true (fun kk => kk x44 h) h fun x101 h =>
  vguard x99 true (fun kk => vbin .eql 0 x101 (kI 0) h kk) h fun x102 h =>
  vop O (.pick (.k x99) (.k x102) (.k (kB false))) h 103 fun x103 h =>
  vguard x103 true (fun kk => vfaddr 1 x11 h kk) h fun x105 h =>
  vguard x103 true (fun kk => vload false 1 x105 h kk) h fun x106 h =>
  vguard x103 true (fun kk => kk x0 h) h fun x107 h =>
  vguard x103 true (fun kk => kk x107 h) h fun x108 h =>
  vguard x108 false (fun kk => kk x1 h) h fun x109 h =>
  vguard x103 true (fun kk => vop O (.pick (.k x108) (.k (kB true)) (.k x109)) h 110 kk) h fun x110 h =>
  vguard x103 true (fun kk => vbin .eql 5 x106 x110 h kk) h fun x111 h =>
  vop O (.pick (.k x103) (.k x111) (.k (kB false))) h 112 fun x112 h =>
  vguard x112 true (fun kk => kk x50 h) h fun x114 h =>
  vguard x112 true (fun kk => vbin .eql 0 x114 (kI 0) h kk) h fun x115 h =>
  vop O (.pick (.k x112) (.k x115) (.k (kB false))) h 116 fun x116 h =>
  vguard x116 true (fun kk => vfaddr 1 x13 h kk) h fun x118 h =>
  vguard x116 true (fun kk => vload false 1 x118 h kk) h fun x119 h =>
  vguard x116 true (fun kk => kk x0 h) h fun x120 h =>
  vguard x116 true (fun kk => vbin .neq 5 x119 x120 h kk) h fun x121 h =>
  vop O (.pick (.k x116) (.k x121) (.k (kB false))) h 122 fun x122 h =>
  vguard x122 true (fun kk => kk x57 h) h fun x124 h =>
  vguard x122 true (fun kk => vbin .eql 0 x124 (kI 0) h kk) h fun x125 h =>
  vop O (.pick (.k x122) (.k x125) (.k (kB false))) h 126 fun x126 h =>
  vguard x126 true (fun kk => vfaddr 1 x15 h kk) h fun x128 h =>
  vguard x126 true (fun kk => vload false 1 x128 h kk) h fun x129 h =>
  vguard x126 true (fun kk => kk x0 h) h fun x130 h =>
  vguard x126 true (fun kk => kk x1 h) h fun x131 h =>
  vguard x126 true (fun kk => vbin .eql 5 x130 x131 h kk) h fun x132 h =>
  vguard x126 true (fun kk => vbin .eql 5 x129 x132 h kk) h fun x133 h =>
  vop O (.pick (.k x126) (.k x133) (.k (kB false))) h 134 fun x134 h =>
  vguard x134 true (fun kk => kk x18 h) h fun x136 h =>
  vguard x134 true (fun kk => vbin .eql 0 x136 (kI 17) h kk) h fun x137 h =>
  vop O (.pick (.k x134) (.k x137) (.k (kB false))) h 138 fun x138 h =>
  vguard x138 true (fun kk => kk x20 h) h fun x140 h =>
  vguard x138 true (fun kk => vbin .eql 0 x140 (kI 17) h kk) h fun x141 h =>
  vop O (.pick (.k x138) (.k x141) (.k (kB false))) h 142 fun x142 h =>
  vguard x142 true (fun kk => kk x22 h) h fun x144 h =>
  vguard x142 true (fun kk => vbin .eql 0 x144 (kI 17) h kk) h fun x145 h =>
  vop O (.pick (.k x142) (.k x145) (.k (kB false))) h 146 fun x146 h =>
  vguard x146 true (fun kk => kk x88 h) h fun x148 h =>
  vguard x146 true (fun kk => vbin .eql 0 x148 (kI 17) h kk) h fun x149 h =>
  vop O (.pick (.k x146) (.k x149) (.k (kB false))) h 150 fun x150 h =>
  tcomp x150 fun c0 => vfin true q [c0] h
  else none
  else none
  else none)
theorem e3_0 (O : Oracle) (R : Jump) (q : Nat) (x0 x1 x2 : TVal) (h : Heap) : b3_0 O R q x0 x1 x2 h = stepF c3 O R q 0 [x0, x1, x2] h := by kernel_rfl
noncomputable def d3 : BlkF := fun O R q => [.s fun y0 => .s fun y1 => .s fun y2 => .z fun h => b3_0 O R q y0 y1 y2 h]
theorem o3 (O : Oracle) (R : Jump) (q : Nat) : HoldsAll c3 O R q 0 (d3 O R q) := ⟨fun y0 y1 y2 h => e3_0 O R q y0 y1 y2 h, trivial⟩
/- sprue/spruelaw15.CallsTurns -/
def c4 : MFunc := { np := 3, res := [.t 6], frz := true, body := (.seq (.reg [⟨(some 6), (.mv (.k (.v (.c (.p (.bool false)))))), none⟩] []) (.seq (.seq (.reg [⟨(some 17), (.call (.k (.v (.c (.func 7 [])))) []), none⟩, ⟨(some 18), (.un .not (.t 17)), none⟩] []) (.cond (.t 18) (.seq (.reg [⟨(some 6), (.mv (.k (.v (.c (.p (.bool false)))))), none⟩] []) .ret) .skip)) (.seq (.reg [⟨(some 19), (.mv (.t 0)), none⟩, ⟨(some 20), (.call (.k (.v (.c (.func 10 [])))) [(.t 19), (.k (.v (.c (.p (.int .i64 5)))))]), none⟩, ⟨(some 21), (.bin .add 0 (.k (.v (.c (.p (.int .i64 1))))) (.t 20)), none⟩, ⟨(some 22), (.mv (.t 2)), none⟩, ⟨(some 23), (.call (.k (.v (.c (.func 10 [])))) [(.t 22), (.k (.v (.c (.p (.int .i64 20)))))]), none⟩, ⟨(some 0), (.mv (.t 21)), none⟩, ⟨(some 2), (.mv (.t 23)), none⟩] []) (.seq (.reg [⟨(some 24), (.mv (.t 1)), none⟩, ⟨(some 25), (.call (.k (.v (.c (.func 10 [])))) [(.t 24), (.k (.v (.c (.p (.int .i64 12)))))]), none⟩, ⟨(some 26), (.bin .sub 0 (.t 25) (.k (.v (.c (.p (.int .i64 1)))))), none⟩, ⟨(some 1), (.mv (.t 26)), none⟩] []) (.seq (.reg [⟨(some 27), (.mv (.t 1)), none⟩, ⟨(some 28), (.build [(.p (.str [])), (.p .nilslice), (.p (.int .i64 0))] [(0, 1, (.k (.v (.c (.p (.str [102])))))), (2, 1, (.t 27))]), none⟩, ⟨(some 7), (.alloc [(.p (.str [])), (.p .nilslice), (.p (.int .i64 0))] false), none⟩, ⟨none, (.store 3 (.t 7) (.t 28)), none⟩] []) (.seq (.seq (.reg [⟨(some 8), (.mv (.k (.v (.c (.p (.int .i64 0)))))), none⟩] []) (.block 0 (.loop 1 [0, 1, 2, 7, 8] (.seq (.seq (.reg [⟨(some 29), (.mv (.t 8)), none⟩, ⟨(some 30), (.mv (.t 0)), none⟩, ⟨(some 31), (.bin .lss 0 (.t 29) (.t 30)), none⟩] []) (.cond (.t 31) .skip (.exit 0))) (.seq (.block 1 (.reg [⟨(some 34), (.faddr 1 (.t 7)), none⟩, ⟨(some 35), (.load false 1 (.t 34)), none⟩, ⟨(some 36), (.mv (.t 8)), none⟩, ⟨(some 37), (.bin .mul 0 (.k (.v (.c (.p (.int .i64 10))))) (.t 36)), none⟩, ⟨(some 38), (.call (.k (.v (.c (.func 9 [])))) [(.t 37)]), none⟩, ⟨(some 39), (.bslice 6 1 [(.p (.int .i64 0)), (.p (.bool false)), (.p (.int .i64 0)), (.p (.str [])), (.p .nilslice), (.p .nilslice)] [(0, (.t 38))] false), none⟩, ⟨(some 40), (.append 6 88 false (.t 35) (.t 39)), none⟩, ⟨(some 41), (.faddr 1 (.t 7)), none⟩, ⟨none, (.store 1 (.t 41) (.t 40)), none⟩] [(1, 4), (1, 5)])) (.reg [⟨(some 32), (.mv (.t 8)), none⟩, ⟨(some 33), (.bin .add 0 (.t 32) (.k (.v (.c (.p (.int .i64 1)))))), none⟩, ⟨(some 8), (.mv (.t 33)), none⟩] [])))))) (.mark 2 [0, 1, 2, 7] (.seq (.reg [⟨(some 42), (.load true 3 (.t 7)), none⟩, ⟨(some 43), (.call (.k (.v (.c (.func 9 [])))) [(.k (.v (.c (.p (.int .i64 7)))))]), none⟩, ⟨(some 44), (.bslice 6 1 [(.p (.int .i64 0)), (.p (.bool false)), (.p (.int .i64 0)), (.p (.str [])), (.p .nilslice), (.p .nilslice)] [(0, (.t 43))] false), none⟩, ⟨(some 45), (.build [(.p (.str [])), (.p .nilslice), (.p (.int .i64 0))] [(0, 1, (.k (.v (.c (.p (.str [102])))))), (1, 1, (.t 44)), (2, 1, (.k (.v (.c (.p (.int .i64 (-1)))))))]), none⟩, ⟨(some 46), (.build [(.p (.str [])), (.p .nilslice), (.p (.int .i64 0))] [(0, 1, (.k (.v (.c (.p (.str [103])))))), (2, 1, (.k (.v (.c (.p (.int .i64 (-1)))))))]), none⟩, ⟨(some 47), (.bslice 3 3 [(.p (.str [])), (.p .nilslice), (.p (.int .i64 0))] [(0, (.t 42)), (1, (.t 45)), (2, (.t 46))] false), none⟩, ⟨(some 48), (.call (.k (.v (.c (.func 11 [])))) [(.t 47)]), none⟩, ⟨(some 9), (.mv (.t 48)), none⟩] [(0, 1), (0, 2)]) (.seq (.seq (.reg [⟨(some 10), (.mv (.k (.v (.c (.p (.int .i64 0)))))), none⟩] []) (.block 2 (.loop 3 [0, 1, 2, 9, 10] (.seq (.seq (.reg [⟨(some 49), (.mv (.t 10)), none⟩, ⟨(some 50), (.mv (.t 2)), none⟩, ⟨(some 51), (.bin .lss 0 (.t 49) (.t 50)), none⟩] []) (.cond (.t 51) .skip (.exit 2))) (.seq (.block 3 (.seq (.reg [⟨(some 55), (.mv (.t 9)), none⟩, ⟨(some 56), (.call (.k (.v (.c (.func 12 [])))) [(.t 55), (.k (.v (.c (.p (.str [102])))))]), none⟩, ⟨(some 54), (.mv (.t 56)), none⟩, ⟨(some 57), (.extract (.t 54) 0), none⟩, ⟨(some 58), (.extract (.t 54) 1), none⟩, ⟨(some 11), (.alloc [(.p (.int .i64 0)), (.p (.bool false)), (.p (.int .i64 0)), (.p (.str [])), (.p .nilslice), (.p .nilslice)] false), none⟩, ⟨none, (.store 6 (.t 11) (.t 57)), none⟩, ⟨(some 12), (.mv (.t 58)), none⟩] []) (.seq (.reg [⟨(some 59), (.mv (.t 10)), none⟩, ⟨(some 60), (.mv (.t 1)), none⟩, ⟨(some 61), (.bin .eql 0 (.t 59) (.t 60)), none⟩, ⟨(some 62), (.mv (.t 61)), none⟩, ⟨(some 63), (.mv (.t 12)), (some (62, true))⟩, ⟨(some 64), (.bin .neq 0 (.t 63) (.k (.v (.c (.p (.int .i64 33)))))), (some (62, true))⟩, ⟨(some 65), (.pick (.t 62) (.t 64) (.k (.v (.c (.p (.bool false)))))), none⟩, ⟨(some 66), (.mv (.t 65)), none⟩, ⟨(some 67), (.mv (.t 10)), (some (66, false))⟩, ⟨(some 68), (.mv (.t 1)), (some (66, false))⟩, ⟨(some 69), (.bin .neq 0 (.t 67) (.t 68)), (some (66, false))⟩, ⟨(some 70), (.mv (.t 69)), (some (66, false))⟩, ⟨(some 71), (.mv (.t 12)), (some (70, true))⟩, ⟨(some 72), (.bin .neq 0 (.t 71) (.k (.v (.c (.p (.int .i64 0)))))), (some (70, true))⟩, ⟨(some 73), (.mv (.t 72)), (some (70, true))⟩, ⟨(some 74), (.faddr 2 (.t 11)), (some (73, false))⟩, ⟨(some 75), (.load false 1 (.t 74)), (some (73, false))⟩, ⟨(some 76), (.mv (.t 10)), (some (73, false))⟩, ⟨(some 77), (.mv (.t 0)), (some (73, false))⟩, ⟨(some 78), (.bin .rem 0 (.t 76) (.t 77)), (some (73, false))⟩, ⟨(some 79), (.bin .mul 0 (.k (.v (.c (.p (.int .i64 10))))) (.t 78)), (some (73, false))⟩, ⟨(some 80), (.bin .neq 0 (.t 75) (.t 79)), (some (73, false))⟩, ⟨(some 81), (.pick (.t 73) (.k (.v (.c (.p (.bool true))))) (.t 80)), (some (70, true))⟩, ⟨(some 82), (.pick (.t 70) (.t 81) (.k (.v (.c (.p (.bool false)))))), (some (66, false))⟩, ⟨(some 83), (.pick (.t 66) (.k (.v (.c (.p (.bool true))))) (.t 82)), none⟩, ⟨(some 84), (.mv (.t 83)), none⟩, ⟨(some 85), (.mv (.t 9)), (some (84, false))⟩, ⟨(some 86), (.call (.k (.v (.c (.func 13 [])))) [(.t 85), (.k (.v (.c (.p (.str [102])))))]), (some (84, false))⟩, ⟨(some 87), (.mv (.t 10)), (some (84, false))⟩, ⟨(some 88), (.bin .add 0 (.t 87) (.k (.v (.c (.p (.int .i64 1)))))), (some (84, false))⟩, ⟨(some 89), (.bin .neq 0 (.t 86) (.t 88)), (some (84, false))⟩, ⟨(some 90), (.pick (.t 84) (.k (.v (.c (.p (.bool true))))) (.t 89)), none⟩] []) (.cond (.t 90) (.seq (.reg [⟨(some 6), (.mv (.k (.v (.c (.p (.bool false)))))), none⟩] []) .ret) .skip)))) (.reg [⟨(some 52), (.mv (.t 10)), none⟩, ⟨(some 53), (.bin .add 0 (.t 52) (.k (.v (.c (.p (.int .i64 1)))))), none⟩, ⟨(some 10), (.mv (.t 53)), none⟩] [])))))) (.mark 4 [2, 9] (.seq (.reg [⟨(some 92), (.mv (.t 9)), none⟩, ⟨(some 93), (.call (.k (.v (.c (.func 12 [])))) [(.t 92), (.k (.v (.c (.p (.str [103])))))]), none⟩, ⟨(some 91), (.mv (.t 93)), none⟩, ⟨(some 94), (.extract (.t 91) 0), none⟩, ⟨(some 95), (.extract (.t 91) 1), none⟩, ⟨(some 13), (.alloc [(.p (.int .i64 0)), (.p (.bool false)), (.p (.int .i64 0)), (.p (.str [])), (.p .nilslice), (.p .nilslice)] false), none⟩, ⟨none, (.store 6 (.t 13) (.t 94)), none⟩, ⟨(some 14), (.mv (.t 95)), none⟩] []) (.seq (.reg [⟨(some 97), (.mv (.t 9)), none⟩, ⟨(some 98), (.call (.k (.v (.c (.func 12 [])))) [(.t 97), (.k (.v (.c (.p (.str [104])))))]), none⟩, ⟨(some 96), (.mv (.t 98)), none⟩, ⟨(some 99), (.extract (.t 96) 0), none⟩, ⟨(some 100), (.extract (.t 96) 1), none⟩, ⟨(some 15), (.alloc [(.p (.int .i64 0)), (.p (.bool false)), (.p (.int .i64 0)), (.p (.str [])), (.p .nilslice), (.p .nilslice)] false), none⟩, ⟨none, (.store 6 (.t 15) (.t 99)), none⟩, ⟨(some 16), (.mv (.t 100)), none⟩] []) (.seq (.reg [⟨(some 101), (.mv (.t 14)), none⟩, ⟨(some 102), (.bin .eql 0 (.t 101) (.k (.v (.c (.p (.int .i64 33)))))), none⟩, ⟨(some 103), (.mv (.t 102)), none⟩, ⟨(some 104), (.mv (.t 9)), (some (103, true))⟩, ⟨(some 105), (.call (.k (.v (.c (.func 13 [])))) [(.t 104), (.k (.v (.c (.p (.str [103])))))]), (some (103, true))⟩, ⟨(some 106), (.bin .eql 0 (.t 105) (.k (.v (.c (.p (.int .i64 1)))))), (some (103, true))⟩, ⟨(some 107), (.pick (.t 103) (.t 106) (.k (.v (.c (.p (.bool false)))))), none⟩, ⟨(some 108), (.mv (.t 107)), none⟩, ⟨(some 109), (.mv (.t 16)), (some (108, true))⟩, ⟨(some 110), (.bin .eql 0 (.t 109) (.k (.v (.c (.p (.int .i64 15)))))), (some (108, true))⟩, ⟨(some 111), (.pick (.t 108) (.t 110) (.k (.v (.c (.p (.bool false)))))), none⟩, ⟨(some 112), (.mv (.t 111)), none⟩, ⟨(some 113), (.mv (.t 9)), (some (112, true))⟩, ⟨(some 114), (.call (.k (.v (.c (.func 13 [])))) [(.t 113), (.k (.v (.c (.p (.str [104])))))]), (some (112, true))⟩, ⟨(some 115), (.bin .eql 0 (.t 114) (.k (.v (.c (.p (.int .i64 0)))))), (some (112, true))⟩, ⟨(some 116), (.pick (.t 112) (.t 115) (.k (.v (.c (.p (.bool false)))))), none⟩, ⟨(some 117), (.mv (.t 116)), none⟩, ⟨(some 118), (.mv (.t 9)), (some (117, true))⟩, ⟨(some 119), (.call (.k (.v (.c (.func 13 [])))) [(.t 118), (.k (.v (.c (.p (.str [102])))))]), (some (117, true))⟩, ⟨(some 120), (.mv (.t 2)), (some (117, true))⟩, ⟨(some 121), (.bin .eql 0 (.t 119) (.t 120)), (some (117, true))⟩, ⟨(some 122), (.pick (.t 117) (.t 121) (.k (.v (.c (.p (.bool false)))))), none⟩, ⟨(some 6), (.mv (.t 122)), none⟩] []) .ret))))))))))))) }
theorem t4 : compF Tryd.prog (globs2 tabs opq) false true Tryd.f4 = some c4.erase := by kernel_rfl
noncomputable def b4_0 (O : Oracle) (R : Jump) (q : Nat) (x0 x1 x2 : TVal) (h : Heap) : Res1 :=
  vcall O (.v (.c (.func 7 []))) [] h 17 fun x17 h =>
  vop O (.un .not (.k x17)) h 18 fun x18 h =>
  vif x18 (
  tcomp (kB false) fun c0 => vfin true q [c0] h)
  (vcall O (.v (.c (.func 10 []))) [x0, (kI 5)] h 20 fun x20 h =>
  vbin .add 0 (kI 1) x20 h fun x21 h =>
  vcall O (.v (.c (.func 10 []))) [x2, (kI 20)] h 23 fun x23 h =>
  vcall O (.v (.c (.func 10 []))) [x1, (kI 12)] h 25 fun x25 h =>
  vbin .sub 0 x25 (kI 1) h fun x26 h =>
  vop O (.build [(.p (.str [])), (.p .nilslice), (.p (.int .i64 0))] [(0, 1, (.k (kS [102]))), (2, 1, (.k x26))]) h 28 fun x28 h =>
  vop O (.alloc [(.p (.str [])), (.p .nilslice), (.p (.int .i64 0))] false) h 7 fun x7 h =>
  vstore 3 x7 x28 h fun _ h =>
  R 1 [x21, x26, x23, x7, (kI 0)] h)
theorem e4_0 (O : Oracle) (R : Jump) (q : Nat) (x0 x1 x2 : TVal) (h : Heap) : b4_0 O R q x0 x1 x2 h = stepF c4 O R q 0 [x0, x1, x2] h := by kernel_rfl
noncomputable def b4_1 (O : Oracle) (R : Jump) (q : Nat) (x0 x1 x2 x7 x8 : TVal) (h : Heap) : Res1 :=
  vbin .lss 0 x8 x0 h fun x31 h =>
  vif x31 (
  vtouch O (.faddr 1 (.k x7)) h 34 fun x34 h t0 =>
  vtouch O (.load false 1 (.k x34)) h 35 fun x35 h t1 =>
  vtouch O (.mv (.k x8)) h 36 fun x36 h t2 =>
  vtouch O (.bin .mul 0 (.k (kI 10)) (.k x36)) h 37 fun x37 h t3 =>
  vtouch O (.call (.k (.v (.c (.func 9 [])))) [(.k x37)]) h 38 fun x38 h t4 =>
  vtouch O (.bslice 6 1 [(.p (.int .i64 0)), (.p (.bool false)), (.p (.int .i64 0)), (.p (.str [])), (.p .nilslice), (.p .nilslice)] [(0, (.k x38))] false) h 39 fun x39 h t5 =>
  vtouch O (.append 6 88 false (.k x35) (.k x39)) h 40 fun x40 h t6 =>
  vtouch O (.faddr 1 (.k x7)) h 41 fun x41 h t7 =>
  vtouch O (.store 1 (.k x41) (.k x40)) h 1000000 fun _ h t8 =>
  bif apartAll [t0, t1, t2, t3, t4, t5, t6, t7, t8] [(1, 4), (1, 5)] then
  vbin .add 0 x8 (kI 1) h fun x33 h =>
  R 1 [x0, x1, x2, x7, x33] h
  else none)
  (R 2 [x0, x1, x2, x7] h)
theorem e4_1 (O : Oracle) (R : Jump) (q : Nat) (x0 x1 x2 x7 x8 : TVal) (h : Heap) : b4_1 O R q x0 x1 x2 x7 x8 h = stepF c4 O R q 1 [x0, x1, x2, x7, x8] h := by kernel_rfl
noncomputable def b4_2 (O : Oracle) (R : Jump) (q : Nat) (x0 x1 x2 x7 : TVal) (h : Heap) : Res1 :=
  vtouch O (.load true 3 (.k x7)) h 42 fun x42 h t0 =>
  vtouch O (.call (.k (.v (.c (.func 9 [])))) [(.k (kI 7))]) h 43 fun x43 h t1 =>
  vtouch O (.bslice 6 1 [(.p (.int .i64 0)), (.p (.bool false)), (.p (.int .i64 0)), (.p (.str [])), (.p .nilslice), (.p .nilslice)] [(0, (.k x43))] false) h 44 fun x44 h t2 =>
  vtouch O (.build [(.p (.str [])), (.p .nilslice), (.p (.int .i64 0))] [(0, 1, (.k (kS [102]))), (1, 1, (.k x44)), (2, 1, (.k (kI (-1))))]) h 45 fun x45 h t3 =>
  vtouch O (.build [(.p (.str [])), (.p .nilslice), (.p (.int .i64 0))] [(0, 1, (.k (kS [103]))), (2, 1, (.k (kI (-1))))]) h 46 fun x46 h t4 =>
  vtouch O (.bslice 3 3 [(.p (.str [])), (.p .nilslice), (.p (.int .i64 0))] [(0, (.k x42)), (1, (.k x45)), (2, (.k x46))] false) h 47 fun x47 h t5 =>
  vtouch O (.call (.k (.v (.c (.func 11 [])))) [(.k x47)]) h 48 fun x48 h t6 =>
  vtouch O (.mv (.k x48)) h 9 fun x9 h t7 =>
  bif apartAll [t0, t1, t2, t3, t4, t5, t6, t7] [(0, 1), (0, 2)] then
  R 3 [x0, x1, x2, x9, (kI 0)] h
  else none
theorem e4_2 (O : Oracle) (R : Jump) (q : Nat) (x0 x1 x2 x7 : TVal) (h : Heap) : b4_2 O R q x0 x1 x2 x7 h = stepF c4 O R q 2 [x0, x1, x2, x7] h := by kernel_rfl
noncomputable def b4_3 (O : Oracle) (R : Jump) (q : Nat) (x0 x1 x2 x9 x10 : TVal) (h : Heap) : Res1 :=
  vbin .lss 0 x10 x2 h fun x51 h =>
  vif x51 (
  vcall O (.v (.c (.func 12 []))) [x9, (kS [102])] h 56 fun x56 h =>
  vext x56 0 h fun x57 h =>
  vext x56 1 h fun x58 h =>
  vop O (.alloc [(.p (.int .i64 0)), (.p (.bool false)), (.p (.int .i64 0)), (.p (.str [])), (.p .nilslice), (.p .nilslice)] false) h 11 fun x11 h =>
  vstore 6 x11 x57 h fun _ h =>
  vbin .eql 0 x10 x1 h fun x61 h =>
  vguard x61 true (fun kk => kk x58 h) h fun x63 h =>
  vguard x61 true (fun kk => vbin .neq 0 x63 (kI 33) h kk) h fun x64 h =>
  vop O (.pick (.k x61) (.k x64) (.k (kB false))) h 65 fun x65 h =>
  vguard x65 false (fun kk => kk x10 h) h fun x67 h =>
  vguard x65 false (fun kk => kk x1 h) h fun x68 h =>
  vguard x65 false (fun kk => vbin .neq 0 x67 x68 h kk) h fun x69 h =>
  vguard x65 false (fun kk => kk x69 h) h fun x70 h =>
  vguard x70 true (fun kk => kk x58 h) h fun x71 h =>
  vguard x70 true (fun kk => vbin .neq 0 x71 (kI 0) h kk) h fun x72 h =>
  vguard x70 true (fun kk => kk x72 h) h fun x73 h =>
  vguard x73 false (fun kk => vfaddr 2 x11 h kk) h fun x74 h =>
  vguard x73 false (fun kk => vload false 1 x74 h kk) h fun x75 h =>
  vguard x73 false (fun kk => kk x10 h) h fun x76 h =>
  vguard x73 false (fun kk => kk x0 h) h fun x77 h =>
  vguard x73 false (fun kk => vbin .rem 0 x76 x77 h kk) h fun x78 h =>
  vguard x73 false (fun kk => vbin .mul 0 (kI 10) x78 h kk) h fun x79 h =>
  vguard x73 false (fun kk => vbin .neq 0 x75 x79 h kk) h fun x80 h =>
  vguard x70 true (fun kk => vop O (.pick (.k x73) (.k (kB true)) (.k x80)) h 81 kk) h fun x81 h =>
  vguard x65 false (fun kk => vop O (.pick (.k x70) (.k x81) (.k (kB false))) h 82 kk) h fun x82 h =>
  vop O (.pick (.k x65) (.k (kB true)) (.k x82)) h 83 fun x83 h =>
  vguard x83 false (fun kk => kk x9 h) h fun x85 h =>
  vguard x83 false (fun kk => vcall O (.v (.c (.func 13 []))) [x85, (kS [102])] h 86 kk) h fun x86 h =>
  vguard x83 false (fun kk => kk x10 h) h fun x87 h =>
  vguard x83 false (fun kk => vbin .add 0 x87 (kI 1) h kk) h fun x88 h =>
  vguard x83 false (fun kk => vbin .neq 0 x86 x88 h kk) h fun x89 h =>
  vop O (.pick (.k x83) (.k (kB true)) (.k x89)) h 90 fun x90 h =>
  vif x90 (
  tcomp (kB false) fun c0 => vfin true q [c0] h)
  (vbin .add 0 x10 (kI 1) h fun x53 h =>
  R 3 [x0, x1, x2, x9, x53] h))
  (R 4 [x2, x9] h)
theorem e4_3 (O : Oracle) (R : Jump) (q : Nat) (x0 x1 x2 x9 x10 : TVal) (h : Heap) : b4_3 O R q x0 x1 x2 x9 x10 h = stepF c4 O R q 3 [x0, x1, x2, x9, x10] h := by kernel_rfl
noncomputable def b4_4 (O : Oracle) (R : Jump) (q : Nat) (x2 x9 : TVal) (h : Heap) : Res1 :=
  vcall O (.v (.c (.func 12 []))) [x9, (kS [103])] h 93 fun x93 h =>
  vext x93 0 h fun x94 h =>
  vext x93 1 h fun x95 h =>
  vop O (.alloc [(.p (.int .i64 0)), (.p (.bool false)), (.p (.int .i64 0)), (.p (.str [])), (.p .nilslice), (.p .nilslice)] false) h 13 fun x13 h =>
  vstore 6 x13 x94 h fun _ h =>
  vcall O (.v (.c (.func 12 []))) [x9, (kS [104])] h 98 fun x98 h =>
  vext x98 0 h fun x99 h =>
  vext x98 1 h fun x100 h =>
  vop O (.alloc [(.p (.int .i64 0)), (.p (.bool false)), (.p (.int .i64 0)), (.p (.str [])), (.p .nilslice), (.p .nilslice)] false) h 15 fun x15 h =>
  vstore 6 x15 x99 h fun _ h =>
  vbin .eql 0 x95 (kI 33) h fun x102 h =>
  vguard x102 true (fun kk => kk x9 h) h fun x104 h =>
  vguard x102 true (fun kk => vcall O (.v (.c (.func 13 []))) [x104, (kS [103])] h 105 kk) h fun x105 h =>
  vguard x102 true (fun kk => vbin .eql 0 x105 (kI 1) h kk) h fun x106 h =>
  vop O (.pick (.k x102) (.k x106) (.k (kB false))) h 107 fun x107 h =>
  vguard x107 true (fun kk => kk x100 h) h fun x109 h =>
  vguard x107 true (fun kk => vbin .eql 0 x109 (kI 15) h kk) h fun x110 h =>
  vop O (.pick (.k x107) (.k x110) (.k (kB false))) h 111 fun x111 h =>
  vguard x111 true (fun kk => kk x9 h) h fun x113 h =>
  vguard x111 true (fun kk => vcall O (.v (.c (.func 13 []))) [x113, (kS [104])] h 114 kk) h fun x114 h =>
  vguard x111 true (fun kk => vbin .eql 0 x114 (kI 0) h kk) h fun x115 h =>
  vop O (.pick (.k x111) (.k x115) (.k (kB false))) h 116 fun x116 h =>
  vguard x116 true (fun kk => kk x9 h) h fun x118 h =>
  vguard x116 true (fun kk => vcall O (.v (.c (.func 13 []))) [x118, (kS [102])] h 119 kk) h fun x119 h =>
  vguard x116 true (fun kk => kk x2 h) h fun x120 h =>
  vguard x116 true (fun kk => vbin .eql 0 x119 x120 h kk) h fun x121 h =>
  vop O (.pick (.k x116) (.k x121) (.k (kB false))) h 122 fun x122 h =>
  tcomp x122 fun c0 => vfin true q [c0] h
theorem e4_4 (O : Oracle) (R : Jump) (q : Nat) (x2 x9 : TVal) (h : Heap) : b4_4 O R q x2 x9 h = stepF c4 O R q 4 [x2, x9] h := by kernel_rfl
noncomputable def d4 : BlkF := fun O R q => [.s fun y0 => .s fun y1 => .s fun y2 => .z fun h => b4_0 O R q y0 y1 y2 h, .s fun y0 => .s fun y1 => .s fun y2 => .s fun y3 => .s fun y4 => .z fun h => b4_1 O R q y0 y1 y2 y3 y4 h, .s fun y0 => .s fun y1 => .s fun y2 => .s fun y3 => .z fun h => b4_2 O R q y0 y1 y2 y3 h, .s fun y0 => .s fun y1 => .s fun y2 => .s fun y3 => .s fun y4 => .z fun h => b4_3 O R q y0 y1 y2 y3 y4 h, .s fun y0 => .s fun y1 => .z fun h => b4_4 O R q y0 y1 h]
theorem o4 (O : Oracle) (R : Jump) (q : Nat) : HoldsAll c4 O R q 0 (d4 O R q) := ⟨fun y0 y1 y2 h => e4_0 O R q y0 y1 y2 h, fun y0 y1 y2 y3 y4 h => e4_1 O R q y0 y1 y2 y3 y4 h, fun y0 y1 y2 y3 h => e4_2 O R q y0 y1 y2 y3 h, fun y0 y1 y2 y3 y4 h => e4_3 O R q y0 y1 y2 y3 y4 h, fun y0 y1 h => e4_4 O R q y0 y1 h, trivial⟩
/- sprue/spruelaw15.known -/
def c7 : MFunc := { np := 0, res := [.t 0], frz := true, body := (.seq (.reg [⟨(some 0), (.mv (.k (.v (.c (.p (.bool false)))))), none⟩] []) (.seq (.reg [⟨(some 4), (.build [(.p (.int .i64 0)), (.p (.bool false)), (.p (.int .i64 0)), (.p (.str [])), (.p .nilslice), (.p .nilslice)] [(0, 1, (.k (.v (.c (.p (.int .i64 2)))))), (2, 1, (.k (.v (.c (.p (.int .i64 200))))))]), none⟩, ⟨(some 5), (.bslice 6 1 [(.p (.int .i64 0)), (.p (.bool false)), (.p (.int .i64 0)), (.p (.str [])), (.p .nilslice), (.p .nilslice)] [(0, (.t 4))] false), none⟩, ⟨(some 6), (.call (.k (.v (.c (.func 17 [])))) [(.k (.v (.c (.p (.str [105, 56]))))), (.t 5)]), none⟩, ⟨(some 3), (.mv (.t 6)), none⟩, ⟨(some 7), (.extract (.t 3) 0), none⟩, ⟨(some 8), (.extract (.t 3) 1), none⟩, ⟨(some 1), (.alloc [(.p (.int .i64 0)), (.p (.bool false)), (.p (.int .i64 0)), (.p (.str [])), (.p .nilslice), (.p .nilslice)] false), none⟩, ⟨none, (.store 6 (.t 1) (.t 7)), none⟩, ⟨(some 2), (.mv (.t 8)), none⟩] []) (.seq (.reg [⟨(some 9), (.mv (.t 2)), none⟩, ⟨(some 10), (.bin .eql 0 (.t 9) (.k (.v (.c (.p (.int .i64 0)))))), none⟩, ⟨(some 11), (.mv (.t 10)), none⟩, ⟨(some 12), (.faddr 0 (.t 1)), (some (11, true))⟩, ⟨(some 13), (.load false 1 (.t 12)), (some (11, true))⟩, ⟨(some 14), (.bin .eql 0 (.t 13) (.k (.v (.c (.p (.int .i64 2)))))), (some (11, true))⟩, ⟨(some 15), (.pick (.t 11) (.t 14) (.k (.v (.c (.p (.bool false)))))), none⟩, ⟨(some 16), (.mv (.t 15)), none⟩, ⟨(some 17), (.faddr 2 (.t 1)), (some (16, true))⟩, ⟨(some 18), (.load false 1 (.t 17)), (some (16, true))⟩, ⟨(some 19), (.bin .eql 0 (.t 18) (.k (.v (.c (.p (.int .i64 (-56))))))), (some (16, true))⟩, ⟨(some 20), (.pick (.t 16) (.t 19) (.k (.v (.c (.p (.bool false)))))), none⟩, ⟨(some 0), (.mv (.t 20)), none⟩] []) .ret))) }
theorem t7 : compF Tryd.prog (globs2 tabs opq) false true Tryd.f7 = some c7.erase := by kernel_rfl
noncomputable def b7_0 (O : Oracle) (R : Jump) (q : Nat) (h : Heap) : Res1 :=
  vop O (.build [(.p (.int .i64 0)), (.p (.bool false)), (.p (.int .i64 0)), (.p (.str [])), (.p .nilslice), (.p .nilslice)] [(0, 1, (.k (kI 2))), (2, 1, (.k (kI 200)))]) h 4 fun x4 h =>
  vop O (.bslice 6 1 [(.p (.int .i64 0)), (.p (.bool false)), (.p (.int .i64 0)), (.p (.str [])), (.p .nilslice), (.p .nilslice)] [(0, (.k x4))] false) h 5 fun x5 h =>
  vcall O (.v (.c (.func 17 []))) [(kS [105, 56]), x5] h 6 fun x6 h =>
  vext x6 0 h fun x7 h =>
  vext x6 1 h fun x8 h =>
  vop O (.alloc [(.p (.int .i64 0)), (.p (.bool false)), (.p (.int .i64 0)), (.p (.str [])), (.p .nilslice), (.p .nilslice)] false) h 1 fun x1 h =>
  vstore 6 x1 x7 h fun _ h =>
  vbin .eql 0 x8 (kI 0) h fun x10 h =>
  vguard x10 true (fun kk => vfaddr 0 x1 h kk) h fun x12 h =>
  vguard x10 true (fun kk => vload false 1 x12 h kk) h fun x13 h =>
  vguard x10 true (fun kk => vbin .eql 0 x13 (kI 2) h kk) h fun x14 h =>
  vop O (.pick (.k x10) (.k x14) (.k (kB false))) h 15 fun x15 h =>
  vguard x15 true (fun kk => vfaddr 2 x1 h kk) h fun x17 h =>
  vguard x15 true (fun kk => vload false 1 x17 h kk) h fun x18 h =>
  vguard x15 true (fun kk => vbin .eql 0 x18 (kI (-56)) h kk) h fun x19 h =>
  vop O (.pick (.k x15) (.k x19) (.k (kB false))) h 20 fun x20 h =>
  tcomp x20 fun c0 => vfin true q [c0] h
theorem e7_0 (O : Oracle) (R : Jump) (q : Nat) (h : Heap) : b7_0 O R q  h = stepF c7 O R q 0 [] h := by kernel_rfl
noncomputable def d7 : BlkF := fun O R q => [.z fun h => b7_0 O R q  h]
theorem o7 (O : Oracle) (R : Jump) (q : Nat) : HoldsAll c7 O R q 0 (d7 O R q) := ⟨fun  h => e7_0 O R q  h, trivial⟩
/- sprue/spruelaw15.one -/
def c8 : MFunc := { np := 2, res := [.cell 4 true 6, .t 5], frz := true, body := (.seq (.reg [⟨(some 4), (.alloc [(.p (.int .i64 0)), (.p (.bool false)), (.p (.int .i64 0)), (.p (.str [])), (.p .nilslice), (.p .nilslice)] false), none⟩, ⟨(some 5), (.mv (.k (.v (.c (.p (.int .i64 0)))))), none⟩] []) (.seq (.reg [⟨(some 6), (.mv (.t 0)), none⟩, ⟨(some 7), (.mv (.t 1)), none⟩, ⟨(some 8), (.call (.k (.v (.c (.func 17 [])))) [(.t 6), (.t 7)]), none⟩, ⟨(some 9), (.extract (.t 8) 0), none⟩, ⟨(some 10), (.extract (.t 8) 1), none⟩, ⟨none, (.store 6 (.t 4) (.t 9)), none⟩, ⟨(some 5), (.mv (.t 10)), none⟩] []) .ret)) }
theorem t8 : compF Tryd.prog (globs2 tabs opq) false true Tryd.f8 = some c8.erase := by kernel_rfl
noncomputable def b8_0 (O : Oracle) (R : Jump) (q : Nat) (x0 x1 : TVal) (h : Heap) : Res1 :=
  vop O (.alloc [(.p (.int .i64 0)), (.p (.bool false)), (.p (.int .i64 0)), (.p (.str [])), (.p .nilslice), (.p .nilslice)] false) h 4 fun x4 h =>
  vcall O (.v (.c (.func 17 []))) [x0, x1] h 8 fun x8 h =>
  vext x8 0 h fun x9 h =>
  vext x8 1 h fun x10 h =>
  vstore 6 x4 x9 h fun _ h =>
  vcell true 6 x4 h fun c0 => tcomp x10 fun c1 => vfin true q [c0, c1] h
theorem e8_0 (O : Oracle) (R : Jump) (q : Nat) (x0 x1 : TVal) (h : Heap) : b8_0 O R q x0 x1 h = stepF c8 O R q 0 [x0, x1] h := by kernel_rfl
noncomputable def d8 : BlkF := fun O R q => [.s fun y0 => .s fun y1 => .z fun h => b8_0 O R q y0 y1 h]
theorem o8 (O : Oracle) (R : Jump) (q : Nat) : HoldsAll c8 O R q 0 (d8 O R q) := ⟨fun y0 y1 h => e8_0 O R q y0 y1 h, trivial⟩
/- sprue/spruelaw15.num -/
def c9 : MFunc := { np := 1, res := [.cell 2 true 6], frz := true, body := (.seq (.reg [⟨(some 2), (.alloc [(.p (.int .i64 0)), (.p (.bool false)), (.p (.int .i64 0)), (.p (.str [])), (.p .nilslice), (.p .nilslice)] false), none⟩] []) (.seq (.reg [⟨(some 3), (.mv (.t 0)), none⟩, ⟨(some 4), (.build [(.p (.int .i64 0)), (.p (.bool false)), (.p (.int .i64 0)), (.p (.str [])), (.p .nilslice), (.p .nilslice)] [(0, 1, (.k (.v (.c (.p (.int .i64 2)))))), (2, 1, (.t 3))]), none⟩, ⟨none, (.store 6 (.t 2) (.t 4)), none⟩] []) .ret)) }
theorem t9 : compF Tryd.prog (globs2 tabs opq) false true Tryd.f9 = some c9.erase := by kernel_rfl
noncomputable def b9_0 (O : Oracle) (R : Jump) (q : Nat) (x0 : TVal) (h : Heap) : Res1 :=
  vop O (.alloc [(.p (.int .i64 0)), (.p (.bool false)), (.p (.int .i64 0)), (.p (.str [])), (.p .nilslice), (.p .nilslice)] false) h 2 fun x2 h =>
  vop O (.build [(.p (.int .i64 0)), (.p (.bool false)), (.p (.int .i64 0)), (.p (.str [])), (.p .nilslice), (.p .nilslice)] [(0, 1, (.k (kI 2))), (2, 1, (.k x0))]) h 4 fun x4 h =>
  vstore 6 x2 x4 h fun _ h =>
  vcell true 6 x2 h fun c0 => vfin true q [c0] h
theorem e9_0 (O : Oracle) (R : Jump) (q : Nat) (x0 : TVal) (h : Heap) : b9_0 O R q x0 h = stepF c9 O R q 0 [x0] h := by kernel_rfl
noncomputable def d9 : BlkF := fun O R q => [.s fun y0 => .z fun h => b9_0 O R q y0 h]
theorem o9 (O : Oracle) (R : Jump) (q : Nat) : HoldsAll c9 O R q 0 (d9 O R q) := ⟨fun y0 h => e9_0 O R q y0 h, trivial⟩
/- sprue/spruelaw15.within -/
def c10 : MFunc := { np := 2, res := [.t 4], frz := true, body := (.seq (.reg [⟨(some 4), (.mv (.k (.v (.c (.p (.int .i64 0)))))), none⟩] []) (.seq (.reg [⟨(some 6), (.mv (.t 0)), none⟩, ⟨(some 7), (.mv (.t 1)), none⟩, ⟨(some 8), (.bin .rem 0 (.t 6) (.t 7)), none⟩, ⟨(some 5), (.mv (.t 8)), none⟩] []) (.seq (.seq (.reg [⟨(some 9), (.mv (.t 5)), none⟩, ⟨(some 10), (.bin .lss 0 (.t 9) (.k (.v (.c (.p (.int .i64 0)))))), none⟩] []) (.cond (.t 10) (.reg [⟨(some 11), (.mv (.t 5)), none⟩, ⟨(some 12), (.mv (.t 1)), none⟩, ⟨(some 13), (.bin .add 0 (.t 11) (.t 12)), none⟩, ⟨(some 5), (.mv (.t 13)), none⟩] []) .skip)) (.seq (.reg [⟨(some 14), (.mv (.t 5)), none⟩, ⟨(some 4), (.mv (.t 14)), none⟩] []) .ret)))) }
theorem t10 : compF Tryd.prog (globs2 tabs opq) false true Tryd.f10 = some c10.erase := by kernel_rfl
noncomputable def b10_0 (O : Oracle) (R : Jump) (q : Nat) (x0 x1 : TVal) (h : Heap) : Res1 :=
  vbin .rem 0 x0 x1 h fun x8 h =>
  vbin .lss 0 x8 (kI 0) h fun x10 h =>
  vif x10 (
  vbin .add 0 x8 x1 h fun x13 h =>
  tcomp x13 fun c0 => vfin true q [c0] h)
  (tcomp x8 fun c0 => vfin true q [c0] h)
theorem e10_0 (O : Oracle) (R : Jump) (q : Nat) (x0 x1 : TVal) (h : Heap) : b10_0 O R q x0 x1 h = stepF c10 O R q 0 [x0, x1] h := by kernel_rfl
noncomputable def d10 : BlkF := fun O R q => [.s fun y0 => .s fun y1 => .z fun h => b10_0 O R q y0 y1 h]
theorem o10 (O : Oracle) (R : Jump) (q : Nat) : HoldsAll c10 O R q 0 (d10 O R q) := ⟨fun y0 y1 h => e10_0 O R q y0 y1 h, trivial⟩
/- sprue/calls.New -/
def c11 : MFunc := { np := 1, res := [.t 2], frz := false, body := (.seq (.reg [⟨(some 2), (.mv (.k (.v (.c (.p .nilptr))))), none⟩] []) (.seq (.reg [⟨(some 10), .mkmap, none⟩, ⟨(some 11), .mkmap, none⟩, ⟨(some 12), (.build [(.p .nilmap), (.p .nilmap)] [(0, 1, (.t 10)), (1, 1, (.t 11))]), none⟩, ⟨(some 13), (.box (.t 12) false), none⟩, ⟨(some 3), (.mv (.t 13)), none⟩] []) (.seq (.seq (.reg [⟨(some 14), (.mv (.t 0)), none⟩, ⟨(some 15), (.len 2 (.t 14)), none⟩, ⟨(some 16), (.mv (.k (.v (.c (.p (.int .i64 0)))))), none⟩] []) (.block 0 (.loop 1 [3, 14, 15, 16] (.seq (.reg [⟨(some 17), (.bin .lss 0 (.t 16) (.t 15)), none⟩] []) (.seq (.cond (.t 17) .skip (.exit 0)) (.seq (.block 1 (.seq (.reg [⟨(some 18), (.iaddr 3 (.t 14) (.t 16)), none⟩, ⟨(some 19), (.load true 3 (.t 18)), none⟩, ⟨(some 5), (.alloc [(.p (.str [])), (.p .nilslice), (.p (.int .i64 0))] false), none⟩, ⟨none, (.store 3 (.t 5) (.t 19)), none⟩] []) (.seq (.seq (.reg [⟨(some 21), (.mv (.t 3)), none⟩, ⟨(some 22), (.nilck (.t 21)), none⟩, ⟨(some 23), (.faddr 0 (.t 22)), none⟩, ⟨(some 24), (.load false 1 (.t 23)), none⟩, ⟨(some 25), (.faddr 0 (.t 5)), none⟩, ⟨(some 26), (.load false 1 (.t 25)), none⟩, ⟨(some 27), (.lookup 2 (.agg [(.p (.str [])), (.p .nilslice), (.p (.int .i64 0))]) (.t 24) (.t 26) true), none⟩, ⟨(some 20), (.mv (.t 27)), none⟩, ⟨(some 28), (.extract (.t 20) 0), none⟩, ⟨(some 29), (.extract (.t 20) 1), none⟩, ⟨(some 6), (.alloc [(.p (.str [])), (.p .nilslice), (.p (.int .i64 0))] false), none⟩, ⟨none, (.store 3 (.t 6) (.t 28)), none⟩, ⟨(some 7), (.mv (.t 29)), none⟩] [(3, 10), (5, 10), (6, 10)]) (.seq (.reg [⟨(some 30), (.mv (.t 7)), none⟩] []) (.cond (.t 30) (.exit 1) .skip))) (.seq (.reg [⟨(some 31), (.faddr 1 (.t 5)), none⟩, ⟨(some 32), (.load false 1 (.t 31)), none⟩, ⟨(some 33), (.call (.k (.v (.c (.func 18 [])))) [(.t 32)]), none⟩, ⟨(some 34), (.faddr 1 (.t 5)), none⟩, ⟨none, (.store 1 (.t 34) (.t 33)), none⟩] []) (.seq (.seq (.reg [⟨(some 35), (.faddr 1 (.t 5)), none⟩, ⟨(some 36), (.load false 1 (.t 35)), none⟩, ⟨(some 37), (.len 2 (.t 36)), none⟩, ⟨(some 38), (.mv (.k (.v (.c (.p (.int .i64 0)))))), none⟩] []) (.block 2 (.loop 2 [3, 5, 14, 15, 16, 36, 37, 38] (.seq (.reg [⟨(some 39), (.bin .lss 0 (.t 38) (.t 37)), none⟩] []) (.seq (.cond (.t 39) .skip (.exit 2)) (.seq (.block 3 (.seq (.reg [⟨(some 40), (.mv (.t 38)), none⟩, ⟨(some 41), (.iaddr 6 (.t 36) (.t 38)), none⟩, ⟨(some 42), (.load true 6 (.t 41)), none⟩, ⟨(some 9), (.alloc [(.p (.int .i64 0)), (.p (.bool false)), (.p (.int .i64 0)), (.p (.str [])), (.p .nilslice), (.p .nilslice)] false), none⟩, ⟨(some 8), (.mv (.t 40)), none⟩, ⟨none, (.store 6 (.t 9) (.t 42)), none⟩] []) (.reg [⟨(some 43), (.faddr 1 (.t 5)), none⟩, ⟨(some 44), (.load false 1 (.t 43)), none⟩, ⟨(some 45), (.mv (.t 8)), none⟩, ⟨(some 46), (.load true 6 (.t 9)), none⟩, ⟨(some 47), (.call (.k (.v (.c (.func 19 [])))) [(.t 46)]), none⟩, ⟨(some 48), (.iaddr 6 (.t 44) (.t 45)), none⟩, ⟨none, (.store 6 (.t 48) (.t 47)), none⟩] [(1, 4)]))) (.reg [⟨(some 49), (.bin .add 0 (.t 38) (.k (.v (.c (.p (.int .i64 1)))))), none⟩, ⟨(some 38), (.mv (.t 49)), none⟩] []))))))) (.mark 3 [3, 5, 14, 15, 16] (.reg [⟨(some 50), (.mv (.t 3)), none⟩, ⟨(some 51), (.nilck (.t 50)), none⟩, ⟨(some 52), (.faddr 0 (.t 51)), none⟩, ⟨(some 53), (.load false 1 (.t 52)), none⟩, ⟨(some 54), (.faddr 0 (.t 5)), none⟩, ⟨(some 55), (.load false 1 (.t 54)), none⟩, ⟨(some 56), (.load true 3 (.t 5)), none⟩, ⟨none, (.mapup 2 (.t 53) (.t 55) (.t 56)), none⟩] []))))))) (.mark 4 [3, 14, 15, 16] (.reg [⟨(some 57), (.bin .add 0 (.t 16) (.k (.v (.c (.p (.int .i64 1)))))), none⟩, ⟨(some 16), (.mv (.t 57)), none⟩] [])))))))) (.seq (.reg [⟨(some 58), (.mv (.t 3)), none⟩, ⟨(some 2), (.mv (.t 58)), none⟩] []) .ret)))) }
theorem t11 : compF Tryd.prog (globs2 tabs opq) false false Tryd.f11 = some c11.erase := by kernel_rfl
noncomputable def b11_0 (O : Oracle) (R : Jump) (q : Nat) (x0 : TVal) (h : Heap) : Res1 :=
  vop O .mkmap h 10 fun x10 h =>
  vop O .mkmap h 11 fun x11 h =>
  vop O (.build [(.p .nilmap), (.p .nilmap)] [(0, 1, (.k x10)), (1, 1, (.k x11))]) h 12 fun x12 h =>
  vop O (.box (.k x12) false) h 13 fun x13 h =>
  vlen O 2 x0 h 15 fun x15 h =>
  R 1 [x13, x0, x15, (kI 0)] h
theorem e11_0 (O : Oracle) (R : Jump) (q : Nat) (x0 : TVal) (h : Heap) : b11_0 O R q x0 h = stepF c11 O R q 0 [x0] h := by kernel_rfl
noncomputable def b11_1 (O : Oracle) (R : Jump) (q : Nat) (x3 x14 x15 x16 : TVal) (h : Heap) : Res1 :=
  vbin .lss 0 x16 x15 h fun x17 h =>
  vif x17 (
  viaddr 3 x14 x16 h fun x18 h =>
  vload true 3 x18 h fun x19 h =>
  vop O (.alloc [(.p (.str [])), (.p .nilslice), (.p (.int .i64 0))] false) h 5 fun x5 h =>
  vstore 3 x5 x19 h fun _ h =>
  vtouch O (.mv (.k x3)) h 21 fun x21 h t0 =>
  vtouch O (.nilck (.k x21)) h 22 fun x22 h t1 =>
  vtouch O (.faddr 0 (.k x22)) h 23 fun x23 h t2 =>
  vtouch O (.load false 1 (.k x23)) h 24 fun x24 h t3 =>
  vtouch O (.faddr 0 (.k x5)) h 25 fun x25 h t4 =>
  vtouch O (.load false 1 (.k x25)) h 26 fun x26 h t5 =>
  vtouch O (.lookup 2 (.agg [(.p (.str [])), (.p .nilslice), (.p (.int .i64 0))]) (.k x24) (.k x26) true) h 27 fun x27 h t6 =>
  vtouch O (.mv (.k x27)) h 20 fun x20 h t7 =>
  vtouch O (.extract (.k x20) 0) h 28 fun x28 h t8 =>
  vtouch O (.extract (.k x20) 1) h 29 fun x29 h t9 =>
  vtouch O (.alloc [(.p (.str [])), (.p .nilslice), (.p (.int .i64 0))] false) h 6 fun x6 h t10 =>
  vtouch O (.store 3 (.k x6) (.k x28)) h 1000000 fun _ h t11 =>
  vtouch O (.mv (.k x29)) h 7 fun x7 h t12 =>
  bif apartAll [t0, t1, t2, t3, t4, t5, t6, t7, t8, t9, t10, t11, t12] [(3, 10), (5, 10), (6, 10)] then
  vif x7 (
  R 4 [x3, x14, x15, x16] h)
  (vfaddr 1 x5 h fun x31 h =>
  vload false 1 x31 h fun x32 h =>
  vcall O (.v (.c (.func 18 []))) [x32] h 33 fun x33 h =>
  vfaddr 1 x5 h fun x34 h =>
  vstore 1 x34 x33 h fun _ h =>
  vfaddr 1 x5 h fun x35 h =>
  vload false 1 x35 h fun x36 h =>
  vlen O 2 x36 h 37 fun x37 h =>
  R 2 [x3, x5, x14, x15, x16, x36, x37, (kI 0)] h)
  else none)
  (tcomp x3 fun c0 => vfin false q [c0] h)
theorem e11_1 (O : Oracle) (R : Jump) (q : Nat) (x3 x14 x15 x16 : TVal) (h : Heap) : b11_1 O R q x3 x14 x15 x16 h = stepF c11 O R q 1 [x3, x14, x15, x16] h := by kernel_rfl
noncomputable def b11_2 (O : Oracle) (R : Jump) (q : Nat) (x3 x5 x14 x15 x16 x36 x37 x38 : TVal) (h : Heap) : Res1 :=
  vbin .lss 0 x38 x37 h fun x39 h =>
  vif x39 (
  viaddr 6 x36 x38 h fun x41 h =>
  vload true 6 x41 h fun x42 h =>
  vop O (.alloc [(.p (.int .i64 0)), (.p (.bool false)), (.p (.int .i64 0)), (.p (.str [])), (.p .nilslice), (.p .nilslice)] false) h 9 fun x9 h =>
  vstore 6 x9 x42 h fun _ h =>
  vtouch O (.faddr 1 (.k x5)) h 43 fun x43 h t0 =>
  vtouch O (.load false 1 (.k x43)) h 44 fun x44 h t1 =>
  vtouch O (.mv (.k x38)) h 45 fun x45 h t2 =>
  vtouch O (.load true 6 (.k x9)) h 46 fun x46 h t3 =>
  vtouch O (.call (.k (.v (.c (.func 19 [])))) [(.k x46)]) h 47 fun x47 h t4 =>
  vtouch O (.iaddr 6 (.k x44) (.k x45)) h 48 fun x48 h t5 =>
  vtouch O (.store 6 (.k x48) (.k x47)) h 1000000 fun _ h t6 =>
  bif apartAll [t0, t1, t2, t3, t4, t5, t6] [(1, 4)] then
  vbin .add 0 x38 (kI 1) h fun x49 h =>
  R 2 [x3, x5, x14, x15, x16, x36, x37, x49] h
  else none)
  (R 3 [x3, x5, x14, x15, x16] h)
theorem e11_2 (O : Oracle) (R : Jump) (q : Nat) (x3 x5 x14 x15 x16 x36 x37 x38 : TVal) (h : Heap) : b11_2 O R q x3 x5 x14 x15 x16 x36 x37 x38 h = stepF c11 O R q 2 [x3, x5, x14, x15, x16, x36, x37, x38] h := by kernel_rfl
noncomputable def b11_3 (O : Oracle) (R : Jump) (q : Nat) (x3 x5 x14 x15 x16 : TVal) (h : Heap) : Res1 :=
  vop O (.nilck (.k x3)) h 51 fun x51 h =>
  vfaddr 0 x51 h fun x52 h =>
  vload false 1 x52 h fun x53 h =>
  vfaddr 0 x5 h fun x54 h =>
  vload false 1 x54 h fun x55 h =>
  vload true 3 x5 h fun x56 h =>
  vop O (.mapup 2 (.k x53) (.k x55) (.k x56)) h 1000000 fun _ h =>
  R 4 [x3, x14, x15, x16] h
theorem e11_3 (O : Oracle) (R : Jump) (q : Nat) (x3 x5 x14 x15 x16 : TVal) (h : Heap) : b11_3 O R q x3 x5 x14 x15 x16 h = stepF c11 O R q 3 [x3, x5, x14, x15, x16] h := by kernel_rfl
noncomputable def b11_4 (O : Oracle) (R : Jump) (q : Nat) (x3 x14 x15 x16 : TVal) (h : Heap) : Res1 :=
  vbin .add 0 x16 (kI 1) h fun x57 h =>
  R 1 [x3, x14, x15, x57] h
theorem e11_4 (O : Oracle) (R : Jump) (q : Nat) (x3 x14 x15 x16 : TVal) (h : Heap) : b11_4 O R q x3 x14 x15 x16 h = stepF c11 O R q 4 [x3, x14, x15, x16] h := by kernel_rfl
noncomputable def d11 : BlkF := fun O R q => [.s fun y0 => .z fun h => b11_0 O R q y0 h, .s fun y0 => .s fun y1 => .s fun y2 => .s fun y3 => .z fun h => b11_1 O R q y0 y1 y2 y3 h, .s fun y0 => .s fun y1 => .s fun y2 => .s fun y3 => .s fun y4 => .s fun y5 => .s fun y6 => .s fun y7 => .z fun h => b11_2 O R q y0 y1 y2 y3 y4 y5 y6 y7 h, .s fun y0 => .s fun y1 => .s fun y2 => .s fun y3 => .s fun y4 => .z fun h => b11_3 O R q y0 y1 y2 y3 y4 h, .s fun y0 => .s fun y1 => .s fun y2 => .s fun y3 => .z fun h => b11_4 O R q y0 y1 y2 y3 h]
theorem o11 (O : Oracle) (R : Jump) (q : Nat) : HoldsAll c11 O R q 0 (d11 O R q) := ⟨fun y0 h => e11_0 O R q y0 h, fun y0 y1 y2 y3 h => e11_1 O R q y0 y1 y2 y3 h, fun y0 y1 y2 y3 y4 y5 y6 y7 h => e11_2 O R q y0 y1 y2 y3 y4 y5 y6 y7 h, fun y0 y1 y2 y3 y4 h => e11_3 O R q y0 y1 y2 y3 y4 h, fun y0 y1 y2 y3 h => e11_4 O R q y0 y1 y2 y3 h, trivial⟩
/- (*sprue/calls.Calls).Call -/
def c12 : MFunc := { np := 2, res := [.cell 4 true 6, .t 5], frz := true, body := (.seq (.reg [⟨(some 4), (.alloc [(.p (.int .i64 0)), (.p (.bool false)), (.p (.int .i64 0)), (.p (.str [])), (.p .nilslice), (.p .nilslice)] false), none⟩, ⟨(some 5), (.mv (.k (.v (.c (.p (.int .i64 0)))))), none⟩] []) (.seq (.reg [⟨(some 10), (.mv (.t 0)), none⟩, ⟨(some 11), (.nilck (.t 10)), none⟩, ⟨(some 12), (.faddr 0 (.t 11)), none⟩, ⟨(some 13), (.load false 1 (.t 12)), none⟩, ⟨(some 14), (.mv (.t 1)), none⟩, ⟨(some 15), (.lookup 2 (.agg [(.p (.str [])), (.p .nilslice), (.p (.int .i64 0))]) (.t 13) (.t 14) true), none⟩, ⟨(some 9), (.mv (.t 15)), none⟩, ⟨(some 16), (.extract (.t 9) 0), none⟩, ⟨(some 17), (.extract (.t 9) 1), none⟩, ⟨(some 6), (.alloc [(.p (.str [])), (.p .nilslice), (.p (.int .i64 0))] false), none⟩, ⟨none, (.store 3 (.t 6) (.t 16)), none⟩, ⟨(some 7), (.mv (.t 17)), none⟩] []) (.seq (.seq (.reg [⟨(some 18), (.mv (.t 7)), none⟩, ⟨(some 19), (.un .not (.t 18)), none⟩] []) (.cond (.t 19) (.seq (.reg [⟨(some 20), (.build [(.p (.int .i64 0)), (.p (.bool false)), (.p (.int .i64 0)), (.p (.str [])), (.p .nilslice), (.p .nilslice)] []), none⟩, ⟨none, (.store 6 (.t 4) (.t 20)), none⟩, ⟨(some 5), (.mv (.k (.v (.c (.p (.int .i64 15)))))), none⟩] []) .ret) .skip)) (.seq (.reg [⟨(some 21), (.mv (.t 0)), none⟩, ⟨(some 22), (.nilck (.t 21)), none⟩, ⟨(some 23), (.faddr 1 (.t 22)), none⟩, ⟨(some 24), (.load false 1 (.t 23)), none⟩, ⟨(some 25), (.mv (.t 1)), none⟩, ⟨(some 26), (.lookup 2 (.c (.p (.int .i64 0))) (.t 24) (.t 25) false), none⟩, ⟨(some 8), (.mv (.t 26)), none⟩] []) (.seq (.reg [⟨(some 27), (.mv (.t 0)), none⟩, ⟨(some 28), (.nilck (.t 27)), none⟩, ⟨(some 29), (.faddr 1 (.t 28)), none⟩, ⟨(some 30), (.load false 1 (.t 29)), none⟩, ⟨(some 31), (.mv (.t 1)), none⟩, ⟨(some 32), (.lookup 2 (.c (.p (.int .i64 0))) (.t 30) (.t 31) false), none⟩, ⟨(some 33), (.bin .add 0 (.t 32) (.k (.v (.c (.p (.int .i64 1)))))), none⟩, ⟨none, (.mapup 2 (.t 30) (.t 31) (.t 33)), none⟩] []) (.seq (.seq (.reg [⟨(some 34), (.mv (.t 8)), none⟩, ⟨(some 35), (.faddr 2 (.t 6)), none⟩, ⟨(some 36), (.load false 1 (.t 35)), none⟩, ⟨(some 37), (.bin .eql 0 (.t 34) (.t 36)), none⟩, ⟨(some 38), (.mv (.t 37)), none⟩, ⟨(some 39), (.faddr 1 (.t 6)), (some (38, false))⟩, ⟨(some 40), (.load false 1 (.t 39)), (some (38, false))⟩, ⟨(some 41), (.len 2 (.t 40)), (some (38, false))⟩, ⟨(some 42), (.bin .eql 0 (.t 41) (.k (.v (.c (.p (.int .i64 0)))))), (some (38, false))⟩, ⟨(some 43), (.pick (.t 38) (.k (.v (.c (.p (.bool true))))) (.t 42)), none⟩] []) (.cond (.t 43) (.seq (.reg [⟨(some 44), (.build [(.p (.int .i64 0)), (.p (.bool false)), (.p (.int .i64 0)), (.p (.str [])), (.p .nilslice), (.p .nilslice)] []), none⟩, ⟨none, (.store 6 (.t 4) (.t 44)), none⟩, ⟨(some 5), (.mv (.k (.v (.c (.p (.int .i64 33)))))), none⟩] []) .ret) .skip)) (.seq (.reg [⟨(some 45), (.faddr 1 (.t 6)), none⟩, ⟨(some 46), (.load false 1 (.t 45)), none⟩, ⟨(some 47), (.mv (.t 8)), none⟩, ⟨(some 48), (.faddr 1 (.t 6)), none⟩, ⟨(some 49), (.load false 1 (.t 48)), none⟩, ⟨(some 50), (.len 2 (.t 49)), none⟩, ⟨(some 51), (.bin .rem 0 (.t 47) (.t 50)), none⟩, ⟨(some 52), (.iaddr 6 (.t 46) (.t 51)), none⟩, ⟨(some 53), (.load true 6 (.t 52)), none⟩, ⟨(some 54), (.call (.k (.v (.c (.func 19 [])))) [(.t 53)]), none⟩, ⟨none, (.store 6 (.t 4) (.t 54)), none⟩, ⟨(some 5), (.mv (.k (.v (.c (.p (.int .i64 0)))))), none⟩] []) .ret))))))) }
theorem t12 : compF Tryd.prog (globs2 tabs opq) false true Tryd.f12 = some c12.erase := by kernel_rfl
noncomputable def b12_0 (O : Oracle) (R : Jump) (q : Nat) (x0 x1 : TVal) (h : Heap) : Res1 :=
  vop O (.alloc [(.p (.int .i64 0)), (.p (.bool false)), (.p (.int .i64 0)), (.p (.str [])), (.p .nilslice), (.p .nilslice)] false) h 4 fun x4 h =>
  vop O (.nilck (.k x0)) h 11 fun x11 h =>
  vfaddr 0 x11 h fun x12 h =>
  vload false 1 x12 h fun x13 h =>
  vop O (.lookup 2 (.agg [(.p (.str [])), (.p .nilslice), (.p (.int .i64 0))]) (.k x13) (.k x1) true) h 15 fun x15 h =>
  vext x15 0 h fun x16 h =>
  vext x15 1 h fun x17 h =>
  vop O (.alloc [(.p (.str [])), (.p .nilslice), (.p (.int .i64 0))] false) h 6 fun x6 h =>
  vstore 3 x6 x16 h fun _ h =>
  vop O (.un .not (.k x17)) h 19 fun x19 h =>
  vif x19 (
  vop O (.build [(.p (.int .i64 0)), (.p (.bool false)), (.p (.int .i64 0)), (.p (.str [])), (.p .nilslice), (.p .nilslice)] []) h 20 fun x20 h =>
  vstore 6 x4 x20 h fun _ h =>
  vcell true 6 x4 h fun c0 => tcomp (kI 15) fun c1 => vfin true q [c0, c1] h)
  (vop O (.nilck (.k x0)) h 22 fun x22 h =>
  vfaddr 1 x22 h fun x23 h =>
  vload false 1 x23 h fun x24 h =>
  vop O (.lookup 2 (.c (.p (.int .i64 0))) (.k x24) (.k x1) false) h 26 fun x26 h =>
  vop O (.nilck (.k x0)) h 28 fun x28 h =>
  vfaddr 1 x28 h fun x29 h =>
  vload false 1 x29 h fun x30 h =>
  vop O (.lookup 2 (.c (.p (.int .i64 0))) (.k x30) (.k x1) false) h 32 fun x32 h =>
  vbin .add 0 x32 (kI 1) h fun x33 h =>
  vop O (.mapup 2 (.k x30) (.k x1) (.k x33)) h 1000000 fun _ h =>
  vfaddr 2 x6 h fun x35 h =>
  vload false 1 x35 h fun x36 h =>
  vbin .eql 0 x26 x36 h fun x37 h =>
  vguard x37 false (fun kk => vfaddr 1 x6 h kk) h fun x39 h =>
  vguard x37 false (fun kk => vload false 1 x39 h kk) h fun x40 h =>
  vguard x37 false (fun kk => vlen O 2 x40 h 41 kk) h fun x41 h =>
  vguard x37 false (fun kk => vbin .eql 0 x41 (kI 0) h kk) h fun x42 h =>
  vop O (.pick (.k x37) (.k (kB true)) (.k x42)) h 43 fun x43 h =>
  vif x43 (
  vop O (.build [(.p (.int .i64 0)), (.p (.bool false)), (.p (.int .i64 0)), (.p (.str [])), (.p .nilslice), (.p .nilslice)] []) h 44 fun x44 h =>
  vstore 6 x4 x44 h fun _ h =>
  vcell true 6 x4 h fun c0 => tcomp (kI 33) fun c1 => vfin true q [c0, c1] h)
  (vfaddr 1 x6 h fun x45 h =>
  vload false 1 x45 h fun x46 h =>
  vfaddr 1 x6 h fun x48 h =>
  vload false 1 x48 h fun x49 h =>
  vlen O 2 x49 h 50 fun x50 h =>
  vbin .rem 0 x26 x50 h fun x51 h =>
  viaddr 6 x46 x51 h fun x52 h =>
  vload true 6 x52 h fun x53 h =>
  vcall O (.v (.c (.func 19 []))) [x53] h 54 fun x54 h =>
  vstore 6 x4 x54 h fun _ h =>
  vcell true 6 x4 h fun c0 => tcomp (kI 0) fun c1 => vfin true q [c0, c1] h))
theorem e12_0 (O : Oracle) (R : Jump) (q : Nat) (x0 x1 : TVal) (h : Heap) : b12_0 O R q x0 x1 h = stepF c12 O R q 0 [x0, x1] h := by kernel_rfl
noncomputable def d12 : BlkF := fun O R q => [.s fun y0 => .s fun y1 => .z fun h => b12_0 O R q y0 y1 h]
theorem o12 (O : Oracle) (R : Jump) (q : Nat) : HoldsAll c12 O R q 0 (d12 O R q) := ⟨fun y0 y1 h => e12_0 O R q y0 y1 h, trivial⟩
/- (*sprue/calls.Calls).Count -/
def c13 : MFunc := { np := 2, res := [.t 4], frz := true, body := (.seq (.reg [⟨(some 4), (.mv (.k (.v (.c (.p (.int .i64 0)))))), none⟩] []) (.seq (.reg [⟨(some 5), (.mv (.t 0)), none⟩, ⟨(some 6), (.nilck (.t 5)), none⟩, ⟨(some 7), (.faddr 1 (.t 6)), none⟩, ⟨(some 8), (.load false 1 (.t 7)), none⟩, ⟨(some 9), (.mv (.t 1)), none⟩, ⟨(some 10), (.lookup 2 (.c (.p (.int .i64 0))) (.t 8) (.t 9) false), none⟩, ⟨(some 4), (.mv (.t 10)), none⟩] []) .ret)) }
theorem t13 : compF Tryd.prog (globs2 tabs opq) false true Tryd.f13 = some c13.erase := by kernel_rfl
noncomputable def b13_0 (O : Oracle) (R : Jump) (q : Nat) (x0 x1 : TVal) (h : Heap) : Res1 :=
  vop O (.nilck (.k x0)) h 6 fun x6 h =>
  vfaddr 1 x6 h fun x7 h =>
  vload false 1 x7 h fun x8 h =>
  vop O (.lookup 2 (.c (.p (.int .i64 0))) (.k x8) (.k x1) false) h 10 fun x10 h =>
  tcomp x10 fun c0 => vfin true q [c0] h
theorem e13_0 (O : Oracle) (R : Jump) (q : Nat) (x0 x1 : TVal) (h : Heap) : b13_0 O R q x0 x1 h = stepF c13 O R q 0 [x0, x1] h := by kernel_rfl
noncomputable def d13 : BlkF := fun O R q => [.s fun y0 => .s fun y1 => .z fun h => b13_0 O R q y0 y1 h]
theorem o13 (O : Oracle) (R : Jump) (q : Nat) : HoldsAll c13 O R q 0 (d13 O R q) := ⟨fun y0 y1 h => e13_0 O R q y0 y1 h, trivial⟩
/- sprue/calls.Eval -/
def c17 : MFunc := { np := 2, res := [.cell 4 true 6, .t 5], frz := true, body := (.seq (.reg [⟨(some 4), (.alloc [(.p (.int .i64 0)), (.p (.bool false)), (.p (.int .i64 0)), (.p (.str [])), (.p .nilslice), (.p .nilslice)] false), none⟩, ⟨(some 5), (.mv (.k (.v (.c (.p (.int .i64 0)))))), none⟩] []) (.seq (.block 0 (.seq (.reg [⟨(some 9), (.mv (.t 0)), none⟩, ⟨(some 10), (.call (.k (.v (.c (.func 26 [])))) [(.t 9)]), none⟩, ⟨(some 11), (.un .not (.t 10)), none⟩, ⟨(some 8), (.mv (.t 11)), none⟩] []) (.cond (.t 8) (.seq (.reg [⟨(some 12), (.build [(.p (.int .i64 0)), (.p (.bool false)), (.p (.int .i64 0)), (.p (.str [])), (.p .nilslice), (.p .nilslice)] []), none⟩, ⟨none, (.store 6 (.t 4) (.t 12)), none⟩, ⟨(some 5), (.mv (.k (.v (.c (.p (.int .i64 15)))))), none⟩] []) .ret) (.seq (.reg [⟨(some 14), (.mv (.t 1)), none⟩, ⟨(some 15), (.len 2 (.t 14)), none⟩, ⟨(some 16), (.mv (.t 0)), none⟩, ⟨(some 17), (.call (.k (.v (.c (.func 27 [])))) [(.t 16)]), none⟩, ⟨(some 18), (.bin .neq 0 (.t 15) (.t 17)), none⟩, ⟨(some 13), (.mv (.t 18)), none⟩] []) (.cond (.t 13) (.seq (.reg [⟨(some 19), (.build [(.p (.int .i64 0)), (.p (.bool false)), (.p (.int .i64 0)), (.p (.str [])), (.p .nilslice), (.p .nilslice)] []), none⟩, ⟨none, (.store 6 (.t 4) (.t 19)), none⟩, ⟨(some 5), (.mv (.k (.v (.c (.p (.int .i64 18)))))), none⟩] []) .ret) .skip))))) (.seq (.seq (.reg [⟨(some 20), (.mv (.t 0)), none⟩] []) (.block 1 (.seq (.reg [⟨(some 22), (.bin .eql 0 (.t 20) (.k (.v (.c (.p (.str [108, 101, 110])))))), none⟩, ⟨(some 21), (.mv (.t 22)), none⟩] []) (.cond (.t 21) (.seq (.reg [⟨(some 23), (.mv (.t 1)), none⟩, ⟨(some 24), (.iaddr 6 (.t 23) (.k (.v (.c (.p (.int .i64 0)))))), none⟩, ⟨(some 25), (.load true 6 (.t 24)), none⟩, ⟨(some 26), (.call (.k (.v (.c (.func 28 [])))) [(.t 25)]), none⟩, ⟨(some 27), (.extract (.t 26) 0), none⟩, ⟨(some 28), (.extract (.t 26) 1), none⟩, ⟨none, (.store 6 (.t 4) (.t 27)), none⟩, ⟨(some 5), (.mv (.t 28)), none⟩] []) .ret) (.seq (.seq (.reg [⟨(some 30), (.bin .eql 0 (.t 20) (.k (.v (.c (.p (.str [110, 111, 116])))))), none⟩, ⟨(some 29), (.mv (.t 30)), none⟩] []) (.cond (.t 29) .skip (.seq (.reg [⟨(some 31), (.bin .eql 0 (.t 20) (.k (.v (.c (.p (.str [97, 110, 100])))))), none⟩, ⟨(some 29), (.mv (.t 31)), none⟩] []) (.cond (.t 29) .skip (.reg [⟨(some 32), (.bin .eql 0 (.t 20) (.k (.v (.c (.p (.str [111, 114])))))), none⟩, ⟨(some 29), (.mv (.t 32)), none⟩] []))))) (.mark 1 [0, 1, 4, 20, 29] (.cond (.t 29) (.seq (.reg [⟨(some 33), (.mv (.t 0)), none⟩, ⟨(some 34), (.mv (.t 1)), none⟩, ⟨(some 35), (.call (.k (.v (.c (.func 29 [])))) [(.t 33), (.t 34)]), none⟩, ⟨(some 36), (.extract (.t 35) 0), none⟩, ⟨(some 37), (.extract (.t 35) 1), none⟩, ⟨none, (.store 6 (.t 4) (.t 36)), none⟩, ⟨(some 5), (.mv (.t 37)), none⟩] []) .ret) (.seq (.reg [⟨(some 39), (.bin .eql 0 (.t 20) (.k (.v (.c (.p (.str [101, 113])))))), none⟩, ⟨(some 38), (.mv (.t 39)), none⟩] []) (.cond (.t 38) (.seq (.reg [⟨(some 40), (.mv (.t 1)), none⟩, ⟨(some 41), (.call (.k (.v (.c (.func 30 [])))) [(.t 40)]), none⟩, ⟨(some 42), (.extract (.t 41) 0), none⟩, ⟨(some 43), (.extract (.t 41) 1), none⟩, ⟨none, (.store 6 (.t 4) (.t 42)), none⟩, ⟨(some 5), (.mv (.t 43)), none⟩] []) .ret) (.seq (.reg [⟨(some 45), (.bin .eql 0 (.t 20) (.k (.v (.c (.p (.str [99, 97, 116])))))), none⟩, ⟨(some 44), (.mv (.t 45)), none⟩] []) (.cond (.t 44) (.seq (.reg [⟨(some 46), (.mv (.t 1)), none⟩, ⟨(some 47), (.call (.k (.v (.c (.func 31 [])))) [(.t 46)]), none⟩, ⟨(some 48), (.extract (.t 47) 0), none⟩, ⟨(some 49), (.extract (.t 47) 1), none⟩, ⟨none, (.store 6 (.t 4) (.t 48)), none⟩, ⟨(some 5), (.mv (.t 49)), none⟩] []) .ret) (.seq (.reg [⟨(some 51), (.bin .eql 0 (.t 20) (.k (.v (.c (.p (.str [116, 101, 120, 116])))))), none⟩, ⟨(some 50), (.mv (.t 51)), none⟩] []) (.cond (.t 50) (.seq (.reg [⟨(some 52), (.mv (.t 1)), none⟩, ⟨(some 53), (.iaddr 6 (.t 52) (.k (.v (.c (.p (.int .i64 0)))))), none⟩, ⟨(some 54), (.load true 6 (.t 53)), none⟩, ⟨(some 55), (.call (.k (.v (.c (.func 32 [])))) [(.t 54)]), none⟩, ⟨(some 56), (.extract (.t 55) 0), none⟩, ⟨(some 57), (.extract (.t 55) 1), none⟩, ⟨none, (.store 6 (.t 4) (.t 56)), none⟩, ⟨(some 5), (.mv (.t 57)), none⟩] []) .ret) (.seq (.reg [⟨(some 59), (.bin .eql 0 (.t 20) (.k (.v (.c (.p (.str [97, 116])))))), none⟩, ⟨(some 58), (.mv (.t 59)), none⟩] []) (.cond (.t 58) (.seq (.reg [⟨(some 60), (.mv (.t 1)), none⟩, ⟨(some 61), (.call (.k (.v (.c (.func 33 [])))) [(.t 60)]), none⟩, ⟨(some 62), (.extract (.t 61) 0), none⟩, ⟨(some 63), (.extract (.t 61) 1), none⟩, ⟨none, (.store 6 (.t 4) (.t 62)), none⟩, ⟨(some 5), (.mv (.t 63)), none⟩] []) .ret) (.seq (.reg [⟨(some 65), (.bin .eql 0 (.t 20) (.k (.v (.c (.p (.str [103, 101, 116])))))), none⟩, ⟨(some 64), (.mv (.t 65)), none⟩] []) (.cond (.t 64) (.seq (.seq (.reg [⟨(some 66), (.mv (.t 1)), none⟩, ⟨(some 67), (.bslice 1 2 [(.p (.int .i64 0))] [(0, (.k (.v (.c (.p (.int .i64 5)))))), (1, (.k (.v (.c (.p (.int .i64 3))))))] false), none⟩, ⟨(some 68), (.call (.k (.v (.c (.func 34 [])))) [(.t 66), (.t 67)]), none⟩, ⟨(some 69), (.un .not (.t 68)), none⟩] []) (.cond (.t 69) (.seq (.reg [⟨(some 70), (.build [(.p (.int .i64 0)), (.p (.bool false)), (.p (.int .i64 0)), (.p (.str [])), (.p .nilslice), (.p .nilslice)] []), none⟩, ⟨none, (.store 6 (.t 4) (.t 70)), none⟩, ⟨(some 5), (.mv (.k (.v (.c (.p (.int .i64 17)))))), none⟩] []) .ret) .skip)) (.seq (.reg [⟨(some 72), (.mv (.t 1)), none⟩, ⟨(some 73), (.iaddr 6 (.t 72) (.k (.v (.c (.p (.int .i64 0)))))), none⟩, ⟨(some 74), (.load true 6 (.t 73)), none⟩, ⟨(some 75), (.mv (.t 1)), none⟩, ⟨(some 76), (.iaddr 6 (.t 75) (.k (.v (.c (.p (.int .i64 1)))))), none⟩, ⟨(some 77), (.faddr 3 (.t 76)), none⟩, ⟨(some 78), (.load false 1 (.t 77)), none⟩, ⟨(some 79), (.call (.k (.v (.c (.func 35 [])))) [(.t 74), (.t 78)]), none⟩, ⟨(some 71), (.mv (.t 79)), none⟩, ⟨(some 80), (.extract (.t 71) 0), none⟩, ⟨(some 81), (.extract (.t 71) 1), none⟩, ⟨(some 6), (.alloc [(.p (.int .i64 0)), (.p (.bool false)), (.p (.int .i64 0)), (.p (.str [])), (.p .nilslice), (.p .nilslice)] false), none⟩, ⟨none, (.store 6 (.t 6) (.t 80)), none⟩, ⟨(some 7), (.mv (.t 81)), none⟩] [(2, 11), (6, 11), (7, 11)]) (.seq (.reg [⟨(some 82), (.load true 6 (.t 6)), none⟩, ⟨none, (.store 6 (.t 4) (.t 82)), none⟩, ⟨(some 5), (.mv (.k (.v (.c (.p (.int .i64 0)))))), none⟩] []) .ret))) (.seq (.reg [⟨(some 84), (.bin .eql 0 (.t 20) (.k (.v (.c (.p (.str [104, 97, 115])))))), none⟩, ⟨(some 83), (.mv (.t 84)), none⟩] []) (.cond (.t 83) (.seq (.reg [⟨(some 85), (.mv (.t 1)), none⟩, ⟨(some 86), (.iaddr 6 (.t 85) (.k (.v (.c (.p (.int .i64 0)))))), none⟩, ⟨(some 87), (.faddr 0 (.t 86)), none⟩, ⟨(some 88), (.load false 1 (.t 87)), none⟩, ⟨(some 89), (.bin .neq 0 (.t 88) (.k (.v (.c (.p (.int .i64 0)))))), none⟩, ⟨(some 90), (.call (.k (.v (.c (.func 36 [])))) [(.t 89)]), none⟩, ⟨none, (.store 6 (.t 4) (.t 90)), none⟩, ⟨(some 5), (.mv (.k (.v (.c (.p (.int .i64 0)))))), none⟩] []) .ret) (.seq (.reg [⟨(some 92), (.bin .eql 0 (.t 20) (.k (.v (.c (.p (.str [111, 114, 101, 108, 115, 101])))))), none⟩, ⟨(some 91), (.mv (.t 92)), none⟩] []) (.cond (.t 91) (.seq (.seq (.reg [⟨(some 93), (.mv (.t 1)), none⟩, ⟨(some 94), (.iaddr 6 (.t 93) (.k (.v (.c (.p (.int .i64 0)))))), none⟩, ⟨(some 95), (.faddr 0 (.t 94)), none⟩, ⟨(some 96), (.load false 1 (.t 95)), none⟩, ⟨(some 97), (.bin .neq 0 (.t 96) (.k (.v (.c (.p (.int .i64 0)))))), none⟩] []) (.cond (.t 97) (.seq (.reg [⟨(some 98), (.mv (.t 1)), none⟩, ⟨(some 99), (.iaddr 6 (.t 98) (.k (.v (.c (.p (.int .i64 0)))))), none⟩, ⟨(some 100), (.load true 6 (.t 99)), none⟩, ⟨(some 101), (.call (.k (.v (.c (.func 19 [])))) [(.t 100)]), none⟩, ⟨none, (.store 6 (.t 4) (.t 101)), none⟩, ⟨(some 5), (.mv (.k (.v (.c (.p (.int .i64 0)))))), none⟩] []) .ret) .skip)) (.seq (.reg [⟨(some 102), (.mv (.t 1)), none⟩, ⟨(some 103), (.iaddr 6 (.t 102) (.k (.v (.c (.p (.int .i64 1)))))), none⟩, ⟨(some 104), (.load true 6 (.t 103)), none⟩, ⟨(some 105), (.call (.k (.v (.c (.func 19 [])))) [(.t 104)]), none⟩, ⟨none, (.store 6 (.t 4) (.t 105)), none⟩, ⟨(some 5), (.mv (.k (.v (.c (.p (.int .i64 0)))))), none⟩] []) .ret)) .skip))))))))))))))))))))) (.seq (.reg [⟨(some 106), (.mv (.t 0)), none⟩, ⟨(some 107), (.mv (.t 1)), none⟩, ⟨(some 108), (.call (.k (.v (.c (.func 37 [])))) [(.t 106), (.t 107)]), none⟩, ⟨(some 109), (.extract (.t 108) 0), none⟩, ⟨(some 110), (.extract (.t 108) 1), none⟩, ⟨none, (.store 6 (.t 4) (.t 109)), none⟩, ⟨(some 5), (.mv (.t 110)), none⟩] []) .ret)))) }
theorem t17 : compF Tryd.prog (globs2 tabs opq) false true Tryd.f17 = some c17.erase := by kernel_rfl
noncomputable def b17_0 (O : Oracle) (R : Jump) (q : Nat) (x0 x1 : TVal) (h : Heap) : Res1 :=
  vop O (.alloc [(.p (.int .i64 0)), (.p (.bool false)), (.p (.int .i64 0)), (.p (.str [])), (.p .nilslice), (.p .nilslice)] false) h 4 fun x4 h =>
  vcall O (.v (.c (.func 26 []))) [x0] h 10 fun x10 h =>
  vop O (.un .not (.k x10)) h 11 fun x11 h =>
  vif x11 (
  vop O (.build [(.p (.int .i64 0)), (.p (.bool false)), (.p (.int .i64 0)), (.p (.str [])), (.p .nilslice), (.p .nilslice)] []) h 12 fun x12 h =>
  vstore 6 x4 x12 h fun _ h =>
  vcell true 6 x4 h fun c0 => tcomp (kI 15) fun c1 => vfin true q [c0, c1] h)
  (vlen O 2 x1 h 15 fun x15 h =>
  vcall O (.v (.c (.func 27 []))) [x0] h 17 fun x17 h =>
  vbin .neq 0 x15 x17 h fun x18 h =>
  vif x18 (
  vop O (.build [(.p (.int .i64 0)), (.p (.bool false)), (.p (.int .i64 0)), (.p (.str [])), (.p .nilslice), (.p .nilslice)] []) h 19 fun x19 h =>
  vstore 6 x4 x19 h fun _ h =>
  vcell true 6 x4 h fun c0 => tcomp (kI 18) fun c1 => vfin true q [c0, c1] h)
  (vbin .eql 0 x0 (kS [108, 101, 110]) h fun x22 h =>
  vif x22 (
  viaddr 6 x1 (kI 0) h fun x24 h =>
  vload true 6 x24 h fun x25 h =>
  vcall O (.v (.c (.func 28 []))) [x25] h 26 fun x26 h =>
  vext x26 0 h fun x27 h =>
  vext x26 1 h fun x28 h =>
  vstore 6 x4 x27 h fun _ h =>
  vcell true 6 x4 h fun c0 => tcomp x28 fun c1 => vfin true q [c0, c1] h)
  (vbin .eql 0 x0 (kS [110, 111, 116]) h fun x30 h =>
  vif x30 (
  R 1 [x0, x1, x4, x0, x30] h)
  (vbin .eql 0 x0 (kS [97, 110, 100]) h fun x31 h =>
  vif x31 (
  R 1 [x0, x1, x4, x0, x31] h)
  (vbin .eql 0 x0 (kS [111, 114]) h fun x32 h =>
  R 1 [x0, x1, x4, x0, x32] h)))))
theorem e17_0 (O : Oracle) (R : Jump) (q : Nat) (x0 x1 : TVal) (h : Heap) : b17_0 O R q x0 x1 h = stepF c17 O R q 0 [x0, x1] h := by kernel_rfl
noncomputable def b17_1 (O : Oracle) (R : Jump) (q : Nat) (x0 x1 x4 x20 x29 : TVal) (h : Heap) : Res1 :=
  vif x29 (
  vcall O (.v (.c (.func 29 []))) [x0, x1] h 35 fun x35 h =>
  vext x35 0 h fun x36 h =>
  vext x35 1 h fun x37 h =>
  vstore 6 x4 x36 h fun _ h =>
  vcell true 6 x4 h fun c0 => tcomp x37 fun c1 => vfin true q [c0, c1] h)
  (vbin .eql 0 x20 (kS [101, 113]) h fun x39 h =>
  vif x39 (
  vcall O (.v (.c (.func 30 []))) [x1] h 41 fun x41 h =>
  vext x41 0 h fun x42 h =>
  vext x41 1 h fun x43 h =>
  vstore 6 x4 x42 h fun _ h =>
  vcell true 6 x4 h fun c0 => tcomp x43 fun c1 => vfin true q [c0, c1] h)
  (vbin .eql 0 x20 (kS [99, 97, 116]) h fun x45 h =>
  vif x45 (
  vcall O (.v (.c (.func 31 []))) [x1] h 47 fun x47 h =>
  vext x47 0 h fun x48 h =>
  vext x47 1 h fun x49 h =>
  vstore 6 x4 x48 h fun _ h =>
  vcell true 6 x4 h fun c0 => tcomp x49 fun c1 => vfin true q [c0, c1] h)
  (vbin .eql 0 x20 (kS [116, 101, 120, 116]) h fun x51 h =>
  vif x51 (
  viaddr 6 x1 (kI 0) h fun x53 h =>
  vload true 6 x53 h fun x54 h =>
  vcall O (.v (.c (.func 32 []))) [x54] h 55 fun x55 h =>
  vext x55 0 h fun x56 h =>
  vext x55 1 h fun x57 h =>
  vstore 6 x4 x56 h fun _ h =>
  vcell true 6 x4 h fun c0 => tcomp x57 fun c1 => vfin true q [c0, c1] h)
  (vbin .eql 0 x20 (kS [97, 116]) h fun x59 h =>
  vif x59 (
  vcall O (.v (.c (.func 33 []))) [x1] h 61 fun x61 h =>
  vext x61 0 h fun x62 h =>
  vext x61 1 h fun x63 h =>
  vstore 6 x4 x62 h fun _ h =>
  vcell true 6 x4 h fun c0 => tcomp x63 fun c1 => vfin true q [c0, c1] h)
  (vbin .eql 0 x20 (kS [103, 101, 116]) h fun x65 h =>
  vif x65 (
  vop O (.bslice 1 2 [(.p (.int .i64 0))] [(0, (.k (kI 5))), (1, (.k (kI 3)))] false) h 67 fun x67 h =>
  vcall O (.v (.c (.func 34 []))) [x1, x67] h 68 fun x68 h =>
  vop O (.un .not (.k x68)) h 69 fun x69 h =>
  vif x69 (
  vop O (.build [(.p (.int .i64 0)), (.p (.bool false)), (.p (.int .i64 0)), (.p (.str [])), (.p .nilslice), (.p .nilslice)] []) h 70 fun x70 h =>
  vstore 6 x4 x70 h fun _ h =>
  vcell true 6 x4 h fun c0 => tcomp (kI 17) fun c1 => vfin true q [c0, c1] h)
  (vtouch O (.mv (.k x1)) h 72 fun x72 h t0 =>
  vtouch O (.iaddr 6 (.k x72) (.k (kI 0))) h 73 fun x73 h t1 =>
  vtouch O (.load true 6 (.k x73)) h 74 fun x74 h t2 =>
  vtouch O (.mv (.k x1)) h 75 fun x75 h t3 =>
  vtouch O (.iaddr 6 (.k x75) (.k (kI 1))) h 76 fun x76 h t4 =>
  vtouch O (.faddr 3 (.k x76)) h 77 fun x77 h t5 =>
  vtouch O (.load false 1 (.k x77)) h 78 fun x78 h t6 =>
  vtouch O (.call (.k (.v (.c (.func 35 [])))) [(.k x74), (.k x78)]) h 79 fun x79 h t7 =>
  vtouch O (.mv (.k x79)) h 71 fun x71 h t8 =>
  vtouch O (.extract (.k x71) 0) h 80 fun x80 h t9 =>
  vtouch O (.extract (.k x71) 1) h 81 fun x81 h t10 =>
  vtouch O (.alloc [(.p (.int .i64 0)), (.p (.bool false)), (.p (.int .i64 0)), (.p (.str [])), (.p .nilslice), (.p .nilslice)] false) h 6 fun x6 h t11 =>
  vtouch O (.store 6 (.k x6) (.k x80)) h 1000000 fun _ h t12 =>
  vtouch O (.mv (.k x81)) h 7 fun x7 h t13 =>
  bif apartAll [t0, t1, t2, t3, t4, t5, t6, t7, t8, t9, t10, t11, t12, t13] [(2, 11), (6, 11), (7, 11)] then
  vload true 6 x6 h fun x82 h =>
  vstore 6 x4 x82 h fun _ h =>
  vcell true 6 x4 h fun c0 => tcomp (kI 0) fun c1 => vfin true q [c0, c1] h
  else none))
  (vbin .eql 0 x20 (kS [104, 97, 115]) h fun x84 h =>
  vif x84 (
  viaddr 6 x1 (kI 0) h fun x86 h =>
  vfaddr 0 x86 h fun x87 h =>
  vload false 1 x87 h fun x88 h =>
  vbin .neq 0 x88 (kI 0) h fun x89 h =>
  vcall O (.v (.c (.func 36 []))) [x89] h 90 fun x90 h =>
  vstore 6 x4 x90 h fun _ h =>
  vcell true 6 x4 h fun c0 => tcomp (kI 0) fun c1 => vfin true q [c0, c1] h)
  (vbin .eql 0 x20 (kS [111, 114, 101, 108, 115, 101]) h fun x92 h =>
  vif x92 (
  viaddr 6 x1 (kI 0) h fun x94 h =>
  vfaddr 0 x94 h fun x95 h =>
  vload false 1 x95 h fun x96 h =>
  vbin .neq 0 x96 (kI 0) h fun x97 h =>
  vif x97 (
  viaddr 6 x1 (kI 0) h fun x99 h =>
  vload true 6 x99 h fun x100 h =>
  vcall O (.v (.c (.func 19 []))) [x100] h 101 fun x101 h =>
  vstore 6 x4 x101 h fun _ h =>
  vcell true 6 x4 h fun c0 => tcomp (kI 0) fun c1 => vfin true q [c0, c1] h)
  (viaddr 6 x1 (kI 1) h fun x103 h =>
  vload true 6 x103 h fun x104 h =>
  vcall O (.v (.c (.func 19 []))) [x104] h 105 fun x105 h =>
  vstore 6 x4 x105 h fun _ h =>
  vcell true 6 x4 h fun c0 => tcomp (kI 0) fun c1 => vfin true q [c0, c1] h))
  (vcall O (.v (.c (.func 37 []))) [x0, x1] h 108 fun x108 h =>
  vext x108 0 h fun x109 h =>
  vext x108 1 h fun x110 h =>
  vstore 6 x4 x109 h fun _ h =>
  vcell true 6 x4 h fun c0 => tcomp x110 fun c1 => vfin true q [c0, c1] h))))))))
theorem e17_1 (O : Oracle) (R : Jump) (q : Nat) (x0 x1 x4 x20 x29 : TVal) (h : Heap) : b17_1 O R q x0 x1 x4 x20 x29 h = stepF c17 O R q 1 [x0, x1, x4, x20, x29] h := by kernel_rfl
noncomputable def d17 : BlkF := fun O R q => [.s fun y0 => .s fun y1 => .z fun h => b17_0 O R q y0 y1 h, .s fun y0 => .s fun y1 => .s fun y2 => .s fun y3 => .s fun y4 => .z fun h => b17_1 O R q y0 y1 y2 y3 y4 h]
theorem o17 (O : Oracle) (R : Jump) (q : Nat) : HoldsAll c17 O R q 0 (d17 O R q) := ⟨fun y0 y1 h => e17_0 O R q y0 y1 h, fun y0 y1 y2 y3 y4 h => e17_1 O R q y0 y1 y2 y3 y4 h, trivial⟩
/- slices.Clone[[]sprue/api.Value,sprue/api.Value] -/
def c18 : MFunc := { np := 1, res := [.t 2], frz := false, body := (.seq (.reg [⟨(some 2), (.mv (.k (.v (.c (.p .nilslice))))), none⟩] []) (.seq (.seq (.reg [⟨(some 3), (.mv (.t 0)), none⟩, ⟨(some 4), (.bin .eql 2 (.t 3) (.k (.v (.c (.p .nilslice))))), none⟩] []) (.cond (.t 4) (.seq (.reg [⟨(some 2), (.mv (.k (.v (.c (.p .nilslice))))), none⟩] []) .ret) .skip)) (.seq (.reg [⟨(some 5), (.bslice 6 0 [(.p (.int .i64 0)), (.p (.bool false)), (.p (.int .i64 0)), (.p (.str [])), (.p .nilslice), (.p .nilslice)] [] true), none⟩, ⟨(some 6), (.mv (.t 0)), none⟩, ⟨(some 7), (.append 6 88 true (.t 5) (.t 6)), none⟩, ⟨(some 2), (.mv (.t 7)), none⟩] []) .ret))) }
theorem t18 : compF Tryd.prog (globs2 tabs opq) true false Tryd.f18 = some c18.erase := by kernel_rfl
noncomputable def b18_0 (O : Oracle) (R : Jump) (q : Nat) (x0 : TVal) (h : Heap) : Res1 :=
  vbin .eql 2 x0 (.v (.c (.p .nilslice))) h fun x4 h =>
  vif x4 (
  tcomp (.v (.c (.p .nilslice))) fun c0 => vfin false q [c0] h)
  (vop O (.bslice 6 0 [(.p (.int .i64 0)), (.p (.bool false)), (.p (.int .i64 0)), (.p (.str [])), (.p .nilslice), (.p .nilslice)] [] true) h 5 fun x5 h =>
  vop O (.append 6 88 true (.k x5) (.k x0)) h 7 fun x7 h =>
  tcomp x7 fun c0 => vfin false q [c0] h)
theorem e18_0 (O : Oracle) (R : Jump) (q : Nat) (x0 : TVal) (h : Heap) : b18_0 O R q x0 h = stepF c18 O R q 0 [x0] h := by kernel_rfl
noncomputable def d18 : BlkF := fun O R q => [.s fun y0 => .z fun h => b18_0 O R q y0 h]
theorem o18 (O : Oracle) (R : Jump) (q : Nat) : HoldsAll c18 O R q 0 (d18 O R q) := ⟨fun y0 h => e18_0 O R q y0 h, trivial⟩
/- sprue/calls.own -/
def c19 : MFunc := { np := 1, res := [.cell 2 true 6], frz := true, body := (.seq (.reg [⟨(some 1), (.box (.t 0) false), none⟩, ⟨(some 2), (.alloc [(.p (.int .i64 0)), (.p (.bool false)), (.p (.int .i64 0)), (.p (.str [])), (.p .nilslice), (.p .nilslice)] false), none⟩] []) (.seq (.reg [⟨(some 6), (.bslice 1 1 [(.p (.str []))] [(0, (.k (.v (.c (.p (.str []))))))] false), none⟩, ⟨(some 7), (.load true 6 (.t 1)), none⟩, ⟨(some 8), (.bslice 6 1 [(.p (.int .i64 0)), (.p (.bool false)), (.p (.int .i64 0)), (.p (.str [])), (.p .nilslice), (.p .nilslice)] [(0, (.t 7))] false), none⟩, ⟨(some 9), (.build [(.p (.int .i64 0)), (.p (.bool false)), (.p (.int .i64 0)), (.p (.str [])), (.p .nilslice), (.p .nilslice)] [(0, 1, (.k (.v (.c (.p (.int .i64 5)))))), (4, 1, (.t 6)), (5, 1, (.t 8))]), none⟩, ⟨(some 10), (.call (.k (.v (.c (.func 35 [])))) [(.t 9), (.k (.v (.c (.p (.str [])))))]), none⟩, ⟨(some 5), (.mv (.t 10)), none⟩, ⟨(some 11), (.extract (.t 5) 0), none⟩, ⟨(some 12), (.extract (.t 5) 1), none⟩, ⟨(some 3), (.alloc [(.p (.int .i64 0)), (.p (.bool false)), (.p (.int .i64 0)), (.p (.str [])), (.p .nilslice), (.p .nilslice)] false), none⟩, ⟨none, (.store 6 (.t 3) (.t 11)), none⟩, ⟨(some 4), (.mv (.t 12)), none⟩] []) (.seq (.reg [⟨(some 13), (.load true 6 (.t 3)), none⟩, ⟨none, (.store 6 (.t 2) (.t 13)), none⟩] []) .ret))) }
theorem t19 : compF Tryd.prog (globs2 tabs opq) false true Tryd.f19 = some c19.erase := by kernel_rfl
noncomputable def b19_0 (O : Oracle) (R : Jump) (q : Nat) (x0 : TVal) (h : Heap) : Res1 :=
  vop O (.box (.k x0) false) h 1 fun x1 h =>
  vop O (.alloc [(.p (.int .i64 0)), (.p (.bool false)), (.p (.int .i64 0)), (.p (.str [])), (.p .nilslice), (.p .nilslice)] false) h 2 fun x2 h =>
  vop O (.bslice 1 1 [(.p (.str []))] [(0, (.k (kS [])))] false) h 6 fun x6 h =>
  vload true 6 x1 h fun x7 h =>
  vop O (.bslice 6 1 [(.p (.int .i64 0)), (.p (.bool false)), (.p (.int .i64 0)), (.p (.str [])), (.p .nilslice), (.p .nilslice)] [(0, (.k x7))] false) h 8 fun x8 h =>
  vop O (.build [(.p (.int .i64 0)), (.p (.bool false)), (.p (.int .i64 0)), (.p (.str [])), (.p .nilslice), (.p .nilslice)] [(0, 1, (.k (kI 5))), (4, 1, (.k x6)), (5, 1, (.k x8))]) h 9 fun x9 h =>
  vcall O (.v (.c (.func 35 []))) [x9, (kS [])] h 10 fun x10 h =>
  vext x10 0 h fun x11 h =>
  vext x10 1 h fun x12 h =>
  vop O (.alloc [(.p (.int .i64 0)), (.p (.bool false)), (.p (.int .i64 0)), (.p (.str [])), (.p .nilslice), (.p .nilslice)] false) h 3 fun x3 h =>
  vstore 6 x3 x11 h fun _ h =>
  vload true 6 x3 h fun x13 h =>
  vstore 6 x2 x13 h fun _ h =>
  vcell true 6 x2 h fun c0 => vfin true q [c0] h
theorem e19_0 (O : Oracle) (R : Jump) (q : Nat) (x0 : TVal) (h : Heap) : b19_0 O R q x0 h = stepF c19 O R q 0 [x0] h := by kernel_rfl
noncomputable def d19 : BlkF := fun O R q => [.s fun y0 => .z fun h => b19_0 O R q y0 h]
theorem o19 (O : Oracle) (R : Jump) (q : Nat) : HoldsAll c19 O R q 0 (d19 O R q) := ⟨fun y0 h => e19_0 O R q y0 h, trivial⟩
/- sprue/shape.Builtin -/
def c26 : MFunc := { np := 1, res := [.t 2], frz := true, body := (.seq (.reg [⟨(some 2), (.mv (.k (.v (.c (.p (.bool false)))))), none⟩] []) (.seq (.reg [⟨(some 3), (.mv (.t 0)), none⟩, ⟨(some 4), (.call (.k (.v (.c (.func 56 [])))) [(.t 3)]), none⟩, ⟨(some 5), (.mv (.t 4)), none⟩, ⟨(some 6), (.mv (.t 0)), (some (5, true))⟩, ⟨(some 7), (.bin .add 0 (.k (.v (.c (.p (.str [32]))))) (.t 6)), (some (5, true))⟩, ⟨(some 8), (.bin .add 0 (.t 7) (.k (.v (.c (.p (.str [32])))))), (some (5, true))⟩, ⟨(some 9), (.call (.k (.v (.c (.func 57 [])))) [(.k (.v (.c (.p (.str [32, 108, 101, 110, 32, 110, 111, 116, 32, 97, 110, 100, 32, 111, 114, 32, 101, 113, 32, 108, 116, 32, 97, 100, 100, 32, 115, 117, 98, 32, 109, 117, 108, 32, 115, 104, 108, 32, 115, 104, 114, 32, 105, 56, 32, 105, 49, 54, 32, 105, 51, 50, 32, 117, 56, 32, 117, 49, 54, 32, 117, 51, 50, 32, 99, 97, 116, 32, 116, 101, 120, 116, 32, 97, 116, 32, 103, 101, 116, 32, 104, 97, 115, 32, 111, 114, 101, 108, 115, 101, 32]))))), (.t 8)]), (some (5, true))⟩, ⟨(some 10), (.pick (.t 5) (.t 9) (.k (.v (.c (.p (.bool false)))))), none⟩, ⟨(some 2), (.mv (.t 10)), none⟩] []) .ret)) }
theorem t26 : compF Tryd.prog (globs2 tabs opq) false true Tryd.f26 = some c26.erase := by kernel_rfl
noncomputable def b26_0 (O : Oracle) (R : Jump) (q : Nat) (x0 : TVal) (h : Heap) : Res1 :=
  vcall O (.v (.c (.func 56 []))) [x0] h 4 fun x4 h =>
  vguard x4 true (fun kk => kk x0 h) h fun x6 h =>
  vguard x4 true (fun kk => vbin .add 0 (kS [32]) x6 h kk) h fun x7 h =>
  vguard x4 true (fun kk => vbin .add 0 x7 (kS [32]) h kk) h fun x8 h =>
  vguard x4 true (fun kk => vcall O (.v (.c (.func 57 []))) [(kS [32, 108, 101, 110, 32, 110, 111, 116, 32, 97, 110, 100, 32, 111, 114, 32, 101, 113, 32, 108, 116, 32, 97, 100, 100, 32, 115, 117, 98, 32, 109, 117, 108, 32, 115, 104, 108, 32, 115, 104, 114, 32, 105, 56, 32, 105, 49, 54, 32, 105, 51, 50, 32, 117, 56, 32, 117, 49, 54, 32, 117, 51, 50, 32, 99, 97, 116, 32, 116, 101, 120, 116, 32, 97, 116, 32, 103, 101, 116, 32, 104, 97, 115, 32, 111, 114, 101, 108, 115, 101, 32]), x8] h 9 kk) h fun x9 h =>
  vop O (.pick (.k x4) (.k x9) (.k (kB false))) h 10 fun x10 h =>
  tcomp x10 fun c0 => vfin true q [c0] h
theorem e26_0 (O : Oracle) (R : Jump) (q : Nat) (x0 : TVal) (h : Heap) : b26_0 O R q x0 h = stepF c26 O R q 0 [x0] h := by kernel_rfl
noncomputable def d26 : BlkF := fun O R q => [.s fun y0 => .z fun h => b26_0 O R q y0 h]
theorem o26 (O : Oracle) (R : Jump) (q : Nat) : HoldsAll c26 O R q 0 (d26 O R q) := ⟨fun y0 h => e26_0 O R q y0 h, trivial⟩
/- sprue/calls.many -/
def c27 : MFunc := { np := 1, res := [.t 2], frz := true, body := (.seq (.reg [⟨(some 2), (.mv (.k (.v (.c (.p (.int .i64 0)))))), none⟩] []) (.seq (.seq (.reg [⟨(some 3), (.mv (.t 0)), none⟩] []) (.block 0 (.seq (.block 2 (.block 1 (.seq (.seq (.seq (.seq (.reg [⟨(some 5), (.bin .eql 0 (.t 3) (.k (.v (.c (.p (.str [108, 101, 110])))))), none⟩, ⟨(some 4), (.mv (.t 5)), none⟩] []) (.cond (.t 4) .skip (.seq (.reg [⟨(some 6), (.bin .eql 0 (.t 3) (.k (.v (.c (.p (.str [110, 111, 116])))))), none⟩, ⟨(some 4), (.mv (.t 6)), none⟩] []) (.cond (.t 4) .skip (.seq (.reg [⟨(some 7), (.bin .eql 0 (.t 3) (.k (.v (.c (.p (.str [116, 101, 120, 116])))))), none⟩, ⟨(some 4), (.mv (.t 7)), none⟩] []) (.cond (.t 4) .skip (.reg [⟨(some 8), (.bin .eql 0 (.t 3) (.k (.v (.c (.p (.str [104, 97, 115])))))), none⟩, ⟨(some 4), (.mv (.t 8)), none⟩] []))))))) (.mark 1 [3, 4] (.cond (.t 4) (.exit 1) .skip))) (.seq (.seq (.reg [⟨(some 10), (.bin .eql 0 (.t 3) (.k (.v (.c (.p (.str [105, 56])))))), none⟩, ⟨(some 9), (.mv (.t 10)), none⟩] []) (.cond (.t 9) .skip (.seq (.reg [⟨(some 11), (.bin .eql 0 (.t 3) (.k (.v (.c (.p (.str [105, 49, 54])))))), none⟩, ⟨(some 9), (.mv (.t 11)), none⟩] []) (.cond (.t 9) .skip (.seq (.reg [⟨(some 12), (.bin .eql 0 (.t 3) (.k (.v (.c (.p (.str [105, 51, 50])))))), none⟩, ⟨(some 9), (.mv (.t 12)), none⟩] []) (.cond (.t 9) .skip (.seq (.reg [⟨(some 13), (.bin .eql 0 (.t 3) (.k (.v (.c (.p (.str [117, 56])))))), none⟩, ⟨(some 9), (.mv (.t 13)), none⟩] []) (.cond (.t 9) .skip (.seq (.reg [⟨(some 14), (.bin .eql 0 (.t 3) (.k (.v (.c (.p (.str [117, 49, 54])))))), none⟩, ⟨(some 9), (.mv (.t 14)), none⟩] []) (.cond (.t 9) .skip (.reg [⟨(some 15), (.bin .eql 0 (.t 3) (.k (.v (.c (.p (.str [117, 51, 50])))))), none⟩, ⟨(some 9), (.mv (.t 15)), none⟩] []))))))))))) (.mark 2 [9] (.cond (.t 9) (.exit 2) .skip)))) (.exit 0)))) (.seq (.seq (.reg [⟨(some 2), (.mv (.k (.v (.c (.p (.int .i64 1)))))), none⟩] []) .ret) (.exit 0))))) (.seq (.reg [⟨(some 2), (.mv (.k (.v (.c (.p (.int .i64 2)))))), none⟩] []) .ret))) }
theorem t27 : compF Tryd.prog (globs2 tabs opq) false true Tryd.f27 = some c27.erase := by kernel_rfl
noncomputable def b27_0 (O : Oracle) (R : Jump) (q : Nat) (x0 : TVal) (h : Heap) : Res1 :=
  vbin .eql 0 x0 (kS [108, 101, 110]) h fun x5 h =>
  vif x5 (
  R 1 [x0, x5] h)
  (vbin .eql 0 x0 (kS [110, 111, 116]) h fun x6 h =>
  vif x6 (
  R 1 [x0, x6] h)
  (vbin .eql 0 x0 (kS [116, 101, 120, 116]) h fun x7 h =>
  vif x7 (
  R 1 [x0, x7] h)
  (vbin .eql 0 x0 (kS [104, 97, 115]) h fun x8 h =>
  R 1 [x0, x8] h)))
theorem e27_0 (O : Oracle) (R : Jump) (q : Nat) (x0 : TVal) (h : Heap) : b27_0 O R q x0 h = stepF c27 O R q 0 [x0] h := by kernel_rfl
noncomputable def b27_1 (O : Oracle) (R : Jump) (q : Nat) (x3 x4 : TVal) (h : Heap) : Res1 :=
  vif x4 (
  tcomp (kI 1) fun c0 => vfin true q [c0] h)
  (vbin .eql 0 x3 (kS [105, 56]) h fun x10 h =>
  vif x10 (
  R 2 [x10] h)
  (vbin .eql 0 x3 (kS [105, 49, 54]) h fun x11 h =>
  vif x11 (
  R 2 [x11] h)
  (vbin .eql 0 x3 (kS [105, 51, 50]) h fun x12 h =>
  vif x12 (
  R 2 [x12] h)
  (vbin .eql 0 x3 (kS [117, 56]) h fun x13 h =>
  vif x13 (
  R 2 [x13] h)
  (vbin .eql 0 x3 (kS [117, 49, 54]) h fun x14 h =>
  vif x14 (
  R 2 [x14] h)
  (vbin .eql 0 x3 (kS [117, 51, 50]) h fun x15 h =>
  R 2 [x15] h))))))
theorem e27_1 (O : Oracle) (R : Jump) (q : Nat) (x3 x4 : TVal) (h : Heap) : b27_1 O R q x3 x4 h = stepF c27 O R q 1 [x3, x4] h := by kernel_rfl
noncomputable def b27_2 (O : Oracle) (R : Jump) (q : Nat) (x9 : TVal) (h : Heap) : Res1 :=
  vif x9 (
  tcomp (kI 1) fun c0 => vfin true q [c0] h)
  (tcomp (kI 2) fun c0 => vfin true q [c0] h)
theorem e27_2 (O : Oracle) (R : Jump) (q : Nat) (x9 : TVal) (h : Heap) : b27_2 O R q x9 h = stepF c27 O R q 2 [x9] h := by kernel_rfl
noncomputable def d27 : BlkF := fun O R q => [.s fun y0 => .z fun h => b27_0 O R q y0 h, .s fun y0 => .s fun y1 => .z fun h => b27_1 O R q y0 y1 h, .s fun y0 => .z fun h => b27_2 O R q y0 h]
theorem o27 (O : Oracle) (R : Jump) (q : Nat) : HoldsAll c27 O R q 0 (d27 O R q) := ⟨fun y0 h => e27_0 O R q y0 h, fun y0 y1 h => e27_1 O R q y0 y1 h, fun y0 h => e27_2 O R q y0 h, trivial⟩
/- sprue/calls.long -/
def c28 : MFunc := { np := 1, res := [.cell 2 true 6, .t 3], frz := true, body := (.seq (.reg [⟨(some 1), (.box (.t 0) false), none⟩, ⟨(some 2), (.alloc [(.p (.int .i64 0)), (.p (.bool false)), (.p (.int .i64 0)), (.p (.str [])), (.p .nilslice), (.p .nilslice)] false), none⟩, ⟨(some 3), (.mv (.k (.v (.c (.p (.int .i64 0)))))), none⟩] []) (.seq (.seq (.reg [⟨(some 4), (.faddr 0 (.t 1)), none⟩, ⟨(some 5), (.load false 1 (.t 4)), none⟩] []) (.block 0 (.seq (.reg [⟨(some 7), (.bin .eql 0 (.t 5) (.k (.v (.c (.p (.int .i64 3)))))), none⟩, ⟨(some 6), (.mv (.t 7)), none⟩] []) (.cond (.t 6) (.seq (.reg [⟨(some 8), (.faddr 3 (.t 1)), none⟩, ⟨(some 9), (.load false 1 (.t 8)), none⟩, ⟨(some 10), (.len 0 (.t 9)), none⟩, ⟨(some 11), (.call (.k (.v (.c (.func 58 [])))) [(.t 10)]), none⟩, ⟨none, (.store 6 (.t 2) (.t 11)), none⟩, ⟨(some 3), (.mv (.k (.v (.c (.p (.int .i64 0)))))), none⟩] []) .ret) (.seq (.seq (.reg [⟨(some 13), (.bin .eql 0 (.t 5) (.k (.v (.c (.p (.int .i64 4)))))), none⟩, ⟨(some 12), (.mv (.t 13)), none⟩] []) (.cond (.t 12) .skip (.reg [⟨(some 14), (.bin .eql 0 (.t 5) (.k (.v (.c (.p (.int .i64 5)))))), none⟩, ⟨(some 12), (.mv (.t 14)), none⟩] []))) (.mark 1 [1, 2, 12] (.cond (.t 12) (.seq (.reg [⟨(some 15), (.faddr 5 (.t 1)), none⟩, ⟨(some 16), (.load false 1 (.t 15)), none⟩, ⟨(some 17), (.len 2 (.t 16)), none⟩, ⟨(some 18), (.call (.k (.v (.c (.func 58 [])))) [(.t 17)]), none⟩, ⟨none, (.store 6 (.t 2) (.t 18)), none⟩, ⟨(some 3), (.mv (.k (.v (.c (.p (.int .i64 0)))))), none⟩] []) .ret) .skip))))))) (.seq (.reg [⟨(some 19), (.build [(.p (.int .i64 0)), (.p (.bool false)), (.p (.int .i64 0)), (.p (.str [])), (.p .nilslice), (.p .nilslice)] []), none⟩, ⟨none, (.store 6 (.t 2) (.t 19)), none⟩, ⟨(some 3), (.mv (.k (.v (.c (.p (.int .i64 17)))))), none⟩] []) .ret))) }
theorem t28 : compF Tryd.prog (globs2 tabs opq) false true Tryd.f28 = some c28.erase := by kernel_rfl
noncomputable def b28_0 (O : Oracle) (R : Jump) (q : Nat) (x0 : TVal) (h : Heap) : Res1 :=
  vop O (.box (.k x0) false) h 1 fun x1 h =>
  vop O (.alloc [(.p (.int .i64 0)), (.p (.bool false)), (.p (.int .i64 0)), (.p (.str [])), (.p .nilslice), (.p .nilslice)] false) h 2 fun x2 h =>
  vfaddr 0 x1 h fun x4 h =>
  vload false 1 x4 h fun x5 h =>
  vbin .eql 0 x5 (kI 3) h fun x7 h =>
  vif x7 (
  vfaddr 3 x1 h fun x8 h =>
  vload false 1 x8 h fun x9 h =>
  vlen O 0 x9 h 10 fun x10 h =>
  vcall O (.v (.c (.func 58 []))) [x10] h 11 fun x11 h =>
  vstore 6 x2 x11 h fun _ h =>
  vcell true 6 x2 h fun c0 => tcomp (kI 0) fun c1 => vfin true q [c0, c1] h)
  (vbin .eql 0 x5 (kI 4) h fun x13 h =>
  vif x13 (
  R 1 [x1, x2, x13] h)
  (vbin .eql 0 x5 (kI 5) h fun x14 h =>
  R 1 [x1, x2, x14] h))
theorem e28_0 (O : Oracle) (R : Jump) (q : Nat) (x0 : TVal) (h : Heap) : b28_0 O R q x0 h = stepF c28 O R q 0 [x0] h := by kernel_rfl
noncomputable def b28_1 (O : Oracle) (R : Jump) (q : Nat) (x1 x2 x12 : TVal) (h : Heap) : Res1 :=
  vif x12 (
  vfaddr 5 x1 h fun x15 h =>
  vload false 1 x15 h fun x16 h =>
  vlen O 2 x16 h 17 fun x17 h =>
  vcall O (.v (.c (.func 58 []))) [x17] h 18 fun x18 h =>
  vstore 6 x2 x18 h fun _ h =>
  vcell true 6 x2 h fun c0 => tcomp (kI 0) fun c1 => vfin true q [c0, c1] h)
  (vop O (.build [(.p (.int .i64 0)), (.p (.bool false)), (.p (.int .i64 0)), (.p (.str [])), (.p .nilslice), (.p .nilslice)] []) h 19 fun x19 h =>
  vstore 6 x2 x19 h fun _ h =>
  vcell true 6 x2 h fun c0 => tcomp (kI 17) fun c1 => vfin true q [c0, c1] h)
theorem e28_1 (O : Oracle) (R : Jump) (q : Nat) (x1 x2 x12 : TVal) (h : Heap) : b28_1 O R q x1 x2 x12 h = stepF c28 O R q 1 [x1, x2, x12] h := by kernel_rfl
noncomputable def d28 : BlkF := fun O R q => [.s fun y0 => .z fun h => b28_0 O R q y0 h, .s fun y0 => .s fun y1 => .s fun y2 => .z fun h => b28_1 O R q y0 y1 y2 h]
theorem o28 (O : Oracle) (R : Jump) (q : Nat) : HoldsAll c28 O R q 0 (d28 O R q) := ⟨fun y0 h => e28_0 O R q y0 h, fun y0 y1 y2 h => e28_1 O R q y0 y1 y2 h, trivial⟩
/- sprue/calls.logic -/
def c29 : MFunc := { np := 2, res := [.cell 4 true 6, .t 5], frz := true, body := (.seq (.reg [⟨(some 4), (.alloc [(.p (.int .i64 0)), (.p (.bool false)), (.p (.int .i64 0)), (.p (.str [])), (.p .nilslice), (.p .nilslice)] false), none⟩, ⟨(some 5), (.mv (.k (.v (.c (.p (.int .i64 0)))))), none⟩] []) (.seq (.seq (.reg [⟨(some 6), (.mv (.t 1)), none⟩, ⟨(some 7), (.call (.k (.v (.c (.func 59 [])))) [(.t 6), (.k (.v (.c (.func 60 []))))]), none⟩] []) (.cond (.t 7) (.seq (.reg [⟨(some 8), (.build [(.p (.int .i64 0)), (.p (.bool false)), (.p (.int .i64 0)), (.p (.str [])), (.p .nilslice), (.p .nilslice)] []), none⟩, ⟨none, (.store 6 (.t 4) (.t 8)), none⟩, ⟨(some 5), (.mv (.k (.v (.c (.p (.int .i64 17)))))), none⟩] []) .ret) .skip)) (.seq (.seq (.reg [⟨(some 9), (.mv (.t 0)), none⟩] []) (.block 0 (.seq (.reg [⟨(some 11), (.bin .eql 0 (.t 9) (.k (.v (.c (.p (.str [110, 111, 116])))))), none⟩, ⟨(some 10), (.mv (.t 11)), none⟩] []) (.cond (.t 10) (.seq (.reg [⟨(some 12), (.mv (.t 1)), none⟩, ⟨(some 13), (.iaddr 6 (.t 12) (.k (.v (.c (.p (.int .i64 0)))))), none⟩, ⟨(some 14), (.faddr 1 (.t 13)), none⟩, ⟨(some 15), (.load false 1 (.t 14)), none⟩, ⟨(some 16), (.un .not (.t 15)), none⟩, ⟨(some 17), (.call (.k (.v (.c (.func 36 [])))) [(.t 16)]), none⟩, ⟨none, (.store 6 (.t 4) (.t 17)), none⟩, ⟨(some 5), (.mv (.k (.v (.c (.p (.int .i64 0)))))), none⟩] []) .ret) (.seq (.reg [⟨(some 19), (.bin .eql 0 (.t 9) (.k (.v (.c (.p (.str [97, 110, 100])))))), none⟩, ⟨(some 18), (.mv (.t 19)), none⟩] []) (.cond (.t 18) (.seq (.reg [⟨(some 20), (.mv (.t 1)), none⟩, ⟨(some 21), (.iaddr 6 (.t 20) (.k (.v (.c (.p (.int .i64 0)))))), none⟩, ⟨(some 22), (.faddr 1 (.t 21)), none⟩, ⟨(some 23), (.load false 1 (.t 22)), none⟩, ⟨(some 24), (.mv (.t 23)), none⟩, ⟨(some 25), (.mv (.t 1)), (some (24, true))⟩, ⟨(some 26), (.iaddr 6 (.t 25) (.k (.v (.c (.p (.int .i64 1)))))), (some (24, true))⟩, ⟨(some 27), (.faddr 1 (.t 26)), (some (24, true))⟩, ⟨(some 28), (.load false 1 (.t 27)), (some (24, true))⟩, ⟨(some 29), (.pick (.t 24) (.t 28) (.k (.v (.c (.p (.bool false)))))), none⟩, ⟨(some 30), (.call (.k (.v (.c (.func 36 [])))) [(.t 29)]), none⟩, ⟨none, (.store 6 (.t 4) (.t 30)), none⟩, ⟨(some 5), (.mv (.k (.v (.c (.p (.int .i64 0)))))), none⟩] []) .ret) .skip)))))) (.seq (.reg [⟨(some 31), (.mv (.t 1)), none⟩, ⟨(some 32), (.iaddr 6 (.t 31) (.k (.v (.c (.p (.int .i64 0)))))), none⟩, ⟨(some 33), (.faddr 1 (.t 32)), none⟩, ⟨(some 34), (.load false 1 (.t 33)), none⟩, ⟨(some 35), (.mv (.t 34)), none⟩, ⟨(some 36), (.mv (.t 1)), (some (35, false))⟩, ⟨(some 37), (.iaddr 6 (.t 36) (.k (.v (.c (.p (.int .i64 1)))))), (some (35, false))⟩, ⟨(some 38), (.faddr 1 (.t 37)), (some (35, false))⟩, ⟨(some 39), (.load false 1 (.t 38)), (some (35, false))⟩, ⟨(some 40), (.pick (.t 35) (.k (.v (.c (.p (.bool true))))) (.t 39)), none⟩, ⟨(some 41), (.call (.k (.v (.c (.func 36 [])))) [(.t 40)]), none⟩, ⟨none, (.store 6 (.t 4) (.t 41)), none⟩, ⟨(some 5), (.mv (.k (.v (.c (.p (.int .i64 0)))))), none⟩] []) .ret)))) }
theorem t29 : compF Tryd.prog (globs2 tabs opq) false true Tryd.f29 = some c29.erase := by kernel_rfl
noncomputable def b29_0 (O : Oracle) (R : Jump) (q : Nat) (x0 x1 : TVal) (h : Heap) : Res1 :=
  vop O (.alloc [(.p (.int .i64 0)), (.p (.bool false)), (.p (.int .i64 0)), (.p (.str [])), (.p .nilslice), (.p .nilslice)] false) h 4 fun x4 h =>
  vcall O (.v (.c (.func 59 []))) [x1, (.v (.c (.func 60 [])))] h 7 fun x7 h =>
  vif x7 (
  vop O (.build [(.p (.int .i64 0)), (.p (.bool false)), (.p (.int .i64 0)), (.p (.str [])), (.p .nilslice), (.p .nilslice)] []) h 8 fun x8 h =>
  vstore 6 x4 x8 h fun _ h =>
  vcell true 6 x4 h fun c0 => tcomp (kI 17) fun c1 => vfin true q [c0, c1] h)
  (vbin .eql 0 x0 (kS [110, 111, 116]) h fun x11 h =>
  vif x11 (
  viaddr 6 x1 (kI 0) h fun x13 h =>
  vfaddr 1 x13 h fun x14 h =>
  vload false 1 x14 h fun x15 h =>
  vop O (.un .not (.k x15)) h 16 fun x16 h =>
  vcall O (.v (.c (.func 36 []))) [x16] h 17 fun x17 h =>
  vstore 6 x4 x17 h fun _ h =>
  vcell true 6 x4 h fun c0 => tcomp (kI 0) fun c1 => vfin true q [c0, c1] h)
  (vbin .eql 0 x0 (kS [97, 110, 100]) h fun x19 h =>
  vif x19 (
  viaddr 6 x1 (kI 0) h fun x21 h =>
  vfaddr 1 x21 h fun x22 h =>
  vload false 1 x22 h fun x23 h =>
  vguard x23 true (fun kk => kk x1 h) h fun x25 h =>
  vguard x23 true (fun kk => viaddr 6 x25 (kI 1) h kk) h fun x26 h =>
  vguard x23 true (fun kk => vfaddr 1 x26 h kk) h fun x27 h =>
  vguard x23 true (fun kk => vload false 1 x27 h kk) h fun x28 h =>
  vop O (.pick (.k x23) (.k x28) (.k (kB false))) h 29 fun x29 h =>
  vcall O (.v (.c (.func 36 []))) [x29] h 30 fun x30 h =>
  vstore 6 x4 x30 h fun _ h =>
  vcell true 6 x4 h fun c0 => tcomp (kI 0) fun c1 => vfin true q [c0, c1] h)
  (viaddr 6 x1 (kI 0) h fun x32 h =>
  vfaddr 1 x32 h fun x33 h =>
  vload false 1 x33 h fun x34 h =>
  vguard x34 false (fun kk => kk x1 h) h fun x36 h =>
  vguard x34 false (fun kk => viaddr 6 x36 (kI 1) h kk) h fun x37 h =>
  vguard x34 false (fun kk => vfaddr 1 x37 h kk) h fun x38 h =>
  vguard x34 false (fun kk => vload false 1 x38 h kk) h fun x39 h =>
  vop O (.pick (.k x34) (.k (kB true)) (.k x39)) h 40 fun x40 h =>
  vcall O (.v (.c (.func 36 []))) [x40] h 41 fun x41 h =>
  vstore 6 x4 x41 h fun _ h =>
  vcell true 6 x4 h fun c0 => tcomp (kI 0) fun c1 => vfin true q [c0, c1] h)))
theorem e29_0 (O : Oracle) (R : Jump) (q : Nat) (x0 x1 : TVal) (h : Heap) : b29_0 O R q x0 x1 h = stepF c29 O R q 0 [x0, x1] h := by kernel_rfl
noncomputable def d29 : BlkF := fun O R q => [.s fun y0 => .s fun y1 => .z fun h => b29_0 O R q y0 y1 h]
theorem o29 (O : Oracle) (R : Jump) (q : Nat) : HoldsAll c29 O R q 0 (d29 O R q) := ⟨fun y0 y1 h => e29_0 O R q y0 y1 h, trivial⟩
/- sprue/calls.same -/
def c30 : MFunc := { np := 1, res := [.cell 2 true 6, .t 3], frz := true, body := (.seq (.reg [⟨(some 2), (.alloc [(.p (.int .i64 0)), (.p (.bool false)), (.p (.int .i64 0)), (.p (.str [])), (.p .nilslice), (.p .nilslice)] false), none⟩, ⟨(some 3), (.mv (.k (.v (.c (.p (.int .i64 0)))))), none⟩] []) (.seq (.reg [⟨(some 5), (.mv (.t 0)), none⟩, ⟨(some 6), (.iaddr 6 (.t 5) (.k (.v (.c (.p (.int .i64 0)))))), none⟩, ⟨(some 7), (.faddr 0 (.t 6)), none⟩, ⟨(some 8), (.load false 1 (.t 7)), none⟩, ⟨(some 4), (.mv (.t 8)), none⟩] []) (.seq (.seq (.reg [⟨(some 9), (.mv (.t 4)), none⟩, ⟨(some 10), (.bin .lss 0 (.t 9) (.k (.v (.c (.p (.int .i64 1)))))), none⟩, ⟨(some 11), (.mv (.t 10)), none⟩, ⟨(some 12), (.mv (.t 4)), (some (11, false))⟩, ⟨(some 13), (.bin .gtr 0 (.t 12) (.k (.v (.c (.p (.int .i64 3)))))), (some (11, false))⟩, ⟨(some 14), (.pick (.t 11) (.k (.v (.c (.p (.bool true))))) (.t 13)), none⟩, ⟨(some 15), (.mv (.t 14)), none⟩, ⟨(some 16), (.mv (.t 0)), (some (15, false))⟩, ⟨(some 17), (.iaddr 6 (.t 16) (.k (.v (.c (.p (.int .i64 1)))))), (some (15, false))⟩, ⟨(some 18), (.faddr 0 (.t 17)), (some (15, false))⟩, ⟨(some 19), (.load false 1 (.t 18)), (some (15, false))⟩, ⟨(some 20), (.mv (.t 4)), (some (15, false))⟩, ⟨(some 21), (.bin .neq 0 (.t 19) (.t 20)), (some (15, false))⟩, ⟨(some 22), (.pick (.t 15) (.k (.v (.c (.p (.bool true))))) (.t 21)), none⟩] []) (.cond (.t 22) (.seq (.reg [⟨(some 23), (.build [(.p (.int .i64 0)), (.p (.bool false)), (.p (.int .i64 0)), (.p (.str [])), (.p .nilslice), (.p .nilslice)] []), none⟩, ⟨none, (.store 6 (.t 2) (.t 23)), none⟩, ⟨(some 3), (.mv (.k (.v (.c (.p (.int .i64 17)))))), none⟩] []) .ret) .skip)) (.seq (.reg [⟨(some 24), (.mv (.t 0)), none⟩, ⟨(some 25), (.iaddr 6 (.t 24) (.k (.v (.c (.p (.int .i64 0)))))), none⟩, ⟨(some 26), (.faddr 1 (.t 25)), none⟩, ⟨(some 27), (.load false 1 (.t 26)), none⟩, ⟨(some 28), (.mv (.t 0)), none⟩, ⟨(some 29), (.iaddr 6 (.t 28) (.k (.v (.c (.p (.int .i64 1)))))), none⟩, ⟨(some 30), (.faddr 1 (.t 29)), none⟩, ⟨(some 31), (.load false 1 (.t 30)), none⟩, ⟨(some 32), (.bin .eql 5 (.t 27) (.t 31)), none⟩, ⟨(some 33), (.mv (.t 32)), none⟩, ⟨(some 34), (.mv (.t 0)), (some (33, true))⟩, ⟨(some 35), (.iaddr 6 (.t 34) (.k (.v (.c (.p (.int .i64 0)))))), (some (33, true))⟩, ⟨(some 36), (.faddr 2 (.t 35)), (some (33, true))⟩, ⟨(some 37), (.load false 1 (.t 36)), (some (33, true))⟩, ⟨(some 38), (.mv (.t 0)), (some (33, true))⟩, ⟨(some 39), (.iaddr 6 (.t 38) (.k (.v (.c (.p (.int .i64 1)))))), (some (33, true))⟩, ⟨(some 40), (.faddr 2 (.t 39)), (some (33, true))⟩, ⟨(some 41), (.load false 1 (.t 40)), (some (33, true))⟩, ⟨(some 42), (.bin .eql 0 (.t 37) (.t 41)), (some (33, true))⟩, ⟨(some 43), (.pick (.t 33) (.t 42) (.k (.v (.c (.p (.bool false)))))), none⟩, ⟨(some 44), (.mv (.t 43)), none⟩, ⟨(some 45), (.mv (.t 0)), (some (44, true))⟩, ⟨(some 46), (.iaddr 6 (.t 45) (.k (.v (.c (.p (.int .i64 0)))))), (some (44, true))⟩, ⟨(some 47), (.faddr 3 (.t 46)), (some (44, true))⟩, ⟨(some 48), (.load false 1 (.t 47)), (some (44, true))⟩, ⟨(some 49), (.mv (.t 0)), (some (44, true))⟩, ⟨(some 50), (.iaddr 6 (.t 49) (.k (.v (.c (.p (.int .i64 1)))))), (some (44, true))⟩, ⟨(some 51), (.faddr 3 (.t 50)), (some (44, true))⟩, ⟨(some 52), (.load false 1 (.t 51)), (some (44, true))⟩, ⟨(some 53), (.bin .eql 0 (.t 48) (.t 52)), (some (44, true))⟩, ⟨(some 54), (.pick (.t 44) (.t 53) (.k (.v (.c (.p (.bool false)))))), none⟩, ⟨(some 55), (.call (.k (.v (.c (.func 36 [])))) [(.t 54)]), none⟩, ⟨none, (.store 6 (.t 2) (.t 55)), none⟩, ⟨(some 3), (.mv (.k (.v (.c (.p (.int .i64 0)))))), none⟩] []) .ret)))) }
theorem t30 : compF Tryd.prog (globs2 tabs opq) false true Tryd.f30 = some c30.erase := by kernel_rfl
noncomputable def b30_0 (O : Oracle) (R : Jump) (q : Nat) (x0 : TVal) (h : Heap) : Res1 :=
  vop O (.alloc [(.p (.int .i64 0)), (.p (.bool false)), (.p (.int .i64 0)), (.p (.str [])), (.p .nilslice), (.p .nilslice)] false) h 2 fun x2 h =>
  viaddr 6 x0 (kI 0) h fun x6 h =>
  vfaddr 0 x6 h fun x7 h =>
  vload false 1 x7 h fun x8 h =>
  vbin .lss 0 x8 (kI 1) h fun x10 h =>
  vguard x10 false (fun kk => kk x8 h) h fun x12 h =>
  vguard x10 false (fun kk => vbin .gtr 0 x12 (kI 3) h kk) h fun x13 h =>
  vop O (.pick (.k x10) (.k (kB true)) (.k x13)) h 14 fun x14 h =>
  vguard x14 false (fun kk => kk x0 h) h fun x16 h =>
  vguard x14 false (fun kk => viaddr 6 x16 (kI 1) h kk) h fun x17 h =>
  vguard x14 false (fun kk => vfaddr 0 x17 h kk) h fun x18 h =>
  vguard x14 false (fun kk => vload false 1 x18 h kk) h fun x19 h =>
  vguard x14 false (fun kk => kk x8 h) h fun x20 h =>
  vguard x14 false (fun kk => vbin .neq 0 x19 x20 h kk) h fun x21 h =>
  vop O (.pick (.k x14) (.k (kB true)) (.k x21)) h 22 fun x22 h =>
  vif x22 (
  vop O (.build [(.p (.int .i64 0)), (.p (.bool false)), (.p (.int .i64 0)), (.p (.str [])), (.p .nilslice), (.p .nilslice)] []) h 23 fun x23 h =>
  vstore 6 x2 x23 h fun _ h =>
  vcell true 6 x2 h fun c0 => tcomp (kI 17) fun c1 => vfin true q [c0, c1] h)
  (viaddr 6 x0 (kI 0) h fun x25 h =>
  vfaddr 1 x25 h fun x26 h =>
  vload false 1 x26 h fun x27 h =>
  viaddr 6 x0 (kI 1) h fun x29 h =>
  vfaddr 1 x29 h fun x30 h =>
  vload false 1 x30 h fun x31 h =>
  vbin .eql 5 x27 x31 h fun x32 h =>
  vguard x32 true (fun kk => kk x0 h) h fun x34 h =>
  vguard x32 true (fun kk => viaddr 6 x34 (kI 0) h kk) h fun x35 h =>
  vguard x32 true (fun kk => vfaddr 2 x35 h kk) h fun x36 h =>
  vguard x32 true (fun kk => vload false 1 x36 h kk) h fun x37 h =>
  vguard x32 true (fun kk => kk x0 h) h fun x38 h =>
  vguard x32 true (fun kk => viaddr 6 x38 (kI 1) h kk) h fun x39 h =>
  vguard x32 true (fun kk => vfaddr 2 x39 h kk) h fun x40 h =>
  vguard x32 true (fun kk => vload false 1 x40 h kk) h fun x41 h =>
  vguard x32 true (fun kk => vbin .eql 0 x37 x41 h kk) h fun x42 h =>
  vop O (.pick (.k x32) (.k x42) (.k (kB false))) h 43 fun x43 h =>
  vguard x43 true (fun kk => kk x0 h) h fun x45 h =>
  vguard x43 true (fun kk => viaddr 6 x45 (kI 0) h kk) h fun x46 h =>
  vguard x43 true (fun kk => vfaddr 3 x46 h kk) h fun x47 h =>
  vguard x43 true (fun kk => vload false 1 x47 h kk) h fun x48 h =>
  vguard x43 true (fun kk => kk x0 h) h fun x49 h =>
  vguard x43 true (fun kk => viaddr 6 x49 (kI 1) h kk) h fun x50 h =>
  vguard x43 true (fun kk => vfaddr 3 x50 h kk) h fun x51 h =>
  vguard x43 true (fun kk => vload false 1 x51 h kk) h fun x52 h =>
  vguard x43 true (fun kk => vbin .eql 0 x48 x52 h kk) h fun x53 h =>
  vop O (.pick (.k x43) (.k x53) (.k (kB false))) h 54 fun x54 h =>
  vcall O (.v (.c (.func 36 []))) [x54] h 55 fun x55 h =>
  vstore 6 x2 x55 h fun _ h =>
  vcell true 6 x2 h fun c0 => tcomp (kI 0) fun c1 => vfin true q [c0, c1] h)
theorem e30_0 (O : Oracle) (R : Jump) (q : Nat) (x0 : TVal) (h : Heap) : b30_0 O R q x0 h = stepF c30 O R q 0 [x0] h := by kernel_rfl
noncomputable def d30 : BlkF := fun O R q => [.s fun y0 => .z fun h => b30_0 O R q y0 h]
theorem o30 (O : Oracle) (R : Jump) (q : Nat) : HoldsAll c30 O R q 0 (d30 O R q) := ⟨fun y0 h => e30_0 O R q y0 h, trivial⟩
/- sprue/calls.cat -/
def c31 : MFunc := { np := 1, res := [.cell 2 true 6, .t 3], frz := true, body := (.seq (.reg [⟨(some 2), (.alloc [(.p (.int .i64 0)), (.p (.bool false)), (.p (.int .i64 0)), (.p (.str [])), (.p .nilslice), (.p .nilslice)] false), none⟩, ⟨(some 3), (.mv (.k (.v (.c (.p (.int .i64 0)))))), none⟩] []) (.seq (.block 0 (.seq (.reg [⟨(some 5), (.mv (.t 0)), none⟩, ⟨(some 6), (.bslice 1 2 [(.p (.int .i64 0))] [(0, (.k (.v (.c (.p (.int .i64 3)))))), (1, (.k (.v (.c (.p (.int .i64 3))))))] false), none⟩, ⟨(some 7), (.call (.k (.v (.c (.func 34 [])))) [(.t 5), (.t 6)]), none⟩, ⟨(some 8), (.un .not (.t 7)), none⟩, ⟨(some 4), (.mv (.t 8)), none⟩] []) (.cond (.t 4) (.seq (.reg [⟨(some 9), (.build [(.p (.int .i64 0)), (.p (.bool false)), (.p (.int .i64 0)), (.p (.str [])), (.p .nilslice), (.p .nilslice)] []), none⟩, ⟨none, (.store 6 (.t 2) (.t 9)), none⟩, ⟨(some 3), (.mv (.k (.v (.c (.p (.int .i64 17)))))), none⟩] []) .ret) (.seq (.reg [⟨(some 11), (.mv (.t 0)), none⟩, ⟨(some 12), (.iaddr 6 (.t 11) (.k (.v (.c (.p (.int .i64 0)))))), none⟩, ⟨(some 13), (.faddr 3 (.t 12)), none⟩, ⟨(some 14), (.load false 1 (.t 13)), none⟩, ⟨(some 15), (.len 0 (.t 14)), none⟩, ⟨(some 16), (.mv (.t 0)), none⟩, ⟨(some 17), (.iaddr 6 (.t 16) (.k (.v (.c (.p (.int .i64 1)))))), none⟩, ⟨(some 18), (.faddr 3 (.t 17)), none⟩, ⟨(some 19), (.load false 1 (.t 18)), none⟩, ⟨(some 20), (.len 0 (.t 19)), none⟩, ⟨(some 21), (.bin .sub 0 (.k (.v (.c (.p (.int .i64 65536))))) (.t 20)), none⟩, ⟨(some 22), (.bin .gtr 0 (.t 15) (.t 21)), none⟩, ⟨(some 10), (.mv (.t 22)), none⟩] []) (.cond (.t 10) (.seq (.reg [⟨(some 23), (.build [(.p (.int .i64 0)), (.p (.bool false)), (.p (.int .i64 0)), (.p (.str [])), (.p .nilslice), (.p .nilslice)] []), none⟩, ⟨none, (.store 6 (.t 2) (.t 23)), none⟩, ⟨(some 3), (.mv (.k (.v (.c (.p (.int .i64 34)))))), none⟩] []) .ret) .skip))))) (.seq (.reg [⟨(some 24), (.mv (.t 0)), none⟩, ⟨(some 25), (.iaddr 6 (.t 24) (.k (.v (.c (.p (.int .i64 0)))))), none⟩, ⟨(some 26), (.faddr 3 (.t 25)), none⟩, ⟨(some 27), (.load false 1 (.t 26)), none⟩, ⟨(some 28), (.mv (.t 0)), none⟩, ⟨(some 29), (.iaddr 6 (.t 28) (.k (.v (.c (.p (.int .i64 1)))))), none⟩, ⟨(some 30), (.faddr 3 (.t 29)), none⟩, ⟨(some 31), (.load false 1 (.t 30)), none⟩, ⟨(some 32), (.bin .add 0 (.t 27) (.t 31)), none⟩, ⟨(some 33), (.call (.k (.v (.c (.func 61 [])))) [(.t 32)]), none⟩, ⟨none, (.store 6 (.t 2) (.t 33)), none⟩, ⟨(some 3), (.mv (.k (.v (.c (.p (.int .i64 0)))))), none⟩] []) .ret))) }
theorem t31 : compF Tryd.prog (globs2 tabs opq) false true Tryd.f31 = some c31.erase := by kernel_rfl
noncomputable def b31_0 (O : Oracle) (R : Jump) (q : Nat) (x0 : TVal) (h : Heap) : Res1 :=
  vop O (.alloc [(.p (.int .i64 0)), (.p (.bool false)), (.p (.int .i64 0)), (.p (.str [])), (.p .nilslice), (.p .nilslice)] false) h 2 fun x2 h =>
  vop O (.bslice 1 2 [(.p (.int .i64 0))] [(0, (.k (kI 3))), (1, (.k (kI 3)))] false) h 6 fun x6 h =>
  vcall O (.v (.c (.func 34 []))) [x0, x6] h 7 fun x7 h =>
  vop O (.un .not (.k x7)) h 8 fun x8 h =>
  vif x8 (
  vop O (.build [(.p (.int .i64 0)), (.p (.bool false)), (.p (.int .i64 0)), (.p (.str [])), (.p .nilslice), (.p .nilslice)] []) h 9 fun x9 h =>
  vstore 6 x2 x9 h fun _ h =>
  vcell true 6 x2 h fun c0 => tcomp (kI 17) fun c1 => vfin true q [c0, c1] h)
  (viaddr 6 x0 (kI 0) h fun x12 h =>
  vfaddr 3 x12 h fun x13 h =>
  vload false 1 x13 h fun x14 h =>
  vlen O 0 x14 h 15 fun x15 h =>
  viaddr 6 x0 (kI 1) h fun x17 h =>
  vfaddr 3 x17 h fun x18 h =>
  vload false 1 x18 h fun x19 h =>
  vlen O 0 x19 h 20 fun x20 h =>
  vbin .sub 0 (kI 65536) x20 h fun x21 h =>
  vbin .gtr 0 x15 x21 h fun x22 h =>
  vif x22 (
  vop O (.build [(.p (.int .i64 0)), (.p (.bool false)), (.p (.int .i64 0)), (.p (.str [])), (.p .nilslice), (.p .nilslice)] []) h 23 fun x23 h =>
  vstore 6 x2 x23 h fun _ h =>
  vcell true 6 x2 h fun c0 => tcomp (kI 34) fun c1 => vfin true q [c0, c1] h)
  (viaddr 6 x0 (kI 0) h fun x25 h =>
  vfaddr 3 x25 h fun x26 h =>
  vload false 1 x26 h fun x27 h =>
  viaddr 6 x0 (kI 1) h fun x29 h =>
  vfaddr 3 x29 h fun x30 h =>
  vload false 1 x30 h fun x31 h =>
  vbin .add 0 x27 x31 h fun x32 h =>
  vcall O (.v (.c (.func 61 []))) [x32] h 33 fun x33 h =>
  vstore 6 x2 x33 h fun _ h =>
  vcell true 6 x2 h fun c0 => tcomp (kI 0) fun c1 => vfin true q [c0, c1] h))
theorem e31_0 (O : Oracle) (R : Jump) (q : Nat) (x0 : TVal) (h : Heap) : b31_0 O R q x0 h = stepF c31 O R q 0 [x0] h := by kernel_rfl
noncomputable def d31 : BlkF := fun O R q => [.s fun y0 => .z fun h => b31_0 O R q y0 h]
theorem o31 (O : Oracle) (R : Jump) (q : Nat) : HoldsAll c31 O R q 0 (d31 O R q) := ⟨fun y0 h => e31_0 O R q y0 h, trivial⟩
/- sprue/calls.written -/
def c32 : MFunc := { np := 1, res := [.cell 2 true 6, .t 3], frz := true, body := (.seq (.reg [⟨(some 1), (.box (.t 0) false), none⟩, ⟨(some 2), (.alloc [(.p (.int .i64 0)), (.p (.bool false)), (.p (.int .i64 0)), (.p (.str [])), (.p .nilslice), (.p .nilslice)] false), none⟩, ⟨(some 3), (.mv (.k (.v (.c (.p (.int .i64 0)))))), none⟩] []) (.seq (.seq (.reg [⟨(some 4), (.faddr 0 (.t 1)), none⟩, ⟨(some 5), (.load false 1 (.t 4)), none⟩] []) (.block 0 (.seq (.reg [⟨(some 7), (.bin .eql 0 (.t 5) (.k (.v (.c (.p (.int .i64 2)))))), none⟩, ⟨(some 6), (.mv (.t 7)), none⟩] []) (.cond (.t 6) (.seq (.reg [⟨(some 8), (.faddr 2 (.t 1)), none⟩, ⟨(some 9), (.load false 1 (.t 8)), none⟩, ⟨(some 10), (.call (.k (.v (.c (.func 62 [])))) [(.t 9), (.k (.v (.c (.p (.int .i64 10)))))]), none⟩, ⟨(some 11), (.call (.k (.v (.c (.func 61 [])))) [(.t 10)]), none⟩, ⟨none, (.store 6 (.t 2) (.t 11)), none⟩, ⟨(some 3), (.mv (.k (.v (.c (.p (.int .i64 0)))))), none⟩] []) .ret) (.seq (.reg [⟨(some 13), (.bin .eql 0 (.t 5) (.k (.v (.c (.p (.int .i64 1)))))), none⟩, ⟨(some 12), (.mv (.t 13)), none⟩] []) (.cond (.t 12) (.seq (.reg [⟨(some 14), (.faddr 1 (.t 1)), none⟩, ⟨(some 15), (.load false 1 (.t 14)), none⟩, ⟨(some 16), (.call (.k (.v (.c (.func 63 [])))) [(.t 15)]), none⟩, ⟨(some 17), (.call (.k (.v (.c (.func 61 [])))) [(.t 16)]), none⟩, ⟨none, (.store 6 (.t 2) (.t 17)), none⟩, ⟨(some 3), (.mv (.k (.v (.c (.p (.int .i64 0)))))), none⟩] []) .ret) .skip)))))) (.seq (.reg [⟨(some 18), (.build [(.p (.int .i64 0)), (.p (.bool false)), (.p (.int .i64 0)), (.p (.str [])), (.p .nilslice), (.p .nilslice)] []), none⟩, ⟨none, (.store 6 (.t 2) (.t 18)), none⟩, ⟨(some 3), (.mv (.k (.v (.c (.p (.int .i64 17)))))), none⟩] []) .ret))) }
theorem t32 : compF Tryd.prog (globs2 tabs opq) false true Tryd.f32 = some c32.erase := by kernel_rfl
noncomputable def b32_0 (O : Oracle) (R : Jump) (q : Nat) (x0 : TVal) (h : Heap) : Res1 :=
  vop O (.box (.k x0) false) h 1 fun x1 h =>
  vop O (.alloc [(.p (.int .i64 0)), (.p (.bool false)), (.p (.int .i64 0)), (.p (.str [])), (.p .nilslice), (.p .nilslice)] false) h 2 fun x2 h =>
  vfaddr 0 x1 h fun x4 h =>
  vload false 1 x4 h fun x5 h =>
  vbin .eql 0 x5 (kI 2) h fun x7 h =>
  vif x7 (
  vfaddr 2 x1 h fun x8 h =>
  vload false 1 x8 h fun x9 h =>
  vcall O (.v (.c (.func 62 []))) [x9, (kI 10)] h 10 fun x10 h =>
  vcall O (.v (.c (.func 61 []))) [x10] h 11 fun x11 h =>
  vstore 6 x2 x11 h fun _ h =>
  vcell true 6 x2 h fun c0 => tcomp (kI 0) fun c1 => vfin true q [c0, c1] h)
  (vbin .eql 0 x5 (kI 1) h fun x13 h =>
  vif x13 (
  vfaddr 1 x1 h fun x14 h =>
  vload false 1 x14 h fun x15 h =>
  vcall O (.v (.c (.func 63 []))) [x15] h 16 fun x16 h =>
  vcall O (.v (.c (.func 61 []))) [x16] h 17 fun x17 h =>
  vstore 6 x2 x17 h fun _ h =>
  vcell true 6 x2 h fun c0 => tcomp (kI 0) fun c1 => vfin true q [c0, c1] h)
  (vop O (.build [(.p (.int .i64 0)), (.p (.bool false)), (.p (.int .i64 0)), (.p (.str [])), (.p .nilslice), (.p .nilslice)] []) h 18 fun x18 h =>
  vstore 6 x2 x18 h fun _ h =>
  vcell true 6 x2 h fun c0 => tcomp (kI 17) fun c1 => vfin true q [c0, c1] h))
theorem e32_0 (O : Oracle) (R : Jump) (q : Nat) (x0 : TVal) (h : Heap) : b32_0 O R q x0 h = stepF c32 O R q 0 [x0] h := by kernel_rfl
noncomputable def d32 : BlkF := fun O R q => [.s fun y0 => .z fun h => b32_0 O R q y0 h]
theorem o32 (O : Oracle) (R : Jump) (q : Nat) : HoldsAll c32 O R q 0 (d32 O R q) := ⟨fun y0 h => e32_0 O R q y0 h, trivial⟩
/- sprue/calls.at -/
def c33 : MFunc := { np := 1, res := [.cell 2 true 6, .t 3], frz := true, body := (.seq (.reg [⟨(some 2), (.alloc [(.p (.int .i64 0)), (.p (.bool false)), (.p (.int .i64 0)), (.p (.str [])), (.p .nilslice), (.p .nilslice)] false), none⟩, ⟨(some 3), (.mv (.k (.v (.c (.p (.int .i64 0)))))), none⟩] []) (.seq (.block 0 (.seq (.reg [⟨(some 5), (.mv (.t 0)), none⟩, ⟨(some 6), (.bslice 1 2 [(.p (.int .i64 0))] [(0, (.k (.v (.c (.p (.int .i64 4)))))), (1, (.k (.v (.c (.p (.int .i64 2))))))] false), none⟩, ⟨(some 7), (.call (.k (.v (.c (.func 34 [])))) [(.t 5), (.t 6)]), none⟩, ⟨(some 8), (.un .not (.t 7)), none⟩, ⟨(some 4), (.mv (.t 8)), none⟩] []) (.cond (.t 4) (.seq (.reg [⟨(some 9), (.build [(.p (.int .i64 0)), (.p (.bool false)), (.p (.int .i64 0)), (.p (.str [])), (.p .nilslice), (.p .nilslice)] []), none⟩, ⟨none, (.store 6 (.t 2) (.t 9)), none⟩, ⟨(some 3), (.mv (.k (.v (.c (.p (.int .i64 17)))))), none⟩] []) .ret) (.seq (.reg [⟨(some 11), (.mv (.t 0)), none⟩, ⟨(some 12), (.iaddr 6 (.t 11) (.k (.v (.c (.p (.int .i64 1)))))), none⟩, ⟨(some 13), (.faddr 2 (.t 12)), none⟩, ⟨(some 14), (.load false 1 (.t 13)), none⟩, ⟨(some 15), (.bin .lss 0 (.t 14) (.k (.v (.c (.p (.int .i64 0)))))), none⟩, ⟨(some 16), (.mv (.t 15)), none⟩, ⟨(some 17), (.mv (.t 0)), (some (16, false))⟩, ⟨(some 18), (.iaddr 6 (.t 17) (.k (.v (.c (.p (.int .i64 1)))))), (some (16, false))⟩, ⟨(some 19), (.faddr 2 (.t 18)), (some (16, false))⟩, ⟨(some 20), (.load false 1 (.t 19)), (some (16, false))⟩, ⟨(some 21), (.mv (.t 0)), (some (16, false))⟩, ⟨(some 22), (.iaddr 6 (.t 21) (.k (.v (.c (.p (.int .i64 0)))))), (some (16, false))⟩, ⟨(some 23), (.faddr 5 (.t 22)), (some (16, false))⟩, ⟨(some 24), (.load false 1 (.t 23)), (some (16, false))⟩, ⟨(some 25), (.len 2 (.t 24)), (some (16, false))⟩, ⟨(some 26), (.bin .geq 0 (.t 20) (.t 25)), (some (16, false))⟩, ⟨(some 27), (.pick (.t 16) (.k (.v (.c (.p (.bool true))))) (.t 26)), none⟩, ⟨(some 10), (.mv (.t 27)), none⟩] []) (.cond (.t 10) (.seq (.reg [⟨(some 28), (.build [(.p (.int .i64 0)), (.p (.bool false)), (.p (.int .i64 0)), (.p (.str [])), (.p .nilslice), (.p .nilslice)] []), none⟩, ⟨none, (.store 6 (.t 2) (.t 28)), none⟩, ⟨(some 3), (.mv (.k (.v (.c (.p (.int .i64 32)))))), none⟩] []) .ret) .skip))))) (.seq (.reg [⟨(some 29), (.mv (.t 0)), none⟩, ⟨(some 30), (.iaddr 6 (.t 29) (.k (.v (.c (.p (.int .i64 0)))))), none⟩, ⟨(some 31), (.faddr 5 (.t 30)), none⟩, ⟨(some 32), (.load false 1 (.t 31)), none⟩, ⟨(some 33), (.mv (.t 0)), none⟩, ⟨(some 34), (.iaddr 6 (.t 33) (.k (.v (.c (.p (.int .i64 1)))))), none⟩, ⟨(some 35), (.faddr 2 (.t 34)), none⟩, ⟨(some 36), (.load false 1 (.t 35)), none⟩, ⟨(some 37), (.iaddr 6 (.t 32) (.t 36)), none⟩, ⟨(some 38), (.load true 6 (.t 37)), none⟩, ⟨(some 39), (.call (.k (.v (.c (.func 19 [])))) [(.t 38)]), none⟩, ⟨none, (.store 6 (.t 2) (.t 39)), none⟩, ⟨(some 3), (.mv (.k (.v (.c (.p (.int .i64 0)))))), none⟩] []) .ret))) }
theorem t33 : compF Tryd.prog (globs2 tabs opq) false true Tryd.f33 = some c33.erase := by kernel_rfl
noncomputable def b33_0 (O : Oracle) (R : Jump) (q : Nat) (x0 : TVal) (h : Heap) : Res1 :=
  vop O (.alloc [(.p (.int .i64 0)), (.p (.bool false)), (.p (.int .i64 0)), (.p (.str [])), (.p .nilslice), (.p .nilslice)] false) h 2 fun x2 h =>
  vop O (.bslice 1 2 [(.p (.int .i64 0))] [(0, (.k (kI 4))), (1, (.k (kI 2)))] false) h 6 fun x6 h =>
  vcall O (.v (.c (.func 34 []))) [x0, x6] h 7 fun x7 h =>
  vop O (.un .not (.k x7)) h 8 fun x8 h =>
  vif x8 (
  vop O (.build [(.p (.int .i64 0)), (.p (.bool false)), (.p (.int .i64 0)), (.p (.str [])), (.p .nilslice), (.p .nilslice)] []) h 9 fun x9 h =>
  vstore 6 x2 x9 h fun _ h =>
  vcell true 6 x2 h fun c0 => tcomp (kI 17) fun c1 => vfin true q [c0, c1] h)
  (viaddr 6 x0 (kI 1) h fun x12 h =>
  vfaddr 2 x12 h fun x13 h =>
  vload false 1 x13 h fun x14 h =>
  vbin .lss 0 x14 (kI 0) h fun x15 h =>
  vguard x15 false (fun kk => kk x0 h) h fun x17 h =>
  vguard x15 false (fun kk => viaddr 6 x17 (kI 1) h kk) h fun x18 h =>
  vguard x15 false (fun kk => vfaddr 2 x18 h kk) h fun x19 h =>
  vguard x15 false (fun kk => vload false 1 x19 h kk) h fun x20 h =>
  vguard x15 false (fun kk => kk x0 h) h fun x21 h =>
  vguard x15 false (fun kk => viaddr 6 x21 (kI 0) h kk) h fun x22 h =>
  vguard x15 false (fun kk => vfaddr 5 x22 h kk) h fun x23 h =>
  vguard x15 false (fun kk => vload false 1 x23 h kk) h fun x24 h =>
  vguard x15 false (fun kk => vlen O 2 x24 h 25 kk) h fun x25 h =>
  vguard x15 false (fun kk => vbin .geq 0 x20 x25 h kk) h fun x26 h =>
  vop O (.pick (.k x15) (.k (kB true)) (.k x26)) h 27 fun x27 h =>
  vif x27 (
  vop O (.build [(.p (.int .i64 0)), (.p (.bool false)), (.p (.int .i64 0)), (.p (.str [])), (.p .nilslice), (.p .nilslice)] []) h 28 fun x28 h =>
  vstore 6 x2 x28 h fun _ h =>
  vcell true 6 x2 h fun c0 => tcomp (kI 32) fun c1 => vfin true q [c0, c1] h)
  (viaddr 6 x0 (kI 0) h fun x30 h =>
  vfaddr 5 x30 h fun x31 h =>
  vload false 1 x31 h fun x32 h =>
  viaddr 6 x0 (kI 1) h fun x34 h =>
  vfaddr 2 x34 h fun x35 h =>
  vload false 1 x35 h fun x36 h =>
  viaddr 6 x32 x36 h fun x37 h =>
  vload true 6 x37 h fun x38 h =>
  vcall O (.v (.c (.func 19 []))) [x38] h 39 fun x39 h =>
  vstore 6 x2 x39 h fun _ h =>
  vcell true 6 x2 h fun c0 => tcomp (kI 0) fun c1 => vfin true q [c0, c1] h))
theorem e33_0 (O : Oracle) (R : Jump) (q : Nat) (x0 : TVal) (h : Heap) : b33_0 O R q x0 h = stepF c33 O R q 0 [x0] h := by kernel_rfl
noncomputable def d33 : BlkF := fun O R q => [.s fun y0 => .z fun h => b33_0 O R q y0 h]
theorem o33 (O : Oracle) (R : Jump) (q : Nat) : HoldsAll c33 O R q 0 (d33 O R q) := ⟨fun y0 h => e33_0 O R q y0 h, trivial⟩
/- sprue/calls.are -/
def c34 : MFunc := { np := 2, res := [.t 4], frz := true, body := (.seq (.reg [⟨(some 4), (.mv (.k (.v (.c (.p (.bool false)))))), none⟩] []) (.seq (.seq (.reg [⟨(some 7), (.mv (.t 1)), none⟩, ⟨(some 8), (.len 2 (.t 7)), none⟩, ⟨(some 9), (.mv (.k (.v (.c (.p (.int .i64 0)))))), none⟩] []) (.block 0 (.loop 1 [0, 7, 8, 9] (.seq (.reg [⟨(some 10), (.bin .lss 0 (.t 9) (.t 8)), none⟩] []) (.seq (.cond (.t 10) .skip (.exit 0)) (.seq (.block 1 (.seq (.reg [⟨(some 11), (.mv (.t 9)), none⟩, ⟨(some 12), (.iaddr 1 (.t 7) (.t 9)), none⟩, ⟨(some 13), (.load false 1 (.t 12)), none⟩, ⟨(some 5), (.mv (.t 11)), none⟩, ⟨(some 6), (.mv (.t 13)), none⟩] []) (.seq (.reg [⟨(some 14), (.mv (.t 0)), none⟩, ⟨(some 15), (.mv (.t 5)), none⟩, ⟨(some 16), (.iaddr 6 (.t 14) (.t 15)), none⟩, ⟨(some 17), (.faddr 0 (.t 16)), none⟩, ⟨(some 18), (.load false 1 (.t 17)), none⟩, ⟨(some 19), (.mv (.t 6)), none⟩, ⟨(some 20), (.bin .neq 0 (.t 18) (.t 19)), none⟩] []) (.cond (.t 20) (.seq (.reg [⟨(some 4), (.mv (.k (.v (.c (.p (.bool false)))))), none⟩] []) .ret) .skip)))) (.reg [⟨(some 21), (.bin .add 0 (.t 9) (.k (.v (.c (.p (.int .i64 1)))))), none⟩, ⟨(some 9), (.mv (.t 21)), none⟩] []))))))) (.seq (.reg [⟨(some 4), (.mv (.k (.v (.c (.p (.bool true)))))), none⟩] []) .ret))) }
theorem t34 : compF Tryd.prog (globs2 tabs opq) false true Tryd.f34 = some c34.erase := by kernel_rfl
noncomputable def b34_0 (O : Oracle) (R : Jump) (q : Nat) (x0 x1 : TVal) (h : Heap) : Res1 :=
  vlen O 2 x1 h 8 fun x8 h =>
  R 1 [x0, x1, x8, (kI 0)] h
theorem e34_0 (O : Oracle) (R : Jump) (q : Nat) (x0 x1 : TVal) (h : Heap) : b34_0 O R q x0 x1 h = stepF c34 O R q 0 [x0, x1] h := by kernel_rfl
noncomputable def b34_1 (O : Oracle) (R : Jump) (q : Nat) (x0 x7 x8 x9 : TVal) (h : Heap) : Res1 :=
  vbin .lss 0 x9 x8 h fun x10 h =>
  vif x10 (
  viaddr 1 x7 x9 h fun x12 h =>
  vload false 1 x12 h fun x13 h =>
  viaddr 6 x0 x9 h fun x16 h =>
  vfaddr 0 x16 h fun x17 h =>
  vload false 1 x17 h fun x18 h =>
  vbin .neq 0 x18 x13 h fun x20 h =>
  vif x20 (
  tcomp (kB false) fun c0 => vfin true q [c0] h)
  (vbin .add 0 x9 (kI 1) h fun x21 h =>
  R 1 [x0, x7, x8, x21] h))
  (tcomp (kB true) fun c0 => vfin true q [c0] h)
theorem e34_1 (O : Oracle) (R : Jump) (q : Nat) (x0 x7 x8 x9 : TVal) (h : Heap) : b34_1 O R q x0 x7 x8 x9 h = stepF c34 O R q 1 [x0, x7, x8, x9] h := by kernel_rfl
noncomputable def d34 : BlkF := fun O R q => [.s fun y0 => .s fun y1 => .z fun h => b34_0 O R q y0 y1 h, .s fun y0 => .s fun y1 => .s fun y2 => .s fun y3 => .z fun h => b34_1 O R q y0 y1 y2 y3 h]
theorem o34 (O : Oracle) (R : Jump) (q : Nat) : HoldsAll c34 O R q 0 (d34 O R q) := ⟨fun y0 y1 h => e34_0 O R q y0 y1 h, fun y0 y1 y2 y3 h => e34_1 O R q y0 y1 y2 y3 h, trivial⟩
/- sprue/data.Get -/
def c35 : MFunc := { np := 2, res := [.cell 4 true 6, .t 5], frz := true, body := (.seq (.reg [⟨(some 2), (.box (.t 0) false), none⟩, ⟨(some 4), (.alloc [(.p (.int .i64 0)), (.p (.bool false)), (.p (.int .i64 0)), (.p (.str [])), (.p .nilslice), (.p .nilslice)] false), none⟩, ⟨(some 5), (.mv (.k (.v (.c (.p (.bool false)))))), none⟩] []) (.seq (.reg [⟨(some 7), (.faddr 4 (.t 2)), none⟩, ⟨(some 8), (.load false 1 (.t 7)), none⟩, ⟨(some 9), (.mv (.t 1)), none⟩, ⟨(some 10), (.call (.k (.v (.c (.func 64 [])))) [(.t 8), (.t 9)]), none⟩, ⟨(some 6), (.mv (.t 10)), none⟩] []) (.seq (.seq (.reg [⟨(some 11), (.faddr 0 (.t 2)), none⟩, ⟨(some 12), (.load false 1 (.t 11)), none⟩, ⟨(some 13), (.bin .neq 0 (.t 12) (.k (.v (.c (.p (.int .i64 5)))))), none⟩, ⟨(some 14), (.mv (.t 13)), none⟩, ⟨(some 15), (.mv (.t 6)), (some (14, false))⟩, ⟨(some 16), (.bin .lss 0 (.t 15) (.k (.v (.c (.p (.int .i64 0)))))), (some (14, false))⟩, ⟨(some 17), (.pick (.t 14) (.k (.v (.c (.p (.bool true))))) (.t 16)), none⟩, ⟨(some 18), (.mv (.t 17)), none⟩, ⟨(some 19), (.mv (.t 6)), (some (18, false))⟩, ⟨(some 20), (.faddr 5 (.t 2)), (some (18, false))⟩, ⟨(some 21), (.load false 1 (.t 20)), (some (18, false))⟩, ⟨(some 22), (.len 2 (.t 21)), (some (18, false))⟩, ⟨(some 23), (.bin .geq 0 (.t 19) (.t 22)), (some (18, false))⟩, ⟨(some 24), (.pick (.t 18) (.k (.v (.c (.p (.bool true))))) (.t 23)), none⟩] []) (.cond (.t 24) (.seq (.reg [⟨(some 25), (.build [(.p (.int .i64 0)), (.p (.bool false)), (.p (.int .i64 0)), (.p (.str [])), (.p .nilslice), (.p .nilslice)] []), none⟩, ⟨none, (.store 6 (.t 4) (.t 25)), none⟩, ⟨(some 5), (.mv (.k (.v (.c (.p (.bool false)))))), none⟩] []) .ret) .skip)) (.seq (.reg [⟨(some 26), (.faddr 5 (.t 2)), none⟩, ⟨(some 27), (.load false 1 (.t 26)), none⟩, ⟨(some 28), (.mv (.t 6)), none⟩, ⟨(some 29), (.iaddr 6 (.t 27) (.t 28)), none⟩, ⟨(some 30), (.load true 6 (.t 29)), none⟩, ⟨(some 31), (.call (.k (.v (.c (.func 65 [])))) [(.t 30)]), none⟩, ⟨none, (.store 6 (.t 4) (.t 31)), none⟩, ⟨(some 5), (.mv (.k (.v (.c (.p (.bool true)))))), none⟩] []) .ret)))) }
theorem t35 : compF Tryd.prog (globs2 tabs opq) false true Tryd.f35 = some c35.erase := by kernel_rfl
noncomputable def b35_0 (O : Oracle) (R : Jump) (q : Nat) (x0 x1 : TVal) (h : Heap) : Res1 :=
  vop O (.box (.k x0) false) h 2 fun x2 h =>
  vop O (.alloc [(.p (.int .i64 0)), (.p (.bool false)), (.p (.int .i64 0)), (.p (.str [])), (.p .nilslice), (.p .nilslice)] false) h 4 fun x4 h =>
  vfaddr 4 x2 h fun x7 h =>
  vload false 1 x7 h fun x8 h =>
  vcall O (.v (.c (.func 64 []))) [x8, x1] h 10 fun x10 h =>
  vfaddr 0 x2 h fun x11 h =>
  vload false 1 x11 h fun x12 h =>
  vbin .neq 0 x12 (kI 5) h fun x13 h =>
  vguard x13 false (fun kk => kk x10 h) h fun x15 h =>
  vguard x13 false (fun kk => vbin .lss 0 x15 (kI 0) h kk) h fun x16 h =>
  vop O (.pick (.k x13) (.k (kB true)) (.k x16)) h 17 fun x17 h =>
  vguard x17 false (fun kk => kk x10 h) h fun x19 h =>
  vguard x17 false (fun kk => vfaddr 5 x2 h kk) h fun x20 h =>
  vguard x17 false (fun kk => vload false 1 x20 h kk) h fun x21 h =>
  vguard x17 false (fun kk => vlen O 2 x21 h 22 kk) h fun x22 h =>
  vguard x17 false (fun kk => vbin .geq 0 x19 x22 h kk) h fun x23 h =>
  vop O (.pick (.k x17) (.k (kB true)) (.k x23)) h 24 fun x24 h =>
  vif x24 (
  vop O (.build [(.p (.int .i64 0)), (.p (.bool false)), (.p (.int .i64 0)), (.p (.str [])), (.p .nilslice), (.p .nilslice)] []) h 25 fun x25 h =>
  vstore 6 x4 x25 h fun _ h =>
  vcell true 6 x4 h fun c0 => tcomp (kB false) fun c1 => vfin true q [c0, c1] h)
  (vfaddr 5 x2 h fun x26 h =>
  vload false 1 x26 h fun x27 h =>
  viaddr 6 x27 x10 h fun x29 h =>
  vload true 6 x29 h fun x30 h =>
  vcall O (.v (.c (.func 65 []))) [x30] h 31 fun x31 h =>
  vstore 6 x4 x31 h fun _ h =>
  vcell true 6 x4 h fun c0 => tcomp (kB true) fun c1 => vfin true q [c0, c1] h)
theorem e35_0 (O : Oracle) (R : Jump) (q : Nat) (x0 x1 : TVal) (h : Heap) : b35_0 O R q x0 x1 h = stepF c35 O R q 0 [x0, x1] h := by kernel_rfl
noncomputable def d35 : BlkF := fun O R q => [.s fun y0 => .s fun y1 => .z fun h => b35_0 O R q y0 y1 h]
theorem o35 (O : Oracle) (R : Jump) (q : Nat) : HoldsAll c35 O R q 0 (d35 O R q) := ⟨fun y0 y1 h => e35_0 O R q y0 y1 h, trivial⟩
/- sprue/calls.truth -/
def c36 : MFunc := { np := 1, res := [.cell 2 true 6], frz := true, body := (.seq (.reg [⟨(some 2), (.alloc [(.p (.int .i64 0)), (.p (.bool false)), (.p (.int .i64 0)), (.p (.str [])), (.p .nilslice), (.p .nilslice)] false), none⟩] []) (.seq (.reg [⟨(some 3), (.mv (.t 0)), none⟩, ⟨(some 4), (.build [(.p (.int .i64 0)), (.p (.bool false)), (.p (.int .i64 0)), (.p (.str [])), (.p .nilslice), (.p .nilslice)] [(0, 1, (.k (.v (.c (.p (.int .i64 1)))))), (1, 1, (.t 3))]), none⟩, ⟨none, (.store 6 (.t 2) (.t 4)), none⟩] []) .ret)) }
theorem t36 : compF Tryd.prog (globs2 tabs opq) false true Tryd.f36 = some c36.erase := by kernel_rfl
noncomputable def b36_0 (O : Oracle) (R : Jump) (q : Nat) (x0 : TVal) (h : Heap) : Res1 :=
  vop O (.alloc [(.p (.int .i64 0)), (.p (.bool false)), (.p (.int .i64 0)), (.p (.str [])), (.p .nilslice), (.p .nilslice)] false) h 2 fun x2 h =>
  vop O (.build [(.p (.int .i64 0)), (.p (.bool false)), (.p (.int .i64 0)), (.p (.str [])), (.p .nilslice), (.p .nilslice)] [(0, 1, (.k (kI 1))), (1, 1, (.k x0))]) h 4 fun x4 h =>
  vstore 6 x2 x4 h fun _ h =>
  vcell true 6 x2 h fun c0 => vfin true q [c0] h
theorem e36_0 (O : Oracle) (R : Jump) (q : Nat) (x0 : TVal) (h : Heap) : b36_0 O R q x0 h = stepF c36 O R q 0 [x0] h := by kernel_rfl
noncomputable def d36 : BlkF := fun O R q => [.s fun y0 => .z fun h => b36_0 O R q y0 h]
theorem o36 (O : Oracle) (R : Jump) (q : Nat) : HoldsAll c36 O R q 0 (d36 O R q) := ⟨fun y0 h => e36_0 O R q y0 h, trivial⟩
/- sprue/calls.numbers -/
def c37 : MFunc := { np := 2, res := [.cell 4 true 6, .t 5], frz := true, body := (.seq (.reg [⟨(some 4), (.alloc [(.p (.int .i64 0)), (.p (.bool false)), (.p (.int .i64 0)), (.p (.str [])), (.p .nilslice), (.p .nilslice)] false), none⟩, ⟨(some 5), (.mv (.k (.v (.c (.p (.int .i64 0)))))), none⟩] []) (.seq (.seq (.reg [⟨(some 6), (.mv (.t 1)), none⟩, ⟨(some 7), (.call (.k (.v (.c (.func 59 [])))) [(.t 6), (.k (.v (.c (.func 66 []))))]), none⟩] []) (.cond (.t 7) (.seq (.reg [⟨(some 8), (.build [(.p (.int .i64 0)), (.p (.bool false)), (.p (.int .i64 0)), (.p (.str [])), (.p .nilslice), (.p .nilslice)] []), none⟩, ⟨none, (.store 6 (.t 4) (.t 8)), none⟩, ⟨(some 5), (.mv (.k (.v (.c (.p (.int .i64 17)))))), none⟩] []) .ret) .skip)) (.seq (.block 0 (.seq (.reg [⟨(some 10), (.mv (.t 1)), none⟩, ⟨(some 11), (.len 2 (.t 10)), none⟩, ⟨(some 12), (.bin .eql 0 (.t 11) (.k (.v (.c (.p (.int .i64 1)))))), none⟩, ⟨(some 9), (.mv (.t 12)), none⟩] []) (.cond (.t 9) (.seq (.reg [⟨(some 13), (.mv (.t 0)), none⟩, ⟨(some 14), (.mv (.t 1)), none⟩, ⟨(some 15), (.iaddr 6 (.t 14) (.k (.v (.c (.p (.int .i64 0)))))), none⟩, ⟨(some 16), (.faddr 2 (.t 15)), none⟩, ⟨(some 17), (.load false 1 (.t 16)), none⟩, ⟨(some 18), (.call (.k (.v (.c (.func 67 [])))) [(.t 13), (.t 17)]), none⟩, ⟨(some 19), (.call (.k (.v (.c (.func 58 [])))) [(.t 18)]), none⟩, ⟨none, (.store 6 (.t 4) (.t 19)), none⟩, ⟨(some 5), (.mv (.k (.v (.c (.p (.int .i64 0)))))), none⟩] []) .ret) (.seq (.reg [⟨(some 21), (.mv (.t 0)), none⟩, ⟨(some 22), (.bin .eql 0 (.t 21) (.k (.v (.c (.p (.str [108, 116])))))), none⟩, ⟨(some 20), (.mv (.t 22)), none⟩] []) (.cond (.t 20) (.seq (.reg [⟨(some 23), (.mv (.t 1)), none⟩, ⟨(some 24), (.iaddr 6 (.t 23) (.k (.v (.c (.p (.int .i64 0)))))), none⟩, ⟨(some 25), (.faddr 2 (.t 24)), none⟩, ⟨(some 26), (.load false 1 (.t 25)), none⟩, ⟨(some 27), (.mv (.t 1)), none⟩, ⟨(some 28), (.iaddr 6 (.t 27) (.k (.v (.c (.p (.int .i64 1)))))), none⟩, ⟨(some 29), (.faddr 2 (.t 28)), none⟩, ⟨(some 30), (.load false 1 (.t 29)), none⟩, ⟨(some 31), (.bin .lss 0 (.t 26) (.t 30)), none⟩, ⟨(some 32), (.call (.k (.v (.c (.func 36 [])))) [(.t 31)]), none⟩, ⟨none, (.store 6 (.t 4) (.t 32)), none⟩, ⟨(some 5), (.mv (.k (.v (.c (.p (.int .i64 0)))))), none⟩] []) .ret) .skip))))) (.seq (.reg [⟨(some 33), (.mv (.t 0)), none⟩, ⟨(some 34), (.mv (.t 1)), none⟩, ⟨(some 35), (.iaddr 6 (.t 34) (.k (.v (.c (.p (.int .i64 0)))))), none⟩, ⟨(some 36), (.faddr 2 (.t 35)), none⟩, ⟨(some 37), (.load false 1 (.t 36)), none⟩, ⟨(some 38), (.mv (.t 1)), none⟩, ⟨(some 39), (.iaddr 6 (.t 38) (.k (.v (.c (.p (.int .i64 1)))))), none⟩, ⟨(some 40), (.faddr 2 (.t 39)), none⟩, ⟨(some 41), (.load false 1 (.t 40)), none⟩, ⟨(some 42), (.call (.k (.v (.c (.func 68 [])))) [(.t 33), (.t 37), (.t 41)]), none⟩, ⟨(some 43), (.call (.k (.v (.c (.func 58 [])))) [(.t 42)]), none⟩, ⟨none, (.store 6 (.t 4) (.t 43)), none⟩, ⟨(some 5), (.mv (.k (.v (.c (.p (.int .i64 0)))))), none⟩] []) .ret)))) }
theorem t37 : compF Tryd.prog (globs2 tabs opq) false true Tryd.f37 = some c37.erase := by kernel_rfl
noncomputable def b37_0 (O : Oracle) (R : Jump) (q : Nat) (x0 x1 : TVal) (h : Heap) : Res1 :=
  vop O (.alloc [(.p (.int .i64 0)), (.p (.bool false)), (.p (.int .i64 0)), (.p (.str [])), (.p .nilslice), (.p .nilslice)] false) h 4 fun x4 h =>
  vcall O (.v (.c (.func 59 []))) [x1, (.v (.c (.func 66 [])))] h 7 fun x7 h =>
  vif x7 (
  vop O (.build [(.p (.int .i64 0)), (.p (.bool false)), (.p (.int .i64 0)), (.p (.str [])), (.p .nilslice), (.p .nilslice)] []) h 8 fun x8 h =>
  vstore 6 x4 x8 h fun _ h =>
  vcell true 6 x4 h fun c0 => tcomp (kI 17) fun c1 => vfin true q [c0, c1] h)
  (vlen O 2 x1 h 11 fun x11 h =>
  vbin .eql 0 x11 (kI 1) h fun x12 h =>
  vif x12 (
  viaddr 6 x1 (kI 0) h fun x15 h =>
  vfaddr 2 x15 h fun x16 h =>
  vload false 1 x16 h fun x17 h =>
  vcall O (.v (.c (.func 67 []))) [x0, x17] h 18 fun x18 h =>
  vcall O (.v (.c (.func 58 []))) [x18] h 19 fun x19 h =>
  vstore 6 x4 x19 h fun _ h =>
  vcell true 6 x4 h fun c0 => tcomp (kI 0) fun c1 => vfin true q [c0, c1] h)
  (vbin .eql 0 x0 (kS [108, 116]) h fun x22 h =>
  vif x22 (
  viaddr 6 x1 (kI 0) h fun x24 h =>
  vfaddr 2 x24 h fun x25 h =>
  vload false 1 x25 h fun x26 h =>
  viaddr 6 x1 (kI 1) h fun x28 h =>
  vfaddr 2 x28 h fun x29 h =>
  vload false 1 x29 h fun x30 h =>
  vbin .lss 0 x26 x30 h fun x31 h =>
  vcall O (.v (.c (.func 36 []))) [x31] h 32 fun x32 h =>
  vstore 6 x4 x32 h fun _ h =>
  vcell true 6 x4 h fun c0 => tcomp (kI 0) fun c1 => vfin true q [c0, c1] h)
  (viaddr 6 x1 (kI 0) h fun x35 h =>
  vfaddr 2 x35 h fun x36 h =>
  vload false 1 x36 h fun x37 h =>
  viaddr 6 x1 (kI 1) h fun x39 h =>
  vfaddr 2 x39 h fun x40 h =>
  vload false 1 x40 h fun x41 h =>
  vcall O (.v (.c (.func 68 []))) [x0, x37, x41] h 42 fun x42 h =>
  vcall O (.v (.c (.func 58 []))) [x42] h 43 fun x43 h =>
  vstore 6 x4 x43 h fun _ h =>
  vcell true 6 x4 h fun c0 => tcomp (kI 0) fun c1 => vfin true q [c0, c1] h)))
theorem e37_0 (O : Oracle) (R : Jump) (q : Nat) (x0 x1 : TVal) (h : Heap) : b37_0 O R q x0 x1 h = stepF c37 O R q 0 [x0, x1] h := by kernel_rfl
noncomputable def d37 : BlkF := fun O R q => [.s fun y0 => .s fun y1 => .z fun h => b37_0 O R q y0 y1 h]
theorem o37 (O : Oracle) (R : Jump) (q : Nat) : HoldsAll c37 O R q 0 (d37 O R q) := ⟨fun y0 y1 h => e37_0 O R q y0 y1 h, trivial⟩
/- sprue/scan.Ident -/
def c56 : MFunc := { np := 1, res := [.t 2], frz := true, body := (.seq (.reg [⟨(some 2), (.mv (.k (.v (.c (.p (.bool false)))))), none⟩] []) (.seq (.reg [⟨(some 3), (.mv (.t 0)), none⟩, ⟨(some 4), (.bin .neq 0 (.t 3) (.k (.v (.c (.p (.str [])))))), none⟩, ⟨(some 5), (.mv (.t 4)), none⟩, ⟨(some 6), (.mv (.t 0)), (some (5, true))⟩, ⟨(some 7), (.len 0 (.t 6)), (some (5, true))⟩, ⟨(some 8), (.bin .leq 0 (.t 7) (.k (.v (.c (.p (.int .i64 16)))))), (some (5, true))⟩, ⟨(some 9), (.pick (.t 5) (.t 8) (.k (.v (.c (.p (.bool false)))))), none⟩, ⟨(some 10), (.mv (.t 9)), none⟩, ⟨(some 11), (.mv (.t 0)), (some (10, true))⟩, ⟨(some 12), (.index (.t 11) (.k (.v (.c (.p (.int .i64 0)))))), (some (10, true))⟩, ⟨(some 13), (.call (.k (.v (.c (.func 93 [])))) [(.t 12)]), (some (10, true))⟩, ⟨(some 14), (.un .not (.t 13)), (some (10, true))⟩, ⟨(some 15), (.pick (.t 10) (.t 14) (.k (.v (.c (.p (.bool false)))))), none⟩, ⟨(some 16), (.mv (.t 15)), none⟩, ⟨(some 17), (.mv (.t 0)), (some (16, true))⟩, ⟨(some 18), (.call (.k (.v (.c (.func 94 [])))) [(.t 17)]), (some (16, true))⟩, ⟨(some 19), (.mv (.t 0)), (some (16, true))⟩, ⟨(some 20), (.len 0 (.t 19)), (some (16, true))⟩, ⟨(some 21), (.bin .eql 0 (.t 18) (.t 20)), (some (16, true))⟩, ⟨(some 22), (.pick (.t 16) (.t 21) (.k (.v (.c (.p (.bool false)))))), none⟩, ⟨(some 2), (.mv (.t 22)), none⟩] []) .ret)) }
theorem t56 : compF Tryd.prog (globs2 tabs opq) false true Tryd.f56 = some c56.erase := by kernel_rfl
noncomputable def b56_0 (O : Oracle) (R : Jump) (q : Nat) (x0 : TVal) (h : Heap) : Res1 :=
  vbin .neq 0 x0 (kS []) h fun x4 h =>
  vguard x4 true (fun kk => kk x0 h) h fun x6 h =>
  vguard x4 true (fun kk => vlen O 0 x6 h 7 kk) h fun x7 h =>
  vguard x4 true (fun kk => vbin .leq 0 x7 (kI 16) h kk) h fun x8 h =>
  vop O (.pick (.k x4) (.k x8) (.k (kB false))) h 9 fun x9 h =>
  vguard x9 true (fun kk => kk x0 h) h fun x11 h =>
  vguard x9 true (fun kk => vindex x11 (kI 0) h kk) h fun x12 h =>
  vguard x9 true (fun kk => vcall O (.v (.c (.func 93 []))) [x12] h 13 kk) h fun x13 h =>
  vguard x9 true (fun kk => vop O (.un .not (.k x13)) h 14 kk) h fun x14 h =>
  vop O (.pick (.k x9) (.k x14) (.k (kB false))) h 15 fun x15 h =>
  vguard x15 true (fun kk => kk x0 h) h fun x17 h =>
  vguard x15 true (fun kk => vcall O (.v (.c (.func 94 []))) [x17] h 18 kk) h fun x18 h =>
  vguard x15 true (fun kk => kk x0 h) h fun x19 h =>
  vguard x15 true (fun kk => vlen O 0 x19 h 20 kk) h fun x20 h =>
  vguard x15 true (fun kk => vbin .eql 0 x18 x20 h kk) h fun x21 h =>
  vop O (.pick (.k x15) (.k x21) (.k (kB false))) h 22 fun x22 h =>
  tcomp x22 fun c0 => vfin true q [c0] h
theorem e56_0 (O : Oracle) (R : Jump) (q : Nat) (x0 : TVal) (h : Heap) : b56_0 O R q x0 h = stepF c56 O R q 0 [x0] h := by kernel_rfl
noncomputable def d56 : BlkF := fun O R q => [.s fun y0 => .z fun h => b56_0 O R q y0 h]
theorem o56 (O : Oracle) (R : Jump) (q : Nat) : HoldsAll c56 O R q 0 (d56 O R q) := ⟨fun y0 h => e56_0 O R q y0 h, trivial⟩
/- strings.Contains -/
def c57 : MFunc := { np := 2, res := [.t 4], frz := true, body := (.seq (.reg [⟨(some 4), (.mv (.k (.v (.c (.p (.bool false)))))), none⟩] []) (.seq (.reg [⟨(some 5), (.mv (.t 0)), none⟩, ⟨(some 6), (.mv (.t 1)), none⟩, ⟨(some 7), (.call (.k (.v (.c (.func 95 [])))) [(.t 5), (.t 6)]), none⟩, ⟨(some 8), (.bin .geq 0 (.t 7) (.k (.v (.c (.p (.int .i64 0)))))), none⟩, ⟨(some 4), (.mv (.t 8)), none⟩] []) .ret)) }
theorem t57 : compF Tryd.prog (globs2 tabs opq) false true Tryd.f57 = some c57.erase := by kernel_rfl
noncomputable def b57_0 (O : Oracle) (R : Jump) (q : Nat) (x0 x1 : TVal) (h : Heap) : Res1 :=
  vcall O (.v (.c (.func 95 []))) [x0, x1] h 7 fun x7 h =>
  vbin .geq 0 x7 (kI 0) h fun x8 h =>
  tcomp x8 fun c0 => vfin true q [c0] h
theorem e57_0 (O : Oracle) (R : Jump) (q : Nat) (x0 x1 : TVal) (h : Heap) : b57_0 O R q x0 x1 h = stepF c57 O R q 0 [x0, x1] h := by kernel_rfl
noncomputable def d57 : BlkF := fun O R q => [.s fun y0 => .s fun y1 => .z fun h => b57_0 O R q y0 y1 h]
theorem o57 (O : Oracle) (R : Jump) (q : Nat) : HoldsAll c57 O R q 0 (d57 O R q) := ⟨fun y0 y1 h => e57_0 O R q y0 y1 h, trivial⟩
/- sprue/calls.number -/
def c58 : MFunc := { np := 1, res := [.cell 2 true 6], frz := true, body := (.seq (.reg [⟨(some 2), (.alloc [(.p (.int .i64 0)), (.p (.bool false)), (.p (.int .i64 0)), (.p (.str [])), (.p .nilslice), (.p .nilslice)] false), none⟩] []) (.seq (.reg [⟨(some 3), (.mv (.t 0)), none⟩, ⟨(some 4), (.build [(.p (.int .i64 0)), (.p (.bool false)), (.p (.int .i64 0)), (.p (.str [])), (.p .nilslice), (.p .nilslice)] [(0, 1, (.k (.v (.c (.p (.int .i64 2)))))), (2, 1, (.t 3))]), none⟩, ⟨none, (.store 6 (.t 2) (.t 4)), none⟩] []) .ret)) }
theorem t58 : compF Tryd.prog (globs2 tabs opq) false true Tryd.f58 = some c58.erase := by kernel_rfl
noncomputable def b58_0 (O : Oracle) (R : Jump) (q : Nat) (x0 : TVal) (h : Heap) : Res1 :=
  vop O (.alloc [(.p (.int .i64 0)), (.p (.bool false)), (.p (.int .i64 0)), (.p (.str [])), (.p .nilslice), (.p .nilslice)] false) h 2 fun x2 h =>
  vop O (.build [(.p (.int .i64 0)), (.p (.bool false)), (.p (.int .i64 0)), (.p (.str [])), (.p .nilslice), (.p .nilslice)] [(0, 1, (.k (kI 2))), (2, 1, (.k x0))]) h 4 fun x4 h =>
  vstore 6 x2 x4 h fun _ h =>
  vcell true 6 x2 h fun c0 => vfin true q [c0] h
theorem e58_0 (O : Oracle) (R : Jump) (q : Nat) (x0 : TVal) (h : Heap) : b58_0 O R q x0 h = stepF c58 O R q 0 [x0] h := by kernel_rfl
noncomputable def d58 : BlkF := fun O R q => [.s fun y0 => .z fun h => b58_0 O R q y0 h]
theorem o58 (O : Oracle) (R : Jump) (q : Nat) : HoldsAll c58 O R q 0 (d58 O R q) := ⟨fun y0 h => e58_0 O R q y0 h, trivial⟩
/- slices.ContainsFunc[[]sprue/api.Value,sprue/api.Value] -/
def c59 : MFunc := { np := 2, res := [.t 4], frz := true, body := (.seq (.reg [⟨(some 4), (.mv (.k (.v (.c (.p (.bool false)))))), none⟩] []) (.seq (.reg [⟨(some 5), (.mv (.t 0)), none⟩, ⟨(some 6), (.mv (.t 1)), none⟩, ⟨(some 7), (.call (.k (.v (.c (.func 96 [])))) [(.t 5), (.t 6)]), none⟩, ⟨(some 8), (.bin .geq 0 (.t 7) (.k (.v (.c (.p (.int .i64 0)))))), none⟩, ⟨(some 4), (.mv (.t 8)), none⟩] []) .ret)) }
theorem t59 : compF Tryd.prog (globs2 tabs opq) false true Tryd.f59 = some c59.erase := by kernel_rfl
noncomputable def b59_0 (O : Oracle) (R : Jump) (q : Nat) (x0 x1 : TVal) (h : Heap) : Res1 :=
  vcall O (.v (.c (.func 96 []))) [x0, x1] h 7 fun x7 h =>
  vbin .geq 0 x7 (kI 0) h fun x8 h =>
  tcomp x8 fun c0 => vfin true q [c0] h
theorem e59_0 (O : Oracle) (R : Jump) (q : Nat) (x0 x1 : TVal) (h : Heap) : b59_0 O R q x0 x1 h = stepF c59 O R q 0 [x0, x1] h := by kernel_rfl
noncomputable def d59 : BlkF := fun O R q => [.s fun y0 => .s fun y1 => .z fun h => b59_0 O R q y0 y1 h]
theorem o59 (O : Oracle) (R : Jump) (q : Nat) : HoldsAll c59 O R q 0 (d59 O R q) := ⟨fun y0 y1 h => e59_0 O R q y0 y1 h, trivial⟩
/- sprue/calls.logic$1 -/
def c60 : MFunc := { np := 1, res := [.t 2], frz := true, body := (.seq (.reg [⟨(some 1), (.box (.t 0) false), none⟩, ⟨(some 2), (.mv (.k (.v (.c (.p (.bool false)))))), none⟩] []) (.seq (.reg [⟨(some 3), (.faddr 0 (.t 1)), none⟩, ⟨(some 4), (.load false 1 (.t 3)), none⟩, ⟨(some 5), (.bin .neq 0 (.t 4) (.k (.v (.c (.p (.int .i64 1)))))), none⟩, ⟨(some 2), (.mv (.t 5)), none⟩] []) .ret)) }
theorem t60 : compF Tryd.prog (globs2 tabs opq) false true Tryd.f60 = some c60.erase := by kernel_rfl
noncomputable def b60_0 (O : Oracle) (R : Jump) (q : Nat) (x0 : TVal) (h : Heap) : Res1 :=
  vop O (.box (.k x0) false) h 1 fun x1 h =>
  vfaddr 0 x1 h fun x3 h =>
  vload false 1 x3 h fun x4 h =>
  vbin .neq 0 x4 (kI 1) h fun x5 h =>
  tcomp x5 fun c0 => vfin true q [c0] h
theorem e60_0 (O : Oracle) (R : Jump) (q : Nat) (x0 : TVal) (h : Heap) : b60_0 O R q x0 h = stepF c60 O R q 0 [x0] h := by kernel_rfl
noncomputable def d60 : BlkF := fun O R q => [.s fun y0 => .z fun h => b60_0 O R q y0 h]
theorem o60 (O : Oracle) (R : Jump) (q : Nat) : HoldsAll c60 O R q 0 (d60 O R q) := ⟨fun y0 h => e60_0 O R q y0 h, trivial⟩
/- sprue/calls.text -/
def c61 : MFunc := { np := 1, res := [.cell 2 true 6], frz := true, body := (.seq (.reg [⟨(some 2), (.alloc [(.p (.int .i64 0)), (.p (.bool false)), (.p (.int .i64 0)), (.p (.str [])), (.p .nilslice), (.p .nilslice)] false), none⟩] []) (.seq (.reg [⟨(some 3), (.mv (.t 0)), none⟩, ⟨(some 4), (.build [(.p (.int .i64 0)), (.p (.bool false)), (.p (.int .i64 0)), (.p (.str [])), (.p .nilslice), (.p .nilslice)] [(0, 1, (.k (.v (.c (.p (.int .i64 3)))))), (3, 1, (.t 3))]), none⟩, ⟨none, (.store 6 (.t 2) (.t 4)), none⟩] []) .ret)) }
theorem t61 : compF Tryd.prog (globs2 tabs opq) false true Tryd.f61 = some c61.erase := by kernel_rfl
noncomputable def b61_0 (O : Oracle) (R : Jump) (q : Nat) (x0 : TVal) (h : Heap) : Res1 :=
  vop O (.alloc [(.p (.int .i64 0)), (.p (.bool false)), (.p (.int .i64 0)), (.p (.str [])), (.p .nilslice), (.p .nilslice)] false) h 2 fun x2 h =>
  vop O (.build [(.p (.int .i64 0)), (.p (.bool false)), (.p (.int .i64 0)), (.p (.str [])), (.p .nilslice), (.p .nilslice)] [(0, 1, (.k (kI 3))), (3, 1, (.k x0))]) h 4 fun x4 h =>
  vstore 6 x2 x4 h fun _ h =>
  vcell true 6 x2 h fun c0 => vfin true q [c0] h
theorem e61_0 (O : Oracle) (R : Jump) (q : Nat) (x0 : TVal) (h : Heap) : b61_0 O R q x0 h = stepF c61 O R q 0 [x0] h := by kernel_rfl
noncomputable def d61 : BlkF := fun O R q => [.s fun y0 => .z fun h => b61_0 O R q y0 h]
theorem o61 (O : Oracle) (R : Jump) (q : Nat) : HoldsAll c61 O R q 0 (d61 O R q) := ⟨fun y0 h => e61_0 O R q y0 h, trivial⟩
/- strconv.FormatInt -/
def c62 : MFunc := { np := 2, res := [.t 4], frz := true, body := (.seq (.reg [⟨(some 4), (.mv (.k (.v (.c (.p (.str [])))))), none⟩] []) (.seq (.reg [⟨(some 5), (.mv (.t 0)), none⟩, ⟨(some 6), (.mv (.t 1)), none⟩, ⟨(some 7), (.call (.k (.v (.c (.func 97 [])))) [(.t 5), (.t 6)]), none⟩, ⟨(some 4), (.mv (.t 7)), none⟩] []) .ret)) }
theorem t62 : compF Tryd.prog (globs2 tabs opq) false true Tryd.f62 = some c62.erase := by kernel_rfl
noncomputable def b62_0 (O : Oracle) (R : Jump) (q : Nat) (x0 x1 : TVal) (h : Heap) : Res1 :=
  vcall O (.v (.c (.func 97 []))) [x0, x1] h 7 fun x7 h =>
  tcomp x7 fun c0 => vfin true q [c0] h
theorem e62_0 (O : Oracle) (R : Jump) (q : Nat) (x0 x1 : TVal) (h : Heap) : b62_0 O R q x0 x1 h = stepF c62 O R q 0 [x0, x1] h := by kernel_rfl
noncomputable def d62 : BlkF := fun O R q => [.s fun y0 => .s fun y1 => .z fun h => b62_0 O R q y0 y1 h]
theorem o62 (O : Oracle) (R : Jump) (q : Nat) : HoldsAll c62 O R q 0 (d62 O R q) := ⟨fun y0 y1 h => e62_0 O R q y0 y1 h, trivial⟩
/- strconv.FormatBool -/
def c63 : MFunc := { np := 1, res := [.t 2], frz := true, body := (.seq (.reg [⟨(some 2), (.mv (.k (.v (.c (.p (.str [])))))), none⟩] []) (.seq (.reg [⟨(some 3), (.mv (.t 0)), none⟩, ⟨(some 4), (.call (.k (.v (.c (.func 98 [])))) [(.t 3)]), none⟩, ⟨(some 2), (.mv (.t 4)), none⟩] []) .ret)) }
theorem t63 : compF Tryd.prog (globs2 tabs opq) false true Tryd.f63 = some c63.erase := by kernel_rfl
noncomputable def b63_0 (O : Oracle) (R : Jump) (q : Nat) (x0 : TVal) (h : Heap) : Res1 :=
  vcall O (.v (.c (.func 98 []))) [x0] h 4 fun x4 h =>
  tcomp x4 fun c0 => vfin true q [c0] h
theorem e63_0 (O : Oracle) (R : Jump) (q : Nat) (x0 : TVal) (h : Heap) : b63_0 O R q x0 h = stepF c63 O R q 0 [x0] h := by kernel_rfl
noncomputable def d63 : BlkF := fun O R q => [.s fun y0 => .z fun h => b63_0 O R q y0 h]
theorem o63 (O : Oracle) (R : Jump) (q : Nat) : HoldsAll c63 O R q 0 (d63 O R q) := ⟨fun y0 h => e63_0 O R q y0 h, trivial⟩
/- slices.Index[[]string,string] -/
def c64 : MFunc := { np := 2, res := [.t 4], frz := true, body := (.seq (.reg [⟨(some 4), (.mv (.k (.v (.c (.p (.int .i64 0)))))), none⟩] []) (.seq (.seq (.reg [⟨(some 6), (.mv (.t 0)), none⟩, ⟨(some 7), (.len 2 (.t 6)), none⟩, ⟨(some 8), (.mv (.k (.v (.c (.p (.int .i64 0)))))), none⟩] []) (.block 0 (.loop 1 [0, 1, 7, 8] (.seq (.reg [⟨(some 9), (.bin .lss 0 (.t 8) (.t 7)), none⟩] []) (.seq (.cond (.t 9) .skip (.exit 0)) (.seq (.block 1 (.seq (.reg [⟨(some 10), (.mv (.t 8)), none⟩, ⟨(some 5), (.mv (.t 10)), none⟩] []) (.seq (.reg [⟨(some 11), (.mv (.t 1)), none⟩, ⟨(some 12), (.mv (.t 0)), none⟩, ⟨(some 13), (.mv (.t 5)), none⟩, ⟨(some 14), (.iaddr 1 (.t 12) (.t 13)), none⟩, ⟨(some 15), (.load false 1 (.t 14)), none⟩, ⟨(some 16), (.bin .eql 0 (.t 11) (.t 15)), none⟩] []) (.cond (.t 16) (.seq (.reg [⟨(some 17), (.mv (.t 5)), none⟩, ⟨(some 4), (.mv (.t 17)), none⟩] []) .ret) .skip)))) (.reg [⟨(some 18), (.bin .add 0 (.t 8) (.k (.v (.c (.p (.int .i64 1)))))), none⟩, ⟨(some 8), (.mv (.t 18)), none⟩] []))))))) (.seq (.reg [⟨(some 4), (.mv (.k (.v (.c (.p (.int .i64 (-1))))))), none⟩] []) .ret))) }
theorem t64 : compF Tryd.prog (globs2 tabs opq) false true Tryd.f64 = some c64.erase := by kernel_rfl
noncomputable def b64_0 (O : Oracle) (R : Jump) (q : Nat) (x0 x1 : TVal) (h : Heap) : Res1 :=
  vlen O 2 x0 h 7 fun x7 h =>
  R 1 [x0, x1, x7, (kI 0)] h
theorem e64_0 (O : Oracle) (R : Jump) (q : Nat) (x0 x1 : TVal) (h : Heap) : b64_0 O R q x0 x1 h = stepF c64 O R q 0 [x0, x1] h := by kernel_rfl
noncomputable def b64_1 (O : Oracle) (R : Jump) (q : Nat) (x0 x1 x7 x8 : TVal) (h : Heap) : Res1 :=
  vbin .lss 0 x8 x7 h fun x9 h =>
  vif x9 (
  viaddr 1 x0 x8 h fun x14 h =>
  vload false 1 x14 h fun x15 h =>
  vbin .eql 0 x1 x15 h fun x16 h =>
  vif x16 (
  tcomp x8 fun c0 => vfin true q [c0] h)
  (vbin .add 0 x8 (kI 1) h fun x18 h =>
  R 1 [x0, x1, x7, x18] h))
  (tcomp (kI (-1)) fun c0 => vfin true q [c0] h)
theorem e64_1 (O : Oracle) (R : Jump) (q : Nat) (x0 x1 x7 x8 : TVal) (h : Heap) : b64_1 O R q x0 x1 x7 x8 h = stepF c64 O R q 1 [x0, x1, x7, x8] h := by kernel_rfl
noncomputable def d64 : BlkF := fun O R q => [.s fun y0 => .s fun y1 => .z fun h => b64_0 O R q y0 y1 h, .s fun y0 => .s fun y1 => .s fun y2 => .s fun y3 => .z fun h => b64_1 O R q y0 y1 y2 y3 h]
theorem o64 (O : Oracle) (R : Jump) (q : Nat) : HoldsAll c64 O R q 0 (d64 O R q) := ⟨fun y0 y1 h => e64_0 O R q y0 y1 h, fun y0 y1 y2 y3 h => e64_1 O R q y0 y1 y2 y3 h, trivial⟩
/- sprue/data.own -/
def c65 : MFunc := { np := 1, res := [.cell 2 true 6], frz := true, body := (.seq (.reg [⟨(some 1), (.box (.t 0) false), none⟩, ⟨(some 2), (.alloc [(.p (.int .i64 0)), (.p (.bool false)), (.p (.int .i64 0)), (.p (.str [])), (.p .nilslice), (.p .nilslice)] false), none⟩] []) (.seq (.reg [⟨(some 5), (.faddr 4 (.t 1)), none⟩, ⟨(some 6), (.load false 1 (.t 5)), none⟩, ⟨(some 7), (.call (.k (.v (.c (.func 99 [])))) [(.t 6)]), none⟩, ⟨(some 8), (.faddr 5 (.t 1)), none⟩, ⟨(some 9), (.load false 1 (.t 8)), none⟩, ⟨(some 10), (.call (.k (.v (.c (.func 18 [])))) [(.t 9)]), none⟩, ⟨(some 11), (.faddr 4 (.t 1)), none⟩, ⟨none, (.store 1 (.t 11) (.t 7)), none⟩, ⟨(some 12), (.faddr 5 (.t 1)), none⟩, ⟨none, (.store 1 (.t 12) (.t 10)), none⟩] [(2, 4)]) (.seq (.seq (.reg [⟨(some 13), (.faddr 5 (.t 1)), none⟩, ⟨(some 14), (.load false 1 (.t 13)), none⟩, ⟨(some 15), (.len 2 (.t 14)), none⟩, ⟨(some 16), (.mv (.k (.v (.c (.p (.int .i64 0)))))), none⟩] []) (.block 0 (.loop 1 [1, 2, 14, 15, 16] (.seq (.reg [⟨(some 17), (.bin .lss 0 (.t 16) (.t 15)), none⟩] []) (.seq (.cond (.t 17) .skip (.exit 0)) (.seq (.block 1 (.seq (.reg [⟨(some 18), (.mv (.t 16)), none⟩, ⟨(some 19), (.iaddr 6 (.t 14) (.t 16)), none⟩, ⟨(some 20), (.load true 6 (.t 19)), none⟩, ⟨(some 4), (.alloc [(.p (.int .i64 0)), (.p (.bool false)), (.p (.int .i64 0)), (.p (.str [])), (.p .nilslice), (.p .nilslice)] false), none⟩, ⟨(some 3), (.mv (.t 18)), none⟩, ⟨none, (.store 6 (.t 4) (.t 20)), none⟩] []) (.reg [⟨(some 21), (.faddr 5 (.t 1)), none⟩, ⟨(some 22), (.load false 1 (.t 21)), none⟩, ⟨(some 23), (.mv (.t 3)), none⟩, ⟨(some 24), (.load true 6 (.t 4)), none⟩, ⟨(some 25), (.call (.k (.v (.c (.func 65 [])))) [(.t 24)]), none⟩, ⟨(some 26), (.iaddr 6 (.t 22) (.t 23)), none⟩, ⟨none, (.store 6 (.t 26) (.t 25)), none⟩] [(1, 4)]))) (.reg [⟨(some 27), (.bin .add 0 (.t 16) (.k (.v (.c (.p (.int .i64 1)))))), none⟩, ⟨(some 16), (.mv (.t 27)), none⟩] []))))))) (.mark 2 [1, 2] (.seq (.reg [⟨(some 28), (.load true 6 (.t 1)), none⟩, ⟨none, (.store 6 (.t 2) (.t 28)), none⟩] []) .ret))))) }
theorem t65 : compF Tryd.prog (globs2 tabs opq) false true Tryd.f65 = some c65.erase := by kernel_rfl
noncomputable def b65_0 (O : Oracle) (R : Jump) (q : Nat) (x0 : TVal) (h : Heap) : Res1 :=
  vop O (.box (.k x0) false) h 1 fun x1 h =>
  vop O (.alloc [(.p (.int .i64 0)), (.p (.bool false)), (.p (.int .i64 0)), (.p (.str [])), (.p .nilslice), (.p .nilslice)] false) h 2 fun x2 h =>
  vtouch O (.faddr 4 (.k x1)) h 5 fun x5 h t0 =>
  vtouch O (.load false 1 (.k x5)) h 6 fun x6 h t1 =>
  vtouch O (.call (.k (.v (.c (.func 99 [])))) [(.k x6)]) h 7 fun x7 h t2 =>
  vtouch O (.faddr 5 (.k x1)) h 8 fun x8 h t3 =>
  vtouch O (.load false 1 (.k x8)) h 9 fun x9 h t4 =>
  vtouch O (.call (.k (.v (.c (.func 18 [])))) [(.k x9)]) h 10 fun x10 h t5 =>
  vtouch O (.faddr 4 (.k x1)) h 11 fun x11 h t6 =>
  vtouch O (.store 1 (.k x11) (.k x7)) h 1000000 fun _ h t7 =>
  vtouch O (.faddr 5 (.k x1)) h 12 fun x12 h t8 =>
  vtouch O (.store 1 (.k x12) (.k x10)) h 1000000 fun _ h t9 =>
  bif apartAll [t0, t1, t2, t3, t4, t5, t6, t7, t8, t9] [(2, 4)] then
  vfaddr 5 x1 h fun x13 h =>
  vload false 1 x13 h fun x14 h =>
  vlen O 2 x14 h 15 fun x15 h =>
  R 1 [x1, x2, x14, x15, (kI 0)] h
  else none
theorem e65_0 (O : Oracle) (R : Jump) (q : Nat) (x0 : TVal) (h : Heap) : b65_0 O R q x0 h = stepF c65 O R q 0 [x0] h := by kernel_rfl
noncomputable def b65_1 (O : Oracle) (R : Jump) (q : Nat) (x1 x2 x14 x15 x16 : TVal) (h : Heap) : Res1 :=
  vbin .lss 0 x16 x15 h fun x17 h =>
  vif x17 (
  viaddr 6 x14 x16 h fun x19 h =>
  vload true 6 x19 h fun x20 h =>
  vop O (.alloc [(.p (.int .i64 0)), (.p (.bool false)), (.p (.int .i64 0)), (.p (.str [])), (.p .nilslice), (.p .nilslice)] false) h 4 fun x4 h =>
  vstore 6 x4 x20 h fun _ h =>
  vtouch O (.faddr 5 (.k x1)) h 21 fun x21 h t0 =>
  vtouch O (.load false 1 (.k x21)) h 22 fun x22 h t1 =>
  vtouch O (.mv (.k x16)) h 23 fun x23 h t2 =>
  vtouch O (.load true 6 (.k x4)) h 24 fun x24 h t3 =>
  vtouch O (.call (.k (.v (.c (.func 65 [])))) [(.k x24)]) h 25 fun x25 h t4 =>
  vtouch O (.iaddr 6 (.k x22) (.k x23)) h 26 fun x26 h t5 =>
  vtouch O (.store 6 (.k x26) (.k x25)) h 1000000 fun _ h t6 =>
  bif apartAll [t0, t1, t2, t3, t4, t5, t6] [(1, 4)] then
  vbin .add 0 x16 (kI 1) h fun x27 h =>
  R 1 [x1, x2, x14, x15, x27] h
  else none)
  (R 2 [x1, x2] h)
theorem e65_1 (O : Oracle) (R : Jump) (q : Nat) (x1 x2 x14 x15 x16 : TVal) (h : Heap) : b65_1 O R q x1 x2 x14 x15 x16 h = stepF c65 O R q 1 [x1, x2, x14, x15, x16] h := by kernel_rfl
noncomputable def b65_2 (O : Oracle) (R : Jump) (q : Nat) (x1 x2 : TVal) (h : Heap) : Res1 :=
  vload true 6 x1 h fun x28 h =>
  vstore 6 x2 x28 h fun _ h =>
  vcell true 6 x2 h fun c0 => vfin true q [c0] h
theorem e65_2 (O : Oracle) (R : Jump) (q : Nat) (x1 x2 : TVal) (h : Heap) : b65_2 O R q x1 x2 h = stepF c65 O R q 2 [x1, x2] h := by kernel_rfl
noncomputable def d65 : BlkF := fun O R q => [.s fun y0 => .z fun h => b65_0 O R q y0 h, .s fun y0 => .s fun y1 => .s fun y2 => .s fun y3 => .s fun y4 => .z fun h => b65_1 O R q y0 y1 y2 y3 y4 h, .s fun y0 => .s fun y1 => .z fun h => b65_2 O R q y0 y1 h]
theorem o65 (O : Oracle) (R : Jump) (q : Nat) : HoldsAll c65 O R q 0 (d65 O R q) := ⟨fun y0 h => e65_0 O R q y0 h, fun y0 y1 y2 y3 y4 h => e65_1 O R q y0 y1 y2 y3 y4 h, fun y0 y1 h => e65_2 O R q y0 y1 h, trivial⟩
/- sprue/calls.numbers$1 -/
def c66 : MFunc := { np := 1, res := [.t 2], frz := true, body := (.seq (.reg [⟨(some 1), (.box (.t 0) false), none⟩, ⟨(some 2), (.mv (.k (.v (.c (.p (.bool false)))))), none⟩] []) (.seq (.reg [⟨(some 3), (.faddr 0 (.t 1)), none⟩, ⟨(some 4), (.load false 1 (.t 3)), none⟩, ⟨(some 5), (.bin .neq 0 (.t 4) (.k (.v (.c (.p (.int .i64 2)))))), none⟩, ⟨(some 2), (.mv (.t 5)), none⟩] []) .ret)) }
theorem t66 : compF Tryd.prog (globs2 tabs opq) false true Tryd.f66 = some c66.erase := by kernel_rfl
noncomputable def b66_0 (O : Oracle) (R : Jump) (q : Nat) (x0 : TVal) (h : Heap) : Res1 :=
  vop O (.box (.k x0) false) h 1 fun x1 h =>
  vfaddr 0 x1 h fun x3 h =>
  vload false 1 x3 h fun x4 h =>
  vbin .neq 0 x4 (kI 2) h fun x5 h =>
  tcomp x5 fun c0 => vfin true q [c0] h
theorem e66_0 (O : Oracle) (R : Jump) (q : Nat) (x0 : TVal) (h : Heap) : b66_0 O R q x0 h = stepF c66 O R q 0 [x0] h := by kernel_rfl
noncomputable def d66 : BlkF := fun O R q => [.s fun y0 => .z fun h => b66_0 O R q y0 h]
theorem o66 (O : Oracle) (R : Jump) (q : Nat) : HoldsAll c66 O R q 0 (d66 O R q) := ⟨fun y0 h => e66_0 O R q y0 h, trivial⟩
/- sprue/calls.narrow -/
def c67 : MFunc := { np := 2, res := [.t 4], frz := true, body := (.seq (.reg [⟨(some 4), (.mv (.k (.v (.c (.p (.int .i64 0)))))), none⟩] []) (.seq (.seq (.reg [⟨(some 5), (.mv (.t 0)), none⟩] []) (.block 0 (.seq (.reg [⟨(some 7), (.bin .eql 0 (.t 5) (.k (.v (.c (.p (.str [105, 56])))))), none⟩, ⟨(some 6), (.mv (.t 7)), none⟩] []) (.cond (.t 6) (.seq (.reg [⟨(some 8), (.mv (.t 1)), none⟩, ⟨(some 9), (.toInt .i8 (.t 8)), none⟩, ⟨(some 10), (.toInt .i64 (.t 9)), none⟩, ⟨(some 4), (.mv (.t 10)), none⟩] []) .ret) (.seq (.reg [⟨(some 12), (.bin .eql 0 (.t 5) (.k (.v (.c (.p (.str [105, 49, 54])))))), none⟩, ⟨(some 11), (.mv (.t 12)), none⟩] []) (.cond (.t 11) (.seq (.reg [⟨(some 13), (.mv (.t 1)), none⟩, ⟨(some 14), (.toInt .i16 (.t 13)), none⟩, ⟨(some 15), (.toInt .i64 (.t 14)), none⟩, ⟨(some 4), (.mv (.t 15)), none⟩] []) .ret) (.seq (.reg [⟨(some 17), (.bin .eql 0 (.t 5) (.k (.v (.c (.p (.str [105, 51, 50])))))), none⟩, ⟨(some 16), (.mv (.t 17)), none⟩] []) (.cond (.t 16) (.seq (.reg [⟨(some 18), (.mv (.t 1)), none⟩, ⟨(some 19), (.toInt .i32 (.t 18)), none⟩, ⟨(some 20), (.toInt .i64 (.t 19)), none⟩, ⟨(some 4), (.mv (.t 20)), none⟩] []) .ret) (.seq (.reg [⟨(some 22), (.bin .eql 0 (.t 5) (.k (.v (.c (.p (.str [117, 56])))))), none⟩, ⟨(some 21), (.mv (.t 22)), none⟩] []) (.cond (.t 21) (.seq (.reg [⟨(some 23), (.mv (.t 1)), none⟩, ⟨(some 24), (.toInt .u8 (.t 23)), none⟩, ⟨(some 25), (.toInt .i64 (.t 24)), none⟩, ⟨(some 4), (.mv (.t 25)), none⟩] []) .ret) (.seq (.reg [⟨(some 27), (.bin .eql 0 (.t 5) (.k (.v (.c (.p (.str [117, 49, 54])))))), none⟩, ⟨(some 26), (.mv (.t 27)), none⟩] []) (.cond (.t 26) (.seq (.reg [⟨(some 28), (.mv (.t 1)), none⟩, ⟨(some 29), (.toInt .u16 (.t 28)), none⟩, ⟨(some 30), (.toInt .i64 (.t 29)), none⟩, ⟨(some 4), (.mv (.t 30)), none⟩] []) .ret) .skip)))))))))))) (.seq (.reg [⟨(some 31), (.mv (.t 1)), none⟩, ⟨(some 32), (.toInt .u32 (.t 31)), none⟩, ⟨(some 33), (.toInt .i64 (.t 32)), none⟩, ⟨(some 4), (.mv (.t 33)), none⟩] []) .ret))) }
theorem t67 : compF Tryd.prog (globs2 tabs opq) false true Tryd.f67 = some c67.erase := by kernel_rfl
noncomputable def b67_0 (O : Oracle) (R : Jump) (q : Nat) (x0 x1 : TVal) (h : Heap) : Res1 :=
  vbin .eql 0 x0 (kS [105, 56]) h fun x7 h =>
  vif x7 (
  vtoInt .i8 x1 h fun x9 h =>
  vtoInt .i64 x9 h fun x10 h =>
  tcomp x10 fun c0 => vfin true q [c0] h)
  (vbin .eql 0 x0 (kS [105, 49, 54]) h fun x12 h =>
  vif x12 (
  vtoInt .i16 x1 h fun x14 h =>
  vtoInt .i64 x14 h fun x15 h =>
  tcomp x15 fun c0 => vfin true q [c0] h)
  (vbin .eql 0 x0 (kS [105, 51, 50]) h fun x17 h =>
  vif x17 (
  vtoInt .i32 x1 h fun x19 h =>
  vtoInt .i64 x19 h fun x20 h =>
  tcomp x20 fun c0 => vfin true q [c0] h)
  (vbin .eql 0 x0 (kS [117, 56]) h fun x22 h =>
  vif x22 (
  vtoInt .u8 x1 h fun x24 h =>
  vtoInt .i64 x24 h fun x25 h =>
  tcomp x25 fun c0 => vfin true q [c0] h)
  (vbin .eql 0 x0 (kS [117, 49, 54]) h fun x27 h =>
  vif x27 (
  vtoInt .u16 x1 h fun x29 h =>
  vtoInt .i64 x29 h fun x30 h =>
  tcomp x30 fun c0 => vfin true q [c0] h)
  (vtoInt .u32 x1 h fun x32 h =>
  vtoInt .i64 x32 h fun x33 h =>
  tcomp x33 fun c0 => vfin true q [c0] h)))))
theorem e67_0 (O : Oracle) (R : Jump) (q : Nat) (x0 x1 : TVal) (h : Heap) : b67_0 O R q x0 x1 h = stepF c67 O R q 0 [x0, x1] h := by kernel_rfl
noncomputable def d67 : BlkF := fun O R q => [.s fun y0 => .s fun y1 => .z fun h => b67_0 O R q y0 y1 h]
theorem o67 (O : Oracle) (R : Jump) (q : Nat) : HoldsAll c67 O R q 0 (d67 O R q) := ⟨fun y0 y1 h => e67_0 O R q y0 y1 h, trivial⟩
/- sprue/calls.reckon -/
def c68 : MFunc := { np := 3, res := [.t 6], frz := true, body := (.seq (.reg [⟨(some 6), (.mv (.k (.v (.c (.p (.int .i64 0)))))), none⟩] []) (.seq (.seq (.reg [⟨(some 7), (.mv (.t 0)), none⟩] []) (.block 0 (.seq (.reg [⟨(some 9), (.bin .eql 0 (.t 7) (.k (.v (.c (.p (.str [97, 100, 100])))))), none⟩, ⟨(some 8), (.mv (.t 9)), none⟩] []) (.cond (.t 8) (.seq (.reg [⟨(some 10), (.mv (.t 1)), none⟩, ⟨(some 11), (.mv (.t 2)), none⟩, ⟨(some 12), (.bin .add 0 (.t 10) (.t 11)), none⟩, ⟨(some 6), (.mv (.t 12)), none⟩] []) .ret) (.seq (.reg [⟨(some 14), (.bin .eql 0 (.t 7) (.k (.v (.c (.p (.str [115, 117, 98])))))), none⟩, ⟨(some 13), (.mv (.t 14)), none⟩] []) (.cond (.t 13) (.seq (.reg [⟨(some 15), (.mv (.t 1)), none⟩, ⟨(some 16), (.mv (.t 2)), none⟩, ⟨(some 17), (.bin .sub 0 (.t 15) (.t 16)), none⟩, ⟨(some 6), (.mv (.t 17)), none⟩] []) .ret) (.seq (.reg [⟨(some 19), (.bin .eql 0 (.t 7) (.k (.v (.c (.p (.str [109, 117, 108])))))), none⟩, ⟨(some 18), (.mv (.t 19)), none⟩] []) (.cond (.t 18) (.seq (.reg [⟨(some 20), (.mv (.t 1)), none⟩, ⟨(some 21), (.mv (.t 2)), none⟩, ⟨(some 22), (.bin .mul 0 (.t 20) (.t 21)), none⟩, ⟨(some 6), (.mv (.t 22)), none⟩] []) .ret) (.seq (.reg [⟨(some 24), (.bin .eql 0 (.t 7) (.k (.v (.c (.p (.str [115, 104, 108])))))), none⟩, ⟨(some 23), (.mv (.t 24)), none⟩] []) (.cond (.t 23) (.seq (.reg [⟨(some 25), (.mv (.t 1)), none⟩, ⟨(some 26), (.mv (.t 2)), none⟩, ⟨(some 27), (.toInt .u64 (.t 26)), none⟩, ⟨(some 28), (.bin .rem 0 (.t 27) (.k (.v (.c (.p (.int .u64 64)))))), none⟩, ⟨(some 29), (.bin .shl 0 (.t 25) (.t 28)), none⟩, ⟨(some 6), (.mv (.t 29)), none⟩] []) .ret) .skip)))))))))) (.seq (.reg [⟨(some 30), (.mv (.t 1)), none⟩, ⟨(some 31), (.mv (.t 2)), none⟩, ⟨(some 32), (.toInt .u64 (.t 31)), none⟩, ⟨(some 33), (.bin .rem 0 (.t 32) (.k (.v (.c (.p (.int .u64 64)))))), none⟩, ⟨(some 34), (.bin .shr 0 (.t 30) (.t 33)), none⟩, ⟨(some 6), (.mv (.t 34)), none⟩] []) .ret))) }
theorem t68 : compF Tryd.prog (globs2 tabs opq) false true Tryd.f68 = some c68.erase := by kernel_rfl
noncomputable def b68_0 (O : Oracle) (R : Jump) (q : Nat) (x0 x1 x2 : TVal) (h : Heap) : Res1 :=
  vbin .eql 0 x0 (kS [97, 100, 100]) h fun x9 h =>
  vif x9 (
  vbin .add 0 x1 x2 h fun x12 h =>
  tcomp x12 fun c0 => vfin true q [c0] h)
  (vbin .eql 0 x0 (kS [115, 117, 98]) h fun x14 h =>
  vif x14 (
  vbin .sub 0 x1 x2 h fun x17 h =>
  tcomp x17 fun c0 => vfin true q [c0] h)
  (vbin .eql 0 x0 (kS [109, 117, 108]) h fun x19 h =>
  vif x19 (
  vbin .mul 0 x1 x2 h fun x22 h =>
  tcomp x22 fun c0 => vfin true q [c0] h)
  (vbin .eql 0 x0 (kS [115, 104, 108]) h fun x24 h =>
  vif x24 (
  vtoInt .u64 x2 h fun x27 h =>
  vbin .rem 0 x27 (.v (.c (.p (.int .u64 64)))) h fun x28 h =>
  vbin .shl 0 x1 x28 h fun x29 h =>
  tcomp x29 fun c0 => vfin true q [c0] h)
  (vtoInt .u64 x2 h fun x32 h =>
  vbin .rem 0 x32 (.v (.c (.p (.int .u64 64)))) h fun x33 h =>
  vbin .shr 0 x1 x33 h fun x34 h =>
  tcomp x34 fun c0 => vfin true q [c0] h))))
theorem e68_0 (O : Oracle) (R : Jump) (q : Nat) (x0 x1 x2 : TVal) (h : Heap) : b68_0 O R q x0 x1 x2 h = stepF c68 O R q 0 [x0, x1, x2] h := by kernel_rfl
noncomputable def d68 : BlkF := fun O R q => [.s fun y0 => .s fun y1 => .s fun y2 => .z fun h => b68_0 O R q y0 y1 y2 h]
theorem o68 (O : Oracle) (R : Jump) (q : Nat) : HoldsAll c68 O R q 0 (d68 O R q) := ⟨fun y0 y1 y2 h => e68_0 O R q y0 y1 y2 h, trivial⟩
/- sprue/scan.digit -/
def c93 : MFunc := { np := 1, res := [.t 2], frz := true, body := (.seq (.reg [⟨(some 2), (.mv (.k (.v (.c (.p (.bool false)))))), none⟩] []) (.seq (.reg [⟨(some 3), (.mv (.t 0)), none⟩, ⟨(some 4), (.bin .geq 0 (.t 3) (.k (.v (.c (.p (.int .u8 48)))))), none⟩, ⟨(some 5), (.mv (.t 4)), none⟩, ⟨(some 6), (.mv (.t 0)), (some (5, true))⟩, ⟨(some 7), (.bin .leq 0 (.t 6) (.k (.v (.c (.p (.int .u8 57)))))), (some (5, true))⟩, ⟨(some 8), (.pick (.t 5) (.t 7) (.k (.v (.c (.p (.bool false)))))), none⟩, ⟨(some 2), (.mv (.t 8)), none⟩] []) .ret)) }
theorem t93 : compF Tryd.prog (globs2 tabs opq) false true Tryd.f93 = some c93.erase := by kernel_rfl
noncomputable def b93_0 (O : Oracle) (R : Jump) (q : Nat) (x0 : TVal) (h : Heap) : Res1 :=
  vbin .geq 0 x0 (.v (.c (.p (.int .u8 48)))) h fun x4 h =>
  vguard x4 true (fun kk => kk x0 h) h fun x6 h =>
  vguard x4 true (fun kk => vbin .leq 0 x6 (.v (.c (.p (.int .u8 57)))) h kk) h fun x7 h =>
  vop O (.pick (.k x4) (.k x7) (.k (kB false))) h 8 fun x8 h =>
  tcomp x8 fun c0 => vfin true q [c0] h
theorem e93_0 (O : Oracle) (R : Jump) (q : Nat) (x0 : TVal) (h : Heap) : b93_0 O R q x0 h = stepF c93 O R q 0 [x0] h := by kernel_rfl
noncomputable def d93 : BlkF := fun O R q => [.s fun y0 => .z fun h => b93_0 O R q y0 h]
theorem o93 (O : Oracle) (R : Jump) (q : Nat) : HoldsAll c93 O R q 0 (d93 O R q) := ⟨fun y0 h => e93_0 O R q y0 h, trivial⟩
/- sprue/scan.row -/
def c94 : MFunc := { np := 1, res := [.t 2], frz := true, body := (.seq (.reg [⟨(some 2), (.mv (.k (.v (.c (.p (.int .i64 0)))))), none⟩] []) (.seq (.reg [⟨(some 3), (.mv (.t 0)), none⟩, ⟨(some 4), (.call (.k (.v (.c (.func 114 [])))) [(.t 3), (.k (.v (.c (.func 115 []))))]), none⟩, ⟨(some 2), (.mv (.t 4)), none⟩] []) .ret)) }
theorem t94 : compF Tryd.prog (globs2 tabs opq) false true Tryd.f94 = some c94.erase := by kernel_rfl
noncomputable def b94_0 (O : Oracle) (R : Jump) (q : Nat) (x0 : TVal) (h : Heap) : Res1 :=
  vcall O (.v (.c (.func 114 []))) [x0, (.v (.c (.func 115 [])))] h 4 fun x4 h =>
  tcomp x4 fun c0 => vfin true q [c0] h
theorem e94_0 (O : Oracle) (R : Jump) (q : Nat) (x0 : TVal) (h : Heap) : b94_0 O R q x0 h = stepF c94 O R q 0 [x0] h := by kernel_rfl
noncomputable def d94 : BlkF := fun O R q => [.s fun y0 => .z fun h => b94_0 O R q y0 h]
theorem o94 (O : Oracle) (R : Jump) (q : Nat) : HoldsAll c94 O R q 0 (d94 O R q) := ⟨fun y0 h => e94_0 O R q y0 h, trivial⟩
/- strings.Index -/
def c95 : MFunc := { np := 2, res := [.t 4], frz := true, body := (.seq (.reg [⟨(some 4), (.mv (.k (.v (.c (.p (.int .i64 0)))))), none⟩] []) (.seq (.reg [⟨(some 5), (.mv (.t 0)), none⟩, ⟨(some 6), (.mv (.t 1)), none⟩, ⟨(some 7), (.call (.k (.v (.c (.func 117 [])))) [(.t 5), (.t 6)]), none⟩, ⟨(some 4), (.mv (.t 7)), none⟩] []) .ret)) }
theorem t95 : compF Tryd.prog (globs2 tabs opq) false true Tryd.f95 = some c95.erase := by kernel_rfl
noncomputable def b95_0 (O : Oracle) (R : Jump) (q : Nat) (x0 x1 : TVal) (h : Heap) : Res1 :=
  vcall O (.v (.c (.func 117 []))) [x0, x1] h 7 fun x7 h =>
  tcomp x7 fun c0 => vfin true q [c0] h
theorem e95_0 (O : Oracle) (R : Jump) (q : Nat) (x0 x1 : TVal) (h : Heap) : b95_0 O R q x0 x1 h = stepF c95 O R q 0 [x0, x1] h := by kernel_rfl
noncomputable def d95 : BlkF := fun O R q => [.s fun y0 => .s fun y1 => .z fun h => b95_0 O R q y0 y1 h]
theorem o95 (O : Oracle) (R : Jump) (q : Nat) : HoldsAll c95 O R q 0 (d95 O R q) := ⟨fun y0 y1 h => e95_0 O R q y0 y1 h, trivial⟩
/- slices.IndexFunc[[]sprue/api.Value,sprue/api.Value] -/
def c96 : MFunc := { np := 2, res := [.t 4], frz := true, body := (.seq (.reg [⟨(some 4), (.mv (.k (.v (.c (.p (.int .i64 0)))))), none⟩] []) (.seq (.seq (.reg [⟨(some 6), (.mv (.t 0)), none⟩, ⟨(some 7), (.len 2 (.t 6)), none⟩, ⟨(some 8), (.mv (.k (.v (.c (.p (.int .i64 0)))))), none⟩] []) (.block 0 (.loop 1 [0, 1, 7, 8] (.seq (.reg [⟨(some 9), (.bin .lss 0 (.t 8) (.t 7)), none⟩] []) (.seq (.cond (.t 9) .skip (.exit 0)) (.seq (.block 1 (.seq (.reg [⟨(some 10), (.mv (.t 8)), none⟩, ⟨(some 5), (.mv (.t 10)), none⟩] []) (.seq (.reg [⟨(some 11), (.mv (.t 1)), none⟩, ⟨(some 12), (.mv (.t 0)), none⟩, ⟨(some 13), (.mv (.t 5)), none⟩, ⟨(some 14), (.iaddr 6 (.t 12) (.t 13)), none⟩, ⟨(some 15), (.load true 6 (.t 14)), none⟩, ⟨(some 16), (.call (.t 11) [(.t 15)]), none⟩] []) (.cond (.t 16) (.seq (.reg [⟨(some 17), (.mv (.t 5)), none⟩, ⟨(some 4), (.mv (.t 17)), none⟩] []) .ret) .skip)))) (.reg [⟨(some 18), (.bin .add 0 (.t 8) (.k (.v (.c (.p (.int .i64 1)))))), none⟩, ⟨(some 8), (.mv (.t 18)), none⟩] []))))))) (.seq (.reg [⟨(some 4), (.mv (.k (.v (.c (.p (.int .i64 (-1))))))), none⟩] []) .ret))) }
theorem t96 : compF Tryd.prog (globs2 tabs opq) false true Tryd.f96 = some c96.erase := by kernel_rfl
noncomputable def b96_0 (O : Oracle) (R : Jump) (q : Nat) (x0 x1 : TVal) (h : Heap) : Res1 :=
  vlen O 2 x0 h 7 fun x7 h =>
  R 1 [x0, x1, x7, (kI 0)] h
theorem e96_0 (O : Oracle) (R : Jump) (q : Nat) (x0 x1 : TVal) (h : Heap) : b96_0 O R q x0 x1 h = stepF c96 O R q 0 [x0, x1] h := by kernel_rfl
noncomputable def b96_1 (O : Oracle) (R : Jump) (q : Nat) (x0 x1 x7 x8 : TVal) (h : Heap) : Res1 :=
  vbin .lss 0 x8 x7 h fun x9 h =>
  vif x9 (
  viaddr 6 x0 x8 h fun x14 h =>
  vload true 6 x14 h fun x15 h =>
  vcall O x1 [x15] h 16 fun x16 h =>
  vif x16 (
  tcomp x8 fun c0 => vfin true q [c0] h)
  (vbin .add 0 x8 (kI 1) h fun x18 h =>
  R 1 [x0, x1, x7, x18] h))
  (tcomp (kI (-1)) fun c0 => vfin true q [c0] h)
theorem e96_1 (O : Oracle) (R : Jump) (q : Nat) (x0 x1 x7 x8 : TVal) (h : Heap) : b96_1 O R q x0 x1 x7 x8 h = stepF c96 O R q 1 [x0, x1, x7, x8] h := by kernel_rfl
noncomputable def d96 : BlkF := fun O R q => [.s fun y0 => .s fun y1 => .z fun h => b96_0 O R q y0 y1 h, .s fun y0 => .s fun y1 => .s fun y2 => .s fun y3 => .z fun h => b96_1 O R q y0 y1 y2 y3 h]
theorem o96 (O : Oracle) (R : Jump) (q : Nat) : HoldsAll c96 O R q 0 (d96 O R q) := ⟨fun y0 y1 h => e96_0 O R q y0 y1 h, fun y0 y1 y2 y3 h => e96_1 O R q y0 y1 y2 y3 h, trivial⟩
/- internal/strconv.FormatInt -/
def c97 : MFunc := { np := 2, res := [.t 4], frz := true, body := (.seq (.reg [⟨(some 4), (.mv (.k (.v (.c (.p (.str [])))))), none⟩] []) (.seq (.seq (.reg [⟨(some 10), (.mv (.t 1)), none⟩, ⟨(some 11), (.bin .eql 0 (.t 10) (.k (.v (.c (.p (.int .i64 10)))))), none⟩] []) (.cond (.t 11) (.seq (.seq (.reg [⟨(some 12), (.mv (.t 0)), none⟩, ⟨(some 13), (.bin .leq 0 (.k (.v (.c (.p (.int .i64 0))))) (.t 12)), none⟩, ⟨(some 14), (.mv (.t 13)), none⟩, ⟨(some 15), (.mv (.t 0)), (some (14, true))⟩, ⟨(some 16), (.bin .lss 0 (.t 15) (.k (.v (.c (.p (.int .i64 100)))))), (some (14, true))⟩, ⟨(some 17), (.pick (.t 14) (.t 16) (.k (.v (.c (.p (.bool false)))))), none⟩] []) (.cond (.t 17) (.seq (.reg [⟨(some 18), (.mv (.t 0)), none⟩, ⟨(some 19), (.call (.k (.v (.c (.func 118 [])))) [(.t 18)]), none⟩, ⟨(some 4), (.mv (.t 19)), none⟩] []) .ret) .skip)) (.seq (.reg [⟨(some 5), (.alloc [(.p (.int .u8 0)), (.p (.int .u8 0)), (.p (.int .u8 0)), (.p (.int .u8 0)), (.p (.int .u8 0)), (.p (.int .u8 0)), (.p (.int .u8 0)), (.p (.int .u8 0)), (.p (.int .u8 0)), (.p (.int .u8 0)), (.p (.int .u8 0)), (.p (.int .u8 0)), (.p (.int .u8 0)), (.p (.int .u8 0)), (.p (.int .u8 0)), (.p (.int .u8 0)), (.p (.int .u8 0)), (.p (.int .u8 0)), (.p (.int .u8 0)), (.p (.int .u8 0)), (.p (.int .u8 0)), (.p (.int .u8 0)), (.p (.int .u8 0)), (.p (.int .u8 0))] false), none⟩] []) (.seq (.reg [⟨(some 20), (.mv (.t 0)), none⟩, ⟨(some 21), (.toInt .u64 (.t 20)), none⟩, ⟨(some 6), (.mv (.t 21)), none⟩] []) (.seq (.seq (.reg [⟨(some 22), (.mv (.t 0)), none⟩, ⟨(some 23), (.bin .lss 0 (.t 22) (.k (.v (.c (.p (.int .i64 0)))))), none⟩] []) (.cond (.t 23) (.reg [⟨(some 24), (.mv (.t 6)), none⟩, ⟨(some 25), (.un .neg (.t 24)), none⟩, ⟨(some 6), (.mv (.t 25)), none⟩] []) .skip)) (.mark 1 [0, 5, 6] (.seq (.reg [⟨(some 26), (.mv (.t 6)), none⟩, ⟨(some 27), (.call (.k (.v (.c (.func 119 [])))) [(.t 26)]), none⟩, ⟨(some 7), (.mv (.t 27)), none⟩] []) (.seq (.reg [⟨(some 28), (.mv (.t 7)), none⟩, ⟨(some 29), (.bin .add 0 (.k (.v (.c (.p (.int .i64 1))))) (.t 28)), none⟩, ⟨(some 30), (.sliceA 24 1 (.t 5) (some (.k (.v (.c (.p (.int .i64 1)))))) (some (.t 29))), none⟩, ⟨(some 31), (.mv (.t 6)), none⟩, ⟨(some 32), (.call (.k (.v (.c (.func 120 [])))) [(.t 30), (.t 31)]), none⟩] []) (.seq (.seq (.reg [⟨(some 33), (.mv (.t 0)), none⟩, ⟨(some 34), (.bin .lss 0 (.t 33) (.k (.v (.c (.p (.int .i64 0)))))), none⟩] []) (.cond (.t 34) (.seq (.reg [⟨(some 35), (.iaddrA 24 1 (.t 5) (.k (.v (.c (.p (.int .i64 0)))))), none⟩, ⟨none, (.store 1 (.t 35) (.k (.v (.c (.p (.int .u8 45)))))), none⟩] []) (.seq (.reg [⟨(some 36), (.mv (.t 7)), none⟩, ⟨(some 37), (.bin .add 0 (.k (.v (.c (.p (.int .i64 1))))) (.t 36)), none⟩, ⟨(some 38), (.sliceA 24 1 (.t 5) none (some (.t 37))), none⟩, ⟨(some 39), (.toStr (.t 38)), none⟩, ⟨(some 4), (.mv (.t 39)), none⟩] []) .ret)) .skip)) (.seq (.reg [⟨(some 40), (.mv (.t 7)), none⟩, ⟨(some 41), (.bin .add 0 (.k (.v (.c (.p (.int .i64 1))))) (.t 40)), none⟩, ⟨(some 42), (.sliceA 24 1 (.t 5) (some (.k (.v (.c (.p (.int .i64 1)))))) (some (.t 41))), none⟩, ⟨(some 43), (.toStr (.t 42)), none⟩, ⟨(some 4), (.mv (.t 43)), none⟩] []) .ret))))))))) .skip)) (.seq (.reg [⟨(some 45), (.mv (.t 0)), none⟩, ⟨(some 46), (.toInt .u64 (.t 45)), none⟩, ⟨(some 47), (.mv (.t 1)), none⟩, ⟨(some 48), (.mv (.t 0)), none⟩, ⟨(some 49), (.bin .lss 0 (.t 48) (.k (.v (.c (.p (.int .i64 0)))))), none⟩, ⟨(some 50), (.call (.k (.v (.c (.func 121 [])))) [(.k (.v (.c (.p .nilslice)))), (.t 46), (.t 47), (.t 49), (.k (.v (.c (.p (.bool false)))))]), none⟩, ⟨(some 44), (.mv (.t 50)), none⟩, ⟨(some 51), (.extract (.t 44) 0), none⟩, ⟨(some 52), (.extract (.t 44) 1), none⟩, ⟨(some 8), (.mv (.t 51)), none⟩, ⟨(some 9), (.mv (.t 52)), none⟩] []) (.seq (.reg [⟨(some 53), (.mv (.t 9)), none⟩, ⟨(some 4), (.mv (.t 53)), none⟩] []) .ret)))) }
theorem t97 : compF Tryd.prog (globs2 tabs opq) false true Tryd.f97 = some c97.erase := by kernel_rfl
noncomputable def b97_0 (O : Oracle) (R : Jump) (q : Nat) (x0 x1 : TVal) (h : Heap) : Res1 :=
  vbin .eql 0 x1 (kI 10) h fun x11 h =>
  vif x11 (
  vbin .leq 0 (kI 0) x0 h fun x13 h =>
  vguard x13 true (fun kk => kk x0 h) h fun x15 h =>
  vguard x13 true (fun kk => vbin .lss 0 x15 (kI 100) h kk) h fun x16 h =>
  vop O (.pick (.k x13) (.k x16) (.k (kB false))) h 17 fun x17 h =>
  vif x17 (
  vcall O (.v (.c (.func 118 []))) [x0] h 19 fun x19 h =>
  tcomp x19 fun c0 => vfin true q [c0] h)
  (vop O (.alloc [(.p (.int .u8 0)), (.p (.int .u8 0)), (.p (.int .u8 0)), (.p (.int .u8 0)), (.p (.int .u8 0)), (.p (.int .u8 0)), (.p (.int .u8 0)), (.p (.int .u8 0)), (.p (.int .u8 0)), (.p (.int .u8 0)), (.p (.int .u8 0)), (.p (.int .u8 0)), (.p (.int .u8 0)), (.p (.int .u8 0)), (.p (.int .u8 0)), (.p (.int .u8 0)), (.p (.int .u8 0)), (.p (.int .u8 0)), (.p (.int .u8 0)), (.p (.int .u8 0)), (.p (.int .u8 0)), (.p (.int .u8 0)), (.p (.int .u8 0)), (.p (.int .u8 0))] false) h 5 fun x5 h =>
  vtoInt .u64 x0 h fun x21 h =>
  vbin .lss 0 x0 (kI 0) h fun x23 h =>
  vif x23 (
  vop O (.un .neg (.k x21)) h 25 fun x25 h =>
  R 1 [x0, x5, x25] h)
  (R 1 [x0, x5, x21] h)))
  (vtoInt .u64 x0 h fun x46 h =>
  vbin .lss 0 x0 (kI 0) h fun x49 h =>
  vcall O (.v (.c (.func 121 []))) [(.v (.c (.p .nilslice))), x46, x1, x49, (kB false)] h 50 fun x50 h =>
  vext x50 0 h fun x51 h =>
  vext x50 1 h fun x52 h =>
  tcomp x52 fun c0 => vfin true q [c0] h)
theorem e97_0 (O : Oracle) (R : Jump) (q : Nat) (x0 x1 : TVal) (h : Heap) : b97_0 O R q x0 x1 h = stepF c97 O R q 0 [x0, x1] h := by kernel_rfl
noncomputable def b97_1 (O : Oracle) (R : Jump) (q : Nat) (x0 x5 x6 : TVal) (h : Heap) : Res1 :=
  vcall O (.v (.c (.func 119 []))) [x6] h 27 fun x27 h =>
  vbin .add 0 (kI 1) x27 h fun x29 h =>
  vop O (.sliceA 24 1 (.k x5) (some (.k (kI 1))) (some (.k x29))) h 30 fun x30 h =>
  vcall O (.v (.c (.func 120 []))) [x30, x6] h 32 fun x32 h =>
  vbin .lss 0 x0 (kI 0) h fun x34 h =>
  vif x34 (
  vop O (.iaddrA 24 1 (.k x5) (.k (kI 0))) h 35 fun x35 h =>
  vstore 1 x35 (.v (.c (.p (.int .u8 45)))) h fun _ h =>
  vbin .add 0 (kI 1) x27 h fun x37 h =>
  vop O (.sliceA 24 1 (.k x5) none (some (.k x37))) h 38 fun x38 h =>
  vop O (.toStr (.k x38)) h 39 fun x39 h =>
  tcomp x39 fun c0 => vfin true q [c0] h)
  (vbin .add 0 (kI 1) x27 h fun x41 h =>
  vop O (.sliceA 24 1 (.k x5) (some (.k (kI 1))) (some (.k x41))) h 42 fun x42 h =>
  vop O (.toStr (.k x42)) h 43 fun x43 h =>
  tcomp x43 fun c0 => vfin true q [c0] h)
theorem e97_1 (O : Oracle) (R : Jump) (q : Nat) (x0 x5 x6 : TVal) (h : Heap) : b97_1 O R q x0 x5 x6 h = stepF c97 O R q 1 [x0, x5, x6] h := by kernel_rfl
noncomputable def d97 : BlkF := fun O R q => [.s fun y0 => .s fun y1 => .z fun h => b97_0 O R q y0 y1 h, .s fun y0 => .s fun y1 => .s fun y2 => .z fun h => b97_1 O R q y0 y1 y2 h]
theorem o97 (O : Oracle) (R : Jump) (q : Nat) : HoldsAll c97 O R q 0 (d97 O R q) := ⟨fun y0 y1 h => e97_0 O R q y0 y1 h, fun y0 y1 y2 h => e97_1 O R q y0 y1 y2 h, trivial⟩
/- internal/strconv.FormatBool -/
def c98 : MFunc := { np := 1, res := [.t 2], frz := true, body := (.seq (.reg [⟨(some 2), (.mv (.k (.v (.c (.p (.str [])))))), none⟩] []) (.seq (.seq (.reg [⟨(some 3), (.mv (.t 0)), none⟩] []) (.cond (.t 3) (.seq (.reg [⟨(some 2), (.mv (.k (.v (.c (.p (.str [116, 114, 117, 101])))))), none⟩] []) .ret) .skip)) (.seq (.reg [⟨(some 2), (.mv (.k (.v (.c (.p (.str [102, 97, 108, 115, 101])))))), none⟩] []) .ret))) }
theorem t98 : compF Tryd.prog (globs2 tabs opq) false true Tryd.f98 = some c98.erase := by kernel_rfl
noncomputable def b98_0 (O : Oracle) (R : Jump) (q : Nat) (x0 : TVal) (h : Heap) : Res1 :=
  vif x0 (
  tcomp (kS [116, 114, 117, 101]) fun c0 => vfin true q [c0] h)
  (tcomp (kS [102, 97, 108, 115, 101]) fun c0 => vfin true q [c0] h)
theorem e98_0 (O : Oracle) (R : Jump) (q : Nat) (x0 : TVal) (h : Heap) : b98_0 O R q x0 h = stepF c98 O R q 0 [x0] h := by kernel_rfl
noncomputable def d98 : BlkF := fun O R q => [.s fun y0 => .z fun h => b98_0 O R q y0 h]
theorem o98 (O : Oracle) (R : Jump) (q : Nat) : HoldsAll c98 O R q 0 (d98 O R q) := ⟨fun y0 h => e98_0 O R q y0 h, trivial⟩
/- slices.Clone[[]string,string] -/
def c99 : MFunc := { np := 1, res := [.t 2], frz := true, body := (.seq (.reg [⟨(some 2), (.mv (.k (.v (.c (.p .nilslice))))), none⟩] []) (.seq (.seq (.reg [⟨(some 3), (.mv (.t 0)), none⟩, ⟨(some 4), (.bin .eql 2 (.t 3) (.k (.v (.c (.p .nilslice))))), none⟩] []) (.cond (.t 4) (.seq (.reg [⟨(some 2), (.mv (.k (.v (.c (.p .nilslice))))), none⟩] []) .ret) .skip)) (.seq (.reg [⟨(some 5), (.bslice 1 0 [(.p (.str []))] [] false), none⟩, ⟨(some 6), (.mv (.t 0)), none⟩, ⟨(some 7), (.append 1 16 false (.t 5) (.t 6)), none⟩, ⟨(some 2), (.mv (.t 7)), none⟩] []) .ret))) }
theorem t99 : compF Tryd.prog (globs2 tabs opq) false true Tryd.f99 = some c99.erase := by kernel_rfl
noncomputable def b99_0 (O : Oracle) (R : Jump) (q : Nat) (x0 : TVal) (h : Heap) : Res1 :=
  vbin .eql 2 x0 (.v (.c (.p .nilslice))) h fun x4 h =>
  vif x4 (
  tcomp (.v (.c (.p .nilslice))) fun c0 => vfin true q [c0] h)
  (vop O (.bslice 1 0 [(.p (.str []))] [] false) h 5 fun x5 h =>
  vop O (.append 1 16 false (.k x5) (.k x0)) h 7 fun x7 h =>
  tcomp x7 fun c0 => vfin true q [c0] h)
theorem e99_0 (O : Oracle) (R : Jump) (q : Nat) (x0 : TVal) (h : Heap) : b99_0 O R q x0 h = stepF c99 O R q 0 [x0] h := by kernel_rfl
noncomputable def d99 : BlkF := fun O R q => [.s fun y0 => .z fun h => b99_0 O R q y0 h]
theorem o99 (O : Oracle) (R : Jump) (q : Nat) : HoldsAll c99 O R q 0 (d99 O R q) := ⟨fun y0 h => e99_0 O R q y0 h, trivial⟩
/- sprue/scan.front -/
def c114 : MFunc := { np := 2, res := [.t 4], frz := true, body := (.seq (.reg [⟨(some 4), (.mv (.k (.v (.c (.p (.int .i64 0)))))), none⟩] []) (.seq (.seq (.reg [⟨(some 6), (.mv (.t 0)), none⟩, ⟨(some 7), (.rangeS (.t 6)), none⟩] []) (.block 0 (.loop 1 [0, 1, 7] (.seq (.reg [⟨(some 8), (.nextS (.t 7)), none⟩, ⟨(some 9), (.extract (.t 8) 0), none⟩] []) (.seq (.cond (.t 9) .skip (.exit 0)) (.block 1 (.seq (.reg [⟨(some 10), (.extract (.t 8) 1), none⟩, ⟨(some 5), (.mv (.t 10)), none⟩] []) (.seq (.reg [⟨(some 11), (.mv (.t 1)), none⟩, ⟨(some 12), (.mv (.t 0)), none⟩, ⟨(some 13), (.mv (.t 5)), none⟩, ⟨(some 14), (.index (.t 12) (.t 13)), none⟩, ⟨(some 15), (.call (.t 11) [(.t 14)]), none⟩, ⟨(some 16), (.un .not (.t 15)), none⟩] []) (.cond (.t 16) (.seq (.reg [⟨(some 17), (.mv (.t 5)), none⟩, ⟨(some 4), (.mv (.t 17)), none⟩] []) .ret) .skip))))))))) (.mark 2 [0] (.seq (.reg [⟨(some 18), (.mv (.t 0)), none⟩, ⟨(some 19), (.len 0 (.t 18)), none⟩, ⟨(some 4), (.mv (.t 19)), none⟩] []) .ret)))) }
theorem t114 : compF Tryd.prog (globs2 tabs opq) false true Tryd.f114 = some c114.erase := by kernel_rfl
noncomputable def b114_0 (O : Oracle) (R : Jump) (q : Nat) (x0 x1 : TVal) (h : Heap) : Res1 :=
  vop O (.rangeS (.k x0)) h 7 fun x7 h =>
  R 1 [x0, x1, x7] h
theorem e114_0 (O : Oracle) (R : Jump) (q : Nat) (x0 x1 : TVal) (h : Heap) : b114_0 O R q x0 x1 h = stepF c114 O R q 0 [x0, x1] h := by kernel_rfl
noncomputable def b114_1 (O : Oracle) (R : Jump) (q : Nat) (x0 x1 x7 : TVal) (h : Heap) : Res1 :=
  vop O (.nextS (.k x7)) h 8 fun x8 h =>
  vext x8 0 h fun x9 h =>
  vif x9 (
  vext x8 1 h fun x10 h =>
  vindex x0 x10 h fun x14 h =>
  vcall O x1 [x14] h 15 fun x15 h =>
  vop O (.un .not (.k x15)) h 16 fun x16 h =>
  vif x16 (
  tcomp x10 fun c0 => vfin true q [c0] h)
  (R 1 [x0, x1, x7] h))
  (R 2 [x0] h)
theorem e114_1 (O : Oracle) (R : Jump) (q : Nat) (x0 x1 x7 : TVal) (h : Heap) : b114_1 O R q x0 x1 x7 h = stepF c114 O R q 1 [x0, x1, x7] h := by kernel_rfl
noncomputable def b114_2 (O : Oracle) (R : Jump) (q : Nat) (x0 : TVal) (h : Heap) : Res1 :=
  vlen O 0 x0 h 19 fun x19 h =>
  tcomp x19 fun c0 => vfin true q [c0] h
theorem e114_2 (O : Oracle) (R : Jump) (q : Nat) (x0 : TVal) (h : Heap) : b114_2 O R q x0 h = stepF c114 O R q 2 [x0] h := by kernel_rfl
noncomputable def d114 : BlkF := fun O R q => [.s fun y0 => .s fun y1 => .z fun h => b114_0 O R q y0 y1 h, .s fun y0 => .s fun y1 => .s fun y2 => .z fun h => b114_1 O R q y0 y1 y2 h, .s fun y0 => .z fun h => b114_2 O R q y0 h]
theorem o114 (O : Oracle) (R : Jump) (q : Nat) : HoldsAll c114 O R q 0 (d114 O R q) := ⟨fun y0 y1 h => e114_0 O R q y0 y1 h, fun y0 y1 y2 h => e114_1 O R q y0 y1 y2 h, fun y0 h => e114_2 O R q y0 h, trivial⟩
/- sprue/scan.row$1 -/
def c115 : MFunc := { np := 1, res := [.t 2], frz := true, body := (.seq (.reg [⟨(some 2), (.mv (.k (.v (.c (.p (.bool false)))))), none⟩] []) (.seq (.reg [⟨(some 3), (.mv (.t 0)), none⟩, ⟨(some 4), (.call (.k (.v (.c (.func 116 [])))) [(.t 3)]), none⟩, ⟨(some 5), (.mv (.t 4)), none⟩, ⟨(some 6), (.mv (.t 0)), (some (5, false))⟩, ⟨(some 7), (.call (.k (.v (.c (.func 93 [])))) [(.t 6)]), (some (5, false))⟩, ⟨(some 8), (.pick (.t 5) (.k (.v (.c (.p (.bool true))))) (.t 7)), none⟩, ⟨(some 2), (.mv (.t 8)), none⟩] []) .ret)) }
theorem t115 : compF Tryd.prog (globs2 tabs opq) false true Tryd.f115 = some c115.erase := by kernel_rfl
noncomputable def b115_0 (O : Oracle) (R : Jump) (q : Nat) (x0 : TVal) (h : Heap) : Res1 :=
  vcall O (.v (.c (.func 116 []))) [x0] h 4 fun x4 h =>
  vguard x4 false (fun kk => kk x0 h) h fun x6 h =>
  vguard x4 false (fun kk => vcall O (.v (.c (.func 93 []))) [x6] h 7 kk) h fun x7 h =>
  vop O (.pick (.k x4) (.k (kB true)) (.k x7)) h 8 fun x8 h =>
  tcomp x8 fun c0 => vfin true q [c0] h
theorem e115_0 (O : Oracle) (R : Jump) (q : Nat) (x0 : TVal) (h : Heap) : b115_0 O R q x0 h = stepF c115 O R q 0 [x0] h := by kernel_rfl
noncomputable def d115 : BlkF := fun O R q => [.s fun y0 => .z fun h => b115_0 O R q y0 h]
theorem o115 (O : Oracle) (R : Jump) (q : Nat) : HoldsAll c115 O R q 0 (d115 O R q) := ⟨fun y0 h => e115_0 O R q y0 h, trivial⟩
/- sprue/scan.letter -/
def c116 : MFunc := { np := 1, res := [.t 2], frz := true, body := (.seq (.reg [⟨(some 2), (.mv (.k (.v (.c (.p (.bool false)))))), none⟩] []) (.seq (.reg [⟨(some 3), (.mv (.t 0)), none⟩, ⟨(some 4), (.bin .eql 0 (.t 3) (.k (.v (.c (.p (.int .u8 95)))))), none⟩, ⟨(some 5), (.mv (.t 4)), none⟩, ⟨(some 6), (.mv (.t 0)), (some (5, false))⟩, ⟨(some 7), (.bin .or 0 (.t 6) (.k (.v (.c (.p (.int .u8 32)))))), (some (5, false))⟩, ⟨(some 8), (.bin .geq 0 (.t 7) (.k (.v (.c (.p (.int .u8 97)))))), (some (5, false))⟩, ⟨(some 9), (.mv (.t 8)), (some (5, false))⟩, ⟨(some 10), (.mv (.t 0)), (some (9, true))⟩, ⟨(some 11), (.bin .or 0 (.t 10) (.k (.v (.c (.p (.int .u8 32)))))), (some (9, true))⟩, ⟨(some 12), (.bin .leq 0 (.t 11) (.k (.v (.c (.p (.int .u8 122)))))), (some (9, true))⟩, ⟨(some 13), (.pick (.t 9) (.t 12) (.k (.v (.c (.p (.bool false)))))), (some (5, false))⟩, ⟨(some 14), (.pick (.t 5) (.k (.v (.c (.p (.bool true))))) (.t 13)), none⟩, ⟨(some 2), (.mv (.t 14)), none⟩] []) .ret)) }
theorem t116 : compF Tryd.prog (globs2 tabs opq) false true Tryd.f116 = some c116.erase := by kernel_rfl
noncomputable def b116_0 (O : Oracle) (R : Jump) (q : Nat) (x0 : TVal) (h : Heap) : Res1 :=
  vbin .eql 0 x0 (.v (.c (.p (.int .u8 95)))) h fun x4 h =>
  vguard x4 false (fun kk => kk x0 h) h fun x6 h =>
  vguard x4 false (fun kk => vbin .or 0 x6 (.v (.c (.p (.int .u8 32)))) h kk) h fun x7 h =>
  vguard x4 false (fun kk => vbin .geq 0 x7 (.v (.c (.p (.int .u8 97)))) h kk) h fun x8 h =>
  vguard x4 false (fun kk => kk x8 h) h fun x9 h =>
  vguard x9 true (fun kk => kk x0 h) h fun x10 h =>
  vguard x9 true (fun kk => vbin .or 0 x10 (.v (.c (.p (.int .u8 32)))) h kk) h fun x11 h =>
  vguard x9 true (fun kk => vbin .leq 0 x11 (.v (.c (.p (.int .u8 122)))) h kk) h fun x12 h =>
  vguard x4 false (fun kk => vop O (.pick (.k x9) (.k x12) (.k (kB false))) h 13 kk) h fun x13 h =>
  vop O (.pick (.k x4) (.k (kB true)) (.k x13)) h 14 fun x14 h =>
  tcomp x14 fun c0 => vfin true q [c0] h
theorem e116_0 (O : Oracle) (R : Jump) (q : Nat) (x0 : TVal) (h : Heap) : b116_0 O R q x0 h = stepF c116 O R q 0 [x0] h := by kernel_rfl
noncomputable def d116 : BlkF := fun O R q => [.s fun y0 => .z fun h => b116_0 O R q y0 h]
theorem o116 (O : Oracle) (R : Jump) (q : Nat) : HoldsAll c116 O R q 0 (d116 O R q) := ⟨fun y0 h => e116_0 O R q y0 h, trivial⟩
end Go.Proofs.YtkkbfljipfndgaaDoor.Ab
