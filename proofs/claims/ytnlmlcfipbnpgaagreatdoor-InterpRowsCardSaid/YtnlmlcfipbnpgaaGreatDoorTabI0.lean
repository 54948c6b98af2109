/- Functions of the given program as the abstract interpreter has them (part 0), printed by a program of our own; each is shown to be what 'compF' makes of the given program's. No condition. -/
import Derived.Test.YtnlmlcfipbnpgaaGreatDoorChecked
import Derived.Test.YtnlmlcfipbnpgaaGreatDoorAd
namespace Go.Proofs.YtnlmlcfipbnpgaaGreatDoor.Ab
open Go Go.AI
set_option linter.all false
set_option linter.unusedVariables false
set_option maxRecDepth 100000
def vals0 : List Int := [0, 1, 28, 2, 29, 14, 24, 3, 30, 22, 20, 15, 25, 17, 4, 8, 31, 27, 13, 23, 21, 19, 16, 7, 26, 12, 18, 6, 11, 5, 10, 9]
def tabs : List Tabl := [Tabl.mk "math/bits.deBruijn32tab" 4 .u8 [0, 1, 28, 2, 29, 14, 24, 3, 30, 22, 20, 15, 25, 17, 4, 8, 31, 27, 13, 23, 21, 19, 16, 7, 26, 12, 18, 6, 11, 5, 10, 9], Tabl.mk "math/bits.deBruijn64tab" 5 .u8 [0, 1, 56, 2, 57, 49, 28, 3, 61, 58, 42, 50, 38, 29, 17, 4, 62, 47, 59, 36, 45, 43, 51, 22, 53, 39, 33, 30, 24, 18, 12, 5, 63, 55, 48, 27, 60, 41, 37, 16, 46, 35, 44, 21, 52, 32, 23, 11, 54, 26, 40, 15, 34, 20, 31, 10, 25, 14, 19, 9, 13, 8, 7, 6], Tabl.mk "internal/strconv.uint64pow10" 1 .u64 [1, 10, 100, 1000, 10000, 100000, 1000000, 10000000, 100000000, 1000000000, 10000000000, 100000000000, 1000000000000, 10000000000000, 100000000000000, 1000000000000000, 10000000000000000, 100000000000000000, 1000000000000000000, 10000000000000000000]]
def opq : Option Nat := some 0
/- sprue/spruelaw16.InterpRows -/
def c5 : MFunc := { np := 1, res := [.t 2], frz := true, body := (.seq (.reg [(oA 2 (.mv (.k (.v (.c (.p (.bool false)))))))] []) (.seq (.seq (.reg [(oA 10 (.call (.k (.v (.c (.func 18 [])))) [])), (oA 11 (.un .not (.t 10)))] []) (.cond (.t 11) (.seq (.reg [(oA 2 (.mv (.k (.v (.c (.p (.bool false)))))))] []) .ret) .skip)) (.seq (.reg [(oA 3 (.mv (.k (.v (.c (.p (.str [123, 34, 98, 34, 58, 102, 97, 108, 115, 101, 44, 34, 101, 34, 58, 91, 93, 44, 34, 105, 34, 58, 55, 44, 34, 108, 34, 58, 91, 49, 44, 50, 93, 44, 34, 109, 34, 58, 123, 34, 120, 34, 58, 34, 112, 34, 44, 34, 121, 34, 58, 34, 113, 34, 125, 44, 34, 110, 34, 58, 110, 117, 108, 108, 44, 34, 116, 34, 58, 34, 104, 105, 34, 44, 34, 117, 34, 58, 123, 34, 107, 34, 58, 53, 125, 125])))))))] []) (.seq (.reg [(oA 12 (.bslice 1 33 [(.p (.str []))] [(0, (.k (.v (.c (.p (.str [123, 123, 46, 105, 125, 125, 123, 123, 46, 116, 125, 125, 123, 123, 46, 98, 125, 125])))))), (1, (.k (.v (.c (.p (.str [123, 123, 46, 108, 125, 125])))))), (2, (.k (.v (.c (.p (.str [97, 123, 123, 46, 110, 125, 125])))))), (3, (.k (.v (.c (.p (.str [97, 123, 123, 46, 120, 125, 125])))))), (4, (.k (.v (.c (.p (.str [123, 123, 36, 120, 32, 58, 61, 32, 46, 105, 125, 125, 123, 123, 36, 120, 125, 125])))))), (5, (.k (.v (.c (.p (.str [123, 123, 105, 102, 32, 46, 98, 125, 125, 49, 123, 123, 101, 108, 115, 101, 125, 125, 50, 123, 123, 101, 110, 100, 125, 125])))))), (6, (.k (.v (.c (.p (.str [123, 123, 105, 102, 32, 46, 110, 125, 125, 49, 123, 123, 101, 110, 100, 125, 125])))))), (7, (.k (.v (.c (.p (.str [123, 123, 105, 102, 32, 46, 105, 125, 125, 49, 123, 123, 101, 110, 100, 125, 125])))))), (8, (.k (.v (.c (.p (.str [123, 123, 105, 102, 32, 46, 101, 125, 125, 49, 123, 123, 101, 110, 100, 125, 125])))))), (9, (.k (.v (.c (.p (.str [123, 123, 119, 105, 116, 104, 32, 46, 98, 125, 125, 123, 123, 46, 125, 125, 123, 123, 101, 108, 115, 101, 125, 125, 50, 123, 123, 101, 110, 100, 125, 125])))))), (10, (.k (.v (.c (.p (.str [123, 123, 119, 105, 116, 104, 32, 46, 110, 125, 125, 49, 123, 123, 101, 108, 115, 101, 125, 125, 123, 123, 46, 105, 125, 125, 123, 123, 101, 110, 100, 125, 125])))))), (11, (.k (.v (.c (.p (.str [123, 123, 114, 97, 110, 103, 101, 32, 46, 108, 125, 125, 60, 123, 123, 46, 125, 125, 62, 123, 123, 101, 110, 100, 125, 125])))))), (12, (.k (.v (.c (.p (.str [123, 123, 114, 97, 110, 103, 101, 32, 46, 109, 125, 125, 60, 123, 123, 46, 125, 125, 62, 123, 123, 101, 110, 100, 125, 125])))))), (13, (.k (.v (.c (.p (.str [123, 123, 114, 97, 110, 103, 101, 32, 46, 101, 125, 125, 49, 123, 123, 101, 108, 115, 101, 125, 125, 110, 111, 110, 101, 123, 123, 101, 110, 100, 125, 125])))))), (14, (.k (.v (.c (.p (.str [97, 123, 123, 114, 97, 110, 103, 101, 32, 46, 105, 125, 125, 123, 123, 101, 110, 100, 125, 125])))))), (15, (.k (.v (.c (.p (.str [123, 123, 109, 97, 116, 99, 104, 32, 46, 117, 125, 125, 123, 123, 99, 97, 115, 101, 32, 107, 125, 125, 123, 123, 97, 100, 100, 32, 46, 32, 49, 125, 125, 123, 123, 99, 97, 115, 101, 32, 122, 125, 125, 122, 123, 123, 101, 110, 100, 125, 125])))))), (16, (.k (.v (.c (.p (.str [123, 123, 109, 97, 116, 99, 104, 32, 46, 117, 125, 125, 123, 123, 99, 97, 115, 101, 32, 122, 125, 125, 122, 123, 123, 101, 108, 115, 101, 125, 125, 101, 123, 123, 101, 110, 100, 125, 125])))))), (17, (.k (.v (.c (.p (.str [123, 123, 109, 97, 116, 99, 104, 32, 46, 117, 125, 125, 123, 123, 99, 97, 115, 101, 32, 122, 125, 125, 122, 123, 123, 101, 110, 100, 125, 125])))))), (18, (.k (.v (.c (.p (.str [123, 123, 109, 97, 116, 99, 104, 32, 46, 109, 125, 125, 123, 123, 101, 108, 115, 101, 125, 125, 123, 123, 101, 110, 100, 125, 125])))))), (19, (.k (.v (.c (.p (.str [123, 123, 116, 101, 109, 112, 108, 97, 116, 101, 32, 34, 116, 34, 32, 46, 116, 125, 125, 123, 123, 100, 101, 102, 105, 110, 101, 32, 34, 116, 34, 125, 125, 91, 123, 123, 46, 125, 125, 93, 123, 123, 101, 110, 100, 125, 125])))))), (20, (.k (.v (.c (.p (.str [97, 123, 123, 116, 101, 109, 112, 108, 97, 116, 101, 32, 34, 122, 34, 125, 125])))))), (21, (.k (.v (.c (.p (.str [97, 123, 123, 36, 120, 32, 61, 32, 49, 125, 125])))))), (22, (.k (.v (.c (.p (.str [97, 123, 123, 108, 101, 110, 32, 46, 105, 125, 125])))))), (23, (.k (.v (.c (.p (.str [97, 123, 123, 110, 111, 98, 111, 100, 121, 125, 125])))))), (24, (.k (.v (.c (.p (.str [97, 123, 123, 46, 105, 32, 124, 32, 46, 116, 125, 125])))))), (25, (.k (.v (.c (.p (.str [97, 123, 123, 97, 116, 32, 46, 108, 32, 50, 125, 125, 98])))))), (26, (.k (.v (.c (.p (.str [123, 123, 97, 116, 32, 46, 108, 32, 49, 125, 125])))))), (27, (.k (.v (.c (.p (.str [123, 123, 103, 101, 116, 32, 46, 109, 32, 34, 120, 34, 125, 125])))))), (28, (.k (.v (.c (.p (.str [123, 123, 111, 114, 101, 108, 115, 101, 32, 46, 110, 32, 51, 125, 125, 123, 123, 111, 114, 101, 108, 115, 101, 32, 46, 105, 32, 52, 125, 125])))))), (29, (.k (.v (.c (.p (.str [123, 123, 104, 97, 115, 32, 46, 110, 125, 125, 123, 123, 104, 97, 115, 32, 46, 105, 125, 125])))))), (30, (.k (.v (.c (.p (.str [123, 123, 46, 116, 32, 124, 32, 99, 97, 116, 32, 34, 111, 104, 32, 34, 32, 124, 32, 108, 101, 110, 125, 125])))))), (31, (.k (.v (.c (.p (.str [123, 123, 110, 111, 116, 125, 125])))))), (32, (.k (.v (.c (.p (.str [123, 123, 46, 105, 46, 120, 125, 125]))))))] false)), (oA 4 (.mv (.t 12)))] []) (.seq (.reg [(oA 13 (.bslice 1 33 [(.p (.str []))] [(0, (.k (.v (.c (.p (.str [55, 104, 105, 102, 97, 108, 115, 101])))))), (1, (.k (.v (.c (.p (.str [])))))), (2, (.k (.v (.c (.p (.str [97])))))), (3, (.k (.v (.c (.p (.str [97])))))), (4, (.k (.v (.c (.p (.str [55])))))), (5, (.k (.v (.c (.p (.str [50])))))), (6, (.k (.v (.c (.p (.str [])))))), (7, (.k (.v (.c (.p (.str [49])))))), (8, (.k (.v (.c (.p (.str [49])))))), (9, (.k (.v (.c (.p (.str [102, 97, 108, 115, 101])))))), (10, (.k (.v (.c (.p (.str [55])))))), (11, (.k (.v (.c (.p (.str [60, 49, 62, 60, 50, 62])))))), (12, (.k (.v (.c (.p (.str [60, 112, 62, 60, 113, 62])))))), (13, (.k (.v (.c (.p (.str [110, 111, 110, 101])))))), (14, (.k (.v (.c (.p (.str [97])))))), (15, (.k (.v (.c (.p (.str [54])))))), (16, (.k (.v (.c (.p (.str [101])))))), (17, (.k (.v (.c (.p (.str [])))))), (18, (.k (.v (.c (.p (.str [])))))), (19, (.k (.v (.c (.p (.str [91, 104, 105, 93])))))), (20, (.k (.v (.c (.p (.str [97])))))), (21, (.k (.v (.c (.p (.str [97])))))), (22, (.k (.v (.c (.p (.str [97])))))), (23, (.k (.v (.c (.p (.str [97])))))), (24, (.k (.v (.c (.p (.str [97])))))), (25, (.k (.v (.c (.p (.str [97])))))), (26, (.k (.v (.c (.p (.str [50])))))), (27, (.k (.v (.c (.p (.str [112])))))), (28, (.k (.v (.c (.p (.str [51, 55])))))), (29, (.k (.v (.c (.p (.str [102, 97, 108, 115, 101, 116, 114, 117, 101])))))), (30, (.k (.v (.c (.p (.str [53])))))), (31, (.k (.v (.c (.p (.str [])))))), (32, (.k (.v (.c (.p (.str []))))))] false)), (oA 5 (.mv (.t 13)))] []) (.seq (.reg [(oA 14 (.bslice 1 33 [(.p (.int .i64 0))] [(1, (.k (.v (.c (.p (.int .i64 17)))))), (2, (.k (.v (.c (.p (.int .i64 17)))))), (3, (.k (.v (.c (.p (.int .i64 16)))))), (14, (.k (.v (.c (.p (.int .i64 17)))))), (17, (.k (.v (.c (.p (.int .i64 19)))))), (18, (.k (.v (.c (.p (.int .i64 17)))))), (20, (.k (.v (.c (.p (.int .i64 15)))))), (21, (.k (.v (.c (.p (.int .i64 15)))))), (22, (.k (.v (.c (.p (.int .i64 17)))))), (23, (.k (.v (.c (.p (.int .i64 15)))))), (24, (.k (.v (.c (.p (.int .i64 18)))))), (25, (.k (.v (.c (.p (.int .i64 32)))))), (31, (.k (.v (.c (.p (.int .i64 18)))))), (32, (.k (.v (.c (.p (.int .i64 16))))))] false)), (oA 6 (.mv (.t 14)))] []) (.seq (.reg [(oA 15 (.mv (.t 0))), (oA 16 (.mv (.t 4))), (oA 17 (.len 2 (.t 16))), (oA 18 (.call (.k (.v (.c (.func 23 [])))) [(.t 15), (.t 17)])), (oA 7 (.mv (.t 18)))] []) (.seq (.reg [(oA 20 (.mv (.t 4))), (oA 21 (.mv (.t 7))), (oA 22 (.iaddr 1 (.t 20) (.t 21))), (oA 23 (.load false 1 (.t 22))), (oA 24 (.mv (.t 3))), (oA 25 (.call (.k (.v (.c (.func 24 [])))) [(.t 23), (.t 24), (.k (.v (.c (.p .nilslice))))])), (oA 19 (.mv (.t 25))), (oA 26 (.extract (.t 19) 0)), (oA 27 (.extract (.t 19) 1)), (oA 8 (.mv (.t 26))), (oA 9 (.mv (.t 27)))] []) (.seq (.reg [(oA 28 (.mv (.t 4))), (oA 29 (.len 2 (.t 28))), (oA 30 (.mv (.t 5))), (oA 31 (.len 2 (.t 30))), (oA 32 (.bin .eql 0 (.t 29) (.t 31))), (oA 33 (.mv (.t 32))), ⟨(some 34), (.mv (.t 6)), (some (33, true))⟩, ⟨(some 35), (.len 2 (.t 34)), (some (33, true))⟩, ⟨(some 36), (.mv (.t 4)), (some (33, true))⟩, ⟨(some 37), (.len 2 (.t 36)), (some (33, true))⟩, ⟨(some 38), (.bin .eql 0 (.t 35) (.t 37)), (some (33, true))⟩, (oA 39 (.pick (.t 33) (.t 38) (.k (.v (.c (.p (.bool false))))))), (oA 40 (.mv (.t 39))), ⟨(some 41), (.mv (.t 8)), (some (40, true))⟩, ⟨(some 42), (.mv (.t 5)), (some (40, true))⟩, ⟨(some 43), (.mv (.t 7)), (some (40, true))⟩, ⟨(some 44), (.iaddr 1 (.t 42) (.t 43)), (some (40, true))⟩, ⟨(some 45), (.load false 1 (.t 44)), (some (40, true))⟩, ⟨(some 46), (.bin .eql 0 (.t 41) (.t 45)), (some (40, true))⟩, (oA 47 (.pick (.t 40) (.t 46) (.k (.v (.c (.p (.bool false))))))), (oA 48 (.mv (.t 47))), ⟨(some 49), (.mv (.t 9)), (some (48, true))⟩, ⟨(some 50), (.mv (.t 6)), (some (48, true))⟩, ⟨(some 51), (.mv (.t 7)), (some (48, true))⟩, ⟨(some 52), (.iaddr 1 (.t 50) (.t 51)), (some (48, true))⟩, ⟨(some 53), (.load false 1 (.t 52)), (some (48, true))⟩, ⟨(some 54), (.bin .eql 0 (.t 49) (.t 53)), (some (48, true))⟩, (oA 55 (.pick (.t 48) (.t 54) (.k (.v (.c (.p (.bool false))))))), (oA 2 (.mv (.t 55)))] []) .ret))))))))) }
theorem t5 : compF Tryz.prog (globs2 tabs opq) (fun _ => false) true Tryz.f5 = some c5.erase := by kernel_rfl
noncomputable def b5_0 (O : Oracle) (R : Jump) (q : Nat) (x0 : TVal) (h : Heap) : Res1 :=
 vcall O (.v (.c (.func 18 []))) [] h 10 fun x10 h =>
 vop O (.un .not (.k x10)) h 11 fun x11 h =>
 vif x11 (
 tcomp (kB false) fun c0 => vfin true q [c0] h)
 (vop O (.bslice 1 33 [(.p (.str []))] [(0, (.k (kS [123, 123, 46, 105, 125, 125, 123, 123, 46, 116, 125, 125, 123, 123, 46, 98, 125, 125]))), (1, (.k (kS [123, 123, 46, 108, 125, 125]))), (2, (.k (kS [97, 123, 123, 46, 110, 125, 125]))), (3, (.k (kS [97, 123, 123, 46, 120, 125, 125]))), (4, (.k (kS [123, 123, 36, 120, 32, 58, 61, 32, 46, 105, 125, 125, 123, 123, 36, 120, 125, 125]))), (5, (.k (kS [123, 123, 105, 102, 32, 46, 98, 125, 125, 49, 123, 123, 101, 108, 115, 101, 125, 125, 50, 123, 123, 101, 110, 100, 125, 125]))), (6, (.k (kS [123, 123, 105, 102, 32, 46, 110, 125, 125, 49, 123, 123, 101, 110, 100, 125, 125]))), (7, (.k (kS [123, 123, 105, 102, 32, 46, 105, 125, 125, 49, 123, 123, 101, 110, 100, 125, 125]))), (8, (.k (kS [123, 123, 105, 102, 32, 46, 101, 125, 125, 49, 123, 123, 101, 110, 100, 125, 125]))), (9, (.k (kS [123, 123, 119, 105, 116, 104, 32, 46, 98, 125, 125, 123, 123, 46, 125, 125, 123, 123, 101, 108, 115, 101, 125, 125, 50, 123, 123, 101, 110, 100, 125, 125]))), (10, (.k (kS [123, 123, 119, 105, 116, 104, 32, 46, 110, 125, 125, 49, 123, 123, 101, 108, 115, 101, 125, 125, 123, 123, 46, 105, 125, 125, 123, 123, 101, 110, 100, 125, 125]))), (11, (.k (kS [123, 123, 114, 97, 110, 103, 101, 32, 46, 108, 125, 125, 60, 123, 123, 46, 125, 125, 62, 123, 123, 101, 110, 100, 125, 125]))), (12, (.k (kS [123, 123, 114, 97, 110, 103, 101, 32, 46, 109, 125, 125, 60, 123, 123, 46, 125, 125, 62, 123, 123, 101, 110, 100, 125, 125]))), (13, (.k (kS [123, 123, 114, 97, 110, 103, 101, 32, 46, 101, 125, 125, 49, 123, 123, 101, 108, 115, 101, 125, 125, 110, 111, 110, 101, 123, 123, 101, 110, 100, 125, 125]))), (14, (.k (kS [97, 123, 123, 114, 97, 110, 103, 101, 32, 46, 105, 125, 125, 123, 123, 101, 110, 100, 125, 125]))), (15, (.k (kS [123, 123, 109, 97, 116, 99, 104, 32, 46, 117, 125, 125, 123, 123, 99, 97, 115, 101, 32, 107, 125, 125, 123, 123, 97, 100, 100, 32, 46, 32, 49, 125, 125, 123, 123, 99, 97, 115, 101, 32, 122, 125, 125, 122, 123, 123, 101, 110, 100, 125, 125]))), (16, (.k (kS [123, 123, 109, 97, 116, 99, 104, 32, 46, 117, 125, 125, 123, 123, 99, 97, 115, 101, 32, 122, 125, 125, 122, 123, 123, 101, 108, 115, 101, 125, 125, 101, 123, 123, 101, 110, 100, 125, 125]))), (17, (.k (kS [123, 123, 109, 97, 116, 99, 104, 32, 46, 117, 125, 125, 123, 123, 99, 97, 115, 101, 32, 122, 125, 125, 122, 123, 123, 101, 110, 100, 125, 125]))), (18, (.k (kS [123, 123, 109, 97, 116, 99, 104, 32, 46, 109, 125, 125, 123, 123, 101, 108, 115, 101, 125, 125, 123, 123, 101, 110, 100, 125, 125]))), (19, (.k (kS [123, 123, 116, 101, 109, 112, 108, 97, 116, 101, 32, 34, 116, 34, 32, 46, 116, 125, 125, 123, 123, 100, 101, 102, 105, 110, 101, 32, 34, 116, 34, 125, 125, 91, 123, 123, 46, 125, 125, 93, 123, 123, 101, 110, 100, 125, 125]))), (20, (.k (kS [97, 123, 123, 116, 101, 109, 112, 108, 97, 116, 101, 32, 34, 122, 34, 125, 125]))), (21, (.k (kS [97, 123, 123, 36, 120, 32, 61, 32, 49, 125, 125]))), (22, (.k (kS [97, 123, 123, 108, 101, 110, 32, 46, 105, 125, 125]))), (23, (.k (kS [97, 123, 123, 110, 111, 98, 111, 100, 121, 125, 125]))), (24, (.k (kS [97, 123, 123, 46, 105, 32, 124, 32, 46, 116, 125, 125]))), (25, (.k (kS [97, 123, 123, 97, 116, 32, 46, 108, 32, 50, 125, 125, 98]))), (26, (.k (kS [123, 123, 97, 116, 32, 46, 108, 32, 49, 125, 125]))), (27, (.k (kS [123, 123, 103, 101, 116, 32, 46, 109, 32, 34, 120, 34, 125, 125]))), (28, (.k (kS [123, 123, 111, 114, 101, 108, 115, 101, 32, 46, 110, 32, 51, 125, 125, 123, 123, 111, 114, 101, 108, 115, 101, 32, 46, 105, 32, 52, 125, 125]))), (29, (.k (kS [123, 123, 104, 97, 115, 32, 46, 110, 125, 125, 123, 123, 104, 97, 115, 32, 46, 105, 125, 125]))), (30, (.k (kS [123, 123, 46, 116, 32, 124, 32, 99, 97, 116, 32, 34, 111, 104, 32, 34, 32, 124, 32, 108, 101, 110, 125, 125]))), (31, (.k (kS [123, 123, 110, 111, 116, 125, 125]))), (32, (.k (kS [123, 123, 46, 105, 46, 120, 125, 125])))] false) h 12 fun x12 h =>
 vop O (.bslice 1 33 [(.p (.str []))] [(0, (.k (kS [55, 104, 105, 102, 97, 108, 115, 101]))), (1, (.k (kS []))), (2, (.k (kS [97]))), (3, (.k (kS [97]))), (4, (.k (kS [55]))), (5, (.k (kS [50]))), (6, (.k (kS []))), (7, (.k (kS [49]))), (8, (.k (kS [49]))), (9, (.k (kS [102, 97, 108, 115, 101]))), (10, (.k (kS [55]))), (11, (.k (kS [60, 49, 62, 60, 50, 62]))), (12, (.k (kS [60, 112, 62, 60, 113, 62]))), (13, (.k (kS [110, 111, 110, 101]))), (14, (.k (kS [97]))), (15, (.k (kS [54]))), (16, (.k (kS [101]))), (17, (.k (kS []))), (18, (.k (kS []))), (19, (.k (kS [91, 104, 105, 93]))), (20, (.k (kS [97]))), (21, (.k (kS [97]))), (22, (.k (kS [97]))), (23, (.k (kS [97]))), (24, (.k (kS [97]))), (25, (.k (kS [97]))), (26, (.k (kS [50]))), (27, (.k (kS [112]))), (28, (.k (kS [51, 55]))), (29, (.k (kS [102, 97, 108, 115, 101, 116, 114, 117, 101]))), (30, (.k (kS [53]))), (31, (.k (kS []))), (32, (.k (kS [])))] false) h 13 fun x13 h =>
 vop O (.bslice 1 33 [(.p (.int .i64 0))] [(1, (.k (kI 17))), (2, (.k (kI 17))), (3, (.k (kI 16))), (14, (.k (kI 17))), (17, (.k (kI 19))), (18, (.k (kI 17))), (20, (.k (kI 15))), (21, (.k (kI 15))), (22, (.k (kI 17))), (23, (.k (kI 15))), (24, (.k (kI 18))), (25, (.k (kI 32))), (31, (.k (kI 18))), (32, (.k (kI 16)))] false) h 14 fun x14 h =>
 vlen O 2 x12 h 17 fun x17 h =>
 vcall O (.v (.c (.func 23 []))) [x0, x17] h 18 fun x18 h =>
 viaddr 1 x12 x18 h fun x22 h =>
 vload false 1 x22 h fun x23 h =>
 vcall O (.v (.c (.func 24 []))) [x23, (kS [123, 34, 98, 34, 58, 102, 97, 108, 115, 101, 44, 34, 101, 34, 58, 91, 93, 44, 34, 105, 34, 58, 55, 44, 34, 108, 34, 58, 91, 49, 44, 50, 93, 44, 34, 109, 34, 58, 123, 34, 120, 34, 58, 34, 112, 34, 44, 34, 121, 34, 58, 34, 113, 34, 125, 44, 34, 110, 34, 58, 110, 117, 108, 108, 44, 34, 116, 34, 58, 34, 104, 105, 34, 44, 34, 117, 34, 58, 123, 34, 107, 34, 58, 53, 125, 125]), (.v (.c (.p .nilslice)))] h 25 fun x25 h =>
 vext x25 0 h fun x26 h =>
 vext x25 1 h fun x27 h =>
 vlen O 2 x12 h 29 fun x29 h =>
 vlen O 2 x13 h 31 fun x31 h =>
 vbin .eql 0 x29 x31 h fun x32 h =>
 vguard x32 true (fun kk => kk x14 h) h fun x34 h =>
 vguard x32 true (fun kk => vlen O 2 x34 h 35 kk) h fun x35 h =>
 vguard x32 true (fun kk => kk x12 h) h fun x36 h =>
 vguard x32 true (fun kk => vlen O 2 x36 h 37 kk) h fun x37 h =>
 vguard x32 true (fun kk => vbin .eql 0 x35 x37 h kk) h fun x38 h =>
 vop O (.pick (.k x32) (.k x38) (.k (kB false))) h 39 fun x39 h =>
 vguard x39 true (fun kk => kk x26 h) h fun x41 h =>
 vguard x39 true (fun kk => kk x13 h) h fun x42 h =>
 vguard x39 true (fun kk => kk x18 h) h fun x43 h =>
 vguard x39 true (fun kk => viaddr 1 x42 x43 h kk) h fun x44 h =>
 vguard x39 true (fun kk => vload false 1 x44 h kk) h fun x45 h =>
 vguard x39 true (fun kk => vbin .eql 0 x41 x45 h kk) h fun x46 h =>
 vop O (.pick (.k x39) (.k x46) (.k (kB false))) h 47 fun x47 h =>
 vguard x47 true (fun kk => kk x27 h) h fun x49 h =>
 vguard x47 true (fun kk => kk x14 h) h fun x50 h =>
 vguard x47 true (fun kk => kk x18 h) h fun x51 h =>
 vguard x47 true (fun kk => viaddr 1 x50 x51 h kk) h fun x52 h =>
 vguard x47 true (fun kk => vload false 1 x52 h kk) h fun x53 h =>
 vguard x47 true (fun kk => vbin .eql 0 x49 x53 h kk) h fun x54 h =>
 vop O (.pick (.k x47) (.k x54) (.k (kB false))) h 55 fun x55 h =>
 tcomp x55 fun c0 => vfin true q [c0] h)
theorem e5_0 (O : Oracle) (R : Jump) (q : Nat) (x0 : TVal) (h : Heap) : b5_0 O R q x0 h = stepF c5 O R q 0 [x0] h := by kernel_rfl
noncomputable def d5 : BlkF := fun O R q => [.s fun y0 => .z fun h => b5_0 O R q y0 h]
theorem o5 (O : Oracle) (R : Jump) (q : Nat) : HoldsAll c5 O R q 0 (d5 O R q) := ⟨fun y0 h => e5_0 O R q y0 h, trivial⟩
/- sprue/spruelaw16.InterpOrder -/
def c6 : MFunc := { np := 1, res := [.t 2], frz := true, body := (.seq (.reg [(oA 2 (.mv (.k (.v (.c (.p (.bool false)))))))] []) (.seq (.seq (.reg [(oA 9 (.call (.k (.v (.c (.func 18 [])))) [])), (oA 10 (.un .not (.t 9)))] []) (.cond (.t 10) (.seq (.reg [(oA 2 (.mv (.k (.v (.c (.p (.bool false)))))))] []) .ret) .skip)) (.seq (.reg [(oA 11 (.build [(.p (.int .i64 0)), (.p (.bool false)), (.p (.int .i64 0)), (.p (.str [])), (.p .nilslice), (.p .nilslice)] [(0, 1, (.k (.v (.c (.p (.int .i64 2)))))), (2, 1, (.k (.v (.c (.p (.int .i64 1))))))])), (oA 12 (.build [(.p (.int .i64 0)), (.p (.bool false)), (.p (.int .i64 0)), (.p (.str [])), (.p .nilslice), (.p .nilslice)] [(0, 1, (.k (.v (.c (.p (.int .i64 2)))))), (2, 1, (.k (.v (.c (.p (.int .i64 2))))))])), (oA 13 (.build [(.p (.int .i64 0)), (.p (.bool false)), (.p (.int .i64 0)), (.p (.str [])), (.p .nilslice), (.p .nilslice)] [(0, 1, (.k (.v (.c (.p (.int .i64 2)))))), (2, 1, (.k (.v (.c (.p (.int .i64 3))))))])), (oA 14 (.bslice 6 3 [(.p (.int .i64 0)), (.p (.bool false)), (.p (.int .i64 0)), (.p (.str [])), (.p .nilslice), (.p .nilslice)] [(0, (.t 11)), (1, (.t 12)), (2, (.t 13))] false)), (oA 15 (.build [(.p (.str [])), (.p .nilslice), (.p (.int .i64 0))] [(0, 1, (.k (.v (.c (.p (.str [102])))))), (1, 1, (.t 14)), (2, 1, (.k (.v (.c (.p (.int .i64 (-1)))))))])), (oA 16 (.build [(.p (.int .i64 0)), (.p (.bool false)), (.p (.int .i64 0)), (.p (.str [])), (.p .nilslice), (.p .nilslice)] [(0, 1, (.k (.v (.c (.p (.int .i64 1)))))), (1, 1, (.k (.v (.c (.p (.bool true))))))])), (oA 17 (.build [(.p (.int .i64 0)), (.p (.bool false)), (.p (.int .i64 0)), (.p (.str [])), (.p .nilslice), (.p .nilslice)] [(0, 1, (.k (.v (.c (.p (.int .i64 1))))))])), (oA 18 (.bslice 6 2 [(.p (.int .i64 0)), (.p (.bool false)), (.p (.int .i64 0)), (.p (.str [])), (.p .nilslice), (.p .nilslice)] [(0, (.t 16)), (1, (.t 17))] false)), (oA 19 (.build [(.p (.str [])), (.p .nilslice), (.p (.int .i64 0))] [(0, 1, (.k (.v (.c (.p (.str [103])))))), (1, 1, (.t 18)), (2, 1, (.k (.v (.c (.p (.int .i64 (-1)))))))])), (oA 20 (.bslice 3 2 [(.p (.str [])), (.p .nilslice), (.p (.int .i64 0))] [(0, (.t 15)), (1, (.t 19))] false)), (oA 3 (.mv (.t 20)))] []) (.seq (.reg [(oA 21 (.bslice 1 10 [(.p (.str []))] [(0, (.k (.v (.c (.p (.str [123, 123, 115, 117, 98, 32, 40, 102, 41, 32, 40, 102, 41, 125, 125])))))), (1, (.k (.v (.c (.p (.str [123, 123, 115, 117, 98, 32, 40, 97, 100, 100, 32, 40, 102, 41, 32, 49, 48, 41, 32, 40, 102, 41, 125, 125])))))), (2, (.k (.v (.c (.p (.str [123, 123, 102, 32, 124, 32, 115, 117, 98, 32, 40, 102, 41, 125, 125])))))), (3, (.k (.v (.c (.p (.str [123, 123, 105, 102, 32, 103, 125, 125, 97, 123, 123, 101, 110, 100, 125, 125, 123, 123, 105, 102, 32, 103, 125, 125, 98, 123, 123, 101, 110, 100, 125, 125, 123, 123, 102, 125, 125])))))), (4, (.k (.v (.c (.p (.str [123, 123, 97, 110, 100, 32, 40, 103, 41, 32, 40, 103, 41, 125, 125, 123, 123, 111, 114, 32, 40, 103, 41, 32, 40, 103, 41, 125, 125])))))), (5, (.k (.v (.c (.p (.str [123, 123, 114, 97, 110, 103, 101, 32, 46, 125, 125, 123, 123, 102, 125, 125, 123, 123, 101, 110, 100, 125, 125])))))), (6, (.k (.v (.c (.p (.str [123, 123, 119, 105, 116, 104, 32, 102, 125, 125, 123, 123, 46, 125, 125, 123, 123, 46, 125, 125, 123, 123, 102, 125, 125, 123, 123, 101, 110, 100, 125, 125])))))), (7, (.k (.v (.c (.p (.str [123, 123, 116, 101, 109, 112, 108, 97, 116, 101, 32, 34, 116, 34, 32, 102, 125, 125, 123, 123, 102, 125, 125, 123, 123, 100, 101, 102, 105, 110, 101, 32, 34, 116, 34, 125, 125, 123, 123, 46, 125, 125, 123, 123, 102, 125, 125, 123, 123, 46, 125, 125, 123, 123, 101, 110, 100, 125, 125])))))), (8, (.k (.v (.c (.p (.str [123, 123, 36, 120, 32, 58, 61, 32, 102, 125, 125, 123, 123, 36, 120, 125, 125, 123, 123, 102, 125, 125, 123, 123, 36, 120, 125, 125])))))), (9, (.k (.v (.c (.p (.str [123, 123, 102, 32, 57, 32, 57, 32, 57, 125, 125, 123, 123, 102, 125, 125]))))))] false)), (oA 4 (.mv (.t 21)))] []) (.seq (.reg [(oA 22 (.bslice 1 10 [(.p (.str []))] [(0, (.k (.v (.c (.p (.str [45, 49])))))), (1, (.k (.v (.c (.p (.str [57])))))), (2, (.k (.v (.c (.p (.str [49])))))), (3, (.k (.v (.c (.p (.str [97, 49])))))), (4, (.k (.v (.c (.p (.str [102, 97, 108, 115, 101, 116, 114, 117, 101])))))), (5, (.k (.v (.c (.p (.str [49, 50])))))), (6, (.k (.v (.c (.p (.str [49, 49, 50])))))), (7, (.k (.v (.c (.p (.str [49, 50, 49, 51])))))), (8, (.k (.v (.c (.p (.str [49, 50, 49])))))), (9, (.k (.v (.c (.p (.str [49, 50]))))))] false)), (oA 5 (.mv (.t 22)))] []) (.seq (.reg [(oA 23 (.mv (.t 0))), (oA 24 (.call (.k (.v (.c (.func 23 [])))) [(.t 23), (.k (.v (.c (.p (.int .i64 10)))))])), (oA 6 (.mv (.t 24)))] []) (.seq (.reg [(oA 26 (.mv (.t 4))), (oA 27 (.mv (.t 6))), (oA 28 (.iaddr 1 (.t 26) (.t 27))), (oA 29 (.load false 1 (.t 28))), (oA 30 (.mv (.t 3))), (oA 31 (.call (.k (.v (.c (.func 24 [])))) [(.t 29), (.k (.v (.c (.p (.str [91, 55, 44, 56, 93]))))), (.t 30)])), (oA 25 (.mv (.t 31))), (oA 32 (.extract (.t 25) 0)), (oA 33 (.extract (.t 25) 1)), (oA 7 (.mv (.t 32))), (oA 8 (.mv (.t 33)))] []) (.seq (.reg [(oA 34 (.mv (.t 8))), (oA 35 (.bin .eql 0 (.t 34) (.k (.v (.c (.p (.int .i64 0))))))), (oA 36 (.mv (.t 35))), ⟨(some 37), (.mv (.t 7)), (some (36, true))⟩, ⟨(some 38), (.mv (.t 5)), (some (36, true))⟩, ⟨(some 39), (.mv (.t 6)), (some (36, true))⟩, ⟨(some 40), (.iaddr 1 (.t 38) (.t 39)), (some (36, true))⟩, ⟨(some 41), (.load false 1 (.t 40)), (some (36, true))⟩, ⟨(some 42), (.bin .eql 0 (.t 37) (.t 41)), (some (36, true))⟩, (oA 43 (.pick (.t 36) (.t 42) (.k (.v (.c (.p (.bool false))))))), (oA 2 (.mv (.t 43)))] []) .ret)))))))) }
theorem t6 : compF Tryz.prog (globs2 tabs opq) (fun _ => false) true Tryz.f6 = some c6.erase := by kernel_rfl
noncomputable def b6_0 (O : Oracle) (R : Jump) (q : Nat) (x0 : TVal) (h : Heap) : Res1 :=
 vcall O (.v (.c (.func 18 []))) [] h 9 fun x9 h =>
 vop O (.un .not (.k x9)) h 10 fun x10 h =>
 vif x10 (
 tcomp (kB false) fun c0 => vfin true q [c0] h)
 (vop O (.build [(.p (.int .i64 0)), (.p (.bool false)), (.p (.int .i64 0)), (.p (.str [])), (.p .nilslice), (.p .nilslice)] [(0, 1, (.k (kI 2))), (2, 1, (.k (kI 1)))]) h 11 fun x11 h =>
 vop O (.build [(.p (.int .i64 0)), (.p (.bool false)), (.p (.int .i64 0)), (.p (.str [])), (.p .nilslice), (.p .nilslice)] [(0, 1, (.k (kI 2))), (2, 1, (.k (kI 2)))]) h 12 fun x12 h =>
 vop O (.build [(.p (.int .i64 0)), (.p (.bool false)), (.p (.int .i64 0)), (.p (.str [])), (.p .nilslice), (.p .nilslice)] [(0, 1, (.k (kI 2))), (2, 1, (.k (kI 3)))]) h 13 fun x13 h =>
 vop O (.bslice 6 3 [(.p (.int .i64 0)), (.p (.bool false)), (.p (.int .i64 0)), (.p (.str [])), (.p .nilslice), (.p .nilslice)] [(0, (.k x11)), (1, (.k x12)), (2, (.k x13))] false) h 14 fun x14 h =>
 vop O (.build [(.p (.str [])), (.p .nilslice), (.p (.int .i64 0))] [(0, 1, (.k (kS [102]))), (1, 1, (.k x14)), (2, 1, (.k (kI (-1))))]) h 15 fun x15 h =>
 vop O (.build [(.p (.int .i64 0)), (.p (.bool false)), (.p (.int .i64 0)), (.p (.str [])), (.p .nilslice), (.p .nilslice)] [(0, 1, (.k (kI 1))), (1, 1, (.k (kB true)))]) h 16 fun x16 h =>
 vop O (.build [(.p (.int .i64 0)), (.p (.bool false)), (.p (.int .i64 0)), (.p (.str [])), (.p .nilslice), (.p .nilslice)] [(0, 1, (.k (kI 1)))]) h 17 fun x17 h =>
 vop O (.bslice 6 2 [(.p (.int .i64 0)), (.p (.bool false)), (.p (.int .i64 0)), (.p (.str [])), (.p .nilslice), (.p .nilslice)] [(0, (.k x16)), (1, (.k x17))] false) h 18 fun x18 h =>
 vop O (.build [(.p (.str [])), (.p .nilslice), (.p (.int .i64 0))] [(0, 1, (.k (kS [103]))), (1, 1, (.k x18)), (2, 1, (.k (kI (-1))))]) h 19 fun x19 h =>
 vop O (.bslice 3 2 [(.p (.str [])), (.p .nilslice), (.p (.int .i64 0))] [(0, (.k x15)), (1, (.k x19))] false) h 20 fun x20 h =>
 vop O (.bslice 1 10 [(.p (.str []))] [(0, (.k (kS [123, 123, 115, 117, 98, 32, 40, 102, 41, 32, 40, 102, 41, 125, 125]))), (1, (.k (kS [123, 123, 115, 117, 98, 32, 40, 97, 100, 100, 32, 40, 102, 41, 32, 49, 48, 41, 32, 40, 102, 41, 125, 125]))), (2, (.k (kS [123, 123, 102, 32, 124, 32, 115, 117, 98, 32, 40, 102, 41, 125, 125]))), (3, (.k (kS [123, 123, 105, 102, 32, 103, 125, 125, 97, 123, 123, 101, 110, 100, 125, 125, 123, 123, 105, 102, 32, 103, 125, 125, 98, 123, 123, 101, 110, 100, 125, 125, 123, 123, 102, 125, 125]))), (4, (.k (kS [123, 123, 97, 110, 100, 32, 40, 103, 41, 32, 40, 103, 41, 125, 125, 123, 123, 111, 114, 32, 40, 103, 41, 32, 40, 103, 41, 125, 125]))), (5, (.k (kS [123, 123, 114, 97, 110, 103, 101, 32, 46, 125, 125, 123, 123, 102, 125, 125, 123, 123, 101, 110, 100, 125, 125]))), (6, (.k (kS [123, 123, 119, 105, 116, 104, 32, 102, 125, 125, 123, 123, 46, 125, 125, 123, 123, 46, 125, 125, 123, 123, 102, 125, 125, 123, 123, 101, 110, 100, 125, 125]))), (7, (.k (kS [123, 123, 116, 101, 109, 112, 108, 97, 116, 101, 32, 34, 116, 34, 32, 102, 125, 125, 123, 123, 102, 125, 125, 123, 123, 100, 101, 102, 105, 110, 101, 32, 34, 116, 34, 125, 125, 123, 123, 46, 125, 125, 123, 123, 102, 125, 125, 123, 123, 46, 125, 125, 123, 123, 101, 110, 100, 125, 125]))), (8, (.k (kS [123, 123, 36, 120, 32, 58, 61, 32, 102, 125, 125, 123, 123, 36, 120, 125, 125, 123, 123, 102, 125, 125, 123, 123, 36, 120, 125, 125]))), (9, (.k (kS [123, 123, 102, 32, 57, 32, 57, 32, 57, 125, 125, 123, 123, 102, 125, 125])))] false) h 21 fun x21 h =>
 vop O (.bslice 1 10 [(.p (.str []))] [(0, (.k (kS [45, 49]))), (1, (.k (kS [57]))), (2, (.k (kS [49]))), (3, (.k (kS [97, 49]))), (4, (.k (kS [102, 97, 108, 115, 101, 116, 114, 117, 101]))), (5, (.k (kS [49, 50]))), (6, (.k (kS [49, 49, 50]))), (7, (.k (kS [49, 50, 49, 51]))), (8, (.k (kS [49, 50, 49]))), (9, (.k (kS [49, 50])))] false) h 22 fun x22 h =>
 vcall O (.v (.c (.func 23 []))) [x0, (kI 10)] h 24 fun x24 h =>
 viaddr 1 x21 x24 h fun x28 h =>
 vload false 1 x28 h fun x29 h =>
 vcall O (.v (.c (.func 24 []))) [x29, (kS [91, 55, 44, 56, 93]), x20] h 31 fun x31 h =>
 vext x31 0 h fun x32 h =>
 vext x31 1 h fun x33 h =>
 vbin .eql 0 x33 (kI 0) h fun x35 h =>
 vguard x35 true (fun kk => kk x32 h) h fun x37 h =>
 vguard x35 true (fun kk => kk x22 h) h fun x38 h =>
 vguard x35 true (fun kk => kk x24 h) h fun x39 h =>
 vguard x35 true (fun kk => viaddr 1 x38 x39 h kk) h fun x40 h =>
 vguard x35 true (fun kk => vload false 1 x40 h kk) h fun x41 h =>
 vguard x35 true (fun kk => vbin .eql 0 x37 x41 h kk) h fun x42 h =>
 vop O (.pick (.k x35) (.k x42) (.k (kB false))) h 43 fun x43 h =>
 tcomp x43 fun c0 => vfin true q [c0] h)
theorem e6_0 (O : Oracle) (R : Jump) (q : Nat) (x0 : TVal) (h : Heap) : b6_0 O R q x0 h = stepF c6 O R q 0 [x0] h := by kernel_rfl
noncomputable def d6 : BlkF := fun O R q => [.s fun y0 => .z fun h => b6_0 O R q y0 h]
theorem o6 (O : Oracle) (R : Jump) (q : Nat) : HoldsAll c6 O R q 0 (d6 O R q) := ⟨fun y0 h => e6_0 O R q y0 h, trivial⟩
/- sprue/spruelaw16.known -/
def c18 : MFunc := { np := 0, res := [.t 0], frz := true, body := (.seq (.reg [(oA 0 (.mv (.k (.v (.c (.p (.bool false)))))))] []) (.seq (.reg [(oA 8 (.call (.k (.v (.c (.func 20 [])))) [(.k (.v (.c (.p (.str [97, 123, 123, 46, 125, 125])))))])), (oA 7 (.mv (.t 8))), (oA 9 (.extract (.t 7) 0)), (oA 10 (.extract (.t 7) 1)), (oA 11 (.extract (.t 7) 2)), (oA 1 (.mv (.t 9))), (oA 2 (.mv (.t 10))), (oA 3 (.mv (.t 11)))] []) (.seq (.reg [(oA 13 (.mv (.t 1))), (oA 14 (.build [(.p (.int .i64 0)), (.p (.bool false)), (.p (.int .i64 0)), (.p (.str [])), (.p .nilslice), (.p .nilslice)] [(0, 1, (.k (.v (.c (.p (.int .i64 2)))))), (2, 1, (.k (.v (.c (.p (.int .i64 5))))))])), (oA 15 (.call (.k (.v (.c (.func 22 [])))) [(.k (.v (.c (.p .nilslice))))])), (oA 16 (.build [(.p (.int .i64 0)), (.p (.int .i64 0)), (.p (.int .i64 0))] [(0, 1, (.k (.v (.c (.p (.int .i64 9)))))), (1, 1, (.k (.v (.c (.p (.int .i64 1)))))), (2, 1, (.k (.v (.c (.p (.int .i64 (-1)))))))])), (oA 17 (.call (.k (.v (.c (.func 21 [])))) [(.t 13), (.t 14), (.t 15), (.t 16)])), (oA 12 (.mv (.t 17))), (oA 18 (.extract (.t 12) 0)), (oA 19 (.extract (.t 12) 1)), (oA 20 (.extract (.t 12) 2)), (oA 4 (.mv (.t 18))), (oA 5 (.mv (.t 19))), (oA 6 (.mv (.t 20)))] []) (.seq (.reg [(oA 21 (.mv (.t 3))), (oA 22 (.bin .eql 0 (.t 21) (.k (.v (.c (.p (.int .i64 0))))))), (oA 23 (.mv (.t 22))), ⟨(some 24), (.mv (.t 6)), (some (23, true))⟩, ⟨(some 25), (.bin .eql 0 (.t 24) (.k (.v (.c (.p (.int .i64 0)))))), (some (23, true))⟩, (oA 26 (.pick (.t 23) (.t 25) (.k (.v (.c (.p (.bool false))))))), (oA 27 (.mv (.t 26))), ⟨(some 28), (.mv (.t 4)), (some (27, true))⟩, ⟨(some 29), (.toStr (.t 28)), (some (27, true))⟩, ⟨(some 30), (.bin .eql 0 (.t 29) (.k (.v (.c (.p (.str [97, 53])))))), (some (27, true))⟩, (oA 31 (.pick (.t 27) (.t 30) (.k (.v (.c (.p (.bool false))))))), (oA 32 (.mv (.t 31))), ⟨(some 33), (.mv (.t 5)), (some (32, true))⟩, ⟨(some 34), (.bin .eql 0 (.t 33) (.k (.v (.c (.p (.int .i64 3)))))), (some (32, true))⟩, (oA 35 (.pick (.t 32) (.t 34) (.k (.v (.c (.p (.bool false))))))), (oA 0 (.mv (.t 35)))] []) .ret)))) }
theorem t18 : compF Tryz.prog (globs2 tabs opq) (fun _ => false) true Tryz.f18 = some c18.erase := by kernel_rfl
noncomputable def b18_0 (O : Oracle) (R : Jump) (q : Nat) (h : Heap) : Res1 :=
 vcall O (.v (.c (.func 20 []))) [(kS [97, 123, 123, 46, 125, 125])] h 8 fun x8 h =>
 vext x8 0 h fun x9 h =>
 vext x8 1 h fun x10 h =>
 vext x8 2 h fun x11 h =>
 vop O (.build [(.p (.int .i64 0)), (.p (.bool false)), (.p (.int .i64 0)), (.p (.str [])), (.p .nilslice), (.p .nilslice)] [(0, 1, (.k (kI 2))), (2, 1, (.k (kI 5)))]) h 14 fun x14 h =>
 vcall O (.v (.c (.func 22 []))) [(.v (.c (.p .nilslice)))] h 15 fun x15 h =>
 vop O (.build [(.p (.int .i64 0)), (.p (.int .i64 0)), (.p (.int .i64 0))] [(0, 1, (.k (kI 9))), (1, 1, (.k (kI 1))), (2, 1, (.k (kI (-1))))]) h 16 fun x16 h =>
 vcall O (.v (.c (.func 21 []))) [x9, x14, x15, x16] h 17 fun x17 h =>
 vext x17 0 h fun x18 h =>
 vext x17 1 h fun x19 h =>
 vext x17 2 h fun x20 h =>
 vbin .eql 0 x11 (kI 0) h fun x22 h =>
 vguard x22 true (fun kk => kk x20 h) h fun x24 h =>
 vguard x22 true (fun kk => vbin .eql 0 x24 (kI 0) h kk) h fun x25 h =>
 vop O (.pick (.k x22) (.k x25) (.k (kB false))) h 26 fun x26 h =>
 vguard x26 true (fun kk => kk x18 h) h fun x28 h =>
 vguard x26 true (fun kk => vop O (.toStr (.k x28)) h 29 kk) h fun x29 h =>
 vguard x26 true (fun kk => vbin .eql 0 x29 (kS [97, 53]) h kk) h fun x30 h =>
 vop O (.pick (.k x26) (.k x30) (.k (kB false))) h 31 fun x31 h =>
 vguard x31 true (fun kk => kk x19 h) h fun x33 h =>
 vguard x31 true (fun kk => vbin .eql 0 x33 (kI 3) h kk) h fun x34 h =>
 vop O (.pick (.k x31) (.k x34) (.k (kB false))) h 35 fun x35 h =>
 tcomp x35 fun c0 => vfin true q [c0] h
theorem e18_0 (O : Oracle) (R : Jump) (q : Nat) (h : Heap) : b18_0 O R q  h = stepF c18 O R q 0 [] h := by kernel_rfl
noncomputable def d18 : BlkF := fun O R q => [.z fun h => b18_0 O R q  h]
theorem o18 (O : Oracle) (R : Jump) (q : Nat) : HoldsAll c18 O R q 0 (d18 O R q) := ⟨fun  h => e18_0 O R q  h, trivial⟩
/- sprue/sprueref7.Parse -/
def c20 : MFunc := { np := 1, res := [.t 2, .t 3, .t 4], frz := true, body := (.seq (.reg [(oA 2 (.mv (.k (.v (.c (.p .nilslice)))))), (oA 3 (.mv (.k (.v (.c (.p (.int .i64 0))))))), (oA 4 (.mv (.k (.v (.c (.p (.int .i64 0)))))))] []) (.seq (.reg [(oA 11 (.mv (.t 0))), (oA 12 (.call (.k (.v (.c (.func 64 [])))) [(.t 11)])), (oA 10 (.mv (.t 12))), (oA 13 (.extract (.t 10) 0)), (oA 14 (.extract (.t 10) 1)), (oA 5 (.mv (.t 13))), (oA 6 (.mv (.t 14)))] []) (.seq (.seq (.reg [(oA 15 (.mv (.t 6))), (oA 16 (.bin .neq 0 (.t 15) (.k (.v (.c (.p (.int .i64 0)))))))] []) (.cond (.t 16) (.seq (.reg [(oA 17 (.mv (.t 6))), (oA 2 (.mv (.k (.v (.c (.p .nilslice)))))), (oA 3 (.mv (.k (.v (.c (.p (.int .i64 0))))))), (oA 4 (.mv (.t 17)))] []) .ret) .skip)) (.seq (.reg [(oA 18 (.build [(.p .nilslice), (.p .nilslice), (.p .nilslice), (.p (.int .i64 0))] [])), (oA 19 (.box (.t 18) false)), (oA 7 (.mv (.t 19)))] []) (.seq (.seq (.reg [(oA 8 (.mv (.k (.v (.c (.p (.int .i64 0)))))))] []) (.block 0 (.loop 1 [0, 5, 7, 8] (.seq (.seq (.reg [(oA 20 (.mv (.t 8))), (oA 21 (.mv (.t 5))), (oA 22 (.len 2 (.t 21))), (oA 23 (.bin .lss 0 (.t 20) (.t 22)))] []) (.cond (.t 23) .skip (.exit 0))) (.seq (.block 1 (.seq (.reg [(oA 9 (.mv (.k (.v (.c (.p (.int .i64 0)))))))] []) (.seq (.seq (.reg [(oA 26 (.mv (.t 5))), (oA 27 (.mv (.t 8))), (oA 28 (.iaddr 3 (.t 26) (.t 27))), (oA 29 (.faddr 0 (.t 28))), (oA 30 (.load false 1 (.t 29)))] []) (.cond (.t 30) (.reg [(oA 31 (.mv (.t 7))), (oA 32 (.mv (.t 5))), (oA 33 (.mv (.t 8))), (oA 34 (.iaddr 3 (.t 32) (.t 33))), (oA 35 (.load true 3 (.t 34))), (oA 36 (.call (.k (.v (.c (.func 65 [])))) [(.t 31), (.t 35)])), (oA 9 (.mv (.t 36)))] []) (.reg [(oA 37 (.mv (.t 7))), (oA 38 (.mv (.t 5))), (oA 39 (.mv (.t 8))), (oA 40 (.iaddr 3 (.t 38) (.t 39))), (oA 41 (.load true 3 (.t 40))), (oA 42 (.call (.k (.v (.c (.func 66 [])))) [(.t 37), (.t 41)])), (oA 9 (.mv (.t 42)))] []))) (.mark 2 [0, 5, 7, 8, 9] (.seq (.reg [(oA 43 (.mv (.t 9))), (oA 44 (.bin .neq 0 (.t 43) (.k (.v (.c (.p (.int .i64 0)))))))] []) (.cond (.t 44) (.seq (.reg [(oA 45 (.mv (.t 5))), (oA 46 (.mv (.t 8))), (oA 47 (.iaddr 3 (.t 45) (.t 46))), (oA 48 (.faddr 2 (.t 47))), (oA 49 (.load false 1 (.t 48))), (oA 50 (.mv (.t 9))), (oA 2 (.mv (.k (.v (.c (.p .nilslice)))))), (oA 3 (.mv (.t 49))), (oA 4 (.mv (.t 50)))] []) .ret) .skip)))))) (.reg [(oA 24 (.mv (.t 8))), (oA 25 (.bin .add 0 (.t 24) (.k (.v (.c (.p (.int .i64 1))))))), (oA 8 (.mv (.t 25)))] [])))))) (.mark 3 [0, 7] (.seq (.seq (.reg [(oA 51 (.mv (.t 7))), (oA 52 (.nilck (.t 51))), (oA 53 (.faddr 0 (.t 52))), (oA 54 (.load false 1 (.t 53))), (oA 55 (.len 2 (.t 54))), (oA 56 (.bin .gtr 0 (.t 55) (.k (.v (.c (.p (.int .i64 0)))))))] []) (.cond (.t 56) (.seq (.reg [(oA 57 (.mv (.t 0))), (oA 58 (.len 0 (.t 57))), (oA 2 (.mv (.k (.v (.c (.p .nilslice)))))), (oA 3 (.mv (.t 58))), (oA 4 (.mv (.k (.v (.c (.p (.int .i64 12)))))))] []) .ret) .skip)) (.seq (.reg [(oA 59 (.mv (.t 7))), (oA 60 (.nilck (.t 59))), (oA 61 (.faddr 1 (.t 60))), (oA 62 (.load false 1 (.t 61))), (oA 63 (.build [(.p (.str [])), (.p .nilslice)] [(1, 1, (.t 62))])), (oA 64 (.bslice 2 1 [(.p (.str [])), (.p .nilslice)] [(0, (.t 63))] false)), (oA 65 (.mv (.t 7))), (oA 66 (.nilck (.t 65))), (oA 67 (.faddr 2 (.t 66))), (oA 68 (.load false 1 (.t 67))), (oA 69 (.append 2 40 false (.t 64) (.t 68))), (oA 2 (.mv (.t 69))), (oA 3 (.mv (.k (.v (.c (.p (.int .i64 0))))))), (oA 4 (.mv (.k (.v (.c (.p (.int .i64 0)))))))] [(5, 9)]) .ret)))))))) }
theorem t20 : compF Tryz.prog (globs2 tabs opq) (fun _ => false) true Tryz.f20 = some c20.erase := by kernel_rfl
noncomputable def b20_0 (O : Oracle) (R : Jump) (q : Nat) (x0 : TVal) (h : Heap) : Res1 :=
 vcall O (.v (.c (.func 64 []))) [x0] h 12 fun x12 h =>
 vext x12 0 h fun x13 h =>
 vext x12 1 h fun x14 h =>
 vbin .neq 0 x14 (kI 0) h fun x16 h =>
 vif x16 (
 tcomp (.v (.c (.p .nilslice))) fun c0 => tcomp (kI 0) fun c1 => tcomp x14 fun c2 => vfin true q [c0, c1, c2] h)
 (vop O (.build [(.p .nilslice), (.p .nilslice), (.p .nilslice), (.p (.int .i64 0))] []) h 18 fun x18 h =>
 vop O (.box (.k x18) false) h 19 fun x19 h =>
 R 1 [x0, x13, x19, (kI 0)] h)
theorem e20_0 (O : Oracle) (R : Jump) (q : Nat) (x0 : TVal) (h : Heap) : b20_0 O R q x0 h = stepF c20 O R q 0 [x0] h := by kernel_rfl
noncomputable def b20_1 (O : Oracle) (R : Jump) (q : Nat) (x0 x5 x7 x8 : TVal) (h : Heap) : Res1 :=
 vlen O 2 x5 h 22 fun x22 h =>
 vbin .lss 0 x8 x22 h fun x23 h =>
 vif x23 (
 viaddr 3 x5 x8 h fun x28 h =>
 vfaddr 0 x28 h fun x29 h =>
 vload false 1 x29 h fun x30 h =>
 vif x30 (
 viaddr 3 x5 x8 h fun x34 h =>
 vload true 3 x34 h fun x35 h =>
 vcall O (.v (.c (.func 65 []))) [x7, x35] h 36 fun x36 h =>
 R 2 [x0, x5, x7, x8, x36] h)
 (viaddr 3 x5 x8 h fun x40 h =>
 vload true 3 x40 h fun x41 h =>
 vcall O (.v (.c (.func 66 []))) [x7, x41] h 42 fun x42 h =>
 R 2 [x0, x5, x7, x8, x42] h))
 (R 3 [x0, x7] h)
theorem e20_1 (O : Oracle) (R : Jump) (q : Nat) (x0 x5 x7 x8 : TVal) (h : Heap) : b20_1 O R q x0 x5 x7 x8 h = stepF c20 O R q 1 [x0, x5, x7, x8] h := by kernel_rfl
noncomputable def b20_2 (O : Oracle) (R : Jump) (q : Nat) (x0 x5 x7 x8 x9 : TVal) (h : Heap) : Res1 :=
 vbin .neq 0 x9 (kI 0) h fun x44 h =>
 vif x44 (
 viaddr 3 x5 x8 h fun x47 h =>
 vfaddr 2 x47 h fun x48 h =>
 vload false 1 x48 h fun x49 h =>
 tcomp (.v (.c (.p .nilslice))) fun c0 => tcomp x49 fun c1 => tcomp x9 fun c2 => vfin true q [c0, c1, c2] h)
 (vbin .add 0 x8 (kI 1) h fun x25 h =>
 R 1 [x0, x5, x7, x25] h)
theorem e20_2 (O : Oracle) (R : Jump) (q : Nat) (x0 x5 x7 x8 x9 : TVal) (h : Heap) : b20_2 O R q x0 x5 x7 x8 x9 h = stepF c20 O R q 2 [x0, x5, x7, x8, x9] h := by kernel_rfl
noncomputable def b20_3 (O : Oracle) (R : Jump) (q : Nat) (x0 x7 : TVal) (h : Heap) : Res1 :=
 vop O (.nilck (.k x7)) h 52 fun x52 h =>
 vfaddr 0 x52 h fun x53 h =>
 vload false 1 x53 h fun x54 h =>
 vlen O 2 x54 h 55 fun x55 h =>
 vbin .gtr 0 x55 (kI 0) h fun x56 h =>
 vif x56 (
 vlen O 0 x0 h 58 fun x58 h =>
 tcomp (.v (.c (.p .nilslice))) fun c0 => tcomp x58 fun c1 => tcomp (kI 12) fun c2 => vfin true q [c0, c1, c2] h)
 (vtouch O (.mv (.k x7)) h 59 fun x59 h t0 =>
 vtouch O (.nilck (.k x59)) h 60 fun x60 h t1 =>
 vtouch O (.faddr 1 (.k x60)) h 61 fun x61 h t2 =>
 vtouch O (.load false 1 (.k x61)) h 62 fun x62 h t3 =>
 vtouch O (.build [(.p (.str [])), (.p .nilslice)] [(1, 1, (.k x62))]) h 63 fun x63 h t4 =>
 vtouch O (.bslice 2 1 [(.p (.str [])), (.p .nilslice)] [(0, (.k x63))] false) h 64 fun x64 h t5 =>
 vtouch O (.mv (.k x7)) h 65 fun x65 h t6 =>
 vtouch O (.nilck (.k x65)) h 66 fun x66 h t7 =>
 vtouch O (.faddr 2 (.k x66)) h 67 fun x67 h t8 =>
 vtouch O (.load false 1 (.k x67)) h 68 fun x68 h t9 =>
 vtouch O (.append 2 40 false (.k x64) (.k x68)) h 69 fun x69 h t10 =>
 vtouch O (.mv (.k x69)) h 2 fun x2 h t11 =>
 vtouch O (.mv (.k (kI 0))) h 3 fun x3 h t12 =>
 vtouch O (.mv (.k (kI 0))) h 4 fun x4 h t13 =>
 bif apartAll [t0, t1, t2, t3, t4, t5, t6, t7, t8, t9, t10, t11, t12, t13] [(5, 9)] then
 tcomp x2 fun c0 => tcomp x3 fun c1 => tcomp x4 fun c2 => vfin true q [c0, c1, c2] h
 else none)
theorem e20_3 (O : Oracle) (R : Jump) (q : Nat) (x0 x7 : TVal) (h : Heap) : b20_3 O R q x0 x7 h = stepF c20 O R q 3 [x0, x7] h := by kernel_rfl
noncomputable def d20 : BlkF := fun O R q => [.s fun y0 => .z fun h => b20_0 O R q y0 h, .s fun y0 => .s fun y1 => .s fun y2 => .s fun y3 => .z fun h => b20_1 O R q y0 y1 y2 y3 h, .s fun y0 => .s fun y1 => .s fun y2 => .s fun y3 => .s fun y4 => .z fun h => b20_2 O R q y0 y1 y2 y3 y4 h, .s fun y0 => .s fun y1 => .z fun h => b20_3 O R q y0 y1 h]
theorem o20 (O : Oracle) (R : Jump) (q : Nat) : HoldsAll c20 O R q 0 (d20 O R q) := ⟨fun y0 h => e20_0 O R q y0 h, fun y0 y1 y2 y3 h => e20_1 O R q y0 y1 y2 y3 h, fun y0 y1 y2 y3 y4 h => e20_2 O R q y0 y1 y2 y3 y4 h, fun y0 y1 h => e20_3 O R q y0 y1 h, trivial⟩
/- sprue/interp.Run -/
def c21 : MFunc := { np := 4, res := [.t 8, .t 9, .t 10], frz := true, body := (.seq (.reg [(oA 5 (.box (.t 1) false)), (oA 7 (.box (.t 3) false)), (oA 8 (.mv (.k (.v (.c (.p .nilslice)))))), (oA 9 (.mv (.k (.v (.c (.p (.int .i64 0))))))), (oA 10 (.mv (.k (.v (.c (.p (.int .i64 0)))))))] []) (.seq (.reg [(oA 12 (.faddr 0 (.t 7))), (oA 13 (.load false 1 (.t 12))), (oA 14 (.call (.k (.v (.c (.func 67 [])))) [(.t 13), (.k (.v (.c (.p (.int .i64 5000)))))])), (oA 15 (.faddr 1 (.t 7))), (oA 16 (.load false 1 (.t 15))), (oA 17 (.call (.k (.v (.c (.func 67 [])))) [(.t 16), (.k (.v (.c (.p (.int .i64 12)))))])), (oA 18 (.faddr 2 (.t 7))), (oA 19 (.load false 1 (.t 18))), (oA 20 (.build [(.p (.int .i64 0)), (.p (.int .i64 0)), (.p (.int .i64 0))] [(0, 1, (.t 14)), (1, 1, (.t 17)), (2, 1, (.t 19))])), (oA 21 (.mv (.t 0))), (oA 22 (.mv (.t 2))), (oA 23 (.build [(.p (.int .i64 0)), (.p (.int .i64 0)), (.p (.int .i64 0)), (.p .nilslice), (.p .nilptr), (.p .nilslice), (.p (.int .i64 0))] [(0, 3, (.t 20)), (3, 1, (.t 21)), (4, 1, (.t 22))])), (oA 24 (.box (.t 23) false)), (oA 11 (.mv (.t 24)))] [(2, 4), (2, 7), (5, 7)]) (.seq (.seq (.reg [(oA 25 (.faddr 2 (.t 7))), (oA 26 (.load false 1 (.t 25))), (oA 27 (.bin .lss 0 (.t 26) (.k (.v (.c (.p (.int .i64 0))))))), (oA 28 (.mv (.t 27))), ⟨(some 29), (.faddr 2 (.t 7)), (some (28, false))⟩, ⟨(some 30), (.load false 1 (.t 29)), (some (28, false))⟩, ⟨(some 31), (.bin .gtr 0 (.t 30) (.k (.v (.c (.p (.int .i64 65536)))))), (some (28, false))⟩, (oA 32 (.pick (.t 28) (.k (.v (.c (.p (.bool true))))) (.t 31)))] []) (.cond (.t 32) (.reg [(oA 33 (.mv (.t 11))), (oA 34 (.nilck (.t 33))), (oA 35 (.faddr 0 (.t 34))), (oA 36 (.faddr 2 (.t 35))), (oN (.store 1 (.t 36) (.k (.v (.c (.p (.int .i64 65536)))))))] []) .skip)) (.mark 1 [0, 5, 10, 11] (.seq (.seq (.reg [(oA 37 (.mv (.t 0))), (oA 38 (.len 2 (.t 37))), (oA 39 (.bin .gtr 0 (.t 38) (.k (.v (.c (.p (.int .i64 0)))))))] []) (.cond (.t 39) (.reg [(oA 40 (.mv (.t 11))), (oA 41 (.load true 6 (.t 5))), (oA 42 (.call (.k (.v (.c (.func 69 [])))) [(.t 41)])), (oA 43 (.build [(.p (.int .i64 0)), (.p (.bool false)), (.p (.int .i64 0)), (.p (.str [])), (.p .nilslice), (.p .nilslice), (.p .nilslice), (.p (.int .i64 0))] [(0, 6, (.t 42))])), (oA 44 (.mv (.t 0))), (oA 45 (.iaddr 2 (.t 44) (.k (.v (.c (.p (.int .i64 0))))))), (oA 46 (.faddr 1 (.t 45))), (oA 47 (.load false 1 (.t 46))), (oA 48 (.call (.k (.v (.c (.func 68 [])))) [(.t 40), (.t 43), (.t 47)])), (oA 10 (.mv (.t 48)))] [(2, 7)]) .skip)) (.mark 2 [10, 11] (.seq (.reg [(oA 49 (.mv (.t 11))), (oA 50 (.nilck (.t 49))), (oA 51 (.faddr 5 (.t 50))), (oA 52 (.load false 1 (.t 51))), (oA 53 (.mv (.t 11))), (oA 54 (.nilck (.t 53))), (oA 55 (.faddr 6 (.t 54))), (oA 56 (.load false 1 (.t 55))), (oA 57 (.mv (.t 10))), (oA 8 (.mv (.t 52))), (oA 9 (.mv (.t 56))), (oA 10 (.mv (.t 57)))] []) .ret))))))) }
theorem t21 : compF Tryz.prog (globs2 tabs opq) (fun _ => false) true Tryz.f21 = some c21.erase := by kernel_rfl
noncomputable def b21_0 (O : Oracle) (R : Jump) (q : Nat) (x0 x1 x2 x3 : TVal) (h : Heap) : Res1 :=
 vop O (.box (.k x1) false) h 5 fun x5 h =>
 vop O (.box (.k x3) false) h 7 fun x7 h =>
 vtouch O (.faddr 0 (.k x7)) h 12 fun x12 h t0 =>
 vtouch O (.load false 1 (.k x12)) h 13 fun x13 h t1 =>
 vtouch O (.call (.k (.v (.c (.func 67 [])))) [(.k x13), (.k (kI 5000))]) h 14 fun x14 h t2 =>
 vtouch O (.faddr 1 (.k x7)) h 15 fun x15 h t3 =>
 vtouch O (.load false 1 (.k x15)) h 16 fun x16 h t4 =>
 vtouch O (.call (.k (.v (.c (.func 67 [])))) [(.k x16), (.k (kI 12))]) h 17 fun x17 h t5 =>
 vtouch O (.faddr 2 (.k x7)) h 18 fun x18 h t6 =>
 vtouch O (.load false 1 (.k x18)) h 19 fun x19 h t7 =>
 vtouch O (.build [(.p (.int .i64 0)), (.p (.int .i64 0)), (.p (.int .i64 0))] [(0, 1, (.k x14)), (1, 1, (.k x17)), (2, 1, (.k x19))]) h 20 fun x20 h t8 =>
 vtouch O (.mv (.k x0)) h 21 fun x21 h t9 =>
 vtouch O (.mv (.k x2)) h 22 fun x22 h t10 =>
 vtouch O (.build [(.p (.int .i64 0)), (.p (.int .i64 0)), (.p (.int .i64 0)), (.p .nilslice), (.p .nilptr), (.p .nilslice), (.p (.int .i64 0))] [(0, 3, (.k x20)), (3, 1, (.k x21)), (4, 1, (.k x22))]) h 23 fun x23 h t11 =>
 vtouch O (.box (.k x23) false) h 24 fun x24 h t12 =>
 vtouch O (.mv (.k x24)) h 11 fun x11 h t13 =>
 bif apartAll [t0, t1, t2, t3, t4, t5, t6, t7, t8, t9, t10, t11, t12, t13] [(2, 4), (2, 7), (5, 7)] then
 vfaddr 2 x7 h fun x25 h =>
 vload false 1 x25 h fun x26 h =>
 vbin .lss 0 x26 (kI 0) h fun x27 h =>
 vguard x27 false (fun kk => vfaddr 2 x7 h kk) h fun x29 h =>
 vguard x27 false (fun kk => vload false 1 x29 h kk) h fun x30 h =>
 vguard x27 false (fun kk => vbin .gtr 0 x30 (kI 65536) h kk) h fun x31 h =>
 vop O (.pick (.k x27) (.k (kB true)) (.k x31)) h 32 fun x32 h =>
 vif x32 (
 vop O (.nilck (.k x11)) h 34 fun x34 h =>
 vfaddr 0 x34 h fun x35 h =>
 vfaddr 2 x35 h fun x36 h =>
 vstore 1 x36 (kI 65536) h fun _ h =>
 R 1 [x0, x5, (kI 0), x11] h)
 (R 1 [x0, x5, (kI 0), x11] h)
 else none
theorem e21_0 (O : Oracle) (R : Jump) (q : Nat) (x0 x1 x2 x3 : TVal) (h : Heap) : b21_0 O R q x0 x1 x2 x3 h = stepF c21 O R q 0 [x0, x1, x2, x3] h := by kernel_rfl
noncomputable def b21_1 (O : Oracle) (R : Jump) (q : Nat) (x0 x5 x10 x11 : TVal) (h : Heap) : Res1 :=
 vlen O 2 x0 h 38 fun x38 h =>
 vbin .gtr 0 x38 (kI 0) h fun x39 h =>
 vif x39 (
 vtouch O (.mv (.k x11)) h 40 fun x40 h t0 =>
 vtouch O (.load true 6 (.k x5)) h 41 fun x41 h t1 =>
 vtouch O (.call (.k (.v (.c (.func 69 [])))) [(.k x41)]) h 42 fun x42 h t2 =>
 vtouch O (.build [(.p (.int .i64 0)), (.p (.bool false)), (.p (.int .i64 0)), (.p (.str [])), (.p .nilslice), (.p .nilslice), (.p .nilslice), (.p (.int .i64 0))] [(0, 6, (.k x42))]) h 43 fun x43 h t3 =>
 vtouch O (.mv (.k x0)) h 44 fun x44 h t4 =>
 vtouch O (.iaddr 2 (.k x44) (.k (kI 0))) h 45 fun x45 h t5 =>
 vtouch O (.faddr 1 (.k x45)) h 46 fun x46 h t6 =>
 vtouch O (.load false 1 (.k x46)) h 47 fun x47 h t7 =>
 vtouch O (.call (.k (.v (.c (.func 68 [])))) [(.k x40), (.k x43), (.k x47)]) h 48 fun x48 h t8 =>
 vtouch O (.mv (.k x48)) h 10 fun x10_1 h t9 =>
 bif apartAll [t0, t1, t2, t3, t4, t5, t6, t7, t8, t9] [(2, 7)] then
 R 2 [x10_1, x11] h
 else none)
 (R 2 [x10, x11] h)
theorem e21_1 (O : Oracle) (R : Jump) (q : Nat) (x0 x5 x10 x11 : TVal) (h : Heap) : b21_1 O R q x0 x5 x10 x11 h = stepF c21 O R q 1 [x0, x5, x10, x11] h := by kernel_rfl
noncomputable def b21_2 (O : Oracle) (R : Jump) (q : Nat) (x10 x11 : TVal) (h : Heap) : Res1 :=
 vop O (.nilck (.k x11)) h 50 fun x50 h =>
 vfaddr 5 x50 h fun x51 h =>
 vload false 1 x51 h fun x52 h =>
 vop O (.nilck (.k x11)) h 54 fun x54 h =>
 vfaddr 6 x54 h fun x55 h =>
 vload false 1 x55 h fun x56 h =>
 tcomp x52 fun c0 => tcomp x56 fun c1 => tcomp x10 fun c2 => vfin true q [c0, c1, c2] h
theorem e21_2 (O : Oracle) (R : Jump) (q : Nat) (x10 x11 : TVal) (h : Heap) : b21_2 O R q x10 x11 h = stepF c21 O R q 2 [x10, x11] h := by kernel_rfl
noncomputable def d21 : BlkF := fun O R q => [.s fun y0 => .s fun y1 => .s fun y2 => .s fun y3 => .z fun h => b21_0 O R q y0 y1 y2 y3 h, .s fun y0 => .s fun y1 => .s fun y2 => .s fun y3 => .z fun h => b21_1 O R q y0 y1 y2 y3 h, .s fun y0 => .s fun y1 => .z fun h => b21_2 O R q y0 y1 h]
theorem o21 (O : Oracle) (R : Jump) (q : Nat) : HoldsAll c21 O R q 0 (d21 O R q) := ⟨fun y0 y1 y2 y3 h => e21_0 O R q y0 y1 y2 y3 h, fun y0 y1 y2 y3 h => e21_1 O R q y0 y1 y2 y3 h, fun y0 y1 h => e21_2 O R q y0 y1 h, trivial⟩
/- sprue/calls.New -/
def c22 : MFunc := { np := 1, res := [.t 2], frz := false, body := (.seq (.reg [(oA 2 (.mv (.k (.v (.c (.p .nilptr))))))] []) (.seq (.reg [(oA 10 .mkmap), (oA 11 .mkmap), (oA 12 (.build [(.p .nilmap), (.p .nilmap)] [(0, 1, (.t 10)), (1, 1, (.t 11))])), (oA 13 (.box (.t 12) false)), (oA 3 (.mv (.t 13)))] []) (.seq (.seq (.reg [(oA 14 (.mv (.t 0))), (oA 15 (.len 2 (.t 14))), (oA 16 (.mv (.k (.v (.c (.p (.int .i64 0)))))))] []) (.block 0 (.loop 1 [3, 14, 15, 16] (.seq (.reg [(oA 17 (.bin .lss 0 (.t 16) (.t 15)))] []) (.seq (.cond (.t 17) .skip (.exit 0)) (.seq (.block 1 (.seq (.reg [(oA 18 (.iaddr 3 (.t 14) (.t 16))), (oA 19 (.load true 3 (.t 18))), (oA 5 (.alloc [(.p (.str [])), (.p .nilslice), (.p (.int .i64 0))] false)), (oN (.store 3 (.t 5) (.t 19)))] []) (.seq (.seq (.reg [(oA 21 (.mv (.t 3))), (oA 22 (.nilck (.t 21))), (oA 23 (.faddr 0 (.t 22))), (oA 24 (.load false 1 (.t 23))), (oA 25 (.faddr 0 (.t 5))), (oA 26 (.load false 1 (.t 25))), (oA 27 (.lookup 2 (.agg [(.p (.str [])), (.p .nilslice), (.p (.int .i64 0))]) (.t 24) (.t 26) true)), (oA 20 (.mv (.t 27))), (oA 28 (.extract (.t 20) 0)), (oA 29 (.extract (.t 20) 1)), (oA 6 (.alloc [(.p (.str [])), (.p .nilslice), (.p (.int .i64 0))] false)), (oN (.store 3 (.t 6) (.t 28))), (oA 7 (.mv (.t 29)))] [(3, 10), (5, 10), (6, 10)]) (.seq (.reg [(oA 30 (.mv (.t 7)))] []) (.cond (.t 30) (.exit 1) .skip))) (.seq (.reg [(oA 31 (.faddr 1 (.t 5))), (oA 32 (.load false 1 (.t 31))), (oA 33 (.call (.k (.v (.c (.func 70 [])))) [(.t 32)])), (oA 34 (.faddr 1 (.t 5))), (oN (.store 1 (.t 34) (.t 33)))] []) (.seq (.seq (.reg [(oA 35 (.faddr 1 (.t 5))), (oA 36 (.load false 1 (.t 35))), (oA 37 (.len 2 (.t 36))), (oA 38 (.mv (.k (.v (.c (.p (.int .i64 0)))))))] []) (.block 2 (.loop 2 [3, 5, 14, 15, 16, 36, 37, 38] (.seq (.reg [(oA 39 (.bin .lss 0 (.t 38) (.t 37)))] []) (.seq (.cond (.t 39) .skip (.exit 2)) (.seq (.block 3 (.seq (.reg [(oA 40 (.mv (.t 38))), (oA 41 (.iaddr 6 (.t 36) (.t 38))), (oA 42 (.load true 6 (.t 41))), (oA 9 (.alloc [(.p (.int .i64 0)), (.p (.bool false)), (.p (.int .i64 0)), (.p (.str [])), (.p .nilslice), (.p .nilslice)] false)), (oA 8 (.mv (.t 40))), (oN (.store 6 (.t 9) (.t 42)))] []) (.reg [(oA 43 (.faddr 1 (.t 5))), (oA 44 (.load false 1 (.t 43))), (oA 45 (.mv (.t 8))), (oA 46 (.load true 6 (.t 9))), (oA 47 (.call (.k (.v (.c (.func 71 [])))) [(.t 46)])), (oA 48 (.iaddr 6 (.t 44) (.t 45))), (oN (.store 6 (.t 48) (.t 47)))] [(1, 4)]))) (.reg [(oA 49 (.bin .add 0 (.t 38) (.k (.v (.c (.p (.int .i64 1))))))), (oA 38 (.mv (.t 49)))] []))))))) (.mark 3 [3, 5, 14, 15, 16] (.reg [(oA 50 (.mv (.t 3))), (oA 51 (.nilck (.t 50))), (oA 52 (.faddr 0 (.t 51))), (oA 53 (.load false 1 (.t 52))), (oA 54 (.faddr 0 (.t 5))), (oA 55 (.load false 1 (.t 54))), (oA 56 (.load true 3 (.t 5))), (oN (.mapup 2 (.t 53) (.t 55) (.t 56)))] []))))))) (.mark 4 [3, 14, 15, 16] (.reg [(oA 57 (.bin .add 0 (.t 16) (.k (.v (.c (.p (.int .i64 1))))))), (oA 16 (.mv (.t 57)))] [])))))))) (.seq (.reg [(oA 58 (.mv (.t 3))), (oA 2 (.mv (.t 58)))] []) .ret)))) }
theorem t22 : compF Tryz.prog (globs2 tabs opq) (fun _ => false) false Tryz.f22 = some c22.erase := by kernel_rfl
noncomputable def b22_0 (O : Oracle) (R : Jump) (q : Nat) (x0 : TVal) (h : Heap) : Res1 :=
 vop O .mkmap h 10 fun x10 h =>
 vop O .mkmap h 11 fun x11 h =>
 vop O (.build [(.p .nilmap), (.p .nilmap)] [(0, 1, (.k x10)), (1, 1, (.k x11))]) h 12 fun x12 h =>
 vop O (.box (.k x12) false) h 13 fun x13 h =>
 vlen O 2 x0 h 15 fun x15 h =>
 R 1 [x13, x0, x15, (kI 0)] h
theorem e22_0 (O : Oracle) (R : Jump) (q : Nat) (x0 : TVal) (h : Heap) : b22_0 O R q x0 h = stepF c22 O R q 0 [x0] h := by kernel_rfl
noncomputable def b22_1 (O : Oracle) (R : Jump) (q : Nat) (x3 x14 x15 x16 : TVal) (h : Heap) : Res1 :=
 vbin .lss 0 x16 x15 h fun x17 h =>
 vif x17 (
 viaddr 3 x14 x16 h fun x18 h =>
 vload true 3 x18 h fun x19 h =>
 vop O (.alloc [(.p (.str [])), (.p .nilslice), (.p (.int .i64 0))] false) h 5 fun x5 h =>
 vstore 3 x5 x19 h fun _ h =>
 vtouch O (.mv (.k x3)) h 21 fun x21 h t0 =>
 vtouch O (.nilck (.k x21)) h 22 fun x22 h t1 =>
 vtouch O (.faddr 0 (.k x22)) h 23 fun x23 h t2 =>
 vtouch O (.load false 1 (.k x23)) h 24 fun x24 h t3 =>
 vtouch O (.faddr 0 (.k x5)) h 25 fun x25 h t4 =>
 vtouch O (.load false 1 (.k x25)) h 26 fun x26 h t5 =>
 vtouch O (.lookup 2 (.agg [(.p (.str [])), (.p .nilslice), (.p (.int .i64 0))]) (.k x24) (.k x26) true) h 27 fun x27 h t6 =>
 vtouch O (.mv (.k x27)) h 20 fun x20 h t7 =>
 vtouch O (.extract (.k x20) 0) h 28 fun x28 h t8 =>
 vtouch O (.extract (.k x20) 1) h 29 fun x29 h t9 =>
 vtouch O (.alloc [(.p (.str [])), (.p .nilslice), (.p (.int .i64 0))] false) h 6 fun x6 h t10 =>
 vtouch O (.store 3 (.k x6) (.k x28)) h 1000000 fun _ h t11 =>
 vtouch O (.mv (.k x29)) h 7 fun x7 h t12 =>
 bif apartAll [t0, t1, t2, t3, t4, t5, t6, t7, t8, t9, t10, t11, t12] [(3, 10), (5, 10), (6, 10)] then
 vif x7 (
 R 4 [x3, x14, x15, x16] h)
 (vfaddr 1 x5 h fun x31 h =>
 vload false 1 x31 h fun x32 h =>
 vcall O (.v (.c (.func 70 []))) [x32] h 33 fun x33 h =>
 vfaddr 1 x5 h fun x34 h =>
 vstore 1 x34 x33 h fun _ h =>
 vfaddr 1 x5 h fun x35 h =>
 vload false 1 x35 h fun x36 h =>
 vlen O 2 x36 h 37 fun x37 h =>
 R 2 [x3, x5, x14, x15, x16, x36, x37, (kI 0)] h)
 else none)
 (tcomp x3 fun c0 => vfin false q [c0] h)
theorem e22_1 (O : Oracle) (R : Jump) (q : Nat) (x3 x14 x15 x16 : TVal) (h : Heap) : b22_1 O R q x3 x14 x15 x16 h = stepF c22 O R q 1 [x3, x14, x15, x16] h := by kernel_rfl
noncomputable def b22_2 (O : Oracle) (R : Jump) (q : Nat) (x3 x5 x14 x15 x16 x36 x37 x38 : TVal) (h : Heap) : Res1 :=
 vbin .lss 0 x38 x37 h fun x39 h =>
 vif x39 (
 viaddr 6 x36 x38 h fun x41 h =>
 vload true 6 x41 h fun x42 h =>
 vop O (.alloc [(.p (.int .i64 0)), (.p (.bool false)), (.p (.int .i64 0)), (.p (.str [])), (.p .nilslice), (.p .nilslice)] false) h 9 fun x9 h =>
 vstore 6 x9 x42 h fun _ h =>
 vtouch O (.faddr 1 (.k x5)) h 43 fun x43 h t0 =>
 vtouch O (.load false 1 (.k x43)) h 44 fun x44 h t1 =>
 vtouch O (.mv (.k x38)) h 45 fun x45 h t2 =>
 vtouch O (.load true 6 (.k x9)) h 46 fun x46 h t3 =>
 vtouch O (.call (.k (.v (.c (.func 71 [])))) [(.k x46)]) h 47 fun x47 h t4 =>
 vtouch O (.iaddr 6 (.k x44) (.k x45)) h 48 fun x48 h t5 =>
 vtouch O (.store 6 (.k x48) (.k x47)) h 1000000 fun _ h t6 =>
 bif apartAll [t0, t1, t2, t3, t4, t5, t6] [(1, 4)] then
 vbin .add 0 x38 (kI 1) h fun x49 h =>
 R 2 [x3, x5, x14, x15, x16, x36, x37, x49] h
 else none)
 (R 3 [x3, x5, x14, x15, x16] h)
theorem e22_2 (O : Oracle) (R : Jump) (q : Nat) (x3 x5 x14 x15 x16 x36 x37 x38 : TVal) (h : Heap) : b22_2 O R q x3 x5 x14 x15 x16 x36 x37 x38 h = stepF c22 O R q 2 [x3, x5, x14, x15, x16, x36, x37, x38] h := by kernel_rfl
noncomputable def b22_3 (O : Oracle) (R : Jump) (q : Nat) (x3 x5 x14 x15 x16 : TVal) (h : Heap) : Res1 :=
 vop O (.nilck (.k x3)) h 51 fun x51 h =>
 vfaddr 0 x51 h fun x52 h =>
 vload false 1 x52 h fun x53 h =>
 vfaddr 0 x5 h fun x54 h =>
 vload false 1 x54 h fun x55 h =>
 vload true 3 x5 h fun x56 h =>
 vop O (.mapup 2 (.k x53) (.k x55) (.k x56)) h 1000000 fun _ h =>
 R 4 [x3, x14, x15, x16] h
theorem e22_3 (O : Oracle) (R : Jump) (q : Nat) (x3 x5 x14 x15 x16 : TVal) (h : Heap) : b22_3 O R q x3 x5 x14 x15 x16 h = stepF c22 O R q 3 [x3, x5, x14, x15, x16] h := by kernel_rfl
noncomputable def b22_4 (O : Oracle) (R : Jump) (q : Nat) (x3 x14 x15 x16 : TVal) (h : Heap) : Res1 :=
 vbin .add 0 x16 (kI 1) h fun x57 h =>
 R 1 [x3, x14, x15, x57] h
theorem e22_4 (O : Oracle) (R : Jump) (q : Nat) (x3 x14 x15 x16 : TVal) (h : Heap) : b22_4 O R q x3 x14 x15 x16 h = stepF c22 O R q 4 [x3, x14, x15, x16] h := by kernel_rfl
noncomputable def d22 : BlkF := fun O R q => [.s fun y0 => .z fun h => b22_0 O R q y0 h, .s fun y0 => .s fun y1 => .s fun y2 => .s fun y3 => .z fun h => b22_1 O R q y0 y1 y2 y3 h, .s fun y0 => .s fun y1 => .s fun y2 => .s fun y3 => .s fun y4 => .s fun y5 => .s fun y6 => .s fun y7 => .z fun h => b22_2 O R q y0 y1 y2 y3 y4 y5 y6 y7 h, .s fun y0 => .s fun y1 => .s fun y2 => .s fun y3 => .s fun y4 => .z fun h => b22_3 O R q y0 y1 y2 y3 y4 h, .s fun y0 => .s fun y1 => .s fun y2 => .s fun y3 => .z fun h => b22_4 O R q y0 y1 y2 y3 h]
theorem o22 (O : Oracle) (R : Jump) (q : Nat) : HoldsAll c22 O R q 0 (d22 O R q) := ⟨fun y0 h => e22_0 O R q y0 h, fun y0 y1 y2 y3 h => e22_1 O R q y0 y1 y2 y3 h, fun y0 y1 y2 y3 y4 y5 y6 y7 h => e22_2 O R q y0 y1 y2 y3 y4 y5 y6 y7 h, fun y0 y1 y2 y3 y4 h => e22_3 O R q y0 y1 y2 y3 y4 h, fun y0 y1 y2 y3 h => e22_4 O R q y0 y1 y2 y3 h, trivial⟩
/- sprue/spruelaw16.within -/
def c23 : MFunc := { np := 2, res := [.t 4], frz := true, body := (.seq (.reg [(oA 4 (.mv (.k (.v (.c (.p (.int .i64 0)))))))] []) (.seq (.reg [(oA 6 (.mv (.t 0))), (oA 7 (.mv (.t 1))), (oA 8 (.bin .rem 0 (.t 6) (.t 7))), (oA 5 (.mv (.t 8)))] []) (.seq (.seq (.reg [(oA 9 (.mv (.t 5))), (oA 10 (.bin .lss 0 (.t 9) (.k (.v (.c (.p (.int .i64 0)))))))] []) (.cond (.t 10) (.reg [(oA 11 (.mv (.t 5))), (oA 12 (.mv (.t 1))), (oA 13 (.bin .add 0 (.t 11) (.t 12))), (oA 5 (.mv (.t 13)))] []) .skip)) (.seq (.reg [(oA 14 (.mv (.t 5))), (oA 4 (.mv (.t 14)))] []) .ret)))) }
theorem t23 : compF Tryz.prog (globs2 tabs opq) (fun _ => false) true Tryz.f23 = some c23.erase := by kernel_rfl
noncomputable def b23_0 (O : Oracle) (R : Jump) (q : Nat) (x0 x1 : TVal) (h : Heap) : Res1 :=
 vbin .rem 0 x0 x1 h fun x8 h =>
 vbin .lss 0 x8 (kI 0) h fun x10 h =>
 vif x10 (
 vbin .add 0 x8 x1 h fun x13 h =>
 tcomp x13 fun c0 => vfin true q [c0] h)
 (tcomp x8 fun c0 => vfin true q [c0] h)
theorem e23_0 (O : Oracle) (R : Jump) (q : Nat) (x0 x1 : TVal) (h : Heap) : b23_0 O R q x0 x1 h = stepF c23 O R q 0 [x0, x1] h := by kernel_rfl
noncomputable def d23 : BlkF := fun O R q => [.s fun y0 => .s fun y1 => .z fun h => b23_0 O R q y0 y1 h]
theorem o23 (O : Oracle) (R : Jump) (q : Nat) : HoldsAll c23 O R q 0 (d23 O R q) := ⟨fun y0 y1 h => e23_0 O R q y0 y1 h, trivial⟩
/- sprue/spruelaw16.run -/
def c24 : MFunc := { np := 3, res := [.t 6, .t 7], frz := true, body := (.seq (.reg [(oA 6 (.mv (.k (.v (.c (.p (.str []))))))), (oA 7 (.mv (.k (.v (.c (.p (.int .i64 0)))))))] []) (.seq (.reg [(oA 17 (.mv (.t 0))), (oA 18 (.call (.k (.v (.c (.func 20 [])))) [(.t 17)])), (oA 16 (.mv (.t 18))), (oA 19 (.extract (.t 16) 0)), (oA 20 (.extract (.t 16) 1)), (oA 21 (.extract (.t 16) 2)), (oA 8 (.mv (.t 19))), (oA 9 (.mv (.t 20))), (oA 10 (.mv (.t 21)))] []) (.seq (.reg [(oA 23 (.mv (.t 1))), (oA 24 (.call (.k (.v (.c (.func 72 [])))) [(.t 23)])), (oA 22 (.mv (.t 24))), (oA 25 (.extract (.t 22) 0)), (oA 26 (.extract (.t 22) 1)), (oA 11 (.alloc [(.p (.int .i64 0)), (.p (.bool false)), (.p (.int .i64 0)), (.p (.str [])), (.p .nilslice), (.p .nilslice)] false)), (oN (.store 6 (.t 11) (.t 25))), (oA 12 (.mv (.t 26)))] []) (.seq (.seq (.reg [(oA 27 (.mv (.t 10))), (oA 28 (.bin .neq 0 (.t 27) (.k (.v (.c (.p (.int .i64 0))))))), (oA 29 (.mv (.t 28))), ⟨(some 30), (.mv (.t 12)), (some (29, false))⟩, ⟨(some 31), (.bin .neq 0 (.t 30) (.k (.v (.c (.p (.int .i64 0)))))), (some (29, false))⟩, (oA 32 (.pick (.t 29) (.k (.v (.c (.p (.bool true))))) (.t 31)))] []) (.cond (.t 32) (.seq (.reg [(oA 6 (.mv (.k (.v (.c (.p (.str [33]))))))), (oA 7 (.mv (.k (.v (.c (.p (.int .i64 1)))))))] []) .ret) .skip)) (.seq (.reg [(oA 34 (.mv (.t 8))), (oA 35 (.load true 6 (.t 11))), (oA 36 (.mv (.t 2))), (oA 37 (.call (.k (.v (.c (.func 22 [])))) [(.t 36)])), (oA 38 (.build [(.p (.int .i64 0)), (.p (.int .i64 0)), (.p (.int .i64 0))] [(0, 1, (.k (.v (.c (.p (.int .i64 5000)))))), (1, 1, (.k (.v (.c (.p (.int .i64 12)))))), (2, 1, (.k (.v (.c (.p (.int .i64 (-1)))))))])), (oA 39 (.call (.k (.v (.c (.func 21 [])))) [(.t 34), (.t 35), (.t 37), (.t 38)])), (oA 33 (.mv (.t 39))), (oA 40 (.extract (.t 33) 0)), (oA 41 (.extract (.t 33) 1)), (oA 42 (.extract (.t 33) 2)), (oA 13 (.mv (.t 40))), (oA 14 (.mv (.t 41))), (oA 15 (.mv (.t 42)))] [(1, 3)]) (.seq (.reg [(oA 43 (.mv (.t 13))), (oA 44 (.toStr (.t 43))), (oA 45 (.mv (.t 15))), (oA 6 (.mv (.t 44))), (oA 7 (.mv (.t 45)))] []) .ret)))))) }
theorem t24 : compF Tryz.prog (globs2 tabs opq) (fun _ => false) true Tryz.f24 = some c24.erase := by kernel_rfl
noncomputable def b24_0 (O : Oracle) (R : Jump) (q : Nat) (x0 x1 x2 : TVal) (h : Heap) : Res1 :=
 vcall O (.v (.c (.func 20 []))) [x0] h 18 fun x18 h =>
 vext x18 0 h fun x19 h =>
 vext x18 1 h fun x20 h =>
 vext x18 2 h fun x21 h =>
 vcall O (.v (.c (.func 72 []))) [x1] h 24 fun x24 h =>
 vext x24 0 h fun x25 h =>
 vext x24 1 h fun x26 h =>
 vop O (.alloc [(.p (.int .i64 0)), (.p (.bool false)), (.p (.int .i64 0)), (.p (.str [])), (.p .nilslice), (.p .nilslice)] false) h 11 fun x11 h =>
 vstore 6 x11 x25 h fun _ h =>
 vbin .neq 0 x21 (kI 0) h fun x28 h =>
 vguard x28 false (fun kk => kk x26 h) h fun x30 h =>
 vguard x28 false (fun kk => vbin .neq 0 x30 (kI 0) h kk) h fun x31 h =>
 vop O (.pick (.k x28) (.k (kB true)) (.k x31)) h 32 fun x32 h =>
 vif x32 (
 tcomp (kS [33]) fun c0 => tcomp (kI 1) fun c1 => vfin true q [c0, c1] h)
 (vtouch O (.mv (.k x19)) h 34 fun x34 h t0 =>
 vtouch O (.load true 6 (.k x11)) h 35 fun x35 h t1 =>
 vtouch O (.mv (.k x2)) h 36 fun x36 h t2 =>
 vtouch O (.call (.k (.v (.c (.func 22 [])))) [(.k x36)]) h 37 fun x37 h t3 =>
 vtouch O (.build [(.p (.int .i64 0)), (.p (.int .i64 0)), (.p (.int .i64 0))] [(0, 1, (.k (kI 5000))), (1, 1, (.k (kI 12))), (2, 1, (.k (kI (-1))))]) h 38 fun x38 h t4 =>
 vtouch O (.call (.k (.v (.c (.func 21 [])))) [(.k x34), (.k x35), (.k x37), (.k x38)]) h 39 fun x39 h t5 =>
 vtouch O (.mv (.k x39)) h 33 fun x33 h t6 =>
 vtouch O (.extract (.k x33) 0) h 40 fun x40 h t7 =>
 vtouch O (.extract (.k x33) 1) h 41 fun x41 h t8 =>
 vtouch O (.extract (.k x33) 2) h 42 fun x42 h t9 =>
 vtouch O (.mv (.k x40)) h 13 fun x13 h t10 =>
 vtouch O (.mv (.k x41)) h 14 fun x14 h t11 =>
 vtouch O (.mv (.k x42)) h 15 fun x15 h t12 =>
 bif apartAll [t0, t1, t2, t3, t4, t5, t6, t7, t8, t9, t10, t11, t12] [(1, 3)] then
 vop O (.toStr (.k x13)) h 44 fun x44 h =>
 tcomp x44 fun c0 => tcomp x15 fun c1 => vfin true q [c0, c1] h
 else none)
theorem e24_0 (O : Oracle) (R : Jump) (q : Nat) (x0 x1 x2 : TVal) (h : Heap) : b24_0 O R q x0 x1 x2 h = stepF c24 O R q 0 [x0, x1, x2] h := by kernel_rfl
noncomputable def d24 : BlkF := fun O R q => [.s fun y0 => .s fun y1 => .s fun y2 => .z fun h => b24_0 O R q y0 y1 y2 h]
theorem o24 (O : Oracle) (R : Jump) (q : Nat) : HoldsAll c24 O R q 0 (d24 O R q) := ⟨fun y0 y1 y2 h => e24_0 O R q y0 y1 y2 h, trivial⟩
/- sprue/sprueref13.Check -/
def c32 : MFunc := { np := 1, res := [.t 2], frz := true, body := (.seq (.reg [(oA 1 (.box (.t 0) false)), (oA 2 (.mv (.k (.v (.c (.p (.int .i64 0)))))))] []) (.seq (.reg [(oA 4 (.build [(.p (.int .i64 0))] [])), (oA 5 (.box (.t 4) false)), (oA 3 (.mv (.t 5)))] []) (.seq (.reg [(oA 6 (.mv (.t 3))), (oA 7 (.load true 6 (.t 1))), (oA 8 (.call (.k (.v (.c (.func 80 [])))) [(.t 6), (.t 7), (.k (.v (.c (.p (.int .i64 1)))))])), (oA 2 (.mv (.t 8)))] []) .ret))) }
theorem t32 : compF Tryz.prog (globs2 tabs opq) (fun _ => false) true Tryz.f32 = some c32.erase := by kernel_rfl
noncomputable def b32_0 (O : Oracle) (R : Jump) (q : Nat) (x0 : TVal) (h : Heap) : Res1 :=
 vop O (.box (.k x0) false) h 1 fun x1 h =>
 vop O (.build [(.p (.int .i64 0))] []) h 4 fun x4 h =>
 vop O (.box (.k x4) false) h 5 fun x5 h =>
 vload true 6 x1 h fun x7 h =>
 vcall O (.v (.c (.func 80 []))) [x5, x7, (kI 1)] h 8 fun x8 h =>
 tcomp x8 fun c0 => vfin true q [c0] h
theorem e32_0 (O : Oracle) (R : Jump) (q : Nat) (x0 : TVal) (h : Heap) : b32_0 O R q x0 h = stepF c32 O R q 0 [x0] h := by kernel_rfl
noncomputable def d32 : BlkF := fun O R q => [.s fun y0 => .z fun h => b32_0 O R q y0 h]
theorem o32 (O : Oracle) (R : Jump) (q : Nat) : HoldsAll c32 O R q 0 (d32 O R q) := ⟨fun y0 h => e32_0 O R q y0 h, trivial⟩
/- sprue/calls.Eval -/
def c34 : MFunc := { np := 2, res := [.cell 4 true 6, .t 5], frz := true, body := (.seq (.reg [(oA 4 (.alloc [(.p (.int .i64 0)), (.p (.bool false)), (.p (.int .i64 0)), (.p (.str [])), (.p .nilslice), (.p .nilslice)] false)), (oA 5 (.mv (.k (.v (.c (.p (.int .i64 0)))))))] []) (.seq (.block 0 (.seq (.reg [(oA 9 (.mv (.t 0))), (oA 10 (.call (.k (.v (.c (.func 86 [])))) [(.t 9)])), (oA 11 (.un .not (.t 10))), (oA 8 (.mv (.t 11)))] []) (.cond (.t 8) (.seq (.reg [(oA 12 (.build [(.p (.int .i64 0)), (.p (.bool false)), (.p (.int .i64 0)), (.p (.str [])), (.p .nilslice), (.p .nilslice)] [])), (oN (.store 6 (.t 4) (.t 12))), (oA 5 (.mv (.k (.v (.c (.p (.int .i64 15)))))))] []) .ret) (.seq (.reg [(oA 14 (.mv (.t 1))), (oA 15 (.len 2 (.t 14))), (oA 16 (.mv (.t 0))), (oA 17 (.call (.k (.v (.c (.func 87 [])))) [(.t 16)])), (oA 18 (.bin .neq 0 (.t 15) (.t 17))), (oA 13 (.mv (.t 18)))] []) (.cond (.t 13) (.seq (.reg [(oA 19 (.build [(.p (.int .i64 0)), (.p (.bool false)), (.p (.int .i64 0)), (.p (.str [])), (.p .nilslice), (.p .nilslice)] [])), (oN (.store 6 (.t 4) (.t 19))), (oA 5 (.mv (.k (.v (.c (.p (.int .i64 18)))))))] []) .ret) .skip))))) (.seq (.seq (.reg [(oA 20 (.mv (.t 0)))] []) (.block 1 (.seq (.reg [(oA 22 (.bin .eql 0 (.t 20) (.k (.v (.c (.p (.str [108, 101, 110]))))))), (oA 21 (.mv (.t 22)))] []) (.cond (.t 21) (.seq (.reg [(oA 23 (.mv (.t 1))), (oA 24 (.iaddr 6 (.t 23) (.k (.v (.c (.p (.int .i64 0))))))), (oA 25 (.load true 6 (.t 24))), (oA 26 (.call (.k (.v (.c (.func 88 [])))) [(.t 25)])), (oA 27 (.extract (.t 26) 0)), (oA 28 (.extract (.t 26) 1)), (oN (.store 6 (.t 4) (.t 27))), (oA 5 (.mv (.t 28)))] []) .ret) (.seq (.seq (.reg [(oA 30 (.bin .eql 0 (.t 20) (.k (.v (.c (.p (.str [110, 111, 116]))))))), (oA 29 (.mv (.t 30)))] []) (.cond (.t 29) .skip (.seq (.reg [(oA 31 (.bin .eql 0 (.t 20) (.k (.v (.c (.p (.str [97, 110, 100]))))))), (oA 29 (.mv (.t 31)))] []) (.cond (.t 29) .skip (.reg [(oA 32 (.bin .eql 0 (.t 20) (.k (.v (.c (.p (.str [111, 114]))))))), (oA 29 (.mv (.t 32)))] []))))) (.mark 1 [0, 1, 4, 20, 29] (.cond (.t 29) (.seq (.reg [(oA 33 (.mv (.t 0))), (oA 34 (.mv (.t 1))), (oA 35 (.call (.k (.v (.c (.func 89 [])))) [(.t 33), (.t 34)])), (oA 36 (.extract (.t 35) 0)), (oA 37 (.extract (.t 35) 1)), (oN (.store 6 (.t 4) (.t 36))), (oA 5 (.mv (.t 37)))] []) .ret) (.seq (.reg [(oA 39 (.bin .eql 0 (.t 20) (.k (.v (.c (.p (.str [101, 113]))))))), (oA 38 (.mv (.t 39)))] []) (.cond (.t 38) (.seq (.reg [(oA 40 (.mv (.t 1))), (oA 41 (.call (.k (.v (.c (.func 90 [])))) [(.t 40)])), (oA 42 (.extract (.t 41) 0)), (oA 43 (.extract (.t 41) 1)), (oN (.store 6 (.t 4) (.t 42))), (oA 5 (.mv (.t 43)))] []) .ret) (.seq (.reg [(oA 45 (.bin .eql 0 (.t 20) (.k (.v (.c (.p (.str [99, 97, 116]))))))), (oA 44 (.mv (.t 45)))] []) (.cond (.t 44) (.seq (.reg [(oA 46 (.mv (.t 1))), (oA 47 (.call (.k (.v (.c (.func 91 [])))) [(.t 46)])), (oA 48 (.extract (.t 47) 0)), (oA 49 (.extract (.t 47) 1)), (oN (.store 6 (.t 4) (.t 48))), (oA 5 (.mv (.t 49)))] []) .ret) (.seq (.reg [(oA 51 (.bin .eql 0 (.t 20) (.k (.v (.c (.p (.str [116, 101, 120, 116]))))))), (oA 50 (.mv (.t 51)))] []) (.cond (.t 50) (.seq (.reg [(oA 52 (.mv (.t 1))), (oA 53 (.iaddr 6 (.t 52) (.k (.v (.c (.p (.int .i64 0))))))), (oA 54 (.load true 6 (.t 53))), (oA 55 (.call (.k (.v (.c (.func 92 [])))) [(.t 54)])), (oA 56 (.extract (.t 55) 0)), (oA 57 (.extract (.t 55) 1)), (oN (.store 6 (.t 4) (.t 56))), (oA 5 (.mv (.t 57)))] []) .ret) (.seq (.reg [(oA 59 (.bin .eql 0 (.t 20) (.k (.v (.c (.p (.str [97, 116]))))))), (oA 58 (.mv (.t 59)))] []) (.cond (.t 58) (.seq (.reg [(oA 60 (.mv (.t 1))), (oA 61 (.call (.k (.v (.c (.func 93 [])))) [(.t 60)])), (oA 62 (.extract (.t 61) 0)), (oA 63 (.extract (.t 61) 1)), (oN (.store 6 (.t 4) (.t 62))), (oA 5 (.mv (.t 63)))] []) .ret) (.seq (.reg [(oA 65 (.bin .eql 0 (.t 20) (.k (.v (.c (.p (.str [103, 101, 116]))))))), (oA 64 (.mv (.t 65)))] []) (.cond (.t 64) (.seq (.seq (.reg [(oA 66 (.mv (.t 1))), (oA 67 (.bslice 1 2 [(.p (.int .i64 0))] [(0, (.k (.v (.c (.p (.int .i64 5)))))), (1, (.k (.v (.c (.p (.int .i64 3))))))] false)), (oA 68 (.call (.k (.v (.c (.func 94 [])))) [(.t 66), (.t 67)])), (oA 69 (.un .not (.t 68)))] []) (.cond (.t 69) (.seq (.reg [(oA 70 (.build [(.p (.int .i64 0)), (.p (.bool false)), (.p (.int .i64 0)), (.p (.str [])), (.p .nilslice), (.p .nilslice)] [])), (oN (.store 6 (.t 4) (.t 70))), (oA 5 (.mv (.k (.v (.c (.p (.int .i64 17)))))))] []) .ret) .skip)) (.seq (.reg [(oA 72 (.mv (.t 1))), (oA 73 (.iaddr 6 (.t 72) (.k (.v (.c (.p (.int .i64 0))))))), (oA 74 (.load true 6 (.t 73))), (oA 75 (.mv (.t 1))), (oA 76 (.iaddr 6 (.t 75) (.k (.v (.c (.p (.int .i64 1))))))), (oA 77 (.faddr 3 (.t 76))), (oA 78 (.load false 1 (.t 77))), (oA 79 (.call (.k (.v (.c (.func 95 [])))) [(.t 74), (.t 78)])), (oA 71 (.mv (.t 79))), (oA 80 (.extract (.t 71) 0)), (oA 81 (.extract (.t 71) 1)), (oA 6 (.alloc [(.p (.int .i64 0)), (.p (.bool false)), (.p (.int .i64 0)), (.p (.str [])), (.p .nilslice), (.p .nilslice)] false)), (oN (.store 6 (.t 6) (.t 80))), (oA 7 (.mv (.t 81)))] [(2, 11), (6, 11), (7, 11)]) (.seq (.reg [(oA 82 (.load true 6 (.t 6))), (oN (.store 6 (.t 4) (.t 82))), (oA 5 (.mv (.k (.v (.c (.p (.int .i64 0)))))))] []) .ret))) (.seq (.reg [(oA 84 (.bin .eql 0 (.t 20) (.k (.v (.c (.p (.str [104, 97, 115]))))))), (oA 83 (.mv (.t 84)))] []) (.cond (.t 83) (.seq (.reg [(oA 85 (.mv (.t 1))), (oA 86 (.iaddr 6 (.t 85) (.k (.v (.c (.p (.int .i64 0))))))), (oA 87 (.faddr 0 (.t 86))), (oA 88 (.load false 1 (.t 87))), (oA 89 (.bin .neq 0 (.t 88) (.k (.v (.c (.p (.int .i64 0))))))), (oA 90 (.call (.k (.v (.c (.func 96 [])))) [(.t 89)])), (oN (.store 6 (.t 4) (.t 90))), (oA 5 (.mv (.k (.v (.c (.p (.int .i64 0)))))))] []) .ret) (.seq (.reg [(oA 92 (.bin .eql 0 (.t 20) (.k (.v (.c (.p (.str [111, 114, 101, 108, 115, 101]))))))), (oA 91 (.mv (.t 92)))] []) (.cond (.t 91) (.seq (.seq (.reg [(oA 93 (.mv (.t 1))), (oA 94 (.iaddr 6 (.t 93) (.k (.v (.c (.p (.int .i64 0))))))), (oA 95 (.faddr 0 (.t 94))), (oA 96 (.load false 1 (.t 95))), (oA 97 (.bin .neq 0 (.t 96) (.k (.v (.c (.p (.int .i64 0)))))))] []) (.cond (.t 97) (.seq (.reg [(oA 98 (.mv (.t 1))), (oA 99 (.iaddr 6 (.t 98) (.k (.v (.c (.p (.int .i64 0))))))), (oA 100 (.load true 6 (.t 99))), (oA 101 (.call (.k (.v (.c (.func 71 [])))) [(.t 100)])), (oN (.store 6 (.t 4) (.t 101))), (oA 5 (.mv (.k (.v (.c (.p (.int .i64 0)))))))] []) .ret) .skip)) (.seq (.reg [(oA 102 (.mv (.t 1))), (oA 103 (.iaddr 6 (.t 102) (.k (.v (.c (.p (.int .i64 1))))))), (oA 104 (.load true 6 (.t 103))), (oA 105 (.call (.k (.v (.c (.func 71 [])))) [(.t 104)])), (oN (.store 6 (.t 4) (.t 105))), (oA 5 (.mv (.k (.v (.c (.p (.int .i64 0)))))))] []) .ret)) .skip))))))))))))))))))))) (.seq (.reg [(oA 106 (.mv (.t 0))), (oA 107 (.mv (.t 1))), (oA 108 (.call (.k (.v (.c (.func 97 [])))) [(.t 106), (.t 107)])), (oA 109 (.extract (.t 108) 0)), (oA 110 (.extract (.t 108) 1)), (oN (.store 6 (.t 4) (.t 109))), (oA 5 (.mv (.t 110)))] []) .ret)))) }
theorem t34 : compF Tryz.prog (globs2 tabs opq) (fun _ => false) true Tryz.f34 = some c34.erase := by kernel_rfl
noncomputable def b34_0 (O : Oracle) (R : Jump) (q : Nat) (x0 x1 : TVal) (h : Heap) : Res1 :=
 vop O (.alloc [(.p (.int .i64 0)), (.p (.bool false)), (.p (.int .i64 0)), (.p (.str [])), (.p .nilslice), (.p .nilslice)] false) h 4 fun x4 h =>
 vcall O (.v (.c (.func 86 []))) [x0] h 10 fun x10 h =>
 vop O (.un .not (.k x10)) h 11 fun x11 h =>
 vif x11 (
 vop O (.build [(.p (.int .i64 0)), (.p (.bool false)), (.p (.int .i64 0)), (.p (.str [])), (.p .nilslice), (.p .nilslice)] []) h 12 fun x12 h =>
 vstore 6 x4 x12 h fun _ h =>
 vcell true 6 x4 h fun c0 => tcomp (kI 15) fun c1 => vfin true q [c0, c1] h)
 (vlen O 2 x1 h 15 fun x15 h =>
 vcall O (.v (.c (.func 87 []))) [x0] h 17 fun x17 h =>
 vbin .neq 0 x15 x17 h fun x18 h =>
 vif x18 (
 vop O (.build [(.p (.int .i64 0)), (.p (.bool false)), (.p (.int .i64 0)), (.p (.str [])), (.p .nilslice), (.p .nilslice)] []) h 19 fun x19 h =>
 vstore 6 x4 x19 h fun _ h =>
 vcell true 6 x4 h fun c0 => tcomp (kI 18) fun c1 => vfin true q [c0, c1] h)
 (vbin .eql 0 x0 (kS [108, 101, 110]) h fun x22 h =>
 vif x22 (
 viaddr 6 x1 (kI 0) h fun x24 h =>
 vload true 6 x24 h fun x25 h =>
 vcall O (.v (.c (.func 88 []))) [x25] h 26 fun x26 h =>
 vext x26 0 h fun x27 h =>
 vext x26 1 h fun x28 h =>
 vstore 6 x4 x27 h fun _ h =>
 vcell true 6 x4 h fun c0 => tcomp x28 fun c1 => vfin true q [c0, c1] h)
 (vbin .eql 0 x0 (kS [110, 111, 116]) h fun x30 h =>
 vif x30 (
 R 1 [x0, x1, x4, x0, x30] h)
 (vbin .eql 0 x0 (kS [97, 110, 100]) h fun x31 h =>
 vif x31 (
 R 1 [x0, x1, x4, x0, x31] h)
 (vbin .eql 0 x0 (kS [111, 114]) h fun x32 h =>
 R 1 [x0, x1, x4, x0, x32] h)))))
theorem e34_0 (O : Oracle) (R : Jump) (q : Nat) (x0 x1 : TVal) (h : Heap) : b34_0 O R q x0 x1 h = stepF c34 O R q 0 [x0, x1] h := by kernel_rfl
noncomputable def b34_1 (O : Oracle) (R : Jump) (q : Nat) (x0 x1 x4 x20 x29 : TVal) (h : Heap) : Res1 :=
 vif x29 (
 vcall O (.v (.c (.func 89 []))) [x0, x1] h 35 fun x35 h =>
 vext x35 0 h fun x36 h =>
 vext x35 1 h fun x37 h =>
 vstore 6 x4 x36 h fun _ h =>
 vcell true 6 x4 h fun c0 => tcomp x37 fun c1 => vfin true q [c0, c1] h)
 (vbin .eql 0 x20 (kS [101, 113]) h fun x39 h =>
 vif x39 (
 vcall O (.v (.c (.func 90 []))) [x1] h 41 fun x41 h =>
 vext x41 0 h fun x42 h =>
 vext x41 1 h fun x43 h =>
 vstore 6 x4 x42 h fun _ h =>
 vcell true 6 x4 h fun c0 => tcomp x43 fun c1 => vfin true q [c0, c1] h)
 (vbin .eql 0 x20 (kS [99, 97, 116]) h fun x45 h =>
 vif x45 (
 vcall O (.v (.c (.func 91 []))) [x1] h 47 fun x47 h =>
 vext x47 0 h fun x48 h =>
 vext x47 1 h fun x49 h =>
 vstore 6 x4 x48 h fun _ h =>
 vcell true 6 x4 h fun c0 => tcomp x49 fun c1 => vfin true q [c0, c1] h)
 (vbin .eql 0 x20 (kS [116, 101, 120, 116]) h fun x51 h =>
 vif x51 (
 viaddr 6 x1 (kI 0) h fun x53 h =>
 vload true 6 x53 h fun x54 h =>
 vcall O (.v (.c (.func 92 []))) [x54] h 55 fun x55 h =>
 vext x55 0 h fun x56 h =>
 vext x55 1 h fun x57 h =>
 vstore 6 x4 x56 h fun _ h =>
 vcell true 6 x4 h fun c0 => tcomp x57 fun c1 => vfin true q [c0, c1] h)
 (vbin .eql 0 x20 (kS [97, 116]) h fun x59 h =>
 vif x59 (
 vcall O (.v (.c (.func 93 []))) [x1] h 61 fun x61 h =>
 vext x61 0 h fun x62 h =>
 vext x61 1 h fun x63 h =>
 vstore 6 x4 x62 h fun _ h =>
 vcell true 6 x4 h fun c0 => tcomp x63 fun c1 => vfin true q [c0, c1] h)
 (vbin .eql 0 x20 (kS [103, 101, 116]) h fun x65 h =>
 vif x65 (
 vop O (.bslice 1 2 [(.p (.int .i64 0))] [(0, (.k (kI 5))), (1, (.k (kI 3)))] false) h 67 fun x67 h =>
 vcall O (.v (.c (.func 94 []))) [x1, x67] h 68 fun x68 h =>
 vop O (.un .not (.k x68)) h 69 fun x69 h =>
 vif x69 (
 vop O (.build [(.p (.int .i64 0)), (.p (.bool false)), (.p (.int .i64 0)), (.p (.str [])), (.p .nilslice), (.p .nilslice)] []) h 70 fun x70 h =>
 vstore 6 x4 x70 h fun _ h =>
 vcell true 6 x4 h fun c0 => tcomp (kI 17) fun c1 => vfin true q [c0, c1] h)
 (vtouch O (.mv (.k x1)) h 72 fun x72 h t0 =>
 vtouch O (.iaddr 6 (.k x72) (.k (kI 0))) h 73 fun x73 h t1 =>
 vtouch O (.load true 6 (.k x73)) h 74 fun x74 h t2 =>
 vtouch O (.mv (.k x1)) h 75 fun x75 h t3 =>
 vtouch O (.iaddr 6 (.k x75) (.k (kI 1))) h 76 fun x76 h t4 =>
 vtouch O (.faddr 3 (.k x76)) h 77 fun x77 h t5 =>
 vtouch O (.load false 1 (.k x77)) h 78 fun x78 h t6 =>
 vtouch O (.call (.k (.v (.c (.func 95 [])))) [(.k x74), (.k x78)]) h 79 fun x79 h t7 =>
 vtouch O (.mv (.k x79)) h 71 fun x71 h t8 =>
 vtouch O (.extract (.k x71) 0) h 80 fun x80 h t9 =>
 vtouch O (.extract (.k x71) 1) h 81 fun x81 h t10 =>
 vtouch O (.alloc [(.p (.int .i64 0)), (.p (.bool false)), (.p (.int .i64 0)), (.p (.str [])), (.p .nilslice), (.p .nilslice)] false) h 6 fun x6 h t11 =>
 vtouch O (.store 6 (.k x6) (.k x80)) h 1000000 fun _ h t12 =>
 vtouch O (.mv (.k x81)) h 7 fun x7 h t13 =>
 bif apartAll [t0, t1, t2, t3, t4, t5, t6, t7, t8, t9, t10, t11, t12, t13] [(2, 11), (6, 11), (7, 11)] then
 vload true 6 x6 h fun x82 h =>
 vstore 6 x4 x82 h fun _ h =>
 vcell true 6 x4 h fun c0 => tcomp (kI 0) fun c1 => vfin true q [c0, c1] h
 else none))
 (vbin .eql 0 x20 (kS [104, 97, 115]) h fun x84 h =>
 vif x84 (
 viaddr 6 x1 (kI 0) h fun x86 h =>
 vfaddr 0 x86 h fun x87 h =>
 vload false 1 x87 h fun x88 h =>
 vbin .neq 0 x88 (kI 0) h fun x89 h =>
 vcall O (.v (.c (.func 96 []))) [x89] h 90 fun x90 h =>
 vstore 6 x4 x90 h fun _ h =>
 vcell true 6 x4 h fun c0 => tcomp (kI 0) fun c1 => vfin true q [c0, c1] h)
 (vbin .eql 0 x20 (kS [111, 114, 101, 108, 115, 101]) h fun x92 h =>
 vif x92 (
 viaddr 6 x1 (kI 0) h fun x94 h =>
 vfaddr 0 x94 h fun x95 h =>
 vload false 1 x95 h fun x96 h =>
 vbin .neq 0 x96 (kI 0) h fun x97 h =>
 vif x97 (
 viaddr 6 x1 (kI 0) h fun x99 h =>
 vload true 6 x99 h fun x100 h =>
 vcall O (.v (.c (.func 71 []))) [x100] h 101 fun x101 h =>
 vstore 6 x4 x101 h fun _ h =>
 vcell true 6 x4 h fun c0 => tcomp (kI 0) fun c1 => vfin true q [c0, c1] h)
 (viaddr 6 x1 (kI 1) h fun x103 h =>
 vload true 6 x103 h fun x104 h =>
 vcall O (.v (.c (.func 71 []))) [x104] h 105 fun x105 h =>
 vstore 6 x4 x105 h fun _ h =>
 vcell true 6 x4 h fun c0 => tcomp (kI 0) fun c1 => vfin true q [c0, c1] h))
 (vcall O (.v (.c (.func 97 []))) [x0, x1] h 108 fun x108 h =>
 vext x108 0 h fun x109 h =>
 vext x108 1 h fun x110 h =>
 vstore 6 x4 x109 h fun _ h =>
 vcell true 6 x4 h fun c0 => tcomp x110 fun c1 => vfin true q [c0, c1] h))))))))
theorem e34_1 (O : Oracle) (R : Jump) (q : Nat) (x0 x1 x4 x20 x29 : TVal) (h : Heap) : b34_1 O R q x0 x1 x4 x20 x29 h = stepF c34 O R q 1 [x0, x1, x4, x20, x29] h := by kernel_rfl
noncomputable def d34 : BlkF := fun O R q => [.s fun y0 => .s fun y1 => .z fun h => b34_0 O R q y0 y1 h, .s fun y0 => .s fun y1 => .s fun y2 => .s fun y3 => .s fun y4 => .z fun h => b34_1 O R q y0 y1 y2 y3 y4 h]
theorem o34 (O : Oracle) (R : Jump) (q : Nat) : HoldsAll c34 O R q 0 (d34 O R q) := ⟨fun y0 y1 h => e34_0 O R q y0 y1 h, fun y0 y1 y2 y3 y4 h => e34_1 O R q y0 y1 y2 y3 y4 h, trivial⟩
/- sprue/sprueref1.Tokens -/
def c56 : MFunc := { np := 1, res := [.t 2, .t 3], frz := true, body := (.seq (.reg [(oA 2 (.mv (.k (.v (.c (.p .nilslice)))))), (oA 3 (.mv (.k (.v (.c (.p (.int .i64 0)))))))] []) (.seq (.seq (.reg [(oA 9 (.mv (.t 0))), (oA 10 (.len 0 (.t 9))), (oA 11 (.bin .gtr 0 (.t 10) (.k (.v (.c (.p (.int .i64 1500)))))))] []) (.cond (.t 11) (.seq (.reg [(oA 2 (.mv (.k (.v (.c (.p .nilslice)))))), (oA 3 (.mv (.k (.v (.c (.p (.int .i64 4)))))))] []) .ret) .skip)) (.seq (.reg [(oA 4 (.mv (.k (.v (.c (.p .nilslice))))))] []) (.seq (.reg [(oA 5 (.mv (.k (.v (.c (.p (.int .i64 0)))))))] []) (.seq (.block 0 (.loop 1 [0, 4, 5] (.seq (.seq (.reg [(oA 12 (.mv (.t 5))), (oA 13 (.mv (.t 0))), (oA 14 (.len 0 (.t 13))), (oA 15 (.bin .lss 0 (.t 12) (.t 14)))] []) (.cond (.t 15) .skip (.exit 0))) (.block 1 (.seq (.seq (.reg [(oA 16 (.mv (.t 0))), (oA 17 (.mv (.t 5))), (oA 18 (.index (.t 16) (.t 17))), (oA 19 (.call (.k (.v (.c (.func 116 [])))) [(.t 18)]))] []) (.cond (.t 19) (.seq (.reg [(oA 20 (.mv (.t 5))), (oA 21 (.bin .add 0 (.t 20) (.k (.v (.c (.p (.int .i64 1))))))), (oA 5 (.mv (.t 21)))] []) (.exit 1)) .skip)) (.seq (.reg [(oA 23 (.mv (.t 0))), (oA 24 (.mv (.t 5))), (oA 25 (.call (.k (.v (.c (.func 117 [])))) [(.t 23), (.t 24)])), (oA 22 (.mv (.t 25))), (oA 26 (.extract (.t 22) 0)), (oA 27 (.extract (.t 22) 1)), (oA 28 (.extract (.t 22) 2)), (oA 6 (.alloc [(.p (.int .i64 0)), (.p (.str [])), (.p (.int .i64 0)), (.p (.int .i64 0))] false)), (oN (.store 4 (.t 6) (.t 26))), (oA 7 (.mv (.t 27))), (oA 8 (.mv (.t 28)))] []) (.seq (.seq (.reg [(oA 29 (.mv (.t 8))), (oA 30 (.bin .neq 0 (.t 29) (.k (.v (.c (.p (.int .i64 0)))))))] []) (.cond (.t 30) (.seq (.reg [(oA 31 (.mv (.t 8))), (oA 2 (.mv (.k (.v (.c (.p .nilslice)))))), (oA 3 (.mv (.t 31)))] []) .ret) .skip)) (.seq (.reg [(oA 32 (.mv (.t 4))), (oA 33 (.load true 4 (.t 6))), (oA 34 (.bslice 4 1 [(.p (.int .i64 0)), (.p (.str [])), (.p (.int .i64 0)), (.p (.int .i64 0))] [(0, (.t 33))] false)), (oA 35 (.append 4 40 false (.t 32) (.t 34))), (oA 4 (.mv (.t 35)))] []) (.reg [(oA 36 (.mv (.t 7))), (oA 5 (.mv (.t 36)))] []))))))))) (.mark 2 [4] (.seq (.seq (.reg [(oA 37 (.mv (.t 4))), (oA 38 (.len 2 (.t 37))), (oA 39 (.bin .gtr 0 (.t 38) (.k (.v (.c (.p (.int .i64 400)))))))] []) (.cond (.t 39) (.seq (.reg [(oA 2 (.mv (.k (.v (.c (.p .nilslice)))))), (oA 3 (.mv (.k (.v (.c (.p (.int .i64 3)))))))] []) .ret) .skip)) (.seq (.reg [(oA 40 (.mv (.t 4))), (oA 2 (.mv (.t 40))), (oA 3 (.mv (.k (.v (.c (.p (.int .i64 0)))))))] []) .ret)))))))) }
theorem t56 : compF Tryz.prog (globs2 tabs opq) (fun _ => false) true Tryz.f56 = some c56.erase := by kernel_rfl
noncomputable def b56_0 (O : Oracle) (R : Jump) (q : Nat) (x0 : TVal) (h : Heap) : Res1 :=
 vlen O 0 x0 h 10 fun x10 h =>
 vbin .gtr 0 x10 (kI 1500) h fun x11 h =>
 vif x11 (
 tcomp (.v (.c (.p .nilslice))) fun c0 => tcomp (kI 4) fun c1 => vfin true q [c0, c1] h)
 (R 1 [x0, (.v (.c (.p .nilslice))), (kI 0)] h)
theorem e56_0 (O : Oracle) (R : Jump) (q : Nat) (x0 : TVal) (h : Heap) : b56_0 O R q x0 h = stepF c56 O R q 0 [x0] h := by kernel_rfl
noncomputable def b56_1 (O : Oracle) (R : Jump) (q : Nat) (x0 x4 x5 : TVal) (h : Heap) : Res1 :=
 vlen O 0 x0 h 14 fun x14 h =>
 vbin .lss 0 x5 x14 h fun x15 h =>
 vif x15 (
 vindex x0 x5 h fun x18 h =>
 vcall O (.v (.c (.func 116 []))) [x18] h 19 fun x19 h =>
 vif x19 (
 vbin .add 0 x5 (kI 1) h fun x21 h =>
 R 1 [x0, x4, x21] h)
 (vcall O (.v (.c (.func 117 []))) [x0, x5] h 25 fun x25 h =>
 vext x25 0 h fun x26 h =>
 vext x25 1 h fun x27 h =>
 vext x25 2 h fun x28 h =>
 vop O (.alloc [(.p (.int .i64 0)), (.p (.str [])), (.p (.int .i64 0)), (.p (.int .i64 0))] false) h 6 fun x6 h =>
 vstore 4 x6 x26 h fun _ h =>
 vbin .neq 0 x28 (kI 0) h fun x30 h =>
 vif x30 (
 tcomp (.v (.c (.p .nilslice))) fun c0 => tcomp x28 fun c1 => vfin true q [c0, c1] h)
 (vload true 4 x6 h fun x33 h =>
 vop O (.bslice 4 1 [(.p (.int .i64 0)), (.p (.str [])), (.p (.int .i64 0)), (.p (.int .i64 0))] [(0, (.k x33))] false) h 34 fun x34 h =>
 vop O (.append 4 40 false (.k x4) (.k x34)) h 35 fun x35 h =>
 R 1 [x0, x35, x27] h)))
 (R 2 [x4] h)
theorem e56_1 (O : Oracle) (R : Jump) (q : Nat) (x0 x4 x5 : TVal) (h : Heap) : b56_1 O R q x0 x4 x5 h = stepF c56 O R q 1 [x0, x4, x5] h := by kernel_rfl
noncomputable def b56_2 (O : Oracle) (R : Jump) (q : Nat) (x4 : TVal) (h : Heap) : Res1 :=
 vlen O 2 x4 h 38 fun x38 h =>
 vbin .gtr 0 x38 (kI 400) h fun x39 h =>
 vif x39 (
 tcomp (.v (.c (.p .nilslice))) fun c0 => tcomp (kI 3) fun c1 => vfin true q [c0, c1] h)
 (tcomp x4 fun c0 => tcomp (kI 0) fun c1 => vfin true q [c0, c1] h)
theorem e56_2 (O : Oracle) (R : Jump) (q : Nat) (x4 : TVal) (h : Heap) : b56_2 O R q x4 h = stepF c56 O R q 2 [x4] h := by kernel_rfl
noncomputable def d56 : BlkF := fun O R q => [.s fun y0 => .z fun h => b56_0 O R q y0 h, .s fun y0 => .s fun y1 => .s fun y2 => .z fun h => b56_1 O R q y0 y1 y2 h, .s fun y0 => .z fun h => b56_2 O R q y0 h]
theorem o56 (O : Oracle) (R : Jump) (q : Nat) : HoldsAll c56 O R q 0 (d56 O R q) := ⟨fun y0 h => e56_0 O R q y0 h, fun y0 y1 y2 h => e56_1 O R q y0 y1 y2 h, fun y0 h => e56_2 O R q y0 h, trivial⟩
/- sprue/sprueref2.Split -/
def c64 : MFunc := { np := 1, res := [.t 2, .t 3], frz := true, body := (.seq (.reg [(oA 2 (.mv (.k (.v (.c (.p .nilslice)))))), (oA 3 (.mv (.k (.v (.c (.p (.int .i64 0)))))))] []) (.seq (.seq (.reg [(oA 8 (.mv (.t 0))), (oA 9 (.len 0 (.t 8))), (oA 10 (.bin .gtr 0 (.t 9) (.k (.v (.c (.p (.int .i64 1500)))))))] []) (.cond (.t 10) (.seq (.reg [(oA 2 (.mv (.k (.v (.c (.p .nilslice)))))), (oA 3 (.mv (.k (.v (.c (.p (.int .i64 4)))))))] []) .ret) .skip)) (.seq (.reg [(oA 4 (.mv (.k (.v (.c (.p .nilslice))))))] []) (.seq (.reg [(oA 5 (.mv (.k (.v (.c (.p (.int .i64 0))))))), (oA 6 (.mv (.k (.v (.c (.p (.int .i64 0)))))))] []) (.seq (.block 0 (.loop 1 [0, 4, 5, 6] (.seq (.seq (.reg [(oA 11 (.mv (.t 5))), (oA 12 (.mv (.t 0))), (oA 13 (.len 0 (.t 12))), (oA 14 (.bin .lss 0 (.t 11) (.t 13)))] []) (.cond (.t 14) .skip (.exit 0))) (.block 1 (.seq (.seq (.reg [(oA 15 (.mv (.t 5))), (oA 16 (.bin .add 0 (.t 15) (.k (.v (.c (.p (.int .i64 1))))))), (oA 17 (.mv (.t 0))), (oA 18 (.len 0 (.t 17))), (oA 19 (.bin .geq 0 (.t 16) (.t 18))), (oA 20 (.mv (.t 19))), ⟨(some 21), (.mv (.t 0)), (some (20, false))⟩, ⟨(some 22), (.mv (.t 5)), (some (20, false))⟩, ⟨(some 23), (.index (.t 21) (.t 22)), (some (20, false))⟩, ⟨(some 24), (.bin .neq 0 (.t 23) (.k (.v (.c (.p (.int .u8 123)))))), (some (20, false))⟩, (oA 25 (.pick (.t 20) (.k (.v (.c (.p (.bool true))))) (.t 24))), (oA 26 (.mv (.t 25))), ⟨(some 27), (.mv (.t 0)), (some (26, false))⟩, ⟨(some 28), (.mv (.t 5)), (some (26, false))⟩, ⟨(some 29), (.bin .add 0 (.t 28) (.k (.v (.c (.p (.int .i64 1)))))), (some (26, false))⟩, ⟨(some 30), (.index (.t 27) (.t 29)), (some (26, false))⟩, ⟨(some 31), (.bin .neq 0 (.t 30) (.k (.v (.c (.p (.int .u8 123)))))), (some (26, false))⟩, (oA 32 (.pick (.t 26) (.k (.v (.c (.p (.bool true))))) (.t 31)))] []) (.cond (.t 32) (.seq (.reg [(oA 33 (.mv (.t 5))), (oA 34 (.bin .add 0 (.t 33) (.k (.v (.c (.p (.int .i64 1))))))), (oA 5 (.mv (.t 34)))] []) (.exit 1)) .skip)) (.seq (.seq (.reg [(oA 35 (.mv (.t 5))), (oA 36 (.mv (.t 6))), (oA 37 (.bin .gtr 0 (.t 35) (.t 36)))] []) (.cond (.t 37) (.reg [(oA 38 (.mv (.t 4))), (oA 39 (.mv (.t 0))), (oA 40 (.mv (.t 6))), (oA 41 (.mv (.t 5))), (oA 42 (.slice 0 true (.t 39) (some (.t 40)) (some (.t 41)) none)), (oA 43 (.mv (.t 6))), (oA 44 (.build [(.p (.bool false)), (.p (.str [])), (.p (.int .i64 0))] [(1, 1, (.t 42)), (2, 1, (.t 43))])), (oA 45 (.bslice 3 1 [(.p (.bool false)), (.p (.str [])), (.p (.int .i64 0))] [(0, (.t 44))] false)), (oA 46 (.append 3 32 false (.t 38) (.t 45))), (oA 4 (.mv (.t 46)))] []) .skip)) (.mark 2 [0, 4, 5] (.seq (.reg [(oA 47 (.mv (.t 0))), (oA 48 (.mv (.t 5))), (oA 49 (.bin .add 0 (.t 48) (.k (.v (.c (.p (.int .i64 2))))))), (oA 50 (.call (.k (.v (.c (.func 123 [])))) [(.t 47), (.t 49)])), (oA 7 (.mv (.t 50)))] []) (.seq (.seq (.reg [(oA 51 (.mv (.t 7))), (oA 52 (.bin .lss 0 (.t 51) (.k (.v (.c (.p (.int .i64 0)))))))] []) (.cond (.t 52) (.seq (.reg [(oA 2 (.mv (.k (.v (.c (.p .nilslice)))))), (oA 3 (.mv (.k (.v (.c (.p (.int .i64 11)))))))] []) .ret) .skip)) (.seq (.reg [(oA 53 (.mv (.t 4))), (oA 54 (.mv (.t 0))), (oA 55 (.mv (.t 5))), (oA 56 (.bin .add 0 (.t 55) (.k (.v (.c (.p (.int .i64 2))))))), (oA 57 (.mv (.t 7))), (oA 58 (.slice 0 true (.t 54) (some (.t 56)) (some (.t 57)) none)), (oA 59 (.mv (.t 5))), (oA 60 (.build [(.p (.bool false)), (.p (.str [])), (.p (.int .i64 0))] [(0, 1, (.k (.v (.c (.p (.bool true)))))), (1, 1, (.t 58)), (2, 1, (.t 59))])), (oA 61 (.bslice 3 1 [(.p (.bool false)), (.p (.str [])), (.p (.int .i64 0))] [(0, (.t 60))] false)), (oA 62 (.append 3 32 false (.t 53) (.t 61))), (oA 4 (.mv (.t 62)))] []) (.seq (.reg [(oA 63 (.mv (.t 7))), (oA 64 (.bin .add 0 (.t 63) (.k (.v (.c (.p (.int .i64 2))))))), (oA 5 (.mv (.t 64)))] []) (.reg [(oA 65 (.mv (.t 5))), (oA 6 (.mv (.t 65)))] [])))))))))))) (.mark 3 [0, 4, 6] (.seq (.seq (.reg [(oA 66 (.mv (.t 0))), (oA 67 (.len 0 (.t 66))), (oA 68 (.mv (.t 6))), (oA 69 (.bin .gtr 0 (.t 67) (.t 68)))] []) (.cond (.t 69) (.reg [(oA 70 (.mv (.t 4))), (oA 71 (.mv (.t 0))), (oA 72 (.mv (.t 6))), (oA 73 (.slice 0 true (.t 71) (some (.t 72)) none none)), (oA 74 (.mv (.t 6))), (oA 75 (.build [(.p (.bool false)), (.p (.str [])), (.p (.int .i64 0))] [(1, 1, (.t 73)), (2, 1, (.t 74))])), (oA 76 (.bslice 3 1 [(.p (.bool false)), (.p (.str [])), (.p (.int .i64 0))] [(0, (.t 75))] false)), (oA 77 (.append 3 32 false (.t 70) (.t 76))), (oA 4 (.mv (.t 77)))] []) .skip)) (.mark 4 [4] (.seq (.seq (.reg [(oA 78 (.mv (.t 4))), (oA 79 (.len 2 (.t 78))), (oA 80 (.bin .gtr 0 (.t 79) (.k (.v (.c (.p (.int .i64 200)))))))] []) (.cond (.t 80) (.seq (.reg [(oA 2 (.mv (.k (.v (.c (.p .nilslice)))))), (oA 3 (.mv (.k (.v (.c (.p (.int .i64 3)))))))] []) .ret) .skip)) (.seq (.reg [(oA 81 (.mv (.t 4))), (oA 2 (.mv (.t 81))), (oA 3 (.mv (.k (.v (.c (.p (.int .i64 0)))))))] []) .ret)))))))))) }
theorem t64 : compF Tryz.prog (globs2 tabs opq) (fun _ => false) true Tryz.f64 = some c64.erase := by kernel_rfl
noncomputable def b64_0 (O : Oracle) (R : Jump) (q : Nat) (x0 : TVal) (h : Heap) : Res1 :=
 vlen O 0 x0 h 9 fun x9 h =>
 vbin .gtr 0 x9 (kI 1500) h fun x10 h =>
 vif x10 (
 tcomp (.v (.c (.p .nilslice))) fun c0 => tcomp (kI 4) fun c1 => vfin true q [c0, c1] h)
 (R 1 [x0, (.v (.c (.p .nilslice))), (kI 0), (kI 0)] h)
theorem e64_0 (O : Oracle) (R : Jump) (q : Nat) (x0 : TVal) (h : Heap) : b64_0 O R q x0 h = stepF c64 O R q 0 [x0] h := by kernel_rfl
noncomputable def b64_1 (O : Oracle) (R : Jump) (q : Nat) (x0 x4 x5 x6 : TVal) (h : Heap) : Res1 :=
 vlen O 0 x0 h 13 fun x13 h =>
 vbin .lss 0 x5 x13 h fun x14 h =>
 vif x14 (
 vbin .add 0 x5 (kI 1) h fun x16 h =>
 vlen O 0 x0 h 18 fun x18 h =>
 vbin .geq 0 x16 x18 h fun x19 h =>
 vguard x19 false (fun kk => kk x0 h) h fun x21 h =>
 vguard x19 false (fun kk => kk x5 h) h fun x22 h =>
 vguard x19 false (fun kk => vindex x21 x22 h kk) h fun x23 h =>
 vguard x19 false (fun kk => vbin .neq 0 x23 (.v (.c (.p (.int .u8 123)))) h kk) h fun x24 h =>
 vop O (.pick (.k x19) (.k (kB true)) (.k x24)) h 25 fun x25 h =>
 vguard x25 false (fun kk => kk x0 h) h fun x27 h =>
 vguard x25 false (fun kk => kk x5 h) h fun x28 h =>
 vguard x25 false (fun kk => vbin .add 0 x28 (kI 1) h kk) h fun x29 h =>
 vguard x25 false (fun kk => vindex x27 x29 h kk) h fun x30 h =>
 vguard x25 false (fun kk => vbin .neq 0 x30 (.v (.c (.p (.int .u8 123)))) h kk) h fun x31 h =>
 vop O (.pick (.k x25) (.k (kB true)) (.k x31)) h 32 fun x32 h =>
 vif x32 (
 vbin .add 0 x5 (kI 1) h fun x34 h =>
 R 1 [x0, x4, x34, x6] h)
 (vbin .gtr 0 x5 x6 h fun x37 h =>
 vif x37 (
 vop O (.slice 0 true (.k x0) (some (.k x6)) (some (.k x5)) none) h 42 fun x42 h =>
 vop O (.build [(.p (.bool false)), (.p (.str [])), (.p (.int .i64 0))] [(1, 1, (.k x42)), (2, 1, (.k x6))]) h 44 fun x44 h =>
 vop O (.bslice 3 1 [(.p (.bool false)), (.p (.str [])), (.p (.int .i64 0))] [(0, (.k x44))] false) h 45 fun x45 h =>
 vop O (.append 3 32 false (.k x4) (.k x45)) h 46 fun x46 h =>
 R 2 [x0, x46, x5] h)
 (R 2 [x0, x4, x5] h)))
 (R 3 [x0, x4, x6] h)
theorem e64_1 (O : Oracle) (R : Jump) (q : Nat) (x0 x4 x5 x6 : TVal) (h : Heap) : b64_1 O R q x0 x4 x5 x6 h = stepF c64 O R q 1 [x0, x4, x5, x6] h := by kernel_rfl
noncomputable def b64_2 (O : Oracle) (R : Jump) (q : Nat) (x0 x4 x5 : TVal) (h : Heap) : Res1 :=
 vbin .add 0 x5 (kI 2) h fun x49 h =>
 vcall O (.v (.c (.func 123 []))) [x0, x49] h 50 fun x50 h =>
 vbin .lss 0 x50 (kI 0) h fun x52 h =>
 vif x52 (
 tcomp (.v (.c (.p .nilslice))) fun c0 => tcomp (kI 11) fun c1 => vfin true q [c0, c1] h)
 (vbin .add 0 x5 (kI 2) h fun x56 h =>
 vop O (.slice 0 true (.k x0) (some (.k x56)) (some (.k x50)) none) h 58 fun x58 h =>
 vop O (.build [(.p (.bool false)), (.p (.str [])), (.p (.int .i64 0))] [(0, 1, (.k (kB true))), (1, 1, (.k x58)), (2, 1, (.k x5))]) h 60 fun x60 h =>
 vop O (.bslice 3 1 [(.p (.bool false)), (.p (.str [])), (.p (.int .i64 0))] [(0, (.k x60))] false) h 61 fun x61 h =>
 vop O (.append 3 32 false (.k x4) (.k x61)) h 62 fun x62 h =>
 vbin .add 0 x50 (kI 2) h fun x64 h =>
 R 1 [x0, x62, x64, x64] h)
theorem e64_2 (O : Oracle) (R : Jump) (q : Nat) (x0 x4 x5 : TVal) (h : Heap) : b64_2 O R q x0 x4 x5 h = stepF c64 O R q 2 [x0, x4, x5] h := by kernel_rfl
noncomputable def b64_3 (O : Oracle) (R : Jump) (q : Nat) (x0 x4 x6 : TVal) (h : Heap) : Res1 :=
 vlen O 0 x0 h 67 fun x67 h =>
 vbin .gtr 0 x67 x6 h fun x69 h =>
 vif x69 (
 vop O (.slice 0 true (.k x0) (some (.k x6)) none none) h 73 fun x73 h =>
 vop O (.build [(.p (.bool false)), (.p (.str [])), (.p (.int .i64 0))] [(1, 1, (.k x73)), (2, 1, (.k x6))]) h 75 fun x75 h =>
 vop O (.bslice 3 1 [(.p (.bool false)), (.p (.str [])), (.p (.int .i64 0))] [(0, (.k x75))] false) h 76 fun x76 h =>
 vop O (.append 3 32 false (.k x4) (.k x76)) h 77 fun x77 h =>
 R 4 [x77] h)
 (R 4 [x4] h)
theorem e64_3 (O : Oracle) (R : Jump) (q : Nat) (x0 x4 x6 : TVal) (h : Heap) : b64_3 O R q x0 x4 x6 h = stepF c64 O R q 3 [x0, x4, x6] h := by kernel_rfl
noncomputable def b64_4 (O : Oracle) (R : Jump) (q : Nat) (x4 : TVal) (h : Heap) : Res1 :=
 vlen O 2 x4 h 79 fun x79 h =>
 vbin .gtr 0 x79 (kI 200) h fun x80 h =>
 vif x80 (
 tcomp (.v (.c (.p .nilslice))) fun c0 => tcomp (kI 3) fun c1 => vfin true q [c0, c1] h)
 (tcomp x4 fun c0 => tcomp (kI 0) fun c1 => vfin true q [c0, c1] h)
theorem e64_4 (O : Oracle) (R : Jump) (q : Nat) (x4 : TVal) (h : Heap) : b64_4 O R q x4 h = stepF c64 O R q 4 [x4] h := by kernel_rfl
noncomputable def d64 : BlkF := fun O R q => [.s fun y0 => .z fun h => b64_0 O R q y0 h, .s fun y0 => .s fun y1 => .s fun y2 => .s fun y3 => .z fun h => b64_1 O R q y0 y1 y2 y3 h, .s fun y0 => .s fun y1 => .s fun y2 => .z fun h => b64_2 O R q y0 y1 y2 h, .s fun y0 => .s fun y1 => .s fun y2 => .z fun h => b64_3 O R q y0 y1 y2 h, .s fun y0 => .z fun h => b64_4 O R q y0 h]
theorem o64 (O : Oracle) (R : Jump) (q : Nat) : HoldsAll c64 O R q 0 (d64 O R q) := ⟨fun y0 h => e64_0 O R q y0 h, fun y0 y1 y2 y3 h => e64_1 O R q y0 y1 y2 y3 h, fun y0 y1 y2 h => e64_2 O R q y0 y1 y2 h, fun y0 y1 y2 h => e64_3 O R q y0 y1 y2 h, fun y0 h => e64_4 O R q y0 h, trivial⟩
/- (*sprue/sprueref7.parser).action -/
def c65 : MFunc := { np := 2, res := [.t 4], frz := true, body := (.seq (.reg [(oA 3 (.box (.t 1) true)), (oA 4 (.mv (.k (.v (.c (.p (.int .i64 0)))))))] []) (.seq (.reg [(oA 11 (.faddr 1 (.t 3))), (oA 12 (.load false 1 (.t 11))), (oA 13 (.call (.k (.v (.c (.func 56 [])))) [(.t 12)])), (oA 10 (.mv (.t 13))), (oA 14 (.extract (.t 10) 0)), (oA 15 (.extract (.t 10) 1)), (oA 5 (.mv (.t 14))), (oA 6 (.mv (.t 15)))] []) (.seq (.seq (.reg [(oA 16 (.mv (.t 6))), (oA 17 (.bin .neq 0 (.t 16) (.k (.v (.c (.p (.int .i64 0)))))))] []) (.cond (.t 17) (.seq (.reg [(oA 18 (.mv (.t 6))), (oA 4 (.mv (.t 18)))] []) .ret) .skip)) (.seq (.reg [(oA 19 (.mv (.t 5))), (oA 20 (.build [(.p .nilslice), (.p (.int .i64 0)), (.p (.int .i64 0))] [(0, 1, (.t 19))])), (oA 21 (.box (.t 20) true)), (oA 7 (.mv (.t 21)))] []) (.seq (.reg [(oA 22 (.faddr 2 (.t 3))), (oA 23 (.load false 1 (.t 22))), (oA 24 (.build [(.p (.int .i64 0)), (.p (.int .i64 0)), (.p (.str [])), (.p (.str [])), (.p .nilslice), (.p .nilslice), (.p .nilslice), (.p (.bool false)), (.p .nilslice)] [(0, 1, (.k (.v (.c (.p (.int .i64 2)))))), (1, 1, (.t 23))])), (oA 8 (.alloc [(.p (.int .i64 0)), (.p (.int .i64 0)), (.p (.str [])), (.p (.str [])), (.p .nilslice), (.p .nilslice), (.p .nilslice), (.p (.bool false)), (.p .nilslice)] true)), (oN (.store 9 (.t 8) (.t 24)))] []) (.seq (.reg [(oA 9 (.mv (.k (.v (.c (.p (.str [])))))))] []) (.seq (.seq (.reg [(oA 25 (.mv (.t 7))), (oA 26 (.call (.k (.v (.c (.func 124 [])))) [(.t 25), (.k (.v (.c (.p (.int .i64 1)))))])), (oA 27 (.mv (.t 26))), ⟨(some 28), (.mv (.t 5)), (some (27, true))⟩, ⟨(some 29), (.iaddr 4 (.t 28) (.k (.v (.c (.p (.int .i64 0)))))), (some (27, true))⟩, ⟨(some 30), (.faddr 1 (.t 29)), (some (27, true))⟩, ⟨(some 31), (.load false 1 (.t 30)), (some (27, true))⟩, ⟨(some 32), (.call (.k (.v (.c (.func 125 [])))) [(.t 31)]), (some (27, true))⟩, (oA 33 (.pick (.t 27) (.t 32) (.k (.v (.c (.p (.bool false))))))), (oA 34 (.mv (.t 33))), ⟨(some 35), (.mv (.t 5)), (some (34, true))⟩, ⟨(some 36), (.iaddr 4 (.t 35) (.k (.v (.c (.p (.int .i64 0)))))), (some (34, true))⟩, ⟨(some 37), (.faddr 1 (.t 36)), (some (34, true))⟩, ⟨(some 38), (.load false 1 (.t 37)), (some (34, true))⟩, ⟨(some 39), (.bin .neq 0 (.t 38) (.k (.v (.c (.p (.str [116, 114, 117, 101])))))), (some (34, true))⟩, (oA 40 (.pick (.t 34) (.t 39) (.k (.v (.c (.p (.bool false))))))), (oA 41 (.mv (.t 40))), ⟨(some 42), (.mv (.t 5)), (some (41, true))⟩, ⟨(some 43), (.iaddr 4 (.t 42) (.k (.v (.c (.p (.int .i64 0)))))), (some (41, true))⟩, ⟨(some 44), (.faddr 1 (.t 43)), (some (41, true))⟩, ⟨(some 45), (.load false 1 (.t 44)), (some (41, true))⟩, ⟨(some 46), (.bin .neq 0 (.t 45) (.k (.v (.c (.p (.str [102, 97, 108, 115, 101])))))), (some (41, true))⟩, (oA 47 (.pick (.t 41) (.t 46) (.k (.v (.c (.p (.bool false)))))))] []) (.cond (.t 47) (.seq (.reg [(oA 48 (.mv (.t 5))), (oA 49 (.iaddr 4 (.t 48) (.k (.v (.c (.p (.int .i64 0))))))), (oA 50 (.faddr 1 (.t 49))), (oA 51 (.load false 1 (.t 50))), (oA 9 (.mv (.t 51)))] []) (.reg [(oA 52 (.mv (.t 7))), (oA 53 (.nilck (.t 52))), (oA 54 (.faddr 1 (.t 53))), (oA 55 (.load false 1 (.t 54))), (oA 56 (.bin .add 0 (.t 55) (.k (.v (.c (.p (.int .i64 1))))))), (oA 57 (.nilck (.t 52))), (oA 58 (.faddr 1 (.t 57))), (oN (.store 1 (.t 58) (.t 56)))] [])) .skip)) (.mark 1 [0, 5, 7, 8, 9] (.seq (.seq (.reg [(oA 59 (.mv (.t 9)))] []) (.block 0 (.seq (.seq (.reg [(oA 114 (.bin .eql 0 (.t 59) (.k (.v (.c (.p (.str [105, 102]))))))), (oA 113 (.mv (.t 114)))] []) (.cond (.t 113) .skip (.seq (.reg [(oA 115 (.bin .eql 0 (.t 59) (.k (.v (.c (.p (.str [119, 105, 116, 104]))))))), (oA 113 (.mv (.t 115)))] []) (.cond (.t 113) .skip (.seq (.reg [(oA 116 (.bin .eql 0 (.t 59) (.k (.v (.c (.p (.str [114, 97, 110, 103, 101]))))))), (oA 113 (.mv (.t 116)))] []) (.cond (.t 113) .skip (.reg [(oA 117 (.bin .eql 0 (.t 59) (.k (.v (.c (.p (.str [109, 97, 116, 99, 104]))))))), (oA 113 (.mv (.t 117)))] []))))))) (.mark 2 [0, 5, 7, 8, 9, 59, 113] (.cond (.t 113) (.reg [(oA 118 (.mv (.t 9))), (oA 119 (.call (.k (.v (.c (.func 126 [])))) [(.t 118)])), (oA 120 (.mv (.t 7))), (oA 121 (.call (.k (.v (.c (.func 127 [])))) [(.t 120), (.k (.v (.c (.p (.int .i64 0)))))])), (oA 122 (.faddr 0 (.t 8))), (oN (.store 1 (.t 122) (.t 119))), (oA 123 (.faddr 4 (.t 8))), (oN (.store 1 (.t 123) (.t 121)))] []) (.seq (.seq (.reg [(oA 125 (.bin .eql 0 (.t 59) (.k (.v (.c (.p (.str [101, 108, 115, 101]))))))), (oA 124 (.mv (.t 125)))] []) (.cond (.t 124) .skip (.reg [(oA 126 (.bin .eql 0 (.t 59) (.k (.v (.c (.p (.str [101, 110, 100]))))))), (oA 124 (.mv (.t 126)))] []))) (.mark 3 [0, 5, 7, 8, 9, 59, 124] (.cond (.t 124) .skip (.seq (.reg [(oA 128 (.bin .eql 0 (.t 59) (.k (.v (.c (.p (.str [99, 97, 115, 101]))))))), (oA 127 (.mv (.t 128)))] []) (.cond (.t 127) (.reg [(oA 129 (.mv (.t 7))), (oA 130 (.call (.k (.v (.c (.func 128 [])))) [(.t 129), (.k (.v (.c (.p (.int .i64 1)))))])), (oA 131 (.field 1 1 false (.t 130))), (oA 132 (.faddr 3 (.t 8))), (oN (.store 1 (.t 132) (.t 131)))] []) (.seq (.seq (.reg [(oA 134 (.bin .eql 0 (.t 59) (.k (.v (.c (.p (.str [100, 101, 102, 105, 110, 101]))))))), (oA 133 (.mv (.t 134)))] []) (.cond (.t 133) .skip (.reg [(oA 135 (.bin .eql 0 (.t 59) (.k (.v (.c (.p (.str [116, 101, 109, 112, 108, 97, 116, 101]))))))), (oA 133 (.mv (.t 135)))] []))) (.mark 4 [0, 5, 7, 8, 9, 133] (.cond (.t 133) (.seq (.reg [(oA 136 (.mv (.t 7))), (oA 137 (.call (.k (.v (.c (.func 128 [])))) [(.t 136), (.k (.v (.c (.p (.int .i64 2)))))])), (oA 138 (.field 1 1 false (.t 137))), (oA 139 (.faddr 0 (.t 8))), (oN (.store 1 (.t 139) (.k (.v (.c (.p (.int .i64 9))))))), (oA 140 (.faddr 3 (.t 8))), (oN (.store 1 (.t 140) (.t 138)))] []) (.seq (.reg [(oA 141 (.mv (.t 9))), (oA 142 (.bin .eql 0 (.t 141) (.k (.v (.c (.p (.str [116, 101, 109, 112, 108, 97, 116, 101]))))))), (oA 143 (.mv (.t 142))), ⟨(some 144), (.mv (.t 7)), (some (143, true))⟩, ⟨(some 145), (.nilck (.t 144)), (some (143, true))⟩, ⟨(some 146), (.faddr 1 (.t 145)), (some (143, true))⟩, ⟨(some 147), (.load false 1 (.t 146)), (some (143, true))⟩, ⟨(some 148), (.mv (.t 5)), (some (143, true))⟩, ⟨(some 149), (.len 2 (.t 148)), (some (143, true))⟩, ⟨(some 150), (.bin .lss 0 (.t 147) (.t 149)), (some (143, true))⟩, (oA 151 (.pick (.t 143) (.t 150) (.k (.v (.c (.p (.bool false)))))))] []) (.cond (.t 151) (.reg [(oA 152 (.mv (.t 7))), (oA 153 (.call (.k (.v (.c (.func 127 [])))) [(.t 152), (.k (.v (.c (.p (.int .i64 0)))))])), (oA 154 (.faddr 4 (.t 8))), (oN (.store 1 (.t 154) (.t 153)))] []) .skip))) (.seq (.seq (.reg [(oA 60 (.mv (.t 5))), (oA 61 (.len 2 (.t 60))), (oA 62 (.bin .gtr 0 (.t 61) (.k (.v (.c (.p (.int .i64 2))))))), (oA 63 (.mv (.t 62))), ⟨(some 64), (.mv (.t 7)), (some (63, true))⟩, ⟨(some 65), (.call (.k (.v (.c (.func 129 [])))) [(.t 64), (.k (.v (.c (.p (.str [36])))))]), (some (63, true))⟩, (oA 66 (.pick (.t 63) (.t 65) (.k (.v (.c (.p (.bool false))))))), (oA 67 (.mv (.t 66))), ⟨(some 68), (.mv (.t 5)), (some (67, true))⟩, ⟨(some 69), (.iaddr 4 (.t 68) (.k (.v (.c (.p (.int .i64 1)))))), (some (67, true))⟩, ⟨(some 70), (.faddr 0 (.t 69)), (some (67, true))⟩, ⟨(some 71), (.load false 1 (.t 70)), (some (67, true))⟩, ⟨(some 72), (.bin .eql 0 (.t 71) (.k (.v (.c (.p (.int .i64 1)))))), (some (67, true))⟩, (oA 73 (.pick (.t 67) (.t 72) (.k (.v (.c (.p (.bool false))))))), (oA 74 (.mv (.t 73))), ⟨(some 75), (.mv (.t 5)), (some (74, true))⟩, ⟨(some 76), (.iaddr 4 (.t 75) (.k (.v (.c (.p (.int .i64 2)))))), (some (74, true))⟩, ⟨(some 77), (.faddr 0 (.t 76)), (some (74, true))⟩, ⟨(some 78), (.load false 1 (.t 77)), (some (74, true))⟩, ⟨(some 79), (.bin .eql 0 (.t 78) (.k (.v (.c (.p (.int .i64 4)))))), (some (74, true))⟩, (oA 80 (.pick (.t 74) (.t 79) (.k (.v (.c (.p (.bool false))))))), (oA 81 (.mv (.t 80))), ⟨(some 82), (.mv (.t 5)), (some (81, true))⟩, ⟨(some 83), (.iaddr 4 (.t 82) (.k (.v (.c (.p (.int .i64 2)))))), (some (81, true))⟩, ⟨(some 84), (.faddr 1 (.t 83)), (some (81, true))⟩, ⟨(some 85), (.load false 1 (.t 84)), (some (81, true))⟩, ⟨(some 86), (.bin .eql 0 (.t 85) (.k (.v (.c (.p (.str [58, 61])))))), (some (81, true))⟩, ⟨(some 87), (.mv (.t 86)), (some (81, true))⟩, ⟨(some 88), (.mv (.t 5)), (some (87, false))⟩, ⟨(some 89), (.iaddr 4 (.t 88) (.k (.v (.c (.p (.int .i64 2)))))), (some (87, false))⟩, ⟨(some 90), (.faddr 1 (.t 89)), (some (87, false))⟩, ⟨(some 91), (.load false 1 (.t 90)), (some (87, false))⟩, ⟨(some 92), (.bin .eql 0 (.t 91) (.k (.v (.c (.p (.str [61])))))), (some (87, false))⟩, ⟨(some 93), (.pick (.t 87) (.k (.v (.c (.p (.bool true))))) (.t 92)), (some (81, true))⟩, (oA 94 (.pick (.t 81) (.t 93) (.k (.v (.c (.p (.bool false)))))))] []) (.cond (.t 94) (.seq (.reg [(oA 95 (.mv (.t 5))), (oA 96 (.iaddr 4 (.t 95) (.k (.v (.c (.p (.int .i64 1))))))), (oA 97 (.faddr 1 (.t 96))), (oA 98 (.load false 1 (.t 97))), (oA 99 (.faddr 0 (.t 8))), (oN (.store 1 (.t 99) (.k (.v (.c (.p (.int .i64 3))))))), (oA 100 (.faddr 3 (.t 8))), (oN (.store 1 (.t 100) (.t 98)))] [(3, 5)]) (.seq (.seq (.reg [(oA 101 (.mv (.t 5))), (oA 102 (.iaddr 4 (.t 101) (.k (.v (.c (.p (.int .i64 2))))))), (oA 103 (.faddr 1 (.t 102))), (oA 104 (.load false 1 (.t 103))), (oA 105 (.bin .eql 0 (.t 104) (.k (.v (.c (.p (.str [61])))))))] []) (.cond (.t 105) (.reg [(oA 106 (.faddr 0 (.t 8))), (oN (.store 1 (.t 106) (.k (.v (.c (.p (.int .i64 4)))))))] []) .skip)) (.mark 5 [0, 7, 8, 9] (.reg [(oA 107 (.mv (.t 7))), (oA 108 (.nilck (.t 107))), (oA 109 (.faddr 1 (.t 108))), (oN (.store 1 (.t 109) (.k (.v (.c (.p (.int .i64 3)))))))] [])))) .skip)) (.mark 6 [0, 7, 8, 9] (.reg [(oA 110 (.mv (.t 7))), (oA 111 (.call (.k (.v (.c (.func 127 [])))) [(.t 110), (.k (.v (.c (.p (.int .i64 0)))))])), (oA 112 (.faddr 4 (.t 8))), (oN (.store 1 (.t 112) (.t 111)))] [])))))))))))))))) (.mark 7 [0, 7, 8, 9] (.seq (.seq (.reg [(oA 155 (.mv (.t 7))), (oA 156 (.call (.k (.v (.c (.func 130 [])))) [(.t 155)])), (oA 157 (.bin .neq 0 (.t 156) (.k (.v (.c (.p (.int .i64 0)))))))] []) (.cond (.t 157) (.seq (.reg [(oA 158 (.mv (.t 7))), (oA 159 (.nilck (.t 158))), (oA 160 (.faddr 2 (.t 159))), (oA 161 (.load false 1 (.t 160))), (oA 4 (.mv (.t 161)))] []) .ret) .skip)) (.seq (.reg [(oA 162 (.mv (.t 0))), (oA 163 (.mv (.t 9))), (oA 164 (.load true 9 (.t 8))), (oA 165 (.call (.k (.v (.c (.func 131 [])))) [(.t 162), (.t 163), (.t 164)])), (oA 4 (.mv (.t 165)))] []) .ret)))))))))))) }
theorem t65 : compF Tryz.prog (globs2 tabs opq) (fun _ => true) true Tryz.f65 = some c65.erase := by kernel_rfl
noncomputable def b65_0 (O : Oracle) (R : Jump) (q : Nat) (x0 x1 : TVal) (h : Heap) : Res1 :=
 vop O (.box (.k x1) true) h 3 fun x3 h =>
 vfaddr 1 x3 h fun x11 h =>
 vload false 1 x11 h fun x12 h =>
 vcall O (.v (.c (.func 56 []))) [x12] h 13 fun x13 h =>
 vext x13 0 h fun x14 h =>
 vext x13 1 h fun x15 h =>
 vbin .neq 0 x15 (kI 0) h fun x17 h =>
 vif x17 (
 tcomp x15 fun c0 => vfin true q [c0] h)
 (vop O (.build [(.p .nilslice), (.p (.int .i64 0)), (.p (.int .i64 0))] [(0, 1, (.k x14))]) h 20 fun x20 h =>
 vop O (.box (.k x20) true) h 21 fun x21 h =>
 vfaddr 2 x3 h fun x22 h =>
 vload false 1 x22 h fun x23 h =>
 vop O (.build [(.p (.int .i64 0)), (.p (.int .i64 0)), (.p (.str [])), (.p (.str [])), (.p .nilslice), (.p .nilslice), (.p .nilslice), (.p (.bool false)), (.p .nilslice)] [(0, 1, (.k (kI 2))), (1, 1, (.k x23))]) h 24 fun x24 h =>
 vop O (.alloc [(.p (.int .i64 0)), (.p (.int .i64 0)), (.p (.str [])), (.p (.str [])), (.p .nilslice), (.p .nilslice), (.p .nilslice), (.p (.bool false)), (.p .nilslice)] true) h 8 fun x8 h =>
 vstore 9 x8 x24 h fun _ h =>
 vcall O (.v (.c (.func 124 []))) [x21, (kI 1)] h 26 fun x26 h =>
 vguard x26 true (fun kk => kk x14 h) h fun x28 h =>
 vguard x26 true (fun kk => viaddr 4 x28 (kI 0) h kk) h fun x29 h =>
 vguard x26 true (fun kk => vfaddr 1 x29 h kk) h fun x30 h =>
 vguard x26 true (fun kk => vload false 1 x30 h kk) h fun x31 h =>
 vguard x26 true (fun kk => vcall O (.v (.c (.func 125 []))) [x31] h 32 kk) h fun x32 h =>
 vop O (.pick (.k x26) (.k x32) (.k (kB false))) h 33 fun x33 h =>
 vguard x33 true (fun kk => kk x14 h) h fun x35 h =>
 vguard x33 true (fun kk => viaddr 4 x35 (kI 0) h kk) h fun x36 h =>
 vguard x33 true (fun kk => vfaddr 1 x36 h kk) h fun x37 h =>
 vguard x33 true (fun kk => vload false 1 x37 h kk) h fun x38 h =>
 vguard x33 true (fun kk => vbin .neq 0 x38 (kS [116, 114, 117, 101]) h kk) h fun x39 h =>
 vop O (.pick (.k x33) (.k x39) (.k (kB false))) h 40 fun x40 h =>
 vguard x40 true (fun kk => kk x14 h) h fun x42 h =>
 vguard x40 true (fun kk => viaddr 4 x42 (kI 0) h kk) h fun x43 h =>
 vguard x40 true (fun kk => vfaddr 1 x43 h kk) h fun x44 h =>
 vguard x40 true (fun kk => vload false 1 x44 h kk) h fun x45 h =>
 vguard x40 true (fun kk => vbin .neq 0 x45 (kS [102, 97, 108, 115, 101]) h kk) h fun x46 h =>
 vop O (.pick (.k x40) (.k x46) (.k (kB false))) h 47 fun x47 h =>
 vif x47 (
 viaddr 4 x14 (kI 0) h fun x49 h =>
 vfaddr 1 x49 h fun x50 h =>
 vload false 1 x50 h fun x51 h =>
 vop O (.nilck (.k x21)) h 53 fun x53 h =>
 vfaddr 1 x53 h fun x54 h =>
 vload false 1 x54 h fun x55 h =>
 vbin .add 0 x55 (kI 1) h fun x56 h =>
 vop O (.nilck (.k x21)) h 57 fun x57 h =>
 vfaddr 1 x57 h fun x58 h =>
 vstore 1 x58 x56 h fun _ h =>
 R 1 [x0, x14, x21, x8, x51] h)
 (R 1 [x0, x14, x21, x8, (kS [])] h))
theorem e65_0 (O : Oracle) (R : Jump) (q : Nat) (x0 x1 : TVal) (h : Heap) : b65_0 O R q x0 x1 h = stepF c65 O R q 0 [x0, x1] h := by kernel_rfl
noncomputable def b65_1 (O : Oracle) (R : Jump) (q : Nat) (x0 x5 x7 x8 x9 : TVal) (h : Heap) : Res1 :=
 vbin .eql 0 x9 (kS [105, 102]) h fun x114 h =>
 vif x114 (
 R 2 [x0, x5, x7, x8, x9, x9, x114] h)
 (vbin .eql 0 x9 (kS [119, 105, 116, 104]) h fun x115 h =>
 vif x115 (
 R 2 [x0, x5, x7, x8, x9, x9, x115] h)
 (vbin .eql 0 x9 (kS [114, 97, 110, 103, 101]) h fun x116 h =>
 vif x116 (
 R 2 [x0, x5, x7, x8, x9, x9, x116] h)
 (vbin .eql 0 x9 (kS [109, 97, 116, 99, 104]) h fun x117 h =>
 R 2 [x0, x5, x7, x8, x9, x9, x117] h)))
theorem e65_1 (O : Oracle) (R : Jump) (q : Nat) (x0 x5 x7 x8 x9 : TVal) (h : Heap) : b65_1 O R q x0 x5 x7 x8 x9 h = stepF c65 O R q 1 [x0, x5, x7, x8, x9] h := by kernel_rfl
noncomputable def b65_2 (O : Oracle) (R : Jump) (q : Nat) (x0 x5 x7 x8 x9 x59 x113 : TVal) (h : Heap) : Res1 :=
 vif x113 (
 vcall O (.v (.c (.func 126 []))) [x9] h 119 fun x119 h =>
 vcall O (.v (.c (.func 127 []))) [x7, (kI 0)] h 121 fun x121 h =>
 vfaddr 0 x8 h fun x122 h =>
 vstore 1 x122 x119 h fun _ h =>
 vfaddr 4 x8 h fun x123 h =>
 vstore 1 x123 x121 h fun _ h =>
 R 7 [x0, x7, x8, x9] h)
 (vbin .eql 0 x59 (kS [101, 108, 115, 101]) h fun x125 h =>
 vif x125 (
 R 3 [x0, x5, x7, x8, x9, x59, x125] h)
 (vbin .eql 0 x59 (kS [101, 110, 100]) h fun x126 h =>
 R 3 [x0, x5, x7, x8, x9, x59, x126] h))
theorem e65_2 (O : Oracle) (R : Jump) (q : Nat) (x0 x5 x7 x8 x9 x59 x113 : TVal) (h : Heap) : b65_2 O R q x0 x5 x7 x8 x9 x59 x113 h = stepF c65 O R q 2 [x0, x5, x7, x8, x9, x59, x113] h := by kernel_rfl
noncomputable def b65_3 (O : Oracle) (R : Jump) (q : Nat) (x0 x5 x7 x8 x9 x59 x124 : TVal) (h : Heap) : Res1 :=
 vif x124 (
 R 7 [x0, x7, x8, x9] h)
 (vbin .eql 0 x59 (kS [99, 97, 115, 101]) h fun x128 h =>
 vif x128 (
 vcall O (.v (.c (.func 128 []))) [x7, (kI 1)] h 130 fun x130 h =>
 vfield 1 1 false x130 h fun x131 h =>
 vfaddr 3 x8 h fun x132 h =>
 vstore 1 x132 x131 h fun _ h =>
 R 7 [x0, x7, x8, x9] h)
 (vbin .eql 0 x59 (kS [100, 101, 102, 105, 110, 101]) h fun x134 h =>
 vif x134 (
 R 4 [x0, x5, x7, x8, x9, x134] h)
 (vbin .eql 0 x59 (kS [116, 101, 109, 112, 108, 97, 116, 101]) h fun x135 h =>
 R 4 [x0, x5, x7, x8, x9, x135] h)))
theorem e65_3 (O : Oracle) (R : Jump) (q : Nat) (x0 x5 x7 x8 x9 x59 x124 : TVal) (h : Heap) : b65_3 O R q x0 x5 x7 x8 x9 x59 x124 h = stepF c65 O R q 3 [x0, x5, x7, x8, x9, x59, x124] h := by kernel_rfl
noncomputable def b65_4 (O : Oracle) (R : Jump) (q : Nat) (x0 x5 x7 x8 x9 x133 : TVal) (h : Heap) : Res1 :=
 vif x133 (
 vcall O (.v (.c (.func 128 []))) [x7, (kI 2)] h 137 fun x137 h =>
 vfield 1 1 false x137 h fun x138 h =>
 vfaddr 0 x8 h fun x139 h =>
 vstore 1 x139 (kI 9) h fun _ h =>
 vfaddr 3 x8 h fun x140 h =>
 vstore 1 x140 x138 h fun _ h =>
 vbin .eql 0 x9 (kS [116, 101, 109, 112, 108, 97, 116, 101]) h fun x142 h =>
 vguard x142 true (fun kk => kk x7 h) h fun x144 h =>
 vguard x142 true (fun kk => vop O (.nilck (.k x144)) h 145 kk) h fun x145 h =>
 vguard x142 true (fun kk => vfaddr 1 x145 h kk) h fun x146 h =>
 vguard x142 true (fun kk => vload false 1 x146 h kk) h fun x147 h =>
 vguard x142 true (fun kk => kk x5 h) h fun x148 h =>
 vguard x142 true (fun kk => vlen O 2 x148 h 149 kk) h fun x149 h =>
 vguard x142 true (fun kk => vbin .lss 0 x147 x149 h kk) h fun x150 h =>
 vop O (.pick (.k x142) (.k x150) (.k (kB false))) h 151 fun x151 h =>
 vif x151 (
 vcall O (.v (.c (.func 127 []))) [x7, (kI 0)] h 153 fun x153 h =>
 vfaddr 4 x8 h fun x154 h =>
 vstore 1 x154 x153 h fun _ h =>
 R 7 [x0, x7, x8, x9] h)
 (R 7 [x0, x7, x8, x9] h))
 (vlen O 2 x5 h 61 fun x61 h =>
 vbin .gtr 0 x61 (kI 2) h fun x62 h =>
 vguard x62 true (fun kk => kk x7 h) h fun x64 h =>
 vguard x62 true (fun kk => vcall O (.v (.c (.func 129 []))) [x64, (kS [36])] h 65 kk) h fun x65 h =>
 vop O (.pick (.k x62) (.k x65) (.k (kB false))) h 66 fun x66 h =>
 vguard x66 true (fun kk => kk x5 h) h fun x68 h =>
 vguard x66 true (fun kk => viaddr 4 x68 (kI 1) h kk) h fun x69 h =>
 vguard x66 true (fun kk => vfaddr 0 x69 h kk) h fun x70 h =>
 vguard x66 true (fun kk => vload false 1 x70 h kk) h fun x71 h =>
 vguard x66 true (fun kk => vbin .eql 0 x71 (kI 1) h kk) h fun x72 h =>
 vop O (.pick (.k x66) (.k x72) (.k (kB false))) h 73 fun x73 h =>
 vguard x73 true (fun kk => kk x5 h) h fun x75 h =>
 vguard x73 true (fun kk => viaddr 4 x75 (kI 2) h kk) h fun x76 h =>
 vguard x73 true (fun kk => vfaddr 0 x76 h kk) h fun x77 h =>
 vguard x73 true (fun kk => vload false 1 x77 h kk) h fun x78 h =>
 vguard x73 true (fun kk => vbin .eql 0 x78 (kI 4) h kk) h fun x79 h =>
 vop O (.pick (.k x73) (.k x79) (.k (kB false))) h 80 fun x80 h =>
 vguard x80 true (fun kk => kk x5 h) h fun x82 h =>
 vguard x80 true (fun kk => viaddr 4 x82 (kI 2) h kk) h fun x83 h =>
 vguard x80 true (fun kk => vfaddr 1 x83 h kk) h fun x84 h =>
 vguard x80 true (fun kk => vload false 1 x84 h kk) h fun x85 h =>
 vguard x80 true (fun kk => vbin .eql 0 x85 (kS [58, 61]) h kk) h fun x86 h =>
 vguard x80 true (fun kk => kk x86 h) h fun x87 h =>
 vguard x87 false (fun kk => kk x5 h) h fun x88 h =>
 vguard x87 false (fun kk => viaddr 4 x88 (kI 2) h kk) h fun x89 h =>
 vguard x87 false (fun kk => vfaddr 1 x89 h kk) h fun x90 h =>
 vguard x87 false (fun kk => vload false 1 x90 h kk) h fun x91 h =>
 vguard x87 false (fun kk => vbin .eql 0 x91 (kS [61]) h kk) h fun x92 h =>
 vguard x80 true (fun kk => vop O (.pick (.k x87) (.k (kB true)) (.k x92)) h 93 kk) h fun x93 h =>
 vop O (.pick (.k x80) (.k x93) (.k (kB false))) h 94 fun x94 h =>
 vif x94 (
 vtouch O (.mv (.k x5)) h 95 fun x95 h t0 =>
 vtouch O (.iaddr 4 (.k x95) (.k (kI 1))) h 96 fun x96 h t1 =>
 vtouch O (.faddr 1 (.k x96)) h 97 fun x97 h t2 =>
 vtouch O (.load false 1 (.k x97)) h 98 fun x98 h t3 =>
 vtouch O (.faddr 0 (.k x8)) h 99 fun x99 h t4 =>
 vtouch O (.store 1 (.k x99) (.k (kI 3))) h 1000000 fun _ h t5 =>
 vtouch O (.faddr 3 (.k x8)) h 100 fun x100 h t6 =>
 vtouch O (.store 1 (.k x100) (.k x98)) h 1000000 fun _ h t7 =>
 bif apartAll [t0, t1, t2, t3, t4, t5, t6, t7] [(3, 5)] then
 viaddr 4 x5 (kI 2) h fun x102 h =>
 vfaddr 1 x102 h fun x103 h =>
 vload false 1 x103 h fun x104 h =>
 vbin .eql 0 x104 (kS [61]) h fun x105 h =>
 vif x105 (
 vfaddr 0 x8 h fun x106 h =>
 vstore 1 x106 (kI 4) h fun _ h =>
 R 5 [x0, x7, x8, x9] h)
 (R 5 [x0, x7, x8, x9] h)
 else none)
 (R 6 [x0, x7, x8, x9] h))
theorem e65_4 (O : Oracle) (R : Jump) (q : Nat) (x0 x5 x7 x8 x9 x133 : TVal) (h : Heap) : b65_4 O R q x0 x5 x7 x8 x9 x133 h = stepF c65 O R q 4 [x0, x5, x7, x8, x9, x133] h := by kernel_rfl
noncomputable def b65_5 (O : Oracle) (R : Jump) (q : Nat) (x0 x7 x8 x9 : TVal) (h : Heap) : Res1 :=
 vop O (.nilck (.k x7)) h 108 fun x108 h =>
 vfaddr 1 x108 h fun x109 h =>
 vstore 1 x109 (kI 3) h fun _ h =>
 R 6 [x0, x7, x8, x9] h
theorem e65_5 (O : Oracle) (R : Jump) (q : Nat) (x0 x7 x8 x9 : TVal) (h : Heap) : b65_5 O R q x0 x7 x8 x9 h = stepF c65 O R q 5 [x0, x7, x8, x9] h := by kernel_rfl
noncomputable def b65_6 (O : Oracle) (R : Jump) (q : Nat) (x0 x7 x8 x9 : TVal) (h : Heap) : Res1 :=
 vcall O (.v (.c (.func 127 []))) [x7, (kI 0)] h 111 fun x111 h =>
 vfaddr 4 x8 h fun x112 h =>
 vstore 1 x112 x111 h fun _ h =>
 R 7 [x0, x7, x8, x9] h
theorem e65_6 (O : Oracle) (R : Jump) (q : Nat) (x0 x7 x8 x9 : TVal) (h : Heap) : b65_6 O R q x0 x7 x8 x9 h = stepF c65 O R q 6 [x0, x7, x8, x9] h := by kernel_rfl
noncomputable def b65_7 (O : Oracle) (R : Jump) (q : Nat) (x0 x7 x8 x9 : TVal) (h : Heap) : Res1 :=
 vcall O (.v (.c (.func 130 []))) [x7] h 156 fun x156 h =>
 vbin .neq 0 x156 (kI 0) h fun x157 h =>
 vif x157 (
 vop O (.nilck (.k x7)) h 159 fun x159 h =>
 vfaddr 2 x159 h fun x160 h =>
 vload false 1 x160 h fun x161 h =>
 tcomp x161 fun c0 => vfin true q [c0] h)
 (vload true 9 x8 h fun x164 h =>
 vcall O (.v (.c (.func 131 []))) [x0, x9, x164] h 165 fun x165 h =>
 tcomp x165 fun c0 => vfin true q [c0] h)
theorem e65_7 (O : Oracle) (R : Jump) (q : Nat) (x0 x7 x8 x9 : TVal) (h : Heap) : b65_7 O R q x0 x7 x8 x9 h = stepF c65 O R q 7 [x0, x7, x8, x9] h := by kernel_rfl
noncomputable def d65 : BlkF := fun O R q => [.s fun y0 => .s fun y1 => .z fun h => b65_0 O R q y0 y1 h, .s fun y0 => .s fun y1 => .s fun y2 => .s fun y3 => .s fun y4 => .z fun h => b65_1 O R q y0 y1 y2 y3 y4 h, .s fun y0 => .s fun y1 => .s fun y2 => .s fun y3 => .s fun y4 => .s fun y5 => .s fun y6 => .z fun h => b65_2 O R q y0 y1 y2 y3 y4 y5 y6 h, .s fun y0 => .s fun y1 => .s fun y2 => .s fun y3 => .s fun y4 => .s fun y5 => .s fun y6 => .z fun h => b65_3 O R q y0 y1 y2 y3 y4 y5 y6 h, .s fun y0 => .s fun y1 => .s fun y2 => .s fun y3 => .s fun y4 => .s fun y5 => .z fun h => b65_4 O R q y0 y1 y2 y3 y4 y5 h, .s fun y0 => .s fun y1 => .s fun y2 => .s fun y3 => .z fun h => b65_5 O R q y0 y1 y2 y3 h, .s fun y0 => .s fun y1 => .s fun y2 => .s fun y3 => .z fun h => b65_6 O R q y0 y1 y2 y3 h, .s fun y0 => .s fun y1 => .s fun y2 => .s fun y3 => .z fun h => b65_7 O R q y0 y1 y2 y3 h]
theorem o65 (O : Oracle) (R : Jump) (q : Nat) : HoldsAll c65 O R q 0 (d65 O R q) := ⟨fun y0 y1 h => e65_0 O R q y0 y1 h, fun y0 y1 y2 y3 y4 h => e65_1 O R q y0 y1 y2 y3 y4 h, fun y0 y1 y2 y3 y4 y5 y6 h => e65_2 O R q y0 y1 y2 y3 y4 y5 y6 h, fun y0 y1 y2 y3 y4 y5 y6 h => e65_3 O R q y0 y1 y2 y3 y4 y5 y6 h, fun y0 y1 y2 y3 y4 y5 h => e65_4 O R q y0 y1 y2 y3 y4 y5 h, fun y0 y1 y2 y3 h => e65_5 O R q y0 y1 y2 y3 h, fun y0 y1 y2 y3 h => e65_6 O R q y0 y1 y2 y3 h, fun y0 y1 y2 y3 h => e65_7 O R q y0 y1 y2 y3 h, trivial⟩
/- (*sprue/sprueref7.parser).text -/
def c66 : MFunc := { np := 2, res := [.t 4], frz := true, body := (.seq (.reg [(oA 3 (.box (.t 1) true)), (oA 4 (.mv (.k (.v (.c (.p (.int .i64 0)))))))] []) (.seq (.reg [(oA 6 (.faddr 2 (.t 3))), (oA 7 (.load false 1 (.t 6))), (oA 8 (.faddr 1 (.t 3))), (oA 9 (.load false 1 (.t 8))), (oA 10 (.build [(.p (.int .i64 0)), (.p (.int .i64 0)), (.p (.str [])), (.p (.str [])), (.p .nilslice), (.p .nilslice), (.p .nilslice), (.p (.bool false)), (.p .nilslice)] [(0, 1, (.k (.v (.c (.p (.int .i64 1)))))), (1, 1, (.t 7)), (2, 1, (.t 9))])), (oA 5 (.alloc [(.p (.int .i64 0)), (.p (.int .i64 0)), (.p (.str [])), (.p (.str [])), (.p .nilslice), (.p .nilslice), (.p .nilslice), (.p (.bool false)), (.p .nilslice)] true)), (oN (.store 9 (.t 5) (.t 10)))] []) (.seq (.seq (.reg [(oA 11 (.mv (.t 0))), (oA 12 (.load true 9 (.t 5))), (oA 13 (.call (.k (.v (.c (.func 132 [])))) [(.t 11), (.t 12)])), (oA 14 (.mv (.t 13))), ⟨(some 15), (.faddr 1 (.t 3)), (some (14, false))⟩, ⟨(some 16), (.load false 1 (.t 15)), (some (14, false))⟩, ⟨(some 17), (.call (.k (.v (.c (.func 133 [])))) [(.t 16)]), (some (14, false))⟩, (oA 18 (.pick (.t 14) (.k (.v (.c (.p (.bool true))))) (.t 17)))] []) (.cond (.t 18) (.seq (.reg [(oA 4 (.mv (.k (.v (.c (.p (.int .i64 0)))))))] []) .ret) .skip)) (.seq (.reg [(oA 4 (.mv (.k (.v (.c (.p (.int .i64 12)))))))] []) .ret)))) }
theorem t66 : compF Tryz.prog (globs2 tabs opq) (fun _ => true) true Tryz.f66 = some c66.erase := by kernel_rfl
noncomputable def b66_0 (O : Oracle) (R : Jump) (q : Nat) (x0 x1 : TVal) (h : Heap) : Res1 :=
 vop O (.box (.k x1) true) h 3 fun x3 h =>
 vfaddr 2 x3 h fun x6 h =>
 vload false 1 x6 h fun x7 h =>
 vfaddr 1 x3 h fun x8 h =>
 vload false 1 x8 h fun x9 h =>
 vop O (.build [(.p (.int .i64 0)), (.p (.int .i64 0)), (.p (.str [])), (.p (.str [])), (.p .nilslice), (.p .nilslice), (.p .nilslice), (.p (.bool false)), (.p .nilslice)] [(0, 1, (.k (kI 1))), (1, 1, (.k x7)), (2, 1, (.k x9))]) h 10 fun x10 h =>
 vop O (.alloc [(.p (.int .i64 0)), (.p (.int .i64 0)), (.p (.str [])), (.p (.str [])), (.p .nilslice), (.p .nilslice), (.p .nilslice), (.p (.bool false)), (.p .nilslice)] true) h 5 fun x5 h =>
 vstore 9 x5 x10 h fun _ h =>
 vload true 9 x5 h fun x12 h =>
 vcall O (.v (.c (.func 132 []))) [x0, x12] h 13 fun x13 h =>
 vguard x13 false (fun kk => vfaddr 1 x3 h kk) h fun x15 h =>
 vguard x13 false (fun kk => vload false 1 x15 h kk) h fun x16 h =>
 vguard x13 false (fun kk => vcall O (.v (.c (.func 133 []))) [x16] h 17 kk) h fun x17 h =>
 vop O (.pick (.k x13) (.k (kB true)) (.k x17)) h 18 fun x18 h =>
 vif x18 (
 tcomp (kI 0) fun c0 => vfin true q [c0] h)
 (tcomp (kI 12) fun c0 => vfin true q [c0] h)
theorem e66_0 (O : Oracle) (R : Jump) (q : Nat) (x0 x1 : TVal) (h : Heap) : b66_0 O R q x0 x1 h = stepF c66 O R q 0 [x0, x1] h := by kernel_rfl
noncomputable def d66 : BlkF := fun O R q => [.s fun y0 => .s fun y1 => .z fun h => b66_0 O R q y0 y1 h]
theorem o66 (O : Oracle) (R : Jump) (q : Nat) : HoldsAll c66 O R q 0 (d66 O R q) := ⟨fun y0 y1 h => e66_0 O R q y0 y1 h, trivial⟩
/- sprue/interp.bound -/
def c67 : MFunc := { np := 2, res := [.t 4], frz := true, body := (.seq (.reg [(oA 4 (.mv (.k (.v (.c (.p (.int .i64 0)))))))] []) (.seq (.reg [(oA 5 (.mv (.t 0))), (oA 6 (.minmax true [(.t 5), (.k (.v (.c (.p (.int .i64 0)))))])), (oA 7 (.mv (.t 1))), (oA 8 (.minmax false [(.t 6), (.t 7)])), (oA 4 (.mv (.t 8)))] []) .ret)) }
theorem t67 : compF Tryz.prog (globs2 tabs opq) (fun _ => false) true Tryz.f67 = some c67.erase := by kernel_rfl
noncomputable def b67_0 (O : Oracle) (R : Jump) (q : Nat) (x0 x1 : TVal) (h : Heap) : Res1 :=
 vop O (.minmax true [(.k x0), (.k (kI 0))]) h 6 fun x6 h =>
 vop O (.minmax false [(.k x6), (.k x1)]) h 8 fun x8 h =>
 tcomp x8 fun c0 => vfin true q [c0] h
theorem e67_0 (O : Oracle) (R : Jump) (q : Nat) (x0 x1 : TVal) (h : Heap) : b67_0 O R q x0 x1 h = stepF c67 O R q 0 [x0, x1] h := by kernel_rfl
noncomputable def d67 : BlkF := fun O R q => [.s fun y0 => .s fun y1 => .z fun h => b67_0 O R q y0 y1 h]
theorem o67 (O : Oracle) (R : Jump) (q : Nat) : HoldsAll c67 O R q 0 (d67 O R q) := ⟨fun y0 y1 h => e67_0 O R q y0 y1 h, trivial⟩
/- (*sprue/interp.run).row -/
def c68 : MFunc := { np := 3, res := [.t 6], frz := true, body := (.seq (.reg [(oA 4 (.box (.t 1) true)), (oA 6 (.mv (.k (.v (.c (.p (.int .i64 0)))))))] []) (.seq (.seq (.reg [(oA 12 (.mv (.t 2))), (oA 13 (.len 2 (.t 12))), (oA 14 (.mv (.k (.v (.c (.p (.int .i64 0)))))))] []) (.block 0 (.loop 1 [0, 4, 12, 13, 14] (.seq (.reg [(oA 15 (.bin .lss 0 (.t 14) (.t 13)))] []) (.seq (.cond (.t 15) .skip (.exit 0)) (.seq (.block 1 (.seq (.reg [(oA 16 (.iaddr 9 (.t 12) (.t 14))), (oA 17 (.load true 9 (.t 16))), (oA 8 (.alloc [(.p (.int .i64 0)), (.p (.int .i64 0)), (.p (.str [])), (.p (.str [])), (.p .nilslice), (.p .nilslice), (.p .nilslice), (.p (.bool false)), (.p .nilslice)] true)), (oN (.store 9 (.t 8) (.t 17)))] []) (.seq (.seq (.reg [(oA 18 (.mv (.t 0))), (oA 19 (.call (.k (.v (.c (.func 134 [])))) [(.t 18)])), (oA 9 (.mv (.t 19)))] []) (.seq (.reg [(oA 20 (.mv (.t 9))), (oA 21 (.bin .neq 0 (.t 20) (.k (.v (.c (.p (.int .i64 0)))))))] []) (.cond (.t 21) (.seq (.reg [(oA 22 (.mv (.t 9))), (oA 6 (.mv (.t 22)))] []) .ret) .skip))) (.seq (.reg [(oA 23 (.faddr 0 (.t 4))), (oA 24 (.load true 6 (.t 23))), (oA 10 (.alloc [(.p (.int .i64 0)), (.p (.bool false)), (.p (.int .i64 0)), (.p (.str [])), (.p .nilslice), (.p .nilslice)] true)), (oN (.store 6 (.t 10) (.t 24))), (oA 11 (.mv (.k (.v (.c (.p (.int .i64 0)))))))] []) (.seq (.block 2 (.seq (.block 5 (.block 4 (.seq (.block 3 (.seq (.seq (.seq (.reg [(oA 26 (.faddr 0 (.t 8))), (oA 27 (.load false 1 (.t 26))), (oA 28 (.bin .eql 0 (.t 27) (.k (.v (.c (.p (.int .i64 1))))))), (oA 25 (.mv (.t 28)))] []) (.cond (.t 25) (.exit 3) .skip)) (.seq (.reg [(oA 30 (.faddr 0 (.t 8))), (oA 31 (.load false 1 (.t 30))), (oA 32 (.bin .eql 0 (.t 31) (.k (.v (.c (.p (.int .i64 9))))))), (oA 33 (.mv (.t 32))), ⟨(some 34), (.faddr 4 (.t 8)), (some (33, true))⟩, ⟨(some 35), (.load false 1 (.t 34)), (some (33, true))⟩, ⟨(some 36), (.len 2 (.t 35)), (some (33, true))⟩, ⟨(some 37), (.bin .eql 0 (.t 36) (.k (.v (.c (.p (.int .i64 0)))))), (some (33, true))⟩, (oA 38 (.pick (.t 33) (.t 37) (.k (.v (.c (.p (.bool false))))))), (oA 29 (.mv (.t 38)))] []) (.cond (.t 29) (.exit 4) .skip))) (.exit 5))) (.seq (.reg [(oA 39 (.mv (.t 0))), (oA 40 (.faddr 2 (.t 8))), (oA 41 (.load false 1 (.t 40))), (oA 42 (.call (.k (.v (.c (.func 135 [])))) [(.t 39), (.t 41)])), (oA 11 (.mv (.t 42)))] []) (.exit 2))))) (.mark 2 [0, 4, 8, 10, 11, 12, 13, 14] (.seq (.seq (.seq (.reg [(oA 43 (.faddr 0 (.t 8))), (oA 44 (.load false 1 (.t 43))), (oA 45 (.bin .neq 0 (.t 44) (.k (.v (.c (.p (.int .i64 9))))))), (oA 46 (.mv (.t 45))), ⟨(some 47), (.faddr 4 (.t 8)), (some (46, false))⟩, ⟨(some 48), (.load false 1 (.t 47)), (some (46, false))⟩, ⟨(some 49), (.len 2 (.t 48)), (some (46, false))⟩, ⟨(some 50), (.bin .gtr 0 (.t 49) (.k (.v (.c (.p (.int .i64 0)))))), (some (46, false))⟩, (oA 51 (.pick (.t 46) (.k (.v (.c (.p (.bool true))))) (.t 50)))] []) (.cond (.t 51) (.reg [(oA 53 (.mv (.t 0))), (oA 54 (.load true 8 (.t 4))), (oA 55 (.faddr 4 (.t 8))), (oA 56 (.load false 1 (.t 55))), (oA 57 (.call (.k (.v (.c (.func 136 [])))) [(.t 53), (.t 54), (.t 56)])), (oA 52 (.mv (.t 57))), (oA 58 (.extract (.t 52) 0)), (oA 59 (.extract (.t 52) 1)), (oN (.store 6 (.t 10) (.t 58))), (oA 11 (.mv (.t 59)))] []) .skip)) (.mark 3 [0, 4, 8, 10, 11, 12, 13, 14] (.seq (.reg [(oA 60 (.mv (.t 11))), (oA 61 (.bin .eql 0 (.t 60) (.k (.v (.c (.p (.int .i64 0)))))))] []) (.cond (.t 61) (.reg [(oA 62 (.mv (.t 0))), (oA 63 (.load true 8 (.t 4))), (oA 64 (.load true 9 (.t 8))), (oA 65 (.load true 6 (.t 10))), (oA 66 (.call (.k (.v (.c (.func 137 [])))) [(.t 62), (.t 63), (.t 64), (.t 65)])), (oA 11 (.mv (.t 66)))] []) .skip)))) (.mark 4 [0, 4, 8, 10, 11, 12, 13, 14] (.exit 2)))))) (.mark 5 [0, 4, 8, 10, 11, 12, 13, 14] (.seq (.seq (.reg [(oA 67 (.mv (.t 11))), (oA 68 (.bin .neq 0 (.t 67) (.k (.v (.c (.p (.int .i64 0)))))))] []) (.cond (.t 68) (.seq (.reg [(oA 69 (.mv (.t 11))), (oA 6 (.mv (.t 69)))] []) .ret) .skip)) (.seq (.reg [(oA 70 (.faddr 0 (.t 8))), (oA 71 (.load false 1 (.t 70))), (oA 72 (.bin .eql 0 (.t 71) (.k (.v (.c (.p (.int .i64 3)))))))] []) (.cond (.t 72) (.reg [(oA 73 (.faddr 6 (.t 4))), (oA 74 (.load false 1 (.t 73))), (oA 75 (.call (.k (.v (.c (.func 138 [])))) [(.t 74)])), (oA 76 (.faddr 3 (.t 8))), (oA 77 (.load false 1 (.t 76))), (oA 78 (.load true 6 (.t 10))), (oA 79 (.build [(.p (.str [])), (.p (.int .i64 0)), (.p (.bool false)), (.p (.int .i64 0)), (.p (.str [])), (.p .nilslice), (.p .nilslice)] [(0, 1, (.t 77)), (1, 6, (.t 78))])), (oA 80 (.box (.t 79) true)), (oA 81 (.bslice 1 1 [(.p .nilptr)] [(0, (.t 80))] true)), (oA 82 (.append 1 8 true (.t 75) (.t 81))), (oA 83 (.faddr 6 (.t 4))), (oN (.store 1 (.t 83) (.t 82)))] [(2, 4), (2, 5), (1, 7), (2, 7), (1, 8), (2, 8)]) .skip))))))))) (.mark 6 [0, 4, 12, 13, 14] (.reg [(oA 84 (.bin .add 0 (.t 14) (.k (.v (.c (.p (.int .i64 1))))))), (oA 14 (.mv (.t 84)))] [])))))))) (.seq (.reg [(oA 6 (.mv (.k (.v (.c (.p (.int .i64 0)))))))] []) .ret))) }
theorem t68 : compF Tryz.prog (globs2 tabs opq) (fun _ => true) true Tryz.f68 = some c68.erase := by kernel_rfl
noncomputable def b68_0 (O : Oracle) (R : Jump) (q : Nat) (x0 x1 x2 : TVal) (h : Heap) : Res1 :=
 vop O (.box (.k x1) true) h 4 fun x4 h =>
 vlen O 2 x2 h 13 fun x13 h =>
 R 1 [x0, x4, x2, x13, (kI 0)] h
theorem e68_0 (O : Oracle) (R : Jump) (q : Nat) (x0 x1 x2 : TVal) (h : Heap) : b68_0 O R q x0 x1 x2 h = stepF c68 O R q 0 [x0, x1, x2] h := by kernel_rfl
noncomputable def b68_1 (O : Oracle) (R : Jump) (q : Nat) (x0 x4 x12 x13 x14 : TVal) (h : Heap) : Res1 :=
 vbin .lss 0 x14 x13 h fun x15 h =>
 vif x15 (
 viaddr 9 x12 x14 h fun x16 h =>
 vload true 9 x16 h fun x17 h =>
 vop O (.alloc [(.p (.int .i64 0)), (.p (.int .i64 0)), (.p (.str [])), (.p (.str [])), (.p .nilslice), (.p .nilslice), (.p .nilslice), (.p (.bool false)), (.p .nilslice)] true) h 8 fun x8 h =>
 vstore 9 x8 x17 h fun _ h =>
 vcall O (.v (.c (.func 134 []))) [x0] h 19 fun x19 h =>
 vbin .neq 0 x19 (kI 0) h fun x21 h =>
 vif x21 (
 tcomp x19 fun c0 => vfin true q [c0] h)
 (vfaddr 0 x4 h fun x23 h =>
 vload true 6 x23 h fun x24 h =>
 vop O (.alloc [(.p (.int .i64 0)), (.p (.bool false)), (.p (.int .i64 0)), (.p (.str [])), (.p .nilslice), (.p .nilslice)] true) h 10 fun x10 h =>
 vstore 6 x10 x24 h fun _ h =>
 vfaddr 0 x8 h fun x26 h =>
 vload false 1 x26 h fun x27 h =>
 vbin .eql 0 x27 (kI 1) h fun x28 h =>
 vif x28 (
 vfaddr 2 x8 h fun x40 h =>
 vload false 1 x40 h fun x41 h =>
 vcall O (.v (.c (.func 135 []))) [x0, x41] h 42 fun x42 h =>
 R 5 [x0, x4, x8, x10, x42, x12, x13, x14] h)
 (vfaddr 0 x8 h fun x30 h =>
 vload false 1 x30 h fun x31 h =>
 vbin .eql 0 x31 (kI 9) h fun x32 h =>
 vguard x32 true (fun kk => vfaddr 4 x8 h kk) h fun x34 h =>
 vguard x32 true (fun kk => vload false 1 x34 h kk) h fun x35 h =>
 vguard x32 true (fun kk => vlen O 2 x35 h 36 kk) h fun x36 h =>
 vguard x32 true (fun kk => vbin .eql 0 x36 (kI 0) h kk) h fun x37 h =>
 vop O (.pick (.k x32) (.k x37) (.k (kB false))) h 38 fun x38 h =>
 vif x38 (
 R 2 [x0, x4, x8, x10, (kI 0), x12, x13, x14] h)
 (R 2 [x0, x4, x8, x10, (kI 0), x12, x13, x14] h))))
 (tcomp (kI 0) fun c0 => vfin true q [c0] h)
theorem e68_1 (O : Oracle) (R : Jump) (q : Nat) (x0 x4 x12 x13 x14 : TVal) (h : Heap) : b68_1 O R q x0 x4 x12 x13 x14 h = stepF c68 O R q 1 [x0, x4, x12, x13, x14] h := by kernel_rfl
noncomputable def b68_2 (O : Oracle) (R : Jump) (q : Nat) (x0 x4 x8 x10 x11 x12 x13 x14 : TVal) (h : Heap) : Res1 :=
 vfaddr 0 x8 h fun x43 h =>
 vload false 1 x43 h fun x44 h =>
 vbin .neq 0 x44 (kI 9) h fun x45 h =>
 vguard x45 false (fun kk => vfaddr 4 x8 h kk) h fun x47 h =>
 vguard x45 false (fun kk => vload false 1 x47 h kk) h fun x48 h =>
 vguard x45 false (fun kk => vlen O 2 x48 h 49 kk) h fun x49 h =>
 vguard x45 false (fun kk => vbin .gtr 0 x49 (kI 0) h kk) h fun x50 h =>
 vop O (.pick (.k x45) (.k (kB true)) (.k x50)) h 51 fun x51 h =>
 vif x51 (
 vload true 8 x4 h fun x54 h =>
 vfaddr 4 x8 h fun x55 h =>
 vload false 1 x55 h fun x56 h =>
 vcall O (.v (.c (.func 136 []))) [x0, x54, x56] h 57 fun x57 h =>
 vext x57 0 h fun x58 h =>
 vext x57 1 h fun x59 h =>
 vstore 6 x10 x58 h fun _ h =>
 R 3 [x0, x4, x8, x10, x59, x12, x13, x14] h)
 (R 3 [x0, x4, x8, x10, x11, x12, x13, x14] h)
theorem e68_2 (O : Oracle) (R : Jump) (q : Nat) (x0 x4 x8 x10 x11 x12 x13 x14 : TVal) (h : Heap) : b68_2 O R q x0 x4 x8 x10 x11 x12 x13 x14 h = stepF c68 O R q 2 [x0, x4, x8, x10, x11, x12, x13, x14] h := by kernel_rfl
noncomputable def b68_3 (O : Oracle) (R : Jump) (q : Nat) (x0 x4 x8 x10 x11 x12 x13 x14 : TVal) (h : Heap) : Res1 :=
 vbin .eql 0 x11 (kI 0) h fun x61 h =>
 vif x61 (
 vload true 8 x4 h fun x63 h =>
 vload true 9 x8 h fun x64 h =>
 vload true 6 x10 h fun x65 h =>
 vcall O (.v (.c (.func 137 []))) [x0, x63, x64, x65] h 66 fun x66 h =>
 R 4 [x0, x4, x8, x10, x66, x12, x13, x14] h)
 (R 4 [x0, x4, x8, x10, x11, x12, x13, x14] h)
theorem e68_3 (O : Oracle) (R : Jump) (q : Nat) (x0 x4 x8 x10 x11 x12 x13 x14 : TVal) (h : Heap) : b68_3 O R q x0 x4 x8 x10 x11 x12 x13 x14 h = stepF c68 O R q 3 [x0, x4, x8, x10, x11, x12, x13, x14] h := by kernel_rfl
noncomputable def b68_4 (O : Oracle) (R : Jump) (q : Nat) (x0 x4 x8 x10 x11 x12 x13 x14 : TVal) (h : Heap) : Res1 :=
 R 5 [x0, x4, x8, x10, x11, x12, x13, x14] h
theorem e68_4 (O : Oracle) (R : Jump) (q : Nat) (x0 x4 x8 x10 x11 x12 x13 x14 : TVal) (h : Heap) : b68_4 O R q x0 x4 x8 x10 x11 x12 x13 x14 h = stepF c68 O R q 4 [x0, x4, x8, x10, x11, x12, x13, x14] h := by kernel_rfl
noncomputable def b68_5 (O : Oracle) (R : Jump) (q : Nat) (x0 x4 x8 x10 x11 x12 x13 x14 : TVal) (h : Heap) : Res1 :=
 vbin .neq 0 x11 (kI 0) h fun x68 h =>
 vif x68 (
 tcomp x11 fun c0 => vfin true q [c0] h)
 (vfaddr 0 x8 h fun x70 h =>
 vload false 1 x70 h fun x71 h =>
 vbin .eql 0 x71 (kI 3) h fun x72 h =>
 vif x72 (
 vtouch O (.faddr 6 (.k x4)) h 73 fun x73 h t0 =>
 vtouch O (.load false 1 (.k x73)) h 74 fun x74 h t1 =>
 vtouch O (.call (.k (.v (.c (.func 138 [])))) [(.k x74)]) h 75 fun x75 h t2 =>
 vtouch O (.faddr 3 (.k x8)) h 76 fun x76 h t3 =>
 vtouch O (.load false 1 (.k x76)) h 77 fun x77 h t4 =>
 vtouch O (.load true 6 (.k x10)) h 78 fun x78 h t5 =>
 vtouch O (.build [(.p (.str [])), (.p (.int .i64 0)), (.p (.bool false)), (.p (.int .i64 0)), (.p (.str [])), (.p .nilslice), (.p .nilslice)] [(0, 1, (.k x77)), (1, 6, (.k x78))]) h 79 fun x79 h t6 =>
 vtouch O (.box (.k x79) true) h 80 fun x80 h t7 =>
 vtouch O (.bslice 1 1 [(.p .nilptr)] [(0, (.k x80))] true) h 81 fun x81 h t8 =>
 vtouch O (.append 1 8 true (.k x75) (.k x81)) h 82 fun x82 h t9 =>
 vtouch O (.faddr 6 (.k x4)) h 83 fun x83 h t10 =>
 vtouch O (.store 1 (.k x83) (.k x82)) h 1000000 fun _ h t11 =>
 bif apartAll [t0, t1, t2, t3, t4, t5, t6, t7, t8, t9, t10, t11] [(2, 4), (2, 5), (1, 7), (2, 7), (1, 8), (2, 8)] then
 R 6 [x0, x4, x12, x13, x14] h
 else none)
 (R 6 [x0, x4, x12, x13, x14] h))
theorem e68_5 (O : Oracle) (R : Jump) (q : Nat) (x0 x4 x8 x10 x11 x12 x13 x14 : TVal) (h : Heap) : b68_5 O R q x0 x4 x8 x10 x11 x12 x13 x14 h = stepF c68 O R q 5 [x0, x4, x8, x10, x11, x12, x13, x14] h := by kernel_rfl
noncomputable def b68_6 (O : Oracle) (R : Jump) (q : Nat) (x0 x4 x12 x13 x14 : TVal) (h : Heap) : Res1 :=
 vbin .add 0 x14 (kI 1) h fun x84 h =>
 R 1 [x0, x4, x12, x13, x84] h
theorem e68_6 (O : Oracle) (R : Jump) (q : Nat) (x0 x4 x12 x13 x14 : TVal) (h : Heap) : b68_6 O R q x0 x4 x12 x13 x14 h = stepF c68 O R q 6 [x0, x4, x12, x13, x14] h := by kernel_rfl
noncomputable def d68 : BlkF := fun O R q => [.s fun y0 => .s fun y1 => .s fun y2 => .z fun h => b68_0 O R q y0 y1 y2 h, .s fun y0 => .s fun y1 => .s fun y2 => .s fun y3 => .s fun y4 => .z fun h => b68_1 O R q y0 y1 y2 y3 y4 h, .s fun y0 => .s fun y1 => .s fun y2 => .s fun y3 => .s fun y4 => .s fun y5 => .s fun y6 => .s fun y7 => .z fun h => b68_2 O R q y0 y1 y2 y3 y4 y5 y6 y7 h, .s fun y0 => .s fun y1 => .s fun y2 => .s fun y3 => .s fun y4 => .s fun y5 => .s fun y6 => .s fun y7 => .z fun h => b68_3 O R q y0 y1 y2 y3 y4 y5 y6 y7 h, .s fun y0 => .s fun y1 => .s fun y2 => .s fun y3 => .s fun y4 => .s fun y5 => .s fun y6 => .s fun y7 => .z fun h => b68_4 O R q y0 y1 y2 y3 y4 y5 y6 y7 h, .s fun y0 => .s fun y1 => .s fun y2 => .s fun y3 => .s fun y4 => .s fun y5 => .s fun y6 => .s fun y7 => .z fun h => b68_5 O R q y0 y1 y2 y3 y4 y5 y6 y7 h, .s fun y0 => .s fun y1 => .s fun y2 => .s fun y3 => .s fun y4 => .z fun h => b68_6 O R q y0 y1 y2 y3 y4 h]
theorem o68 (O : Oracle) (R : Jump) (q : Nat) : HoldsAll c68 O R q 0 (d68 O R q) := ⟨fun y0 y1 y2 h => e68_0 O R q y0 y1 y2 h, fun y0 y1 y2 y3 y4 h => e68_1 O R q y0 y1 y2 y3 y4 h, fun y0 y1 y2 y3 y4 y5 y6 y7 h => e68_2 O R q y0 y1 y2 y3 y4 y5 y6 y7 h, fun y0 y1 y2 y3 y4 y5 y6 y7 h => e68_3 O R q y0 y1 y2 y3 y4 y5 y6 y7 h, fun y0 y1 y2 y3 y4 y5 y6 y7 h => e68_4 O R q y0 y1 y2 y3 y4 y5 y6 y7 h, fun y0 y1 y2 y3 y4 y5 y6 y7 h => e68_5 O R q y0 y1 y2 y3 y4 y5 y6 y7 h, fun y0 y1 y2 y3 y4 h => e68_6 O R q y0 y1 y2 y3 y4 h, trivial⟩
/- sprue/interp.own -/
def c69 : MFunc := { np := 1, res := [.cell 2 true 6], frz := true, body := (.seq (.reg [(oA 1 (.box (.t 0) false)), (oA 2 (.alloc [(.p (.int .i64 0)), (.p (.bool false)), (.p (.int .i64 0)), (.p (.str [])), (.p .nilslice), (.p .nilslice)] false))] []) (.seq (.reg [(oA 6 (.bslice 1 1 [(.p (.str []))] [(0, (.k (.v (.c (.p (.str []))))))] false)), (oA 7 (.load true 6 (.t 1))), (oA 8 (.bslice 6 1 [(.p (.int .i64 0)), (.p (.bool false)), (.p (.int .i64 0)), (.p (.str [])), (.p .nilslice), (.p .nilslice)] [(0, (.t 7))] false)), (oA 9 (.build [(.p (.int .i64 0)), (.p (.bool false)), (.p (.int .i64 0)), (.p (.str [])), (.p .nilslice), (.p .nilslice)] [(0, 1, (.k (.v (.c (.p (.int .i64 5)))))), (4, 1, (.t 6)), (5, 1, (.t 8))])), (oA 10 (.call (.k (.v (.c (.func 95 [])))) [(.t 9), (.k (.v (.c (.p (.str [])))))])), (oA 5 (.mv (.t 10))), (oA 11 (.extract (.t 5) 0)), (oA 12 (.extract (.t 5) 1)), (oA 3 (.alloc [(.p (.int .i64 0)), (.p (.bool false)), (.p (.int .i64 0)), (.p (.str [])), (.p .nilslice), (.p .nilslice)] false)), (oN (.store 6 (.t 3) (.t 11))), (oA 4 (.mv (.t 12)))] []) (.seq (.reg [(oA 13 (.load true 6 (.t 3))), (oN (.store 6 (.t 2) (.t 13)))] []) .ret))) }
theorem t69 : compF Tryz.prog (globs2 tabs opq) (fun _ => false) true Tryz.f69 = some c69.erase := by kernel_rfl
noncomputable def b69_0 (O : Oracle) (R : Jump) (q : Nat) (x0 : TVal) (h : Heap) : Res1 :=
 vop O (.box (.k x0) false) h 1 fun x1 h =>
 vop O (.alloc [(.p (.int .i64 0)), (.p (.bool false)), (.p (.int .i64 0)), (.p (.str [])), (.p .nilslice), (.p .nilslice)] false) h 2 fun x2 h =>
 vop O (.bslice 1 1 [(.p (.str []))] [(0, (.k (kS [])))] false) h 6 fun x6 h =>
 vload true 6 x1 h fun x7 h =>
 vop O (.bslice 6 1 [(.p (.int .i64 0)), (.p (.bool false)), (.p (.int .i64 0)), (.p (.str [])), (.p .nilslice), (.p .nilslice)] [(0, (.k x7))] false) h 8 fun x8 h =>
 vop O (.build [(.p (.int .i64 0)), (.p (.bool false)), (.p (.int .i64 0)), (.p (.str [])), (.p .nilslice), (.p .nilslice)] [(0, 1, (.k (kI 5))), (4, 1, (.k x6)), (5, 1, (.k x8))]) h 9 fun x9 h =>
 vcall O (.v (.c (.func 95 []))) [x9, (kS [])] h 10 fun x10 h =>
 vext x10 0 h fun x11 h =>
 vext x10 1 h fun x12 h =>
 vop O (.alloc [(.p (.int .i64 0)), (.p (.bool false)), (.p (.int .i64 0)), (.p (.str [])), (.p .nilslice), (.p .nilslice)] false) h 3 fun x3 h =>
 vstore 6 x3 x11 h fun _ h =>
 vload true 6 x3 h fun x13 h =>
 vstore 6 x2 x13 h fun _ h =>
 vcell true 6 x2 h fun c0 => vfin true q [c0] h
theorem e69_0 (O : Oracle) (R : Jump) (q : Nat) (x0 : TVal) (h : Heap) : b69_0 O R q x0 h = stepF c69 O R q 0 [x0] h := by kernel_rfl
noncomputable def d69 : BlkF := fun O R q => [.s fun y0 => .z fun h => b69_0 O R q y0 h]
theorem o69 (O : Oracle) (R : Jump) (q : Nat) : HoldsAll c69 O R q 0 (d69 O R q) := ⟨fun y0 h => e69_0 O R q y0 h, trivial⟩
/- slices.Clone[[]sprue/api.Value,sprue/api.Value] -/
def c70 : MFunc := { np := 1, res := [.t 2], frz := false, body := (.seq (.reg [(oA 2 (.mv (.k (.v (.c (.p .nilslice))))))] []) (.seq (.seq (.reg [(oA 3 (.mv (.t 0))), (oA 4 (.bin .eql 2 (.t 3) (.k (.v (.c (.p .nilslice))))))] []) (.cond (.t 4) (.seq (.reg [(oA 2 (.mv (.k (.v (.c (.p .nilslice))))))] []) .ret) .skip)) (.seq (.reg [(oA 5 (.bslice 6 0 [(.p (.int .i64 0)), (.p (.bool false)), (.p (.int .i64 0)), (.p (.str [])), (.p .nilslice), (.p .nilslice)] [] true)), (oA 6 (.mv (.t 0))), (oA 7 (.append 6 88 true (.t 5) (.t 6))), (oA 2 (.mv (.t 7)))] []) .ret))) }
theorem t70 : compF Tryz.prog (globs2 tabs opq) (fun _ => true) false Tryz.f70 = some c70.erase := by kernel_rfl
noncomputable def b70_0 (O : Oracle) (R : Jump) (q : Nat) (x0 : TVal) (h : Heap) : Res1 :=
 vbin .eql 2 x0 (.v (.c (.p .nilslice))) h fun x4 h =>
 vif x4 (
 tcomp (.v (.c (.p .nilslice))) fun c0 => vfin false q [c0] h)
 (vop O (.bslice 6 0 [(.p (.int .i64 0)), (.p (.bool false)), (.p (.int .i64 0)), (.p (.str [])), (.p .nilslice), (.p .nilslice)] [] true) h 5 fun x5 h =>
 vop O (.append 6 88 true (.k x5) (.k x0)) h 7 fun x7 h =>
 tcomp x7 fun c0 => vfin false q [c0] h)
theorem e70_0 (O : Oracle) (R : Jump) (q : Nat) (x0 : TVal) (h : Heap) : b70_0 O R q x0 h = stepF c70 O R q 0 [x0] h := by kernel_rfl
noncomputable def d70 : BlkF := fun O R q => [.s fun y0 => .z fun h => b70_0 O R q y0 h]
theorem o70 (O : Oracle) (R : Jump) (q : Nat) : HoldsAll c70 O R q 0 (d70 O R q) := ⟨fun y0 h => e70_0 O R q y0 h, trivial⟩
/- sprue/calls.own -/
def c71 : MFunc := { np := 1, res := [.cell 2 true 6], frz := true, body := (.seq (.reg [(oA 1 (.box (.t 0) false)), (oA 2 (.alloc [(.p (.int .i64 0)), (.p (.bool false)), (.p (.int .i64 0)), (.p (.str [])), (.p .nilslice), (.p .nilslice)] false))] []) (.seq (.reg [(oA 6 (.bslice 1 1 [(.p (.str []))] [(0, (.k (.v (.c (.p (.str []))))))] false)), (oA 7 (.load true 6 (.t 1))), (oA 8 (.bslice 6 1 [(.p (.int .i64 0)), (.p (.bool false)), (.p (.int .i64 0)), (.p (.str [])), (.p .nilslice), (.p .nilslice)] [(0, (.t 7))] false)), (oA 9 (.build [(.p (.int .i64 0)), (.p (.bool false)), (.p (.int .i64 0)), (.p (.str [])), (.p .nilslice), (.p .nilslice)] [(0, 1, (.k (.v (.c (.p (.int .i64 5)))))), (4, 1, (.t 6)), (5, 1, (.t 8))])), (oA 10 (.call (.k (.v (.c (.func 95 [])))) [(.t 9), (.k (.v (.c (.p (.str [])))))])), (oA 5 (.mv (.t 10))), (oA 11 (.extract (.t 5) 0)), (oA 12 (.extract (.t 5) 1)), (oA 3 (.alloc [(.p (.int .i64 0)), (.p (.bool false)), (.p (.int .i64 0)), (.p (.str [])), (.p .nilslice), (.p .nilslice)] false)), (oN (.store 6 (.t 3) (.t 11))), (oA 4 (.mv (.t 12)))] []) (.seq (.reg [(oA 13 (.load true 6 (.t 3))), (oN (.store 6 (.t 2) (.t 13)))] []) .ret))) }
theorem t71 : compF Tryz.prog (globs2 tabs opq) (fun _ => false) true Tryz.f71 = some c71.erase := by kernel_rfl
noncomputable def b71_0 (O : Oracle) (R : Jump) (q : Nat) (x0 : TVal) (h : Heap) : Res1 :=
 vop O (.box (.k x0) false) h 1 fun x1 h =>
 vop O (.alloc [(.p (.int .i64 0)), (.p (.bool false)), (.p (.int .i64 0)), (.p (.str [])), (.p .nilslice), (.p .nilslice)] false) h 2 fun x2 h =>
 vop O (.bslice 1 1 [(.p (.str []))] [(0, (.k (kS [])))] false) h 6 fun x6 h =>
 vload true 6 x1 h fun x7 h =>
 vop O (.bslice 6 1 [(.p (.int .i64 0)), (.p (.bool false)), (.p (.int .i64 0)), (.p (.str [])), (.p .nilslice), (.p .nilslice)] [(0, (.k x7))] false) h 8 fun x8 h =>
 vop O (.build [(.p (.int .i64 0)), (.p (.bool false)), (.p (.int .i64 0)), (.p (.str [])), (.p .nilslice), (.p .nilslice)] [(0, 1, (.k (kI 5))), (4, 1, (.k x6)), (5, 1, (.k x8))]) h 9 fun x9 h =>
 vcall O (.v (.c (.func 95 []))) [x9, (kS [])] h 10 fun x10 h =>
 vext x10 0 h fun x11 h =>
 vext x10 1 h fun x12 h =>
 vop O (.alloc [(.p (.int .i64 0)), (.p (.bool false)), (.p (.int .i64 0)), (.p (.str [])), (.p .nilslice), (.p .nilslice)] false) h 3 fun x3 h =>
 vstore 6 x3 x11 h fun _ h =>
 vload true 6 x3 h fun x13 h =>
 vstore 6 x2 x13 h fun _ h =>
 vcell true 6 x2 h fun c0 => vfin true q [c0] h
theorem e71_0 (O : Oracle) (R : Jump) (q : Nat) (x0 : TVal) (h : Heap) : b71_0 O R q x0 h = stepF c71 O R q 0 [x0] h := by kernel_rfl
noncomputable def d71 : BlkF := fun O R q => [.s fun y0 => .z fun h => b71_0 O R q y0 h]
theorem o71 (O : Oracle) (R : Jump) (q : Nat) : HoldsAll c71 O R q 0 (d71 O R q) := ⟨fun y0 h => e71_0 O R q y0 h, trivial⟩
/- sprue/sprueref13.Parse -/
def c72 : MFunc := { np := 1, res := [.cell 2 true 6, .t 3], frz := true, body := (.seq (.reg [(oA 2 (.alloc [(.p (.int .i64 0)), (.p (.bool false)), (.p (.int .i64 0)), (.p (.str [])), (.p .nilslice), (.p .nilslice)] false)), (oA 3 (.mv (.k (.v (.c (.p (.int .i64 0)))))))] []) (.seq (.seq (.reg [(oA 6 (.mv (.t 0))), (oA 7 (.len 0 (.t 6))), (oA 8 (.bin .gtr 0 (.t 7) (.k (.v (.c (.p (.int .i64 20000)))))))] []) (.cond (.t 8) (.seq (.reg [(oA 9 (.build [(.p (.int .i64 0)), (.p (.bool false)), (.p (.int .i64 0)), (.p (.str [])), (.p .nilslice), (.p .nilslice)] [])), (oN (.store 6 (.t 2) (.t 9))), (oA 3 (.mv (.k (.v (.c (.p (.int .i64 4)))))))] []) .ret) .skip)) (.seq (.reg [(oA 10 (.mv (.t 0))), (oA 11 (.build [(.p (.str [])), (.p (.int .i64 0)), (.p (.int .i64 0))] [(0, 1, (.t 10))])), (oA 12 (.box (.t 11) false)), (oA 4 (.mv (.t 12)))] []) (.seq (.reg [(oA 13 (.mv (.t 4))), (oA 14 (.call (.k (.v (.c (.func 139 [])))) [(.t 13), (.k (.v (.c (.p (.int .i64 1)))))])), (oA 5 (.alloc [(.p (.int .i64 0)), (.p (.bool false)), (.p (.int .i64 0)), (.p (.str [])), (.p .nilslice), (.p .nilslice)] false)), (oN (.store 6 (.t 5) (.t 14)))] []) (.seq (.reg [(oA 15 (.mv (.t 4))), (oA 16 (.call (.k (.v (.c (.func 140 [])))) [(.t 15)]))] []) (.seq (.seq (.reg [(oA 17 (.mv (.t 4))), (oA 18 (.nilck (.t 17))), (oA 19 (.faddr 1 (.t 18))), (oA 20 (.load false 1 (.t 19))), (oA 21 (.mv (.t 0))), (oA 22 (.len 0 (.t 21))), (oA 23 (.bin .lss 0 (.t 20) (.t 22)))] []) (.cond (.t 23) (.reg [(oA 24 (.mv (.t 4))), (oA 25 (.call (.k (.v (.c (.func 141 [])))) [(.t 24), (.k (.v (.c (.p (.int .i64 12)))))]))] []) .skip)) (.mark 1 [2, 4, 5] (.seq (.seq (.reg [(oA 26 (.mv (.t 4))), (oA 27 (.nilck (.t 26))), (oA 28 (.faddr 2 (.t 27))), (oA 29 (.load false 1 (.t 28))), (oA 30 (.bin .eql 0 (.t 29) (.k (.v (.c (.p (.int .i64 0)))))))] []) (.cond (.t 30) (.reg [(oA 31 (.mv (.t 4))), (oA 32 (.load true 6 (.t 5))), (oA 33 (.call (.k (.v (.c (.func 32 [])))) [(.t 32)])), (oA 34 (.nilck (.t 31))), (oA 35 (.faddr 2 (.t 34))), (oN (.store 1 (.t 35) (.t 33)))] []) .skip)) (.mark 2 [2, 4, 5] (.seq (.seq (.reg [(oA 36 (.mv (.t 4))), (oA 37 (.nilck (.t 36))), (oA 38 (.faddr 2 (.t 37))), (oA 39 (.load false 1 (.t 38))), (oA 40 (.bin .neq 0 (.t 39) (.k (.v (.c (.p (.int .i64 0)))))))] []) (.cond (.t 40) (.seq (.reg [(oA 41 (.build [(.p (.int .i64 0)), (.p (.bool false)), (.p (.int .i64 0)), (.p (.str [])), (.p .nilslice), (.p .nilslice)] [])), (oA 42 (.mv (.t 4))), (oA 43 (.nilck (.t 42))), (oA 44 (.faddr 2 (.t 43))), (oA 45 (.load false 1 (.t 44))), (oN (.store 6 (.t 2) (.t 41))), (oA 3 (.mv (.t 45)))] [(4, 5)]) .ret) .skip)) (.seq (.reg [(oA 46 (.load true 6 (.t 5))), (oN (.store 6 (.t 2) (.t 46))), (oA 3 (.mv (.k (.v (.c (.p (.int .i64 0)))))))] []) .ret))))))))))) }
theorem t72 : compF Tryz.prog (globs2 tabs opq) (fun _ => false) true Tryz.f72 = some c72.erase := by kernel_rfl
noncomputable def b72_0 (O : Oracle) (R : Jump) (q : Nat) (x0 : TVal) (h : Heap) : Res1 :=
 vop O (.alloc [(.p (.int .i64 0)), (.p (.bool false)), (.p (.int .i64 0)), (.p (.str [])), (.p .nilslice), (.p .nilslice)] false) h 2 fun x2 h =>
 vlen O 0 x0 h 7 fun x7 h =>
 vbin .gtr 0 x7 (kI 20000) h fun x8 h =>
 vif x8 (
 vop O (.build [(.p (.int .i64 0)), (.p (.bool false)), (.p (.int .i64 0)), (.p (.str [])), (.p .nilslice), (.p .nilslice)] []) h 9 fun x9 h =>
 vstore 6 x2 x9 h fun _ h =>
 vcell true 6 x2 h fun c0 => tcomp (kI 4) fun c1 => vfin true q [c0, c1] h)
 (vop O (.build [(.p (.str [])), (.p (.int .i64 0)), (.p (.int .i64 0))] [(0, 1, (.k x0))]) h 11 fun x11 h =>
 vop O (.box (.k x11) false) h 12 fun x12 h =>
 vcall O (.v (.c (.func 139 []))) [x12, (kI 1)] h 14 fun x14 h =>
 vop O (.alloc [(.p (.int .i64 0)), (.p (.bool false)), (.p (.int .i64 0)), (.p (.str [])), (.p .nilslice), (.p .nilslice)] false) h 5 fun x5 h =>
 vstore 6 x5 x14 h fun _ h =>
 vcall O (.v (.c (.func 140 []))) [x12] h 16 fun x16 h =>
 vop O (.nilck (.k x12)) h 18 fun x18 h =>
 vfaddr 1 x18 h fun x19 h =>
 vload false 1 x19 h fun x20 h =>
 vlen O 0 x0 h 22 fun x22 h =>
 vbin .lss 0 x20 x22 h fun x23 h =>
 vif x23 (
 vcall O (.v (.c (.func 141 []))) [x12, (kI 12)] h 25 fun x25 h =>
 R 1 [x2, x12, x5] h)
 (R 1 [x2, x12, x5] h))
theorem e72_0 (O : Oracle) (R : Jump) (q : Nat) (x0 : TVal) (h : Heap) : b72_0 O R q x0 h = stepF c72 O R q 0 [x0] h := by kernel_rfl
noncomputable def b72_1 (O : Oracle) (R : Jump) (q : Nat) (x2 x4 x5 : TVal) (h : Heap) : Res1 :=
 vop O (.nilck (.k x4)) h 27 fun x27 h =>
 vfaddr 2 x27 h fun x28 h =>
 vload false 1 x28 h fun x29 h =>
 vbin .eql 0 x29 (kI 0) h fun x30 h =>
 vif x30 (
 vload true 6 x5 h fun x32 h =>
 vcall O (.v (.c (.func 32 []))) [x32] h 33 fun x33 h =>
 vop O (.nilck (.k x4)) h 34 fun x34 h =>
 vfaddr 2 x34 h fun x35 h =>
 vstore 1 x35 x33 h fun _ h =>
 R 2 [x2, x4, x5] h)
 (R 2 [x2, x4, x5] h)
theorem e72_1 (O : Oracle) (R : Jump) (q : Nat) (x2 x4 x5 : TVal) (h : Heap) : b72_1 O R q x2 x4 x5 h = stepF c72 O R q 1 [x2, x4, x5] h := by kernel_rfl
noncomputable def b72_2 (O : Oracle) (R : Jump) (q : Nat) (x2 x4 x5 : TVal) (h : Heap) : Res1 :=
 vop O (.nilck (.k x4)) h 37 fun x37 h =>
 vfaddr 2 x37 h fun x38 h =>
 vload false 1 x38 h fun x39 h =>
 vbin .neq 0 x39 (kI 0) h fun x40 h =>
 vif x40 (
 vtouch O (.build [(.p (.int .i64 0)), (.p (.bool false)), (.p (.int .i64 0)), (.p (.str [])), (.p .nilslice), (.p .nilslice)] []) h 41 fun x41 h t0 =>
 vtouch O (.mv (.k x4)) h 42 fun x42 h t1 =>
 vtouch O (.nilck (.k x42)) h 43 fun x43 h t2 =>
 vtouch O (.faddr 2 (.k x43)) h 44 fun x44 h t3 =>
 vtouch O (.load false 1 (.k x44)) h 45 fun x45 h t4 =>
 vtouch O (.store 6 (.k x2) (.k x41)) h 1000000 fun _ h t5 =>
 vtouch O (.mv (.k x45)) h 3 fun x3 h t6 =>
 bif apartAll [t0, t1, t2, t3, t4, t5, t6] [(4, 5)] then
 vcell true 6 x2 h fun c0 => tcomp x3 fun c1 => vfin true q [c0, c1] h
 else none)
 (vload true 6 x5 h fun x46 h =>
 vstore 6 x2 x46 h fun _ h =>
 vcell true 6 x2 h fun c0 => tcomp (kI 0) fun c1 => vfin true q [c0, c1] h)
theorem e72_2 (O : Oracle) (R : Jump) (q : Nat) (x2 x4 x5 : TVal) (h : Heap) : b72_2 O R q x2 x4 x5 h = stepF c72 O R q 2 [x2, x4, x5] h := by kernel_rfl
noncomputable def d72 : BlkF := fun O R q => [.s fun y0 => .z fun h => b72_0 O R q y0 h, .s fun y0 => .s fun y1 => .s fun y2 => .z fun h => b72_1 O R q y0 y1 y2 h, .s fun y0 => .s fun y1 => .s fun y2 => .z fun h => b72_2 O R q y0 y1 y2 h]
theorem o72 (O : Oracle) (R : Jump) (q : Nat) : HoldsAll c72 O R q 0 (d72 O R q) := ⟨fun y0 h => e72_0 O R q y0 h, fun y0 y1 y2 h => e72_1 O R q y0 y1 y2 h, fun y0 y1 y2 h => e72_2 O R q y0 y1 y2 h, trivial⟩
/- (*sprue/sprueref13.walk).check -/
def c80 : MFunc := { np := 3, res := [.t 6], frz := true, body := (.seq (.reg [(oA 4 (.box (.t 1) false)), (oA 6 (.mv (.k (.v (.c (.p (.int .i64 0)))))))] []) (.seq (.reg [(oA 11 (.mv (.t 0))), (oA 12 (.nilck (.t 11))), (oA 13 (.faddr 0 (.t 12))), (oA 14 (.load false 1 (.t 13))), (oA 15 (.bin .add 0 (.t 14) (.k (.v (.c (.p (.int .i64 1))))))), (oA 16 (.nilck (.t 11))), (oA 17 (.faddr 0 (.t 16))), (oN (.store 1 (.t 17) (.t 15)))] []) (.seq (.seq (.reg [(oA 18 (.mv (.t 0))), (oA 19 (.nilck (.t 18))), (oA 20 (.faddr 0 (.t 19))), (oA 21 (.load false 1 (.t 20))), (oA 22 (.bin .gtr 0 (.t 21) (.k (.v (.c (.p (.int .i64 2000)))))))] []) (.cond (.t 22) (.seq (.reg [(oA 6 (.mv (.k (.v (.c (.p (.int .i64 3)))))))] []) .ret) .skip)) (.seq (.seq (.reg [(oA 23 (.load true 6 (.t 4))), (oA 24 (.call (.k (.v (.c (.func 155 [])))) [(.t 23)])), (oA 25 (.un .not (.t 24)))] []) (.cond (.t 25) (.seq (.reg [(oA 6 (.mv (.k (.v (.c (.p (.int .i64 1)))))))] []) .ret) .skip)) (.seq (.seq (.reg [(oA 26 (.mv (.t 2))), (oA 27 (.bin .gtr 0 (.t 26) (.k (.v (.c (.p (.int .i64 12)))))))] []) (.cond (.t 27) (.seq (.reg [(oA 6 (.mv (.k (.v (.c (.p (.int .i64 13)))))))] []) .ret) .skip)) (.seq (.seq (.reg [(oA 28 (.faddr 5 (.t 4))), (oA 29 (.load false 1 (.t 28))), (oA 30 (.len 2 (.t 29))), (oA 31 (.bin .gtr 0 (.t 30) (.k (.v (.c (.p (.int .i64 40)))))))] []) (.cond (.t 31) (.seq (.reg [(oA 6 (.mv (.k (.v (.c (.p (.int .i64 3)))))))] []) .ret) .skip)) (.seq (.seq (.reg [(oA 32 (.faddr 3 (.t 4))), (oA 33 (.load false 1 (.t 32))), (oA 34 (.len 0 (.t 33))), (oA 35 (.bin .gtr 0 (.t 34) (.k (.v (.c (.p (.int .i64 200)))))))] []) (.cond (.t 35) (.seq (.reg [(oA 6 (.mv (.k (.v (.c (.p (.int .i64 4)))))))] []) .ret) .skip)) (.seq (.seq (.reg [(oA 7 (.mv (.k (.v (.c (.p (.int .i64 0)))))))] []) (.block 0 (.loop 1 [0, 2, 4, 7] (.seq (.seq (.reg [(oA 36 (.mv (.t 7))), (oA 37 (.faddr 4 (.t 4))), (oA 38 (.load false 1 (.t 37))), (oA 39 (.len 2 (.t 38))), (oA 40 (.bin .lss 0 (.t 36) (.t 39)))] []) (.cond (.t 40) .skip (.exit 0))) (.seq (.block 1 (.seq (.reg [(oA 43 (.faddr 4 (.t 4))), (oA 44 (.load false 1 (.t 43))), (oA 45 (.mv (.t 7))), (oA 46 (.iaddr 1 (.t 44) (.t 45))), (oA 47 (.load false 1 (.t 46))), (oA 48 (.len 0 (.t 47))), (oA 49 (.bin .gtr 0 (.t 48) (.k (.v (.c (.p (.int .i64 200)))))))] []) (.cond (.t 49) (.seq (.reg [(oA 6 (.mv (.k (.v (.c (.p (.int .i64 4)))))))] []) .ret) .skip))) (.reg [(oA 41 (.mv (.t 7))), (oA 42 (.bin .add 0 (.t 41) (.k (.v (.c (.p (.int .i64 1))))))), (oA 7 (.mv (.t 42)))] [])))))) (.mark 2 [0, 2, 4] (.seq (.seq (.reg [(oA 8 (.mv (.k (.v (.c (.p (.int .i64 1)))))))] []) (.block 2 (.loop 3 [0, 2, 4, 8] (.seq (.seq (.reg [(oA 50 (.mv (.t 8))), (oA 51 (.faddr 4 (.t 4))), (oA 52 (.load false 1 (.t 51))), (oA 53 (.len 2 (.t 52))), (oA 54 (.bin .lss 0 (.t 50) (.t 53)))] []) (.cond (.t 54) .skip (.exit 2))) (.seq (.block 3 (.seq (.reg [(oA 57 (.faddr 4 (.t 4))), (oA 58 (.load false 1 (.t 57))), (oA 59 (.mv (.t 8))), (oA 60 (.iaddr 1 (.t 58) (.t 59))), (oA 61 (.load false 1 (.t 60))), (oA 62 (.faddr 4 (.t 4))), (oA 63 (.load false 1 (.t 62))), (oA 64 (.mv (.t 8))), (oA 65 (.bin .sub 0 (.t 64) (.k (.v (.c (.p (.int .i64 1))))))), (oA 66 (.iaddr 1 (.t 63) (.t 65))), (oA 67 (.load false 1 (.t 66))), (oA 68 (.bin .leq 0 (.t 61) (.t 67)))] []) (.cond (.t 68) (.seq (.reg [(oA 6 (.mv (.k (.v (.c (.p (.int .i64 6)))))))] []) .ret) .skip))) (.reg [(oA 55 (.mv (.t 8))), (oA 56 (.bin .add 0 (.t 55) (.k (.v (.c (.p (.int .i64 1))))))), (oA 8 (.mv (.t 56)))] [])))))) (.mark 4 [0, 2, 4] (.seq (.seq (.reg [(oA 9 (.mv (.k (.v (.c (.p (.int .i64 0)))))))] []) (.block 4 (.loop 5 [0, 2, 4, 9] (.seq (.seq (.reg [(oA 69 (.mv (.t 9))), (oA 70 (.faddr 5 (.t 4))), (oA 71 (.load false 1 (.t 70))), (oA 72 (.len 2 (.t 71))), (oA 73 (.bin .lss 0 (.t 69) (.t 72)))] []) (.cond (.t 73) .skip (.exit 4))) (.seq (.block 5 (.seq (.reg [(oA 76 (.mv (.t 0))), (oA 77 (.faddr 5 (.t 4))), (oA 78 (.load false 1 (.t 77))), (oA 79 (.mv (.t 9))), (oA 80 (.iaddr 6 (.t 78) (.t 79))), (oA 81 (.load true 6 (.t 80))), (oA 82 (.mv (.t 2))), (oA 83 (.bin .add 0 (.t 82) (.k (.v (.c (.p (.int .i64 1))))))), (oA 84 (.call (.k (.v (.c (.func 80 [])))) [(.t 76), (.t 81), (.t 83)])), (oA 10 (.mv (.t 84)))] []) (.seq (.reg [(oA 85 (.mv (.t 10))), (oA 86 (.bin .neq 0 (.t 85) (.k (.v (.c (.p (.int .i64 0)))))))] []) (.cond (.t 86) (.seq (.reg [(oA 87 (.mv (.t 10))), (oA 6 (.mv (.t 87)))] []) .ret) .skip)))) (.reg [(oA 74 (.mv (.t 9))), (oA 75 (.bin .add 0 (.t 74) (.k (.v (.c (.p (.int .i64 1))))))), (oA 9 (.mv (.t 75)))] [])))))) (.seq (.reg [(oA 6 (.mv (.k (.v (.c (.p (.int .i64 0)))))))] []) .ret))))))))))))) }
theorem t80 : compF Tryz.prog (globs2 tabs opq) (fun _ => false) true Tryz.f80 = some c80.erase := by kernel_rfl
noncomputable def b80_0 (O : Oracle) (R : Jump) (q : Nat) (x0 x1 x2 : TVal) (h : Heap) : Res1 :=
 vop O (.box (.k x1) false) h 4 fun x4 h =>
 vop O (.nilck (.k x0)) h 12 fun x12 h =>
 vfaddr 0 x12 h fun x13 h =>
 vload false 1 x13 h fun x14 h =>
 vbin .add 0 x14 (kI 1) h fun x15 h =>
 vop O (.nilck (.k x0)) h 16 fun x16 h =>
 vfaddr 0 x16 h fun x17 h =>
 vstore 1 x17 x15 h fun _ h =>
 vop O (.nilck (.k x0)) h 19 fun x19 h =>
 vfaddr 0 x19 h fun x20 h =>
 vload false 1 x20 h fun x21 h =>
 vbin .gtr 0 x21 (kI 2000) h fun x22 h =>
 vif x22 (
 tcomp (kI 3) fun c0 => vfin true q [c0] h)
 (vload true 6 x4 h fun x23 h =>
 vcall O (.v (.c (.func 155 []))) [x23] h 24 fun x24 h =>
 vop O (.un .not (.k x24)) h 25 fun x25 h =>
 vif x25 (
 tcomp (kI 1) fun c0 => vfin true q [c0] h)
 (vbin .gtr 0 x2 (kI 12) h fun x27 h =>
 vif x27 (
 tcomp (kI 13) fun c0 => vfin true q [c0] h)
 (vfaddr 5 x4 h fun x28 h =>
 vload false 1 x28 h fun x29 h =>
 vlen O 2 x29 h 30 fun x30 h =>
 vbin .gtr 0 x30 (kI 40) h fun x31 h =>
 vif x31 (
 tcomp (kI 3) fun c0 => vfin true q [c0] h)
 (vfaddr 3 x4 h fun x32 h =>
 vload false 1 x32 h fun x33 h =>
 vlen O 0 x33 h 34 fun x34 h =>
 vbin .gtr 0 x34 (kI 200) h fun x35 h =>
 vif x35 (
 tcomp (kI 4) fun c0 => vfin true q [c0] h)
 (R 1 [x0, x2, x4, (kI 0)] h)))))
theorem e80_0 (O : Oracle) (R : Jump) (q : Nat) (x0 x1 x2 : TVal) (h : Heap) : b80_0 O R q x0 x1 x2 h = stepF c80 O R q 0 [x0, x1, x2] h := by kernel_rfl
noncomputable def b80_1 (O : Oracle) (R : Jump) (q : Nat) (x0 x2 x4 x7 : TVal) (h : Heap) : Res1 :=
 vfaddr 4 x4 h fun x37 h =>
 vload false 1 x37 h fun x38 h =>
 vlen O 2 x38 h 39 fun x39 h =>
 vbin .lss 0 x7 x39 h fun x40 h =>
 vif x40 (
 vfaddr 4 x4 h fun x43 h =>
 vload false 1 x43 h fun x44 h =>
 viaddr 1 x44 x7 h fun x46 h =>
 vload false 1 x46 h fun x47 h =>
 vlen O 0 x47 h 48 fun x48 h =>
 vbin .gtr 0 x48 (kI 200) h fun x49 h =>
 vif x49 (
 tcomp (kI 4) fun c0 => vfin true q [c0] h)
 (vbin .add 0 x7 (kI 1) h fun x42 h =>
 R 1 [x0, x2, x4, x42] h))
 (R 2 [x0, x2, x4] h)
theorem e80_1 (O : Oracle) (R : Jump) (q : Nat) (x0 x2 x4 x7 : TVal) (h : Heap) : b80_1 O R q x0 x2 x4 x7 h = stepF c80 O R q 1 [x0, x2, x4, x7] h := by kernel_rfl
noncomputable def b80_2 (O : Oracle) (R : Jump) (q : Nat) (x0 x2 x4 : TVal) (h : Heap) : Res1 :=
 R 3 [x0, x2, x4, (kI 1)] h
theorem e80_2 (O : Oracle) (R : Jump) (q : Nat) (x0 x2 x4 : TVal) (h : Heap) : b80_2 O R q x0 x2 x4 h = stepF c80 O R q 2 [x0, x2, x4] h := by kernel_rfl
noncomputable def b80_3 (O : Oracle) (R : Jump) (q : Nat) (x0 x2 x4 x8 : TVal) (h : Heap) : Res1 :=
 vfaddr 4 x4 h fun x51 h =>
 vload false 1 x51 h fun x52 h =>
 vlen O 2 x52 h 53 fun x53 h =>
 vbin .lss 0 x8 x53 h fun x54 h =>
 vif x54 (
 vfaddr 4 x4 h fun x57 h =>
 vload false 1 x57 h fun x58 h =>
 viaddr 1 x58 x8 h fun x60 h =>
 vload false 1 x60 h fun x61 h =>
 vfaddr 4 x4 h fun x62 h =>
 vload false 1 x62 h fun x63 h =>
 vbin .sub 0 x8 (kI 1) h fun x65 h =>
 viaddr 1 x63 x65 h fun x66 h =>
 vload false 1 x66 h fun x67 h =>
 vbin .leq 0 x61 x67 h fun x68 h =>
 vif x68 (
 tcomp (kI 6) fun c0 => vfin true q [c0] h)
 (vbin .add 0 x8 (kI 1) h fun x56 h =>
 R 3 [x0, x2, x4, x56] h))
 (R 4 [x0, x2, x4] h)
theorem e80_3 (O : Oracle) (R : Jump) (q : Nat) (x0 x2 x4 x8 : TVal) (h : Heap) : b80_3 O R q x0 x2 x4 x8 h = stepF c80 O R q 3 [x0, x2, x4, x8] h := by kernel_rfl
noncomputable def b80_4 (O : Oracle) (R : Jump) (q : Nat) (x0 x2 x4 : TVal) (h : Heap) : Res1 :=
 R 5 [x0, x2, x4, (kI 0)] h
theorem e80_4 (O : Oracle) (R : Jump) (q : Nat) (x0 x2 x4 : TVal) (h : Heap) : b80_4 O R q x0 x2 x4 h = stepF c80 O R q 4 [x0, x2, x4] h := by kernel_rfl
noncomputable def b80_5 (O : Oracle) (R : Jump) (q : Nat) (x0 x2 x4 x9 : TVal) (h : Heap) : Res1 :=
 vfaddr 5 x4 h fun x70 h =>
 vload false 1 x70 h fun x71 h =>
 vlen O 2 x71 h 72 fun x72 h =>
 vbin .lss 0 x9 x72 h fun x73 h =>
 vif x73 (
 vfaddr 5 x4 h fun x77 h =>
 vload false 1 x77 h fun x78 h =>
 viaddr 6 x78 x9 h fun x80 h =>
 vload true 6 x80 h fun x81 h =>
 vbin .add 0 x2 (kI 1) h fun x83 h =>
 vcall O (.v (.c (.func 80 []))) [x0, x81, x83] h 84 fun x84 h =>
 vbin .neq 0 x84 (kI 0) h fun x86 h =>
 vif x86 (
 tcomp x84 fun c0 => vfin true q [c0] h)
 (vbin .add 0 x9 (kI 1) h fun x75 h =>
 R 5 [x0, x2, x4, x75] h))
 (tcomp (kI 0) fun c0 => vfin true q [c0] h)
theorem e80_5 (O : Oracle) (R : Jump) (q : Nat) (x0 x2 x4 x9 : TVal) (h : Heap) : b80_5 O R q x0 x2 x4 x9 h = stepF c80 O R q 5 [x0, x2, x4, x9] h := by kernel_rfl
noncomputable def d80 : BlkF := fun O R q => [.s fun y0 => .s fun y1 => .s fun y2 => .z fun h => b80_0 O R q y0 y1 y2 h, .s fun y0 => .s fun y1 => .s fun y2 => .s fun y3 => .z fun h => b80_1 O R q y0 y1 y2 y3 h, .s fun y0 => .s fun y1 => .s fun y2 => .z fun h => b80_2 O R q y0 y1 y2 h, .s fun y0 => .s fun y1 => .s fun y2 => .s fun y3 => .z fun h => b80_3 O R q y0 y1 y2 y3 h, .s fun y0 => .s fun y1 => .s fun y2 => .z fun h => b80_4 O R q y0 y1 y2 h, .s fun y0 => .s fun y1 => .s fun y2 => .s fun y3 => .z fun h => b80_5 O R q y0 y1 y2 y3 h]
theorem o80 (O : Oracle) (R : Jump) (q : Nat) : HoldsAll c80 O R q 0 (d80 O R q) := ⟨fun y0 y1 y2 h => e80_0 O R q y0 y1 y2 h, fun y0 y1 y2 y3 h => e80_1 O R q y0 y1 y2 y3 h, fun y0 y1 y2 h => e80_2 O R q y0 y1 y2 h, fun y0 y1 y2 y3 h => e80_3 O R q y0 y1 y2 y3 h, fun y0 y1 y2 h => e80_4 O R q y0 y1 y2 h, fun y0 y1 y2 y3 h => e80_5 O R q y0 y1 y2 y3 h, trivial⟩
/- sprue/shape.Builtin -/
def c86 : MFunc := { np := 1, res := [.t 2], frz := true, body := (.seq (.reg [(oA 2 (.mv (.k (.v (.c (.p (.bool false)))))))] []) (.seq (.reg [(oA 3 (.mv (.t 0))), (oA 4 (.call (.k (.v (.c (.func 161 [])))) [(.t 3)])), (oA 5 (.mv (.t 4))), ⟨(some 6), (.mv (.t 0)), (some (5, true))⟩, ⟨(some 7), (.bin .add 0 (.k (.v (.c (.p (.str [32]))))) (.t 6)), (some (5, true))⟩, ⟨(some 8), (.bin .add 0 (.t 7) (.k (.v (.c (.p (.str [32])))))), (some (5, true))⟩, ⟨(some 9), (.call (.k (.v (.c (.func 162 [])))) [(.k (.v (.c (.p (.str [32, 108, 101, 110, 32, 110, 111, 116, 32, 97, 110, 100, 32, 111, 114, 32, 101, 113, 32, 108, 116, 32, 97, 100, 100, 32, 115, 117, 98, 32, 109, 117, 108, 32, 115, 104, 108, 32, 115, 104, 114, 32, 105, 56, 32, 105, 49, 54, 32, 105, 51, 50, 32, 117, 56, 32, 117, 49, 54, 32, 117, 51, 50, 32, 99, 97, 116, 32, 116, 101, 120, 116, 32, 97, 116, 32, 103, 101, 116, 32, 104, 97, 115, 32, 111, 114, 101, 108, 115, 101, 32]))))), (.t 8)]), (some (5, true))⟩, (oA 10 (.pick (.t 5) (.t 9) (.k (.v (.c (.p (.bool false))))))), (oA 2 (.mv (.t 10)))] []) .ret)) }
theorem t86 : compF Tryz.prog (globs2 tabs opq) (fun _ => false) true Tryz.f86 = some c86.erase := by kernel_rfl
noncomputable def b86_0 (O : Oracle) (R : Jump) (q : Nat) (x0 : TVal) (h : Heap) : Res1 :=
 vcall O (.v (.c (.func 161 []))) [x0] h 4 fun x4 h =>
 vguard x4 true (fun kk => kk x0 h) h fun x6 h =>
 vguard x4 true (fun kk => vbin .add 0 (kS [32]) x6 h kk) h fun x7 h =>
 vguard x4 true (fun kk => vbin .add 0 x7 (kS [32]) h kk) h fun x8 h =>
 vguard x4 true (fun kk => vcall O (.v (.c (.func 162 []))) [(kS [32, 108, 101, 110, 32, 110, 111, 116, 32, 97, 110, 100, 32, 111, 114, 32, 101, 113, 32, 108, 116, 32, 97, 100, 100, 32, 115, 117, 98, 32, 109, 117, 108, 32, 115, 104, 108, 32, 115, 104, 114, 32, 105, 56, 32, 105, 49, 54, 32, 105, 51, 50, 32, 117, 56, 32, 117, 49, 54, 32, 117, 51, 50, 32, 99, 97, 116, 32, 116, 101, 120, 116, 32, 97, 116, 32, 103, 101, 116, 32, 104, 97, 115, 32, 111, 114, 101, 108, 115, 101, 32]), x8] h 9 kk) h fun x9 h =>
 vop O (.pick (.k x4) (.k x9) (.k (kB false))) h 10 fun x10 h =>
 tcomp x10 fun c0 => vfin true q [c0] h
theorem e86_0 (O : Oracle) (R : Jump) (q : Nat) (x0 : TVal) (h : Heap) : b86_0 O R q x0 h = stepF c86 O R q 0 [x0] h := by kernel_rfl
noncomputable def d86 : BlkF := fun O R q => [.s fun y0 => .z fun h => b86_0 O R q y0 h]
theorem o86 (O : Oracle) (R : Jump) (q : Nat) : HoldsAll c86 O R q 0 (d86 O R q) := ⟨fun y0 h => e86_0 O R q y0 h, trivial⟩
/- sprue/calls.many -/
def c87 : MFunc := { np := 1, res := [.t 2], frz := true, body := (.seq (.reg [(oA 2 (.mv (.k (.v (.c (.p (.int .i64 0)))))))] []) (.seq (.seq (.reg [(oA 3 (.mv (.t 0)))] []) (.block 0 (.seq (.block 2 (.block 1 (.seq (.seq (.seq (.seq (.reg [(oA 5 (.bin .eql 0 (.t 3) (.k (.v (.c (.p (.str [108, 101, 110]))))))), (oA 4 (.mv (.t 5)))] []) (.cond (.t 4) .skip (.seq (.reg [(oA 6 (.bin .eql 0 (.t 3) (.k (.v (.c (.p (.str [110, 111, 116]))))))), (oA 4 (.mv (.t 6)))] []) (.cond (.t 4) .skip (.seq (.reg [(oA 7 (.bin .eql 0 (.t 3) (.k (.v (.c (.p (.str [116, 101, 120, 116]))))))), (oA 4 (.mv (.t 7)))] []) (.cond (.t 4) .skip (.reg [(oA 8 (.bin .eql 0 (.t 3) (.k (.v (.c (.p (.str [104, 97, 115]))))))), (oA 4 (.mv (.t 8)))] []))))))) (.mark 1 [3, 4] (.cond (.t 4) (.exit 1) .skip))) (.seq (.seq (.reg [(oA 10 (.bin .eql 0 (.t 3) (.k (.v (.c (.p (.str [105, 56]))))))), (oA 9 (.mv (.t 10)))] []) (.cond (.t 9) .skip (.seq (.reg [(oA 11 (.bin .eql 0 (.t 3) (.k (.v (.c (.p (.str [105, 49, 54]))))))), (oA 9 (.mv (.t 11)))] []) (.cond (.t 9) .skip (.seq (.reg [(oA 12 (.bin .eql 0 (.t 3) (.k (.v (.c (.p (.str [105, 51, 50]))))))), (oA 9 (.mv (.t 12)))] []) (.cond (.t 9) .skip (.seq (.reg [(oA 13 (.bin .eql 0 (.t 3) (.k (.v (.c (.p (.str [117, 56]))))))), (oA 9 (.mv (.t 13)))] []) (.cond (.t 9) .skip (.seq (.reg [(oA 14 (.bin .eql 0 (.t 3) (.k (.v (.c (.p (.str [117, 49, 54]))))))), (oA 9 (.mv (.t 14)))] []) (.cond (.t 9) .skip (.reg [(oA 15 (.bin .eql 0 (.t 3) (.k (.v (.c (.p (.str [117, 51, 50]))))))), (oA 9 (.mv (.t 15)))] []))))))))))) (.mark 2 [9] (.cond (.t 9) (.exit 2) .skip)))) (.exit 0)))) (.seq (.seq (.reg [(oA 2 (.mv (.k (.v (.c (.p (.int .i64 1)))))))] []) .ret) (.exit 0))))) (.seq (.reg [(oA 2 (.mv (.k (.v (.c (.p (.int .i64 2)))))))] []) .ret))) }
theorem t87 : compF Tryz.prog (globs2 tabs opq) (fun _ => false) true Tryz.f87 = some c87.erase := by kernel_rfl
noncomputable def b87_0 (O : Oracle) (R : Jump) (q : Nat) (x0 : TVal) (h : Heap) : Res1 :=
 vbin .eql 0 x0 (kS [108, 101, 110]) h fun x5 h =>
 vif x5 (
 R 1 [x0, x5] h)
 (vbin .eql 0 x0 (kS [110, 111, 116]) h fun x6 h =>
 vif x6 (
 R 1 [x0, x6] h)
 (vbin .eql 0 x0 (kS [116, 101, 120, 116]) h fun x7 h =>
 vif x7 (
 R 1 [x0, x7] h)
 (vbin .eql 0 x0 (kS [104, 97, 115]) h fun x8 h =>
 R 1 [x0, x8] h)))
theorem e87_0 (O : Oracle) (R : Jump) (q : Nat) (x0 : TVal) (h : Heap) : b87_0 O R q x0 h = stepF c87 O R q 0 [x0] h := by kernel_rfl
noncomputable def b87_1 (O : Oracle) (R : Jump) (q : Nat) (x3 x4 : TVal) (h : Heap) : Res1 :=
 vif x4 (
 tcomp (kI 1) fun c0 => vfin true q [c0] h)
 (vbin .eql 0 x3 (kS [105, 56]) h fun x10 h =>
 vif x10 (
 R 2 [x10] h)
 (vbin .eql 0 x3 (kS [105, 49, 54]) h fun x11 h =>
 vif x11 (
 R 2 [x11] h)
 (vbin .eql 0 x3 (kS [105, 51, 50]) h fun x12 h =>
 vif x12 (
 R 2 [x12] h)
 (vbin .eql 0 x3 (kS [117, 56]) h fun x13 h =>
 vif x13 (
 R 2 [x13] h)
 (vbin .eql 0 x3 (kS [117, 49, 54]) h fun x14 h =>
 vif x14 (
 R 2 [x14] h)
 (vbin .eql 0 x3 (kS [117, 51, 50]) h fun x15 h =>
 R 2 [x15] h))))))
theorem e87_1 (O : Oracle) (R : Jump) (q : Nat) (x3 x4 : TVal) (h : Heap) : b87_1 O R q x3 x4 h = stepF c87 O R q 1 [x3, x4] h := by kernel_rfl
noncomputable def b87_2 (O : Oracle) (R : Jump) (q : Nat) (x9 : TVal) (h : Heap) : Res1 :=
 vif x9 (
 tcomp (kI 1) fun c0 => vfin true q [c0] h)
 (tcomp (kI 2) fun c0 => vfin true q [c0] h)
theorem e87_2 (O : Oracle) (R : Jump) (q : Nat) (x9 : TVal) (h : Heap) : b87_2 O R q x9 h = stepF c87 O R q 2 [x9] h := by kernel_rfl
noncomputable def d87 : BlkF := fun O R q => [.s fun y0 => .z fun h => b87_0 O R q y0 h, .s fun y0 => .s fun y1 => .z fun h => b87_1 O R q y0 y1 h, .s fun y0 => .z fun h => b87_2 O R q y0 h]
theorem o87 (O : Oracle) (R : Jump) (q : Nat) : HoldsAll c87 O R q 0 (d87 O R q) := ⟨fun y0 h => e87_0 O R q y0 h, fun y0 y1 h => e87_1 O R q y0 y1 h, fun y0 h => e87_2 O R q y0 h, trivial⟩
/- sprue/calls.long -/
def c88 : MFunc := { np := 1, res := [.cell 2 true 6, .t 3], frz := true, body := (.seq (.reg [(oA 1 (.box (.t 0) false)), (oA 2 (.alloc [(.p (.int .i64 0)), (.p (.bool false)), (.p (.int .i64 0)), (.p (.str [])), (.p .nilslice), (.p .nilslice)] false)), (oA 3 (.mv (.k (.v (.c (.p (.int .i64 0)))))))] []) (.seq (.seq (.reg [(oA 4 (.faddr 0 (.t 1))), (oA 5 (.load false 1 (.t 4)))] []) (.block 0 (.seq (.reg [(oA 7 (.bin .eql 0 (.t 5) (.k (.v (.c (.p (.int .i64 3))))))), (oA 6 (.mv (.t 7)))] []) (.cond (.t 6) (.seq (.reg [(oA 8 (.faddr 3 (.t 1))), (oA 9 (.load false 1 (.t 8))), (oA 10 (.len 0 (.t 9))), (oA 11 (.call (.k (.v (.c (.func 163 [])))) [(.t 10)])), (oN (.store 6 (.t 2) (.t 11))), (oA 3 (.mv (.k (.v (.c (.p (.int .i64 0)))))))] []) .ret) (.seq (.seq (.reg [(oA 13 (.bin .eql 0 (.t 5) (.k (.v (.c (.p (.int .i64 4))))))), (oA 12 (.mv (.t 13)))] []) (.cond (.t 12) .skip (.reg [(oA 14 (.bin .eql 0 (.t 5) (.k (.v (.c (.p (.int .i64 5))))))), (oA 12 (.mv (.t 14)))] []))) (.mark 1 [1, 2, 12] (.cond (.t 12) (.seq (.reg [(oA 15 (.faddr 5 (.t 1))), (oA 16 (.load false 1 (.t 15))), (oA 17 (.len 2 (.t 16))), (oA 18 (.call (.k (.v (.c (.func 163 [])))) [(.t 17)])), (oN (.store 6 (.t 2) (.t 18))), (oA 3 (.mv (.k (.v (.c (.p (.int .i64 0)))))))] []) .ret) .skip))))))) (.seq (.reg [(oA 19 (.build [(.p (.int .i64 0)), (.p (.bool false)), (.p (.int .i64 0)), (.p (.str [])), (.p .nilslice), (.p .nilslice)] [])), (oN (.store 6 (.t 2) (.t 19))), (oA 3 (.mv (.k (.v (.c (.p (.int .i64 17)))))))] []) .ret))) }
theorem t88 : compF Tryz.prog (globs2 tabs opq) (fun _ => false) true Tryz.f88 = some c88.erase := by kernel_rfl
noncomputable def b88_0 (O : Oracle) (R : Jump) (q : Nat) (x0 : TVal) (h : Heap) : Res1 :=
 vop O (.box (.k x0) false) h 1 fun x1 h =>
 vop O (.alloc [(.p (.int .i64 0)), (.p (.bool false)), (.p (.int .i64 0)), (.p (.str [])), (.p .nilslice), (.p .nilslice)] false) h 2 fun x2 h =>
 vfaddr 0 x1 h fun x4 h =>
 vload false 1 x4 h fun x5 h =>
 vbin .eql 0 x5 (kI 3) h fun x7 h =>
 vif x7 (
 vfaddr 3 x1 h fun x8 h =>
 vload false 1 x8 h fun x9 h =>
 vlen O 0 x9 h 10 fun x10 h =>
 vcall O (.v (.c (.func 163 []))) [x10] h 11 fun x11 h =>
 vstore 6 x2 x11 h fun _ h =>
 vcell true 6 x2 h fun c0 => tcomp (kI 0) fun c1 => vfin true q [c0, c1] h)
 (vbin .eql 0 x5 (kI 4) h fun x13 h =>
 vif x13 (
 R 1 [x1, x2, x13] h)
 (vbin .eql 0 x5 (kI 5) h fun x14 h =>
 R 1 [x1, x2, x14] h))
theorem e88_0 (O : Oracle) (R : Jump) (q : Nat) (x0 : TVal) (h : Heap) : b88_0 O R q x0 h = stepF c88 O R q 0 [x0] h := by kernel_rfl
noncomputable def b88_1 (O : Oracle) (R : Jump) (q : Nat) (x1 x2 x12 : TVal) (h : Heap) : Res1 :=
 vif x12 (
 vfaddr 5 x1 h fun x15 h =>
 vload false 1 x15 h fun x16 h =>
 vlen O 2 x16 h 17 fun x17 h =>
 vcall O (.v (.c (.func 163 []))) [x17] h 18 fun x18 h =>
 vstore 6 x2 x18 h fun _ h =>
 vcell true 6 x2 h fun c0 => tcomp (kI 0) fun c1 => vfin true q [c0, c1] h)
 (vop O (.build [(.p (.int .i64 0)), (.p (.bool false)), (.p (.int .i64 0)), (.p (.str [])), (.p .nilslice), (.p .nilslice)] []) h 19 fun x19 h =>
 vstore 6 x2 x19 h fun _ h =>
 vcell true 6 x2 h fun c0 => tcomp (kI 17) fun c1 => vfin true q [c0, c1] h)
theorem e88_1 (O : Oracle) (R : Jump) (q : Nat) (x1 x2 x12 : TVal) (h : Heap) : b88_1 O R q x1 x2 x12 h = stepF c88 O R q 1 [x1, x2, x12] h := by kernel_rfl
noncomputable def d88 : BlkF := fun O R q => [.s fun y0 => .z fun h => b88_0 O R q y0 h, .s fun y0 => .s fun y1 => .s fun y2 => .z fun h => b88_1 O R q y0 y1 y2 h]
theorem o88 (O : Oracle) (R : Jump) (q : Nat) : HoldsAll c88 O R q 0 (d88 O R q) := ⟨fun y0 h => e88_0 O R q y0 h, fun y0 y1 y2 h => e88_1 O R q y0 y1 y2 h, trivial⟩
/- sprue/calls.logic -/
def c89 : MFunc := { np := 2, res := [.cell 4 true 6, .t 5], frz := true, body := (.seq (.reg [(oA 4 (.alloc [(.p (.int .i64 0)), (.p (.bool false)), (.p (.int .i64 0)), (.p (.str [])), (.p .nilslice), (.p .nilslice)] false)), (oA 5 (.mv (.k (.v (.c (.p (.int .i64 0)))))))] []) (.seq (.seq (.reg [(oA 6 (.mv (.t 1))), (oA 7 (.call (.k (.v (.c (.func 164 [])))) [(.t 6), (.k (.v (.c (.func 165 []))))]))] []) (.cond (.t 7) (.seq (.reg [(oA 8 (.build [(.p (.int .i64 0)), (.p (.bool false)), (.p (.int .i64 0)), (.p (.str [])), (.p .nilslice), (.p .nilslice)] [])), (oN (.store 6 (.t 4) (.t 8))), (oA 5 (.mv (.k (.v (.c (.p (.int .i64 17)))))))] []) .ret) .skip)) (.seq (.seq (.reg [(oA 9 (.mv (.t 0)))] []) (.block 0 (.seq (.reg [(oA 11 (.bin .eql 0 (.t 9) (.k (.v (.c (.p (.str [110, 111, 116]))))))), (oA 10 (.mv (.t 11)))] []) (.cond (.t 10) (.seq (.reg [(oA 12 (.mv (.t 1))), (oA 13 (.iaddr 6 (.t 12) (.k (.v (.c (.p (.int .i64 0))))))), (oA 14 (.faddr 1 (.t 13))), (oA 15 (.load false 1 (.t 14))), (oA 16 (.un .not (.t 15))), (oA 17 (.call (.k (.v (.c (.func 96 [])))) [(.t 16)])), (oN (.store 6 (.t 4) (.t 17))), (oA 5 (.mv (.k (.v (.c (.p (.int .i64 0)))))))] []) .ret) (.seq (.reg [(oA 19 (.bin .eql 0 (.t 9) (.k (.v (.c (.p (.str [97, 110, 100]))))))), (oA 18 (.mv (.t 19)))] []) (.cond (.t 18) (.seq (.reg [(oA 20 (.mv (.t 1))), (oA 21 (.iaddr 6 (.t 20) (.k (.v (.c (.p (.int .i64 0))))))), (oA 22 (.faddr 1 (.t 21))), (oA 23 (.load false 1 (.t 22))), (oA 24 (.mv (.t 23))), ⟨(some 25), (.mv (.t 1)), (some (24, true))⟩, ⟨(some 26), (.iaddr 6 (.t 25) (.k (.v (.c (.p (.int .i64 1)))))), (some (24, true))⟩, ⟨(some 27), (.faddr 1 (.t 26)), (some (24, true))⟩, ⟨(some 28), (.load false 1 (.t 27)), (some (24, true))⟩, (oA 29 (.pick (.t 24) (.t 28) (.k (.v (.c (.p (.bool false))))))), (oA 30 (.call (.k (.v (.c (.func 96 [])))) [(.t 29)])), (oN (.store 6 (.t 4) (.t 30))), (oA 5 (.mv (.k (.v (.c (.p (.int .i64 0)))))))] []) .ret) .skip)))))) (.seq (.reg [(oA 31 (.mv (.t 1))), (oA 32 (.iaddr 6 (.t 31) (.k (.v (.c (.p (.int .i64 0))))))), (oA 33 (.faddr 1 (.t 32))), (oA 34 (.load false 1 (.t 33))), (oA 35 (.mv (.t 34))), ⟨(some 36), (.mv (.t 1)), (some (35, false))⟩, ⟨(some 37), (.iaddr 6 (.t 36) (.k (.v (.c (.p (.int .i64 1)))))), (some (35, false))⟩, ⟨(some 38), (.faddr 1 (.t 37)), (some (35, false))⟩, ⟨(some 39), (.load false 1 (.t 38)), (some (35, false))⟩, (oA 40 (.pick (.t 35) (.k (.v (.c (.p (.bool true))))) (.t 39))), (oA 41 (.call (.k (.v (.c (.func 96 [])))) [(.t 40)])), (oN (.store 6 (.t 4) (.t 41))), (oA 5 (.mv (.k (.v (.c (.p (.int .i64 0)))))))] []) .ret)))) }
theorem t89 : compF Tryz.prog (globs2 tabs opq) (fun _ => false) true Tryz.f89 = some c89.erase := by kernel_rfl
noncomputable def b89_0 (O : Oracle) (R : Jump) (q : Nat) (x0 x1 : TVal) (h : Heap) : Res1 :=
 vop O (.alloc [(.p (.int .i64 0)), (.p (.bool false)), (.p (.int .i64 0)), (.p (.str [])), (.p .nilslice), (.p .nilslice)] false) h 4 fun x4 h =>
 vcall O (.v (.c (.func 164 []))) [x1, (.v (.c (.func 165 [])))] h 7 fun x7 h =>
 vif x7 (
 vop O (.build [(.p (.int .i64 0)), (.p (.bool false)), (.p (.int .i64 0)), (.p (.str [])), (.p .nilslice), (.p .nilslice)] []) h 8 fun x8 h =>
 vstore 6 x4 x8 h fun _ h =>
 vcell true 6 x4 h fun c0 => tcomp (kI 17) fun c1 => vfin true q [c0, c1] h)
 (vbin .eql 0 x0 (kS [110, 111, 116]) h fun x11 h =>
 vif x11 (
 viaddr 6 x1 (kI 0) h fun x13 h =>
 vfaddr 1 x13 h fun x14 h =>
 vload false 1 x14 h fun x15 h =>
 vop O (.un .not (.k x15)) h 16 fun x16 h =>
 vcall O (.v (.c (.func 96 []))) [x16] h 17 fun x17 h =>
 vstore 6 x4 x17 h fun _ h =>
 vcell true 6 x4 h fun c0 => tcomp (kI 0) fun c1 => vfin true q [c0, c1] h)
 (vbin .eql 0 x0 (kS [97, 110, 100]) h fun x19 h =>
 vif x19 (
 viaddr 6 x1 (kI 0) h fun x21 h =>
 vfaddr 1 x21 h fun x22 h =>
 vload false 1 x22 h fun x23 h =>
 vguard x23 true (fun kk => kk x1 h) h fun x25 h =>
 vguard x23 true (fun kk => viaddr 6 x25 (kI 1) h kk) h fun x26 h =>
 vguard x23 true (fun kk => vfaddr 1 x26 h kk) h fun x27 h =>
 vguard x23 true (fun kk => vload false 1 x27 h kk) h fun x28 h =>
 vop O (.pick (.k x23) (.k x28) (.k (kB false))) h 29 fun x29 h =>
 vcall O (.v (.c (.func 96 []))) [x29] h 30 fun x30 h =>
 vstore 6 x4 x30 h fun _ h =>
 vcell true 6 x4 h fun c0 => tcomp (kI 0) fun c1 => vfin true q [c0, c1] h)
 (viaddr 6 x1 (kI 0) h fun x32 h =>
 vfaddr 1 x32 h fun x33 h =>
 vload false 1 x33 h fun x34 h =>
 vguard x34 false (fun kk => kk x1 h) h fun x36 h =>
 vguard x34 false (fun kk => viaddr 6 x36 (kI 1) h kk) h fun x37 h =>
 vguard x34 false (fun kk => vfaddr 1 x37 h kk) h fun x38 h =>
 vguard x34 false (fun kk => vload false 1 x38 h kk) h fun x39 h =>
 vop O (.pick (.k x34) (.k (kB true)) (.k x39)) h 40 fun x40 h =>
 vcall O (.v (.c (.func 96 []))) [x40] h 41 fun x41 h =>
 vstore 6 x4 x41 h fun _ h =>
 vcell true 6 x4 h fun c0 => tcomp (kI 0) fun c1 => vfin true q [c0, c1] h)))
theorem e89_0 (O : Oracle) (R : Jump) (q : Nat) (x0 x1 : TVal) (h : Heap) : b89_0 O R q x0 x1 h = stepF c89 O R q 0 [x0, x1] h := by kernel_rfl
noncomputable def d89 : BlkF := fun O R q => [.s fun y0 => .s fun y1 => .z fun h => b89_0 O R q y0 y1 h]
theorem o89 (O : Oracle) (R : Jump) (q : Nat) : HoldsAll c89 O R q 0 (d89 O R q) := ⟨fun y0 y1 h => e89_0 O R q y0 y1 h, trivial⟩
/- sprue/calls.same -/
def c90 : MFunc := { np := 1, res := [.cell 2 true 6, .t 3], frz := true, body := (.seq (.reg [(oA 2 (.alloc [(.p (.int .i64 0)), (.p (.bool false)), (.p (.int .i64 0)), (.p (.str [])), (.p .nilslice), (.p .nilslice)] false)), (oA 3 (.mv (.k (.v (.c (.p (.int .i64 0)))))))] []) (.seq (.reg [(oA 5 (.mv (.t 0))), (oA 6 (.iaddr 6 (.t 5) (.k (.v (.c (.p (.int .i64 0))))))), (oA 7 (.faddr 0 (.t 6))), (oA 8 (.load false 1 (.t 7))), (oA 4 (.mv (.t 8)))] []) (.seq (.seq (.reg [(oA 9 (.mv (.t 4))), (oA 10 (.bin .lss 0 (.t 9) (.k (.v (.c (.p (.int .i64 1))))))), (oA 11 (.mv (.t 10))), ⟨(some 12), (.mv (.t 4)), (some (11, false))⟩, ⟨(some 13), (.bin .gtr 0 (.t 12) (.k (.v (.c (.p (.int .i64 3)))))), (some (11, false))⟩, (oA 14 (.pick (.t 11) (.k (.v (.c (.p (.bool true))))) (.t 13))), (oA 15 (.mv (.t 14))), ⟨(some 16), (.mv (.t 0)), (some (15, false))⟩, ⟨(some 17), (.iaddr 6 (.t 16) (.k (.v (.c (.p (.int .i64 1)))))), (some (15, false))⟩, ⟨(some 18), (.faddr 0 (.t 17)), (some (15, false))⟩, ⟨(some 19), (.load false 1 (.t 18)), (some (15, false))⟩, ⟨(some 20), (.mv (.t 4)), (some (15, false))⟩, ⟨(some 21), (.bin .neq 0 (.t 19) (.t 20)), (some (15, false))⟩, (oA 22 (.pick (.t 15) (.k (.v (.c (.p (.bool true))))) (.t 21)))] []) (.cond (.t 22) (.seq (.reg [(oA 23 (.build [(.p (.int .i64 0)), (.p (.bool false)), (.p (.int .i64 0)), (.p (.str [])), (.p .nilslice), (.p .nilslice)] [])), (oN (.store 6 (.t 2) (.t 23))), (oA 3 (.mv (.k (.v (.c (.p (.int .i64 17)))))))] []) .ret) .skip)) (.seq (.reg [(oA 24 (.mv (.t 0))), (oA 25 (.iaddr 6 (.t 24) (.k (.v (.c (.p (.int .i64 0))))))), (oA 26 (.faddr 1 (.t 25))), (oA 27 (.load false 1 (.t 26))), (oA 28 (.mv (.t 0))), (oA 29 (.iaddr 6 (.t 28) (.k (.v (.c (.p (.int .i64 1))))))), (oA 30 (.faddr 1 (.t 29))), (oA 31 (.load false 1 (.t 30))), (oA 32 (.bin .eql 5 (.t 27) (.t 31))), (oA 33 (.mv (.t 32))), ⟨(some 34), (.mv (.t 0)), (some (33, true))⟩, ⟨(some 35), (.iaddr 6 (.t 34) (.k (.v (.c (.p (.int .i64 0)))))), (some (33, true))⟩, ⟨(some 36), (.faddr 2 (.t 35)), (some (33, true))⟩, ⟨(some 37), (.load false 1 (.t 36)), (some (33, true))⟩, ⟨(some 38), (.mv (.t 0)), (some (33, true))⟩, ⟨(some 39), (.iaddr 6 (.t 38) (.k (.v (.c (.p (.int .i64 1)))))), (some (33, true))⟩, ⟨(some 40), (.faddr 2 (.t 39)), (some (33, true))⟩, ⟨(some 41), (.load false 1 (.t 40)), (some (33, true))⟩, ⟨(some 42), (.bin .eql 0 (.t 37) (.t 41)), (some (33, true))⟩, (oA 43 (.pick (.t 33) (.t 42) (.k (.v (.c (.p (.bool false))))))), (oA 44 (.mv (.t 43))), ⟨(some 45), (.mv (.t 0)), (some (44, true))⟩, ⟨(some 46), (.iaddr 6 (.t 45) (.k (.v (.c (.p (.int .i64 0)))))), (some (44, true))⟩, ⟨(some 47), (.faddr 3 (.t 46)), (some (44, true))⟩, ⟨(some 48), (.load false 1 (.t 47)), (some (44, true))⟩, ⟨(some 49), (.mv (.t 0)), (some (44, true))⟩, ⟨(some 50), (.iaddr 6 (.t 49) (.k (.v (.c (.p (.int .i64 1)))))), (some (44, true))⟩, ⟨(some 51), (.faddr 3 (.t 50)), (some (44, true))⟩, ⟨(some 52), (.load false 1 (.t 51)), (some (44, true))⟩, ⟨(some 53), (.bin .eql 0 (.t 48) (.t 52)), (some (44, true))⟩, (oA 54 (.pick (.t 44) (.t 53) (.k (.v (.c (.p (.bool false))))))), (oA 55 (.call (.k (.v (.c (.func 96 [])))) [(.t 54)])), (oN (.store 6 (.t 2) (.t 55))), (oA 3 (.mv (.k (.v (.c (.p (.int .i64 0)))))))] []) .ret)))) }
theorem t90 : compF Tryz.prog (globs2 tabs opq) (fun _ => false) true Tryz.f90 = some c90.erase := by kernel_rfl
noncomputable def b90_0 (O : Oracle) (R : Jump) (q : Nat) (x0 : TVal) (h : Heap) : Res1 :=
 vop O (.alloc [(.p (.int .i64 0)), (.p (.bool false)), (.p (.int .i64 0)), (.p (.str [])), (.p .nilslice), (.p .nilslice)] false) h 2 fun x2 h =>
 viaddr 6 x0 (kI 0) h fun x6 h =>
 vfaddr 0 x6 h fun x7 h =>
 vload false 1 x7 h fun x8 h =>
 vbin .lss 0 x8 (kI 1) h fun x10 h =>
 vguard x10 false (fun kk => kk x8 h) h fun x12 h =>
 vguard x10 false (fun kk => vbin .gtr 0 x12 (kI 3) h kk) h fun x13 h =>
 vop O (.pick (.k x10) (.k (kB true)) (.k x13)) h 14 fun x14 h =>
 vguard x14 false (fun kk => kk x0 h) h fun x16 h =>
 vguard x14 false (fun kk => viaddr 6 x16 (kI 1) h kk) h fun x17 h =>
 vguard x14 false (fun kk => vfaddr 0 x17 h kk) h fun x18 h =>
 vguard x14 false (fun kk => vload false 1 x18 h kk) h fun x19 h =>
 vguard x14 false (fun kk => kk x8 h) h fun x20 h =>
 vguard x14 false (fun kk => vbin .neq 0 x19 x20 h kk) h fun x21 h =>
 vop O (.pick (.k x14) (.k (kB true)) (.k x21)) h 22 fun x22 h =>
 vif x22 (
 vop O (.build [(.p (.int .i64 0)), (.p (.bool false)), (.p (.int .i64 0)), (.p (.str [])), (.p .nilslice), (.p .nilslice)] []) h 23 fun x23 h =>
 vstore 6 x2 x23 h fun _ h =>
 vcell true 6 x2 h fun c0 => tcomp (kI 17) fun c1 => vfin true q [c0, c1] h)
 (viaddr 6 x0 (kI 0) h fun x25 h =>
 vfaddr 1 x25 h fun x26 h =>
 vload false 1 x26 h fun x27 h =>
 viaddr 6 x0 (kI 1) h fun x29 h =>
 vfaddr 1 x29 h fun x30 h =>
 vload false 1 x30 h fun x31 h =>
 vbin .eql 5 x27 x31 h fun x32 h =>
 vguard x32 true (fun kk => kk x0 h) h fun x34 h =>
 vguard x32 true (fun kk => viaddr 6 x34 (kI 0) h kk) h fun x35 h =>
 vguard x32 true (fun kk => vfaddr 2 x35 h kk) h fun x36 h =>
 vguard x32 true (fun kk => vload false 1 x36 h kk) h fun x37 h =>
 vguard x32 true (fun kk => kk x0 h) h fun x38 h =>
 vguard x32 true (fun kk => viaddr 6 x38 (kI 1) h kk) h fun x39 h =>
 vguard x32 true (fun kk => vfaddr 2 x39 h kk) h fun x40 h =>
 vguard x32 true (fun kk => vload false 1 x40 h kk) h fun x41 h =>
 vguard x32 true (fun kk => vbin .eql 0 x37 x41 h kk) h fun x42 h =>
 vop O (.pick (.k x32) (.k x42) (.k (kB false))) h 43 fun x43 h =>
 vguard x43 true (fun kk => kk x0 h) h fun x45 h =>
 vguard x43 true (fun kk => viaddr 6 x45 (kI 0) h kk) h fun x46 h =>
 vguard x43 true (fun kk => vfaddr 3 x46 h kk) h fun x47 h =>
 vguard x43 true (fun kk => vload false 1 x47 h kk) h fun x48 h =>
 vguard x43 true (fun kk => kk x0 h) h fun x49 h =>
 vguard x43 true (fun kk => viaddr 6 x49 (kI 1) h kk) h fun x50 h =>
 vguard x43 true (fun kk => vfaddr 3 x50 h kk) h fun x51 h =>
 vguard x43 true (fun kk => vload false 1 x51 h kk) h fun x52 h =>
 vguard x43 true (fun kk => vbin .eql 0 x48 x52 h kk) h fun x53 h =>
 vop O (.pick (.k x43) (.k x53) (.k (kB false))) h 54 fun x54 h =>
 vcall O (.v (.c (.func 96 []))) [x54] h 55 fun x55 h =>
 vstore 6 x2 x55 h fun _ h =>
 vcell true 6 x2 h fun c0 => tcomp (kI 0) fun c1 => vfin true q [c0, c1] h)
theorem e90_0 (O : Oracle) (R : Jump) (q : Nat) (x0 : TVal) (h : Heap) : b90_0 O R q x0 h = stepF c90 O R q 0 [x0] h := by kernel_rfl
noncomputable def d90 : BlkF := fun O R q => [.s fun y0 => .z fun h => b90_0 O R q y0 h]
theorem o90 (O : Oracle) (R : Jump) (q : Nat) : HoldsAll c90 O R q 0 (d90 O R q) := ⟨fun y0 h => e90_0 O R q y0 h, trivial⟩
/- sprue/calls.cat -/
def c91 : MFunc := { np := 1, res := [.cell 2 true 6, .t 3], frz := true, body := (.seq (.reg [(oA 2 (.alloc [(.p (.int .i64 0)), (.p (.bool false)), (.p (.int .i64 0)), (.p (.str [])), (.p .nilslice), (.p .nilslice)] false)), (oA 3 (.mv (.k (.v (.c (.p (.int .i64 0)))))))] []) (.seq (.block 0 (.seq (.reg [(oA 5 (.mv (.t 0))), (oA 6 (.bslice 1 2 [(.p (.int .i64 0))] [(0, (.k (.v (.c (.p (.int .i64 3)))))), (1, (.k (.v (.c (.p (.int .i64 3))))))] false)), (oA 7 (.call (.k (.v (.c (.func 94 [])))) [(.t 5), (.t 6)])), (oA 8 (.un .not (.t 7))), (oA 4 (.mv (.t 8)))] []) (.cond (.t 4) (.seq (.reg [(oA 9 (.build [(.p (.int .i64 0)), (.p (.bool false)), (.p (.int .i64 0)), (.p (.str [])), (.p .nilslice), (.p .nilslice)] [])), (oN (.store 6 (.t 2) (.t 9))), (oA 3 (.mv (.k (.v (.c (.p (.int .i64 17)))))))] []) .ret) (.seq (.reg [(oA 11 (.mv (.t 0))), (oA 12 (.iaddr 6 (.t 11) (.k (.v (.c (.p (.int .i64 0))))))), (oA 13 (.faddr 3 (.t 12))), (oA 14 (.load false 1 (.t 13))), (oA 15 (.len 0 (.t 14))), (oA 16 (.mv (.t 0))), (oA 17 (.iaddr 6 (.t 16) (.k (.v (.c (.p (.int .i64 1))))))), (oA 18 (.faddr 3 (.t 17))), (oA 19 (.load false 1 (.t 18))), (oA 20 (.len 0 (.t 19))), (oA 21 (.bin .sub 0 (.k (.v (.c (.p (.int .i64 65536))))) (.t 20))), (oA 22 (.bin .gtr 0 (.t 15) (.t 21))), (oA 10 (.mv (.t 22)))] []) (.cond (.t 10) (.seq (.reg [(oA 23 (.build [(.p (.int .i64 0)), (.p (.bool false)), (.p (.int .i64 0)), (.p (.str [])), (.p .nilslice), (.p .nilslice)] [])), (oN (.store 6 (.t 2) (.t 23))), (oA 3 (.mv (.k (.v (.c (.p (.int .i64 34)))))))] []) .ret) .skip))))) (.seq (.reg [(oA 24 (.mv (.t 0))), (oA 25 (.iaddr 6 (.t 24) (.k (.v (.c (.p (.int .i64 0))))))), (oA 26 (.faddr 3 (.t 25))), (oA 27 (.load false 1 (.t 26))), (oA 28 (.mv (.t 0))), (oA 29 (.iaddr 6 (.t 28) (.k (.v (.c (.p (.int .i64 1))))))), (oA 30 (.faddr 3 (.t 29))), (oA 31 (.load false 1 (.t 30))), (oA 32 (.bin .add 0 (.t 27) (.t 31))), (oA 33 (.call (.k (.v (.c (.func 166 [])))) [(.t 32)])), (oN (.store 6 (.t 2) (.t 33))), (oA 3 (.mv (.k (.v (.c (.p (.int .i64 0)))))))] []) .ret))) }
theorem t91 : compF Tryz.prog (globs2 tabs opq) (fun _ => false) true Tryz.f91 = some c91.erase := by kernel_rfl
noncomputable def b91_0 (O : Oracle) (R : Jump) (q : Nat) (x0 : TVal) (h : Heap) : Res1 :=
 vop O (.alloc [(.p (.int .i64 0)), (.p (.bool false)), (.p (.int .i64 0)), (.p (.str [])), (.p .nilslice), (.p .nilslice)] false) h 2 fun x2 h =>
 vop O (.bslice 1 2 [(.p (.int .i64 0))] [(0, (.k (kI 3))), (1, (.k (kI 3)))] false) h 6 fun x6 h =>
 vcall O (.v (.c (.func 94 []))) [x0, x6] h 7 fun x7 h =>
 vop O (.un .not (.k x7)) h 8 fun x8 h =>
 vif x8 (
 vop O (.build [(.p (.int .i64 0)), (.p (.bool false)), (.p (.int .i64 0)), (.p (.str [])), (.p .nilslice), (.p .nilslice)] []) h 9 fun x9 h =>
 vstore 6 x2 x9 h fun _ h =>
 vcell true 6 x2 h fun c0 => tcomp (kI 17) fun c1 => vfin true q [c0, c1] h)
 (viaddr 6 x0 (kI 0) h fun x12 h =>
 vfaddr 3 x12 h fun x13 h =>
 vload false 1 x13 h fun x14 h =>
 vlen O 0 x14 h 15 fun x15 h =>
 viaddr 6 x0 (kI 1) h fun x17 h =>
 vfaddr 3 x17 h fun x18 h =>
 vload false 1 x18 h fun x19 h =>
 vlen O 0 x19 h 20 fun x20 h =>
 vbin .sub 0 (kI 65536) x20 h fun x21 h =>
 vbin .gtr 0 x15 x21 h fun x22 h =>
 vif x22 (
 vop O (.build [(.p (.int .i64 0)), (.p (.bool false)), (.p (.int .i64 0)), (.p (.str [])), (.p .nilslice), (.p .nilslice)] []) h 23 fun x23 h =>
 vstore 6 x2 x23 h fun _ h =>
 vcell true 6 x2 h fun c0 => tcomp (kI 34) fun c1 => vfin true q [c0, c1] h)
 (viaddr 6 x0 (kI 0) h fun x25 h =>
 vfaddr 3 x25 h fun x26 h =>
 vload false 1 x26 h fun x27 h =>
 viaddr 6 x0 (kI 1) h fun x29 h =>
 vfaddr 3 x29 h fun x30 h =>
 vload false 1 x30 h fun x31 h =>
 vbin .add 0 x27 x31 h fun x32 h =>
 vcall O (.v (.c (.func 166 []))) [x32] h 33 fun x33 h =>
 vstore 6 x2 x33 h fun _ h =>
 vcell true 6 x2 h fun c0 => tcomp (kI 0) fun c1 => vfin true q [c0, c1] h))
theorem e91_0 (O : Oracle) (R : Jump) (q : Nat) (x0 : TVal) (h : Heap) : b91_0 O R q x0 h = stepF c91 O R q 0 [x0] h := by kernel_rfl
noncomputable def d91 : BlkF := fun O R q => [.s fun y0 => .z fun h => b91_0 O R q y0 h]
theorem o91 (O : Oracle) (R : Jump) (q : Nat) : HoldsAll c91 O R q 0 (d91 O R q) := ⟨fun y0 h => e91_0 O R q y0 h, trivial⟩
/- sprue/calls.written -/
def c92 : MFunc := { np := 1, res := [.cell 2 true 6, .t 3], frz := true, body := (.seq (.reg [(oA 1 (.box (.t 0) false)), (oA 2 (.alloc [(.p (.int .i64 0)), (.p (.bool false)), (.p (.int .i64 0)), (.p (.str [])), (.p .nilslice), (.p .nilslice)] false)), (oA 3 (.mv (.k (.v (.c (.p (.int .i64 0)))))))] []) (.seq (.seq (.reg [(oA 4 (.faddr 0 (.t 1))), (oA 5 (.load false 1 (.t 4)))] []) (.block 0 (.seq (.reg [(oA 7 (.bin .eql 0 (.t 5) (.k (.v (.c (.p (.int .i64 2))))))), (oA 6 (.mv (.t 7)))] []) (.cond (.t 6) (.seq (.reg [(oA 8 (.faddr 2 (.t 1))), (oA 9 (.load false 1 (.t 8))), (oA 10 (.call (.k (.v (.c (.func 167 [])))) [(.t 9), (.k (.v (.c (.p (.int .i64 10)))))])), (oA 11 (.call (.k (.v (.c (.func 166 [])))) [(.t 10)])), (oN (.store 6 (.t 2) (.t 11))), (oA 3 (.mv (.k (.v (.c (.p (.int .i64 0)))))))] []) .ret) (.seq (.reg [(oA 13 (.bin .eql 0 (.t 5) (.k (.v (.c (.p (.int .i64 1))))))), (oA 12 (.mv (.t 13)))] []) (.cond (.t 12) (.seq (.reg [(oA 14 (.faddr 1 (.t 1))), (oA 15 (.load false 1 (.t 14))), (oA 16 (.call (.k (.v (.c (.func 168 [])))) [(.t 15)])), (oA 17 (.call (.k (.v (.c (.func 166 [])))) [(.t 16)])), (oN (.store 6 (.t 2) (.t 17))), (oA 3 (.mv (.k (.v (.c (.p (.int .i64 0)))))))] []) .ret) .skip)))))) (.seq (.reg [(oA 18 (.build [(.p (.int .i64 0)), (.p (.bool false)), (.p (.int .i64 0)), (.p (.str [])), (.p .nilslice), (.p .nilslice)] [])), (oN (.store 6 (.t 2) (.t 18))), (oA 3 (.mv (.k (.v (.c (.p (.int .i64 17)))))))] []) .ret))) }
theorem t92 : compF Tryz.prog (globs2 tabs opq) (fun _ => false) true Tryz.f92 = some c92.erase := by kernel_rfl
noncomputable def b92_0 (O : Oracle) (R : Jump) (q : Nat) (x0 : TVal) (h : Heap) : Res1 :=
 vop O (.box (.k x0) false) h 1 fun x1 h =>
 vop O (.alloc [(.p (.int .i64 0)), (.p (.bool false)), (.p (.int .i64 0)), (.p (.str [])), (.p .nilslice), (.p .nilslice)] false) h 2 fun x2 h =>
 vfaddr 0 x1 h fun x4 h =>
 vload false 1 x4 h fun x5 h =>
 vbin .eql 0 x5 (kI 2) h fun x7 h =>
 vif x7 (
 vfaddr 2 x1 h fun x8 h =>
 vload false 1 x8 h fun x9 h =>
 vcall O (.v (.c (.func 167 []))) [x9, (kI 10)] h 10 fun x10 h =>
 vcall O (.v (.c (.func 166 []))) [x10] h 11 fun x11 h =>
 vstore 6 x2 x11 h fun _ h =>
 vcell true 6 x2 h fun c0 => tcomp (kI 0) fun c1 => vfin true q [c0, c1] h)
 (vbin .eql 0 x5 (kI 1) h fun x13 h =>
 vif x13 (
 vfaddr 1 x1 h fun x14 h =>
 vload false 1 x14 h fun x15 h =>
 vcall O (.v (.c (.func 168 []))) [x15] h 16 fun x16 h =>
 vcall O (.v (.c (.func 166 []))) [x16] h 17 fun x17 h =>
 vstore 6 x2 x17 h fun _ h =>
 vcell true 6 x2 h fun c0 => tcomp (kI 0) fun c1 => vfin true q [c0, c1] h)
 (vop O (.build [(.p (.int .i64 0)), (.p (.bool false)), (.p (.int .i64 0)), (.p (.str [])), (.p .nilslice), (.p .nilslice)] []) h 18 fun x18 h =>
 vstore 6 x2 x18 h fun _ h =>
 vcell true 6 x2 h fun c0 => tcomp (kI 17) fun c1 => vfin true q [c0, c1] h))
theorem e92_0 (O : Oracle) (R : Jump) (q : Nat) (x0 : TVal) (h : Heap) : b92_0 O R q x0 h = stepF c92 O R q 0 [x0] h := by kernel_rfl
noncomputable def d92 : BlkF := fun O R q => [.s fun y0 => .z fun h => b92_0 O R q y0 h]
theorem o92 (O : Oracle) (R : Jump) (q : Nat) : HoldsAll c92 O R q 0 (d92 O R q) := ⟨fun y0 h => e92_0 O R q y0 h, trivial⟩
/- sprue/calls.at -/
def c93 : MFunc := { np := 1, res := [.cell 2 true 6, .t 3], frz := true, body := (.seq (.reg [(oA 2 (.alloc [(.p (.int .i64 0)), (.p (.bool false)), (.p (.int .i64 0)), (.p (.str [])), (.p .nilslice), (.p .nilslice)] false)), (oA 3 (.mv (.k (.v (.c (.p (.int .i64 0)))))))] []) (.seq (.block 0 (.seq (.reg [(oA 5 (.mv (.t 0))), (oA 6 (.bslice 1 2 [(.p (.int .i64 0))] [(0, (.k (.v (.c (.p (.int .i64 4)))))), (1, (.k (.v (.c (.p (.int .i64 2))))))] false)), (oA 7 (.call (.k (.v (.c (.func 94 [])))) [(.t 5), (.t 6)])), (oA 8 (.un .not (.t 7))), (oA 4 (.mv (.t 8)))] []) (.cond (.t 4) (.seq (.reg [(oA 9 (.build [(.p (.int .i64 0)), (.p (.bool false)), (.p (.int .i64 0)), (.p (.str [])), (.p .nilslice), (.p .nilslice)] [])), (oN (.store 6 (.t 2) (.t 9))), (oA 3 (.mv (.k (.v (.c (.p (.int .i64 17)))))))] []) .ret) (.seq (.reg [(oA 11 (.mv (.t 0))), (oA 12 (.iaddr 6 (.t 11) (.k (.v (.c (.p (.int .i64 1))))))), (oA 13 (.faddr 2 (.t 12))), (oA 14 (.load false 1 (.t 13))), (oA 15 (.bin .lss 0 (.t 14) (.k (.v (.c (.p (.int .i64 0))))))), (oA 16 (.mv (.t 15))), ⟨(some 17), (.mv (.t 0)), (some (16, false))⟩, ⟨(some 18), (.iaddr 6 (.t 17) (.k (.v (.c (.p (.int .i64 1)))))), (some (16, false))⟩, ⟨(some 19), (.faddr 2 (.t 18)), (some (16, false))⟩, ⟨(some 20), (.load false 1 (.t 19)), (some (16, false))⟩, ⟨(some 21), (.mv (.t 0)), (some (16, false))⟩, ⟨(some 22), (.iaddr 6 (.t 21) (.k (.v (.c (.p (.int .i64 0)))))), (some (16, false))⟩, ⟨(some 23), (.faddr 5 (.t 22)), (some (16, false))⟩, ⟨(some 24), (.load false 1 (.t 23)), (some (16, false))⟩, ⟨(some 25), (.len 2 (.t 24)), (some (16, false))⟩, ⟨(some 26), (.bin .geq 0 (.t 20) (.t 25)), (some (16, false))⟩, (oA 27 (.pick (.t 16) (.k (.v (.c (.p (.bool true))))) (.t 26))), (oA 10 (.mv (.t 27)))] []) (.cond (.t 10) (.seq (.reg [(oA 28 (.build [(.p (.int .i64 0)), (.p (.bool false)), (.p (.int .i64 0)), (.p (.str [])), (.p .nilslice), (.p .nilslice)] [])), (oN (.store 6 (.t 2) (.t 28))), (oA 3 (.mv (.k (.v (.c (.p (.int .i64 32)))))))] []) .ret) .skip))))) (.seq (.reg [(oA 29 (.mv (.t 0))), (oA 30 (.iaddr 6 (.t 29) (.k (.v (.c (.p (.int .i64 0))))))), (oA 31 (.faddr 5 (.t 30))), (oA 32 (.load false 1 (.t 31))), (oA 33 (.mv (.t 0))), (oA 34 (.iaddr 6 (.t 33) (.k (.v (.c (.p (.int .i64 1))))))), (oA 35 (.faddr 2 (.t 34))), (oA 36 (.load false 1 (.t 35))), (oA 37 (.iaddr 6 (.t 32) (.t 36))), (oA 38 (.load true 6 (.t 37))), (oA 39 (.call (.k (.v (.c (.func 71 [])))) [(.t 38)])), (oN (.store 6 (.t 2) (.t 39))), (oA 3 (.mv (.k (.v (.c (.p (.int .i64 0)))))))] []) .ret))) }
theorem t93 : compF Tryz.prog (globs2 tabs opq) (fun _ => false) true Tryz.f93 = some c93.erase := by kernel_rfl
noncomputable def b93_0 (O : Oracle) (R : Jump) (q : Nat) (x0 : TVal) (h : Heap) : Res1 :=
 vop O (.alloc [(.p (.int .i64 0)), (.p (.bool false)), (.p (.int .i64 0)), (.p (.str [])), (.p .nilslice), (.p .nilslice)] false) h 2 fun x2 h =>
 vop O (.bslice 1 2 [(.p (.int .i64 0))] [(0, (.k (kI 4))), (1, (.k (kI 2)))] false) h 6 fun x6 h =>
 vcall O (.v (.c (.func 94 []))) [x0, x6] h 7 fun x7 h =>
 vop O (.un .not (.k x7)) h 8 fun x8 h =>
 vif x8 (
 vop O (.build [(.p (.int .i64 0)), (.p (.bool false)), (.p (.int .i64 0)), (.p (.str [])), (.p .nilslice), (.p .nilslice)] []) h 9 fun x9 h =>
 vstore 6 x2 x9 h fun _ h =>
 vcell true 6 x2 h fun c0 => tcomp (kI 17) fun c1 => vfin true q [c0, c1] h)
 (viaddr 6 x0 (kI 1) h fun x12 h =>
 vfaddr 2 x12 h fun x13 h =>
 vload false 1 x13 h fun x14 h =>
 vbin .lss 0 x14 (kI 0) h fun x15 h =>
 vguard x15 false (fun kk => kk x0 h) h fun x17 h =>
 vguard x15 false (fun kk => viaddr 6 x17 (kI 1) h kk) h fun x18 h =>
 vguard x15 false (fun kk => vfaddr 2 x18 h kk) h fun x19 h =>
 vguard x15 false (fun kk => vload false 1 x19 h kk) h fun x20 h =>
 vguard x15 false (fun kk => kk x0 h) h fun x21 h =>
 vguard x15 false (fun kk => viaddr 6 x21 (kI 0) h kk) h fun x22 h =>
 vguard x15 false (fun kk => vfaddr 5 x22 h kk) h fun x23 h =>
 vguard x15 false (fun kk => vload false 1 x23 h kk) h fun x24 h =>
 vguard x15 false (fun kk => vlen O 2 x24 h 25 kk) h fun x25 h =>
 vguard x15 false (fun kk => vbin .geq 0 x20 x25 h kk) h fun x26 h =>
 vop O (.pick (.k x15) (.k (kB true)) (.k x26)) h 27 fun x27 h =>
 vif x27 (
 vop O (.build [(.p (.int .i64 0)), (.p (.bool false)), (.p (.int .i64 0)), (.p (.str [])), (.p .nilslice), (.p .nilslice)] []) h 28 fun x28 h =>
 vstore 6 x2 x28 h fun _ h =>
 vcell true 6 x2 h fun c0 => tcomp (kI 32) fun c1 => vfin true q [c0, c1] h)
 (viaddr 6 x0 (kI 0) h fun x30 h =>
 vfaddr 5 x30 h fun x31 h =>
 vload false 1 x31 h fun x32 h =>
 viaddr 6 x0 (kI 1) h fun x34 h =>
 vfaddr 2 x34 h fun x35 h =>
 vload false 1 x35 h fun x36 h =>
 viaddr 6 x32 x36 h fun x37 h =>
 vload true 6 x37 h fun x38 h =>
 vcall O (.v (.c (.func 71 []))) [x38] h 39 fun x39 h =>
 vstore 6 x2 x39 h fun _ h =>
 vcell true 6 x2 h fun c0 => tcomp (kI 0) fun c1 => vfin true q [c0, c1] h))
theorem e93_0 (O : Oracle) (R : Jump) (q : Nat) (x0 : TVal) (h : Heap) : b93_0 O R q x0 h = stepF c93 O R q 0 [x0] h := by kernel_rfl
noncomputable def d93 : BlkF := fun O R q => [.s fun y0 => .z fun h => b93_0 O R q y0 h]
theorem o93 (O : Oracle) (R : Jump) (q : Nat) : HoldsAll c93 O R q 0 (d93 O R q) := ⟨fun y0 h => e93_0 O R q y0 h, trivial⟩
/- sprue/calls.are -/
def c94 : MFunc := { np := 2, res := [.t 4], frz := true, body := (.seq (.reg [(oA 4 (.mv (.k (.v (.c (.p (.bool false)))))))] []) (.seq (.seq (.reg [(oA 7 (.mv (.t 1))), (oA 8 (.len 2 (.t 7))), (oA 9 (.mv (.k (.v (.c (.p (.int .i64 0)))))))] []) (.block 0 (.loop 1 [0, 7, 8, 9] (.seq (.reg [(oA 10 (.bin .lss 0 (.t 9) (.t 8)))] []) (.seq (.cond (.t 10) .skip (.exit 0)) (.seq (.block 1 (.seq (.reg [(oA 11 (.mv (.t 9))), (oA 12 (.iaddr 1 (.t 7) (.t 9))), (oA 13 (.load false 1 (.t 12))), (oA 5 (.mv (.t 11))), (oA 6 (.mv (.t 13)))] []) (.seq (.reg [(oA 14 (.mv (.t 0))), (oA 15 (.mv (.t 5))), (oA 16 (.iaddr 6 (.t 14) (.t 15))), (oA 17 (.faddr 0 (.t 16))), (oA 18 (.load false 1 (.t 17))), (oA 19 (.mv (.t 6))), (oA 20 (.bin .neq 0 (.t 18) (.t 19)))] []) (.cond (.t 20) (.seq (.reg [(oA 4 (.mv (.k (.v (.c (.p (.bool false)))))))] []) .ret) .skip)))) (.reg [(oA 21 (.bin .add 0 (.t 9) (.k (.v (.c (.p (.int .i64 1))))))), (oA 9 (.mv (.t 21)))] []))))))) (.seq (.reg [(oA 4 (.mv (.k (.v (.c (.p (.bool true)))))))] []) .ret))) }
theorem t94 : compF Tryz.prog (globs2 tabs opq) (fun _ => false) true Tryz.f94 = some c94.erase := by kernel_rfl
noncomputable def b94_0 (O : Oracle) (R : Jump) (q : Nat) (x0 x1 : TVal) (h : Heap) : Res1 :=
 vlen O 2 x1 h 8 fun x8 h =>
 R 1 [x0, x1, x8, (kI 0)] h
theorem e94_0 (O : Oracle) (R : Jump) (q : Nat) (x0 x1 : TVal) (h : Heap) : b94_0 O R q x0 x1 h = stepF c94 O R q 0 [x0, x1] h := by kernel_rfl
noncomputable def b94_1 (O : Oracle) (R : Jump) (q : Nat) (x0 x7 x8 x9 : TVal) (h : Heap) : Res1 :=
 vbin .lss 0 x9 x8 h fun x10 h =>
 vif x10 (
 viaddr 1 x7 x9 h fun x12 h =>
 vload false 1 x12 h fun x13 h =>
 viaddr 6 x0 x9 h fun x16 h =>
 vfaddr 0 x16 h fun x17 h =>
 vload false 1 x17 h fun x18 h =>
 vbin .neq 0 x18 x13 h fun x20 h =>
 vif x20 (
 tcomp (kB false) fun c0 => vfin true q [c0] h)
 (vbin .add 0 x9 (kI 1) h fun x21 h =>
 R 1 [x0, x7, x8, x21] h))
 (tcomp (kB true) fun c0 => vfin true q [c0] h)
theorem e94_1 (O : Oracle) (R : Jump) (q : Nat) (x0 x7 x8 x9 : TVal) (h : Heap) : b94_1 O R q x0 x7 x8 x9 h = stepF c94 O R q 1 [x0, x7, x8, x9] h := by kernel_rfl
noncomputable def d94 : BlkF := fun O R q => [.s fun y0 => .s fun y1 => .z fun h => b94_0 O R q y0 y1 h, .s fun y0 => .s fun y1 => .s fun y2 => .s fun y3 => .z fun h => b94_1 O R q y0 y1 y2 y3 h]
theorem o94 (O : Oracle) (R : Jump) (q : Nat) : HoldsAll c94 O R q 0 (d94 O R q) := ⟨fun y0 y1 h => e94_0 O R q y0 y1 h, fun y0 y1 y2 y3 h => e94_1 O R q y0 y1 y2 y3 h, trivial⟩
end Go.Proofs.YtnlmlcfipbnpgaaGreatDoor.Ab
