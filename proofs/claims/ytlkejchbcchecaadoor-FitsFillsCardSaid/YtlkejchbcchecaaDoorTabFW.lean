/- The machine's equations, a piece at a time. Own work, printed by a program of our own; no condition. -/
import Derived.Test.YtlkejchbcchecaaDoorTabF
namespace Go.Proofs.YtlkejchbcchecaaDoor.Ab
open Go Go.AI
set_option linter.all false
set_option linter.unusedVariables false
set_option maxRecDepth 100000
theorem k4 : tab.get 4 = some c4 := by kernel_rfl
theorem w4_0 (S : Oracle) (q : Nat) (x0 : TVal) (h : Heap) : lim tab.get S 4 q 0 [x0] h = b4_0 (orc S (lim tab.get S)) (lim tab.get S 4 q) q x0 h := (qAA k4 q 0 _ h).trans (e4_0 ..).symm
theorem w4_1 (S : Oracle) (q : Nat) (x0 x1 x2 x3 x4 x5 : TVal) (h : Heap) : lim tab.get S 4 q 1 [x0, x1, x2, x3, x4, x5] h = b4_1 (orc S (lim tab.get S)) (lim tab.get S 4 q) q x0 x1 x2 x3 x4 x5 h := (qAA k4 q 1 _ h).trans (e4_1 ..).symm
theorem w4_2 (S : Oracle) (q : Nat) (x0 x1 x2 x3 x4 x5 : TVal) (h : Heap) : lim tab.get S 4 q 2 [x0, x1, x2, x3, x4, x5] h = b4_2 (orc S (lim tab.get S)) (lim tab.get S 4 q) q x0 x1 x2 x3 x4 x5 h := (qAA k4 q 2 _ h).trans (e4_2 ..).symm
theorem w4_3 (S : Oracle) (q : Nat) (x0 x1 x2 x3 x4 x5 x6 x7 x8 : TVal) (h : Heap) : lim tab.get S 4 q 3 [x0, x1, x2, x3, x4, x5, x6, x7, x8] h = b4_3 (orc S (lim tab.get S)) (lim tab.get S 4 q) q x0 x1 x2 x3 x4 x5 x6 x7 x8 h := (qAA k4 q 3 _ h).trans (e4_3 ..).symm
theorem w4_4 (S : Oracle) (q : Nat) (x0 x1 x2 x3 x4 x5 x6 x7 x8 x9 : TVal) (h : Heap) : lim tab.get S 4 q 4 [x0, x1, x2, x3, x4, x5, x6, x7, x8, x9] h = b4_4 (orc S (lim tab.get S)) (lim tab.get S 4 q) q x0 x1 x2 x3 x4 x5 x6 x7 x8 x9 h := (qAA k4 q 4 _ h).trans (e4_4 ..).symm
theorem w4_5 (S : Oracle) (q : Nat) (x0 x1 x2 x3 : TVal) (h : Heap) : lim tab.get S 4 q 5 [x0, x1, x2, x3] h = b4_5 (orc S (lim tab.get S)) (lim tab.get S 4 q) q x0 x1 x2 x3 h := (qAA k4 q 5 _ h).trans (e4_5 ..).symm
theorem k13 : tab.get 13 = some c13 := by kernel_rfl
theorem w13_0 (S : Oracle) (q : Nat) (h : Heap) : lim tab.get S 13 q 0 [] h = b13_0 (orc S (lim tab.get S)) (lim tab.get S 13 q) q  h := (qAA k13 q 0 _ h).trans (e13_0 ..).symm
theorem k14 : tab.get 14 = some c14 := by kernel_rfl
theorem w14_0 (S : Oracle) (q : Nat) (x0 x1 : TVal) (h : Heap) : lim tab.get S 14 q 0 [x0, x1] h = b14_0 (orc S (lim tab.get S)) (lim tab.get S 14 q) q x0 x1 h := (qAA k14 q 0 _ h).trans (e14_0 ..).symm
theorem k16 : tab.get 16 = some c16 := by kernel_rfl
theorem w16_0 (S : Oracle) (q : Nat) (x0 : TVal) (h : Heap) : lim tab.get S 16 q 0 [x0] h = b16_0 (orc S (lim tab.get S)) (lim tab.get S 16 q) q x0 h := (qAA k16 q 0 _ h).trans (e16_0 ..).symm
theorem k17 : tab.get 17 = some c17 := by kernel_rfl
theorem w17_0 (S : Oracle) (q : Nat) (x0 x1 x2 : TVal) (h : Heap) : lim tab.get S 17 q 0 [x0, x1, x2] h = b17_0 (orc S (lim tab.get S)) (lim tab.get S 17 q) q x0 x1 x2 h := (qAA k17 q 0 _ h).trans (e17_0 ..).symm
theorem k18 : tab.get 18 = some c18 := by kernel_rfl
theorem w18_0 (S : Oracle) (q : Nat) (x0 : TVal) (h : Heap) : lim tab.get S 18 q 0 [x0] h = b18_0 (orc S (lim tab.get S)) (lim tab.get S 18 q) q x0 h := (qAA k18 q 0 _ h).trans (e18_0 ..).symm
theorem w18_1 (S : Oracle) (q : Nat) (x0 x1 x2 : TVal) (h : Heap) : lim tab.get S 18 q 1 [x0, x1, x2] h = b18_1 (orc S (lim tab.get S)) (lim tab.get S 18 q) q x0 x1 x2 h := (qAA k18 q 1 _ h).trans (e18_1 ..).symm
theorem w18_2 (S : Oracle) (q : Nat) (x0 x1 x2 x3 x4 : TVal) (h : Heap) : lim tab.get S 18 q 2 [x0, x1, x2, x3, x4] h = b18_2 (orc S (lim tab.get S)) (lim tab.get S 18 q) q x0 x1 x2 x3 x4 h := (qAA k18 q 2 _ h).trans (e18_2 ..).symm
theorem w18_3 (S : Oracle) (q : Nat) (x0 x1 x2 x3 x4 : TVal) (h : Heap) : lim tab.get S 18 q 3 [x0, x1, x2, x3, x4] h = b18_3 (orc S (lim tab.get S)) (lim tab.get S 18 q) q x0 x1 x2 x3 x4 h := (qAA k18 q 3 _ h).trans (e18_3 ..).symm
theorem w18_4 (S : Oracle) (q : Nat) (x0 x1 x2 : TVal) (h : Heap) : lim tab.get S 18 q 4 [x0, x1, x2] h = b18_4 (orc S (lim tab.get S)) (lim tab.get S 18 q) q x0 x1 x2 h := (qAA k18 q 4 _ h).trans (e18_4 ..).symm
theorem w18_5 (S : Oracle) (q : Nat) (x0 x1 x2 x3 x4 : TVal) (h : Heap) : lim tab.get S 18 q 5 [x0, x1, x2, x3, x4] h = b18_5 (orc S (lim tab.get S)) (lim tab.get S 18 q) q x0 x1 x2 x3 x4 h := (qAA k18 q 5 _ h).trans (e18_5 ..).symm
theorem w18_6 (S : Oracle) (q : Nat) (x0 x1 x2 x3 x4 : TVal) (h : Heap) : lim tab.get S 18 q 6 [x0, x1, x2, x3, x4] h = b18_6 (orc S (lim tab.get S)) (lim tab.get S 18 q) q x0 x1 x2 x3 x4 h := (qAA k18 q 6 _ h).trans (e18_6 ..).symm
theorem w18_7 (S : Oracle) (q : Nat) (x0 x1 x2 : TVal) (h : Heap) : lim tab.get S 18 q 7 [x0, x1, x2] h = b18_7 (orc S (lim tab.get S)) (lim tab.get S 18 q) q x0 x1 x2 h := (qAA k18 q 7 _ h).trans (e18_7 ..).symm
theorem k19 : tab.get 19 = some c19 := by kernel_rfl
theorem w19_0 (S : Oracle) (q : Nat) (x0 : TVal) (h : Heap) : lim tab.get S 19 q 0 [x0] h = b19_0 (orc S (lim tab.get S)) (lim tab.get S 19 q) q x0 h := (qAA k19 q 0 _ h).trans (e19_0 ..).symm
theorem w19_1 (S : Oracle) (q : Nat) (x0 x1 x2 : TVal) (h : Heap) : lim tab.get S 19 q 1 [x0, x1, x2] h = b19_1 (orc S (lim tab.get S)) (lim tab.get S 19 q) q x0 x1 x2 h := (qAA k19 q 1 _ h).trans (e19_1 ..).symm
theorem w19_2 (S : Oracle) (q : Nat) (x0 x1 x2 : TVal) (h : Heap) : lim tab.get S 19 q 2 [x0, x1, x2] h = b19_2 (orc S (lim tab.get S)) (lim tab.get S 19 q) q x0 x1 x2 h := (qAA k19 q 2 _ h).trans (e19_2 ..).symm
theorem k20 : tab.get 20 = some c20 := by kernel_rfl
theorem w20_0 (S : Oracle) (q : Nat) (x0 x1 x2 : TVal) (h : Heap) : lim tab.get S 20 q 0 [x0, x1, x2] h = b20_0 (orc S (lim tab.get S)) (lim tab.get S 20 q) q x0 x1 x2 h := (qAA k20 q 0 _ h).trans (e20_0 ..).symm
theorem k21 : tab.get 21 = some c21 := by kernel_rfl
theorem w21_0 (S : Oracle) (q : Nat) (x0 : TVal) (h : Heap) : lim tab.get S 21 q 0 [x0] h = b21_0 (orc S (lim tab.get S)) (lim tab.get S 21 q) q x0 h := (qAA k21 q 0 _ h).trans (e21_0 ..).symm
theorem w21_1 (S : Oracle) (q : Nat) (x0 x1 x2 : TVal) (h : Heap) : lim tab.get S 21 q 1 [x0, x1, x2] h = b21_1 (orc S (lim tab.get S)) (lim tab.get S 21 q) q x0 x1 x2 h := (qAA k21 q 1 _ h).trans (e21_1 ..).symm
theorem w21_2 (S : Oracle) (q : Nat) (x0 x1 x2 : TVal) (h : Heap) : lim tab.get S 21 q 2 [x0, x1, x2] h = b21_2 (orc S (lim tab.get S)) (lim tab.get S 21 q) q x0 x1 x2 h := (qAA k21 q 2 _ h).trans (e21_2 ..).symm
theorem w21_3 (S : Oracle) (q : Nat) (x0 : TVal) (h : Heap) : lim tab.get S 21 q 3 [x0] h = b21_3 (orc S (lim tab.get S)) (lim tab.get S 21 q) q x0 h := (qAA k21 q 3 _ h).trans (e21_3 ..).symm
theorem w21_4 (S : Oracle) (q : Nat) (x0 : TVal) (h : Heap) : lim tab.get S 21 q 4 [x0] h = b21_4 (orc S (lim tab.get S)) (lim tab.get S 21 q) q x0 h := (qAA k21 q 4 _ h).trans (e21_4 ..).symm
theorem w21_5 (S : Oracle) (q : Nat) (x0 x1 x2 : TVal) (h : Heap) : lim tab.get S 21 q 5 [x0, x1, x2] h = b21_5 (orc S (lim tab.get S)) (lim tab.get S 21 q) q x0 x1 x2 h := (qAA k21 q 5 _ h).trans (e21_5 ..).symm
theorem w21_6 (S : Oracle) (q : Nat) (x0 x1 x2 : TVal) (h : Heap) : lim tab.get S 21 q 6 [x0, x1, x2] h = b21_6 (orc S (lim tab.get S)) (lim tab.get S 21 q) q x0 x1 x2 h := (qAA k21 q 6 _ h).trans (e21_6 ..).symm
theorem w21_7 (S : Oracle) (q : Nat) (x0 : TVal) (h : Heap) : lim tab.get S 21 q 7 [x0] h = b21_7 (orc S (lim tab.get S)) (lim tab.get S 21 q) q x0 h := (qAA k21 q 7 _ h).trans (e21_7 ..).symm
theorem k56 : tab.get 56 = some c56 := by kernel_rfl
theorem w56_0 (S : Oracle) (q : Nat) (x0 x1 x2 : TVal) (h : Heap) : lim tab.get S 56 q 0 [x0, x1, x2] h = b56_0 (orc S (lim tab.get S)) (lim tab.get S 56 q) q x0 x1 x2 h := (qAA k56 q 0 _ h).trans (e56_0 ..).symm
theorem w56_1 (S : Oracle) (q : Nat) (x0 x1 x2 x3 : TVal) (h : Heap) : lim tab.get S 56 q 1 [x0, x1, x2, x3] h = b56_1 (orc S (lim tab.get S)) (lim tab.get S 56 q) q x0 x1 x2 x3 h := (qAA k56 q 1 _ h).trans (e56_1 ..).symm
theorem w56_2 (S : Oracle) (q : Nat) (x0 x1 x2 : TVal) (h : Heap) : lim tab.get S 56 q 2 [x0, x1, x2] h = b56_2 (orc S (lim tab.get S)) (lim tab.get S 56 q) q x0 x1 x2 h := (qAA k56 q 2 _ h).trans (e56_2 ..).symm
theorem w56_3 (S : Oracle) (q : Nat) (x0 x1 x2 x3 : TVal) (h : Heap) : lim tab.get S 56 q 3 [x0, x1, x2, x3] h = b56_3 (orc S (lim tab.get S)) (lim tab.get S 56 q) q x0 x1 x2 x3 h := (qAA k56 q 3 _ h).trans (e56_3 ..).symm
theorem w56_4 (S : Oracle) (q : Nat) (x0 x1 x2 : TVal) (h : Heap) : lim tab.get S 56 q 4 [x0, x1, x2] h = b56_4 (orc S (lim tab.get S)) (lim tab.get S 56 q) q x0 x1 x2 h := (qAA k56 q 4 _ h).trans (e56_4 ..).symm
theorem w56_5 (S : Oracle) (q : Nat) (x0 x1 x2 x3 : TVal) (h : Heap) : lim tab.get S 56 q 5 [x0, x1, x2, x3] h = b56_5 (orc S (lim tab.get S)) (lim tab.get S 56 q) q x0 x1 x2 x3 h := (qAA k56 q 5 _ h).trans (e56_5 ..).symm
theorem k57 : tab.get 57 = some c57 := by kernel_rfl
theorem w57_0 (S : Oracle) (q : Nat) (x0 : TVal) (h : Heap) : lim tab.get S 57 q 0 [x0] h = b57_0 (orc S (lim tab.get S)) (lim tab.get S 57 q) q x0 h := (qAA k57 q 0 _ h).trans (e57_0 ..).symm
theorem w57_1 (S : Oracle) (q : Nat) (x0 x1 x2 x3 : TVal) (h : Heap) : lim tab.get S 57 q 1 [x0, x1, x2, x3] h = b57_1 (orc S (lim tab.get S)) (lim tab.get S 57 q) q x0 x1 x2 x3 h := (qAA k57 q 1 _ h).trans (e57_1 ..).symm
theorem k58 : tab.get 58 = some c58 := by kernel_rfl
theorem w58_0 (S : Oracle) (q : Nat) (x0 x1 x2 : TVal) (h : Heap) : lim tab.get S 58 q 0 [x0, x1, x2] h = b58_0 (orc S (lim tab.get S)) (lim tab.get S 58 q) q x0 x1 x2 h := (qAA k58 q 0 _ h).trans (e58_0 ..).symm
theorem k59 : tab.get 59 = some c59 := by kernel_rfl
theorem w59_0 (S : Oracle) (q : Nat) (x0 : TVal) (h : Heap) : lim tab.get S 59 q 0 [x0] h = b59_0 (orc S (lim tab.get S)) (lim tab.get S 59 q) q x0 h := (qAA k59 q 0 _ h).trans (e59_0 ..).symm
theorem w59_1 (S : Oracle) (q : Nat) (x0 x1 x2 : TVal) (h : Heap) : lim tab.get S 59 q 1 [x0, x1, x2] h = b59_1 (orc S (lim tab.get S)) (lim tab.get S 59 q) q x0 x1 x2 h := (qAA k59 q 1 _ h).trans (e59_1 ..).symm
theorem w59_2 (S : Oracle) (q : Nat) (x0 : TVal) (h : Heap) : lim tab.get S 59 q 2 [x0] h = b59_2 (orc S (lim tab.get S)) (lim tab.get S 59 q) q x0 h := (qAA k59 q 2 _ h).trans (e59_2 ..).symm
theorem k60 : tab.get 60 = some c60 := by kernel_rfl
theorem w60_0 (S : Oracle) (q : Nat) (x0 x1 : TVal) (h : Heap) : lim tab.get S 60 q 0 [x0, x1] h = b60_0 (orc S (lim tab.get S)) (lim tab.get S 60 q) q x0 x1 h := (qAA k60 q 0 _ h).trans (e60_0 ..).symm
theorem k61 : tab.get 61 = some c61 := by kernel_rfl
theorem w61_0 (S : Oracle) (q : Nat) (x0 x1 : TVal) (h : Heap) : lim tab.get S 61 q 0 [x0, x1] h = b61_0 (orc S (lim tab.get S)) (lim tab.get S 61 q) q x0 x1 h := (qAA k61 q 0 _ h).trans (e61_0 ..).symm
theorem k62 : tab.get 62 = some c62 := by kernel_rfl
theorem w62_0 (S : Oracle) (q : Nat) (x0 x1 : TVal) (h : Heap) : lim tab.get S 62 q 0 [x0, x1] h = b62_0 (orc S (lim tab.get S)) (lim tab.get S 62 q) q x0 x1 h := (qAA k62 q 0 _ h).trans (e62_0 ..).symm
theorem k63 : tab.get 63 = some c63 := by kernel_rfl
theorem w63_0 (S : Oracle) (q : Nat) (x0 : TVal) (h : Heap) : lim tab.get S 63 q 0 [x0] h = b63_0 (orc S (lim tab.get S)) (lim tab.get S 63 q) q x0 h := (qAA k63 q 0 _ h).trans (e63_0 ..).symm
theorem w63_1 (S : Oracle) (q : Nat) (x0 x1 x2 : TVal) (h : Heap) : lim tab.get S 63 q 1 [x0, x1, x2] h = b63_1 (orc S (lim tab.get S)) (lim tab.get S 63 q) q x0 x1 x2 h := (qAA k63 q 1 _ h).trans (e63_1 ..).symm
theorem w63_2 (S : Oracle) (q : Nat) (x0 x1 x2 : TVal) (h : Heap) : lim tab.get S 63 q 2 [x0, x1, x2] h = b63_2 (orc S (lim tab.get S)) (lim tab.get S 63 q) q x0 x1 x2 h := (qAA k63 q 2 _ h).trans (e63_2 ..).symm
theorem k64 : tab.get 64 = some c64 := by kernel_rfl
theorem w64_0 (S : Oracle) (q : Nat) (x0 : TVal) (h : Heap) : lim tab.get S 64 q 0 [x0] h = b64_0 (orc S (lim tab.get S)) (lim tab.get S 64 q) q x0 h := (qAA k64 q 0 _ h).trans (e64_0 ..).symm
theorem k65 : tab.get 65 = some c65 := by kernel_rfl
theorem w65_0 (S : Oracle) (q : Nat) (x0 : TVal) (h : Heap) : lim tab.get S 65 q 0 [x0] h = b65_0 (orc S (lim tab.get S)) (lim tab.get S 65 q) q x0 h := (qAA k65 q 0 _ h).trans (e65_0 ..).symm
theorem w65_1 (S : Oracle) (q : Nat) (x0 : TVal) (h : Heap) : lim tab.get S 65 q 1 [x0] h = b65_1 (orc S (lim tab.get S)) (lim tab.get S 65 q) q x0 h := (qAA k65 q 1 _ h).trans (e65_1 ..).symm
theorem w65_2 (S : Oracle) (q : Nat) (x0 : TVal) (h : Heap) : lim tab.get S 65 q 2 [x0] h = b65_2 (orc S (lim tab.get S)) (lim tab.get S 65 q) q x0 h := (qAA k65 q 2 _ h).trans (e65_2 ..).symm
theorem k66 : tab.get 66 = some c66 := by kernel_rfl
theorem w66_0 (S : Oracle) (q : Nat) (x0 x1 : TVal) (h : Heap) : lim tab.get S 66 q 0 [x0, x1] h = b66_0 (orc S (lim tab.get S)) (lim tab.get S 66 q) q x0 x1 h := (qAA k66 q 0 _ h).trans (e66_0 ..).symm
theorem k67 : tab.get 67 = some c67 := by kernel_rfl
theorem w67_0 (S : Oracle) (q : Nat) (x0 : TVal) (h : Heap) : lim tab.get S 67 q 0 [x0] h = b67_0 (orc S (lim tab.get S)) (lim tab.get S 67 q) q x0 h := (qAA k67 q 0 _ h).trans (e67_0 ..).symm
theorem w67_1 (S : Oracle) (q : Nat) (x0 : TVal) (h : Heap) : lim tab.get S 67 q 1 [x0] h = b67_1 (orc S (lim tab.get S)) (lim tab.get S 67 q) q x0 h := (qAA k67 q 1 _ h).trans (e67_1 ..).symm
theorem k68 : tab.get 68 = some c68 := by kernel_rfl
theorem w68_0 (S : Oracle) (q : Nat) (x0 x1 : TVal) (h : Heap) : lim tab.get S 68 q 0 [x0, x1] h = b68_0 (orc S (lim tab.get S)) (lim tab.get S 68 q) q x0 x1 h := (qAA k68 q 0 _ h).trans (e68_0 ..).symm
theorem k69 : tab.get 69 = some c69 := by kernel_rfl
theorem w69_0 (S : Oracle) (q : Nat) (x0 x1 x2 : TVal) (h : Heap) : lim tab.get S 69 q 0 [x0, x1, x2] h = b69_0 (orc S (lim tab.get S)) (lim tab.get S 69 q) q x0 x1 x2 h := (qAA k69 q 0 _ h).trans (e69_0 ..).symm
theorem w69_1 (S : Oracle) (q : Nat) (x0 x1 x2 x3 x4 x5 x6 x7 : TVal) (h : Heap) : lim tab.get S 69 q 1 [x0, x1, x2, x3, x4, x5, x6, x7] h = b69_1 (orc S (lim tab.get S)) (lim tab.get S 69 q) q x0 x1 x2 x3 x4 x5 x6 x7 h := (qAA k69 q 1 _ h).trans (e69_1 ..).symm
theorem w69_2 (S : Oracle) (q : Nat) (x0 x1 x2 x3 x4 x5 : TVal) (h : Heap) : lim tab.get S 69 q 2 [x0, x1, x2, x3, x4, x5] h = b69_2 (orc S (lim tab.get S)) (lim tab.get S 69 q) q x0 x1 x2 x3 x4 x5 h := (qAA k69 q 2 _ h).trans (e69_2 ..).symm
theorem w69_3 (S : Oracle) (q : Nat) (x0 x1 x2 x3 x4 x5 x6 : TVal) (h : Heap) : lim tab.get S 69 q 3 [x0, x1, x2, x3, x4, x5, x6] h = b69_3 (orc S (lim tab.get S)) (lim tab.get S 69 q) q x0 x1 x2 x3 x4 x5 x6 h := (qAA k69 q 3 _ h).trans (e69_3 ..).symm
theorem w69_4 (S : Oracle) (q : Nat) (x0 x1 : TVal) (h : Heap) : lim tab.get S 69 q 4 [x0, x1] h = b69_4 (orc S (lim tab.get S)) (lim tab.get S 69 q) q x0 x1 h := (qAA k69 q 4 _ h).trans (e69_4 ..).symm
theorem k70 : tab.get 70 = some c70 := by kernel_rfl
theorem w70_0 (S : Oracle) (q : Nat) (x0 : TVal) (h : Heap) : lim tab.get S 70 q 0 [x0] h = b70_0 (orc S (lim tab.get S)) (lim tab.get S 70 q) q x0 h := (qAA k70 q 0 _ h).trans (e70_0 ..).symm
theorem w70_1 (S : Oracle) (q : Nat) (x0 x1 x2 : TVal) (h : Heap) : lim tab.get S 70 q 1 [x0, x1, x2] h = b70_1 (orc S (lim tab.get S)) (lim tab.get S 70 q) q x0 x1 x2 h := (qAA k70 q 1 _ h).trans (e70_1 ..).symm
theorem w70_2 (S : Oracle) (q : Nat) (x0 x1 x2 : TVal) (h : Heap) : lim tab.get S 70 q 2 [x0, x1, x2] h = b70_2 (orc S (lim tab.get S)) (lim tab.get S 70 q) q x0 x1 x2 h := (qAA k70 q 2 _ h).trans (e70_2 ..).symm
theorem w70_3 (S : Oracle) (q : Nat) (x0 x1 x2 x3 : TVal) (h : Heap) : lim tab.get S 70 q 3 [x0, x1, x2, x3] h = b70_3 (orc S (lim tab.get S)) (lim tab.get S 70 q) q x0 x1 x2 x3 h := (qAA k70 q 3 _ h).trans (e70_3 ..).symm
theorem w70_4 (S : Oracle) (q : Nat) (x0 x1 x2 x3 : TVal) (h : Heap) : lim tab.get S 70 q 4 [x0, x1, x2, x3] h = b70_4 (orc S (lim tab.get S)) (lim tab.get S 70 q) q x0 x1 x2 x3 h := (qAA k70 q 4 _ h).trans (e70_4 ..).symm
theorem w70_5 (S : Oracle) (q : Nat) (x0 x1 x2 : TVal) (h : Heap) : lim tab.get S 70 q 5 [x0, x1, x2] h = b70_5 (orc S (lim tab.get S)) (lim tab.get S 70 q) q x0 x1 x2 h := (qAA k70 q 5 _ h).trans (e70_5 ..).symm
theorem k71 : tab.get 71 = some c71 := by kernel_rfl
theorem w71_0 (S : Oracle) (q : Nat) (x0 : TVal) (h : Heap) : lim tab.get S 71 q 0 [x0] h = b71_0 (orc S (lim tab.get S)) (lim tab.get S 71 q) q x0 h := (qAA k71 q 0 _ h).trans (e71_0 ..).symm
theorem w71_1 (S : Oracle) (q : Nat) (x0 x1 x2 : TVal) (h : Heap) : lim tab.get S 71 q 1 [x0, x1, x2] h = b71_1 (orc S (lim tab.get S)) (lim tab.get S 71 q) q x0 x1 x2 h := (qAA k71 q 1 _ h).trans (e71_1 ..).symm
theorem w71_2 (S : Oracle) (q : Nat) (x0 x1 x2 x3 x4 : TVal) (h : Heap) : lim tab.get S 71 q 2 [x0, x1, x2, x3, x4] h = b71_2 (orc S (lim tab.get S)) (lim tab.get S 71 q) q x0 x1 x2 x3 x4 h := (qAA k71 q 2 _ h).trans (e71_2 ..).symm
theorem w71_3 (S : Oracle) (q : Nat) (x0 x1 x2 : TVal) (h : Heap) : lim tab.get S 71 q 3 [x0, x1, x2] h = b71_3 (orc S (lim tab.get S)) (lim tab.get S 71 q) q x0 x1 x2 h := (qAA k71 q 3 _ h).trans (e71_3 ..).symm
theorem w71_4 (S : Oracle) (q : Nat) (x0 : TVal) (h : Heap) : lim tab.get S 71 q 4 [x0] h = b71_4 (orc S (lim tab.get S)) (lim tab.get S 71 q) q x0 h := (qAA k71 q 4 _ h).trans (e71_4 ..).symm
theorem k93 : tab.get 93 = some c93 := by kernel_rfl
theorem w93_0 (S : Oracle) (q : Nat) (x0 x1 : TVal) (h : Heap) : lim tab.get S 93 q 0 [x0, x1] h = b93_0 (orc S (lim tab.get S)) (lim tab.get S 93 q) q x0 x1 h := (qAA k93 q 0 _ h).trans (e93_0 ..).symm
theorem k105 : tab.get 105 = some c105 := by kernel_rfl
theorem w105_0 (S : Oracle) (q : Nat) (x0 : TVal) (h : Heap) : lim tab.get S 105 q 0 [x0] h = b105_0 (orc S (lim tab.get S)) (lim tab.get S 105 q) q x0 h := (qAA k105 q 0 _ h).trans (e105_0 ..).symm
theorem k107 : tab.get 107 = some c107 := by kernel_rfl
theorem w107_0 (S : Oracle) (q : Nat) (x0 : TVal) (h : Heap) : lim tab.get S 107 q 0 [x0] h = b107_0 (orc S (lim tab.get S)) (lim tab.get S 107 q) q x0 h := (qAA k107 q 0 _ h).trans (e107_0 ..).symm
theorem k108 : tab.get 108 = some c108 := by kernel_rfl
theorem w108_0 (S : Oracle) (q : Nat) (x0 : TVal) (h : Heap) : lim tab.get S 108 q 0 [x0] h = b108_0 (orc S (lim tab.get S)) (lim tab.get S 108 q) q x0 h := (qAA k108 q 0 _ h).trans (e108_0 ..).symm
theorem k112 : tab.get 112 = some c112 := by kernel_rfl
theorem w112_0 (S : Oracle) (q : Nat) (x0 : TVal) (h : Heap) : lim tab.get S 112 q 0 [x0] h = b112_0 (orc S (lim tab.get S)) (lim tab.get S 112 q) q x0 h := (qAA k112 q 0 _ h).trans (e112_0 ..).symm
theorem k113 : tab.get 113 = some c113 := by kernel_rfl
theorem w113_0 (S : Oracle) (q : Nat) (x0 x1 : TVal) (h : Heap) : lim tab.get S 113 q 0 [x0, x1] h = b113_0 (orc S (lim tab.get S)) (lim tab.get S 113 q) q x0 x1 h := (qAA k113 q 0 _ h).trans (e113_0 ..).symm
theorem w113_1 (S : Oracle) (q : Nat) (x0 x1 x2 x3 x4 : TVal) (h : Heap) : lim tab.get S 113 q 1 [x0, x1, x2, x3, x4] h = b113_1 (orc S (lim tab.get S)) (lim tab.get S 113 q) q x0 x1 x2 x3 x4 h := (qAA k113 q 1 _ h).trans (e113_1 ..).symm
theorem w113_2 (S : Oracle) (q : Nat) (x0 x1 x2 x3 x4 : TVal) (h : Heap) : lim tab.get S 113 q 2 [x0, x1, x2, x3, x4] h = b113_2 (orc S (lim tab.get S)) (lim tab.get S 113 q) q x0 x1 x2 x3 x4 h := (qAA k113 q 2 _ h).trans (e113_2 ..).symm
theorem w113_3 (S : Oracle) (q : Nat) (x0 x1 : TVal) (h : Heap) : lim tab.get S 113 q 3 [x0, x1] h = b113_3 (orc S (lim tab.get S)) (lim tab.get S 113 q) q x0 x1 h := (qAA k113 q 3 _ h).trans (e113_3 ..).symm
theorem k114 : tab.get 114 = some c114 := by kernel_rfl
theorem w114_0 (S : Oracle) (q : Nat) (x0 x1 x2 x3 x4 : TVal) (h : Heap) : lim tab.get S 114 q 0 [x0, x1, x2, x3, x4] h = b114_0 (orc S (lim tab.get S)) (lim tab.get S 114 q) q x0 x1 x2 x3 x4 h := (qAA k114 q 0 _ h).trans (e114_0 ..).symm
theorem w114_1 (S : Oracle) (q : Nat) (x0 x1 x2 x3 x4 x5 : TVal) (h : Heap) : lim tab.get S 114 q 1 [x0, x1, x2, x3, x4, x5] h = b114_1 (orc S (lim tab.get S)) (lim tab.get S 114 q) q x0 x1 x2 x3 x4 x5 h := (qAA k114 q 1 _ h).trans (e114_1 ..).symm
theorem k115 : tab.get 115 = some c115 := by kernel_rfl
theorem w115_0 (S : Oracle) (q : Nat) (x0 : TVal) (h : Heap) : lim tab.get S 115 q 0 [x0] h = b115_0 (orc S (lim tab.get S)) (lim tab.get S 115 q) q x0 h := (qAA k115 q 0 _ h).trans (e115_0 ..).symm
theorem k116 : tab.get 116 = some c116 := by kernel_rfl
theorem w116_0 (S : Oracle) (q : Nat) (x0 : TVal) (h : Heap) : lim tab.get S 116 q 0 [x0] h = b116_0 (orc S (lim tab.get S)) (lim tab.get S 116 q) q x0 h := (qAA k116 q 0 _ h).trans (e116_0 ..).symm
theorem k117 : tab.get 117 = some c117 := by kernel_rfl
theorem w117_0 (S : Oracle) (q : Nat) (x0 x1 : TVal) (h : Heap) : lim tab.get S 117 q 0 [x0, x1] h = b117_0 (orc S (lim tab.get S)) (lim tab.get S 117 q) q x0 x1 h := (qAA k117 q 0 _ h).trans (e117_0 ..).symm
theorem k118 : tab.get 118 = some c118 := by kernel_rfl
theorem w118_0 (S : Oracle) (q : Nat) (x0 x1 x2 : TVal) (h : Heap) : lim tab.get S 118 q 0 [x0, x1, x2] h = b118_0 (orc S (lim tab.get S)) (lim tab.get S 118 q) q x0 x1 x2 h := (qAA k118 q 0 _ h).trans (e118_0 ..).symm
theorem w118_1 (S : Oracle) (q : Nat) (x0 x1 x2 x3 x4 x5 : TVal) (h : Heap) : lim tab.get S 118 q 1 [x0, x1, x2, x3, x4, x5] h = b118_1 (orc S (lim tab.get S)) (lim tab.get S 118 q) q x0 x1 x2 x3 x4 x5 h := (qAA k118 q 1 _ h).trans (e118_1 ..).symm
theorem w118_2 (S : Oracle) (q : Nat) (x0 x1 x2 x3 x4 x5 : TVal) (h : Heap) : lim tab.get S 118 q 2 [x0, x1, x2, x3, x4, x5] h = b118_2 (orc S (lim tab.get S)) (lim tab.get S 118 q) q x0 x1 x2 x3 x4 x5 h := (qAA k118 q 2 _ h).trans (e118_2 ..).symm
theorem w118_3 (S : Oracle) (q : Nat) (x0 x1 : TVal) (h : Heap) : lim tab.get S 118 q 3 [x0, x1] h = b118_3 (orc S (lim tab.get S)) (lim tab.get S 118 q) q x0 x1 h := (qAA k118 q 3 _ h).trans (e118_3 ..).symm
theorem w118_4 (S : Oracle) (q : Nat) (x0 x1 x2 x3 : TVal) (h : Heap) : lim tab.get S 118 q 4 [x0, x1, x2, x3] h = b118_4 (orc S (lim tab.get S)) (lim tab.get S 118 q) q x0 x1 x2 x3 h := (qAA k118 q 4 _ h).trans (e118_4 ..).symm
theorem k119 : tab.get 119 = some c119 := by kernel_rfl
theorem w119_0 (S : Oracle) (q : Nat) (x0 x1 x2 : TVal) (h : Heap) : lim tab.get S 119 q 0 [x0, x1, x2] h = b119_0 (orc S (lim tab.get S)) (lim tab.get S 119 q) q x0 x1 x2 h := (qAA k119 q 0 _ h).trans (e119_0 ..).symm
theorem k120 : tab.get 120 = some c120 := by kernel_rfl
theorem w120_0 (S : Oracle) (q : Nat) (x0 : TVal) (h : Heap) : lim tab.get S 120 q 0 [x0] h = b120_0 (orc S (lim tab.get S)) (lim tab.get S 120 q) q x0 h := (qAA k120 q 0 _ h).trans (e120_0 ..).symm
theorem k121 : tab.get 121 = some c121 := by kernel_rfl
theorem w121_0 (S : Oracle) (q : Nat) (x0 x1 : TVal) (h : Heap) : lim tab.get S 121 q 0 [x0, x1] h = b121_0 (orc S (lim tab.get S)) (lim tab.get S 121 q) q x0 x1 h := (qAA k121 q 0 _ h).trans (e121_0 ..).symm
theorem w121_1 (S : Oracle) (q : Nat) (x0 x1 x2 x3 : TVal) (h : Heap) : lim tab.get S 121 q 1 [x0, x1, x2, x3] h = b121_1 (orc S (lim tab.get S)) (lim tab.get S 121 q) q x0 x1 x2 x3 h := (qAA k121 q 1 _ h).trans (e121_1 ..).symm
theorem w121_2 (S : Oracle) (q : Nat) (x0 x1 x2 x3 : TVal) (h : Heap) : lim tab.get S 121 q 2 [x0, x1, x2, x3] h = b121_2 (orc S (lim tab.get S)) (lim tab.get S 121 q) q x0 x1 x2 x3 h := (qAA k121 q 2 _ h).trans (e121_2 ..).symm
theorem w121_3 (S : Oracle) (q : Nat) (x0 x1 x2 x3 : TVal) (h : Heap) : lim tab.get S 121 q 3 [x0, x1, x2, x3] h = b121_3 (orc S (lim tab.get S)) (lim tab.get S 121 q) q x0 x1 x2 x3 h := (qAA k121 q 3 _ h).trans (e121_3 ..).symm
theorem w121_4 (S : Oracle) (q : Nat) (x0 x1 x2 x3 : TVal) (h : Heap) : lim tab.get S 121 q 4 [x0, x1, x2, x3] h = b121_4 (orc S (lim tab.get S)) (lim tab.get S 121 q) q x0 x1 x2 x3 h := (qAA k121 q 4 _ h).trans (e121_4 ..).symm
theorem w121_5 (S : Oracle) (q : Nat) (x0 x1 x2 : TVal) (h : Heap) : lim tab.get S 121 q 5 [x0, x1, x2] h = b121_5 (orc S (lim tab.get S)) (lim tab.get S 121 q) q x0 x1 x2 h := (qAA k121 q 5 _ h).trans (e121_5 ..).symm
theorem w121_6 (S : Oracle) (q : Nat) (x0 x1 x2 x3 x4 : TVal) (h : Heap) : lim tab.get S 121 q 6 [x0, x1, x2, x3, x4] h = b121_6 (orc S (lim tab.get S)) (lim tab.get S 121 q) q x0 x1 x2 x3 x4 h := (qAA k121 q 6 _ h).trans (e121_6 ..).symm
theorem w121_7 (S : Oracle) (q : Nat) (x0 : TVal) (h : Heap) : lim tab.get S 121 q 7 [x0] h = b121_7 (orc S (lim tab.get S)) (lim tab.get S 121 q) q x0 h := (qAA k121 q 7 _ h).trans (e121_7 ..).symm
theorem k122 : tab.get 122 = some c122 := by kernel_rfl
theorem w122_0 (S : Oracle) (q : Nat) (x0 x1 : TVal) (h : Heap) : lim tab.get S 122 q 0 [x0, x1] h = b122_0 (orc S (lim tab.get S)) (lim tab.get S 122 q) q x0 x1 h := (qAA k122 q 0 _ h).trans (e122_0 ..).symm
theorem k123 : tab.get 123 = some c123 := by kernel_rfl
theorem w123_0 (S : Oracle) (q : Nat) (x0 x1 x2 : TVal) (h : Heap) : lim tab.get S 123 q 0 [x0, x1, x2] h = b123_0 (orc S (lim tab.get S)) (lim tab.get S 123 q) q x0 x1 x2 h := (qAA k123 q 0 _ h).trans (e123_0 ..).symm
theorem w123_1 (S : Oracle) (q : Nat) (x0 x1 x2 x3 : TVal) (h : Heap) : lim tab.get S 123 q 1 [x0, x1, x2, x3] h = b123_1 (orc S (lim tab.get S)) (lim tab.get S 123 q) q x0 x1 x2 x3 h := (qAA k123 q 1 _ h).trans (e123_1 ..).symm
theorem w123_2 (S : Oracle) (q : Nat) (x0 x1 x2 x3 x4 x5 x6 : TVal) (h : Heap) : lim tab.get S 123 q 2 [x0, x1, x2, x3, x4, x5, x6] h = b123_2 (orc S (lim tab.get S)) (lim tab.get S 123 q) q x0 x1 x2 x3 x4 x5 x6 h := (qAA k123 q 2 _ h).trans (e123_2 ..).symm
theorem w123_3 (S : Oracle) (q : Nat) (x0 x1 x2 x3 x4 x5 x6 : TVal) (h : Heap) : lim tab.get S 123 q 3 [x0, x1, x2, x3, x4, x5, x6] h = b123_3 (orc S (lim tab.get S)) (lim tab.get S 123 q) q x0 x1 x2 x3 x4 x5 x6 h := (qAA k123 q 3 _ h).trans (e123_3 ..).symm
theorem w123_4 (S : Oracle) (q : Nat) (x0 x1 x2 : TVal) (h : Heap) : lim tab.get S 123 q 4 [x0, x1, x2] h = b123_4 (orc S (lim tab.get S)) (lim tab.get S 123 q) q x0 x1 x2 h := (qAA k123 q 4 _ h).trans (e123_4 ..).symm
theorem k124 : tab.get 124 = some c124 := by kernel_rfl
theorem w124_0 (S : Oracle) (q : Nat) (x0 x1 x2 : TVal) (h : Heap) : lim tab.get S 124 q 0 [x0, x1, x2] h = b124_0 (orc S (lim tab.get S)) (lim tab.get S 124 q) q x0 x1 x2 h := (qAA k124 q 0 _ h).trans (e124_0 ..).symm
theorem k125 : tab.get 125 = some c125 := by kernel_rfl
theorem w125_0 (S : Oracle) (q : Nat) (x0 : TVal) (h : Heap) : lim tab.get S 125 q 0 [x0] h = b125_0 (orc S (lim tab.get S)) (lim tab.get S 125 q) q x0 h := (qAA k125 q 0 _ h).trans (e125_0 ..).symm
theorem w125_1 (S : Oracle) (q : Nat) (x0 x1 x2 x3 : TVal) (h : Heap) : lim tab.get S 125 q 1 [x0, x1, x2, x3] h = b125_1 (orc S (lim tab.get S)) (lim tab.get S 125 q) q x0 x1 x2 x3 h := (qAA k125 q 1 _ h).trans (e125_1 ..).symm
theorem w125_2 (S : Oracle) (q : Nat) (x0 : TVal) (h : Heap) : lim tab.get S 125 q 2 [x0] h = b125_2 (orc S (lim tab.get S)) (lim tab.get S 125 q) q x0 h := (qAA k125 q 2 _ h).trans (e125_2 ..).symm
theorem k126 : tab.get 126 = some c126 := by kernel_rfl
theorem w126_0 (S : Oracle) (q : Nat) (x0 : TVal) (h : Heap) : lim tab.get S 126 q 0 [x0] h = b126_0 (orc S (lim tab.get S)) (lim tab.get S 126 q) q x0 h := (qAA k126 q 0 _ h).trans (e126_0 ..).symm
theorem k127 : tab.get 127 = some c127 := by kernel_rfl
theorem w127_0 (S : Oracle) (q : Nat) (x0 : TVal) (h : Heap) : lim tab.get S 127 q 0 [x0] h = b127_0 (orc S (lim tab.get S)) (lim tab.get S 127 q) q x0 h := (qAA k127 q 0 _ h).trans (e127_0 ..).symm
theorem k128 : tab.get 128 = some c128 := by kernel_rfl
theorem w128_0 (S : Oracle) (q : Nat) (x0 x1 : TVal) (h : Heap) : lim tab.get S 128 q 0 [x0, x1] h = b128_0 (orc S (lim tab.get S)) (lim tab.get S 128 q) q x0 x1 h := (qAA k128 q 0 _ h).trans (e128_0 ..).symm
theorem w128_1 (S : Oracle) (q : Nat) (x0 x1 x2 x3 : TVal) (h : Heap) : lim tab.get S 128 q 1 [x0, x1, x2, x3] h = b128_1 (orc S (lim tab.get S)) (lim tab.get S 128 q) q x0 x1 x2 x3 h := (qAA k128 q 1 _ h).trans (e128_1 ..).symm
theorem w128_2 (S : Oracle) (q : Nat) (x0 x1 x2 : TVal) (h : Heap) : lim tab.get S 128 q 2 [x0, x1, x2] h = b128_2 (orc S (lim tab.get S)) (lim tab.get S 128 q) q x0 x1 x2 h := (qAA k128 q 2 _ h).trans (e128_2 ..).symm
theorem w128_3 (S : Oracle) (q : Nat) (x0 x1 : TVal) (h : Heap) : lim tab.get S 128 q 3 [x0, x1] h = b128_3 (orc S (lim tab.get S)) (lim tab.get S 128 q) q x0 x1 h := (qAA k128 q 3 _ h).trans (e128_3 ..).symm
theorem k129 : tab.get 129 = some c129 := by kernel_rfl
theorem w129_0 (S : Oracle) (q : Nat) (x0 x1 : TVal) (h : Heap) : lim tab.get S 129 q 0 [x0, x1] h = b129_0 (orc S (lim tab.get S)) (lim tab.get S 129 q) q x0 x1 h := (qAA k129 q 0 _ h).trans (e129_0 ..).symm
theorem w129_1 (S : Oracle) (q : Nat) (x0 x1 x2 x3 x4 : TVal) (h : Heap) : lim tab.get S 129 q 1 [x0, x1, x2, x3, x4] h = b129_1 (orc S (lim tab.get S)) (lim tab.get S 129 q) q x0 x1 x2 x3 x4 h := (qAA k129 q 1 _ h).trans (e129_1 ..).symm
theorem w129_2 (S : Oracle) (q : Nat) (x0 x1 x2 x3 x4 x5 x6 x7 : TVal) (h : Heap) : lim tab.get S 129 q 2 [x0, x1, x2, x3, x4, x5, x6, x7] h = b129_2 (orc S (lim tab.get S)) (lim tab.get S 129 q) q x0 x1 x2 x3 x4 x5 x6 x7 h := (qAA k129 q 2 _ h).trans (e129_2 ..).symm
theorem w129_3 (S : Oracle) (q : Nat) (x0 x1 x2 x3 x4 x5 x6 x7 : TVal) (h : Heap) : lim tab.get S 129 q 3 [x0, x1, x2, x3, x4, x5, x6, x7] h = b129_3 (orc S (lim tab.get S)) (lim tab.get S 129 q) q x0 x1 x2 x3 x4 x5 x6 x7 h := (qAA k129 q 3 _ h).trans (e129_3 ..).symm
theorem w129_4 (S : Oracle) (q : Nat) (x0 x1 x2 x3 : TVal) (h : Heap) : lim tab.get S 129 q 4 [x0, x1, x2, x3] h = b129_4 (orc S (lim tab.get S)) (lim tab.get S 129 q) q x0 x1 x2 x3 h := (qAA k129 q 4 _ h).trans (e129_4 ..).symm
theorem w129_5 (S : Oracle) (q : Nat) (x0 x1 x2 x3 : TVal) (h : Heap) : lim tab.get S 129 q 5 [x0, x1, x2, x3] h = b129_5 (orc S (lim tab.get S)) (lim tab.get S 129 q) q x0 x1 x2 x3 h := (qAA k129 q 5 _ h).trans (e129_5 ..).symm
theorem w129_6 (S : Oracle) (q : Nat) (x0 x1 : TVal) (h : Heap) : lim tab.get S 129 q 6 [x0, x1] h = b129_6 (orc S (lim tab.get S)) (lim tab.get S 129 q) q x0 x1 h := (qAA k129 q 6 _ h).trans (e129_6 ..).symm
theorem k130 : tab.get 130 = some c130 := by kernel_rfl
theorem w130_0 (S : Oracle) (q : Nat) (x0 : TVal) (h : Heap) : lim tab.get S 130 q 0 [x0] h = b130_0 (orc S (lim tab.get S)) (lim tab.get S 130 q) q x0 h := (qAA k130 q 0 _ h).trans (e130_0 ..).symm
theorem w130_1 (S : Oracle) (q : Nat) (x0 x1 x2 : TVal) (h : Heap) : lim tab.get S 130 q 1 [x0, x1, x2] h = b130_1 (orc S (lim tab.get S)) (lim tab.get S 130 q) q x0 x1 x2 h := (qAA k130 q 1 _ h).trans (e130_1 ..).symm
theorem w130_2 (S : Oracle) (q : Nat) (x0 x1 x2 : TVal) (h : Heap) : lim tab.get S 130 q 2 [x0, x1, x2] h = b130_2 (orc S (lim tab.get S)) (lim tab.get S 130 q) q x0 x1 x2 h := (qAA k130 q 2 _ h).trans (e130_2 ..).symm
theorem w130_3 (S : Oracle) (q : Nat) (x0 x1 x2 : TVal) (h : Heap) : lim tab.get S 130 q 3 [x0, x1, x2] h = b130_3 (orc S (lim tab.get S)) (lim tab.get S 130 q) q x0 x1 x2 h := (qAA k130 q 3 _ h).trans (e130_3 ..).symm
theorem k131 : tab.get 131 = some c131 := by kernel_rfl
theorem w131_0 (S : Oracle) (q : Nat) (x0 x1 : TVal) (h : Heap) : lim tab.get S 131 q 0 [x0, x1] h = b131_0 (orc S (lim tab.get S)) (lim tab.get S 131 q) q x0 x1 h := (qAA k131 q 0 _ h).trans (e131_0 ..).symm
theorem w131_1 (S : Oracle) (q : Nat) (x0 x1 x2 x3 : TVal) (h : Heap) : lim tab.get S 131 q 1 [x0, x1, x2, x3] h = b131_1 (orc S (lim tab.get S)) (lim tab.get S 131 q) q x0 x1 x2 x3 h := (qAA k131 q 1 _ h).trans (e131_1 ..).symm
theorem k132 : tab.get 132 = some c132 := by kernel_rfl
theorem w132_0 (S : Oracle) (q : Nat) (x0 : TVal) (h : Heap) : lim tab.get S 132 q 0 [x0] h = b132_0 (orc S (lim tab.get S)) (lim tab.get S 132 q) q x0 h := (qAA k132 q 0 _ h).trans (e132_0 ..).symm
theorem k133 : tab.get 133 = some c133 := by kernel_rfl
theorem w133_0 (S : Oracle) (q : Nat) (x0 : TVal) (h : Heap) : lim tab.get S 133 q 0 [x0] h = b133_0 (orc S (lim tab.get S)) (lim tab.get S 133 q) q x0 h := (qAA k133 q 0 _ h).trans (e133_0 ..).symm
theorem w133_1 (S : Oracle) (q : Nat) (x0 x1 : TVal) (h : Heap) : lim tab.get S 133 q 1 [x0, x1] h = b133_1 (orc S (lim tab.get S)) (lim tab.get S 133 q) q x0 x1 h := (qAA k133 q 1 _ h).trans (e133_1 ..).symm
theorem w133_2 (S : Oracle) (q : Nat) (x0 x1 x2 : TVal) (h : Heap) : lim tab.get S 133 q 2 [x0, x1, x2] h = b133_2 (orc S (lim tab.get S)) (lim tab.get S 133 q) q x0 x1 x2 h := (qAA k133 q 2 _ h).trans (e133_2 ..).symm
theorem w133_3 (S : Oracle) (q : Nat) (x0 : TVal) (h : Heap) : lim tab.get S 133 q 3 [x0] h = b133_3 (orc S (lim tab.get S)) (lim tab.get S 133 q) q x0 h := (qAA k133 q 3 _ h).trans (e133_3 ..).symm
theorem k139 : tab.get 139 = some c139 := by kernel_rfl
theorem w139_0 (S : Oracle) (q : Nat) (x0 x1 : TVal) (h : Heap) : lim tab.get S 139 q 0 [x0, x1] h = b139_0 (orc S (lim tab.get S)) (lim tab.get S 139 q) q x0 x1 h := (qAA k139 q 0 _ h).trans (e139_0 ..).symm
theorem k156 : tab.get 156 = some c156 := by kernel_rfl
theorem w156_0 (S : Oracle) (q : Nat) (x0 : TVal) (h : Heap) : lim tab.get S 156 q 0 [x0] h = b156_0 (orc S (lim tab.get S)) (lim tab.get S 156 q) q x0 h := (qAA k156 q 0 _ h).trans (e156_0 ..).symm
theorem w156_1 (S : Oracle) (q : Nat) (x0 x1 x2 x3 x4 : TVal) (h : Heap) : lim tab.get S 156 q 1 [x0, x1, x2, x3, x4] h = b156_1 (orc S (lim tab.get S)) (lim tab.get S 156 q) q x0 x1 x2 x3 x4 h := (qAA k156 q 1 _ h).trans (e156_1 ..).symm
theorem w156_2 (S : Oracle) (q : Nat) (x0 x1 : TVal) (h : Heap) : lim tab.get S 156 q 2 [x0, x1] h = b156_2 (orc S (lim tab.get S)) (lim tab.get S 156 q) q x0 x1 h := (qAA k156 q 2 _ h).trans (e156_2 ..).symm
theorem k164 : tab.get 164 = some c164 := by kernel_rfl
theorem w164_0 (S : Oracle) (q : Nat) (x0 : TVal) (h : Heap) : lim tab.get S 164 q 0 [x0] h = b164_0 (orc S (lim tab.get S)) (lim tab.get S 164 q) q x0 h := (qAA k164 q 0 _ h).trans (e164_0 ..).symm
theorem k165 : tab.get 165 = some c165 := by kernel_rfl
theorem w165_0 (S : Oracle) (q : Nat) (x0 : TVal) (h : Heap) : lim tab.get S 165 q 0 [x0] h = b165_0 (orc S (lim tab.get S)) (lim tab.get S 165 q) q x0 h := (qAA k165 q 0 _ h).trans (e165_0 ..).symm
theorem w165_1 (S : Oracle) (q : Nat) (x0 x1 : TVal) (h : Heap) : lim tab.get S 165 q 1 [x0, x1] h = b165_1 (orc S (lim tab.get S)) (lim tab.get S 165 q) q x0 x1 h := (qAA k165 q 1 _ h).trans (e165_1 ..).symm
theorem w165_2 (S : Oracle) (q : Nat) (x0 x1 x2 x3 : TVal) (h : Heap) : lim tab.get S 165 q 2 [x0, x1, x2, x3] h = b165_2 (orc S (lim tab.get S)) (lim tab.get S 165 q) q x0 x1 x2 x3 h := (qAA k165 q 2 _ h).trans (e165_2 ..).symm
theorem w165_3 (S : Oracle) (q : Nat) (x0 x1 : TVal) (h : Heap) : lim tab.get S 165 q 3 [x0, x1] h = b165_3 (orc S (lim tab.get S)) (lim tab.get S 165 q) q x0 x1 h := (qAA k165 q 3 _ h).trans (e165_3 ..).symm
theorem k166 : tab.get 166 = some c166 := by kernel_rfl
theorem w166_0 (S : Oracle) (q : Nat) (x0 x1 : TVal) (h : Heap) : lim tab.get S 166 q 0 [x0, x1] h = b166_0 (orc S (lim tab.get S)) (lim tab.get S 166 q) q x0 x1 h := (qAA k166 q 0 _ h).trans (e166_0 ..).symm
theorem w166_1 (S : Oracle) (q : Nat) (x0 x1 x2 : TVal) (h : Heap) : lim tab.get S 166 q 1 [x0, x1, x2] h = b166_1 (orc S (lim tab.get S)) (lim tab.get S 166 q) q x0 x1 x2 h := (qAA k166 q 1 _ h).trans (e166_1 ..).symm
theorem w166_2 (S : Oracle) (q : Nat) (x0 x1 x2 x3 x4 : TVal) (h : Heap) : lim tab.get S 166 q 2 [x0, x1, x2, x3, x4] h = b166_2 (orc S (lim tab.get S)) (lim tab.get S 166 q) q x0 x1 x2 x3 x4 h := (qAA k166 q 2 _ h).trans (e166_2 ..).symm
theorem w166_3 (S : Oracle) (q : Nat) (x0 x1 x2 : TVal) (h : Heap) : lim tab.get S 166 q 3 [x0, x1, x2] h = b166_3 (orc S (lim tab.get S)) (lim tab.get S 166 q) q x0 x1 x2 h := (qAA k166 q 3 _ h).trans (e166_3 ..).symm
theorem k167 : tab.get 167 = some c167 := by kernel_rfl
theorem w167_0 (S : Oracle) (q : Nat) (x0 x1 : TVal) (h : Heap) : lim tab.get S 167 q 0 [x0, x1] h = b167_0 (orc S (lim tab.get S)) (lim tab.get S 167 q) q x0 x1 h := (qAA k167 q 0 _ h).trans (e167_0 ..).symm
theorem k168 : tab.get 168 = some c168 := by kernel_rfl
theorem w168_0 (S : Oracle) (q : Nat) (x0 : TVal) (h : Heap) : lim tab.get S 168 q 0 [x0] h = b168_0 (orc S (lim tab.get S)) (lim tab.get S 168 q) q x0 h := (qAA k168 q 0 _ h).trans (e168_0 ..).symm
theorem k178 : tab.get 178 = some c178 := by kernel_rfl
theorem w178_0 (S : Oracle) (q : Nat) (x0 x1 : TVal) (h : Heap) : lim tab.get S 178 q 0 [x0, x1] h = b178_0 (orc S (lim tab.get S)) (lim tab.get S 178 q) q x0 x1 h := (qAA k178 q 0 _ h).trans (e178_0 ..).symm
theorem w178_1 (S : Oracle) (q : Nat) (x0 x1 x2 : TVal) (h : Heap) : lim tab.get S 178 q 1 [x0, x1, x2] h = b178_1 (orc S (lim tab.get S)) (lim tab.get S 178 q) q x0 x1 x2 h := (qAA k178 q 1 _ h).trans (e178_1 ..).symm
theorem k184 : tab.get 184 = some c184 := by kernel_rfl
theorem w184_0 (S : Oracle) (q : Nat) (x0 : TVal) (h : Heap) : lim tab.get S 184 q 0 [x0] h = b184_0 (orc S (lim tab.get S)) (lim tab.get S 184 q) q x0 h := (qAA k184 q 0 _ h).trans (e184_0 ..).symm
theorem k185 : tab.get 185 = some c185 := by kernel_rfl
theorem w185_0 (S : Oracle) (q : Nat) (x0 : TVal) (h : Heap) : lim tab.get S 185 q 0 [x0] h = b185_0 (orc S (lim tab.get S)) (lim tab.get S 185 q) q x0 h := (qAA k185 q 0 _ h).trans (e185_0 ..).symm
theorem k186 : tab.get 186 = some c186 := by kernel_rfl
theorem w186_0 (S : Oracle) (q : Nat) (x0 x1 : TVal) (h : Heap) : lim tab.get S 186 q 0 [x0, x1] h = b186_0 (orc S (lim tab.get S)) (lim tab.get S 186 q) q x0 x1 h := (qAA k186 q 0 _ h).trans (e186_0 ..).symm
theorem w186_1 (S : Oracle) (q : Nat) (x0 x1 x2 : TVal) (h : Heap) : lim tab.get S 186 q 1 [x0, x1, x2] h = b186_1 (orc S (lim tab.get S)) (lim tab.get S 186 q) q x0 x1 x2 h := (qAA k186 q 1 _ h).trans (e186_1 ..).symm
theorem w186_2 (S : Oracle) (q : Nat) (x0 x1 x2 : TVal) (h : Heap) : lim tab.get S 186 q 2 [x0, x1, x2] h = b186_2 (orc S (lim tab.get S)) (lim tab.get S 186 q) q x0 x1 x2 h := (qAA k186 q 2 _ h).trans (e186_2 ..).symm
theorem w186_3 (S : Oracle) (q : Nat) (x0 x1 x2 : TVal) (h : Heap) : lim tab.get S 186 q 3 [x0, x1, x2] h = b186_3 (orc S (lim tab.get S)) (lim tab.get S 186 q) q x0 x1 x2 h := (qAA k186 q 3 _ h).trans (e186_3 ..).symm
theorem w186_4 (S : Oracle) (q : Nat) (x0 x1 x2 : TVal) (h : Heap) : lim tab.get S 186 q 4 [x0, x1, x2] h = b186_4 (orc S (lim tab.get S)) (lim tab.get S 186 q) q x0 x1 x2 h := (qAA k186 q 4 _ h).trans (e186_4 ..).symm
theorem k187 : tab.get 187 = some c187 := by kernel_rfl
theorem w187_0 (S : Oracle) (q : Nat) (x0 x1 x2 x3 x4 : TVal) (h : Heap) : lim tab.get S 187 q 0 [x0, x1, x2, x3, x4] h = b187_0 (orc S (lim tab.get S)) (lim tab.get S 187 q) q x0 x1 x2 x3 x4 h := (qAA k187 q 0 _ h).trans (e187_0 ..).symm
theorem w187_1 (S : Oracle) (q : Nat) (x0 x1 x2 x3 x4 x5 x6 : TVal) (h : Heap) : lim tab.get S 187 q 1 [x0, x1, x2, x3, x4, x5, x6] h = b187_1 (orc S (lim tab.get S)) (lim tab.get S 187 q) q x0 x1 x2 x3 x4 x5 x6 h := (qAA k187 q 1 _ h).trans (e187_1 ..).symm
theorem w187_2 (S : Oracle) (q : Nat) (x0 x1 x2 x3 x4 x5 x6 x7 x8 : TVal) (h : Heap) : lim tab.get S 187 q 2 [x0, x1, x2, x3, x4, x5, x6, x7, x8] h = b187_2 (orc S (lim tab.get S)) (lim tab.get S 187 q) q x0 x1 x2 x3 x4 x5 x6 x7 x8 h := (qAA k187 q 2 _ h).trans (e187_2 ..).symm
theorem w187_3 (S : Oracle) (q : Nat) (x0 x1 x2 x3 x4 x5 x6 x7 x8 x9 x10 : TVal) (h : Heap) : lim tab.get S 187 q 3 [x0, x1, x2, x3, x4, x5, x6, x7, x8, x9, x10] h = b187_3 (orc S (lim tab.get S)) (lim tab.get S 187 q) q x0 x1 x2 x3 x4 x5 x6 x7 x8 x9 x10 h := (qAA k187 q 3 _ h).trans (e187_3 ..).symm
theorem w187_4 (S : Oracle) (q : Nat) (x0 x1 x2 x3 x4 x5 x6 x7 : TVal) (h : Heap) : lim tab.get S 187 q 4 [x0, x1, x2, x3, x4, x5, x6, x7] h = b187_4 (orc S (lim tab.get S)) (lim tab.get S 187 q) q x0 x1 x2 x3 x4 x5 x6 x7 h := (qAA k187 q 4 _ h).trans (e187_4 ..).symm
theorem w187_5 (S : Oracle) (q : Nat) (x0 x1 x2 x3 x4 x5 x6 x7 x8 : TVal) (h : Heap) : lim tab.get S 187 q 5 [x0, x1, x2, x3, x4, x5, x6, x7, x8] h = b187_5 (orc S (lim tab.get S)) (lim tab.get S 187 q) q x0 x1 x2 x3 x4 x5 x6 x7 x8 h := (qAA k187 q 5 _ h).trans (e187_5 ..).symm
theorem w187_6 (S : Oracle) (q : Nat) (x0 x1 x2 x3 x4 x5 x6 x7 : TVal) (h : Heap) : lim tab.get S 187 q 6 [x0, x1, x2, x3, x4, x5, x6, x7] h = b187_6 (orc S (lim tab.get S)) (lim tab.get S 187 q) q x0 x1 x2 x3 x4 x5 x6 x7 h := (qAA k187 q 6 _ h).trans (e187_6 ..).symm
theorem w187_7 (S : Oracle) (q : Nat) (x0 x1 x2 x3 x4 x5 x6 : TVal) (h : Heap) : lim tab.get S 187 q 7 [x0, x1, x2, x3, x4, x5, x6] h = b187_7 (orc S (lim tab.get S)) (lim tab.get S 187 q) q x0 x1 x2 x3 x4 x5 x6 h := (qAA k187 q 7 _ h).trans (e187_7 ..).symm
theorem w187_8 (S : Oracle) (q : Nat) (x0 x1 x2 x3 x4 x5 : TVal) (h : Heap) : lim tab.get S 187 q 8 [x0, x1, x2, x3, x4, x5] h = b187_8 (orc S (lim tab.get S)) (lim tab.get S 187 q) q x0 x1 x2 x3 x4 x5 h := (qAA k187 q 8 _ h).trans (e187_8 ..).symm
theorem k192 : tab.get 192 = some c192 := by kernel_rfl
theorem w192_0 (S : Oracle) (q : Nat) (x0 : TVal) (h : Heap) : lim tab.get S 192 q 0 [x0] h = b192_0 (orc S (lim tab.get S)) (lim tab.get S 192 q) q x0 h := (qAA k192 q 0 _ h).trans (e192_0 ..).symm
theorem k193 : tab.get 193 = some c193 := by kernel_rfl
theorem w193_0 (S : Oracle) (q : Nat) (x0 : TVal) (h : Heap) : lim tab.get S 193 q 0 [x0] h = b193_0 (orc S (lim tab.get S)) (lim tab.get S 193 q) q x0 h := (qAA k193 q 0 _ h).trans (e193_0 ..).symm
theorem w193_1 (S : Oracle) (q : Nat) (x0 x1 : TVal) (h : Heap) : lim tab.get S 193 q 1 [x0, x1] h = b193_1 (orc S (lim tab.get S)) (lim tab.get S 193 q) q x0 x1 h := (qAA k193 q 1 _ h).trans (e193_1 ..).symm
theorem w193_2 (S : Oracle) (q : Nat) (x0 x1 : TVal) (h : Heap) : lim tab.get S 193 q 2 [x0, x1] h = b193_2 (orc S (lim tab.get S)) (lim tab.get S 193 q) q x0 x1 h := (qAA k193 q 2 _ h).trans (e193_2 ..).symm
theorem w193_3 (S : Oracle) (q : Nat) (x0 x1 : TVal) (h : Heap) : lim tab.get S 193 q 3 [x0, x1] h = b193_3 (orc S (lim tab.get S)) (lim tab.get S 193 q) q x0 x1 h := (qAA k193 q 3 _ h).trans (e193_3 ..).symm
theorem k194 : tab.get 194 = some c194 := by kernel_rfl
theorem w194_0 (S : Oracle) (q : Nat) (x0 : TVal) (h : Heap) : lim tab.get S 194 q 0 [x0] h = b194_0 (orc S (lim tab.get S)) (lim tab.get S 194 q) q x0 h := (qAA k194 q 0 _ h).trans (e194_0 ..).symm
theorem k195 : tab.get 195 = some c195 := by kernel_rfl
theorem w195_0 (S : Oracle) (q : Nat) (x0 : TVal) (h : Heap) : lim tab.get S 195 q 0 [x0] h = b195_0 (orc S (lim tab.get S)) (lim tab.get S 195 q) q x0 h := (qAA k195 q 0 _ h).trans (e195_0 ..).symm
theorem k196 : tab.get 196 = some c196 := by kernel_rfl
theorem w196_0 (S : Oracle) (q : Nat) (x0 : TVal) (h : Heap) : lim tab.get S 196 q 0 [x0] h = b196_0 (orc S (lim tab.get S)) (lim tab.get S 196 q) q x0 h := (qAA k196 q 0 _ h).trans (e196_0 ..).symm
theorem k199 : tab.get 199 = some c199 := by kernel_rfl
theorem w199_0 (S : Oracle) (q : Nat) (x0 : TVal) (h : Heap) : lim tab.get S 199 q 0 [x0] h = b199_0 (orc S (lim tab.get S)) (lim tab.get S 199 q) q x0 h := (qAA k199 q 0 _ h).trans (e199_0 ..).symm
theorem k200 : tab.get 200 = some c200 := by kernel_rfl
theorem w200_0 (S : Oracle) (q : Nat) (x0 : TVal) (h : Heap) : lim tab.get S 200 q 0 [x0] h = b200_0 (orc S (lim tab.get S)) (lim tab.get S 200 q) q x0 h := (qAA k200 q 0 _ h).trans (e200_0 ..).symm
end Go.Proofs.YtlkejchbcchecaaDoor.Ab
