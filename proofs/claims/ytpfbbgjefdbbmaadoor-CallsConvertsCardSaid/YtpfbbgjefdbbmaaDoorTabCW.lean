/- The machine's equations, a piece at a time. Own work, printed by a program of our own; no condition. -/
import Derived.Test.YtpfbbgjefdbbmaaDoorTabC
namespace Go.Proofs.YtpfbbgjefdbbmaaDoor.Ab
open Go Go.AI
set_option linter.all false
set_option linter.unusedVariables false
set_option maxRecDepth 100000
theorem k3 : tab.get 3 = some c3 := by kernel_rfl
theorem w3_0 (S : Oracle) (q : Nat) (x0 x1 : TVal) (h : Heap) : lim tab.get S 3 q 0 [x0, x1] h = b3_0 (orc S (lim tab.get S)) (lim tab.get S 3 q) q x0 x1 h := (lim_eqF k3 q 0 _ h).trans (e3_0 ..).symm
theorem w3_1 (S : Oracle) (q : Nat) (x0 x1 x2 x3 x4 x5 x6 : TVal) (h : Heap) : lim tab.get S 3 q 1 [x0, x1, x2, x3, x4, x5, x6] h = b3_1 (orc S (lim tab.get S)) (lim tab.get S 3 q) q x0 x1 x2 x3 x4 x5 x6 h := (lim_eqF k3 q 1 _ h).trans (e3_1 ..).symm
theorem w3_2 (S : Oracle) (q : Nat) (x0 x1 x2 x3 : TVal) (h : Heap) : lim tab.get S 3 q 2 [x0, x1, x2, x3] h = b3_2 (orc S (lim tab.get S)) (lim tab.get S 3 q) q x0 x1 x2 x3 h := (lim_eqF k3 q 2 _ h).trans (e3_2 ..).symm
theorem w3_3 (S : Oracle) (q : Nat) (x0 x1 x2 x3 x4 x5 x6 : TVal) (h : Heap) : lim tab.get S 3 q 3 [x0, x1, x2, x3, x4, x5, x6] h = b3_3 (orc S (lim tab.get S)) (lim tab.get S 3 q) q x0 x1 x2 x3 x4 x5 x6 h := (lim_eqF k3 q 3 _ h).trans (e3_3 ..).symm
theorem w3_4 (S : Oracle) (q : Nat) (x0 x1 x2 : TVal) (h : Heap) : lim tab.get S 3 q 4 [x0, x1, x2] h = b3_4 (orc S (lim tab.get S)) (lim tab.get S 3 q) q x0 x1 x2 h := (lim_eqF k3 q 4 _ h).trans (e3_4 ..).symm
theorem k4 : tab.get 4 = some c4 := by kernel_rfl
theorem w4_0 (S : Oracle) (q : Nat) (x0 x1 : TVal) (h : Heap) : lim tab.get S 4 q 0 [x0, x1] h = b4_0 (orc S (lim tab.get S)) (lim tab.get S 4 q) q x0 x1 h := (lim_eqF k4 q 0 _ h).trans (e4_0 ..).symm
theorem w4_1 (S : Oracle) (q : Nat) (x0 x1 x2 x3 x4 x5 x6 x7 x8 x9 x10 x11 : TVal) (h : Heap) : lim tab.get S 4 q 1 [x0, x1, x2, x3, x4, x5, x6, x7, x8, x9, x10, x11] h = b4_1 (orc S (lim tab.get S)) (lim tab.get S 4 q) q x0 x1 x2 x3 x4 x5 x6 x7 x8 x9 x10 x11 h := (lim_eqF k4 q 1 _ h).trans (e4_1 ..).symm
theorem k5 : tab.get 5 = some c5 := by kernel_rfl
theorem w5_0 (S : Oracle) (q : Nat) (x0 x1 : TVal) (h : Heap) : lim tab.get S 5 q 0 [x0, x1] h = b5_0 (orc S (lim tab.get S)) (lim tab.get S 5 q) q x0 x1 h := (lim_eqF k5 q 0 _ h).trans (e5_0 ..).symm
theorem w5_1 (S : Oracle) (q : Nat) (x0 x1 x2 x3 x4 : TVal) (h : Heap) : lim tab.get S 5 q 1 [x0, x1, x2, x3, x4] h = b5_1 (orc S (lim tab.get S)) (lim tab.get S 5 q) q x0 x1 x2 x3 x4 h := (lim_eqF k5 q 1 _ h).trans (e5_1 ..).symm
theorem w5_2 (S : Oracle) (q : Nat) (x0 x1 x2 x3 x4 x5 x6 x7 x8 : TVal) (h : Heap) : lim tab.get S 5 q 2 [x0, x1, x2, x3, x4, x5, x6, x7, x8] h = b5_2 (orc S (lim tab.get S)) (lim tab.get S 5 q) q x0 x1 x2 x3 x4 x5 x6 x7 x8 h := (lim_eqF k5 q 2 _ h).trans (e5_2 ..).symm
theorem k9 : tab.get 9 = some c9 := by kernel_rfl
theorem w9_0 (S : Oracle) (q : Nat) (h : Heap) : lim tab.get S 9 q 0 [] h = b9_0 (orc S (lim tab.get S)) (lim tab.get S 9 q) q  h := (lim_eqF k9 q 0 _ h).trans (e9_0 ..).symm
theorem k10 : tab.get 10 = some c10 := by kernel_rfl
theorem w10_0 (S : Oracle) (q : Nat) (x0 x1 : TVal) (h : Heap) : lim tab.get S 10 q 0 [x0, x1] h = b10_0 (orc S (lim tab.get S)) (lim tab.get S 10 q) q x0 x1 h := (lim_eqF k10 q 0 _ h).trans (e10_0 ..).symm
theorem w10_1 (S : Oracle) (q : Nat) (x0 x1 x2 x3 x4 : TVal) (h : Heap) : lim tab.get S 10 q 1 [x0, x1, x2, x3, x4] h = b10_1 (orc S (lim tab.get S)) (lim tab.get S 10 q) q x0 x1 x2 x3 x4 h := (lim_eqF k10 q 1 _ h).trans (e10_1 ..).symm
theorem k11 : tab.get 11 = some c11 := by kernel_rfl
theorem w11_0 (S : Oracle) (q : Nat) (x0 x1 : TVal) (h : Heap) : lim tab.get S 11 q 0 [x0, x1] h = b11_0 (orc S (lim tab.get S)) (lim tab.get S 11 q) q x0 x1 h := (lim_eqF k11 q 0 _ h).trans (e11_0 ..).symm
theorem k12 : tab.get 12 = some c12 := by kernel_rfl
theorem w12_0 (S : Oracle) (q : Nat) (x0 : TVal) (h : Heap) : lim tab.get S 12 q 0 [x0] h = b12_0 (orc S (lim tab.get S)) (lim tab.get S 12 q) q x0 h := (lim_eqF k12 q 0 _ h).trans (e12_0 ..).symm
theorem k26 : tab.get 26 = some c26 := by kernel_rfl
theorem w26_0 (S : Oracle) (q : Nat) (x0 : TVal) (h : Heap) : lim tab.get S 26 q 0 [x0] h = b26_0 (orc S (lim tab.get S)) (lim tab.get S 26 q) q x0 h := (lim_eqF k26 q 0 _ h).trans (e26_0 ..).symm
theorem k27 : tab.get 27 = some c27 := by kernel_rfl
theorem w27_0 (S : Oracle) (q : Nat) (x0 : TVal) (h : Heap) : lim tab.get S 27 q 0 [x0] h = b27_0 (orc S (lim tab.get S)) (lim tab.get S 27 q) q x0 h := (lim_eqF k27 q 0 _ h).trans (e27_0 ..).symm
theorem w27_1 (S : Oracle) (q : Nat) (x0 x1 : TVal) (h : Heap) : lim tab.get S 27 q 1 [x0, x1] h = b27_1 (orc S (lim tab.get S)) (lim tab.get S 27 q) q x0 x1 h := (lim_eqF k27 q 1 _ h).trans (e27_1 ..).symm
theorem w27_2 (S : Oracle) (q : Nat) (x0 : TVal) (h : Heap) : lim tab.get S 27 q 2 [x0] h = b27_2 (orc S (lim tab.get S)) (lim tab.get S 27 q) q x0 h := (lim_eqF k27 q 2 _ h).trans (e27_2 ..).symm
theorem k28 : tab.get 28 = some c28 := by kernel_rfl
theorem w28_0 (S : Oracle) (q : Nat) (x0 : TVal) (h : Heap) : lim tab.get S 28 q 0 [x0] h = b28_0 (orc S (lim tab.get S)) (lim tab.get S 28 q) q x0 h := (lim_eqF k28 q 0 _ h).trans (e28_0 ..).symm
theorem w28_1 (S : Oracle) (q : Nat) (x0 x1 x2 : TVal) (h : Heap) : lim tab.get S 28 q 1 [x0, x1, x2] h = b28_1 (orc S (lim tab.get S)) (lim tab.get S 28 q) q x0 x1 x2 h := (lim_eqF k28 q 1 _ h).trans (e28_1 ..).symm
theorem k29 : tab.get 29 = some c29 := by kernel_rfl
theorem w29_0 (S : Oracle) (q : Nat) (x0 x1 : TVal) (h : Heap) : lim tab.get S 29 q 0 [x0, x1] h = b29_0 (orc S (lim tab.get S)) (lim tab.get S 29 q) q x0 x1 h := (lim_eqF k29 q 0 _ h).trans (e29_0 ..).symm
theorem k30 : tab.get 30 = some c30 := by kernel_rfl
theorem w30_0 (S : Oracle) (q : Nat) (x0 : TVal) (h : Heap) : lim tab.get S 30 q 0 [x0] h = b30_0 (orc S (lim tab.get S)) (lim tab.get S 30 q) q x0 h := (lim_eqF k30 q 0 _ h).trans (e30_0 ..).symm
theorem k31 : tab.get 31 = some c31 := by kernel_rfl
theorem w31_0 (S : Oracle) (q : Nat) (x0 : TVal) (h : Heap) : lim tab.get S 31 q 0 [x0] h = b31_0 (orc S (lim tab.get S)) (lim tab.get S 31 q) q x0 h := (lim_eqF k31 q 0 _ h).trans (e31_0 ..).symm
theorem k32 : tab.get 32 = some c32 := by kernel_rfl
theorem w32_0 (S : Oracle) (q : Nat) (x0 : TVal) (h : Heap) : lim tab.get S 32 q 0 [x0] h = b32_0 (orc S (lim tab.get S)) (lim tab.get S 32 q) q x0 h := (lim_eqF k32 q 0 _ h).trans (e32_0 ..).symm
theorem k33 : tab.get 33 = some c33 := by kernel_rfl
theorem w33_0 (S : Oracle) (q : Nat) (x0 : TVal) (h : Heap) : lim tab.get S 33 q 0 [x0] h = b33_0 (orc S (lim tab.get S)) (lim tab.get S 33 q) q x0 h := (lim_eqF k33 q 0 _ h).trans (e33_0 ..).symm
theorem k34 : tab.get 34 = some c34 := by kernel_rfl
theorem w34_0 (S : Oracle) (q : Nat) (x0 x1 : TVal) (h : Heap) : lim tab.get S 34 q 0 [x0, x1] h = b34_0 (orc S (lim tab.get S)) (lim tab.get S 34 q) q x0 x1 h := (lim_eqF k34 q 0 _ h).trans (e34_0 ..).symm
theorem w34_1 (S : Oracle) (q : Nat) (x0 x1 x2 x3 : TVal) (h : Heap) : lim tab.get S 34 q 1 [x0, x1, x2, x3] h = b34_1 (orc S (lim tab.get S)) (lim tab.get S 34 q) q x0 x1 x2 x3 h := (lim_eqF k34 q 1 _ h).trans (e34_1 ..).symm
theorem k35 : tab.get 35 = some c35 := by kernel_rfl
theorem w35_0 (S : Oracle) (q : Nat) (x0 x1 : TVal) (h : Heap) : lim tab.get S 35 q 0 [x0, x1] h = b35_0 (orc S (lim tab.get S)) (lim tab.get S 35 q) q x0 x1 h := (lim_eqF k35 q 0 _ h).trans (e35_0 ..).symm
theorem k36 : tab.get 36 = some c36 := by kernel_rfl
theorem w36_0 (S : Oracle) (q : Nat) (x0 : TVal) (h : Heap) : lim tab.get S 36 q 0 [x0] h = b36_0 (orc S (lim tab.get S)) (lim tab.get S 36 q) q x0 h := (lim_eqF k36 q 0 _ h).trans (e36_0 ..).symm
theorem k37 : tab.get 37 = some c37 := by kernel_rfl
theorem w37_0 (S : Oracle) (q : Nat) (x0 : TVal) (h : Heap) : lim tab.get S 37 q 0 [x0] h = b37_0 (orc S (lim tab.get S)) (lim tab.get S 37 q) q x0 h := (lim_eqF k37 q 0 _ h).trans (e37_0 ..).symm
theorem k38 : tab.get 38 = some c38 := by kernel_rfl
theorem w38_0 (S : Oracle) (q : Nat) (x0 x1 : TVal) (h : Heap) : lim tab.get S 38 q 0 [x0, x1] h = b38_0 (orc S (lim tab.get S)) (lim tab.get S 38 q) q x0 x1 h := (lim_eqF k38 q 0 _ h).trans (e38_0 ..).symm
theorem k46 : tab.get 46 = some c46 := by kernel_rfl
theorem w46_0 (S : Oracle) (q : Nat) (x0 : TVal) (h : Heap) : lim tab.get S 46 q 0 [x0] h = b46_0 (orc S (lim tab.get S)) (lim tab.get S 46 q) q x0 h := (lim_eqF k46 q 0 _ h).trans (e46_0 ..).symm
theorem k49 : tab.get 49 = some c49 := by kernel_rfl
theorem w49_0 (S : Oracle) (q : Nat) (x0 : TVal) (h : Heap) : lim tab.get S 49 q 0 [x0] h = b49_0 (orc S (lim tab.get S)) (lim tab.get S 49 q) q x0 h := (lim_eqF k49 q 0 _ h).trans (e49_0 ..).symm
theorem k50 : tab.get 50 = some c50 := by kernel_rfl
theorem w50_0 (S : Oracle) (q : Nat) (x0 x1 : TVal) (h : Heap) : lim tab.get S 50 q 0 [x0, x1] h = b50_0 (orc S (lim tab.get S)) (lim tab.get S 50 q) q x0 x1 h := (lim_eqF k50 q 0 _ h).trans (e50_0 ..).symm
theorem k51 : tab.get 51 = some c51 := by kernel_rfl
theorem w51_0 (S : Oracle) (q : Nat) (x0 : TVal) (h : Heap) : lim tab.get S 51 q 0 [x0] h = b51_0 (orc S (lim tab.get S)) (lim tab.get S 51 q) q x0 h := (lim_eqF k51 q 0 _ h).trans (e51_0 ..).symm
theorem k52 : tab.get 52 = some c52 := by kernel_rfl
theorem w52_0 (S : Oracle) (q : Nat) (x0 x1 : TVal) (h : Heap) : lim tab.get S 52 q 0 [x0, x1] h = b52_0 (orc S (lim tab.get S)) (lim tab.get S 52 q) q x0 x1 h := (lim_eqF k52 q 0 _ h).trans (e52_0 ..).symm
theorem k53 : tab.get 53 = some c53 := by kernel_rfl
theorem w53_0 (S : Oracle) (q : Nat) (x0 : TVal) (h : Heap) : lim tab.get S 53 q 0 [x0] h = b53_0 (orc S (lim tab.get S)) (lim tab.get S 53 q) q x0 h := (lim_eqF k53 q 0 _ h).trans (e53_0 ..).symm
theorem k54 : tab.get 54 = some c54 := by kernel_rfl
theorem w54_0 (S : Oracle) (q : Nat) (x0 : TVal) (h : Heap) : lim tab.get S 54 q 0 [x0] h = b54_0 (orc S (lim tab.get S)) (lim tab.get S 54 q) q x0 h := (lim_eqF k54 q 0 _ h).trans (e54_0 ..).symm
theorem k55 : tab.get 55 = some c55 := by kernel_rfl
theorem w55_0 (S : Oracle) (q : Nat) (x0 x1 : TVal) (h : Heap) : lim tab.get S 55 q 0 [x0, x1] h = b55_0 (orc S (lim tab.get S)) (lim tab.get S 55 q) q x0 x1 h := (lim_eqF k55 q 0 _ h).trans (e55_0 ..).symm
theorem k56 : tab.get 56 = some c56 := by kernel_rfl
theorem w56_0 (S : Oracle) (q : Nat) (x0 : TVal) (h : Heap) : lim tab.get S 56 q 0 [x0] h = b56_0 (orc S (lim tab.get S)) (lim tab.get S 56 q) q x0 h := (lim_eqF k56 q 0 _ h).trans (e56_0 ..).symm
theorem k57 : tab.get 57 = some c57 := by kernel_rfl
theorem w57_0 (S : Oracle) (q : Nat) (x0 x1 : TVal) (h : Heap) : lim tab.get S 57 q 0 [x0, x1] h = b57_0 (orc S (lim tab.get S)) (lim tab.get S 57 q) q x0 x1 h := (lim_eqF k57 q 0 _ h).trans (e57_0 ..).symm
theorem w57_1 (S : Oracle) (q : Nat) (x0 x1 x2 x3 : TVal) (h : Heap) : lim tab.get S 57 q 1 [x0, x1, x2, x3] h = b57_1 (orc S (lim tab.get S)) (lim tab.get S 57 q) q x0 x1 x2 x3 h := (lim_eqF k57 q 1 _ h).trans (e57_1 ..).symm
theorem k58 : tab.get 58 = some c58 := by kernel_rfl
theorem w58_0 (S : Oracle) (q : Nat) (x0 : TVal) (h : Heap) : lim tab.get S 58 q 0 [x0] h = b58_0 (orc S (lim tab.get S)) (lim tab.get S 58 q) q x0 h := (lim_eqF k58 q 0 _ h).trans (e58_0 ..).symm
theorem w58_1 (S : Oracle) (q : Nat) (x0 x1 x2 x3 x4 : TVal) (h : Heap) : lim tab.get S 58 q 1 [x0, x1, x2, x3, x4] h = b58_1 (orc S (lim tab.get S)) (lim tab.get S 58 q) q x0 x1 x2 x3 x4 h := (lim_eqF k58 q 1 _ h).trans (e58_1 ..).symm
theorem w58_2 (S : Oracle) (q : Nat) (x0 x1 : TVal) (h : Heap) : lim tab.get S 58 q 2 [x0, x1] h = b58_2 (orc S (lim tab.get S)) (lim tab.get S 58 q) q x0 x1 h := (lim_eqF k58 q 2 _ h).trans (e58_2 ..).symm
theorem k59 : tab.get 59 = some c59 := by kernel_rfl
theorem w59_0 (S : Oracle) (q : Nat) (x0 : TVal) (h : Heap) : lim tab.get S 59 q 0 [x0] h = b59_0 (orc S (lim tab.get S)) (lim tab.get S 59 q) q x0 h := (lim_eqF k59 q 0 _ h).trans (e59_0 ..).symm
theorem k60 : tab.get 60 = some c60 := by kernel_rfl
theorem w60_0 (S : Oracle) (q : Nat) (x0 x1 : TVal) (h : Heap) : lim tab.get S 60 q 0 [x0, x1] h = b60_0 (orc S (lim tab.get S)) (lim tab.get S 60 q) q x0 x1 h := (lim_eqF k60 q 0 _ h).trans (e60_0 ..).symm
theorem k61 : tab.get 61 = some c61 := by kernel_rfl
theorem w61_0 (S : Oracle) (q : Nat) (x0 x1 x2 : TVal) (h : Heap) : lim tab.get S 61 q 0 [x0, x1, x2] h = b61_0 (orc S (lim tab.get S)) (lim tab.get S 61 q) q x0 x1 x2 h := (lim_eqF k61 q 0 _ h).trans (e61_0 ..).symm
theorem k69 : tab.get 69 = some c69 := by kernel_rfl
theorem w69_0 (S : Oracle) (q : Nat) (x0 : TVal) (h : Heap) : lim tab.get S 69 q 0 [x0] h = b69_0 (orc S (lim tab.get S)) (lim tab.get S 69 q) q x0 h := (lim_eqF k69 q 0 _ h).trans (e69_0 ..).symm
theorem k70 : tab.get 70 = some c70 := by kernel_rfl
theorem w70_0 (S : Oracle) (q : Nat) (x0 : TVal) (h : Heap) : lim tab.get S 70 q 0 [x0] h = b70_0 (orc S (lim tab.get S)) (lim tab.get S 70 q) q x0 h := (lim_eqF k70 q 0 _ h).trans (e70_0 ..).symm
theorem k71 : tab.get 71 = some c71 := by kernel_rfl
theorem w71_0 (S : Oracle) (q : Nat) (x0 x1 : TVal) (h : Heap) : lim tab.get S 71 q 0 [x0, x1] h = b71_0 (orc S (lim tab.get S)) (lim tab.get S 71 q) q x0 x1 h := (lim_eqF k71 q 0 _ h).trans (e71_0 ..).symm
theorem k72 : tab.get 72 = some c72 := by kernel_rfl
theorem w72_0 (S : Oracle) (q : Nat) (x0 x1 : TVal) (h : Heap) : lim tab.get S 72 q 0 [x0, x1] h = b72_0 (orc S (lim tab.get S)) (lim tab.get S 72 q) q x0 x1 h := (lim_eqF k72 q 0 _ h).trans (e72_0 ..).symm
theorem w72_1 (S : Oracle) (q : Nat) (x0 x1 x2 x3 : TVal) (h : Heap) : lim tab.get S 72 q 1 [x0, x1, x2, x3] h = b72_1 (orc S (lim tab.get S)) (lim tab.get S 72 q) q x0 x1 x2 x3 h := (lim_eqF k72 q 1 _ h).trans (e72_1 ..).symm
theorem k73 : tab.get 73 = some c73 := by kernel_rfl
theorem w73_0 (S : Oracle) (q : Nat) (x0 x1 : TVal) (h : Heap) : lim tab.get S 73 q 0 [x0, x1] h = b73_0 (orc S (lim tab.get S)) (lim tab.get S 73 q) q x0 x1 h := (lim_eqF k73 q 0 _ h).trans (e73_0 ..).symm
theorem w73_1 (S : Oracle) (q : Nat) (x0 x1 x2 : TVal) (h : Heap) : lim tab.get S 73 q 1 [x0, x1, x2] h = b73_1 (orc S (lim tab.get S)) (lim tab.get S 73 q) q x0 x1 x2 h := (lim_eqF k73 q 1 _ h).trans (e73_1 ..).symm
theorem k74 : tab.get 74 = some c74 := by kernel_rfl
theorem w74_0 (S : Oracle) (q : Nat) (x0 : TVal) (h : Heap) : lim tab.get S 74 q 0 [x0] h = b74_0 (orc S (lim tab.get S)) (lim tab.get S 74 q) q x0 h := (lim_eqF k74 q 0 _ h).trans (e74_0 ..).symm
theorem k75 : tab.get 75 = some c75 := by kernel_rfl
theorem w75_0 (S : Oracle) (q : Nat) (x0 : TVal) (h : Heap) : lim tab.get S 75 q 0 [x0] h = b75_0 (orc S (lim tab.get S)) (lim tab.get S 75 q) q x0 h := (lim_eqF k75 q 0 _ h).trans (e75_0 ..).symm
theorem k80 : tab.get 80 = some c80 := by kernel_rfl
theorem w80_0 (S : Oracle) (q : Nat) (x0 x1 : TVal) (h : Heap) : lim tab.get S 80 q 0 [x0, x1] h = b80_0 (orc S (lim tab.get S)) (lim tab.get S 80 q) q x0 x1 h := (lim_eqF k80 q 0 _ h).trans (e80_0 ..).symm
theorem w80_1 (S : Oracle) (q : Nat) (x0 x1 x2 : TVal) (h : Heap) : lim tab.get S 80 q 1 [x0, x1, x2] h = b80_1 (orc S (lim tab.get S)) (lim tab.get S 80 q) q x0 x1 x2 h := (lim_eqF k80 q 1 _ h).trans (e80_1 ..).symm
theorem w80_2 (S : Oracle) (q : Nat) (x0 : TVal) (h : Heap) : lim tab.get S 80 q 2 [x0] h = b80_2 (orc S (lim tab.get S)) (lim tab.get S 80 q) q x0 h := (lim_eqF k80 q 2 _ h).trans (e80_2 ..).symm
theorem k81 : tab.get 81 = some c81 := by kernel_rfl
theorem w81_0 (S : Oracle) (q : Nat) (x0 : TVal) (h : Heap) : lim tab.get S 81 q 0 [x0] h = b81_0 (orc S (lim tab.get S)) (lim tab.get S 81 q) q x0 h := (lim_eqF k81 q 0 _ h).trans (e81_0 ..).symm
theorem k82 : tab.get 82 = some c82 := by kernel_rfl
theorem w82_0 (S : Oracle) (q : Nat) (x0 : TVal) (h : Heap) : lim tab.get S 82 q 0 [x0] h = b82_0 (orc S (lim tab.get S)) (lim tab.get S 82 q) q x0 h := (lim_eqF k82 q 0 _ h).trans (e82_0 ..).symm
theorem k83 : tab.get 83 = some c83 := by kernel_rfl
theorem w83_0 (S : Oracle) (q : Nat) (x0 x1 : TVal) (h : Heap) : lim tab.get S 83 q 0 [x0, x1] h = b83_0 (orc S (lim tab.get S)) (lim tab.get S 83 q) q x0 x1 h := (lim_eqF k83 q 0 _ h).trans (e83_0 ..).symm
theorem w83_1 (S : Oracle) (q : Nat) (x0 x1 x2 x3 x4 x5 x6 x7 : TVal) (h : Heap) : lim tab.get S 83 q 1 [x0, x1, x2, x3, x4, x5, x6, x7] h = b83_1 (orc S (lim tab.get S)) (lim tab.get S 83 q) q x0 x1 x2 x3 x4 x5 x6 x7 h := (lim_eqF k83 q 1 _ h).trans (e83_1 ..).symm
theorem w83_2 (S : Oracle) (q : Nat) (x0 x1 x2 x3 x4 x5 x6 x7 : TVal) (h : Heap) : lim tab.get S 83 q 2 [x0, x1, x2, x3, x4, x5, x6, x7] h = b83_2 (orc S (lim tab.get S)) (lim tab.get S 83 q) q x0 x1 x2 x3 x4 x5 x6 x7 h := (lim_eqF k83 q 2 _ h).trans (e83_2 ..).symm
theorem k84 : tab.get 84 = some c84 := by kernel_rfl
theorem w84_0 (S : Oracle) (q : Nat) (x0 : TVal) (h : Heap) : lim tab.get S 84 q 0 [x0] h = b84_0 (orc S (lim tab.get S)) (lim tab.get S 84 q) q x0 h := (lim_eqF k84 q 0 _ h).trans (e84_0 ..).symm
theorem k85 : tab.get 85 = some c85 := by kernel_rfl
theorem w85_0 (S : Oracle) (q : Nat) (x0 : TVal) (h : Heap) : lim tab.get S 85 q 0 [x0] h = b85_0 (orc S (lim tab.get S)) (lim tab.get S 85 q) q x0 h := (lim_eqF k85 q 0 _ h).trans (e85_0 ..).symm
theorem k86 : tab.get 86 = some c86 := by kernel_rfl
theorem w86_0 (S : Oracle) (q : Nat) (x0 x1 : TVal) (h : Heap) : lim tab.get S 86 q 0 [x0, x1] h = b86_0 (orc S (lim tab.get S)) (lim tab.get S 86 q) q x0 x1 h := (lim_eqF k86 q 0 _ h).trans (e86_0 ..).symm
theorem w86_1 (S : Oracle) (q : Nat) (x0 x1 x2 : TVal) (h : Heap) : lim tab.get S 86 q 1 [x0, x1, x2] h = b86_1 (orc S (lim tab.get S)) (lim tab.get S 86 q) q x0 x1 x2 h := (lim_eqF k86 q 1 _ h).trans (e86_1 ..).symm
theorem w86_2 (S : Oracle) (q : Nat) (x0 x1 x2 : TVal) (h : Heap) : lim tab.get S 86 q 2 [x0, x1, x2] h = b86_2 (orc S (lim tab.get S)) (lim tab.get S 86 q) q x0 x1 x2 h := (lim_eqF k86 q 2 _ h).trans (e86_2 ..).symm
theorem w86_3 (S : Oracle) (q : Nat) (x0 x1 x2 : TVal) (h : Heap) : lim tab.get S 86 q 3 [x0, x1, x2] h = b86_3 (orc S (lim tab.get S)) (lim tab.get S 86 q) q x0 x1 x2 h := (lim_eqF k86 q 3 _ h).trans (e86_3 ..).symm
theorem w86_4 (S : Oracle) (q : Nat) (x0 x1 x2 : TVal) (h : Heap) : lim tab.get S 86 q 4 [x0, x1, x2] h = b86_4 (orc S (lim tab.get S)) (lim tab.get S 86 q) q x0 x1 x2 h := (lim_eqF k86 q 4 _ h).trans (e86_4 ..).symm
theorem k87 : tab.get 87 = some c87 := by kernel_rfl
theorem w87_0 (S : Oracle) (q : Nat) (x0 x1 x2 x3 x4 : TVal) (h : Heap) : lim tab.get S 87 q 0 [x0, x1, x2, x3, x4] h = b87_0 (orc S (lim tab.get S)) (lim tab.get S 87 q) q x0 x1 x2 x3 x4 h := (lim_eqF k87 q 0 _ h).trans (e87_0 ..).symm
theorem w87_1 (S : Oracle) (q : Nat) (x0 x1 x2 x3 x4 x5 x6 : TVal) (h : Heap) : lim tab.get S 87 q 1 [x0, x1, x2, x3, x4, x5, x6] h = b87_1 (orc S (lim tab.get S)) (lim tab.get S 87 q) q x0 x1 x2 x3 x4 x5 x6 h := (lim_eqF k87 q 1 _ h).trans (e87_1 ..).symm
theorem w87_2 (S : Oracle) (q : Nat) (x0 x1 x2 x3 x4 x5 x6 x7 x8 : TVal) (h : Heap) : lim tab.get S 87 q 2 [x0, x1, x2, x3, x4, x5, x6, x7, x8] h = b87_2 (orc S (lim tab.get S)) (lim tab.get S 87 q) q x0 x1 x2 x3 x4 x5 x6 x7 x8 h := (lim_eqF k87 q 2 _ h).trans (e87_2 ..).symm
theorem w87_3 (S : Oracle) (q : Nat) (x0 x1 x2 x3 x4 x5 x6 x7 x8 x9 x10 : TVal) (h : Heap) : lim tab.get S 87 q 3 [x0, x1, x2, x3, x4, x5, x6, x7, x8, x9, x10] h = b87_3 (orc S (lim tab.get S)) (lim tab.get S 87 q) q x0 x1 x2 x3 x4 x5 x6 x7 x8 x9 x10 h := (lim_eqF k87 q 3 _ h).trans (e87_3 ..).symm
theorem w87_4 (S : Oracle) (q : Nat) (x0 x1 x2 x3 x4 x5 x6 x7 : TVal) (h : Heap) : lim tab.get S 87 q 4 [x0, x1, x2, x3, x4, x5, x6, x7] h = b87_4 (orc S (lim tab.get S)) (lim tab.get S 87 q) q x0 x1 x2 x3 x4 x5 x6 x7 h := (lim_eqF k87 q 4 _ h).trans (e87_4 ..).symm
theorem w87_5 (S : Oracle) (q : Nat) (x0 x1 x2 x3 x4 x5 x6 x7 x8 : TVal) (h : Heap) : lim tab.get S 87 q 5 [x0, x1, x2, x3, x4, x5, x6, x7, x8] h = b87_5 (orc S (lim tab.get S)) (lim tab.get S 87 q) q x0 x1 x2 x3 x4 x5 x6 x7 x8 h := (lim_eqF k87 q 5 _ h).trans (e87_5 ..).symm
theorem w87_6 (S : Oracle) (q : Nat) (x0 x1 x2 x3 x4 x5 x6 x7 : TVal) (h : Heap) : lim tab.get S 87 q 6 [x0, x1, x2, x3, x4, x5, x6, x7] h = b87_6 (orc S (lim tab.get S)) (lim tab.get S 87 q) q x0 x1 x2 x3 x4 x5 x6 x7 h := (lim_eqF k87 q 6 _ h).trans (e87_6 ..).symm
theorem w87_7 (S : Oracle) (q : Nat) (x0 x1 x2 x3 x4 x5 x6 : TVal) (h : Heap) : lim tab.get S 87 q 7 [x0, x1, x2, x3, x4, x5, x6] h = b87_7 (orc S (lim tab.get S)) (lim tab.get S 87 q) q x0 x1 x2 x3 x4 x5 x6 h := (lim_eqF k87 q 7 _ h).trans (e87_7 ..).symm
theorem w87_8 (S : Oracle) (q : Nat) (x0 x1 x2 x3 x4 x5 : TVal) (h : Heap) : lim tab.get S 87 q 8 [x0, x1, x2, x3, x4, x5] h = b87_8 (orc S (lim tab.get S)) (lim tab.get S 87 q) q x0 x1 x2 x3 x4 x5 h := (lim_eqF k87 q 8 _ h).trans (e87_8 ..).symm
theorem k88 : tab.get 88 = some c88 := by kernel_rfl
theorem w88_0 (S : Oracle) (q : Nat) (x0 x1 : TVal) (h : Heap) : lim tab.get S 88 q 0 [x0, x1] h = b88_0 (orc S (lim tab.get S)) (lim tab.get S 88 q) q x0 x1 h := (lim_eqF k88 q 0 _ h).trans (e88_0 ..).symm
theorem k90 : tab.get 90 = some c90 := by kernel_rfl
theorem w90_0 (S : Oracle) (q : Nat) (x0 : TVal) (h : Heap) : lim tab.get S 90 q 0 [x0] h = b90_0 (orc S (lim tab.get S)) (lim tab.get S 90 q) q x0 h := (lim_eqF k90 q 0 _ h).trans (e90_0 ..).symm
theorem k91 : tab.get 91 = some c91 := by kernel_rfl
theorem w91_0 (S : Oracle) (q : Nat) (x0 x1 : TVal) (h : Heap) : lim tab.get S 91 q 0 [x0, x1] h = b91_0 (orc S (lim tab.get S)) (lim tab.get S 91 q) q x0 x1 h := (lim_eqF k91 q 0 _ h).trans (e91_0 ..).symm
theorem w91_1 (S : Oracle) (q : Nat) (x0 x1 x2 x3 x4 x5 x6 : TVal) (h : Heap) : lim tab.get S 91 q 1 [x0, x1, x2, x3, x4, x5, x6] h = b91_1 (orc S (lim tab.get S)) (lim tab.get S 91 q) q x0 x1 x2 x3 x4 x5 x6 h := (lim_eqF k91 q 1 _ h).trans (e91_1 ..).symm
theorem w91_2 (S : Oracle) (q : Nat) (x0 x1 x2 x3 x4 x5 : TVal) (h : Heap) : lim tab.get S 91 q 2 [x0, x1, x2, x3, x4, x5] h = b91_2 (orc S (lim tab.get S)) (lim tab.get S 91 q) q x0 x1 x2 x3 x4 x5 h := (lim_eqF k91 q 2 _ h).trans (e91_2 ..).symm
theorem w91_3 (S : Oracle) (q : Nat) (x0 x1 x2 x3 x4 x5 x6 : TVal) (h : Heap) : lim tab.get S 91 q 3 [x0, x1, x2, x3, x4, x5, x6] h = b91_3 (orc S (lim tab.get S)) (lim tab.get S 91 q) q x0 x1 x2 x3 x4 x5 x6 h := (lim_eqF k91 q 3 _ h).trans (e91_3 ..).symm
theorem k92 : tab.get 92 = some c92 := by kernel_rfl
theorem w92_0 (S : Oracle) (q : Nat) (x0 : TVal) (h : Heap) : lim tab.get S 92 q 0 [x0] h = b92_0 (orc S (lim tab.get S)) (lim tab.get S 92 q) q x0 h := (lim_eqF k92 q 0 _ h).trans (e92_0 ..).symm
theorem k93 : tab.get 93 = some c93 := by kernel_rfl
theorem w93_0 (S : Oracle) (q : Nat) (x0 : TVal) (h : Heap) : lim tab.get S 93 q 0 [x0] h = b93_0 (orc S (lim tab.get S)) (lim tab.get S 93 q) q x0 h := (lim_eqF k93 q 0 _ h).trans (e93_0 ..).symm
theorem w93_1 (S : Oracle) (q : Nat) (x0 x1 : TVal) (h : Heap) : lim tab.get S 93 q 1 [x0, x1] h = b93_1 (orc S (lim tab.get S)) (lim tab.get S 93 q) q x0 x1 h := (lim_eqF k93 q 1 _ h).trans (e93_1 ..).symm
theorem w93_2 (S : Oracle) (q : Nat) (x0 x1 : TVal) (h : Heap) : lim tab.get S 93 q 2 [x0, x1] h = b93_2 (orc S (lim tab.get S)) (lim tab.get S 93 q) q x0 x1 h := (lim_eqF k93 q 2 _ h).trans (e93_2 ..).symm
theorem w93_3 (S : Oracle) (q : Nat) (x0 x1 : TVal) (h : Heap) : lim tab.get S 93 q 3 [x0, x1] h = b93_3 (orc S (lim tab.get S)) (lim tab.get S 93 q) q x0 x1 h := (lim_eqF k93 q 3 _ h).trans (e93_3 ..).symm
theorem k94 : tab.get 94 = some c94 := by kernel_rfl
theorem w94_0 (S : Oracle) (q : Nat) (x0 : TVal) (h : Heap) : lim tab.get S 94 q 0 [x0] h = b94_0 (orc S (lim tab.get S)) (lim tab.get S 94 q) q x0 h := (lim_eqF k94 q 0 _ h).trans (e94_0 ..).symm
theorem k95 : tab.get 95 = some c95 := by kernel_rfl
theorem w95_0 (S : Oracle) (q : Nat) (x0 : TVal) (h : Heap) : lim tab.get S 95 q 0 [x0] h = b95_0 (orc S (lim tab.get S)) (lim tab.get S 95 q) q x0 h := (lim_eqF k95 q 0 _ h).trans (e95_0 ..).symm
theorem k96 : tab.get 96 = some c96 := by kernel_rfl
theorem w96_0 (S : Oracle) (q : Nat) (x0 : TVal) (h : Heap) : lim tab.get S 96 q 0 [x0] h = b96_0 (orc S (lim tab.get S)) (lim tab.get S 96 q) q x0 h := (lim_eqF k96 q 0 _ h).trans (e96_0 ..).symm
theorem k98 : tab.get 98 = some c98 := by kernel_rfl
theorem w98_0 (S : Oracle) (q : Nat) (x0 : TVal) (h : Heap) : lim tab.get S 98 q 0 [x0] h = b98_0 (orc S (lim tab.get S)) (lim tab.get S 98 q) q x0 h := (lim_eqF k98 q 0 _ h).trans (e98_0 ..).symm
theorem w98_1 (S : Oracle) (q : Nat) (x0 x1 x2 : TVal) (h : Heap) : lim tab.get S 98 q 1 [x0, x1, x2] h = b98_1 (orc S (lim tab.get S)) (lim tab.get S 98 q) q x0 x1 x2 h := (lim_eqF k98 q 1 _ h).trans (e98_1 ..).symm
theorem w98_2 (S : Oracle) (q : Nat) (x0 x1 : TVal) (h : Heap) : lim tab.get S 98 q 2 [x0, x1] h = b98_2 (orc S (lim tab.get S)) (lim tab.get S 98 q) q x0 x1 h := (lim_eqF k98 q 2 _ h).trans (e98_2 ..).symm
theorem w98_3 (S : Oracle) (q : Nat) (x0 x1 x2 x3 : TVal) (h : Heap) : lim tab.get S 98 q 3 [x0, x1, x2, x3] h = b98_3 (orc S (lim tab.get S)) (lim tab.get S 98 q) q x0 x1 x2 x3 h := (lim_eqF k98 q 3 _ h).trans (e98_3 ..).symm
theorem w98_4 (S : Oracle) (q : Nat) (x0 x1 x2 x3 : TVal) (h : Heap) : lim tab.get S 98 q 4 [x0, x1, x2, x3] h = b98_4 (orc S (lim tab.get S)) (lim tab.get S 98 q) q x0 x1 x2 x3 h := (lim_eqF k98 q 4 _ h).trans (e98_4 ..).symm
theorem k99 : tab.get 99 = some c99 := by kernel_rfl
theorem w99_0 (S : Oracle) (q : Nat) (x0 : TVal) (h : Heap) : lim tab.get S 99 q 0 [x0] h = b99_0 (orc S (lim tab.get S)) (lim tab.get S 99 q) q x0 h := (lim_eqF k99 q 0 _ h).trans (e99_0 ..).symm
theorem k100 : tab.get 100 = some c100 := by kernel_rfl
theorem w100_0 (S : Oracle) (q : Nat) (x0 : TVal) (h : Heap) : lim tab.get S 100 q 0 [x0] h = b100_0 (orc S (lim tab.get S)) (lim tab.get S 100 q) q x0 h := (lim_eqF k100 q 0 _ h).trans (e100_0 ..).symm
end Go.Proofs.YtpfbbgjefdbbmaaDoor.Ab
