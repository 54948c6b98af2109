/- The machine's equations, a piece at a time. Own work, printed by a program of our own; no condition. -/
import Derived.Test.YtlkejchbcchecaaDoorTabE
namespace Go.Proofs.YtlkejchbcchecaaDoor.Ab
open Go Go.AI
set_option linter.all false
set_option linter.unusedVariables false
set_option maxRecDepth 100000
theorem k11 : tab.get 11 = some c11 := by kernel_rfl
theorem w11_0 (S : Oracle) (q : Nat) (x0 x1 x2 x3 : TVal) (h : Heap) : lim tab.get S 11 q 0 [x0, x1, x2, x3] h = b11_0 (orc S (lim tab.get S)) (lim tab.get S 11 q) q x0 x1 x2 x3 h := (qAE k11 q 0 _ h).trans (e11_0 ..).symm
theorem w11_1 (S : Oracle) (q : Nat) (x0 x1 x2 x3 x4 x5 : TVal) (h : Heap) : lim tab.get S 11 q 1 [x0, x1, x2, x3, x4, x5] h = b11_1 (orc S (lim tab.get S)) (lim tab.get S 11 q) q x0 x1 x2 x3 x4 x5 h := (qAE k11 q 1 _ h).trans (e11_1 ..).symm
theorem w11_2 (S : Oracle) (q : Nat) (x0 x1 x2 x3 : TVal) (h : Heap) : lim tab.get S 11 q 2 [x0, x1, x2, x3] h = b11_2 (orc S (lim tab.get S)) (lim tab.get S 11 q) q x0 x1 x2 x3 h := (qAE k11 q 2 _ h).trans (e11_2 ..).symm
theorem w11_3 (S : Oracle) (q : Nat) (x0 x1 x2 x3 x4 : TVal) (h : Heap) : lim tab.get S 11 q 3 [x0, x1, x2, x3, x4] h = b11_3 (orc S (lim tab.get S)) (lim tab.get S 11 q) q x0 x1 x2 x3 x4 h := (qAE k11 q 3 _ h).trans (e11_3 ..).symm
theorem w11_4 (S : Oracle) (q : Nat) (x0 x1 x2 x3 x4 x5 x6 x7 x8 : TVal) (h : Heap) : lim tab.get S 11 q 4 [x0, x1, x2, x3, x4, x5, x6, x7, x8] h = b11_4 (orc S (lim tab.get S)) (lim tab.get S 11 q) q x0 x1 x2 x3 x4 x5 x6 x7 x8 h := (qAE k11 q 4 _ h).trans (e11_4 ..).symm
theorem w11_5 (S : Oracle) (q : Nat) (x0 x1 x2 x3 x4 x5 x6 x7 : TVal) (h : Heap) : lim tab.get S 11 q 5 [x0, x1, x2, x3, x4, x5, x6, x7] h = b11_5 (orc S (lim tab.get S)) (lim tab.get S 11 q) q x0 x1 x2 x3 x4 x5 x6 x7 h := (qAE k11 q 5 _ h).trans (e11_5 ..).symm
theorem w11_6 (S : Oracle) (q : Nat) (x0 x1 x2 x3 x4 x5 x6 x7 : TVal) (h : Heap) : lim tab.get S 11 q 6 [x0, x1, x2, x3, x4, x5, x6, x7] h = b11_6 (orc S (lim tab.get S)) (lim tab.get S 11 q) q x0 x1 x2 x3 x4 x5 x6 x7 h := (qAE k11 q 6 _ h).trans (e11_6 ..).symm
theorem w11_7 (S : Oracle) (q : Nat) (x0 x1 x2 x3 x4 : TVal) (h : Heap) : lim tab.get S 11 q 7 [x0, x1, x2, x3, x4] h = b11_7 (orc S (lim tab.get S)) (lim tab.get S 11 q) q x0 x1 x2 x3 x4 h := (qAE k11 q 7 _ h).trans (e11_7 ..).symm
theorem k21 : tab.get 21 = some c21 := by kernel_rfl
theorem w21_0 (S : Oracle) (q : Nat) (x0 : TVal) (h : Heap) : lim tab.get S 21 q 0 [x0] h = b21_0 (orc S (lim tab.get S)) (lim tab.get S 21 q) q x0 h := (qAE k21 q 0 _ h).trans (e21_0 ..).symm
theorem w21_1 (S : Oracle) (q : Nat) (x0 x1 x2 : TVal) (h : Heap) : lim tab.get S 21 q 1 [x0, x1, x2] h = b21_1 (orc S (lim tab.get S)) (lim tab.get S 21 q) q x0 x1 x2 h := (qAE k21 q 1 _ h).trans (e21_1 ..).symm
theorem w21_2 (S : Oracle) (q : Nat) (x0 x1 x2 : TVal) (h : Heap) : lim tab.get S 21 q 2 [x0, x1, x2] h = b21_2 (orc S (lim tab.get S)) (lim tab.get S 21 q) q x0 x1 x2 h := (qAE k21 q 2 _ h).trans (e21_2 ..).symm
theorem w21_3 (S : Oracle) (q : Nat) (x0 : TVal) (h : Heap) : lim tab.get S 21 q 3 [x0] h = b21_3 (orc S (lim tab.get S)) (lim tab.get S 21 q) q x0 h := (qAE k21 q 3 _ h).trans (e21_3 ..).symm
theorem w21_4 (S : Oracle) (q : Nat) (x0 : TVal) (h : Heap) : lim tab.get S 21 q 4 [x0] h = b21_4 (orc S (lim tab.get S)) (lim tab.get S 21 q) q x0 h := (qAE k21 q 4 _ h).trans (e21_4 ..).symm
theorem w21_5 (S : Oracle) (q : Nat) (x0 x1 x2 : TVal) (h : Heap) : lim tab.get S 21 q 5 [x0, x1, x2] h = b21_5 (orc S (lim tab.get S)) (lim tab.get S 21 q) q x0 x1 x2 h := (qAE k21 q 5 _ h).trans (e21_5 ..).symm
theorem w21_6 (S : Oracle) (q : Nat) (x0 x1 x2 : TVal) (h : Heap) : lim tab.get S 21 q 6 [x0, x1, x2] h = b21_6 (orc S (lim tab.get S)) (lim tab.get S 21 q) q x0 x1 x2 h := (qAE k21 q 6 _ h).trans (e21_6 ..).symm
theorem w21_7 (S : Oracle) (q : Nat) (x0 : TVal) (h : Heap) : lim tab.get S 21 q 7 [x0] h = b21_7 (orc S (lim tab.get S)) (lim tab.get S 21 q) q x0 h := (qAE k21 q 7 _ h).trans (e21_7 ..).symm
theorem k24 : tab.get 24 = some c24 := by kernel_rfl
theorem w24_0 (S : Oracle) (q : Nat) (x0 x1 : TVal) (h : Heap) : lim tab.get S 24 q 0 [x0, x1] h = b24_0 (orc S (lim tab.get S)) (lim tab.get S 24 q) q x0 x1 h := (qAE k24 q 0 _ h).trans (e24_0 ..).symm
theorem w24_1 (S : Oracle) (q : Nat) (x0 x1 x2 : TVal) (h : Heap) : lim tab.get S 24 q 1 [x0, x1, x2] h = b24_1 (orc S (lim tab.get S)) (lim tab.get S 24 q) q x0 x1 x2 h := (qAE k24 q 1 _ h).trans (e24_1 ..).symm
theorem w24_2 (S : Oracle) (q : Nat) (x0 x1 : TVal) (h : Heap) : lim tab.get S 24 q 2 [x0, x1] h = b24_2 (orc S (lim tab.get S)) (lim tab.get S 24 q) q x0 x1 h := (qAE k24 q 2 _ h).trans (e24_2 ..).symm
theorem w24_3 (S : Oracle) (q : Nat) (x0 x1 x2 : TVal) (h : Heap) : lim tab.get S 24 q 3 [x0, x1, x2] h = b24_3 (orc S (lim tab.get S)) (lim tab.get S 24 q) q x0 x1 x2 h := (qAE k24 q 3 _ h).trans (e24_3 ..).symm
theorem k29 : tab.get 29 = some c29 := by kernel_rfl
theorem w29_0 (S : Oracle) (q : Nat) (x0 x1 : TVal) (h : Heap) : lim tab.get S 29 q 0 [x0, x1] h = b29_0 (orc S (lim tab.get S)) (lim tab.get S 29 q) q x0 x1 h := (qAE k29 q 0 _ h).trans (e29_0 ..).symm
theorem w29_1 (S : Oracle) (q : Nat) (x0 x1 x2 : TVal) (h : Heap) : lim tab.get S 29 q 1 [x0, x1, x2] h = b29_1 (orc S (lim tab.get S)) (lim tab.get S 29 q) q x0 x1 x2 h := (qAE k29 q 1 _ h).trans (e29_1 ..).symm
theorem k31 : tab.get 31 = some c31 := by kernel_rfl
theorem w31_0 (S : Oracle) (q : Nat) (x0 x1 : TVal) (h : Heap) : lim tab.get S 31 q 0 [x0, x1] h = b31_0 (orc S (lim tab.get S)) (lim tab.get S 31 q) q x0 x1 h := (qAE k31 q 0 _ h).trans (e31_0 ..).symm
theorem w31_1 (S : Oracle) (q : Nat) (x0 x1 x2 x3 : TVal) (h : Heap) : lim tab.get S 31 q 1 [x0, x1, x2, x3] h = b31_1 (orc S (lim tab.get S)) (lim tab.get S 31 q) q x0 x1 x2 x3 h := (qAE k31 q 1 _ h).trans (e31_1 ..).symm
theorem w31_2 (S : Oracle) (q : Nat) (x0 x1 x2 x3 x4 : TVal) (h : Heap) : lim tab.get S 31 q 2 [x0, x1, x2, x3, x4] h = b31_2 (orc S (lim tab.get S)) (lim tab.get S 31 q) q x0 x1 x2 x3 x4 h := (qAE k31 q 2 _ h).trans (e31_2 ..).symm
theorem w31_3 (S : Oracle) (q : Nat) (x0 x1 x2 x3 x4 : TVal) (h : Heap) : lim tab.get S 31 q 3 [x0, x1, x2, x3, x4] h = b31_3 (orc S (lim tab.get S)) (lim tab.get S 31 q) q x0 x1 x2 x3 x4 h := (qAE k31 q 3 _ h).trans (e31_3 ..).symm
theorem w31_4 (S : Oracle) (q : Nat) (x0 x1 x2 x3 x4 x5 : TVal) (h : Heap) : lim tab.get S 31 q 4 [x0, x1, x2, x3, x4, x5] h = b31_4 (orc S (lim tab.get S)) (lim tab.get S 31 q) q x0 x1 x2 x3 x4 x5 h := (qAE k31 q 4 _ h).trans (e31_4 ..).symm
theorem w31_5 (S : Oracle) (q : Nat) (x0 x1 : TVal) (h : Heap) : lim tab.get S 31 q 5 [x0, x1] h = b31_5 (orc S (lim tab.get S)) (lim tab.get S 31 q) q x0 x1 h := (qAE k31 q 5 _ h).trans (e31_5 ..).symm
theorem k36 : tab.get 36 = some c36 := by kernel_rfl
theorem w36_0 (S : Oracle) (q : Nat) (h : Heap) : lim tab.get S 36 q 0 [] h = b36_0 (orc S (lim tab.get S)) (lim tab.get S 36 q) q  h := (qAE k36 q 0 _ h).trans (e36_0 ..).symm
theorem k37 : tab.get 37 = some c37 := by kernel_rfl
theorem w37_0 (S : Oracle) (q : Nat) (x0 x1 : TVal) (h : Heap) : lim tab.get S 37 q 0 [x0, x1] h = b37_0 (orc S (lim tab.get S)) (lim tab.get S 37 q) q x0 x1 h := (qAE k37 q 0 _ h).trans (e37_0 ..).symm
theorem k38 : tab.get 38 = some c38 := by kernel_rfl
theorem w38_0 (S : Oracle) (q : Nat) (x0 x1 : TVal) (h : Heap) : lim tab.get S 38 q 0 [x0, x1] h = b38_0 (orc S (lim tab.get S)) (lim tab.get S 38 q) q x0 x1 h := (qAE k38 q 0 _ h).trans (e38_0 ..).symm
theorem w38_1 (S : Oracle) (q : Nat) (x0 x1 x2 x3 x4 : TVal) (h : Heap) : lim tab.get S 38 q 1 [x0, x1, x2, x3, x4] h = b38_1 (orc S (lim tab.get S)) (lim tab.get S 38 q) q x0 x1 x2 x3 x4 h := (qAE k38 q 1 _ h).trans (e38_1 ..).symm
theorem k39 : tab.get 39 = some c39 := by kernel_rfl
theorem w39_0 (S : Oracle) (q : Nat) (x0 x1 : TVal) (h : Heap) : lim tab.get S 39 q 0 [x0, x1] h = b39_0 (orc S (lim tab.get S)) (lim tab.get S 39 q) q x0 x1 h := (qAE k39 q 0 _ h).trans (e39_0 ..).symm
theorem w39_1 (S : Oracle) (q : Nat) (x0 x1 x2 x3 : TVal) (h : Heap) : lim tab.get S 39 q 1 [x0, x1, x2, x3] h = b39_1 (orc S (lim tab.get S)) (lim tab.get S 39 q) q x0 x1 x2 x3 h := (qAE k39 q 1 _ h).trans (e39_1 ..).symm
theorem w39_2 (S : Oracle) (q : Nat) (x0 : TVal) (h : Heap) : lim tab.get S 39 q 2 [x0] h = b39_2 (orc S (lim tab.get S)) (lim tab.get S 39 q) q x0 h := (qAE k39 q 2 _ h).trans (e39_2 ..).symm
theorem k40 : tab.get 40 = some c40 := by kernel_rfl
theorem w40_0 (S : Oracle) (q : Nat) (h : Heap) : lim tab.get S 40 q 0 [] h = b40_0 (orc S (lim tab.get S)) (lim tab.get S 40 q) q  h := (qAE k40 q 0 _ h).trans (e40_0 ..).symm
theorem k41 : tab.get 41 = some c41 := by kernel_rfl
theorem w41_0 (S : Oracle) (q : Nat) (x0 x1 : TVal) (h : Heap) : lim tab.get S 41 q 0 [x0, x1] h = b41_0 (orc S (lim tab.get S)) (lim tab.get S 41 q) q x0 x1 h := (qAE k41 q 0 _ h).trans (e41_0 ..).symm
theorem w41_1 (S : Oracle) (q : Nat) (x0 x1 x2 x3 : TVal) (h : Heap) : lim tab.get S 41 q 1 [x0, x1, x2, x3] h = b41_1 (orc S (lim tab.get S)) (lim tab.get S 41 q) q x0 x1 x2 x3 h := (qAE k41 q 1 _ h).trans (e41_1 ..).symm
theorem w41_2 (S : Oracle) (q : Nat) (x0 x1 x2 x3 x4 x5 : TVal) (h : Heap) : lim tab.get S 41 q 2 [x0, x1, x2, x3, x4, x5] h = b41_2 (orc S (lim tab.get S)) (lim tab.get S 41 q) q x0 x1 x2 x3 x4 x5 h := (qAE k41 q 2 _ h).trans (e41_2 ..).symm
theorem w41_3 (S : Oracle) (q : Nat) (x0 x1 x2 x3 x4 : TVal) (h : Heap) : lim tab.get S 41 q 3 [x0, x1, x2, x3, x4] h = b41_3 (orc S (lim tab.get S)) (lim tab.get S 41 q) q x0 x1 x2 x3 x4 h := (qAE k41 q 3 _ h).trans (e41_3 ..).symm
theorem k52 : tab.get 52 = some c52 := by kernel_rfl
theorem w52_0 (S : Oracle) (q : Nat) (x0 : TVal) (h : Heap) : lim tab.get S 52 q 0 [x0] h = b52_0 (orc S (lim tab.get S)) (lim tab.get S 52 q) q x0 h := (qAE k52 q 0 _ h).trans (e52_0 ..).symm
theorem w52_1 (S : Oracle) (q : Nat) (x0 : TVal) (h : Heap) : lim tab.get S 52 q 1 [x0] h = b52_1 (orc S (lim tab.get S)) (lim tab.get S 52 q) q x0 h := (qAE k52 q 1 _ h).trans (e52_1 ..).symm
theorem k70 : tab.get 70 = some c70 := by kernel_rfl
theorem w70_0 (S : Oracle) (q : Nat) (x0 : TVal) (h : Heap) : lim tab.get S 70 q 0 [x0] h = b70_0 (orc S (lim tab.get S)) (lim tab.get S 70 q) q x0 h := (qAE k70 q 0 _ h).trans (e70_0 ..).symm
theorem w70_1 (S : Oracle) (q : Nat) (x0 x1 x2 : TVal) (h : Heap) : lim tab.get S 70 q 1 [x0, x1, x2] h = b70_1 (orc S (lim tab.get S)) (lim tab.get S 70 q) q x0 x1 x2 h := (qAE k70 q 1 _ h).trans (e70_1 ..).symm
theorem w70_2 (S : Oracle) (q : Nat) (x0 x1 x2 : TVal) (h : Heap) : lim tab.get S 70 q 2 [x0, x1, x2] h = b70_2 (orc S (lim tab.get S)) (lim tab.get S 70 q) q x0 x1 x2 h := (qAE k70 q 2 _ h).trans (e70_2 ..).symm
theorem w70_3 (S : Oracle) (q : Nat) (x0 x1 x2 x3 : TVal) (h : Heap) : lim tab.get S 70 q 3 [x0, x1, x2, x3] h = b70_3 (orc S (lim tab.get S)) (lim tab.get S 70 q) q x0 x1 x2 x3 h := (qAE k70 q 3 _ h).trans (e70_3 ..).symm
theorem w70_4 (S : Oracle) (q : Nat) (x0 x1 x2 x3 : TVal) (h : Heap) : lim tab.get S 70 q 4 [x0, x1, x2, x3] h = b70_4 (orc S (lim tab.get S)) (lim tab.get S 70 q) q x0 x1 x2 x3 h := (qAE k70 q 4 _ h).trans (e70_4 ..).symm
theorem w70_5 (S : Oracle) (q : Nat) (x0 x1 x2 : TVal) (h : Heap) : lim tab.get S 70 q 5 [x0, x1, x2] h = b70_5 (orc S (lim tab.get S)) (lim tab.get S 70 q) q x0 x1 x2 h := (qAE k70 q 5 _ h).trans (e70_5 ..).symm
theorem k79 : tab.get 79 = some c79 := by kernel_rfl
theorem w79_0 (S : Oracle) (q : Nat) (x0 x1 : TVal) (h : Heap) : lim tab.get S 79 q 0 [x0, x1] h = b79_0 (orc S (lim tab.get S)) (lim tab.get S 79 q) q x0 x1 h := (qAE k79 q 0 _ h).trans (e79_0 ..).symm
theorem k80 : tab.get 80 = some c80 := by kernel_rfl
theorem w80_0 (S : Oracle) (q : Nat) (x0 : TVal) (h : Heap) : lim tab.get S 80 q 0 [x0] h = b80_0 (orc S (lim tab.get S)) (lim tab.get S 80 q) q x0 h := (qAE k80 q 0 _ h).trans (e80_0 ..).symm
theorem w80_1 (S : Oracle) (q : Nat) (x0 x1 x2 : TVal) (h : Heap) : lim tab.get S 80 q 1 [x0, x1, x2] h = b80_1 (orc S (lim tab.get S)) (lim tab.get S 80 q) q x0 x1 x2 h := (qAE k80 q 1 _ h).trans (e80_1 ..).symm
theorem w80_2 (S : Oracle) (q : Nat) (x0 x1 x2 : TVal) (h : Heap) : lim tab.get S 80 q 2 [x0, x1, x2] h = b80_2 (orc S (lim tab.get S)) (lim tab.get S 80 q) q x0 x1 x2 h := (qAE k80 q 2 _ h).trans (e80_2 ..).symm
theorem k81 : tab.get 81 = some c81 := by kernel_rfl
theorem w81_0 (S : Oracle) (q : Nat) (x0 x1 x2 : TVal) (h : Heap) : lim tab.get S 81 q 0 [x0, x1, x2] h = b81_0 (orc S (lim tab.get S)) (lim tab.get S 81 q) q x0 x1 x2 h := (qAE k81 q 0 _ h).trans (e81_0 ..).symm
theorem w81_1 (S : Oracle) (q : Nat) (x0 x1 x2 x3 x4 : TVal) (h : Heap) : lim tab.get S 81 q 1 [x0, x1, x2, x3, x4] h = b81_1 (orc S (lim tab.get S)) (lim tab.get S 81 q) q x0 x1 x2 x3 x4 h := (qAE k81 q 1 _ h).trans (e81_1 ..).symm
theorem w81_2 (S : Oracle) (q : Nat) (x0 x1 x2 x3 x4 : TVal) (h : Heap) : lim tab.get S 81 q 2 [x0, x1, x2, x3, x4] h = b81_2 (orc S (lim tab.get S)) (lim tab.get S 81 q) q x0 x1 x2 x3 x4 h := (qAE k81 q 2 _ h).trans (e81_2 ..).symm
theorem k84 : tab.get 84 = some c84 := by kernel_rfl
theorem w84_0 (S : Oracle) (q : Nat) (x0 : TVal) (h : Heap) : lim tab.get S 84 q 0 [x0] h = b84_0 (orc S (lim tab.get S)) (lim tab.get S 84 q) q x0 h := (qAE k84 q 0 _ h).trans (e84_0 ..).symm
theorem k85 : tab.get 85 = some c85 := by kernel_rfl
theorem w85_0 (S : Oracle) (q : Nat) (x0 : TVal) (h : Heap) : lim tab.get S 85 q 0 [x0] h = b85_0 (orc S (lim tab.get S)) (lim tab.get S 85 q) q x0 h := (qAE k85 q 0 _ h).trans (e85_0 ..).symm
theorem w85_1 (S : Oracle) (q : Nat) (x0 x1 : TVal) (h : Heap) : lim tab.get S 85 q 1 [x0, x1] h = b85_1 (orc S (lim tab.get S)) (lim tab.get S 85 q) q x0 x1 h := (qAE k85 q 1 _ h).trans (e85_1 ..).symm
theorem w85_2 (S : Oracle) (q : Nat) (x0 : TVal) (h : Heap) : lim tab.get S 85 q 2 [x0] h = b85_2 (orc S (lim tab.get S)) (lim tab.get S 85 q) q x0 h := (qAE k85 q 2 _ h).trans (e85_2 ..).symm
theorem k86 : tab.get 86 = some c86 := by kernel_rfl
theorem w86_0 (S : Oracle) (q : Nat) (x0 : TVal) (h : Heap) : lim tab.get S 86 q 0 [x0] h = b86_0 (orc S (lim tab.get S)) (lim tab.get S 86 q) q x0 h := (qAE k86 q 0 _ h).trans (e86_0 ..).symm
theorem w86_1 (S : Oracle) (q : Nat) (x0 x1 x2 : TVal) (h : Heap) : lim tab.get S 86 q 1 [x0, x1, x2] h = b86_1 (orc S (lim tab.get S)) (lim tab.get S 86 q) q x0 x1 x2 h := (qAE k86 q 1 _ h).trans (e86_1 ..).symm
theorem k87 : tab.get 87 = some c87 := by kernel_rfl
theorem w87_0 (S : Oracle) (q : Nat) (x0 x1 : TVal) (h : Heap) : lim tab.get S 87 q 0 [x0, x1] h = b87_0 (orc S (lim tab.get S)) (lim tab.get S 87 q) q x0 x1 h := (qAE k87 q 0 _ h).trans (e87_0 ..).symm
theorem k88 : tab.get 88 = some c88 := by kernel_rfl
theorem w88_0 (S : Oracle) (q : Nat) (x0 : TVal) (h : Heap) : lim tab.get S 88 q 0 [x0] h = b88_0 (orc S (lim tab.get S)) (lim tab.get S 88 q) q x0 h := (qAE k88 q 0 _ h).trans (e88_0 ..).symm
theorem k89 : tab.get 89 = some c89 := by kernel_rfl
theorem w89_0 (S : Oracle) (q : Nat) (x0 : TVal) (h : Heap) : lim tab.get S 89 q 0 [x0] h = b89_0 (orc S (lim tab.get S)) (lim tab.get S 89 q) q x0 h := (qAE k89 q 0 _ h).trans (e89_0 ..).symm
theorem k90 : tab.get 90 = some c90 := by kernel_rfl
theorem w90_0 (S : Oracle) (q : Nat) (x0 : TVal) (h : Heap) : lim tab.get S 90 q 0 [x0] h = b90_0 (orc S (lim tab.get S)) (lim tab.get S 90 q) q x0 h := (qAE k90 q 0 _ h).trans (e90_0 ..).symm
theorem k91 : tab.get 91 = some c91 := by kernel_rfl
theorem w91_0 (S : Oracle) (q : Nat) (x0 : TVal) (h : Heap) : lim tab.get S 91 q 0 [x0] h = b91_0 (orc S (lim tab.get S)) (lim tab.get S 91 q) q x0 h := (qAE k91 q 0 _ h).trans (e91_0 ..).symm
theorem k92 : tab.get 92 = some c92 := by kernel_rfl
theorem w92_0 (S : Oracle) (q : Nat) (x0 x1 : TVal) (h : Heap) : lim tab.get S 92 q 0 [x0, x1] h = b92_0 (orc S (lim tab.get S)) (lim tab.get S 92 q) q x0 x1 h := (qAE k92 q 0 _ h).trans (e92_0 ..).symm
theorem w92_1 (S : Oracle) (q : Nat) (x0 x1 x2 x3 : TVal) (h : Heap) : lim tab.get S 92 q 1 [x0, x1, x2, x3] h = b92_1 (orc S (lim tab.get S)) (lim tab.get S 92 q) q x0 x1 x2 x3 h := (qAE k92 q 1 _ h).trans (e92_1 ..).symm
theorem k93 : tab.get 93 = some c93 := by kernel_rfl
theorem w93_0 (S : Oracle) (q : Nat) (x0 x1 : TVal) (h : Heap) : lim tab.get S 93 q 0 [x0, x1] h = b93_0 (orc S (lim tab.get S)) (lim tab.get S 93 q) q x0 x1 h := (qAE k93 q 0 _ h).trans (e93_0 ..).symm
theorem k94 : tab.get 94 = some c94 := by kernel_rfl
theorem w94_0 (S : Oracle) (q : Nat) (x0 : TVal) (h : Heap) : lim tab.get S 94 q 0 [x0] h = b94_0 (orc S (lim tab.get S)) (lim tab.get S 94 q) q x0 h := (qAE k94 q 0 _ h).trans (e94_0 ..).symm
theorem k95 : tab.get 95 = some c95 := by kernel_rfl
theorem w95_0 (S : Oracle) (q : Nat) (x0 : TVal) (h : Heap) : lim tab.get S 95 q 0 [x0] h = b95_0 (orc S (lim tab.get S)) (lim tab.get S 95 q) q x0 h := (qAE k95 q 0 _ h).trans (e95_0 ..).symm
theorem k96 : tab.get 96 = some c96 := by kernel_rfl
theorem w96_0 (S : Oracle) (q : Nat) (x0 x1 : TVal) (h : Heap) : lim tab.get S 96 q 0 [x0, x1] h = b96_0 (orc S (lim tab.get S)) (lim tab.get S 96 q) q x0 x1 h := (qAE k96 q 0 _ h).trans (e96_0 ..).symm
theorem k97 : tab.get 97 = some c97 := by kernel_rfl
theorem w97_0 (S : Oracle) (q : Nat) (x0 : TVal) (h : Heap) : lim tab.get S 97 q 0 [x0] h = b97_0 (orc S (lim tab.get S)) (lim tab.get S 97 q) q x0 h := (qAE k97 q 0 _ h).trans (e97_0 ..).symm
theorem k98 : tab.get 98 = some c98 := by kernel_rfl
theorem w98_0 (S : Oracle) (q : Nat) (x0 : TVal) (h : Heap) : lim tab.get S 98 q 0 [x0] h = b98_0 (orc S (lim tab.get S)) (lim tab.get S 98 q) q x0 h := (qAE k98 q 0 _ h).trans (e98_0 ..).symm
theorem w98_1 (S : Oracle) (q : Nat) (x0 : TVal) (h : Heap) : lim tab.get S 98 q 1 [x0] h = b98_1 (orc S (lim tab.get S)) (lim tab.get S 98 q) q x0 h := (qAE k98 q 1 _ h).trans (e98_1 ..).symm
theorem k99 : tab.get 99 = some c99 := by kernel_rfl
theorem w99_0 (S : Oracle) (q : Nat) (x0 : TVal) (h : Heap) : lim tab.get S 99 q 0 [x0] h = b99_0 (orc S (lim tab.get S)) (lim tab.get S 99 q) q x0 h := (qAE k99 q 0 _ h).trans (e99_0 ..).symm
theorem w99_1 (S : Oracle) (q : Nat) (x0 x1 x2 : TVal) (h : Heap) : lim tab.get S 99 q 1 [x0, x1, x2] h = b99_1 (orc S (lim tab.get S)) (lim tab.get S 99 q) q x0 x1 x2 h := (qAE k99 q 1 _ h).trans (e99_1 ..).symm
theorem k100 : tab.get 100 = some c100 := by kernel_rfl
theorem w100_0 (S : Oracle) (q : Nat) (x0 : TVal) (h : Heap) : lim tab.get S 100 q 0 [x0] h = b100_0 (orc S (lim tab.get S)) (lim tab.get S 100 q) q x0 h := (qAE k100 q 0 _ h).trans (e100_0 ..).symm
theorem k101 : tab.get 101 = some c101 := by kernel_rfl
theorem w101_0 (S : Oracle) (q : Nat) (x0 x1 x2 : TVal) (h : Heap) : lim tab.get S 101 q 0 [x0, x1, x2] h = b101_0 (orc S (lim tab.get S)) (lim tab.get S 101 q) q x0 x1 x2 h := (qAE k101 q 0 _ h).trans (e101_0 ..).symm
theorem k102 : tab.get 102 = some c102 := by kernel_rfl
theorem w102_0 (S : Oracle) (q : Nat) (x0 : TVal) (h : Heap) : lim tab.get S 102 q 0 [x0] h = b102_0 (orc S (lim tab.get S)) (lim tab.get S 102 q) q x0 h := (qAE k102 q 0 _ h).trans (e102_0 ..).symm
theorem k103 : tab.get 103 = some c103 := by kernel_rfl
theorem w103_0 (S : Oracle) (q : Nat) (x0 x1 x2 : TVal) (h : Heap) : lim tab.get S 103 q 0 [x0, x1, x2] h = b103_0 (orc S (lim tab.get S)) (lim tab.get S 103 q) q x0 x1 x2 h := (qAE k103 q 0 _ h).trans (e103_0 ..).symm
theorem k104 : tab.get 104 = some c104 := by kernel_rfl
theorem w104_0 (S : Oracle) (q : Nat) (x0 x1 x2 : TVal) (h : Heap) : lim tab.get S 104 q 0 [x0, x1, x2] h = b104_0 (orc S (lim tab.get S)) (lim tab.get S 104 q) q x0 x1 x2 h := (qAE k104 q 0 _ h).trans (e104_0 ..).symm
theorem k105 : tab.get 105 = some c105 := by kernel_rfl
theorem w105_0 (S : Oracle) (q : Nat) (x0 : TVal) (h : Heap) : lim tab.get S 105 q 0 [x0] h = b105_0 (orc S (lim tab.get S)) (lim tab.get S 105 q) q x0 h := (qAE k105 q 0 _ h).trans (e105_0 ..).symm
theorem k131 : tab.get 131 = some c131 := by kernel_rfl
theorem w131_0 (S : Oracle) (q : Nat) (x0 x1 : TVal) (h : Heap) : lim tab.get S 131 q 0 [x0, x1] h = b131_0 (orc S (lim tab.get S)) (lim tab.get S 131 q) q x0 x1 h := (qAE k131 q 0 _ h).trans (e131_0 ..).symm
theorem w131_1 (S : Oracle) (q : Nat) (x0 x1 x2 x3 : TVal) (h : Heap) : lim tab.get S 131 q 1 [x0, x1, x2, x3] h = b131_1 (orc S (lim tab.get S)) (lim tab.get S 131 q) q x0 x1 x2 x3 h := (qAE k131 q 1 _ h).trans (e131_1 ..).symm
theorem k132 : tab.get 132 = some c132 := by kernel_rfl
theorem w132_0 (S : Oracle) (q : Nat) (x0 : TVal) (h : Heap) : lim tab.get S 132 q 0 [x0] h = b132_0 (orc S (lim tab.get S)) (lim tab.get S 132 q) q x0 h := (qAE k132 q 0 _ h).trans (e132_0 ..).symm
theorem k133 : tab.get 133 = some c133 := by kernel_rfl
theorem w133_0 (S : Oracle) (q : Nat) (x0 : TVal) (h : Heap) : lim tab.get S 133 q 0 [x0] h = b133_0 (orc S (lim tab.get S)) (lim tab.get S 133 q) q x0 h := (qAE k133 q 0 _ h).trans (e133_0 ..).symm
theorem w133_1 (S : Oracle) (q : Nat) (x0 x1 : TVal) (h : Heap) : lim tab.get S 133 q 1 [x0, x1] h = b133_1 (orc S (lim tab.get S)) (lim tab.get S 133 q) q x0 x1 h := (qAE k133 q 1 _ h).trans (e133_1 ..).symm
theorem w133_2 (S : Oracle) (q : Nat) (x0 x1 x2 : TVal) (h : Heap) : lim tab.get S 133 q 2 [x0, x1, x2] h = b133_2 (orc S (lim tab.get S)) (lim tab.get S 133 q) q x0 x1 x2 h := (qAE k133 q 2 _ h).trans (e133_2 ..).symm
theorem w133_3 (S : Oracle) (q : Nat) (x0 : TVal) (h : Heap) : lim tab.get S 133 q 3 [x0] h = b133_3 (orc S (lim tab.get S)) (lim tab.get S 133 q) q x0 h := (qAE k133 q 3 _ h).trans (e133_3 ..).symm
theorem k148 : tab.get 148 = some c148 := by kernel_rfl
theorem w148_0 (S : Oracle) (q : Nat) (x0 : TVal) (h : Heap) : lim tab.get S 148 q 0 [x0] h = b148_0 (orc S (lim tab.get S)) (lim tab.get S 148 q) q x0 h := (qAE k148 q 0 _ h).trans (e148_0 ..).symm
theorem k149 : tab.get 149 = some c149 := by kernel_rfl
theorem w149_0 (S : Oracle) (q : Nat) (x0 x1 : TVal) (h : Heap) : lim tab.get S 149 q 0 [x0, x1] h = b149_0 (orc S (lim tab.get S)) (lim tab.get S 149 q) q x0 x1 h := (qAE k149 q 0 _ h).trans (e149_0 ..).symm
theorem k150 : tab.get 150 = some c150 := by kernel_rfl
theorem w150_0 (S : Oracle) (q : Nat) (x0 : TVal) (h : Heap) : lim tab.get S 150 q 0 [x0] h = b150_0 (orc S (lim tab.get S)) (lim tab.get S 150 q) q x0 h := (qAE k150 q 0 _ h).trans (e150_0 ..).symm
theorem k151 : tab.get 151 = some c151 := by kernel_rfl
theorem w151_0 (S : Oracle) (q : Nat) (x0 x1 : TVal) (h : Heap) : lim tab.get S 151 q 0 [x0, x1] h = b151_0 (orc S (lim tab.get S)) (lim tab.get S 151 q) q x0 x1 h := (qAE k151 q 0 _ h).trans (e151_0 ..).symm
theorem k152 : tab.get 152 = some c152 := by kernel_rfl
theorem w152_0 (S : Oracle) (q : Nat) (x0 : TVal) (h : Heap) : lim tab.get S 152 q 0 [x0] h = b152_0 (orc S (lim tab.get S)) (lim tab.get S 152 q) q x0 h := (qAE k152 q 0 _ h).trans (e152_0 ..).symm
theorem k153 : tab.get 153 = some c153 := by kernel_rfl
theorem w153_0 (S : Oracle) (q : Nat) (x0 : TVal) (h : Heap) : lim tab.get S 153 q 0 [x0] h = b153_0 (orc S (lim tab.get S)) (lim tab.get S 153 q) q x0 h := (qAE k153 q 0 _ h).trans (e153_0 ..).symm
theorem k154 : tab.get 154 = some c154 := by kernel_rfl
theorem w154_0 (S : Oracle) (q : Nat) (x0 x1 : TVal) (h : Heap) : lim tab.get S 154 q 0 [x0, x1] h = b154_0 (orc S (lim tab.get S)) (lim tab.get S 154 q) q x0 x1 h := (qAE k154 q 0 _ h).trans (e154_0 ..).symm
theorem k155 : tab.get 155 = some c155 := by kernel_rfl
theorem w155_0 (S : Oracle) (q : Nat) (x0 : TVal) (h : Heap) : lim tab.get S 155 q 0 [x0] h = b155_0 (orc S (lim tab.get S)) (lim tab.get S 155 q) q x0 h := (qAE k155 q 0 _ h).trans (e155_0 ..).symm
theorem k156 : tab.get 156 = some c156 := by kernel_rfl
theorem w156_0 (S : Oracle) (q : Nat) (x0 : TVal) (h : Heap) : lim tab.get S 156 q 0 [x0] h = b156_0 (orc S (lim tab.get S)) (lim tab.get S 156 q) q x0 h := (qAE k156 q 0 _ h).trans (e156_0 ..).symm
theorem w156_1 (S : Oracle) (q : Nat) (x0 x1 x2 x3 x4 : TVal) (h : Heap) : lim tab.get S 156 q 1 [x0, x1, x2, x3, x4] h = b156_1 (orc S (lim tab.get S)) (lim tab.get S 156 q) q x0 x1 x2 x3 x4 h := (qAE k156 q 1 _ h).trans (e156_1 ..).symm
theorem w156_2 (S : Oracle) (q : Nat) (x0 x1 : TVal) (h : Heap) : lim tab.get S 156 q 2 [x0, x1] h = b156_2 (orc S (lim tab.get S)) (lim tab.get S 156 q) q x0 x1 h := (qAE k156 q 2 _ h).trans (e156_2 ..).symm
theorem k157 : tab.get 157 = some c157 := by kernel_rfl
theorem w157_0 (S : Oracle) (q : Nat) (x0 : TVal) (h : Heap) : lim tab.get S 157 q 0 [x0] h = b157_0 (orc S (lim tab.get S)) (lim tab.get S 157 q) q x0 h := (qAE k157 q 0 _ h).trans (e157_0 ..).symm
theorem k158 : tab.get 158 = some c158 := by kernel_rfl
theorem w158_0 (S : Oracle) (q : Nat) (x0 x1 : TVal) (h : Heap) : lim tab.get S 158 q 0 [x0, x1] h = b158_0 (orc S (lim tab.get S)) (lim tab.get S 158 q) q x0 x1 h := (qAE k158 q 0 _ h).trans (e158_0 ..).symm
theorem k159 : tab.get 159 = some c159 := by kernel_rfl
theorem w159_0 (S : Oracle) (q : Nat) (x0 x1 x2 : TVal) (h : Heap) : lim tab.get S 159 q 0 [x0, x1, x2] h = b159_0 (orc S (lim tab.get S)) (lim tab.get S 159 q) q x0 x1 x2 h := (qAE k159 q 0 _ h).trans (e159_0 ..).symm
theorem k160 : tab.get 160 = some c160 := by kernel_rfl
theorem w160_0 (S : Oracle) (q : Nat) (x0 : TVal) (h : Heap) : lim tab.get S 160 q 0 [x0] h = b160_0 (orc S (lim tab.get S)) (lim tab.get S 160 q) q x0 h := (qAE k160 q 0 _ h).trans (e160_0 ..).symm
theorem k161 : tab.get 161 = some c161 := by kernel_rfl
theorem w161_0 (S : Oracle) (q : Nat) (x0 x1 x2 : TVal) (h : Heap) : lim tab.get S 161 q 0 [x0, x1, x2] h = b161_0 (orc S (lim tab.get S)) (lim tab.get S 161 q) q x0 x1 x2 h := (qAE k161 q 0 _ h).trans (e161_0 ..).symm
theorem k168 : tab.get 168 = some c168 := by kernel_rfl
theorem w168_0 (S : Oracle) (q : Nat) (x0 : TVal) (h : Heap) : lim tab.get S 168 q 0 [x0] h = b168_0 (orc S (lim tab.get S)) (lim tab.get S 168 q) q x0 h := (qAE k168 q 0 _ h).trans (e168_0 ..).symm
theorem k174 : tab.get 174 = some c174 := by kernel_rfl
theorem w174_0 (S : Oracle) (q : Nat) (x0 : TVal) (h : Heap) : lim tab.get S 174 q 0 [x0] h = b174_0 (orc S (lim tab.get S)) (lim tab.get S 174 q) q x0 h := (qAE k174 q 0 _ h).trans (e174_0 ..).symm
theorem k175 : tab.get 175 = some c175 := by kernel_rfl
theorem w175_0 (S : Oracle) (q : Nat) (x0 : TVal) (h : Heap) : lim tab.get S 175 q 0 [x0] h = b175_0 (orc S (lim tab.get S)) (lim tab.get S 175 q) q x0 h := (qAE k175 q 0 _ h).trans (e175_0 ..).symm
theorem k176 : tab.get 176 = some c176 := by kernel_rfl
theorem w176_0 (S : Oracle) (q : Nat) (x0 x1 : TVal) (h : Heap) : lim tab.get S 176 q 0 [x0, x1] h = b176_0 (orc S (lim tab.get S)) (lim tab.get S 176 q) q x0 x1 h := (qAE k176 q 0 _ h).trans (e176_0 ..).symm
theorem k177 : tab.get 177 = some c177 := by kernel_rfl
theorem w177_0 (S : Oracle) (q : Nat) (x0 x1 : TVal) (h : Heap) : lim tab.get S 177 q 0 [x0, x1] h = b177_0 (orc S (lim tab.get S)) (lim tab.get S 177 q) q x0 x1 h := (qAE k177 q 0 _ h).trans (e177_0 ..).symm
theorem w177_1 (S : Oracle) (q : Nat) (x0 x1 x2 x3 : TVal) (h : Heap) : lim tab.get S 177 q 1 [x0, x1, x2, x3] h = b177_1 (orc S (lim tab.get S)) (lim tab.get S 177 q) q x0 x1 x2 x3 h := (qAE k177 q 1 _ h).trans (e177_1 ..).symm
theorem k178 : tab.get 178 = some c178 := by kernel_rfl
theorem w178_0 (S : Oracle) (q : Nat) (x0 x1 : TVal) (h : Heap) : lim tab.get S 178 q 0 [x0, x1] h = b178_0 (orc S (lim tab.get S)) (lim tab.get S 178 q) q x0 x1 h := (qAE k178 q 0 _ h).trans (e178_0 ..).symm
theorem w178_1 (S : Oracle) (q : Nat) (x0 x1 x2 : TVal) (h : Heap) : lim tab.get S 178 q 1 [x0, x1, x2] h = b178_1 (orc S (lim tab.get S)) (lim tab.get S 178 q) q x0 x1 x2 h := (qAE k178 q 1 _ h).trans (e178_1 ..).symm
theorem k179 : tab.get 179 = some c179 := by kernel_rfl
theorem w179_0 (S : Oracle) (q : Nat) (x0 : TVal) (h : Heap) : lim tab.get S 179 q 0 [x0] h = b179_0 (orc S (lim tab.get S)) (lim tab.get S 179 q) q x0 h := (qAE k179 q 0 _ h).trans (e179_0 ..).symm
theorem k180 : tab.get 180 = some c180 := by kernel_rfl
theorem w180_0 (S : Oracle) (q : Nat) (x0 x1 : TVal) (h : Heap) : lim tab.get S 180 q 0 [x0, x1] h = b180_0 (orc S (lim tab.get S)) (lim tab.get S 180 q) q x0 x1 h := (qAE k180 q 0 _ h).trans (e180_0 ..).symm
theorem w180_1 (S : Oracle) (q : Nat) (x0 x1 x2 : TVal) (h : Heap) : lim tab.get S 180 q 1 [x0, x1, x2] h = b180_1 (orc S (lim tab.get S)) (lim tab.get S 180 q) q x0 x1 x2 h := (qAE k180 q 1 _ h).trans (e180_1 ..).symm
theorem w180_2 (S : Oracle) (q : Nat) (x0 : TVal) (h : Heap) : lim tab.get S 180 q 2 [x0] h = b180_2 (orc S (lim tab.get S)) (lim tab.get S 180 q) q x0 h := (qAE k180 q 2 _ h).trans (e180_2 ..).symm
theorem k181 : tab.get 181 = some c181 := by kernel_rfl
theorem w181_0 (S : Oracle) (q : Nat) (x0 : TVal) (h : Heap) : lim tab.get S 181 q 0 [x0] h = b181_0 (orc S (lim tab.get S)) (lim tab.get S 181 q) q x0 h := (qAE k181 q 0 _ h).trans (e181_0 ..).symm
theorem k182 : tab.get 182 = some c182 := by kernel_rfl
theorem w182_0 (S : Oracle) (q : Nat) (x0 : TVal) (h : Heap) : lim tab.get S 182 q 0 [x0] h = b182_0 (orc S (lim tab.get S)) (lim tab.get S 182 q) q x0 h := (qAE k182 q 0 _ h).trans (e182_0 ..).symm
theorem k184 : tab.get 184 = some c184 := by kernel_rfl
theorem w184_0 (S : Oracle) (q : Nat) (x0 : TVal) (h : Heap) : lim tab.get S 184 q 0 [x0] h = b184_0 (orc S (lim tab.get S)) (lim tab.get S 184 q) q x0 h := (qAE k184 q 0 _ h).trans (e184_0 ..).symm
theorem k185 : tab.get 185 = some c185 := by kernel_rfl
theorem w185_0 (S : Oracle) (q : Nat) (x0 : TVal) (h : Heap) : lim tab.get S 185 q 0 [x0] h = b185_0 (orc S (lim tab.get S)) (lim tab.get S 185 q) q x0 h := (qAE k185 q 0 _ h).trans (e185_0 ..).symm
theorem k186 : tab.get 186 = some c186 := by kernel_rfl
theorem w186_0 (S : Oracle) (q : Nat) (x0 x1 : TVal) (h : Heap) : lim tab.get S 186 q 0 [x0, x1] h = b186_0 (orc S (lim tab.get S)) (lim tab.get S 186 q) q x0 x1 h := (qAE k186 q 0 _ h).trans (e186_0 ..).symm
theorem w186_1 (S : Oracle) (q : Nat) (x0 x1 x2 : TVal) (h : Heap) : lim tab.get S 186 q 1 [x0, x1, x2] h = b186_1 (orc S (lim tab.get S)) (lim tab.get S 186 q) q x0 x1 x2 h := (qAE k186 q 1 _ h).trans (e186_1 ..).symm
theorem w186_2 (S : Oracle) (q : Nat) (x0 x1 x2 : TVal) (h : Heap) : lim tab.get S 186 q 2 [x0, x1, x2] h = b186_2 (orc S (lim tab.get S)) (lim tab.get S 186 q) q x0 x1 x2 h := (qAE k186 q 2 _ h).trans (e186_2 ..).symm
theorem w186_3 (S : Oracle) (q : Nat) (x0 x1 x2 : TVal) (h : Heap) : lim tab.get S 186 q 3 [x0, x1, x2] h = b186_3 (orc S (lim tab.get S)) (lim tab.get S 186 q) q x0 x1 x2 h := (qAE k186 q 3 _ h).trans (e186_3 ..).symm
theorem w186_4 (S : Oracle) (q : Nat) (x0 x1 x2 : TVal) (h : Heap) : lim tab.get S 186 q 4 [x0, x1, x2] h = b186_4 (orc S (lim tab.get S)) (lim tab.get S 186 q) q x0 x1 x2 h := (qAE k186 q 4 _ h).trans (e186_4 ..).symm
theorem k192 : tab.get 192 = some c192 := by kernel_rfl
theorem w192_0 (S : Oracle) (q : Nat) (x0 : TVal) (h : Heap) : lim tab.get S 192 q 0 [x0] h = b192_0 (orc S (lim tab.get S)) (lim tab.get S 192 q) q x0 h := (qAE k192 q 0 _ h).trans (e192_0 ..).symm
theorem k193 : tab.get 193 = some c193 := by kernel_rfl
theorem w193_0 (S : Oracle) (q : Nat) (x0 : TVal) (h : Heap) : lim tab.get S 193 q 0 [x0] h = b193_0 (orc S (lim tab.get S)) (lim tab.get S 193 q) q x0 h := (qAE k193 q 0 _ h).trans (e193_0 ..).symm
theorem w193_1 (S : Oracle) (q : Nat) (x0 x1 : TVal) (h : Heap) : lim tab.get S 193 q 1 [x0, x1] h = b193_1 (orc S (lim tab.get S)) (lim tab.get S 193 q) q x0 x1 h := (qAE k193 q 1 _ h).trans (e193_1 ..).symm
theorem w193_2 (S : Oracle) (q : Nat) (x0 x1 : TVal) (h : Heap) : lim tab.get S 193 q 2 [x0, x1] h = b193_2 (orc S (lim tab.get S)) (lim tab.get S 193 q) q x0 x1 h := (qAE k193 q 2 _ h).trans (e193_2 ..).symm
theorem w193_3 (S : Oracle) (q : Nat) (x0 x1 : TVal) (h : Heap) : lim tab.get S 193 q 3 [x0, x1] h = b193_3 (orc S (lim tab.get S)) (lim tab.get S 193 q) q x0 x1 h := (qAE k193 q 3 _ h).trans (e193_3 ..).symm
theorem k194 : tab.get 194 = some c194 := by kernel_rfl
theorem w194_0 (S : Oracle) (q : Nat) (x0 : TVal) (h : Heap) : lim tab.get S 194 q 0 [x0] h = b194_0 (orc S (lim tab.get S)) (lim tab.get S 194 q) q x0 h := (qAE k194 q 0 _ h).trans (e194_0 ..).symm
end Go.Proofs.YtlkejchbcchecaaDoor.Ab
