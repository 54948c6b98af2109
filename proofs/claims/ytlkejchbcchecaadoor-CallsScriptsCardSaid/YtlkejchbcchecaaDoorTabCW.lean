/- The machine's equations, a piece at a time. Own work, printed by a program of our own; no condition. -/
import Derived.Test.YtlkejchbcchecaaDoorTabC
namespace Go.Proofs.YtlkejchbcchecaaDoor.Ab
open Go Go.AI
set_option linter.all false
set_option linter.unusedVariables false
set_option maxRecDepth 100000
theorem k12 : tab.get 12 = some c12 := by kernel_rfl
theorem w12_0 (S : Oracle) (q : Nat) (x0 x1 x2 x3 x4 : TVal) (h : Heap) : lim tab.get S 12 q 0 [x0, x1, x2, x3, x4] h = b12_0 (orc S (lim tab.get S)) (lim tab.get S 12 q) q x0 x1 x2 x3 x4 h := (qAA k12 q 0 _ h).trans (e12_0 ..).symm
theorem w12_1 (S : Oracle) (q : Nat) (x0 x1 x2 x3 x4 x5 : TVal) (h : Heap) : lim tab.get S 12 q 1 [x0, x1, x2, x3, x4, x5] h = b12_1 (orc S (lim tab.get S)) (lim tab.get S 12 q) q x0 x1 x2 x3 x4 x5 h := (qAA k12 q 1 _ h).trans (e12_1 ..).symm
theorem w12_2 (S : Oracle) (q : Nat) (x0 x1 x2 x3 x4 : TVal) (h : Heap) : lim tab.get S 12 q 2 [x0, x1, x2, x3, x4] h = b12_2 (orc S (lim tab.get S)) (lim tab.get S 12 q) q x0 x1 x2 x3 x4 h := (qAA k12 q 2 _ h).trans (e12_2 ..).symm
theorem w12_3 (S : Oracle) (q : Nat) (x0 x1 x2 x3 x4 : TVal) (h : Heap) : lim tab.get S 12 q 3 [x0, x1, x2, x3, x4] h = b12_3 (orc S (lim tab.get S)) (lim tab.get S 12 q) q x0 x1 x2 x3 x4 h := (qAA k12 q 3 _ h).trans (e12_3 ..).symm
theorem w12_4 (S : Oracle) (q : Nat) (x0 x1 : TVal) (h : Heap) : lim tab.get S 12 q 4 [x0, x1] h = b12_4 (orc S (lim tab.get S)) (lim tab.get S 12 q) q x0 x1 h := (qAA k12 q 4 _ h).trans (e12_4 ..).symm
theorem k24 : tab.get 24 = some c24 := by kernel_rfl
theorem w24_0 (S : Oracle) (q : Nat) (x0 x1 : TVal) (h : Heap) : lim tab.get S 24 q 0 [x0, x1] h = b24_0 (orc S (lim tab.get S)) (lim tab.get S 24 q) q x0 x1 h := (qAA k24 q 0 _ h).trans (e24_0 ..).symm
theorem w24_1 (S : Oracle) (q : Nat) (x0 x1 x2 : TVal) (h : Heap) : lim tab.get S 24 q 1 [x0, x1, x2] h = b24_1 (orc S (lim tab.get S)) (lim tab.get S 24 q) q x0 x1 x2 h := (qAA k24 q 1 _ h).trans (e24_1 ..).symm
theorem w24_2 (S : Oracle) (q : Nat) (x0 x1 : TVal) (h : Heap) : lim tab.get S 24 q 2 [x0, x1] h = b24_2 (orc S (lim tab.get S)) (lim tab.get S 24 q) q x0 x1 h := (qAA k24 q 2 _ h).trans (e24_2 ..).symm
theorem w24_3 (S : Oracle) (q : Nat) (x0 x1 x2 : TVal) (h : Heap) : lim tab.get S 24 q 3 [x0, x1, x2] h = b24_3 (orc S (lim tab.get S)) (lim tab.get S 24 q) q x0 x1 x2 h := (qAA k24 q 3 _ h).trans (e24_3 ..).symm
theorem k29 : tab.get 29 = some c29 := by kernel_rfl
theorem w29_0 (S : Oracle) (q : Nat) (x0 x1 : TVal) (h : Heap) : lim tab.get S 29 q 0 [x0, x1] h = b29_0 (orc S (lim tab.get S)) (lim tab.get S 29 q) q x0 x1 h := (qAA k29 q 0 _ h).trans (e29_0 ..).symm
theorem w29_1 (S : Oracle) (q : Nat) (x0 x1 x2 : TVal) (h : Heap) : lim tab.get S 29 q 1 [x0, x1, x2] h = b29_1 (orc S (lim tab.get S)) (lim tab.get S 29 q) q x0 x1 x2 h := (qAA k29 q 1 _ h).trans (e29_1 ..).symm
theorem k31 : tab.get 31 = some c31 := by kernel_rfl
theorem w31_0 (S : Oracle) (q : Nat) (x0 x1 : TVal) (h : Heap) : lim tab.get S 31 q 0 [x0, x1] h = b31_0 (orc S (lim tab.get S)) (lim tab.get S 31 q) q x0 x1 h := (qAA k31 q 0 _ h).trans (e31_0 ..).symm
theorem w31_1 (S : Oracle) (q : Nat) (x0 x1 x2 x3 : TVal) (h : Heap) : lim tab.get S 31 q 1 [x0, x1, x2, x3] h = b31_1 (orc S (lim tab.get S)) (lim tab.get S 31 q) q x0 x1 x2 x3 h := (qAA k31 q 1 _ h).trans (e31_1 ..).symm
theorem w31_2 (S : Oracle) (q : Nat) (x0 x1 x2 x3 x4 : TVal) (h : Heap) : lim tab.get S 31 q 2 [x0, x1, x2, x3, x4] h = b31_2 (orc S (lim tab.get S)) (lim tab.get S 31 q) q x0 x1 x2 x3 x4 h := (qAA k31 q 2 _ h).trans (e31_2 ..).symm
theorem w31_3 (S : Oracle) (q : Nat) (x0 x1 x2 x3 x4 : TVal) (h : Heap) : lim tab.get S 31 q 3 [x0, x1, x2, x3, x4] h = b31_3 (orc S (lim tab.get S)) (lim tab.get S 31 q) q x0 x1 x2 x3 x4 h := (qAA k31 q 3 _ h).trans (e31_3 ..).symm
theorem w31_4 (S : Oracle) (q : Nat) (x0 x1 x2 x3 x4 x5 : TVal) (h : Heap) : lim tab.get S 31 q 4 [x0, x1, x2, x3, x4, x5] h = b31_4 (orc S (lim tab.get S)) (lim tab.get S 31 q) q x0 x1 x2 x3 x4 x5 h := (qAA k31 q 4 _ h).trans (e31_4 ..).symm
theorem w31_5 (S : Oracle) (q : Nat) (x0 x1 : TVal) (h : Heap) : lim tab.get S 31 q 5 [x0, x1] h = b31_5 (orc S (lim tab.get S)) (lim tab.get S 31 q) q x0 x1 h := (qAA k31 q 5 _ h).trans (e31_5 ..).symm
theorem k36 : tab.get 36 = some c36 := by kernel_rfl
theorem w36_0 (S : Oracle) (q : Nat) (h : Heap) : lim tab.get S 36 q 0 [] h = b36_0 (orc S (lim tab.get S)) (lim tab.get S 36 q) q  h := (qAA k36 q 0 _ h).trans (e36_0 ..).symm
theorem k37 : tab.get 37 = some c37 := by kernel_rfl
theorem w37_0 (S : Oracle) (q : Nat) (x0 x1 : TVal) (h : Heap) : lim tab.get S 37 q 0 [x0, x1] h = b37_0 (orc S (lim tab.get S)) (lim tab.get S 37 q) q x0 x1 h := (qAA k37 q 0 _ h).trans (e37_0 ..).symm
theorem k38 : tab.get 38 = some c38 := by kernel_rfl
theorem w38_0 (S : Oracle) (q : Nat) (x0 x1 : TVal) (h : Heap) : lim tab.get S 38 q 0 [x0, x1] h = b38_0 (orc S (lim tab.get S)) (lim tab.get S 38 q) q x0 x1 h := (qAA k38 q 0 _ h).trans (e38_0 ..).symm
theorem w38_1 (S : Oracle) (q : Nat) (x0 x1 x2 x3 x4 : TVal) (h : Heap) : lim tab.get S 38 q 1 [x0, x1, x2, x3, x4] h = b38_1 (orc S (lim tab.get S)) (lim tab.get S 38 q) q x0 x1 x2 x3 x4 h := (qAA k38 q 1 _ h).trans (e38_1 ..).symm
theorem k42 : tab.get 42 = some c42 := by kernel_rfl
theorem w42_0 (S : Oracle) (q : Nat) (x0 x1 x2 : TVal) (h : Heap) : lim tab.get S 42 q 0 [x0, x1, x2] h = b42_0 (orc S (lim tab.get S)) (lim tab.get S 42 q) q x0 x1 x2 h := (qAA k42 q 0 _ h).trans (e42_0 ..).symm
theorem w42_1 (S : Oracle) (q : Nat) (x0 x1 x2 x3 x4 : TVal) (h : Heap) : lim tab.get S 42 q 1 [x0, x1, x2, x3, x4] h = b42_1 (orc S (lim tab.get S)) (lim tab.get S 42 q) q x0 x1 x2 x3 x4 h := (qAA k42 q 1 _ h).trans (e42_1 ..).symm
theorem w42_2 (S : Oracle) (q : Nat) (x0 x1 x2 x3 x4 x5 x6 : TVal) (h : Heap) : lim tab.get S 42 q 2 [x0, x1, x2, x3, x4, x5, x6] h = b42_2 (orc S (lim tab.get S)) (lim tab.get S 42 q) q x0 x1 x2 x3 x4 x5 x6 h := (qAA k42 q 2 _ h).trans (e42_2 ..).symm
theorem w42_3 (S : Oracle) (q : Nat) (x0 x1 x2 x3 x4 x5 : TVal) (h : Heap) : lim tab.get S 42 q 3 [x0, x1, x2, x3, x4, x5] h = b42_3 (orc S (lim tab.get S)) (lim tab.get S 42 q) q x0 x1 x2 x3 x4 x5 h := (qAA k42 q 3 _ h).trans (e42_3 ..).symm
theorem w42_4 (S : Oracle) (q : Nat) (x0 x1 x2 x3 x4 x5 : TVal) (h : Heap) : lim tab.get S 42 q 4 [x0, x1, x2, x3, x4, x5] h = b42_4 (orc S (lim tab.get S)) (lim tab.get S 42 q) q x0 x1 x2 x3 x4 x5 h := (qAA k42 q 4 _ h).trans (e42_4 ..).symm
theorem w42_5 (S : Oracle) (q : Nat) (x0 x1 x2 x3 x4 : TVal) (h : Heap) : lim tab.get S 42 q 5 [x0, x1, x2, x3, x4] h = b42_5 (orc S (lim tab.get S)) (lim tab.get S 42 q) q x0 x1 x2 x3 x4 h := (qAA k42 q 5 _ h).trans (e42_5 ..).symm
theorem k43 : tab.get 43 = some c43 := by kernel_rfl
theorem w43_0 (S : Oracle) (q : Nat) (x0 : TVal) (h : Heap) : lim tab.get S 43 q 0 [x0] h = b43_0 (orc S (lim tab.get S)) (lim tab.get S 43 q) q x0 h := (qAA k43 q 0 _ h).trans (e43_0 ..).symm
theorem w43_1 (S : Oracle) (q : Nat) (x0 x1 x2 x3 : TVal) (h : Heap) : lim tab.get S 43 q 1 [x0, x1, x2, x3] h = b43_1 (orc S (lim tab.get S)) (lim tab.get S 43 q) q x0 x1 x2 x3 h := (qAA k43 q 1 _ h).trans (e43_1 ..).symm
theorem w43_2 (S : Oracle) (q : Nat) (x0 x1 x2 x3 x4 x5 x6 x7 : TVal) (h : Heap) : lim tab.get S 43 q 2 [x0, x1, x2, x3, x4, x5, x6, x7] h = b43_2 (orc S (lim tab.get S)) (lim tab.get S 43 q) q x0 x1 x2 x3 x4 x5 x6 x7 h := (qAA k43 q 2 _ h).trans (e43_2 ..).symm
theorem w43_3 (S : Oracle) (q : Nat) (x0 x1 x2 x3 x4 : TVal) (h : Heap) : lim tab.get S 43 q 3 [x0, x1, x2, x3, x4] h = b43_3 (orc S (lim tab.get S)) (lim tab.get S 43 q) q x0 x1 x2 x3 x4 h := (qAA k43 q 3 _ h).trans (e43_3 ..).symm
theorem w43_4 (S : Oracle) (q : Nat) (x0 x1 x2 x3 : TVal) (h : Heap) : lim tab.get S 43 q 4 [x0, x1, x2, x3] h = b43_4 (orc S (lim tab.get S)) (lim tab.get S 43 q) q x0 x1 x2 x3 h := (qAA k43 q 4 _ h).trans (e43_4 ..).symm
theorem k44 : tab.get 44 = some c44 := by kernel_rfl
theorem w44_0 (S : Oracle) (q : Nat) (x0 : TVal) (h : Heap) : lim tab.get S 44 q 0 [x0] h = b44_0 (orc S (lim tab.get S)) (lim tab.get S 44 q) q x0 h := (qAA k44 q 0 _ h).trans (e44_0 ..).symm
theorem w44_1 (S : Oracle) (q : Nat) (x0 x1 x2 : TVal) (h : Heap) : lim tab.get S 44 q 1 [x0, x1, x2] h = b44_1 (orc S (lim tab.get S)) (lim tab.get S 44 q) q x0 x1 x2 h := (qAA k44 q 1 _ h).trans (e44_1 ..).symm
theorem k45 : tab.get 45 = some c45 := by kernel_rfl
theorem w45_0 (S : Oracle) (q : Nat) (x0 x1 : TVal) (h : Heap) : lim tab.get S 45 q 0 [x0, x1] h = b45_0 (orc S (lim tab.get S)) (lim tab.get S 45 q) q x0 x1 h := (qAA k45 q 0 _ h).trans (e45_0 ..).symm
theorem k46 : tab.get 46 = some c46 := by kernel_rfl
theorem w46_0 (S : Oracle) (q : Nat) (x0 x1 : TVal) (h : Heap) : lim tab.get S 46 q 0 [x0, x1] h = b46_0 (orc S (lim tab.get S)) (lim tab.get S 46 q) q x0 x1 h := (qAA k46 q 0 _ h).trans (e46_0 ..).symm
theorem k47 : tab.get 47 = some c47 := by kernel_rfl
theorem w47_0 (S : Oracle) (q : Nat) (x0 x1 : TVal) (h : Heap) : lim tab.get S 47 q 0 [x0, x1] h = b47_0 (orc S (lim tab.get S)) (lim tab.get S 47 q) q x0 x1 h := (qAA k47 q 0 _ h).trans (e47_0 ..).symm
theorem k48 : tab.get 48 = some c48 := by kernel_rfl
theorem w48_0 (S : Oracle) (q : Nat) (x0 x1 : TVal) (h : Heap) : lim tab.get S 48 q 0 [x0, x1] h = b48_0 (orc S (lim tab.get S)) (lim tab.get S 48 q) q x0 x1 h := (qAA k48 q 0 _ h).trans (e48_0 ..).symm
theorem k79 : tab.get 79 = some c79 := by kernel_rfl
theorem w79_0 (S : Oracle) (q : Nat) (x0 x1 : TVal) (h : Heap) : lim tab.get S 79 q 0 [x0, x1] h = b79_0 (orc S (lim tab.get S)) (lim tab.get S 79 q) q x0 x1 h := (qAA k79 q 0 _ h).trans (e79_0 ..).symm
theorem k80 : tab.get 80 = some c80 := by kernel_rfl
theorem w80_0 (S : Oracle) (q : Nat) (x0 : TVal) (h : Heap) : lim tab.get S 80 q 0 [x0] h = b80_0 (orc S (lim tab.get S)) (lim tab.get S 80 q) q x0 h := (qAA k80 q 0 _ h).trans (e80_0 ..).symm
theorem w80_1 (S : Oracle) (q : Nat) (x0 x1 x2 : TVal) (h : Heap) : lim tab.get S 80 q 1 [x0, x1, x2] h = b80_1 (orc S (lim tab.get S)) (lim tab.get S 80 q) q x0 x1 x2 h := (qAA k80 q 1 _ h).trans (e80_1 ..).symm
theorem w80_2 (S : Oracle) (q : Nat) (x0 x1 x2 : TVal) (h : Heap) : lim tab.get S 80 q 2 [x0, x1, x2] h = b80_2 (orc S (lim tab.get S)) (lim tab.get S 80 q) q x0 x1 x2 h := (qAA k80 q 2 _ h).trans (e80_2 ..).symm
theorem k81 : tab.get 81 = some c81 := by kernel_rfl
theorem w81_0 (S : Oracle) (q : Nat) (x0 x1 x2 : TVal) (h : Heap) : lim tab.get S 81 q 0 [x0, x1, x2] h = b81_0 (orc S (lim tab.get S)) (lim tab.get S 81 q) q x0 x1 x2 h := (qAA k81 q 0 _ h).trans (e81_0 ..).symm
theorem w81_1 (S : Oracle) (q : Nat) (x0 x1 x2 x3 x4 : TVal) (h : Heap) : lim tab.get S 81 q 1 [x0, x1, x2, x3, x4] h = b81_1 (orc S (lim tab.get S)) (lim tab.get S 81 q) q x0 x1 x2 x3 x4 h := (qAA k81 q 1 _ h).trans (e81_1 ..).symm
theorem w81_2 (S : Oracle) (q : Nat) (x0 x1 x2 x3 x4 : TVal) (h : Heap) : lim tab.get S 81 q 2 [x0, x1, x2, x3, x4] h = b81_2 (orc S (lim tab.get S)) (lim tab.get S 81 q) q x0 x1 x2 x3 x4 h := (qAA k81 q 2 _ h).trans (e81_2 ..).symm
theorem k84 : tab.get 84 = some c84 := by kernel_rfl
theorem w84_0 (S : Oracle) (q : Nat) (x0 : TVal) (h : Heap) : lim tab.get S 84 q 0 [x0] h = b84_0 (orc S (lim tab.get S)) (lim tab.get S 84 q) q x0 h := (qAA k84 q 0 _ h).trans (e84_0 ..).symm
theorem k85 : tab.get 85 = some c85 := by kernel_rfl
theorem w85_0 (S : Oracle) (q : Nat) (x0 : TVal) (h : Heap) : lim tab.get S 85 q 0 [x0] h = b85_0 (orc S (lim tab.get S)) (lim tab.get S 85 q) q x0 h := (qAA k85 q 0 _ h).trans (e85_0 ..).symm
theorem w85_1 (S : Oracle) (q : Nat) (x0 x1 : TVal) (h : Heap) : lim tab.get S 85 q 1 [x0, x1] h = b85_1 (orc S (lim tab.get S)) (lim tab.get S 85 q) q x0 x1 h := (qAA k85 q 1 _ h).trans (e85_1 ..).symm
theorem w85_2 (S : Oracle) (q : Nat) (x0 : TVal) (h : Heap) : lim tab.get S 85 q 2 [x0] h = b85_2 (orc S (lim tab.get S)) (lim tab.get S 85 q) q x0 h := (qAA k85 q 2 _ h).trans (e85_2 ..).symm
theorem k86 : tab.get 86 = some c86 := by kernel_rfl
theorem w86_0 (S : Oracle) (q : Nat) (x0 : TVal) (h : Heap) : lim tab.get S 86 q 0 [x0] h = b86_0 (orc S (lim tab.get S)) (lim tab.get S 86 q) q x0 h := (qAA k86 q 0 _ h).trans (e86_0 ..).symm
theorem w86_1 (S : Oracle) (q : Nat) (x0 x1 x2 : TVal) (h : Heap) : lim tab.get S 86 q 1 [x0, x1, x2] h = b86_1 (orc S (lim tab.get S)) (lim tab.get S 86 q) q x0 x1 x2 h := (qAA k86 q 1 _ h).trans (e86_1 ..).symm
theorem k87 : tab.get 87 = some c87 := by kernel_rfl
theorem w87_0 (S : Oracle) (q : Nat) (x0 x1 : TVal) (h : Heap) : lim tab.get S 87 q 0 [x0, x1] h = b87_0 (orc S (lim tab.get S)) (lim tab.get S 87 q) q x0 x1 h := (qAA k87 q 0 _ h).trans (e87_0 ..).symm
theorem k88 : tab.get 88 = some c88 := by kernel_rfl
theorem w88_0 (S : Oracle) (q : Nat) (x0 : TVal) (h : Heap) : lim tab.get S 88 q 0 [x0] h = b88_0 (orc S (lim tab.get S)) (lim tab.get S 88 q) q x0 h := (qAA k88 q 0 _ h).trans (e88_0 ..).symm
theorem k89 : tab.get 89 = some c89 := by kernel_rfl
theorem w89_0 (S : Oracle) (q : Nat) (x0 : TVal) (h : Heap) : lim tab.get S 89 q 0 [x0] h = b89_0 (orc S (lim tab.get S)) (lim tab.get S 89 q) q x0 h := (qAA k89 q 0 _ h).trans (e89_0 ..).symm
theorem k90 : tab.get 90 = some c90 := by kernel_rfl
theorem w90_0 (S : Oracle) (q : Nat) (x0 : TVal) (h : Heap) : lim tab.get S 90 q 0 [x0] h = b90_0 (orc S (lim tab.get S)) (lim tab.get S 90 q) q x0 h := (qAA k90 q 0 _ h).trans (e90_0 ..).symm
theorem k91 : tab.get 91 = some c91 := by kernel_rfl
theorem w91_0 (S : Oracle) (q : Nat) (x0 : TVal) (h : Heap) : lim tab.get S 91 q 0 [x0] h = b91_0 (orc S (lim tab.get S)) (lim tab.get S 91 q) q x0 h := (qAA k91 q 0 _ h).trans (e91_0 ..).symm
theorem k92 : tab.get 92 = some c92 := by kernel_rfl
theorem w92_0 (S : Oracle) (q : Nat) (x0 x1 : TVal) (h : Heap) : lim tab.get S 92 q 0 [x0, x1] h = b92_0 (orc S (lim tab.get S)) (lim tab.get S 92 q) q x0 x1 h := (qAA k92 q 0 _ h).trans (e92_0 ..).symm
theorem w92_1 (S : Oracle) (q : Nat) (x0 x1 x2 x3 : TVal) (h : Heap) : lim tab.get S 92 q 1 [x0, x1, x2, x3] h = b92_1 (orc S (lim tab.get S)) (lim tab.get S 92 q) q x0 x1 x2 x3 h := (qAA k92 q 1 _ h).trans (e92_1 ..).symm
theorem k93 : tab.get 93 = some c93 := by kernel_rfl
theorem w93_0 (S : Oracle) (q : Nat) (x0 x1 : TVal) (h : Heap) : lim tab.get S 93 q 0 [x0, x1] h = b93_0 (orc S (lim tab.get S)) (lim tab.get S 93 q) q x0 x1 h := (qAA k93 q 0 _ h).trans (e93_0 ..).symm
theorem k94 : tab.get 94 = some c94 := by kernel_rfl
theorem w94_0 (S : Oracle) (q : Nat) (x0 : TVal) (h : Heap) : lim tab.get S 94 q 0 [x0] h = b94_0 (orc S (lim tab.get S)) (lim tab.get S 94 q) q x0 h := (qAA k94 q 0 _ h).trans (e94_0 ..).symm
theorem k95 : tab.get 95 = some c95 := by kernel_rfl
theorem w95_0 (S : Oracle) (q : Nat) (x0 : TVal) (h : Heap) : lim tab.get S 95 q 0 [x0] h = b95_0 (orc S (lim tab.get S)) (lim tab.get S 95 q) q x0 h := (qAA k95 q 0 _ h).trans (e95_0 ..).symm
theorem k96 : tab.get 96 = some c96 := by kernel_rfl
theorem w96_0 (S : Oracle) (q : Nat) (x0 x1 : TVal) (h : Heap) : lim tab.get S 96 q 0 [x0, x1] h = b96_0 (orc S (lim tab.get S)) (lim tab.get S 96 q) q x0 x1 h := (qAA k96 q 0 _ h).trans (e96_0 ..).symm
theorem k97 : tab.get 97 = some c97 := by kernel_rfl
theorem w97_0 (S : Oracle) (q : Nat) (x0 : TVal) (h : Heap) : lim tab.get S 97 q 0 [x0] h = b97_0 (orc S (lim tab.get S)) (lim tab.get S 97 q) q x0 h := (qAA k97 q 0 _ h).trans (e97_0 ..).symm
theorem k105 : tab.get 105 = some c105 := by kernel_rfl
theorem w105_0 (S : Oracle) (q : Nat) (x0 : TVal) (h : Heap) : lim tab.get S 105 q 0 [x0] h = b105_0 (orc S (lim tab.get S)) (lim tab.get S 105 q) q x0 h := (qAA k105 q 0 _ h).trans (e105_0 ..).symm
theorem k106 : tab.get 106 = some c106 := by kernel_rfl
theorem w106_0 (S : Oracle) (q : Nat) (x0 x1 : TVal) (h : Heap) : lim tab.get S 106 q 0 [x0, x1] h = b106_0 (orc S (lim tab.get S)) (lim tab.get S 106 q) q x0 x1 h := (qAA k106 q 0 _ h).trans (e106_0 ..).symm
theorem w106_1 (S : Oracle) (q : Nat) (x0 x1 x2 : TVal) (h : Heap) : lim tab.get S 106 q 1 [x0, x1, x2] h = b106_1 (orc S (lim tab.get S)) (lim tab.get S 106 q) q x0 x1 x2 h := (qAA k106 q 1 _ h).trans (e106_1 ..).symm
theorem k131 : tab.get 131 = some c131 := by kernel_rfl
theorem w131_0 (S : Oracle) (q : Nat) (x0 x1 : TVal) (h : Heap) : lim tab.get S 131 q 0 [x0, x1] h = b131_0 (orc S (lim tab.get S)) (lim tab.get S 131 q) q x0 x1 h := (qAA k131 q 0 _ h).trans (e131_0 ..).symm
theorem w131_1 (S : Oracle) (q : Nat) (x0 x1 x2 x3 : TVal) (h : Heap) : lim tab.get S 131 q 1 [x0, x1, x2, x3] h = b131_1 (orc S (lim tab.get S)) (lim tab.get S 131 q) q x0 x1 x2 x3 h := (qAA k131 q 1 _ h).trans (e131_1 ..).symm
theorem k132 : tab.get 132 = some c132 := by kernel_rfl
theorem w132_0 (S : Oracle) (q : Nat) (x0 : TVal) (h : Heap) : lim tab.get S 132 q 0 [x0] h = b132_0 (orc S (lim tab.get S)) (lim tab.get S 132 q) q x0 h := (qAA k132 q 0 _ h).trans (e132_0 ..).symm
theorem k148 : tab.get 148 = some c148 := by kernel_rfl
theorem w148_0 (S : Oracle) (q : Nat) (x0 : TVal) (h : Heap) : lim tab.get S 148 q 0 [x0] h = b148_0 (orc S (lim tab.get S)) (lim tab.get S 148 q) q x0 h := (qAA k148 q 0 _ h).trans (e148_0 ..).symm
theorem k149 : tab.get 149 = some c149 := by kernel_rfl
theorem w149_0 (S : Oracle) (q : Nat) (x0 x1 : TVal) (h : Heap) : lim tab.get S 149 q 0 [x0, x1] h = b149_0 (orc S (lim tab.get S)) (lim tab.get S 149 q) q x0 x1 h := (qAA k149 q 0 _ h).trans (e149_0 ..).symm
theorem k150 : tab.get 150 = some c150 := by kernel_rfl
theorem w150_0 (S : Oracle) (q : Nat) (x0 : TVal) (h : Heap) : lim tab.get S 150 q 0 [x0] h = b150_0 (orc S (lim tab.get S)) (lim tab.get S 150 q) q x0 h := (qAA k150 q 0 _ h).trans (e150_0 ..).symm
theorem k151 : tab.get 151 = some c151 := by kernel_rfl
theorem w151_0 (S : Oracle) (q : Nat) (x0 x1 : TVal) (h : Heap) : lim tab.get S 151 q 0 [x0, x1] h = b151_0 (orc S (lim tab.get S)) (lim tab.get S 151 q) q x0 x1 h := (qAA k151 q 0 _ h).trans (e151_0 ..).symm
theorem k152 : tab.get 152 = some c152 := by kernel_rfl
theorem w152_0 (S : Oracle) (q : Nat) (x0 : TVal) (h : Heap) : lim tab.get S 152 q 0 [x0] h = b152_0 (orc S (lim tab.get S)) (lim tab.get S 152 q) q x0 h := (qAA k152 q 0 _ h).trans (e152_0 ..).symm
theorem k153 : tab.get 153 = some c153 := by kernel_rfl
theorem w153_0 (S : Oracle) (q : Nat) (x0 : TVal) (h : Heap) : lim tab.get S 153 q 0 [x0] h = b153_0 (orc S (lim tab.get S)) (lim tab.get S 153 q) q x0 h := (qAA k153 q 0 _ h).trans (e153_0 ..).symm
theorem k154 : tab.get 154 = some c154 := by kernel_rfl
theorem w154_0 (S : Oracle) (q : Nat) (x0 x1 : TVal) (h : Heap) : lim tab.get S 154 q 0 [x0, x1] h = b154_0 (orc S (lim tab.get S)) (lim tab.get S 154 q) q x0 x1 h := (qAA k154 q 0 _ h).trans (e154_0 ..).symm
theorem k155 : tab.get 155 = some c155 := by kernel_rfl
theorem w155_0 (S : Oracle) (q : Nat) (x0 : TVal) (h : Heap) : lim tab.get S 155 q 0 [x0] h = b155_0 (orc S (lim tab.get S)) (lim tab.get S 155 q) q x0 h := (qAA k155 q 0 _ h).trans (e155_0 ..).symm
theorem k156 : tab.get 156 = some c156 := by kernel_rfl
theorem w156_0 (S : Oracle) (q : Nat) (x0 : TVal) (h : Heap) : lim tab.get S 156 q 0 [x0] h = b156_0 (orc S (lim tab.get S)) (lim tab.get S 156 q) q x0 h := (qAA k156 q 0 _ h).trans (e156_0 ..).symm
theorem w156_1 (S : Oracle) (q : Nat) (x0 x1 x2 x3 x4 : TVal) (h : Heap) : lim tab.get S 156 q 1 [x0, x1, x2, x3, x4] h = b156_1 (orc S (lim tab.get S)) (lim tab.get S 156 q) q x0 x1 x2 x3 x4 h := (qAA k156 q 1 _ h).trans (e156_1 ..).symm
theorem w156_2 (S : Oracle) (q : Nat) (x0 x1 : TVal) (h : Heap) : lim tab.get S 156 q 2 [x0, x1] h = b156_2 (orc S (lim tab.get S)) (lim tab.get S 156 q) q x0 x1 h := (qAA k156 q 2 _ h).trans (e156_2 ..).symm
theorem k157 : tab.get 157 = some c157 := by kernel_rfl
theorem w157_0 (S : Oracle) (q : Nat) (x0 : TVal) (h : Heap) : lim tab.get S 157 q 0 [x0] h = b157_0 (orc S (lim tab.get S)) (lim tab.get S 157 q) q x0 h := (qAA k157 q 0 _ h).trans (e157_0 ..).symm
theorem k158 : tab.get 158 = some c158 := by kernel_rfl
theorem w158_0 (S : Oracle) (q : Nat) (x0 x1 : TVal) (h : Heap) : lim tab.get S 158 q 0 [x0, x1] h = b158_0 (orc S (lim tab.get S)) (lim tab.get S 158 q) q x0 x1 h := (qAA k158 q 0 _ h).trans (e158_0 ..).symm
theorem k159 : tab.get 159 = some c159 := by kernel_rfl
theorem w159_0 (S : Oracle) (q : Nat) (x0 x1 x2 : TVal) (h : Heap) : lim tab.get S 159 q 0 [x0, x1, x2] h = b159_0 (orc S (lim tab.get S)) (lim tab.get S 159 q) q x0 x1 x2 h := (qAA k159 q 0 _ h).trans (e159_0 ..).symm
theorem k174 : tab.get 174 = some c174 := by kernel_rfl
theorem w174_0 (S : Oracle) (q : Nat) (x0 : TVal) (h : Heap) : lim tab.get S 174 q 0 [x0] h = b174_0 (orc S (lim tab.get S)) (lim tab.get S 174 q) q x0 h := (qAA k174 q 0 _ h).trans (e174_0 ..).symm
theorem k175 : tab.get 175 = some c175 := by kernel_rfl
theorem w175_0 (S : Oracle) (q : Nat) (x0 : TVal) (h : Heap) : lim tab.get S 175 q 0 [x0] h = b175_0 (orc S (lim tab.get S)) (lim tab.get S 175 q) q x0 h := (qAA k175 q 0 _ h).trans (e175_0 ..).symm
theorem k176 : tab.get 176 = some c176 := by kernel_rfl
theorem w176_0 (S : Oracle) (q : Nat) (x0 x1 : TVal) (h : Heap) : lim tab.get S 176 q 0 [x0, x1] h = b176_0 (orc S (lim tab.get S)) (lim tab.get S 176 q) q x0 x1 h := (qAA k176 q 0 _ h).trans (e176_0 ..).symm
theorem k177 : tab.get 177 = some c177 := by kernel_rfl
theorem w177_0 (S : Oracle) (q : Nat) (x0 x1 : TVal) (h : Heap) : lim tab.get S 177 q 0 [x0, x1] h = b177_0 (orc S (lim tab.get S)) (lim tab.get S 177 q) q x0 x1 h := (qAA k177 q 0 _ h).trans (e177_0 ..).symm
theorem w177_1 (S : Oracle) (q : Nat) (x0 x1 x2 x3 : TVal) (h : Heap) : lim tab.get S 177 q 1 [x0, x1, x2, x3] h = b177_1 (orc S (lim tab.get S)) (lim tab.get S 177 q) q x0 x1 x2 x3 h := (qAA k177 q 1 _ h).trans (e177_1 ..).symm
theorem k178 : tab.get 178 = some c178 := by kernel_rfl
theorem w178_0 (S : Oracle) (q : Nat) (x0 x1 : TVal) (h : Heap) : lim tab.get S 178 q 0 [x0, x1] h = b178_0 (orc S (lim tab.get S)) (lim tab.get S 178 q) q x0 x1 h := (qAA k178 q 0 _ h).trans (e178_0 ..).symm
theorem w178_1 (S : Oracle) (q : Nat) (x0 x1 x2 : TVal) (h : Heap) : lim tab.get S 178 q 1 [x0, x1, x2] h = b178_1 (orc S (lim tab.get S)) (lim tab.get S 178 q) q x0 x1 x2 h := (qAA k178 q 1 _ h).trans (e178_1 ..).symm
theorem k179 : tab.get 179 = some c179 := by kernel_rfl
theorem w179_0 (S : Oracle) (q : Nat) (x0 : TVal) (h : Heap) : lim tab.get S 179 q 0 [x0] h = b179_0 (orc S (lim tab.get S)) (lim tab.get S 179 q) q x0 h := (qAA k179 q 0 _ h).trans (e179_0 ..).symm
theorem k180 : tab.get 180 = some c180 := by kernel_rfl
theorem w180_0 (S : Oracle) (q : Nat) (x0 x1 : TVal) (h : Heap) : lim tab.get S 180 q 0 [x0, x1] h = b180_0 (orc S (lim tab.get S)) (lim tab.get S 180 q) q x0 x1 h := (qAA k180 q 0 _ h).trans (e180_0 ..).symm
theorem w180_1 (S : Oracle) (q : Nat) (x0 x1 x2 : TVal) (h : Heap) : lim tab.get S 180 q 1 [x0, x1, x2] h = b180_1 (orc S (lim tab.get S)) (lim tab.get S 180 q) q x0 x1 x2 h := (qAA k180 q 1 _ h).trans (e180_1 ..).symm
theorem w180_2 (S : Oracle) (q : Nat) (x0 : TVal) (h : Heap) : lim tab.get S 180 q 2 [x0] h = b180_2 (orc S (lim tab.get S)) (lim tab.get S 180 q) q x0 h := (qAA k180 q 2 _ h).trans (e180_2 ..).symm
theorem k181 : tab.get 181 = some c181 := by kernel_rfl
theorem w181_0 (S : Oracle) (q : Nat) (x0 : TVal) (h : Heap) : lim tab.get S 181 q 0 [x0] h = b181_0 (orc S (lim tab.get S)) (lim tab.get S 181 q) q x0 h := (qAA k181 q 0 _ h).trans (e181_0 ..).symm
theorem k182 : tab.get 182 = some c182 := by kernel_rfl
theorem w182_0 (S : Oracle) (q : Nat) (x0 : TVal) (h : Heap) : lim tab.get S 182 q 0 [x0] h = b182_0 (orc S (lim tab.get S)) (lim tab.get S 182 q) q x0 h := (qAA k182 q 0 _ h).trans (e182_0 ..).symm
theorem k183 : tab.get 183 = some c183 := by kernel_rfl
theorem w183_0 (S : Oracle) (q : Nat) (x0 x1 : TVal) (h : Heap) : lim tab.get S 183 q 0 [x0, x1] h = b183_0 (orc S (lim tab.get S)) (lim tab.get S 183 q) q x0 x1 h := (qAA k183 q 0 _ h).trans (e183_0 ..).symm
theorem w183_1 (S : Oracle) (q : Nat) (x0 x1 x2 x3 x4 x5 x6 x7 : TVal) (h : Heap) : lim tab.get S 183 q 1 [x0, x1, x2, x3, x4, x5, x6, x7] h = b183_1 (orc S (lim tab.get S)) (lim tab.get S 183 q) q x0 x1 x2 x3 x4 x5 x6 x7 h := (qAA k183 q 1 _ h).trans (e183_1 ..).symm
theorem w183_2 (S : Oracle) (q : Nat) (x0 x1 x2 x3 x4 x5 x6 x7 : TVal) (h : Heap) : lim tab.get S 183 q 2 [x0, x1, x2, x3, x4, x5, x6, x7] h = b183_2 (orc S (lim tab.get S)) (lim tab.get S 183 q) q x0 x1 x2 x3 x4 x5 x6 x7 h := (qAA k183 q 2 _ h).trans (e183_2 ..).symm
theorem k184 : tab.get 184 = some c184 := by kernel_rfl
theorem w184_0 (S : Oracle) (q : Nat) (x0 : TVal) (h : Heap) : lim tab.get S 184 q 0 [x0] h = b184_0 (orc S (lim tab.get S)) (lim tab.get S 184 q) q x0 h := (qAA k184 q 0 _ h).trans (e184_0 ..).symm
theorem k185 : tab.get 185 = some c185 := by kernel_rfl
theorem w185_0 (S : Oracle) (q : Nat) (x0 : TVal) (h : Heap) : lim tab.get S 185 q 0 [x0] h = b185_0 (orc S (lim tab.get S)) (lim tab.get S 185 q) q x0 h := (qAA k185 q 0 _ h).trans (e185_0 ..).symm
theorem k186 : tab.get 186 = some c186 := by kernel_rfl
theorem w186_0 (S : Oracle) (q : Nat) (x0 x1 : TVal) (h : Heap) : lim tab.get S 186 q 0 [x0, x1] h = b186_0 (orc S (lim tab.get S)) (lim tab.get S 186 q) q x0 x1 h := (qAA k186 q 0 _ h).trans (e186_0 ..).symm
theorem w186_1 (S : Oracle) (q : Nat) (x0 x1 x2 : TVal) (h : Heap) : lim tab.get S 186 q 1 [x0, x1, x2] h = b186_1 (orc S (lim tab.get S)) (lim tab.get S 186 q) q x0 x1 x2 h := (qAA k186 q 1 _ h).trans (e186_1 ..).symm
theorem w186_2 (S : Oracle) (q : Nat) (x0 x1 x2 : TVal) (h : Heap) : lim tab.get S 186 q 2 [x0, x1, x2] h = b186_2 (orc S (lim tab.get S)) (lim tab.get S 186 q) q x0 x1 x2 h := (qAA k186 q 2 _ h).trans (e186_2 ..).symm
theorem w186_3 (S : Oracle) (q : Nat) (x0 x1 x2 : TVal) (h : Heap) : lim tab.get S 186 q 3 [x0, x1, x2] h = b186_3 (orc S (lim tab.get S)) (lim tab.get S 186 q) q x0 x1 x2 h := (qAA k186 q 3 _ h).trans (e186_3 ..).symm
theorem w186_4 (S : Oracle) (q : Nat) (x0 x1 x2 : TVal) (h : Heap) : lim tab.get S 186 q 4 [x0, x1, x2] h = b186_4 (orc S (lim tab.get S)) (lim tab.get S 186 q) q x0 x1 x2 h := (qAA k186 q 4 _ h).trans (e186_4 ..).symm
theorem k187 : tab.get 187 = some c187 := by kernel_rfl
theorem w187_0 (S : Oracle) (q : Nat) (x0 x1 x2 x3 x4 : TVal) (h : Heap) : lim tab.get S 187 q 0 [x0, x1, x2, x3, x4] h = b187_0 (orc S (lim tab.get S)) (lim tab.get S 187 q) q x0 x1 x2 x3 x4 h := (qAA k187 q 0 _ h).trans (e187_0 ..).symm
theorem w187_1 (S : Oracle) (q : Nat) (x0 x1 x2 x3 x4 x5 x6 : TVal) (h : Heap) : lim tab.get S 187 q 1 [x0, x1, x2, x3, x4, x5, x6] h = b187_1 (orc S (lim tab.get S)) (lim tab.get S 187 q) q x0 x1 x2 x3 x4 x5 x6 h := (qAA k187 q 1 _ h).trans (e187_1 ..).symm
theorem w187_2 (S : Oracle) (q : Nat) (x0 x1 x2 x3 x4 x5 x6 x7 x8 : TVal) (h : Heap) : lim tab.get S 187 q 2 [x0, x1, x2, x3, x4, x5, x6, x7, x8] h = b187_2 (orc S (lim tab.get S)) (lim tab.get S 187 q) q x0 x1 x2 x3 x4 x5 x6 x7 x8 h := (qAA k187 q 2 _ h).trans (e187_2 ..).symm
theorem w187_3 (S : Oracle) (q : Nat) (x0 x1 x2 x3 x4 x5 x6 x7 x8 x9 x10 : TVal) (h : Heap) : lim tab.get S 187 q 3 [x0, x1, x2, x3, x4, x5, x6, x7, x8, x9, x10] h = b187_3 (orc S (lim tab.get S)) (lim tab.get S 187 q) q x0 x1 x2 x3 x4 x5 x6 x7 x8 x9 x10 h := (qAA k187 q 3 _ h).trans (e187_3 ..).symm
theorem w187_4 (S : Oracle) (q : Nat) (x0 x1 x2 x3 x4 x5 x6 x7 : TVal) (h : Heap) : lim tab.get S 187 q 4 [x0, x1, x2, x3, x4, x5, x6, x7] h = b187_4 (orc S (lim tab.get S)) (lim tab.get S 187 q) q x0 x1 x2 x3 x4 x5 x6 x7 h := (qAA k187 q 4 _ h).trans (e187_4 ..).symm
theorem w187_5 (S : Oracle) (q : Nat) (x0 x1 x2 x3 x4 x5 x6 x7 x8 : TVal) (h : Heap) : lim tab.get S 187 q 5 [x0, x1, x2, x3, x4, x5, x6, x7, x8] h = b187_5 (orc S (lim tab.get S)) (lim tab.get S 187 q) q x0 x1 x2 x3 x4 x5 x6 x7 x8 h := (qAA k187 q 5 _ h).trans (e187_5 ..).symm
theorem w187_6 (S : Oracle) (q : Nat) (x0 x1 x2 x3 x4 x5 x6 x7 : TVal) (h : Heap) : lim tab.get S 187 q 6 [x0, x1, x2, x3, x4, x5, x6, x7] h = b187_6 (orc S (lim tab.get S)) (lim tab.get S 187 q) q x0 x1 x2 x3 x4 x5 x6 x7 h := (qAA k187 q 6 _ h).trans (e187_6 ..).symm
theorem w187_7 (S : Oracle) (q : Nat) (x0 x1 x2 x3 x4 x5 x6 : TVal) (h : Heap) : lim tab.get S 187 q 7 [x0, x1, x2, x3, x4, x5, x6] h = b187_7 (orc S (lim tab.get S)) (lim tab.get S 187 q) q x0 x1 x2 x3 x4 x5 x6 h := (qAA k187 q 7 _ h).trans (e187_7 ..).symm
theorem w187_8 (S : Oracle) (q : Nat) (x0 x1 x2 x3 x4 x5 : TVal) (h : Heap) : lim tab.get S 187 q 8 [x0, x1, x2, x3, x4, x5] h = b187_8 (orc S (lim tab.get S)) (lim tab.get S 187 q) q x0 x1 x2 x3 x4 x5 h := (qAA k187 q 8 _ h).trans (e187_8 ..).symm
theorem k188 : tab.get 188 = some c188 := by kernel_rfl
theorem w188_0 (S : Oracle) (q : Nat) (x0 x1 : TVal) (h : Heap) : lim tab.get S 188 q 0 [x0, x1] h = b188_0 (orc S (lim tab.get S)) (lim tab.get S 188 q) q x0 x1 h := (qAA k188 q 0 _ h).trans (e188_0 ..).symm
theorem k190 : tab.get 190 = some c190 := by kernel_rfl
theorem w190_0 (S : Oracle) (q : Nat) (x0 : TVal) (h : Heap) : lim tab.get S 190 q 0 [x0] h = b190_0 (orc S (lim tab.get S)) (lim tab.get S 190 q) q x0 h := (qAA k190 q 0 _ h).trans (e190_0 ..).symm
theorem k191 : tab.get 191 = some c191 := by kernel_rfl
theorem w191_0 (S : Oracle) (q : Nat) (x0 x1 : TVal) (h : Heap) : lim tab.get S 191 q 0 [x0, x1] h = b191_0 (orc S (lim tab.get S)) (lim tab.get S 191 q) q x0 x1 h := (qAA k191 q 0 _ h).trans (e191_0 ..).symm
theorem w191_1 (S : Oracle) (q : Nat) (x0 x1 x2 x3 x4 x5 x6 : TVal) (h : Heap) : lim tab.get S 191 q 1 [x0, x1, x2, x3, x4, x5, x6] h = b191_1 (orc S (lim tab.get S)) (lim tab.get S 191 q) q x0 x1 x2 x3 x4 x5 x6 h := (qAA k191 q 1 _ h).trans (e191_1 ..).symm
theorem w191_2 (S : Oracle) (q : Nat) (x0 x1 x2 x3 x4 x5 : TVal) (h : Heap) : lim tab.get S 191 q 2 [x0, x1, x2, x3, x4, x5] h = b191_2 (orc S (lim tab.get S)) (lim tab.get S 191 q) q x0 x1 x2 x3 x4 x5 h := (qAA k191 q 2 _ h).trans (e191_2 ..).symm
theorem w191_3 (S : Oracle) (q : Nat) (x0 x1 x2 x3 x4 x5 x6 : TVal) (h : Heap) : lim tab.get S 191 q 3 [x0, x1, x2, x3, x4, x5, x6] h = b191_3 (orc S (lim tab.get S)) (lim tab.get S 191 q) q x0 x1 x2 x3 x4 x5 x6 h := (qAA k191 q 3 _ h).trans (e191_3 ..).symm
theorem k192 : tab.get 192 = some c192 := by kernel_rfl
theorem w192_0 (S : Oracle) (q : Nat) (x0 : TVal) (h : Heap) : lim tab.get S 192 q 0 [x0] h = b192_0 (orc S (lim tab.get S)) (lim tab.get S 192 q) q x0 h := (qAA k192 q 0 _ h).trans (e192_0 ..).symm
theorem k193 : tab.get 193 = some c193 := by kernel_rfl
theorem w193_0 (S : Oracle) (q : Nat) (x0 : TVal) (h : Heap) : lim tab.get S 193 q 0 [x0] h = b193_0 (orc S (lim tab.get S)) (lim tab.get S 193 q) q x0 h := (qAA k193 q 0 _ h).trans (e193_0 ..).symm
theorem w193_1 (S : Oracle) (q : Nat) (x0 x1 : TVal) (h : Heap) : lim tab.get S 193 q 1 [x0, x1] h = b193_1 (orc S (lim tab.get S)) (lim tab.get S 193 q) q x0 x1 h := (qAA k193 q 1 _ h).trans (e193_1 ..).symm
theorem w193_2 (S : Oracle) (q : Nat) (x0 x1 : TVal) (h : Heap) : lim tab.get S 193 q 2 [x0, x1] h = b193_2 (orc S (lim tab.get S)) (lim tab.get S 193 q) q x0 x1 h := (qAA k193 q 2 _ h).trans (e193_2 ..).symm
theorem w193_3 (S : Oracle) (q : Nat) (x0 x1 : TVal) (h : Heap) : lim tab.get S 193 q 3 [x0, x1] h = b193_3 (orc S (lim tab.get S)) (lim tab.get S 193 q) q x0 x1 h := (qAA k193 q 3 _ h).trans (e193_3 ..).symm
theorem k194 : tab.get 194 = some c194 := by kernel_rfl
theorem w194_0 (S : Oracle) (q : Nat) (x0 : TVal) (h : Heap) : lim tab.get S 194 q 0 [x0] h = b194_0 (orc S (lim tab.get S)) (lim tab.get S 194 q) q x0 h := (qAA k194 q 0 _ h).trans (e194_0 ..).symm
theorem k195 : tab.get 195 = some c195 := by kernel_rfl
theorem w195_0 (S : Oracle) (q : Nat) (x0 : TVal) (h : Heap) : lim tab.get S 195 q 0 [x0] h = b195_0 (orc S (lim tab.get S)) (lim tab.get S 195 q) q x0 h := (qAA k195 q 0 _ h).trans (e195_0 ..).symm
theorem k196 : tab.get 196 = some c196 := by kernel_rfl
theorem w196_0 (S : Oracle) (q : Nat) (x0 : TVal) (h : Heap) : lim tab.get S 196 q 0 [x0] h = b196_0 (orc S (lim tab.get S)) (lim tab.get S 196 q) q x0 h := (qAA k196 q 0 _ h).trans (e196_0 ..).symm
theorem k198 : tab.get 198 = some c198 := by kernel_rfl
theorem w198_0 (S : Oracle) (q : Nat) (x0 : TVal) (h : Heap) : lim tab.get S 198 q 0 [x0] h = b198_0 (orc S (lim tab.get S)) (lim tab.get S 198 q) q x0 h := (qAA k198 q 0 _ h).trans (e198_0 ..).symm
theorem w198_1 (S : Oracle) (q : Nat) (x0 x1 x2 : TVal) (h : Heap) : lim tab.get S 198 q 1 [x0, x1, x2] h = b198_1 (orc S (lim tab.get S)) (lim tab.get S 198 q) q x0 x1 x2 h := (qAA k198 q 1 _ h).trans (e198_1 ..).symm
theorem w198_2 (S : Oracle) (q : Nat) (x0 x1 : TVal) (h : Heap) : lim tab.get S 198 q 2 [x0, x1] h = b198_2 (orc S (lim tab.get S)) (lim tab.get S 198 q) q x0 x1 h := (qAA k198 q 2 _ h).trans (e198_2 ..).symm
theorem w198_3 (S : Oracle) (q : Nat) (x0 x1 x2 x3 : TVal) (h : Heap) : lim tab.get S 198 q 3 [x0, x1, x2, x3] h = b198_3 (orc S (lim tab.get S)) (lim tab.get S 198 q) q x0 x1 x2 x3 h := (qAA k198 q 3 _ h).trans (e198_3 ..).symm
theorem w198_4 (S : Oracle) (q : Nat) (x0 x1 x2 x3 : TVal) (h : Heap) : lim tab.get S 198 q 4 [x0, x1, x2, x3] h = b198_4 (orc S (lim tab.get S)) (lim tab.get S 198 q) q x0 x1 x2 x3 h := (qAA k198 q 4 _ h).trans (e198_4 ..).symm
theorem k199 : tab.get 199 = some c199 := by kernel_rfl
theorem w199_0 (S : Oracle) (q : Nat) (x0 : TVal) (h : Heap) : lim tab.get S 199 q 0 [x0] h = b199_0 (orc S (lim tab.get S)) (lim tab.get S 199 q) q x0 h := (qAA k199 q 0 _ h).trans (e199_0 ..).symm
theorem k200 : tab.get 200 = some c200 := by kernel_rfl
theorem w200_0 (S : Oracle) (q : Nat) (x0 : TVal) (h : Heap) : lim tab.get S 200 q 0 [x0] h = b200_0 (orc S (lim tab.get S)) (lim tab.get S 200 q) q x0 h := (qAA k200 q 0 _ h).trans (e200_0 ..).symm
end Go.Proofs.YtlkejchbcchecaaDoor.Ab
