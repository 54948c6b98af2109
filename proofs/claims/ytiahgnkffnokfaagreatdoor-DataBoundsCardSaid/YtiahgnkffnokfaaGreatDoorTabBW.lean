/- The machine's equations, a piece at a time. Own work, printed by a program of our own; no condition. -/
import Derived.Test.YtiahgnkffnokfaaGreatDoorTabB
namespace Go.Proofs.YtiahgnkffnokfaaGreatDoor.Ab
open Go Go.AI
set_option linter.all false
set_option linter.unusedVariables false
set_option maxRecDepth 100000
theorem k10 : tab.get 10 = some c10 := by kernel_rfl
theorem w10_0 (S : Oracle) (q : Nat) (x0 x1 : TVal) (h : Heap) : lim tab.get S 10 q 0 [x0, x1] h = b10_0 (orc S (lim tab.get S)) (lim tab.get S 10 q) q x0 x1 h := (lim_eqF k10 q 0 _ h).trans (e10_0 ..).symm
theorem w10_1 (S : Oracle) (q : Nat) (x0 x1 x2 x3 x4 : TVal) (h : Heap) : lim tab.get S 10 q 1 [x0, x1, x2, x3, x4] h = b10_1 (orc S (lim tab.get S)) (lim tab.get S 10 q) q x0 x1 x2 x3 x4 h := (lim_eqF k10 q 1 _ h).trans (e10_1 ..).symm
theorem w10_2 (S : Oracle) (q : Nat) (x0 x1 x2 x3 x4 : TVal) (h : Heap) : lim tab.get S 10 q 2 [x0, x1, x2, x3, x4] h = b10_2 (orc S (lim tab.get S)) (lim tab.get S 10 q) q x0 x1 x2 x3 x4 h := (lim_eqF k10 q 2 _ h).trans (e10_2 ..).symm
theorem w10_3 (S : Oracle) (q : Nat) (x0 x1 x2 x3 : TVal) (h : Heap) : lim tab.get S 10 q 3 [x0, x1, x2, x3] h = b10_3 (orc S (lim tab.get S)) (lim tab.get S 10 q) q x0 x1 x2 x3 h := (lim_eqF k10 q 3 _ h).trans (e10_3 ..).symm
theorem w10_4 (S : Oracle) (q : Nat) (x0 x1 x2 x3 x4 x5 x6 : TVal) (h : Heap) : lim tab.get S 10 q 4 [x0, x1, x2, x3, x4, x5, x6] h = b10_4 (orc S (lim tab.get S)) (lim tab.get S 10 q) q x0 x1 x2 x3 x4 x5 x6 h := (lim_eqF k10 q 4 _ h).trans (e10_4 ..).symm
theorem w10_5 (S : Oracle) (q : Nat) (x0 x1 x2 x3 x4 : TVal) (h : Heap) : lim tab.get S 10 q 5 [x0, x1, x2, x3, x4] h = b10_5 (orc S (lim tab.get S)) (lim tab.get S 10 q) q x0 x1 x2 x3 x4 h := (lim_eqF k10 q 5 _ h).trans (e10_5 ..).symm
theorem w10_6 (S : Oracle) (q : Nat) (x0 x1 x2 x3 : TVal) (h : Heap) : lim tab.get S 10 q 6 [x0, x1, x2, x3] h = b10_6 (orc S (lim tab.get S)) (lim tab.get S 10 q) q x0 x1 x2 x3 h := (lim_eqF k10 q 6 _ h).trans (e10_6 ..).symm
theorem k11 : tab.get 11 = some c11 := by kernel_rfl
theorem w11_0 (S : Oracle) (q : Nat) (h : Heap) : lim tab.get S 11 q 0 [] h = b11_0 (orc S (lim tab.get S)) (lim tab.get S 11 q) q  h := (lim_eqF k11 q 0 _ h).trans (e11_0 ..).symm
theorem k12 : tab.get 12 = some c12 := by kernel_rfl
theorem w12_0 (S : Oracle) (q : Nat) (x0 x1 : TVal) (h : Heap) : lim tab.get S 12 q 0 [x0, x1] h = b12_0 (orc S (lim tab.get S)) (lim tab.get S 12 q) q x0 x1 h := (lim_eqF k12 q 0 _ h).trans (e12_0 ..).symm
theorem k13 : tab.get 13 = some c13 := by kernel_rfl
theorem w13_0 (S : Oracle) (q : Nat) (x0 : TVal) (h : Heap) : lim tab.get S 13 q 0 [x0] h = b13_0 (orc S (lim tab.get S)) (lim tab.get S 13 q) q x0 h := (lim_eqF k13 q 0 _ h).trans (e13_0 ..).symm
theorem w13_1 (S : Oracle) (q : Nat) (x0 x1 x2 : TVal) (h : Heap) : lim tab.get S 13 q 1 [x0, x1, x2] h = b13_1 (orc S (lim tab.get S)) (lim tab.get S 13 q) q x0 x1 x2 h := (lim_eqF k13 q 1 _ h).trans (e13_1 ..).symm
theorem w13_2 (S : Oracle) (q : Nat) (x0 x1 x2 : TVal) (h : Heap) : lim tab.get S 13 q 2 [x0, x1, x2] h = b13_2 (orc S (lim tab.get S)) (lim tab.get S 13 q) q x0 x1 x2 h := (lim_eqF k13 q 2 _ h).trans (e13_2 ..).symm
theorem k14 : tab.get 14 = some c14 := by kernel_rfl
theorem w14_0 (S : Oracle) (q : Nat) (x0 : TVal) (h : Heap) : lim tab.get S 14 q 0 [x0] h = b14_0 (orc S (lim tab.get S)) (lim tab.get S 14 q) q x0 h := (lim_eqF k14 q 0 _ h).trans (e14_0 ..).symm
theorem w14_1 (S : Oracle) (q : Nat) (x0 x1 x2 x3 : TVal) (h : Heap) : lim tab.get S 14 q 1 [x0, x1, x2, x3] h = b14_1 (orc S (lim tab.get S)) (lim tab.get S 14 q) q x0 x1 x2 x3 h := (lim_eqF k14 q 1 _ h).trans (e14_1 ..).symm
theorem w14_2 (S : Oracle) (q : Nat) (x0 : TVal) (h : Heap) : lim tab.get S 14 q 2 [x0] h = b14_2 (orc S (lim tab.get S)) (lim tab.get S 14 q) q x0 h := (lim_eqF k14 q 2 _ h).trans (e14_2 ..).symm
theorem w14_3 (S : Oracle) (q : Nat) (x0 x1 : TVal) (h : Heap) : lim tab.get S 14 q 3 [x0, x1] h = b14_3 (orc S (lim tab.get S)) (lim tab.get S 14 q) q x0 x1 h := (lim_eqF k14 q 3 _ h).trans (e14_3 ..).symm
theorem w14_4 (S : Oracle) (q : Nat) (x0 x1 x2 x3 x4 : TVal) (h : Heap) : lim tab.get S 14 q 4 [x0, x1, x2, x3, x4] h = b14_4 (orc S (lim tab.get S)) (lim tab.get S 14 q) q x0 x1 x2 x3 x4 h := (lim_eqF k14 q 4 _ h).trans (e14_4 ..).symm
theorem w14_5 (S : Oracle) (q : Nat) (x0 x1 x2 x3 x4 : TVal) (h : Heap) : lim tab.get S 14 q 5 [x0, x1, x2, x3, x4] h = b14_5 (orc S (lim tab.get S)) (lim tab.get S 14 q) q x0 x1 x2 x3 x4 h := (lim_eqF k14 q 5 _ h).trans (e14_5 ..).symm
theorem w14_6 (S : Oracle) (q : Nat) (x0 : TVal) (h : Heap) : lim tab.get S 14 q 6 [x0] h = b14_6 (orc S (lim tab.get S)) (lim tab.get S 14 q) q x0 h := (lim_eqF k14 q 6 _ h).trans (e14_6 ..).symm
theorem k24 : tab.get 24 = some c24 := by kernel_rfl
theorem w24_0 (S : Oracle) (q : Nat) (x0 : TVal) (h : Heap) : lim tab.get S 24 q 0 [x0] h = b24_0 (orc S (lim tab.get S)) (lim tab.get S 24 q) q x0 h := (lim_eqF k24 q 0 _ h).trans (e24_0 ..).symm
theorem k25 : tab.get 25 = some c25 := by kernel_rfl
theorem w25_0 (S : Oracle) (q : Nat) (x0 : TVal) (h : Heap) : lim tab.get S 25 q 0 [x0] h = b25_0 (orc S (lim tab.get S)) (lim tab.get S 25 q) q x0 h := (lim_eqF k25 q 0 _ h).trans (e25_0 ..).symm
theorem k26 : tab.get 26 = some c26 := by kernel_rfl
theorem w26_0 (S : Oracle) (q : Nat) (x0 x1 : TVal) (h : Heap) : lim tab.get S 26 q 0 [x0, x1] h = b26_0 (orc S (lim tab.get S)) (lim tab.get S 26 q) q x0 x1 h := (lim_eqF k26 q 0 _ h).trans (e26_0 ..).symm
theorem k27 : tab.get 27 = some c27 := by kernel_rfl
theorem w27_0 (S : Oracle) (q : Nat) (x0 : TVal) (h : Heap) : lim tab.get S 27 q 0 [x0] h = b27_0 (orc S (lim tab.get S)) (lim tab.get S 27 q) q x0 h := (lim_eqF k27 q 0 _ h).trans (e27_0 ..).symm
theorem k28 : tab.get 28 = some c28 := by kernel_rfl
theorem w28_0 (S : Oracle) (q : Nat) (x0 x1 : TVal) (h : Heap) : lim tab.get S 28 q 0 [x0, x1] h = b28_0 (orc S (lim tab.get S)) (lim tab.get S 28 q) q x0 x1 h := (lim_eqF k28 q 0 _ h).trans (e28_0 ..).symm
theorem k29 : tab.get 29 = some c29 := by kernel_rfl
theorem w29_0 (S : Oracle) (q : Nat) (x0 : TVal) (h : Heap) : lim tab.get S 29 q 0 [x0] h = b29_0 (orc S (lim tab.get S)) (lim tab.get S 29 q) q x0 h := (lim_eqF k29 q 0 _ h).trans (e29_0 ..).symm
theorem k30 : tab.get 30 = some c30 := by kernel_rfl
theorem w30_0 (S : Oracle) (q : Nat) (x0 x1 : TVal) (h : Heap) : lim tab.get S 30 q 0 [x0, x1] h = b30_0 (orc S (lim tab.get S)) (lim tab.get S 30 q) q x0 x1 h := (lim_eqF k30 q 0 _ h).trans (e30_0 ..).symm
theorem k31 : tab.get 31 = some c31 := by kernel_rfl
theorem w31_0 (S : Oracle) (q : Nat) (x0 : TVal) (h : Heap) : lim tab.get S 31 q 0 [x0] h = b31_0 (orc S (lim tab.get S)) (lim tab.get S 31 q) q x0 h := (lim_eqF k31 q 0 _ h).trans (e31_0 ..).symm
theorem k32 : tab.get 32 = some c32 := by kernel_rfl
theorem w32_0 (S : Oracle) (q : Nat) (x0 x1 : TVal) (h : Heap) : lim tab.get S 32 q 0 [x0, x1] h = b32_0 (orc S (lim tab.get S)) (lim tab.get S 32 q) q x0 x1 h := (lim_eqF k32 q 0 _ h).trans (e32_0 ..).symm
theorem w32_1 (S : Oracle) (q : Nat) (x0 x1 x2 : TVal) (h : Heap) : lim tab.get S 32 q 1 [x0, x1, x2] h = b32_1 (orc S (lim tab.get S)) (lim tab.get S 32 q) q x0 x1 x2 h := (lim_eqF k32 q 1 _ h).trans (e32_1 ..).symm
theorem w32_2 (S : Oracle) (q : Nat) (x0 x1 x2 : TVal) (h : Heap) : lim tab.get S 32 q 2 [x0, x1, x2] h = b32_2 (orc S (lim tab.get S)) (lim tab.get S 32 q) q x0 x1 x2 h := (lim_eqF k32 q 2 _ h).trans (e32_2 ..).symm
theorem w32_3 (S : Oracle) (q : Nat) (x0 x1 x2 x3 x4 x5 : TVal) (h : Heap) : lim tab.get S 32 q 3 [x0, x1, x2, x3, x4, x5] h = b32_3 (orc S (lim tab.get S)) (lim tab.get S 32 q) q x0 x1 x2 x3 x4 x5 h := (lim_eqF k32 q 3 _ h).trans (e32_3 ..).symm
theorem w32_4 (S : Oracle) (q : Nat) (x0 x1 x2 x3 x4 x5 x6 : TVal) (h : Heap) : lim tab.get S 32 q 4 [x0, x1, x2, x3, x4, x5, x6] h = b32_4 (orc S (lim tab.get S)) (lim tab.get S 32 q) q x0 x1 x2 x3 x4 x5 x6 h := (lim_eqF k32 q 4 _ h).trans (e32_4 ..).symm
theorem w32_5 (S : Oracle) (q : Nat) (x0 x1 x2 : TVal) (h : Heap) : lim tab.get S 32 q 5 [x0, x1, x2] h = b32_5 (orc S (lim tab.get S)) (lim tab.get S 32 q) q x0 x1 x2 h := (lim_eqF k32 q 5 _ h).trans (e32_5 ..).symm
theorem w32_6 (S : Oracle) (q : Nat) (x0 x1 x2 x3 x4 : TVal) (h : Heap) : lim tab.get S 32 q 6 [x0, x1, x2, x3, x4] h = b32_6 (orc S (lim tab.get S)) (lim tab.get S 32 q) q x0 x1 x2 x3 x4 h := (lim_eqF k32 q 6 _ h).trans (e32_6 ..).symm
theorem w32_7 (S : Oracle) (q : Nat) (x0 : TVal) (h : Heap) : lim tab.get S 32 q 7 [x0] h = b32_7 (orc S (lim tab.get S)) (lim tab.get S 32 q) q x0 h := (lim_eqF k32 q 7 _ h).trans (e32_7 ..).symm
theorem k44 : tab.get 44 = some c44 := by kernel_rfl
theorem w44_0 (S : Oracle) (q : Nat) (x0 x1 x2 : TVal) (h : Heap) : lim tab.get S 44 q 0 [x0, x1, x2] h = b44_0 (orc S (lim tab.get S)) (lim tab.get S 44 q) q x0 x1 x2 h := (lim_eqF k44 q 0 _ h).trans (e44_0 ..).symm
theorem w44_1 (S : Oracle) (q : Nat) (x0 x1 x2 x3 x4 : TVal) (h : Heap) : lim tab.get S 44 q 1 [x0, x1, x2, x3, x4] h = b44_1 (orc S (lim tab.get S)) (lim tab.get S 44 q) q x0 x1 x2 x3 x4 h := (lim_eqF k44 q 1 _ h).trans (e44_1 ..).symm
theorem k45 : tab.get 45 = some c45 := by kernel_rfl
theorem w45_0 (S : Oracle) (q : Nat) (x0 x1 x2 : TVal) (h : Heap) : lim tab.get S 45 q 0 [x0, x1, x2] h = b45_0 (orc S (lim tab.get S)) (lim tab.get S 45 q) q x0 x1 x2 h := (lim_eqF k45 q 0 _ h).trans (e45_0 ..).symm
theorem w45_1 (S : Oracle) (q : Nat) (x0 x1 x2 x3 : TVal) (h : Heap) : lim tab.get S 45 q 1 [x0, x1, x2, x3] h = b45_1 (orc S (lim tab.get S)) (lim tab.get S 45 q) q x0 x1 x2 x3 h := (lim_eqF k45 q 1 _ h).trans (e45_1 ..).symm
theorem w45_2 (S : Oracle) (q : Nat) (x0 x1 x2 : TVal) (h : Heap) : lim tab.get S 45 q 2 [x0, x1, x2] h = b45_2 (orc S (lim tab.get S)) (lim tab.get S 45 q) q x0 x1 x2 h := (lim_eqF k45 q 2 _ h).trans (e45_2 ..).symm
theorem w45_3 (S : Oracle) (q : Nat) (x0 x1 x2 x3 : TVal) (h : Heap) : lim tab.get S 45 q 3 [x0, x1, x2, x3] h = b45_3 (orc S (lim tab.get S)) (lim tab.get S 45 q) q x0 x1 x2 x3 h := (lim_eqF k45 q 3 _ h).trans (e45_3 ..).symm
theorem w45_4 (S : Oracle) (q : Nat) (x0 x1 x2 : TVal) (h : Heap) : lim tab.get S 45 q 4 [x0, x1, x2] h = b45_4 (orc S (lim tab.get S)) (lim tab.get S 45 q) q x0 x1 x2 h := (lim_eqF k45 q 4 _ h).trans (e45_4 ..).symm
theorem w45_5 (S : Oracle) (q : Nat) (x0 x1 x2 x3 : TVal) (h : Heap) : lim tab.get S 45 q 5 [x0, x1, x2, x3] h = b45_5 (orc S (lim tab.get S)) (lim tab.get S 45 q) q x0 x1 x2 x3 h := (lim_eqF k45 q 5 _ h).trans (e45_5 ..).symm
theorem k46 : tab.get 46 = some c46 := by kernel_rfl
theorem w46_0 (S : Oracle) (q : Nat) (x0 x1 : TVal) (h : Heap) : lim tab.get S 46 q 0 [x0, x1] h = b46_0 (orc S (lim tab.get S)) (lim tab.get S 46 q) q x0 x1 h := (lim_eqF k46 q 0 _ h).trans (e46_0 ..).symm
theorem k47 : tab.get 47 = some c47 := by kernel_rfl
theorem w47_0 (S : Oracle) (q : Nat) (x0 : TVal) (h : Heap) : lim tab.get S 47 q 0 [x0] h = b47_0 (orc S (lim tab.get S)) (lim tab.get S 47 q) q x0 h := (lim_eqF k47 q 0 _ h).trans (e47_0 ..).symm
theorem w47_1 (S : Oracle) (q : Nat) (x0 x1 x2 x3 : TVal) (h : Heap) : lim tab.get S 47 q 1 [x0, x1, x2, x3] h = b47_1 (orc S (lim tab.get S)) (lim tab.get S 47 q) q x0 x1 x2 x3 h := (lim_eqF k47 q 1 _ h).trans (e47_1 ..).symm
theorem w47_2 (S : Oracle) (q : Nat) (x0 : TVal) (h : Heap) : lim tab.get S 47 q 2 [x0] h = b47_2 (orc S (lim tab.get S)) (lim tab.get S 47 q) q x0 h := (lim_eqF k47 q 2 _ h).trans (e47_2 ..).symm
theorem k48 : tab.get 48 = some c48 := by kernel_rfl
theorem w48_0 (S : Oracle) (q : Nat) (x0 x1 : TVal) (h : Heap) : lim tab.get S 48 q 0 [x0, x1] h = b48_0 (orc S (lim tab.get S)) (lim tab.get S 48 q) q x0 x1 h := (lim_eqF k48 q 0 _ h).trans (e48_0 ..).symm
theorem k49 : tab.get 49 = some c49 := by kernel_rfl
theorem w49_0 (S : Oracle) (q : Nat) (x0 : TVal) (h : Heap) : lim tab.get S 49 q 0 [x0] h = b49_0 (orc S (lim tab.get S)) (lim tab.get S 49 q) q x0 h := (lim_eqF k49 q 0 _ h).trans (e49_0 ..).symm
theorem w49_1 (S : Oracle) (q : Nat) (x0 x1 x2 : TVal) (h : Heap) : lim tab.get S 49 q 1 [x0, x1, x2] h = b49_1 (orc S (lim tab.get S)) (lim tab.get S 49 q) q x0 x1 x2 h := (lim_eqF k49 q 1 _ h).trans (e49_1 ..).symm
theorem w49_2 (S : Oracle) (q : Nat) (x0 x1 x2 : TVal) (h : Heap) : lim tab.get S 49 q 2 [x0, x1, x2] h = b49_2 (orc S (lim tab.get S)) (lim tab.get S 49 q) q x0 x1 x2 h := (lim_eqF k49 q 2 _ h).trans (e49_2 ..).symm
theorem w49_3 (S : Oracle) (q : Nat) (x0 : TVal) (h : Heap) : lim tab.get S 49 q 3 [x0] h = b49_3 (orc S (lim tab.get S)) (lim tab.get S 49 q) q x0 h := (lim_eqF k49 q 3 _ h).trans (e49_3 ..).symm
theorem k50 : tab.get 50 = some c50 := by kernel_rfl
theorem w50_0 (S : Oracle) (q : Nat) (x0 x1 x2 : TVal) (h : Heap) : lim tab.get S 50 q 0 [x0, x1, x2] h = b50_0 (orc S (lim tab.get S)) (lim tab.get S 50 q) q x0 x1 x2 h := (lim_eqF k50 q 0 _ h).trans (e50_0 ..).symm
theorem w50_1 (S : Oracle) (q : Nat) (x0 x1 x2 : TVal) (h : Heap) : lim tab.get S 50 q 1 [x0, x1, x2] h = b50_1 (orc S (lim tab.get S)) (lim tab.get S 50 q) q x0 x1 x2 h := (lim_eqF k50 q 1 _ h).trans (e50_1 ..).symm
theorem w50_2 (S : Oracle) (q : Nat) (x0 x1 : TVal) (h : Heap) : lim tab.get S 50 q 2 [x0, x1] h = b50_2 (orc S (lim tab.get S)) (lim tab.get S 50 q) q x0 x1 h := (lim_eqF k50 q 2 _ h).trans (e50_2 ..).symm
theorem k51 : tab.get 51 = some c51 := by kernel_rfl
theorem w51_0 (S : Oracle) (q : Nat) (x0 x1 x2 : TVal) (h : Heap) : lim tab.get S 51 q 0 [x0, x1, x2] h = b51_0 (orc S (lim tab.get S)) (lim tab.get S 51 q) q x0 x1 x2 h := (lim_eqF k51 q 0 _ h).trans (e51_0 ..).symm
theorem k52 : tab.get 52 = some c52 := by kernel_rfl
theorem w52_0 (S : Oracle) (q : Nat) (x0 x1 : TVal) (h : Heap) : lim tab.get S 52 q 0 [x0, x1] h = b52_0 (orc S (lim tab.get S)) (lim tab.get S 52 q) q x0 x1 h := (lim_eqF k52 q 0 _ h).trans (e52_0 ..).symm
theorem w52_1 (S : Oracle) (q : Nat) (x0 x1 x2 x3 x4 x5 x6 : TVal) (h : Heap) : lim tab.get S 52 q 1 [x0, x1, x2, x3, x4, x5, x6] h = b52_1 (orc S (lim tab.get S)) (lim tab.get S 52 q) q x0 x1 x2 x3 x4 x5 x6 h := (lim_eqF k52 q 1 _ h).trans (e52_1 ..).symm
theorem w52_2 (S : Oracle) (q : Nat) (x0 x1 x2 x3 x4 x5 x6 x7 : TVal) (h : Heap) : lim tab.get S 52 q 2 [x0, x1, x2, x3, x4, x5, x6, x7] h = b52_2 (orc S (lim tab.get S)) (lim tab.get S 52 q) q x0 x1 x2 x3 x4 x5 x6 x7 h := (lim_eqF k52 q 2 _ h).trans (e52_2 ..).symm
theorem w52_3 (S : Oracle) (q : Nat) (x0 x1 : TVal) (h : Heap) : lim tab.get S 52 q 3 [x0, x1] h = b52_3 (orc S (lim tab.get S)) (lim tab.get S 52 q) q x0 x1 h := (lim_eqF k52 q 3 _ h).trans (e52_3 ..).symm
theorem k53 : tab.get 53 = some c53 := by kernel_rfl
theorem w53_0 (S : Oracle) (q : Nat) (x0 : TVal) (h : Heap) : lim tab.get S 53 q 0 [x0] h = b53_0 (orc S (lim tab.get S)) (lim tab.get S 53 q) q x0 h := (lim_eqF k53 q 0 _ h).trans (e53_0 ..).symm
theorem w53_1 (S : Oracle) (q : Nat) (x0 x1 x2 x3 : TVal) (h : Heap) : lim tab.get S 53 q 1 [x0, x1, x2, x3] h = b53_1 (orc S (lim tab.get S)) (lim tab.get S 53 q) q x0 x1 x2 x3 h := (lim_eqF k53 q 1 _ h).trans (e53_1 ..).symm
theorem w53_2 (S : Oracle) (q : Nat) (x0 x1 x2 x3 x4 x5 : TVal) (h : Heap) : lim tab.get S 53 q 2 [x0, x1, x2, x3, x4, x5] h = b53_2 (orc S (lim tab.get S)) (lim tab.get S 53 q) q x0 x1 x2 x3 x4 x5 h := (lim_eqF k53 q 2 _ h).trans (e53_2 ..).symm
theorem w53_3 (S : Oracle) (q : Nat) (x0 x1 x2 x3 x4 x5 x6 : TVal) (h : Heap) : lim tab.get S 53 q 3 [x0, x1, x2, x3, x4, x5, x6] h = b53_3 (orc S (lim tab.get S)) (lim tab.get S 53 q) q x0 x1 x2 x3 x4 x5 x6 h := (lim_eqF k53 q 3 _ h).trans (e53_3 ..).symm
theorem w53_4 (S : Oracle) (q : Nat) (x0 x1 x2 x3 x4 x5 : TVal) (h : Heap) : lim tab.get S 53 q 4 [x0, x1, x2, x3, x4, x5] h = b53_4 (orc S (lim tab.get S)) (lim tab.get S 53 q) q x0 x1 x2 x3 x4 x5 h := (lim_eqF k53 q 4 _ h).trans (e53_4 ..).symm
theorem w53_5 (S : Oracle) (q : Nat) (x0 x1 x2 x3 x4 : TVal) (h : Heap) : lim tab.get S 53 q 5 [x0, x1, x2, x3, x4] h = b53_5 (orc S (lim tab.get S)) (lim tab.get S 53 q) q x0 x1 x2 x3 x4 h := (lim_eqF k53 q 5 _ h).trans (e53_5 ..).symm
theorem k54 : tab.get 54 = some c54 := by kernel_rfl
theorem w54_0 (S : Oracle) (q : Nat) (x0 x1 : TVal) (h : Heap) : lim tab.get S 54 q 0 [x0, x1] h = b54_0 (orc S (lim tab.get S)) (lim tab.get S 54 q) q x0 x1 h := (lim_eqF k54 q 0 _ h).trans (e54_0 ..).symm
theorem k55 : tab.get 55 = some c55 := by kernel_rfl
theorem w55_0 (S : Oracle) (q : Nat) (x0 : TVal) (h : Heap) : lim tab.get S 55 q 0 [x0] h = b55_0 (orc S (lim tab.get S)) (lim tab.get S 55 q) q x0 h := (lim_eqF k55 q 0 _ h).trans (e55_0 ..).symm
theorem k56 : tab.get 56 = some c56 := by kernel_rfl
theorem w56_0 (S : Oracle) (q : Nat) (x0 x1 : TVal) (h : Heap) : lim tab.get S 56 q 0 [x0, x1] h = b56_0 (orc S (lim tab.get S)) (lim tab.get S 56 q) q x0 x1 h := (lim_eqF k56 q 0 _ h).trans (e56_0 ..).symm
theorem w56_1 (S : Oracle) (q : Nat) (x0 x1 x2 : TVal) (h : Heap) : lim tab.get S 56 q 1 [x0, x1, x2] h = b56_1 (orc S (lim tab.get S)) (lim tab.get S 56 q) q x0 x1 x2 h := (lim_eqF k56 q 1 _ h).trans (e56_1 ..).symm
theorem k57 : tab.get 57 = some c57 := by kernel_rfl
theorem w57_0 (S : Oracle) (q : Nat) (x0 : TVal) (h : Heap) : lim tab.get S 57 q 0 [x0] h = b57_0 (orc S (lim tab.get S)) (lim tab.get S 57 q) q x0 h := (lim_eqF k57 q 0 _ h).trans (e57_0 ..).symm
theorem w57_1 (S : Oracle) (q : Nat) (x0 : TVal) (h : Heap) : lim tab.get S 57 q 1 [x0] h = b57_1 (orc S (lim tab.get S)) (lim tab.get S 57 q) q x0 h := (lim_eqF k57 q 1 _ h).trans (e57_1 ..).symm
theorem k58 : tab.get 58 = some c58 := by kernel_rfl
theorem w58_0 (S : Oracle) (q : Nat) (x0 x1 : TVal) (h : Heap) : lim tab.get S 58 q 0 [x0, x1] h = b58_0 (orc S (lim tab.get S)) (lim tab.get S 58 q) q x0 x1 h := (lim_eqF k58 q 0 _ h).trans (e58_0 ..).symm
theorem k59 : tab.get 59 = some c59 := by kernel_rfl
theorem w59_0 (S : Oracle) (q : Nat) (x0 x1 : TVal) (h : Heap) : lim tab.get S 59 q 0 [x0, x1] h = b59_0 (orc S (lim tab.get S)) (lim tab.get S 59 q) q x0 x1 h := (lim_eqF k59 q 0 _ h).trans (e59_0 ..).symm
theorem w59_1 (S : Oracle) (q : Nat) (x0 x1 : TVal) (h : Heap) : lim tab.get S 59 q 1 [x0, x1] h = b59_1 (orc S (lim tab.get S)) (lim tab.get S 59 q) q x0 x1 h := (lim_eqF k59 q 1 _ h).trans (e59_1 ..).symm
theorem k60 : tab.get 60 = some c60 := by kernel_rfl
theorem w60_0 (S : Oracle) (q : Nat) (x0 x1 : TVal) (h : Heap) : lim tab.get S 60 q 0 [x0, x1] h = b60_0 (orc S (lim tab.get S)) (lim tab.get S 60 q) q x0 x1 h := (lim_eqF k60 q 0 _ h).trans (e60_0 ..).symm
theorem k61 : tab.get 61 = some c61 := by kernel_rfl
theorem w61_0 (S : Oracle) (q : Nat) (x0 : TVal) (h : Heap) : lim tab.get S 61 q 0 [x0] h = b61_0 (orc S (lim tab.get S)) (lim tab.get S 61 q) q x0 h := (lim_eqF k61 q 0 _ h).trans (e61_0 ..).symm
theorem k71 : tab.get 71 = some c71 := by kernel_rfl
theorem w71_0 (S : Oracle) (q : Nat) (x0 : TVal) (h : Heap) : lim tab.get S 71 q 0 [x0] h = b71_0 (orc S (lim tab.get S)) (lim tab.get S 71 q) q x0 h := (lim_eqF k71 q 0 _ h).trans (e71_0 ..).symm
theorem w71_1 (S : Oracle) (q : Nat) (x0 : TVal) (h : Heap) : lim tab.get S 71 q 1 [x0] h = b71_1 (orc S (lim tab.get S)) (lim tab.get S 71 q) q x0 h := (lim_eqF k71 q 1 _ h).trans (e71_1 ..).symm
theorem w71_2 (S : Oracle) (q : Nat) (x0 : TVal) (h : Heap) : lim tab.get S 71 q 2 [x0] h = b71_2 (orc S (lim tab.get S)) (lim tab.get S 71 q) q x0 h := (lim_eqF k71 q 2 _ h).trans (e71_2 ..).symm
theorem k72 : tab.get 72 = some c72 := by kernel_rfl
theorem w72_0 (S : Oracle) (q : Nat) (x0 : TVal) (h : Heap) : lim tab.get S 72 q 0 [x0] h = b72_0 (orc S (lim tab.get S)) (lim tab.get S 72 q) q x0 h := (lim_eqF k72 q 0 _ h).trans (e72_0 ..).symm
theorem w72_1 (S : Oracle) (q : Nat) (x0 x1 x2 : TVal) (h : Heap) : lim tab.get S 72 q 1 [x0, x1, x2] h = b72_1 (orc S (lim tab.get S)) (lim tab.get S 72 q) q x0 x1 x2 h := (lim_eqF k72 q 1 _ h).trans (e72_1 ..).symm
theorem k73 : tab.get 73 = some c73 := by kernel_rfl
theorem w73_0 (S : Oracle) (q : Nat) (x0 : TVal) (h : Heap) : lim tab.get S 73 q 0 [x0] h = b73_0 (orc S (lim tab.get S)) (lim tab.get S 73 q) q x0 h := (lim_eqF k73 q 0 _ h).trans (e73_0 ..).symm
theorem k74 : tab.get 74 = some c74 := by kernel_rfl
theorem w74_0 (S : Oracle) (q : Nat) (x0 x1 : TVal) (h : Heap) : lim tab.get S 74 q 0 [x0, x1] h = b74_0 (orc S (lim tab.get S)) (lim tab.get S 74 q) q x0 x1 h := (lim_eqF k74 q 0 _ h).trans (e74_0 ..).symm
theorem k75 : tab.get 75 = some c75 := by kernel_rfl
theorem w75_0 (S : Oracle) (q : Nat) (x0 x1 : TVal) (h : Heap) : lim tab.get S 75 q 0 [x0, x1] h = b75_0 (orc S (lim tab.get S)) (lim tab.get S 75 q) q x0 x1 h := (lim_eqF k75 q 0 _ h).trans (e75_0 ..).symm
theorem k76 : tab.get 76 = some c76 := by kernel_rfl
theorem w76_0 (S : Oracle) (q : Nat) (x0 : TVal) (h : Heap) : lim tab.get S 76 q 0 [x0] h = b76_0 (orc S (lim tab.get S)) (lim tab.get S 76 q) q x0 h := (lim_eqF k76 q 0 _ h).trans (e76_0 ..).symm
theorem w76_1 (S : Oracle) (q : Nat) (x0 x1 : TVal) (h : Heap) : lim tab.get S 76 q 1 [x0, x1] h = b76_1 (orc S (lim tab.get S)) (lim tab.get S 76 q) q x0 x1 h := (lim_eqF k76 q 1 _ h).trans (e76_1 ..).symm
theorem w76_2 (S : Oracle) (q : Nat) (x0 : TVal) (h : Heap) : lim tab.get S 76 q 2 [x0] h = b76_2 (orc S (lim tab.get S)) (lim tab.get S 76 q) q x0 h := (lim_eqF k76 q 2 _ h).trans (e76_2 ..).symm
theorem k77 : tab.get 77 = some c77 := by kernel_rfl
theorem w77_0 (S : Oracle) (q : Nat) (x0 x1 : TVal) (h : Heap) : lim tab.get S 77 q 0 [x0, x1] h = b77_0 (orc S (lim tab.get S)) (lim tab.get S 77 q) q x0 x1 h := (lim_eqF k77 q 0 _ h).trans (e77_0 ..).symm
theorem k78 : tab.get 78 = some c78 := by kernel_rfl
theorem w78_0 (S : Oracle) (q : Nat) (x0 : TVal) (h : Heap) : lim tab.get S 78 q 0 [x0] h = b78_0 (orc S (lim tab.get S)) (lim tab.get S 78 q) q x0 h := (lim_eqF k78 q 0 _ h).trans (e78_0 ..).symm
theorem w78_1 (S : Oracle) (q : Nat) (x0 x1 : TVal) (h : Heap) : lim tab.get S 78 q 1 [x0, x1] h = b78_1 (orc S (lim tab.get S)) (lim tab.get S 78 q) q x0 x1 h := (lim_eqF k78 q 1 _ h).trans (e78_1 ..).symm
theorem k79 : tab.get 79 = some c79 := by kernel_rfl
theorem w79_0 (S : Oracle) (q : Nat) (x0 x1 : TVal) (h : Heap) : lim tab.get S 79 q 0 [x0, x1] h = b79_0 (orc S (lim tab.get S)) (lim tab.get S 79 q) q x0 x1 h := (lim_eqF k79 q 0 _ h).trans (e79_0 ..).symm
theorem k80 : tab.get 80 = some c80 := by kernel_rfl
theorem w80_0 (S : Oracle) (q : Nat) (x0 x1 x2 : TVal) (h : Heap) : lim tab.get S 80 q 0 [x0, x1, x2] h = b80_0 (orc S (lim tab.get S)) (lim tab.get S 80 q) q x0 x1 x2 h := (lim_eqF k80 q 0 _ h).trans (e80_0 ..).symm
theorem k81 : tab.get 81 = some c81 := by kernel_rfl
theorem w81_0 (S : Oracle) (q : Nat) (x0 x1 : TVal) (h : Heap) : lim tab.get S 81 q 0 [x0, x1] h = b81_0 (orc S (lim tab.get S)) (lim tab.get S 81 q) q x0 x1 h := (lim_eqF k81 q 0 _ h).trans (e81_0 ..).symm
theorem k82 : tab.get 82 = some c82 := by kernel_rfl
theorem w82_0 (S : Oracle) (q : Nat) (x0 x1 : TVal) (h : Heap) : lim tab.get S 82 q 0 [x0, x1] h = b82_0 (orc S (lim tab.get S)) (lim tab.get S 82 q) q x0 x1 h := (lim_eqF k82 q 0 _ h).trans (e82_0 ..).symm
theorem k83 : tab.get 83 = some c83 := by kernel_rfl
theorem w83_0 (S : Oracle) (q : Nat) (x0 x1 : TVal) (h : Heap) : lim tab.get S 83 q 0 [x0, x1] h = b83_0 (orc S (lim tab.get S)) (lim tab.get S 83 q) q x0 x1 h := (lim_eqF k83 q 0 _ h).trans (e83_0 ..).symm
theorem k84 : tab.get 84 = some c84 := by kernel_rfl
theorem w84_0 (S : Oracle) (q : Nat) (x0 x1 : TVal) (h : Heap) : lim tab.get S 84 q 0 [x0, x1] h = b84_0 (orc S (lim tab.get S)) (lim tab.get S 84 q) q x0 x1 h := (lim_eqF k84 q 0 _ h).trans (e84_0 ..).symm
theorem w84_1 (S : Oracle) (q : Nat) (x0 x1 : TVal) (h : Heap) : lim tab.get S 84 q 1 [x0, x1] h = b84_1 (orc S (lim tab.get S)) (lim tab.get S 84 q) q x0 x1 h := (lim_eqF k84 q 1 _ h).trans (e84_1 ..).symm
theorem k85 : tab.get 85 = some c85 := by kernel_rfl
theorem w85_0 (S : Oracle) (q : Nat) (x0 : TVal) (h : Heap) : lim tab.get S 85 q 0 [x0] h = b85_0 (orc S (lim tab.get S)) (lim tab.get S 85 q) q x0 h := (lim_eqF k85 q 0 _ h).trans (e85_0 ..).symm
theorem w85_1 (S : Oracle) (q : Nat) (x0 x1 x2 : TVal) (h : Heap) : lim tab.get S 85 q 1 [x0, x1, x2] h = b85_1 (orc S (lim tab.get S)) (lim tab.get S 85 q) q x0 x1 x2 h := (lim_eqF k85 q 1 _ h).trans (e85_1 ..).symm
theorem w85_2 (S : Oracle) (q : Nat) (x0 : TVal) (h : Heap) : lim tab.get S 85 q 2 [x0] h = b85_2 (orc S (lim tab.get S)) (lim tab.get S 85 q) q x0 h := (lim_eqF k85 q 2 _ h).trans (e85_2 ..).symm
theorem k86 : tab.get 86 = some c86 := by kernel_rfl
theorem w86_0 (S : Oracle) (q : Nat) (x0 x1 : TVal) (h : Heap) : lim tab.get S 86 q 0 [x0, x1] h = b86_0 (orc S (lim tab.get S)) (lim tab.get S 86 q) q x0 x1 h := (lim_eqF k86 q 0 _ h).trans (e86_0 ..).symm
theorem w86_1 (S : Oracle) (q : Nat) (x0 x1 : TVal) (h : Heap) : lim tab.get S 86 q 1 [x0, x1] h = b86_1 (orc S (lim tab.get S)) (lim tab.get S 86 q) q x0 x1 h := (lim_eqF k86 q 1 _ h).trans (e86_1 ..).symm
theorem k87 : tab.get 87 = some c87 := by kernel_rfl
theorem w87_0 (S : Oracle) (q : Nat) (x0 x1 : TVal) (h : Heap) : lim tab.get S 87 q 0 [x0, x1] h = b87_0 (orc S (lim tab.get S)) (lim tab.get S 87 q) q x0 x1 h := (lim_eqF k87 q 0 _ h).trans (e87_0 ..).symm
theorem w87_1 (S : Oracle) (q : Nat) (x0 x1 : TVal) (h : Heap) : lim tab.get S 87 q 1 [x0, x1] h = b87_1 (orc S (lim tab.get S)) (lim tab.get S 87 q) q x0 x1 h := (lim_eqF k87 q 1 _ h).trans (e87_1 ..).symm
theorem k88 : tab.get 88 = some c88 := by kernel_rfl
theorem w88_0 (S : Oracle) (q : Nat) (x0 : TVal) (h : Heap) : lim tab.get S 88 q 0 [x0] h = b88_0 (orc S (lim tab.get S)) (lim tab.get S 88 q) q x0 h := (lim_eqF k88 q 0 _ h).trans (e88_0 ..).symm
theorem k89 : tab.get 89 = some c89 := by kernel_rfl
theorem w89_0 (S : Oracle) (q : Nat) (x0 : TVal) (h : Heap) : lim tab.get S 89 q 0 [x0] h = b89_0 (orc S (lim tab.get S)) (lim tab.get S 89 q) q x0 h := (lim_eqF k89 q 0 _ h).trans (e89_0 ..).symm
theorem k90 : tab.get 90 = some c90 := by kernel_rfl
theorem w90_0 (S : Oracle) (q : Nat) (x0 x1 : TVal) (h : Heap) : lim tab.get S 90 q 0 [x0, x1] h = b90_0 (orc S (lim tab.get S)) (lim tab.get S 90 q) q x0 x1 h := (lim_eqF k90 q 0 _ h).trans (e90_0 ..).symm
theorem w90_1 (S : Oracle) (q : Nat) (x0 x1 x2 : TVal) (h : Heap) : lim tab.get S 90 q 1 [x0, x1, x2] h = b90_1 (orc S (lim tab.get S)) (lim tab.get S 90 q) q x0 x1 x2 h := (lim_eqF k90 q 1 _ h).trans (e90_1 ..).symm
theorem w90_2 (S : Oracle) (q : Nat) (x0 x1 x2 : TVal) (h : Heap) : lim tab.get S 90 q 2 [x0, x1, x2] h = b90_2 (orc S (lim tab.get S)) (lim tab.get S 90 q) q x0 x1 x2 h := (lim_eqF k90 q 2 _ h).trans (e90_2 ..).symm
theorem w90_3 (S : Oracle) (q : Nat) (x0 x1 x2 : TVal) (h : Heap) : lim tab.get S 90 q 3 [x0, x1, x2] h = b90_3 (orc S (lim tab.get S)) (lim tab.get S 90 q) q x0 x1 x2 h := (lim_eqF k90 q 3 _ h).trans (e90_3 ..).symm
theorem w90_4 (S : Oracle) (q : Nat) (x0 x1 x2 : TVal) (h : Heap) : lim tab.get S 90 q 4 [x0, x1, x2] h = b90_4 (orc S (lim tab.get S)) (lim tab.get S 90 q) q x0 x1 x2 h := (lim_eqF k90 q 4 _ h).trans (e90_4 ..).symm
theorem k91 : tab.get 91 = some c91 := by kernel_rfl
theorem w91_0 (S : Oracle) (q : Nat) (x0 x1 x2 x3 x4 : TVal) (h : Heap) : lim tab.get S 91 q 0 [x0, x1, x2, x3, x4] h = b91_0 (orc S (lim tab.get S)) (lim tab.get S 91 q) q x0 x1 x2 x3 x4 h := (lim_eqF k91 q 0 _ h).trans (e91_0 ..).symm
theorem w91_1 (S : Oracle) (q : Nat) (x0 x1 x2 x3 x4 x5 x6 : TVal) (h : Heap) : lim tab.get S 91 q 1 [x0, x1, x2, x3, x4, x5, x6] h = b91_1 (orc S (lim tab.get S)) (lim tab.get S 91 q) q x0 x1 x2 x3 x4 x5 x6 h := (lim_eqF k91 q 1 _ h).trans (e91_1 ..).symm
theorem w91_2 (S : Oracle) (q : Nat) (x0 x1 x2 x3 x4 x5 x6 x7 x8 : TVal) (h : Heap) : lim tab.get S 91 q 2 [x0, x1, x2, x3, x4, x5, x6, x7, x8] h = b91_2 (orc S (lim tab.get S)) (lim tab.get S 91 q) q x0 x1 x2 x3 x4 x5 x6 x7 x8 h := (lim_eqF k91 q 2 _ h).trans (e91_2 ..).symm
theorem w91_3 (S : Oracle) (q : Nat) (x0 x1 x2 x3 x4 x5 x6 x7 x8 x9 x10 : TVal) (h : Heap) : lim tab.get S 91 q 3 [x0, x1, x2, x3, x4, x5, x6, x7, x8, x9, x10] h = b91_3 (orc S (lim tab.get S)) (lim tab.get S 91 q) q x0 x1 x2 x3 x4 x5 x6 x7 x8 x9 x10 h := (lim_eqF k91 q 3 _ h).trans (e91_3 ..).symm
theorem w91_4 (S : Oracle) (q : Nat) (x0 x1 x2 x3 x4 x5 x6 x7 : TVal) (h : Heap) : lim tab.get S 91 q 4 [x0, x1, x2, x3, x4, x5, x6, x7] h = b91_4 (orc S (lim tab.get S)) (lim tab.get S 91 q) q x0 x1 x2 x3 x4 x5 x6 x7 h := (lim_eqF k91 q 4 _ h).trans (e91_4 ..).symm
theorem w91_5 (S : Oracle) (q : Nat) (x0 x1 x2 x3 x4 x5 x6 x7 x8 : TVal) (h : Heap) : lim tab.get S 91 q 5 [x0, x1, x2, x3, x4, x5, x6, x7, x8] h = b91_5 (orc S (lim tab.get S)) (lim tab.get S 91 q) q x0 x1 x2 x3 x4 x5 x6 x7 x8 h := (lim_eqF k91 q 5 _ h).trans (e91_5 ..).symm
theorem w91_6 (S : Oracle) (q : Nat) (x0 x1 x2 x3 x4 x5 x6 x7 : TVal) (h : Heap) : lim tab.get S 91 q 6 [x0, x1, x2, x3, x4, x5, x6, x7] h = b91_6 (orc S (lim tab.get S)) (lim tab.get S 91 q) q x0 x1 x2 x3 x4 x5 x6 x7 h := (lim_eqF k91 q 6 _ h).trans (e91_6 ..).symm
theorem w91_7 (S : Oracle) (q : Nat) (x0 x1 x2 x3 x4 x5 x6 : TVal) (h : Heap) : lim tab.get S 91 q 7 [x0, x1, x2, x3, x4, x5, x6] h = b91_7 (orc S (lim tab.get S)) (lim tab.get S 91 q) q x0 x1 x2 x3 x4 x5 x6 h := (lim_eqF k91 q 7 _ h).trans (e91_7 ..).symm
theorem w91_8 (S : Oracle) (q : Nat) (x0 x1 x2 x3 x4 x5 : TVal) (h : Heap) : lim tab.get S 91 q 8 [x0, x1, x2, x3, x4, x5] h = b91_8 (orc S (lim tab.get S)) (lim tab.get S 91 q) q x0 x1 x2 x3 x4 x5 h := (lim_eqF k91 q 8 _ h).trans (e91_8 ..).symm
theorem k92 : tab.get 92 = some c92 := by kernel_rfl
theorem w92_0 (S : Oracle) (q : Nat) (x0 x1 : TVal) (h : Heap) : lim tab.get S 92 q 0 [x0, x1] h = b92_0 (orc S (lim tab.get S)) (lim tab.get S 92 q) q x0 x1 h := (lim_eqF k92 q 0 _ h).trans (e92_0 ..).symm
theorem k94 : tab.get 94 = some c94 := by kernel_rfl
theorem w94_0 (S : Oracle) (q : Nat) (x0 : TVal) (h : Heap) : lim tab.get S 94 q 0 [x0] h = b94_0 (orc S (lim tab.get S)) (lim tab.get S 94 q) q x0 h := (lim_eqF k94 q 0 _ h).trans (e94_0 ..).symm
theorem k95 : tab.get 95 = some c95 := by kernel_rfl
theorem w95_0 (S : Oracle) (q : Nat) (x0 x1 : TVal) (h : Heap) : lim tab.get S 95 q 0 [x0, x1] h = b95_0 (orc S (lim tab.get S)) (lim tab.get S 95 q) q x0 x1 h := (lim_eqF k95 q 0 _ h).trans (e95_0 ..).symm
theorem k100 : tab.get 100 = some c100 := by kernel_rfl
theorem w100_0 (S : Oracle) (q : Nat) (x0 x1 : TVal) (h : Heap) : lim tab.get S 100 q 0 [x0, x1] h = b100_0 (orc S (lim tab.get S)) (lim tab.get S 100 q) q x0 x1 h := (lim_eqF k100 q 0 _ h).trans (e100_0 ..).symm
theorem k101 : tab.get 101 = some c101 := by kernel_rfl
theorem w101_0 (S : Oracle) (q : Nat) (x0 : TVal) (h : Heap) : lim tab.get S 101 q 0 [x0] h = b101_0 (orc S (lim tab.get S)) (lim tab.get S 101 q) q x0 h := (lim_eqF k101 q 0 _ h).trans (e101_0 ..).symm
theorem k102 : tab.get 102 = some c102 := by kernel_rfl
theorem w102_0 (S : Oracle) (q : Nat) (x0 x1 : TVal) (h : Heap) : lim tab.get S 102 q 0 [x0, x1] h = b102_0 (orc S (lim tab.get S)) (lim tab.get S 102 q) q x0 x1 h := (lim_eqF k102 q 0 _ h).trans (e102_0 ..).symm
theorem w102_1 (S : Oracle) (q : Nat) (x0 x1 x2 x3 x4 x5 x6 x7 : TVal) (h : Heap) : lim tab.get S 102 q 1 [x0, x1, x2, x3, x4, x5, x6, x7] h = b102_1 (orc S (lim tab.get S)) (lim tab.get S 102 q) q x0 x1 x2 x3 x4 x5 x6 x7 h := (lim_eqF k102 q 1 _ h).trans (e102_1 ..).symm
theorem w102_2 (S : Oracle) (q : Nat) (x0 x1 x2 x3 x4 x5 x6 x7 : TVal) (h : Heap) : lim tab.get S 102 q 2 [x0, x1, x2, x3, x4, x5, x6, x7] h = b102_2 (orc S (lim tab.get S)) (lim tab.get S 102 q) q x0 x1 x2 x3 x4 x5 x6 x7 h := (lim_eqF k102 q 2 _ h).trans (e102_2 ..).symm
theorem k103 : tab.get 103 = some c103 := by kernel_rfl
theorem w103_0 (S : Oracle) (q : Nat) (x0 x1 : TVal) (h : Heap) : lim tab.get S 103 q 0 [x0, x1] h = b103_0 (orc S (lim tab.get S)) (lim tab.get S 103 q) q x0 x1 h := (lim_eqF k103 q 0 _ h).trans (e103_0 ..).symm
theorem k104 : tab.get 104 = some c104 := by kernel_rfl
theorem w104_0 (S : Oracle) (q : Nat) (x0 x1 : TVal) (h : Heap) : lim tab.get S 104 q 0 [x0, x1] h = b104_0 (orc S (lim tab.get S)) (lim tab.get S 104 q) q x0 x1 h := (lim_eqF k104 q 0 _ h).trans (e104_0 ..).symm
theorem k105 : tab.get 105 = some c105 := by kernel_rfl
theorem w105_0 (S : Oracle) (q : Nat) (x0 x1 x2 : TVal) (h : Heap) : lim tab.get S 105 q 0 [x0, x1, x2] h = b105_0 (orc S (lim tab.get S)) (lim tab.get S 105 q) q x0 x1 x2 h := (lim_eqF k105 q 0 _ h).trans (e105_0 ..).symm
theorem w105_1 (S : Oracle) (q : Nat) (x0 x1 x2 x3 x4 x5 : TVal) (h : Heap) : lim tab.get S 105 q 1 [x0, x1, x2, x3, x4, x5] h = b105_1 (orc S (lim tab.get S)) (lim tab.get S 105 q) q x0 x1 x2 x3 x4 x5 h := (lim_eqF k105 q 1 _ h).trans (e105_1 ..).symm
theorem w105_2 (S : Oracle) (q : Nat) (x0 x1 x2 x3 x4 : TVal) (h : Heap) : lim tab.get S 105 q 2 [x0, x1, x2, x3, x4] h = b105_2 (orc S (lim tab.get S)) (lim tab.get S 105 q) q x0 x1 x2 x3 x4 h := (lim_eqF k105 q 2 _ h).trans (e105_2 ..).symm
theorem w105_3 (S : Oracle) (q : Nat) (x0 x1 x2 x3 : TVal) (h : Heap) : lim tab.get S 105 q 3 [x0, x1, x2, x3] h = b105_3 (orc S (lim tab.get S)) (lim tab.get S 105 q) q x0 x1 x2 x3 h := (lim_eqF k105 q 3 _ h).trans (e105_3 ..).symm
theorem w105_4 (S : Oracle) (q : Nat) (x0 x1 x2 x3 x4 x5 : TVal) (h : Heap) : lim tab.get S 105 q 4 [x0, x1, x2, x3, x4, x5] h = b105_4 (orc S (lim tab.get S)) (lim tab.get S 105 q) q x0 x1 x2 x3 x4 x5 h := (lim_eqF k105 q 4 _ h).trans (e105_4 ..).symm
theorem w105_5 (S : Oracle) (q : Nat) (x0 x1 x2 x3 x4 : TVal) (h : Heap) : lim tab.get S 105 q 5 [x0, x1, x2, x3, x4] h = b105_5 (orc S (lim tab.get S)) (lim tab.get S 105 q) q x0 x1 x2 x3 x4 h := (lim_eqF k105 q 5 _ h).trans (e105_5 ..).symm
theorem w105_6 (S : Oracle) (q : Nat) (x0 x1 x2 x3 : TVal) (h : Heap) : lim tab.get S 105 q 6 [x0, x1, x2, x3] h = b105_6 (orc S (lim tab.get S)) (lim tab.get S 105 q) q x0 x1 x2 x3 h := (lim_eqF k105 q 6 _ h).trans (e105_6 ..).symm
theorem k106 : tab.get 106 = some c106 := by kernel_rfl
theorem w106_0 (S : Oracle) (q : Nat) (x0 : TVal) (h : Heap) : lim tab.get S 106 q 0 [x0] h = b106_0 (orc S (lim tab.get S)) (lim tab.get S 106 q) q x0 h := (lim_eqF k106 q 0 _ h).trans (e106_0 ..).symm
theorem k107 : tab.get 107 = some c107 := by kernel_rfl
theorem w107_0 (S : Oracle) (q : Nat) (x0 x1 : TVal) (h : Heap) : lim tab.get S 107 q 0 [x0, x1] h = b107_0 (orc S (lim tab.get S)) (lim tab.get S 107 q) q x0 x1 h := (lim_eqF k107 q 0 _ h).trans (e107_0 ..).symm
theorem k108 : tab.get 108 = some c108 := by kernel_rfl
theorem w108_0 (S : Oracle) (q : Nat) (x0 : TVal) (h : Heap) : lim tab.get S 108 q 0 [x0] h = b108_0 (orc S (lim tab.get S)) (lim tab.get S 108 q) q x0 h := (lim_eqF k108 q 0 _ h).trans (e108_0 ..).symm
theorem k109 : tab.get 109 = some c109 := by kernel_rfl
theorem w109_0 (S : Oracle) (q : Nat) (x0 x1 : TVal) (h : Heap) : lim tab.get S 109 q 0 [x0, x1] h = b109_0 (orc S (lim tab.get S)) (lim tab.get S 109 q) q x0 x1 h := (lim_eqF k109 q 0 _ h).trans (e109_0 ..).symm
theorem k110 : tab.get 110 = some c110 := by kernel_rfl
theorem w110_0 (S : Oracle) (q : Nat) (x0 : TVal) (h : Heap) : lim tab.get S 110 q 0 [x0] h = b110_0 (orc S (lim tab.get S)) (lim tab.get S 110 q) q x0 h := (lim_eqF k110 q 0 _ h).trans (e110_0 ..).symm
theorem k111 : tab.get 111 = some c111 := by kernel_rfl
theorem w111_0 (S : Oracle) (q : Nat) (x0 : TVal) (h : Heap) : lim tab.get S 111 q 0 [x0] h = b111_0 (orc S (lim tab.get S)) (lim tab.get S 111 q) q x0 h := (lim_eqF k111 q 0 _ h).trans (e111_0 ..).symm
theorem w111_1 (S : Oracle) (q : Nat) (x0 x1 : TVal) (h : Heap) : lim tab.get S 111 q 1 [x0, x1] h = b111_1 (orc S (lim tab.get S)) (lim tab.get S 111 q) q x0 x1 h := (lim_eqF k111 q 1 _ h).trans (e111_1 ..).symm
theorem w111_2 (S : Oracle) (q : Nat) (x0 x1 : TVal) (h : Heap) : lim tab.get S 111 q 2 [x0, x1] h = b111_2 (orc S (lim tab.get S)) (lim tab.get S 111 q) q x0 x1 h := (lim_eqF k111 q 2 _ h).trans (e111_2 ..).symm
theorem w111_3 (S : Oracle) (q : Nat) (x0 x1 : TVal) (h : Heap) : lim tab.get S 111 q 3 [x0, x1] h = b111_3 (orc S (lim tab.get S)) (lim tab.get S 111 q) q x0 x1 h := (lim_eqF k111 q 3 _ h).trans (e111_3 ..).symm
theorem k112 : tab.get 112 = some c112 := by kernel_rfl
theorem w112_0 (S : Oracle) (q : Nat) (x0 : TVal) (h : Heap) : lim tab.get S 112 q 0 [x0] h = b112_0 (orc S (lim tab.get S)) (lim tab.get S 112 q) q x0 h := (lim_eqF k112 q 0 _ h).trans (e112_0 ..).symm
theorem k113 : tab.get 113 = some c113 := by kernel_rfl
theorem w113_0 (S : Oracle) (q : Nat) (x0 : TVal) (h : Heap) : lim tab.get S 113 q 0 [x0] h = b113_0 (orc S (lim tab.get S)) (lim tab.get S 113 q) q x0 h := (lim_eqF k113 q 0 _ h).trans (e113_0 ..).symm
theorem k114 : tab.get 114 = some c114 := by kernel_rfl
theorem w114_0 (S : Oracle) (q : Nat) (x0 : TVal) (h : Heap) : lim tab.get S 114 q 0 [x0] h = b114_0 (orc S (lim tab.get S)) (lim tab.get S 114 q) q x0 h := (lim_eqF k114 q 0 _ h).trans (e114_0 ..).symm
theorem k115 : tab.get 115 = some c115 := by kernel_rfl
theorem w115_0 (S : Oracle) (q : Nat) (x0 : TVal) (h : Heap) : lim tab.get S 115 q 0 [x0] h = b115_0 (orc S (lim tab.get S)) (lim tab.get S 115 q) q x0 h := (lim_eqF k115 q 0 _ h).trans (e115_0 ..).symm
theorem k116 : tab.get 116 = some c116 := by kernel_rfl
theorem w116_0 (S : Oracle) (q : Nat) (x0 x1 : TVal) (h : Heap) : lim tab.get S 116 q 0 [x0, x1] h = b116_0 (orc S (lim tab.get S)) (lim tab.get S 116 q) q x0 x1 h := (lim_eqF k116 q 0 _ h).trans (e116_0 ..).symm
theorem k120 : tab.get 120 = some c120 := by kernel_rfl
theorem w120_0 (S : Oracle) (q : Nat) (x0 x1 : TVal) (h : Heap) : lim tab.get S 120 q 0 [x0, x1] h = b120_0 (orc S (lim tab.get S)) (lim tab.get S 120 q) q x0 x1 h := (lim_eqF k120 q 0 _ h).trans (e120_0 ..).symm
theorem w120_1 (S : Oracle) (q : Nat) (x0 x1 x2 x3 : TVal) (h : Heap) : lim tab.get S 120 q 1 [x0, x1, x2, x3] h = b120_1 (orc S (lim tab.get S)) (lim tab.get S 120 q) q x0 x1 x2 x3 h := (lim_eqF k120 q 1 _ h).trans (e120_1 ..).symm
theorem k121 : tab.get 121 = some c121 := by kernel_rfl
theorem w121_0 (S : Oracle) (q : Nat) (x0 x1 : TVal) (h : Heap) : lim tab.get S 121 q 0 [x0, x1] h = b121_0 (orc S (lim tab.get S)) (lim tab.get S 121 q) q x0 x1 h := (lim_eqF k121 q 0 _ h).trans (e121_0 ..).symm
theorem k123 : tab.get 123 = some c123 := by kernel_rfl
theorem w123_0 (S : Oracle) (q : Nat) (x0 : TVal) (h : Heap) : lim tab.get S 123 q 0 [x0] h = b123_0 (orc S (lim tab.get S)) (lim tab.get S 123 q) q x0 h := (lim_eqF k123 q 0 _ h).trans (e123_0 ..).symm
theorem k124 : tab.get 124 = some c124 := by kernel_rfl
theorem w124_0 (S : Oracle) (q : Nat) (x0 x1 : TVal) (h : Heap) : lim tab.get S 124 q 0 [x0, x1] h = b124_0 (orc S (lim tab.get S)) (lim tab.get S 124 q) q x0 x1 h := (lim_eqF k124 q 0 _ h).trans (e124_0 ..).symm
theorem w124_1 (S : Oracle) (q : Nat) (x0 x1 x2 x3 x4 x5 x6 : TVal) (h : Heap) : lim tab.get S 124 q 1 [x0, x1, x2, x3, x4, x5, x6] h = b124_1 (orc S (lim tab.get S)) (lim tab.get S 124 q) q x0 x1 x2 x3 x4 x5 x6 h := (lim_eqF k124 q 1 _ h).trans (e124_1 ..).symm
theorem w124_2 (S : Oracle) (q : Nat) (x0 x1 x2 x3 x4 x5 : TVal) (h : Heap) : lim tab.get S 124 q 2 [x0, x1, x2, x3, x4, x5] h = b124_2 (orc S (lim tab.get S)) (lim tab.get S 124 q) q x0 x1 x2 x3 x4 x5 h := (lim_eqF k124 q 2 _ h).trans (e124_2 ..).symm
theorem w124_3 (S : Oracle) (q : Nat) (x0 x1 x2 x3 x4 x5 x6 : TVal) (h : Heap) : lim tab.get S 124 q 3 [x0, x1, x2, x3, x4, x5, x6] h = b124_3 (orc S (lim tab.get S)) (lim tab.get S 124 q) q x0 x1 x2 x3 x4 x5 x6 h := (lim_eqF k124 q 3 _ h).trans (e124_3 ..).symm
theorem k125 : tab.get 125 = some c125 := by kernel_rfl
theorem w125_0 (S : Oracle) (q : Nat) (x0 x1 x2 x3 : TVal) (h : Heap) : lim tab.get S 125 q 0 [x0, x1, x2, x3] h = b125_0 (orc S (lim tab.get S)) (lim tab.get S 125 q) q x0 x1 x2 x3 h := (lim_eqF k125 q 0 _ h).trans (e125_0 ..).symm
theorem w125_1 (S : Oracle) (q : Nat) (x0 x1 x2 x3 x4 : TVal) (h : Heap) : lim tab.get S 125 q 1 [x0, x1, x2, x3, x4] h = b125_1 (orc S (lim tab.get S)) (lim tab.get S 125 q) q x0 x1 x2 x3 x4 h := (lim_eqF k125 q 1 _ h).trans (e125_1 ..).symm
theorem w125_2 (S : Oracle) (q : Nat) (x0 x1 x2 x3 x4 x5 : TVal) (h : Heap) : lim tab.get S 125 q 2 [x0, x1, x2, x3, x4, x5] h = b125_2 (orc S (lim tab.get S)) (lim tab.get S 125 q) q x0 x1 x2 x3 x4 x5 h := (lim_eqF k125 q 2 _ h).trans (e125_2 ..).symm
theorem w125_3 (S : Oracle) (q : Nat) (x0 x1 x2 x3 x4 : TVal) (h : Heap) : lim tab.get S 125 q 3 [x0, x1, x2, x3, x4] h = b125_3 (orc S (lim tab.get S)) (lim tab.get S 125 q) q x0 x1 x2 x3 x4 h := (lim_eqF k125 q 3 _ h).trans (e125_3 ..).symm
theorem k126 : tab.get 126 = some c126 := by kernel_rfl
theorem w126_0 (S : Oracle) (q : Nat) (x0 x1 x2 x3 x4 : TVal) (h : Heap) : lim tab.get S 126 q 0 [x0, x1, x2, x3, x4] h = b126_0 (orc S (lim tab.get S)) (lim tab.get S 126 q) q x0 x1 x2 x3 x4 h := (lim_eqF k126 q 0 _ h).trans (e126_0 ..).symm
theorem w126_1 (S : Oracle) (q : Nat) (x0 x1 x2 x3 x4 : TVal) (h : Heap) : lim tab.get S 126 q 1 [x0, x1, x2, x3, x4] h = b126_1 (orc S (lim tab.get S)) (lim tab.get S 126 q) q x0 x1 x2 x3 x4 h := (lim_eqF k126 q 1 _ h).trans (e126_1 ..).symm
theorem w126_2 (S : Oracle) (q : Nat) (x0 x1 x2 : TVal) (h : Heap) : lim tab.get S 126 q 2 [x0, x1, x2] h = b126_2 (orc S (lim tab.get S)) (lim tab.get S 126 q) q x0 x1 x2 h := (lim_eqF k126 q 2 _ h).trans (e126_2 ..).symm
theorem w126_3 (S : Oracle) (q : Nat) (x0 x1 x2 : TVal) (h : Heap) : lim tab.get S 126 q 3 [x0, x1, x2] h = b126_3 (orc S (lim tab.get S)) (lim tab.get S 126 q) q x0 x1 x2 h := (lim_eqF k126 q 3 _ h).trans (e126_3 ..).symm
theorem w126_4 (S : Oracle) (q : Nat) (h : Heap) : lim tab.get S 126 q 4 [] h = b126_4 (orc S (lim tab.get S)) (lim tab.get S 126 q) q  h := (lim_eqF k126 q 4 _ h).trans (e126_4 ..).symm
theorem w126_5 (S : Oracle) (q : Nat) (x0 x1 x2 x3 x4 : TVal) (h : Heap) : lim tab.get S 126 q 5 [x0, x1, x2, x3, x4] h = b126_5 (orc S (lim tab.get S)) (lim tab.get S 126 q) q x0 x1 x2 x3 x4 h := (lim_eqF k126 q 5 _ h).trans (e126_5 ..).symm
theorem w126_6 (S : Oracle) (q : Nat) (x0 x1 x2 x3 x4 : TVal) (h : Heap) : lim tab.get S 126 q 6 [x0, x1, x2, x3, x4] h = b126_6 (orc S (lim tab.get S)) (lim tab.get S 126 q) q x0 x1 x2 x3 x4 h := (lim_eqF k126 q 6 _ h).trans (e126_6 ..).symm
theorem w126_7 (S : Oracle) (q : Nat) (x0 x1 x2 : TVal) (h : Heap) : lim tab.get S 126 q 7 [x0, x1, x2] h = b126_7 (orc S (lim tab.get S)) (lim tab.get S 126 q) q x0 x1 x2 h := (lim_eqF k126 q 7 _ h).trans (e126_7 ..).symm
theorem w126_8 (S : Oracle) (q : Nat) (x0 x1 x2 : TVal) (h : Heap) : lim tab.get S 126 q 8 [x0, x1, x2] h = b126_8 (orc S (lim tab.get S)) (lim tab.get S 126 q) q x0 x1 x2 h := (lim_eqF k126 q 8 _ h).trans (e126_8 ..).symm
theorem w126_9 (S : Oracle) (q : Nat) (h : Heap) : lim tab.get S 126 q 9 [] h = b126_9 (orc S (lim tab.get S)) (lim tab.get S 126 q) q  h := (lim_eqF k126 q 9 _ h).trans (e126_9 ..).symm
theorem w126_10 (S : Oracle) (q : Nat) (x0 x1 x2 x3 x4 : TVal) (h : Heap) : lim tab.get S 126 q 10 [x0, x1, x2, x3, x4] h = b126_10 (orc S (lim tab.get S)) (lim tab.get S 126 q) q x0 x1 x2 x3 x4 h := (lim_eqF k126 q 10 _ h).trans (e126_10 ..).symm
theorem w126_11 (S : Oracle) (q : Nat) (x0 x1 x2 x3 x4 x5 x6 x7 x8 : TVal) (h : Heap) : lim tab.get S 126 q 11 [x0, x1, x2, x3, x4, x5, x6, x7, x8] h = b126_11 (orc S (lim tab.get S)) (lim tab.get S 126 q) q x0 x1 x2 x3 x4 x5 x6 x7 x8 h := (lim_eqF k126 q 11 _ h).trans (e126_11 ..).symm
theorem w126_12 (S : Oracle) (q : Nat) (x0 x1 x2 x3 x4 x5 x6 x7 x8 x9 : TVal) (h : Heap) : lim tab.get S 126 q 12 [x0, x1, x2, x3, x4, x5, x6, x7, x8, x9] h = b126_12 (orc S (lim tab.get S)) (lim tab.get S 126 q) q x0 x1 x2 x3 x4 x5 x6 x7 x8 x9 h := (lim_eqF k126 q 12 _ h).trans (e126_12 ..).symm
theorem w126_13 (S : Oracle) (q : Nat) (x0 x1 x2 x3 x4 x5 x6 x7 : TVal) (h : Heap) : lim tab.get S 126 q 13 [x0, x1, x2, x3, x4, x5, x6, x7] h = b126_13 (orc S (lim tab.get S)) (lim tab.get S 126 q) q x0 x1 x2 x3 x4 x5 x6 x7 h := (lim_eqF k126 q 13 _ h).trans (e126_13 ..).symm
theorem w126_14 (S : Oracle) (q : Nat) (x0 x1 x2 x3 x4 x5 x6 : TVal) (h : Heap) : lim tab.get S 126 q 14 [x0, x1, x2, x3, x4, x5, x6] h = b126_14 (orc S (lim tab.get S)) (lim tab.get S 126 q) q x0 x1 x2 x3 x4 x5 x6 h := (lim_eqF k126 q 14 _ h).trans (e126_14 ..).symm
theorem w126_15 (S : Oracle) (q : Nat) (x0 x1 x2 x3 x4 : TVal) (h : Heap) : lim tab.get S 126 q 15 [x0, x1, x2, x3, x4] h = b126_15 (orc S (lim tab.get S)) (lim tab.get S 126 q) q x0 x1 x2 x3 x4 h := (lim_eqF k126 q 15 _ h).trans (e126_15 ..).symm
theorem k127 : tab.get 127 = some c127 := by kernel_rfl
theorem w127_0 (S : Oracle) (q : Nat) (x0 : TVal) (h : Heap) : lim tab.get S 127 q 0 [x0] h = b127_0 (orc S (lim tab.get S)) (lim tab.get S 127 q) q x0 h := (lim_eqF k127 q 0 _ h).trans (e127_0 ..).symm
theorem k128 : tab.get 128 = some c128 := by kernel_rfl
theorem w128_0 (S : Oracle) (q : Nat) (x0 x1 : TVal) (h : Heap) : lim tab.get S 128 q 0 [x0, x1] h = b128_0 (orc S (lim tab.get S)) (lim tab.get S 128 q) q x0 x1 h := (lim_eqF k128 q 0 _ h).trans (e128_0 ..).symm
theorem w128_1 (S : Oracle) (q : Nat) (x0 : TVal) (h : Heap) : lim tab.get S 128 q 1 [x0] h = b128_1 (orc S (lim tab.get S)) (lim tab.get S 128 q) q x0 h := (lim_eqF k128 q 1 _ h).trans (e128_1 ..).symm
theorem w128_2 (S : Oracle) (q : Nat) (x0 x1 x2 x3 : TVal) (h : Heap) : lim tab.get S 128 q 2 [x0, x1, x2, x3] h = b128_2 (orc S (lim tab.get S)) (lim tab.get S 128 q) q x0 x1 x2 x3 h := (lim_eqF k128 q 2 _ h).trans (e128_2 ..).symm
theorem w128_3 (S : Oracle) (q : Nat) (x0 x1 x2 x3 : TVal) (h : Heap) : lim tab.get S 128 q 3 [x0, x1, x2, x3] h = b128_3 (orc S (lim tab.get S)) (lim tab.get S 128 q) q x0 x1 x2 x3 h := (lim_eqF k128 q 3 _ h).trans (e128_3 ..).symm
theorem w128_4 (S : Oracle) (q : Nat) (x0 x1 x2 x3 x4 : TVal) (h : Heap) : lim tab.get S 128 q 4 [x0, x1, x2, x3, x4] h = b128_4 (orc S (lim tab.get S)) (lim tab.get S 128 q) q x0 x1 x2 x3 x4 h := (lim_eqF k128 q 4 _ h).trans (e128_4 ..).symm
theorem w128_5 (S : Oracle) (q : Nat) (x0 x1 : TVal) (h : Heap) : lim tab.get S 128 q 5 [x0, x1] h = b128_5 (orc S (lim tab.get S)) (lim tab.get S 128 q) q x0 x1 h := (lim_eqF k128 q 5 _ h).trans (e128_5 ..).symm
theorem w128_6 (S : Oracle) (q : Nat) (h : Heap) : lim tab.get S 128 q 6 [] h = b128_6 (orc S (lim tab.get S)) (lim tab.get S 128 q) q  h := (lim_eqF k128 q 6 _ h).trans (e128_6 ..).symm
theorem w128_7 (S : Oracle) (q : Nat) (x0 x1 x2 x3 x4 x5 : TVal) (h : Heap) : lim tab.get S 128 q 7 [x0, x1, x2, x3, x4, x5] h = b128_7 (orc S (lim tab.get S)) (lim tab.get S 128 q) q x0 x1 x2 x3 x4 x5 h := (lim_eqF k128 q 7 _ h).trans (e128_7 ..).symm
theorem w128_8 (S : Oracle) (q : Nat) (x0 x1 x2 x3 x4 x5 x6 : TVal) (h : Heap) : lim tab.get S 128 q 8 [x0, x1, x2, x3, x4, x5, x6] h = b128_8 (orc S (lim tab.get S)) (lim tab.get S 128 q) q x0 x1 x2 x3 x4 x5 x6 h := (lim_eqF k128 q 8 _ h).trans (e128_8 ..).symm
theorem w128_9 (S : Oracle) (q : Nat) (x0 x1 : TVal) (h : Heap) : lim tab.get S 128 q 9 [x0, x1] h = b128_9 (orc S (lim tab.get S)) (lim tab.get S 128 q) q x0 x1 h := (lim_eqF k128 q 9 _ h).trans (e128_9 ..).symm
theorem w128_10 (S : Oracle) (q : Nat) (x0 x1 x2 x3 x4 x5 : TVal) (h : Heap) : lim tab.get S 128 q 10 [x0, x1, x2, x3, x4, x5] h = b128_10 (orc S (lim tab.get S)) (lim tab.get S 128 q) q x0 x1 x2 x3 x4 x5 h := (lim_eqF k128 q 10 _ h).trans (e128_10 ..).symm
theorem k129 : tab.get 129 = some c129 := by kernel_rfl
theorem w129_0 (S : Oracle) (q : Nat) (x0 : TVal) (h : Heap) : lim tab.get S 129 q 0 [x0] h = b129_0 (orc S (lim tab.get S)) (lim tab.get S 129 q) q x0 h := (lim_eqF k129 q 0 _ h).trans (e129_0 ..).symm
theorem k130 : tab.get 130 = some c130 := by kernel_rfl
theorem w130_0 (S : Oracle) (q : Nat) (x0 : TVal) (h : Heap) : lim tab.get S 130 q 0 [x0] h = b130_0 (orc S (lim tab.get S)) (lim tab.get S 130 q) q x0 h := (lim_eqF k130 q 0 _ h).trans (e130_0 ..).symm
theorem k132 : tab.get 132 = some c132 := by kernel_rfl
theorem w132_0 (S : Oracle) (q : Nat) (x0 : TVal) (h : Heap) : lim tab.get S 132 q 0 [x0] h = b132_0 (orc S (lim tab.get S)) (lim tab.get S 132 q) q x0 h := (lim_eqF k132 q 0 _ h).trans (e132_0 ..).symm
theorem k138 : tab.get 138 = some c138 := by kernel_rfl
theorem w138_0 (S : Oracle) (q : Nat) (x0 : TVal) (h : Heap) : lim tab.get S 138 q 0 [x0] h = b138_0 (orc S (lim tab.get S)) (lim tab.get S 138 q) q x0 h := (lim_eqF k138 q 0 _ h).trans (e138_0 ..).symm
theorem w138_1 (S : Oracle) (q : Nat) (x0 x1 x2 : TVal) (h : Heap) : lim tab.get S 138 q 1 [x0, x1, x2] h = b138_1 (orc S (lim tab.get S)) (lim tab.get S 138 q) q x0 x1 x2 h := (lim_eqF k138 q 1 _ h).trans (e138_1 ..).symm
theorem w138_2 (S : Oracle) (q : Nat) (x0 x1 : TVal) (h : Heap) : lim tab.get S 138 q 2 [x0, x1] h = b138_2 (orc S (lim tab.get S)) (lim tab.get S 138 q) q x0 x1 h := (lim_eqF k138 q 2 _ h).trans (e138_2 ..).symm
theorem w138_3 (S : Oracle) (q : Nat) (x0 x1 x2 x3 : TVal) (h : Heap) : lim tab.get S 138 q 3 [x0, x1, x2, x3] h = b138_3 (orc S (lim tab.get S)) (lim tab.get S 138 q) q x0 x1 x2 x3 h := (lim_eqF k138 q 3 _ h).trans (e138_3 ..).symm
theorem w138_4 (S : Oracle) (q : Nat) (x0 x1 x2 x3 : TVal) (h : Heap) : lim tab.get S 138 q 4 [x0, x1, x2, x3] h = b138_4 (orc S (lim tab.get S)) (lim tab.get S 138 q) q x0 x1 x2 x3 h := (lim_eqF k138 q 4 _ h).trans (e138_4 ..).symm
theorem k139 : tab.get 139 = some c139 := by kernel_rfl
theorem w139_0 (S : Oracle) (q : Nat) (x0 x1 x2 x3 x4 : TVal) (h : Heap) : lim tab.get S 139 q 0 [x0, x1, x2, x3, x4] h = b139_0 (orc S (lim tab.get S)) (lim tab.get S 139 q) q x0 x1 x2 x3 x4 h := (lim_eqF k139 q 0 _ h).trans (e139_0 ..).symm
theorem w139_1 (S : Oracle) (q : Nat) (x0 x1 x2 x3 x4 : TVal) (h : Heap) : lim tab.get S 139 q 1 [x0, x1, x2, x3, x4] h = b139_1 (orc S (lim tab.get S)) (lim tab.get S 139 q) q x0 x1 x2 x3 x4 h := (lim_eqF k139 q 1 _ h).trans (e139_1 ..).symm
theorem w139_2 (S : Oracle) (q : Nat) (x0 x1 x2 x3 : TVal) (h : Heap) : lim tab.get S 139 q 2 [x0, x1, x2, x3] h = b139_2 (orc S (lim tab.get S)) (lim tab.get S 139 q) q x0 x1 x2 x3 h := (lim_eqF k139 q 2 _ h).trans (e139_2 ..).symm
theorem k140 : tab.get 140 = some c140 := by kernel_rfl
theorem w140_0 (S : Oracle) (q : Nat) (x0 x1 : TVal) (h : Heap) : lim tab.get S 140 q 0 [x0, x1] h = b140_0 (orc S (lim tab.get S)) (lim tab.get S 140 q) q x0 x1 h := (lim_eqF k140 q 0 _ h).trans (e140_0 ..).symm
theorem k141 : tab.get 141 = some c141 := by kernel_rfl
theorem w141_0 (S : Oracle) (q : Nat) (x0 : TVal) (h : Heap) : lim tab.get S 141 q 0 [x0] h = b141_0 (orc S (lim tab.get S)) (lim tab.get S 141 q) q x0 h := (lim_eqF k141 q 0 _ h).trans (e141_0 ..).symm
theorem k142 : tab.get 142 = some c142 := by kernel_rfl
theorem w142_0 (S : Oracle) (q : Nat) (x0 : TVal) (h : Heap) : lim tab.get S 142 q 0 [x0] h = b142_0 (orc S (lim tab.get S)) (lim tab.get S 142 q) q x0 h := (lim_eqF k142 q 0 _ h).trans (e142_0 ..).symm
theorem w142_1 (S : Oracle) (q : Nat) (h : Heap) : lim tab.get S 142 q 1 [] h = b142_1 (orc S (lim tab.get S)) (lim tab.get S 142 q) q  h := (lim_eqF k142 q 1 _ h).trans (e142_1 ..).symm
theorem k148 : tab.get 148 = some c148 := by kernel_rfl
theorem w148_0 (S : Oracle) (q : Nat) (x0 x1 x2 x3 x4 : TVal) (h : Heap) : lim tab.get S 148 q 0 [x0, x1, x2, x3, x4] h = b148_0 (orc S (lim tab.get S)) (lim tab.get S 148 q) q x0 x1 x2 x3 x4 h := (lim_eqF k148 q 0 _ h).trans (e148_0 ..).symm
theorem w148_1 (S : Oracle) (q : Nat) (x0 x1 x2 x3 x4 : TVal) (h : Heap) : lim tab.get S 148 q 1 [x0, x1, x2, x3, x4] h = b148_1 (orc S (lim tab.get S)) (lim tab.get S 148 q) q x0 x1 x2 x3 x4 h := (lim_eqF k148 q 1 _ h).trans (e148_1 ..).symm
theorem k153 : tab.get 153 = some c153 := by kernel_rfl
theorem w153_0 (S : Oracle) (q : Nat) (x0 : TVal) (h : Heap) : lim tab.get S 153 q 0 [x0] h = b153_0 (orc S (lim tab.get S)) (lim tab.get S 153 q) q x0 h := (lim_eqF k153 q 0 _ h).trans (e153_0 ..).symm
theorem w153_1 (S : Oracle) (q : Nat) (x0 x1 x2 x3 x4 x5 : TVal) (h : Heap) : lim tab.get S 153 q 1 [x0, x1, x2, x3, x4, x5] h = b153_1 (orc S (lim tab.get S)) (lim tab.get S 153 q) q x0 x1 x2 x3 x4 x5 h := (lim_eqF k153 q 1 _ h).trans (e153_1 ..).symm
theorem w153_2 (S : Oracle) (q : Nat) (x0 x1 x2 x3 x4 : TVal) (h : Heap) : lim tab.get S 153 q 2 [x0, x1, x2, x3, x4] h = b153_2 (orc S (lim tab.get S)) (lim tab.get S 153 q) q x0 x1 x2 x3 x4 h := (lim_eqF k153 q 2 _ h).trans (e153_2 ..).symm
theorem w153_3 (S : Oracle) (q : Nat) (x0 x1 x2 x3 x4 x5 x6 : TVal) (h : Heap) : lim tab.get S 153 q 3 [x0, x1, x2, x3, x4, x5, x6] h = b153_3 (orc S (lim tab.get S)) (lim tab.get S 153 q) q x0 x1 x2 x3 x4 x5 x6 h := (lim_eqF k153 q 3 _ h).trans (e153_3 ..).symm
theorem w153_4 (S : Oracle) (q : Nat) (x0 x1 x2 x3 x4 x5 x6 : TVal) (h : Heap) : lim tab.get S 153 q 4 [x0, x1, x2, x3, x4, x5, x6] h = b153_4 (orc S (lim tab.get S)) (lim tab.get S 153 q) q x0 x1 x2 x3 x4 x5 x6 h := (lim_eqF k153 q 4 _ h).trans (e153_4 ..).symm
theorem w153_5 (S : Oracle) (q : Nat) (x0 x1 x2 x3 x4 x5 x6 : TVal) (h : Heap) : lim tab.get S 153 q 5 [x0, x1, x2, x3, x4, x5, x6] h = b153_5 (orc S (lim tab.get S)) (lim tab.get S 153 q) q x0 x1 x2 x3 x4 x5 x6 h := (lim_eqF k153 q 5 _ h).trans (e153_5 ..).symm
theorem w153_6 (S : Oracle) (q : Nat) (x0 x1 x2 x3 x4 x5 x6 : TVal) (h : Heap) : lim tab.get S 153 q 6 [x0, x1, x2, x3, x4, x5, x6] h = b153_6 (orc S (lim tab.get S)) (lim tab.get S 153 q) q x0 x1 x2 x3 x4 x5 x6 h := (lim_eqF k153 q 6 _ h).trans (e153_6 ..).symm
theorem w153_7 (S : Oracle) (q : Nat) (x0 x1 x2 x3 x4 x5 x6 : TVal) (h : Heap) : lim tab.get S 153 q 7 [x0, x1, x2, x3, x4, x5, x6] h = b153_7 (orc S (lim tab.get S)) (lim tab.get S 153 q) q x0 x1 x2 x3 x4 x5 x6 h := (lim_eqF k153 q 7 _ h).trans (e153_7 ..).symm
theorem w153_8 (S : Oracle) (q : Nat) (x0 x1 x2 x3 : TVal) (h : Heap) : lim tab.get S 153 q 8 [x0, x1, x2, x3] h = b153_8 (orc S (lim tab.get S)) (lim tab.get S 153 q) q x0 x1 x2 x3 h := (lim_eqF k153 q 8 _ h).trans (e153_8 ..).symm
theorem w153_9 (S : Oracle) (q : Nat) (x0 x1 x2 : TVal) (h : Heap) : lim tab.get S 153 q 9 [x0, x1, x2] h = b153_9 (orc S (lim tab.get S)) (lim tab.get S 153 q) q x0 x1 x2 h := (lim_eqF k153 q 9 _ h).trans (e153_9 ..).symm
theorem w153_10 (S : Oracle) (q : Nat) (x0 x1 : TVal) (h : Heap) : lim tab.get S 153 q 10 [x0, x1] h = b153_10 (orc S (lim tab.get S)) (lim tab.get S 153 q) q x0 x1 h := (lim_eqF k153 q 10 _ h).trans (e153_10 ..).symm
theorem w153_11 (S : Oracle) (q : Nat) (x0 : TVal) (h : Heap) : lim tab.get S 153 q 11 [x0] h = b153_11 (orc S (lim tab.get S)) (lim tab.get S 153 q) q x0 h := (lim_eqF k153 q 11 _ h).trans (e153_11 ..).symm
end Go.Proofs.YtiahgnkffnokfaaGreatDoor.Ab
