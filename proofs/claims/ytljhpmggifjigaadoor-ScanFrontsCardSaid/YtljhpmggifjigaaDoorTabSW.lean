/- The machine's equations, a piece at a time. Own work, printed by a program of our own; no condition. -/
import Derived.Test.YtljhpmggifjigaaDoorTabS
namespace Go.Proofs.YtljhpmggifjigaaDoor.Ab
open Go Go.AI
set_option linter.all false
set_option linter.unusedVariables false
set_option maxRecDepth 100000
theorem k3 : tab.get 3 = some c3 := by kernel_rfl
theorem w3_0 (S : Oracle) (q : Nat) (x0 x1 : TVal) (h : Heap) : lim tab.get S 3 q 0 [x0, x1] h = b3_0 (orc S (lim tab.get S)) (lim tab.get S 3 q) q x0 x1 h := (lim_eqF k3 q 0 _ h).trans (e3_0 ..).symm
theorem w3_1 (S : Oracle) (q : Nat) (x0 x1 x2 x3 x4 : TVal) (h : Heap) : lim tab.get S 3 q 1 [x0, x1, x2, x3, x4] h = b3_1 (orc S (lim tab.get S)) (lim tab.get S 3 q) q x0 x1 x2 x3 x4 h := (lim_eqF k3 q 1 _ h).trans (e3_1 ..).symm
theorem w3_2 (S : Oracle) (q : Nat) (x0 x1 x2 x3 x4 : TVal) (h : Heap) : lim tab.get S 3 q 2 [x0, x1, x2, x3, x4] h = b3_2 (orc S (lim tab.get S)) (lim tab.get S 3 q) q x0 x1 x2 x3 x4 h := (lim_eqF k3 q 2 _ h).trans (e3_2 ..).symm
theorem w3_3 (S : Oracle) (q : Nat) (x0 x1 : TVal) (h : Heap) : lim tab.get S 3 q 3 [x0, x1] h = b3_3 (orc S (lim tab.get S)) (lim tab.get S 3 q) q x0 x1 h := (lim_eqF k3 q 3 _ h).trans (e3_3 ..).symm
theorem w3_4 (S : Oracle) (q : Nat) (x0 x1 x2 : TVal) (h : Heap) : lim tab.get S 3 q 4 [x0, x1, x2] h = b3_4 (orc S (lim tab.get S)) (lim tab.get S 3 q) q x0 x1 x2 h := (lim_eqF k3 q 4 _ h).trans (e3_4 ..).symm
theorem k4 : tab.get 4 = some c4 := by kernel_rfl
theorem w4_0 (S : Oracle) (q : Nat) (x0 x1 : TVal) (h : Heap) : lim tab.get S 4 q 0 [x0, x1] h = b4_0 (orc S (lim tab.get S)) (lim tab.get S 4 q) q x0 x1 h := (lim_eqF k4 q 0 _ h).trans (e4_0 ..).symm
theorem w4_1 (S : Oracle) (q : Nat) (x0 x1 x2 x3 x4 : TVal) (h : Heap) : lim tab.get S 4 q 1 [x0, x1, x2, x3, x4] h = b4_1 (orc S (lim tab.get S)) (lim tab.get S 4 q) q x0 x1 x2 x3 x4 h := (lim_eqF k4 q 1 _ h).trans (e4_1 ..).symm
theorem w4_2 (S : Oracle) (q : Nat) (x0 x1 x2 x3 x4 x5 : TVal) (h : Heap) : lim tab.get S 4 q 2 [x0, x1, x2, x3, x4, x5] h = b4_2 (orc S (lim tab.get S)) (lim tab.get S 4 q) q x0 x1 x2 x3 x4 x5 h := (lim_eqF k4 q 2 _ h).trans (e4_2 ..).symm
theorem w4_3 (S : Oracle) (q : Nat) (x0 x1 x2 : TVal) (h : Heap) : lim tab.get S 4 q 3 [x0, x1, x2] h = b4_3 (orc S (lim tab.get S)) (lim tab.get S 4 q) q x0 x1 x2 h := (lim_eqF k4 q 3 _ h).trans (e4_3 ..).symm
theorem w4_4 (S : Oracle) (q : Nat) (x0 x1 x2 : TVal) (h : Heap) : lim tab.get S 4 q 4 [x0, x1, x2] h = b4_4 (orc S (lim tab.get S)) (lim tab.get S 4 q) q x0 x1 x2 h := (lim_eqF k4 q 4 _ h).trans (e4_4 ..).symm
theorem k5 : tab.get 5 = some c5 := by kernel_rfl
theorem w5_0 (S : Oracle) (q : Nat) (x0 x1 x2 : TVal) (h : Heap) : lim tab.get S 5 q 0 [x0, x1, x2] h = b5_0 (orc S (lim tab.get S)) (lim tab.get S 5 q) q x0 x1 x2 h := (lim_eqF k5 q 0 _ h).trans (e5_0 ..).symm
theorem w5_1 (S : Oracle) (q : Nat) (x0 x1 x2 x3 x4 : TVal) (h : Heap) : lim tab.get S 5 q 1 [x0, x1, x2, x3, x4] h = b5_1 (orc S (lim tab.get S)) (lim tab.get S 5 q) q x0 x1 x2 x3 x4 h := (lim_eqF k5 q 1 _ h).trans (e5_1 ..).symm
theorem w5_2 (S : Oracle) (q : Nat) (x0 x1 x2 x3 x4 x5 : TVal) (h : Heap) : lim tab.get S 5 q 2 [x0, x1, x2, x3, x4, x5] h = b5_2 (orc S (lim tab.get S)) (lim tab.get S 5 q) q x0 x1 x2 x3 x4 x5 h := (lim_eqF k5 q 2 _ h).trans (e5_2 ..).symm
theorem w5_3 (S : Oracle) (q : Nat) (x0 x1 x2 x3 : TVal) (h : Heap) : lim tab.get S 5 q 3 [x0, x1, x2, x3] h = b5_3 (orc S (lim tab.get S)) (lim tab.get S 5 q) q x0 x1 x2 x3 h := (lim_eqF k5 q 3 _ h).trans (e5_3 ..).symm
theorem w5_4 (S : Oracle) (q : Nat) (x0 x1 x2 x3 : TVal) (h : Heap) : lim tab.get S 5 q 4 [x0, x1, x2, x3] h = b5_4 (orc S (lim tab.get S)) (lim tab.get S 5 q) q x0 x1 x2 x3 h := (lim_eqF k5 q 4 _ h).trans (e5_4 ..).symm
theorem w5_5 (S : Oracle) (q : Nat) (x0 x1 x2 x3 : TVal) (h : Heap) : lim tab.get S 5 q 5 [x0, x1, x2, x3] h = b5_5 (orc S (lim tab.get S)) (lim tab.get S 5 q) q x0 x1 x2 x3 h := (lim_eqF k5 q 5 _ h).trans (e5_5 ..).symm
theorem w5_6 (S : Oracle) (q : Nat) (x0 x1 x2 : TVal) (h : Heap) : lim tab.get S 5 q 6 [x0, x1, x2] h = b5_6 (orc S (lim tab.get S)) (lim tab.get S 5 q) q x0 x1 x2 h := (lim_eqF k5 q 6 _ h).trans (e5_6 ..).symm
theorem k6 : tab.get 6 = some c6 := by kernel_rfl
theorem w6_0 (S : Oracle) (q : Nat) (x0 : TVal) (h : Heap) : lim tab.get S 6 q 0 [x0] h = b6_0 (orc S (lim tab.get S)) (lim tab.get S 6 q) q x0 h := (lim_eqF k6 q 0 _ h).trans (e6_0 ..).symm
theorem w6_1 (S : Oracle) (q : Nat) (x0 : TVal) (h : Heap) : lim tab.get S 6 q 1 [x0] h = b6_1 (orc S (lim tab.get S)) (lim tab.get S 6 q) q x0 h := (lim_eqF k6 q 1 _ h).trans (e6_1 ..).symm
theorem w6_2 (S : Oracle) (q : Nat) (x0 x1 x2 x3 : TVal) (h : Heap) : lim tab.get S 6 q 2 [x0, x1, x2, x3] h = b6_2 (orc S (lim tab.get S)) (lim tab.get S 6 q) q x0 x1 x2 x3 h := (lim_eqF k6 q 2 _ h).trans (e6_2 ..).symm
theorem w6_3 (S : Oracle) (q : Nat) (x0 x1 x2 x3 x4 : TVal) (h : Heap) : lim tab.get S 6 q 3 [x0, x1, x2, x3, x4] h = b6_3 (orc S (lim tab.get S)) (lim tab.get S 6 q) q x0 x1 x2 x3 x4 h := (lim_eqF k6 q 3 _ h).trans (e6_3 ..).symm
theorem w6_4 (S : Oracle) (q : Nat) (x0 x1 x2 x3 : TVal) (h : Heap) : lim tab.get S 6 q 4 [x0, x1, x2, x3] h = b6_4 (orc S (lim tab.get S)) (lim tab.get S 6 q) q x0 x1 x2 x3 h := (lim_eqF k6 q 4 _ h).trans (e6_4 ..).symm
theorem w6_5 (S : Oracle) (q : Nat) (x0 x1 : TVal) (h : Heap) : lim tab.get S 6 q 5 [x0, x1] h = b6_5 (orc S (lim tab.get S)) (lim tab.get S 6 q) q x0 x1 h := (lim_eqF k6 q 5 _ h).trans (e6_5 ..).symm
theorem k7 : tab.get 7 = some c7 := by kernel_rfl
theorem w7_0 (S : Oracle) (q : Nat) (x0 : TVal) (h : Heap) : lim tab.get S 7 q 0 [x0] h = b7_0 (orc S (lim tab.get S)) (lim tab.get S 7 q) q x0 h := (lim_eqF k7 q 0 _ h).trans (e7_0 ..).symm
theorem w7_1 (S : Oracle) (q : Nat) (x0 x1 x2 x3 x4 : TVal) (h : Heap) : lim tab.get S 7 q 1 [x0, x1, x2, x3, x4] h = b7_1 (orc S (lim tab.get S)) (lim tab.get S 7 q) q x0 x1 x2 x3 x4 h := (lim_eqF k7 q 1 _ h).trans (e7_1 ..).symm
theorem w7_2 (S : Oracle) (q : Nat) (x0 x1 x2 x3 x4 : TVal) (h : Heap) : lim tab.get S 7 q 2 [x0, x1, x2, x3, x4] h = b7_2 (orc S (lim tab.get S)) (lim tab.get S 7 q) q x0 x1 x2 x3 x4 h := (lim_eqF k7 q 2 _ h).trans (e7_2 ..).symm
theorem w7_3 (S : Oracle) (q : Nat) (x0 x1 : TVal) (h : Heap) : lim tab.get S 7 q 3 [x0, x1] h = b7_3 (orc S (lim tab.get S)) (lim tab.get S 7 q) q x0 x1 h := (lim_eqF k7 q 3 _ h).trans (e7_3 ..).symm
theorem w7_4 (S : Oracle) (q : Nat) (x0 x1 x2 x3 : TVal) (h : Heap) : lim tab.get S 7 q 4 [x0, x1, x2, x3] h = b7_4 (orc S (lim tab.get S)) (lim tab.get S 7 q) q x0 x1 x2 x3 h := (lim_eqF k7 q 4 _ h).trans (e7_4 ..).symm
theorem k8 : tab.get 8 = some c8 := by kernel_rfl
theorem w8_0 (S : Oracle) (q : Nat) (x0 x1 x2 : TVal) (h : Heap) : lim tab.get S 8 q 0 [x0, x1, x2] h = b8_0 (orc S (lim tab.get S)) (lim tab.get S 8 q) q x0 x1 x2 h := (lim_eqF k8 q 0 _ h).trans (e8_0 ..).symm
theorem w8_1 (S : Oracle) (q : Nat) (x0 x1 x2 x3 x4 x5 x6 : TVal) (h : Heap) : lim tab.get S 8 q 1 [x0, x1, x2, x3, x4, x5, x6] h = b8_1 (orc S (lim tab.get S)) (lim tab.get S 8 q) q x0 x1 x2 x3 x4 x5 x6 h := (lim_eqF k8 q 1 _ h).trans (e8_1 ..).symm
theorem w8_2 (S : Oracle) (q : Nat) (x0 x1 x2 x3 x4 : TVal) (h : Heap) : lim tab.get S 8 q 2 [x0, x1, x2, x3, x4] h = b8_2 (orc S (lim tab.get S)) (lim tab.get S 8 q) q x0 x1 x2 x3 x4 h := (lim_eqF k8 q 2 _ h).trans (e8_2 ..).symm
theorem k9 : tab.get 9 = some c9 := by kernel_rfl
theorem w9_0 (S : Oracle) (q : Nat) (x0 x1 : TVal) (h : Heap) : lim tab.get S 9 q 0 [x0, x1] h = b9_0 (orc S (lim tab.get S)) (lim tab.get S 9 q) q x0 x1 h := (lim_eqF k9 q 0 _ h).trans (e9_0 ..).symm
theorem w9_1 (S : Oracle) (q : Nat) (x0 x1 x2 x3 x4 x5 : TVal) (h : Heap) : lim tab.get S 9 q 1 [x0, x1, x2, x3, x4, x5] h = b9_1 (orc S (lim tab.get S)) (lim tab.get S 9 q) q x0 x1 x2 x3 x4 x5 h := (lim_eqF k9 q 1 _ h).trans (e9_1 ..).symm
theorem w9_2 (S : Oracle) (q : Nat) (x0 x1 x2 x3 x4 x5 : TVal) (h : Heap) : lim tab.get S 9 q 2 [x0, x1, x2, x3, x4, x5] h = b9_2 (orc S (lim tab.get S)) (lim tab.get S 9 q) q x0 x1 x2 x3 x4 x5 h := (lim_eqF k9 q 2 _ h).trans (e9_2 ..).symm
theorem w9_3 (S : Oracle) (q : Nat) (x0 x1 x2 x3 : TVal) (h : Heap) : lim tab.get S 9 q 3 [x0, x1, x2, x3] h = b9_3 (orc S (lim tab.get S)) (lim tab.get S 9 q) q x0 x1 x2 x3 h := (lim_eqF k9 q 3 _ h).trans (e9_3 ..).symm
theorem w9_4 (S : Oracle) (q : Nat) (x0 x1 x2 x3 : TVal) (h : Heap) : lim tab.get S 9 q 4 [x0, x1, x2, x3] h = b9_4 (orc S (lim tab.get S)) (lim tab.get S 9 q) q x0 x1 x2 x3 h := (lim_eqF k9 q 4 _ h).trans (e9_4 ..).symm
theorem k10 : tab.get 10 = some c10 := by kernel_rfl
theorem w10_0 (S : Oracle) (q : Nat) (x0 x1 x2 : TVal) (h : Heap) : lim tab.get S 10 q 0 [x0, x1, x2] h = b10_0 (orc S (lim tab.get S)) (lim tab.get S 10 q) q x0 x1 x2 h := (lim_eqF k10 q 0 _ h).trans (e10_0 ..).symm
theorem w10_1 (S : Oracle) (q : Nat) (x0 x1 x2 x3 x4 : TVal) (h : Heap) : lim tab.get S 10 q 1 [x0, x1, x2, x3, x4] h = b10_1 (orc S (lim tab.get S)) (lim tab.get S 10 q) q x0 x1 x2 x3 x4 h := (lim_eqF k10 q 1 _ h).trans (e10_1 ..).symm
theorem w10_2 (S : Oracle) (q : Nat) (x0 x1 x2 x3 x4 : TVal) (h : Heap) : lim tab.get S 10 q 2 [x0, x1, x2, x3, x4] h = b10_2 (orc S (lim tab.get S)) (lim tab.get S 10 q) q x0 x1 x2 x3 x4 h := (lim_eqF k10 q 2 _ h).trans (e10_2 ..).symm
theorem w10_3 (S : Oracle) (q : Nat) (x0 x1 : TVal) (h : Heap) : lim tab.get S 10 q 3 [x0, x1] h = b10_3 (orc S (lim tab.get S)) (lim tab.get S 10 q) q x0 x1 h := (lim_eqF k10 q 3 _ h).trans (e10_3 ..).symm
theorem w10_4 (S : Oracle) (q : Nat) (x0 x1 : TVal) (h : Heap) : lim tab.get S 10 q 4 [x0, x1] h = b10_4 (orc S (lim tab.get S)) (lim tab.get S 10 q) q x0 x1 h := (lim_eqF k10 q 4 _ h).trans (e10_4 ..).symm
theorem k11 : tab.get 11 = some c11 := by kernel_rfl
theorem w11_0 (S : Oracle) (q : Nat) (x0 : TVal) (h : Heap) : lim tab.get S 11 q 0 [x0] h = b11_0 (orc S (lim tab.get S)) (lim tab.get S 11 q) q x0 h := (lim_eqF k11 q 0 _ h).trans (e11_0 ..).symm
theorem w11_1 (S : Oracle) (q : Nat) (x0 x1 x2 x3 : TVal) (h : Heap) : lim tab.get S 11 q 1 [x0, x1, x2, x3] h = b11_1 (orc S (lim tab.get S)) (lim tab.get S 11 q) q x0 x1 x2 x3 h := (lim_eqF k11 q 1 _ h).trans (e11_1 ..).symm
theorem w11_2 (S : Oracle) (q : Nat) (x0 x1 x2 x3 x4 : TVal) (h : Heap) : lim tab.get S 11 q 2 [x0, x1, x2, x3, x4] h = b11_2 (orc S (lim tab.get S)) (lim tab.get S 11 q) q x0 x1 x2 x3 x4 h := (lim_eqF k11 q 2 _ h).trans (e11_2 ..).symm
theorem w11_3 (S : Oracle) (q : Nat) (x0 : TVal) (h : Heap) : lim tab.get S 11 q 3 [x0] h = b11_3 (orc S (lim tab.get S)) (lim tab.get S 11 q) q x0 h := (lim_eqF k11 q 3 _ h).trans (e11_3 ..).symm
theorem k12 : tab.get 12 = some c12 := by kernel_rfl
theorem w12_0 (S : Oracle) (q : Nat) (h : Heap) : lim tab.get S 12 q 0 [] h = b12_0 (orc S (lim tab.get S)) (lim tab.get S 12 q) q  h := (lim_eqF k12 q 0 _ h).trans (e12_0 ..).symm
theorem k13 : tab.get 13 = some c13 := by kernel_rfl
theorem w13_0 (S : Oracle) (q : Nat) (x0 : TVal) (h : Heap) : lim tab.get S 13 q 0 [x0] h = b13_0 (orc S (lim tab.get S)) (lim tab.get S 13 q) q x0 h := (lim_eqF k13 q 0 _ h).trans (e13_0 ..).symm
theorem k14 : tab.get 14 = some c14 := by kernel_rfl
theorem w14_0 (S : Oracle) (q : Nat) (x0 : TVal) (h : Heap) : lim tab.get S 14 q 0 [x0] h = b14_0 (orc S (lim tab.get S)) (lim tab.get S 14 q) q x0 h := (lim_eqF k14 q 0 _ h).trans (e14_0 ..).symm
theorem w14_1 (S : Oracle) (q : Nat) (x0 x1 x2 : TVal) (h : Heap) : lim tab.get S 14 q 1 [x0, x1, x2] h = b14_1 (orc S (lim tab.get S)) (lim tab.get S 14 q) q x0 x1 x2 h := (lim_eqF k14 q 1 _ h).trans (e14_1 ..).symm
theorem w14_2 (S : Oracle) (q : Nat) (x0 : TVal) (h : Heap) : lim tab.get S 14 q 2 [x0] h = b14_2 (orc S (lim tab.get S)) (lim tab.get S 14 q) q x0 h := (lim_eqF k14 q 2 _ h).trans (e14_2 ..).symm
theorem k15 : tab.get 15 = some c15 := by kernel_rfl
theorem w15_0 (S : Oracle) (q : Nat) (x0 x1 : TVal) (h : Heap) : lim tab.get S 15 q 0 [x0, x1] h = b15_0 (orc S (lim tab.get S)) (lim tab.get S 15 q) q x0 x1 h := (lim_eqF k15 q 0 _ h).trans (e15_0 ..).symm
theorem k16 : tab.get 16 = some c16 := by kernel_rfl
theorem w16_0 (S : Oracle) (q : Nat) (x0 : TVal) (h : Heap) : lim tab.get S 16 q 0 [x0] h = b16_0 (orc S (lim tab.get S)) (lim tab.get S 16 q) q x0 h := (lim_eqF k16 q 0 _ h).trans (e16_0 ..).symm
theorem w16_1 (S : Oracle) (q : Nat) (x0 x1 x2 : TVal) (h : Heap) : lim tab.get S 16 q 1 [x0, x1, x2] h = b16_1 (orc S (lim tab.get S)) (lim tab.get S 16 q) q x0 x1 x2 h := (lim_eqF k16 q 1 _ h).trans (e16_1 ..).symm
theorem w16_2 (S : Oracle) (q : Nat) (x0 x1 x2 : TVal) (h : Heap) : lim tab.get S 16 q 2 [x0, x1, x2] h = b16_2 (orc S (lim tab.get S)) (lim tab.get S 16 q) q x0 x1 x2 h := (lim_eqF k16 q 2 _ h).trans (e16_2 ..).symm
theorem w16_3 (S : Oracle) (q : Nat) (x0 x1 x2 : TVal) (h : Heap) : lim tab.get S 16 q 3 [x0, x1, x2] h = b16_3 (orc S (lim tab.get S)) (lim tab.get S 16 q) q x0 x1 x2 h := (lim_eqF k16 q 3 _ h).trans (e16_3 ..).symm
theorem w16_4 (S : Oracle) (q : Nat) (x0 : TVal) (h : Heap) : lim tab.get S 16 q 4 [x0] h = b16_4 (orc S (lim tab.get S)) (lim tab.get S 16 q) q x0 h := (lim_eqF k16 q 4 _ h).trans (e16_4 ..).symm
theorem k17 : tab.get 17 = some c17 := by kernel_rfl
theorem w17_0 (S : Oracle) (q : Nat) (x0 x1 : TVal) (h : Heap) : lim tab.get S 17 q 0 [x0, x1] h = b17_0 (orc S (lim tab.get S)) (lim tab.get S 17 q) q x0 x1 h := (lim_eqF k17 q 0 _ h).trans (e17_0 ..).symm
theorem w17_1 (S : Oracle) (q : Nat) (x0 x1 x2 : TVal) (h : Heap) : lim tab.get S 17 q 1 [x0, x1, x2] h = b17_1 (orc S (lim tab.get S)) (lim tab.get S 17 q) q x0 x1 x2 h := (lim_eqF k17 q 1 _ h).trans (e17_1 ..).symm
theorem k18 : tab.get 18 = some c18 := by kernel_rfl
theorem w18_0 (S : Oracle) (q : Nat) (x0 : TVal) (h : Heap) : lim tab.get S 18 q 0 [x0] h = b18_0 (orc S (lim tab.get S)) (lim tab.get S 18 q) q x0 h := (lim_eqF k18 q 0 _ h).trans (e18_0 ..).symm
theorem k19 : tab.get 19 = some c19 := by kernel_rfl
theorem w19_0 (S : Oracle) (q : Nat) (x0 : TVal) (h : Heap) : lim tab.get S 19 q 0 [x0] h = b19_0 (orc S (lim tab.get S)) (lim tab.get S 19 q) q x0 h := (lim_eqF k19 q 0 _ h).trans (e19_0 ..).symm
theorem w19_1 (S : Oracle) (q : Nat) (x0 x1 : TVal) (h : Heap) : lim tab.get S 19 q 1 [x0, x1] h = b19_1 (orc S (lim tab.get S)) (lim tab.get S 19 q) q x0 x1 h := (lim_eqF k19 q 1 _ h).trans (e19_1 ..).symm
theorem k20 : tab.get 20 = some c20 := by kernel_rfl
theorem w20_0 (S : Oracle) (q : Nat) (x0 : TVal) (h : Heap) : lim tab.get S 20 q 0 [x0] h = b20_0 (orc S (lim tab.get S)) (lim tab.get S 20 q) q x0 h := (lim_eqF k20 q 0 _ h).trans (e20_0 ..).symm
theorem k21 : tab.get 21 = some c21 := by kernel_rfl
theorem w21_0 (S : Oracle) (q : Nat) (x0 x1 : TVal) (h : Heap) : lim tab.get S 21 q 0 [x0, x1] h = b21_0 (orc S (lim tab.get S)) (lim tab.get S 21 q) q x0 x1 h := (lim_eqF k21 q 0 _ h).trans (e21_0 ..).symm
theorem w21_1 (S : Oracle) (q : Nat) (x0 x1 x2 x3 : TVal) (h : Heap) : lim tab.get S 21 q 1 [x0, x1, x2, x3] h = b21_1 (orc S (lim tab.get S)) (lim tab.get S 21 q) q x0 x1 x2 x3 h := (lim_eqF k21 q 1 _ h).trans (e21_1 ..).symm
theorem w21_2 (S : Oracle) (q : Nat) (x0 x1 x2 x3 : TVal) (h : Heap) : lim tab.get S 21 q 2 [x0, x1, x2, x3] h = b21_2 (orc S (lim tab.get S)) (lim tab.get S 21 q) q x0 x1 x2 x3 h := (lim_eqF k21 q 2 _ h).trans (e21_2 ..).symm
theorem w21_3 (S : Oracle) (q : Nat) (x0 x1 x2 x3 : TVal) (h : Heap) : lim tab.get S 21 q 3 [x0, x1, x2, x3] h = b21_3 (orc S (lim tab.get S)) (lim tab.get S 21 q) q x0 x1 x2 x3 h := (lim_eqF k21 q 3 _ h).trans (e21_3 ..).symm
theorem w21_4 (S : Oracle) (q : Nat) (x0 x1 x2 x3 : TVal) (h : Heap) : lim tab.get S 21 q 4 [x0, x1, x2, x3] h = b21_4 (orc S (lim tab.get S)) (lim tab.get S 21 q) q x0 x1 x2 x3 h := (lim_eqF k21 q 4 _ h).trans (e21_4 ..).symm
theorem w21_5 (S : Oracle) (q : Nat) (x0 x1 x2 : TVal) (h : Heap) : lim tab.get S 21 q 5 [x0, x1, x2] h = b21_5 (orc S (lim tab.get S)) (lim tab.get S 21 q) q x0 x1 x2 h := (lim_eqF k21 q 5 _ h).trans (e21_5 ..).symm
theorem w21_6 (S : Oracle) (q : Nat) (x0 x1 x2 x3 x4 : TVal) (h : Heap) : lim tab.get S 21 q 6 [x0, x1, x2, x3, x4] h = b21_6 (orc S (lim tab.get S)) (lim tab.get S 21 q) q x0 x1 x2 x3 x4 h := (lim_eqF k21 q 6 _ h).trans (e21_6 ..).symm
theorem w21_7 (S : Oracle) (q : Nat) (x0 : TVal) (h : Heap) : lim tab.get S 21 q 7 [x0] h = b21_7 (orc S (lim tab.get S)) (lim tab.get S 21 q) q x0 h := (lim_eqF k21 q 7 _ h).trans (e21_7 ..).symm
theorem k22 : tab.get 22 = some c22 := by kernel_rfl
theorem w22_0 (S : Oracle) (q : Nat) (x0 x1 : TVal) (h : Heap) : lim tab.get S 22 q 0 [x0, x1] h = b22_0 (orc S (lim tab.get S)) (lim tab.get S 22 q) q x0 x1 h := (lim_eqF k22 q 0 _ h).trans (e22_0 ..).symm
theorem k23 : tab.get 23 = some c23 := by kernel_rfl
theorem w23_0 (S : Oracle) (q : Nat) (x0 : TVal) (h : Heap) : lim tab.get S 23 q 0 [x0] h = b23_0 (orc S (lim tab.get S)) (lim tab.get S 23 q) q x0 h := (lim_eqF k23 q 0 _ h).trans (e23_0 ..).symm
theorem w23_1 (S : Oracle) (q : Nat) (x0 x1 x2 x3 : TVal) (h : Heap) : lim tab.get S 23 q 1 [x0, x1, x2, x3] h = b23_1 (orc S (lim tab.get S)) (lim tab.get S 23 q) q x0 x1 x2 x3 h := (lim_eqF k23 q 1 _ h).trans (e23_1 ..).symm
theorem k24 : tab.get 24 = some c24 := by kernel_rfl
theorem w24_0 (S : Oracle) (q : Nat) (x0 : TVal) (h : Heap) : lim tab.get S 24 q 0 [x0] h = b24_0 (orc S (lim tab.get S)) (lim tab.get S 24 q) q x0 h := (lim_eqF k24 q 0 _ h).trans (e24_0 ..).symm
theorem k25 : tab.get 25 = some c25 := by kernel_rfl
theorem w25_0 (S : Oracle) (q : Nat) (x0 : TVal) (h : Heap) : lim tab.get S 25 q 0 [x0] h = b25_0 (orc S (lim tab.get S)) (lim tab.get S 25 q) q x0 h := (lim_eqF k25 q 0 _ h).trans (e25_0 ..).symm
theorem k26 : tab.get 26 = some c26 := by kernel_rfl
theorem w26_0 (S : Oracle) (q : Nat) (x0 : TVal) (h : Heap) : lim tab.get S 26 q 0 [x0] h = b26_0 (orc S (lim tab.get S)) (lim tab.get S 26 q) q x0 h := (lim_eqF k26 q 0 _ h).trans (e26_0 ..).symm
theorem k27 : tab.get 27 = some c27 := by kernel_rfl
theorem w27_0 (S : Oracle) (q : Nat) (x0 : TVal) (h : Heap) : lim tab.get S 27 q 0 [x0] h = b27_0 (orc S (lim tab.get S)) (lim tab.get S 27 q) q x0 h := (lim_eqF k27 q 0 _ h).trans (e27_0 ..).symm
theorem k28 : tab.get 28 = some c28 := by kernel_rfl
theorem w28_0 (S : Oracle) (q : Nat) (x0 : TVal) (h : Heap) : lim tab.get S 28 q 0 [x0] h = b28_0 (orc S (lim tab.get S)) (lim tab.get S 28 q) q x0 h := (lim_eqF k28 q 0 _ h).trans (e28_0 ..).symm
theorem w28_1 (S : Oracle) (q : Nat) (x0 x1 : TVal) (h : Heap) : lim tab.get S 28 q 1 [x0, x1] h = b28_1 (orc S (lim tab.get S)) (lim tab.get S 28 q) q x0 x1 h := (lim_eqF k28 q 1 _ h).trans (e28_1 ..).symm
theorem w28_2 (S : Oracle) (q : Nat) (x0 x1 x2 x3 : TVal) (h : Heap) : lim tab.get S 28 q 2 [x0, x1, x2, x3] h = b28_2 (orc S (lim tab.get S)) (lim tab.get S 28 q) q x0 x1 x2 x3 h := (lim_eqF k28 q 2 _ h).trans (e28_2 ..).symm
theorem w28_3 (S : Oracle) (q : Nat) (x0 x1 : TVal) (h : Heap) : lim tab.get S 28 q 3 [x0, x1] h = b28_3 (orc S (lim tab.get S)) (lim tab.get S 28 q) q x0 x1 h := (lim_eqF k28 q 3 _ h).trans (e28_3 ..).symm
theorem k29 : tab.get 29 = some c29 := by kernel_rfl
theorem w29_0 (S : Oracle) (q : Nat) (x0 x1 : TVal) (h : Heap) : lim tab.get S 29 q 0 [x0, x1] h = b29_0 (orc S (lim tab.get S)) (lim tab.get S 29 q) q x0 x1 h := (lim_eqF k29 q 0 _ h).trans (e29_0 ..).symm
theorem w29_1 (S : Oracle) (q : Nat) (x0 x1 x2 : TVal) (h : Heap) : lim tab.get S 29 q 1 [x0, x1, x2] h = b29_1 (orc S (lim tab.get S)) (lim tab.get S 29 q) q x0 x1 x2 h := (lim_eqF k29 q 1 _ h).trans (e29_1 ..).symm
theorem w29_2 (S : Oracle) (q : Nat) (x0 x1 x2 x3 x4 : TVal) (h : Heap) : lim tab.get S 29 q 2 [x0, x1, x2, x3, x4] h = b29_2 (orc S (lim tab.get S)) (lim tab.get S 29 q) q x0 x1 x2 x3 x4 h := (lim_eqF k29 q 2 _ h).trans (e29_2 ..).symm
theorem w29_3 (S : Oracle) (q : Nat) (x0 x1 x2 : TVal) (h : Heap) : lim tab.get S 29 q 3 [x0, x1, x2] h = b29_3 (orc S (lim tab.get S)) (lim tab.get S 29 q) q x0 x1 x2 h := (lim_eqF k29 q 3 _ h).trans (e29_3 ..).symm
theorem k30 : tab.get 30 = some c30 := by kernel_rfl
theorem w30_0 (S : Oracle) (q : Nat) (x0 x1 : TVal) (h : Heap) : lim tab.get S 30 q 0 [x0, x1] h = b30_0 (orc S (lim tab.get S)) (lim tab.get S 30 q) q x0 x1 h := (lim_eqF k30 q 0 _ h).trans (e30_0 ..).symm
theorem k31 : tab.get 31 = some c31 := by kernel_rfl
theorem w31_0 (S : Oracle) (q : Nat) (x0 : TVal) (h : Heap) : lim tab.get S 31 q 0 [x0] h = b31_0 (orc S (lim tab.get S)) (lim tab.get S 31 q) q x0 h := (lim_eqF k31 q 0 _ h).trans (e31_0 ..).symm
theorem k32 : tab.get 32 = some c32 := by kernel_rfl
theorem w32_0 (S : Oracle) (q : Nat) (x0 : TVal) (h : Heap) : lim tab.get S 32 q 0 [x0] h = b32_0 (orc S (lim tab.get S)) (lim tab.get S 32 q) q x0 h := (lim_eqF k32 q 0 _ h).trans (e32_0 ..).symm
theorem k33 : tab.get 33 = some c33 := by kernel_rfl
theorem w33_0 (S : Oracle) (q : Nat) (x0 : TVal) (h : Heap) : lim tab.get S 33 q 0 [x0] h = b33_0 (orc S (lim tab.get S)) (lim tab.get S 33 q) q x0 h := (lim_eqF k33 q 0 _ h).trans (e33_0 ..).symm
theorem w33_1 (S : Oracle) (q : Nat) (x0 x1 x2 x3 x4 : TVal) (h : Heap) : lim tab.get S 33 q 1 [x0, x1, x2, x3, x4] h = b33_1 (orc S (lim tab.get S)) (lim tab.get S 33 q) q x0 x1 x2 x3 x4 h := (lim_eqF k33 q 1 _ h).trans (e33_1 ..).symm
theorem w33_2 (S : Oracle) (q : Nat) (x0 x1 x2 x3 : TVal) (h : Heap) : lim tab.get S 33 q 2 [x0, x1, x2, x3] h = b33_2 (orc S (lim tab.get S)) (lim tab.get S 33 q) q x0 x1 x2 x3 h := (lim_eqF k33 q 2 _ h).trans (e33_2 ..).symm
theorem k34 : tab.get 34 = some c34 := by kernel_rfl
theorem w34_0 (S : Oracle) (q : Nat) (x0 : TVal) (h : Heap) : lim tab.get S 34 q 0 [x0] h = b34_0 (orc S (lim tab.get S)) (lim tab.get S 34 q) q x0 h := (lim_eqF k34 q 0 _ h).trans (e34_0 ..).symm
theorem w34_1 (S : Oracle) (q : Nat) (x0 x1 x2 x3 : TVal) (h : Heap) : lim tab.get S 34 q 1 [x0, x1, x2, x3] h = b34_1 (orc S (lim tab.get S)) (lim tab.get S 34 q) q x0 x1 x2 x3 h := (lim_eqF k34 q 1 _ h).trans (e34_1 ..).symm
theorem w34_2 (S : Oracle) (q : Nat) (x0 x1 x2 x3 : TVal) (h : Heap) : lim tab.get S 34 q 2 [x0, x1, x2, x3] h = b34_2 (orc S (lim tab.get S)) (lim tab.get S 34 q) q x0 x1 x2 x3 h := (lim_eqF k34 q 2 _ h).trans (e34_2 ..).symm
theorem w34_3 (S : Oracle) (q : Nat) (x0 : TVal) (h : Heap) : lim tab.get S 34 q 3 [x0] h = b34_3 (orc S (lim tab.get S)) (lim tab.get S 34 q) q x0 h := (lim_eqF k34 q 3 _ h).trans (e34_3 ..).symm
theorem k35 : tab.get 35 = some c35 := by kernel_rfl
theorem w35_0 (S : Oracle) (q : Nat) (x0 : TVal) (h : Heap) : lim tab.get S 35 q 0 [x0] h = b35_0 (orc S (lim tab.get S)) (lim tab.get S 35 q) q x0 h := (lim_eqF k35 q 0 _ h).trans (e35_0 ..).symm
theorem w35_1 (S : Oracle) (q : Nat) (x0 x1 x2 x3 x4 : TVal) (h : Heap) : lim tab.get S 35 q 1 [x0, x1, x2, x3, x4] h = b35_1 (orc S (lim tab.get S)) (lim tab.get S 35 q) q x0 x1 x2 x3 x4 h := (lim_eqF k35 q 1 _ h).trans (e35_1 ..).symm
theorem w35_2 (S : Oracle) (q : Nat) (x0 x1 : TVal) (h : Heap) : lim tab.get S 35 q 2 [x0, x1] h = b35_2 (orc S (lim tab.get S)) (lim tab.get S 35 q) q x0 x1 h := (lim_eqF k35 q 2 _ h).trans (e35_2 ..).symm
theorem k36 : tab.get 36 = some c36 := by kernel_rfl
theorem w36_0 (S : Oracle) (q : Nat) (x0 x1 : TVal) (h : Heap) : lim tab.get S 36 q 0 [x0, x1] h = b36_0 (orc S (lim tab.get S)) (lim tab.get S 36 q) q x0 x1 h := (lim_eqF k36 q 0 _ h).trans (e36_0 ..).symm
theorem w36_1 (S : Oracle) (q : Nat) (x0 x1 x2 : TVal) (h : Heap) : lim tab.get S 36 q 1 [x0, x1, x2] h = b36_1 (orc S (lim tab.get S)) (lim tab.get S 36 q) q x0 x1 x2 h := (lim_eqF k36 q 1 _ h).trans (e36_1 ..).symm
theorem w36_2 (S : Oracle) (q : Nat) (x0 : TVal) (h : Heap) : lim tab.get S 36 q 2 [x0] h = b36_2 (orc S (lim tab.get S)) (lim tab.get S 36 q) q x0 h := (lim_eqF k36 q 2 _ h).trans (e36_2 ..).symm
theorem k37 : tab.get 37 = some c37 := by kernel_rfl
theorem w37_0 (S : Oracle) (q : Nat) (x0 : TVal) (h : Heap) : lim tab.get S 37 q 0 [x0] h = b37_0 (orc S (lim tab.get S)) (lim tab.get S 37 q) q x0 h := (lim_eqF k37 q 0 _ h).trans (e37_0 ..).symm
theorem k38 : tab.get 38 = some c38 := by kernel_rfl
theorem w38_0 (S : Oracle) (q : Nat) (x0 x1 : TVal) (h : Heap) : lim tab.get S 38 q 0 [x0, x1] h = b38_0 (orc S (lim tab.get S)) (lim tab.get S 38 q) q x0 x1 h := (lim_eqF k38 q 0 _ h).trans (e38_0 ..).symm
theorem w38_1 (S : Oracle) (q : Nat) (x0 x1 x2 x3 x4 x5 x6 x7 : TVal) (h : Heap) : lim tab.get S 38 q 1 [x0, x1, x2, x3, x4, x5, x6, x7] h = b38_1 (orc S (lim tab.get S)) (lim tab.get S 38 q) q x0 x1 x2 x3 x4 x5 x6 x7 h := (lim_eqF k38 q 1 _ h).trans (e38_1 ..).symm
theorem w38_2 (S : Oracle) (q : Nat) (x0 x1 x2 x3 x4 x5 x6 x7 : TVal) (h : Heap) : lim tab.get S 38 q 2 [x0, x1, x2, x3, x4, x5, x6, x7] h = b38_2 (orc S (lim tab.get S)) (lim tab.get S 38 q) q x0 x1 x2 x3 x4 x5 x6 x7 h := (lim_eqF k38 q 2 _ h).trans (e38_2 ..).symm
theorem k39 : tab.get 39 = some c39 := by kernel_rfl
theorem w39_0 (S : Oracle) (q : Nat) (x0 x1 : TVal) (h : Heap) : lim tab.get S 39 q 0 [x0, x1] h = b39_0 (orc S (lim tab.get S)) (lim tab.get S 39 q) q x0 x1 h := (lim_eqF k39 q 0 _ h).trans (e39_0 ..).symm
theorem k40 : tab.get 40 = some c40 := by kernel_rfl
theorem w40_0 (S : Oracle) (q : Nat) (x0 : TVal) (h : Heap) : lim tab.get S 40 q 0 [x0] h = b40_0 (orc S (lim tab.get S)) (lim tab.get S 40 q) q x0 h := (lim_eqF k40 q 0 _ h).trans (e40_0 ..).symm
theorem k41 : tab.get 41 = some c41 := by kernel_rfl
theorem w41_0 (S : Oracle) (q : Nat) (x0 : TVal) (h : Heap) : lim tab.get S 41 q 0 [x0] h = b41_0 (orc S (lim tab.get S)) (lim tab.get S 41 q) q x0 h := (lim_eqF k41 q 0 _ h).trans (e41_0 ..).symm
theorem w41_1 (S : Oracle) (q : Nat) (x0 x1 x2 x3 x4 : TVal) (h : Heap) : lim tab.get S 41 q 1 [x0, x1, x2, x3, x4] h = b41_1 (orc S (lim tab.get S)) (lim tab.get S 41 q) q x0 x1 x2 x3 x4 h := (lim_eqF k41 q 1 _ h).trans (e41_1 ..).symm
theorem w41_2 (S : Oracle) (q : Nat) (x0 x1 x2 : TVal) (h : Heap) : lim tab.get S 41 q 2 [x0, x1, x2] h = b41_2 (orc S (lim tab.get S)) (lim tab.get S 41 q) q x0 x1 x2 h := (lim_eqF k41 q 2 _ h).trans (e41_2 ..).symm
theorem w41_3 (S : Oracle) (q : Nat) (x0 x1 x2 x3 : TVal) (h : Heap) : lim tab.get S 41 q 3 [x0, x1, x2, x3] h = b41_3 (orc S (lim tab.get S)) (lim tab.get S 41 q) q x0 x1 x2 x3 h := (lim_eqF k41 q 3 _ h).trans (e41_3 ..).symm
theorem w41_4 (S : Oracle) (q : Nat) (x0 x1 x2 x3 : TVal) (h : Heap) : lim tab.get S 41 q 4 [x0, x1, x2, x3] h = b41_4 (orc S (lim tab.get S)) (lim tab.get S 41 q) q x0 x1 x2 x3 h := (lim_eqF k41 q 4 _ h).trans (e41_4 ..).symm
theorem w41_5 (S : Oracle) (q : Nat) (x0 x1 x2 x3 x4 : TVal) (h : Heap) : lim tab.get S 41 q 5 [x0, x1, x2, x3, x4] h = b41_5 (orc S (lim tab.get S)) (lim tab.get S 41 q) q x0 x1 x2 x3 x4 h := (lim_eqF k41 q 5 _ h).trans (e41_5 ..).symm
theorem w41_6 (S : Oracle) (q : Nat) (x0 x1 x2 x3 : TVal) (h : Heap) : lim tab.get S 41 q 6 [x0, x1, x2, x3] h = b41_6 (orc S (lim tab.get S)) (lim tab.get S 41 q) q x0 x1 x2 x3 h := (lim_eqF k41 q 6 _ h).trans (e41_6 ..).symm
theorem w41_7 (S : Oracle) (q : Nat) (x0 x1 x2 x3 : TVal) (h : Heap) : lim tab.get S 41 q 7 [x0, x1, x2, x3] h = b41_7 (orc S (lim tab.get S)) (lim tab.get S 41 q) q x0 x1 x2 x3 h := (lim_eqF k41 q 7 _ h).trans (e41_7 ..).symm
theorem k42 : tab.get 42 = some c42 := by kernel_rfl
theorem w42_0 (S : Oracle) (q : Nat) (x0 x1 : TVal) (h : Heap) : lim tab.get S 42 q 0 [x0, x1] h = b42_0 (orc S (lim tab.get S)) (lim tab.get S 42 q) q x0 x1 h := (lim_eqF k42 q 0 _ h).trans (e42_0 ..).symm
theorem k43 : tab.get 43 = some c43 := by kernel_rfl
theorem w43_0 (S : Oracle) (q : Nat) (x0 x1 : TVal) (h : Heap) : lim tab.get S 43 q 0 [x0, x1] h = b43_0 (orc S (lim tab.get S)) (lim tab.get S 43 q) q x0 x1 h := (lim_eqF k43 q 0 _ h).trans (e43_0 ..).symm
theorem k45 : tab.get 45 = some c45 := by kernel_rfl
theorem w45_0 (S : Oracle) (q : Nat) (x0 : TVal) (h : Heap) : lim tab.get S 45 q 0 [x0] h = b45_0 (orc S (lim tab.get S)) (lim tab.get S 45 q) q x0 h := (lim_eqF k45 q 0 _ h).trans (e45_0 ..).symm
theorem k46 : tab.get 46 = some c46 := by kernel_rfl
theorem w46_0 (S : Oracle) (q : Nat) (x0 x1 : TVal) (h : Heap) : lim tab.get S 46 q 0 [x0, x1] h = b46_0 (orc S (lim tab.get S)) (lim tab.get S 46 q) q x0 x1 h := (lim_eqF k46 q 0 _ h).trans (e46_0 ..).symm
theorem w46_1 (S : Oracle) (q : Nat) (x0 x1 x2 x3 x4 x5 x6 : TVal) (h : Heap) : lim tab.get S 46 q 1 [x0, x1, x2, x3, x4, x5, x6] h = b46_1 (orc S (lim tab.get S)) (lim tab.get S 46 q) q x0 x1 x2 x3 x4 x5 x6 h := (lim_eqF k46 q 1 _ h).trans (e46_1 ..).symm
theorem w46_2 (S : Oracle) (q : Nat) (x0 x1 x2 x3 x4 x5 : TVal) (h : Heap) : lim tab.get S 46 q 2 [x0, x1, x2, x3, x4, x5] h = b46_2 (orc S (lim tab.get S)) (lim tab.get S 46 q) q x0 x1 x2 x3 x4 x5 h := (lim_eqF k46 q 2 _ h).trans (e46_2 ..).symm
theorem w46_3 (S : Oracle) (q : Nat) (x0 x1 x2 x3 x4 x5 x6 : TVal) (h : Heap) : lim tab.get S 46 q 3 [x0, x1, x2, x3, x4, x5, x6] h = b46_3 (orc S (lim tab.get S)) (lim tab.get S 46 q) q x0 x1 x2 x3 x4 x5 x6 h := (lim_eqF k46 q 3 _ h).trans (e46_3 ..).symm
theorem k47 : tab.get 47 = some c47 := by kernel_rfl
theorem w47_0 (S : Oracle) (q : Nat) (x0 x1 : TVal) (h : Heap) : lim tab.get S 47 q 0 [x0, x1] h = b47_0 (orc S (lim tab.get S)) (lim tab.get S 47 q) q x0 x1 h := (lim_eqF k47 q 0 _ h).trans (e47_0 ..).symm
theorem k48 : tab.get 48 = some c48 := by kernel_rfl
theorem w48_0 (S : Oracle) (q : Nat) (x0 x1 : TVal) (h : Heap) : lim tab.get S 48 q 0 [x0, x1] h = b48_0 (orc S (lim tab.get S)) (lim tab.get S 48 q) q x0 x1 h := (lim_eqF k48 q 0 _ h).trans (e48_0 ..).symm
theorem w48_1 (S : Oracle) (q : Nat) (x0 x1 x2 x3 x4 : TVal) (h : Heap) : lim tab.get S 48 q 1 [x0, x1, x2, x3, x4] h = b48_1 (orc S (lim tab.get S)) (lim tab.get S 48 q) q x0 x1 x2 x3 x4 h := (lim_eqF k48 q 1 _ h).trans (e48_1 ..).symm
theorem w48_2 (S : Oracle) (q : Nat) (x0 x1 x2 : TVal) (h : Heap) : lim tab.get S 48 q 2 [x0, x1, x2] h = b48_2 (orc S (lim tab.get S)) (lim tab.get S 48 q) q x0 x1 x2 h := (lim_eqF k48 q 2 _ h).trans (e48_2 ..).symm
theorem w48_3 (S : Oracle) (q : Nat) (x0 x1 : TVal) (h : Heap) : lim tab.get S 48 q 3 [x0, x1] h = b48_3 (orc S (lim tab.get S)) (lim tab.get S 48 q) q x0 x1 h := (lim_eqF k48 q 3 _ h).trans (e48_3 ..).symm
theorem w48_4 (S : Oracle) (q : Nat) (x0 x1 x2 x3 x4 : TVal) (h : Heap) : lim tab.get S 48 q 4 [x0, x1, x2, x3, x4] h = b48_4 (orc S (lim tab.get S)) (lim tab.get S 48 q) q x0 x1 x2 x3 x4 h := (lim_eqF k48 q 4 _ h).trans (e48_4 ..).symm
theorem k49 : tab.get 49 = some c49 := by kernel_rfl
theorem w49_0 (S : Oracle) (q : Nat) (x0 : TVal) (h : Heap) : lim tab.get S 49 q 0 [x0] h = b49_0 (orc S (lim tab.get S)) (lim tab.get S 49 q) q x0 h := (lim_eqF k49 q 0 _ h).trans (e49_0 ..).symm
theorem w49_1 (S : Oracle) (q : Nat) (x0 : TVal) (h : Heap) : lim tab.get S 49 q 1 [x0] h = b49_1 (orc S (lim tab.get S)) (lim tab.get S 49 q) q x0 h := (lim_eqF k49 q 1 _ h).trans (e49_1 ..).symm
theorem k50 : tab.get 50 = some c50 := by kernel_rfl
theorem w50_0 (S : Oracle) (q : Nat) (x0 x1 : TVal) (h : Heap) : lim tab.get S 50 q 0 [x0, x1] h = b50_0 (orc S (lim tab.get S)) (lim tab.get S 50 q) q x0 x1 h := (lim_eqF k50 q 0 _ h).trans (e50_0 ..).symm
theorem k52 : tab.get 52 = some c52 := by kernel_rfl
theorem w52_0 (S : Oracle) (q : Nat) (x0 : TVal) (h : Heap) : lim tab.get S 52 q 0 [x0] h = b52_0 (orc S (lim tab.get S)) (lim tab.get S 52 q) q x0 h := (lim_eqF k52 q 0 _ h).trans (e52_0 ..).symm
theorem w52_1 (S : Oracle) (q : Nat) (x0 x1 x2 : TVal) (h : Heap) : lim tab.get S 52 q 1 [x0, x1, x2] h = b52_1 (orc S (lim tab.get S)) (lim tab.get S 52 q) q x0 x1 x2 h := (lim_eqF k52 q 1 _ h).trans (e52_1 ..).symm
theorem w52_2 (S : Oracle) (q : Nat) (x0 x1 : TVal) (h : Heap) : lim tab.get S 52 q 2 [x0, x1] h = b52_2 (orc S (lim tab.get S)) (lim tab.get S 52 q) q x0 x1 h := (lim_eqF k52 q 2 _ h).trans (e52_2 ..).symm
theorem w52_3 (S : Oracle) (q : Nat) (x0 x1 x2 x3 : TVal) (h : Heap) : lim tab.get S 52 q 3 [x0, x1, x2, x3] h = b52_3 (orc S (lim tab.get S)) (lim tab.get S 52 q) q x0 x1 x2 x3 h := (lim_eqF k52 q 3 _ h).trans (e52_3 ..).symm
theorem w52_4 (S : Oracle) (q : Nat) (x0 x1 x2 x3 : TVal) (h : Heap) : lim tab.get S 52 q 4 [x0, x1, x2, x3] h = b52_4 (orc S (lim tab.get S)) (lim tab.get S 52 q) q x0 x1 x2 x3 h := (lim_eqF k52 q 4 _ h).trans (e52_4 ..).symm
theorem k53 : tab.get 53 = some c53 := by kernel_rfl
theorem w53_0 (S : Oracle) (q : Nat) (x0 x1 : TVal) (h : Heap) : lim tab.get S 53 q 0 [x0, x1] h = b53_0 (orc S (lim tab.get S)) (lim tab.get S 53 q) q x0 x1 h := (lim_eqF k53 q 0 _ h).trans (e53_0 ..).symm
theorem k54 : tab.get 54 = some c54 := by kernel_rfl
theorem w54_0 (S : Oracle) (q : Nat) (x0 x1 : TVal) (h : Heap) : lim tab.get S 54 q 0 [x0, x1] h = b54_0 (orc S (lim tab.get S)) (lim tab.get S 54 q) q x0 x1 h := (lim_eqF k54 q 0 _ h).trans (e54_0 ..).symm
theorem w54_1 (S : Oracle) (q : Nat) (x0 x1 x2 x3 : TVal) (h : Heap) : lim tab.get S 54 q 1 [x0, x1, x2, x3] h = b54_1 (orc S (lim tab.get S)) (lim tab.get S 54 q) q x0 x1 x2 x3 h := (lim_eqF k54 q 1 _ h).trans (e54_1 ..).symm
theorem w54_2 (S : Oracle) (q : Nat) (h : Heap) : lim tab.get S 54 q 2 [] h = b54_2 (orc S (lim tab.get S)) (lim tab.get S 54 q) q  h := (lim_eqF k54 q 2 _ h).trans (e54_2 ..).symm
theorem w54_3 (S : Oracle) (q : Nat) (x0 x1 : TVal) (h : Heap) : lim tab.get S 54 q 3 [x0, x1] h = b54_3 (orc S (lim tab.get S)) (lim tab.get S 54 q) q x0 x1 h := (lim_eqF k54 q 3 _ h).trans (e54_3 ..).symm
theorem w54_4 (S : Oracle) (q : Nat) (x0 x1 x2 x3 : TVal) (h : Heap) : lim tab.get S 54 q 4 [x0, x1, x2, x3] h = b54_4 (orc S (lim tab.get S)) (lim tab.get S 54 q) q x0 x1 x2 x3 h := (lim_eqF k54 q 4 _ h).trans (e54_4 ..).symm
theorem k55 : tab.get 55 = some c55 := by kernel_rfl
theorem w55_0 (S : Oracle) (q : Nat) (x0 x1 : TVal) (h : Heap) : lim tab.get S 55 q 0 [x0, x1] h = b55_0 (orc S (lim tab.get S)) (lim tab.get S 55 q) q x0 x1 h := (lim_eqF k55 q 0 _ h).trans (e55_0 ..).symm
theorem w55_1 (S : Oracle) (q : Nat) (x0 x1 x2 x3 : TVal) (h : Heap) : lim tab.get S 55 q 1 [x0, x1, x2, x3] h = b55_1 (orc S (lim tab.get S)) (lim tab.get S 55 q) q x0 x1 x2 x3 h := (lim_eqF k55 q 1 _ h).trans (e55_1 ..).symm
theorem w55_2 (S : Oracle) (q : Nat) (h : Heap) : lim tab.get S 55 q 2 [] h = b55_2 (orc S (lim tab.get S)) (lim tab.get S 55 q) q  h := (lim_eqF k55 q 2 _ h).trans (e55_2 ..).symm
theorem w55_3 (S : Oracle) (q : Nat) (x0 x1 : TVal) (h : Heap) : lim tab.get S 55 q 3 [x0, x1] h = b55_3 (orc S (lim tab.get S)) (lim tab.get S 55 q) q x0 x1 h := (lim_eqF k55 q 3 _ h).trans (e55_3 ..).symm
theorem w55_4 (S : Oracle) (q : Nat) (x0 x1 x2 x3 : TVal) (h : Heap) : lim tab.get S 55 q 4 [x0, x1, x2, x3] h = b55_4 (orc S (lim tab.get S)) (lim tab.get S 55 q) q x0 x1 x2 x3 h := (lim_eqF k55 q 4 _ h).trans (e55_4 ..).symm
end Go.Proofs.YtljhpmggifjigaaDoor.Ab
