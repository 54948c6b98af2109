/- The machine's equations, a piece at a time. Own work, printed by a program of our own; no condition. -/
import Derived.Test.YtlkejchbcchecaaGreatDoorTabR
namespace Go.Proofs.YtlkejchbcchecaaGreatDoor.Ab
open Go Go.AI
set_option linter.all false
set_option linter.unusedVariables false
set_option maxRecDepth 100000
theorem k3 : tab.get 3 = some c3 := by kernel_rfl
theorem w3_0 (S : Oracle) (q : Nat) (x0 x1 : TVal) (h : Heap) : lim tab.get S 3 q 0 [x0, x1] h = b3_0 (orc S (lim tab.get S)) (lim tab.get S 3 q) q x0 x1 h := (qAA k3 q 0 _ h).trans (e3_0 ..).symm
theorem w3_1 (S : Oracle) (q : Nat) (x0 x1 x2 x3 x4 : TVal) (h : Heap) : lim tab.get S 3 q 1 [x0, x1, x2, x3, x4] h = b3_1 (orc S (lim tab.get S)) (lim tab.get S 3 q) q x0 x1 x2 x3 x4 h := (qAA k3 q 1 _ h).trans (e3_1 ..).symm
theorem w3_2 (S : Oracle) (q : Nat) (x0 x1 x2 x3 x4 : TVal) (h : Heap) : lim tab.get S 3 q 2 [x0, x1, x2, x3, x4] h = b3_2 (orc S (lim tab.get S)) (lim tab.get S 3 q) q x0 x1 x2 x3 x4 h := (qAA k3 q 2 _ h).trans (e3_2 ..).symm
theorem w3_3 (S : Oracle) (q : Nat) (x0 x1 x2 : TVal) (h : Heap) : lim tab.get S 3 q 3 [x0, x1, x2] h = b3_3 (orc S (lim tab.get S)) (lim tab.get S 3 q) q x0 x1 x2 h := (qAA k3 q 3 _ h).trans (e3_3 ..).symm
theorem w3_4 (S : Oracle) (q : Nat) (x0 x1 x2 : TVal) (h : Heap) : lim tab.get S 3 q 4 [x0, x1, x2] h = b3_4 (orc S (lim tab.get S)) (lim tab.get S 3 q) q x0 x1 x2 h := (qAA k3 q 4 _ h).trans (e3_4 ..).symm
theorem w3_5 (S : Oracle) (q : Nat) (x0 x1 x2 x3 x4 x5 : TVal) (h : Heap) : lim tab.get S 3 q 5 [x0, x1, x2, x3, x4, x5] h = b3_5 (orc S (lim tab.get S)) (lim tab.get S 3 q) q x0 x1 x2 x3 x4 x5 h := (qAA k3 q 5 _ h).trans (e3_5 ..).symm
theorem k5 : tab.get 5 = some c5 := by kernel_rfl
theorem w5_0 (S : Oracle) (q : Nat) (h : Heap) : lim tab.get S 5 q 0 [] h = b5_0 (orc S (lim tab.get S)) (lim tab.get S 5 q) q  h := (qAA k5 q 0 _ h).trans (e5_0 ..).symm
theorem k6 : tab.get 6 = some c6 := by kernel_rfl
theorem w6_0 (S : Oracle) (q : Nat) (x0 : TVal) (h : Heap) : lim tab.get S 6 q 0 [x0] h = b6_0 (orc S (lim tab.get S)) (lim tab.get S 6 q) q x0 h := (qAA k6 q 0 _ h).trans (e6_0 ..).symm
theorem w6_1 (S : Oracle) (q : Nat) (x0 x1 x2 : TVal) (h : Heap) : lim tab.get S 6 q 1 [x0, x1, x2] h = b6_1 (orc S (lim tab.get S)) (lim tab.get S 6 q) q x0 x1 x2 h := (qAA k6 q 1 _ h).trans (e6_1 ..).symm
theorem k7 : tab.get 7 = some c7 := by kernel_rfl
theorem w7_0 (S : Oracle) (q : Nat) (x0 : TVal) (h : Heap) : lim tab.get S 7 q 0 [x0] h = b7_0 (orc S (lim tab.get S)) (lim tab.get S 7 q) q x0 h := (qAA k7 q 0 _ h).trans (e7_0 ..).symm
theorem w7_1 (S : Oracle) (q : Nat) (x0 x1 x2 x3 : TVal) (h : Heap) : lim tab.get S 7 q 1 [x0, x1, x2, x3] h = b7_1 (orc S (lim tab.get S)) (lim tab.get S 7 q) q x0 x1 x2 x3 h := (qAA k7 q 1 _ h).trans (e7_1 ..).symm
theorem w7_2 (S : Oracle) (q : Nat) (x0 x1 x2 x3 x4 : TVal) (h : Heap) : lim tab.get S 7 q 2 [x0, x1, x2, x3, x4] h = b7_2 (orc S (lim tab.get S)) (lim tab.get S 7 q) q x0 x1 x2 x3 x4 h := (qAA k7 q 2 _ h).trans (e7_2 ..).symm
theorem w7_3 (S : Oracle) (q : Nat) (x0 x1 : TVal) (h : Heap) : lim tab.get S 7 q 3 [x0, x1] h = b7_3 (orc S (lim tab.get S)) (lim tab.get S 7 q) q x0 x1 h := (qAA k7 q 3 _ h).trans (e7_3 ..).symm
theorem k8 : tab.get 8 = some c8 := by kernel_rfl
theorem w8_0 (S : Oracle) (q : Nat) (x0 x1 x2 x3 : TVal) (h : Heap) : lim tab.get S 8 q 0 [x0, x1, x2, x3] h = b8_0 (orc S (lim tab.get S)) (lim tab.get S 8 q) q x0 x1 x2 x3 h := (qAA k8 q 0 _ h).trans (e8_0 ..).symm
theorem w8_1 (S : Oracle) (q : Nat) (x0 x1 x2 x3 : TVal) (h : Heap) : lim tab.get S 8 q 1 [x0, x1, x2, x3] h = b8_1 (orc S (lim tab.get S)) (lim tab.get S 8 q) q x0 x1 x2 x3 h := (qAA k8 q 1 _ h).trans (e8_1 ..).symm
theorem w8_2 (S : Oracle) (q : Nat) (x0 x1 : TVal) (h : Heap) : lim tab.get S 8 q 2 [x0, x1] h = b8_2 (orc S (lim tab.get S)) (lim tab.get S 8 q) q x0 x1 h := (qAA k8 q 2 _ h).trans (e8_2 ..).symm
theorem k9 : tab.get 9 = some c9 := by kernel_rfl
theorem w9_0 (S : Oracle) (q : Nat) (x0 : TVal) (h : Heap) : lim tab.get S 9 q 0 [x0] h = b9_0 (orc S (lim tab.get S)) (lim tab.get S 9 q) q x0 h := (qAA k9 q 0 _ h).trans (e9_0 ..).symm
theorem w9_1 (S : Oracle) (q : Nat) (x0 x1 x2 x3 : TVal) (h : Heap) : lim tab.get S 9 q 1 [x0, x1, x2, x3] h = b9_1 (orc S (lim tab.get S)) (lim tab.get S 9 q) q x0 x1 x2 x3 h := (qAA k9 q 1 _ h).trans (e9_1 ..).symm
theorem w9_2 (S : Oracle) (q : Nat) (x0 x1 x2 x3 x4 x5 x6 x7 : TVal) (h : Heap) : lim tab.get S 9 q 2 [x0, x1, x2, x3, x4, x5, x6, x7] h = b9_2 (orc S (lim tab.get S)) (lim tab.get S 9 q) q x0 x1 x2 x3 x4 x5 x6 x7 h := (qAA k9 q 2 _ h).trans (e9_2 ..).symm
theorem w9_3 (S : Oracle) (q : Nat) (x0 x1 x2 x3 x4 : TVal) (h : Heap) : lim tab.get S 9 q 3 [x0, x1, x2, x3, x4] h = b9_3 (orc S (lim tab.get S)) (lim tab.get S 9 q) q x0 x1 x2 x3 x4 h := (qAA k9 q 3 _ h).trans (e9_3 ..).symm
theorem w9_4 (S : Oracle) (q : Nat) (x0 x1 x2 x3 : TVal) (h : Heap) : lim tab.get S 9 q 4 [x0, x1, x2, x3] h = b9_4 (orc S (lim tab.get S)) (lim tab.get S 9 q) q x0 x1 x2 x3 h := (qAA k9 q 4 _ h).trans (e9_4 ..).symm
theorem k11 : tab.get 11 = some c11 := by kernel_rfl
theorem w11_0 (S : Oracle) (q : Nat) (x0 : TVal) (h : Heap) : lim tab.get S 11 q 0 [x0] h = b11_0 (orc S (lim tab.get S)) (lim tab.get S 11 q) q x0 h := (qAA k11 q 0 _ h).trans (e11_0 ..).symm
theorem w11_1 (S : Oracle) (q : Nat) (x0 x1 x2 : TVal) (h : Heap) : lim tab.get S 11 q 1 [x0, x1, x2] h = b11_1 (orc S (lim tab.get S)) (lim tab.get S 11 q) q x0 x1 x2 h := (qAA k11 q 1 _ h).trans (e11_1 ..).symm
theorem w11_2 (S : Oracle) (q : Nat) (x0 x1 x2 : TVal) (h : Heap) : lim tab.get S 11 q 2 [x0, x1, x2] h = b11_2 (orc S (lim tab.get S)) (lim tab.get S 11 q) q x0 x1 x2 h := (qAA k11 q 2 _ h).trans (e11_2 ..).symm
theorem w11_3 (S : Oracle) (q : Nat) (x0 : TVal) (h : Heap) : lim tab.get S 11 q 3 [x0] h = b11_3 (orc S (lim tab.get S)) (lim tab.get S 11 q) q x0 h := (qAA k11 q 3 _ h).trans (e11_3 ..).symm
theorem w11_4 (S : Oracle) (q : Nat) (x0 : TVal) (h : Heap) : lim tab.get S 11 q 4 [x0] h = b11_4 (orc S (lim tab.get S)) (lim tab.get S 11 q) q x0 h := (qAA k11 q 4 _ h).trans (e11_4 ..).symm
theorem w11_5 (S : Oracle) (q : Nat) (x0 x1 x2 : TVal) (h : Heap) : lim tab.get S 11 q 5 [x0, x1, x2] h = b11_5 (orc S (lim tab.get S)) (lim tab.get S 11 q) q x0 x1 x2 h := (qAA k11 q 5 _ h).trans (e11_5 ..).symm
theorem w11_6 (S : Oracle) (q : Nat) (x0 x1 x2 : TVal) (h : Heap) : lim tab.get S 11 q 6 [x0, x1, x2] h = b11_6 (orc S (lim tab.get S)) (lim tab.get S 11 q) q x0 x1 x2 h := (qAA k11 q 6 _ h).trans (e11_6 ..).symm
theorem w11_7 (S : Oracle) (q : Nat) (x0 : TVal) (h : Heap) : lim tab.get S 11 q 7 [x0] h = b11_7 (orc S (lim tab.get S)) (lim tab.get S 11 q) q x0 h := (qAA k11 q 7 _ h).trans (e11_7 ..).symm
theorem k13 : tab.get 13 = some c13 := by kernel_rfl
theorem w13_0 (S : Oracle) (q : Nat) (x0 : TVal) (h : Heap) : lim tab.get S 13 q 0 [x0] h = b13_0 (orc S (lim tab.get S)) (lim tab.get S 13 q) q x0 h := (qAA k13 q 0 _ h).trans (e13_0 ..).symm
theorem w13_1 (S : Oracle) (q : Nat) (x0 x1 x2 x3 : TVal) (h : Heap) : lim tab.get S 13 q 1 [x0, x1, x2, x3] h = b13_1 (orc S (lim tab.get S)) (lim tab.get S 13 q) q x0 x1 x2 x3 h := (qAA k13 q 1 _ h).trans (e13_1 ..).symm
theorem w13_2 (S : Oracle) (q : Nat) (x0 x1 x2 : TVal) (h : Heap) : lim tab.get S 13 q 2 [x0, x1, x2] h = b13_2 (orc S (lim tab.get S)) (lim tab.get S 13 q) q x0 x1 x2 h := (qAA k13 q 2 _ h).trans (e13_2 ..).symm
theorem w13_3 (S : Oracle) (q : Nat) (x0 x1 x2 : TVal) (h : Heap) : lim tab.get S 13 q 3 [x0, x1, x2] h = b13_3 (orc S (lim tab.get S)) (lim tab.get S 13 q) q x0 x1 x2 h := (qAA k13 q 3 _ h).trans (e13_3 ..).symm
theorem w13_4 (S : Oracle) (q : Nat) (x0 : TVal) (h : Heap) : lim tab.get S 13 q 4 [x0] h = b13_4 (orc S (lim tab.get S)) (lim tab.get S 13 q) q x0 h := (qAA k13 q 4 _ h).trans (e13_4 ..).symm
theorem k14 : tab.get 14 = some c14 := by kernel_rfl
theorem w14_0 (S : Oracle) (q : Nat) (x0 x1 : TVal) (h : Heap) : lim tab.get S 14 q 0 [x0, x1] h = b14_0 (orc S (lim tab.get S)) (lim tab.get S 14 q) q x0 x1 h := (qAA k14 q 0 _ h).trans (e14_0 ..).symm
theorem w14_1 (S : Oracle) (q : Nat) (x0 x1 x2 x3 x4 : TVal) (h : Heap) : lim tab.get S 14 q 1 [x0, x1, x2, x3, x4] h = b14_1 (orc S (lim tab.get S)) (lim tab.get S 14 q) q x0 x1 x2 x3 x4 h := (qAA k14 q 1 _ h).trans (e14_1 ..).symm
theorem w14_2 (S : Oracle) (q : Nat) (x0 x1 x2 x3 x4 x5 x6 : TVal) (h : Heap) : lim tab.get S 14 q 2 [x0, x1, x2, x3, x4, x5, x6] h = b14_2 (orc S (lim tab.get S)) (lim tab.get S 14 q) q x0 x1 x2 x3 x4 x5 x6 h := (qAA k14 q 2 _ h).trans (e14_2 ..).symm
theorem w14_3 (S : Oracle) (q : Nat) (x0 x1 x2 x3 x4 x5 x6 : TVal) (h : Heap) : lim tab.get S 14 q 3 [x0, x1, x2, x3, x4, x5, x6] h = b14_3 (orc S (lim tab.get S)) (lim tab.get S 14 q) q x0 x1 x2 x3 x4 x5 x6 h := (qAA k14 q 3 _ h).trans (e14_3 ..).symm
theorem w14_4 (S : Oracle) (q : Nat) (x0 x1 x2 x3 x4 x5 : TVal) (h : Heap) : lim tab.get S 14 q 4 [x0, x1, x2, x3, x4, x5] h = b14_4 (orc S (lim tab.get S)) (lim tab.get S 14 q) q x0 x1 x2 x3 x4 x5 h := (qAA k14 q 4 _ h).trans (e14_4 ..).symm
theorem w14_5 (S : Oracle) (q : Nat) (x0 x1 x2 x3 : TVal) (h : Heap) : lim tab.get S 14 q 5 [x0, x1, x2, x3] h = b14_5 (orc S (lim tab.get S)) (lim tab.get S 14 q) q x0 x1 x2 x3 h := (qAA k14 q 5 _ h).trans (e14_5 ..).symm
theorem w14_6 (S : Oracle) (q : Nat) (x0 x1 x2 x3 : TVal) (h : Heap) : lim tab.get S 14 q 6 [x0, x1, x2, x3] h = b14_6 (orc S (lim tab.get S)) (lim tab.get S 14 q) q x0 x1 x2 x3 h := (qAA k14 q 6 _ h).trans (e14_6 ..).symm
theorem w14_7 (S : Oracle) (q : Nat) (x0 x1 x2 x3 : TVal) (h : Heap) : lim tab.get S 14 q 7 [x0, x1, x2, x3] h = b14_7 (orc S (lim tab.get S)) (lim tab.get S 14 q) q x0 x1 x2 x3 h := (qAA k14 q 7 _ h).trans (e14_7 ..).symm
theorem k15 : tab.get 15 = some c15 := by kernel_rfl
theorem w15_0 (S : Oracle) (q : Nat) (x0 x1 : TVal) (h : Heap) : lim tab.get S 15 q 0 [x0, x1] h = b15_0 (orc S (lim tab.get S)) (lim tab.get S 15 q) q x0 x1 h := (qAA k15 q 0 _ h).trans (e15_0 ..).symm
theorem k16 : tab.get 16 = some c16 := by kernel_rfl
theorem w16_0 (S : Oracle) (q : Nat) (x0 x1 : TVal) (h : Heap) : lim tab.get S 16 q 0 [x0, x1] h = b16_0 (orc S (lim tab.get S)) (lim tab.get S 16 q) q x0 x1 h := (qAA k16 q 0 _ h).trans (e16_0 ..).symm
theorem k17 : tab.get 17 = some c17 := by kernel_rfl
theorem w17_0 (S : Oracle) (q : Nat) (x0 x1 x2 : TVal) (h : Heap) : lim tab.get S 17 q 0 [x0, x1, x2] h = b17_0 (orc S (lim tab.get S)) (lim tab.get S 17 q) q x0 x1 x2 h := (qAA k17 q 0 _ h).trans (e17_0 ..).symm
theorem w17_1 (S : Oracle) (q : Nat) (x0 x1 x2 x3 x4 : TVal) (h : Heap) : lim tab.get S 17 q 1 [x0, x1, x2, x3, x4] h = b17_1 (orc S (lim tab.get S)) (lim tab.get S 17 q) q x0 x1 x2 x3 x4 h := (qAA k17 q 1 _ h).trans (e17_1 ..).symm
theorem w17_2 (S : Oracle) (q : Nat) (x0 x1 x2 x3 x4 x5 x6 x7 : TVal) (h : Heap) : lim tab.get S 17 q 2 [x0, x1, x2, x3, x4, x5, x6, x7] h = b17_2 (orc S (lim tab.get S)) (lim tab.get S 17 q) q x0 x1 x2 x3 x4 x5 x6 x7 h := (qAA k17 q 2 _ h).trans (e17_2 ..).symm
theorem w17_3 (S : Oracle) (q : Nat) (x0 x1 x2 x3 x4 x5 x6 x7 : TVal) (h : Heap) : lim tab.get S 17 q 3 [x0, x1, x2, x3, x4, x5, x6, x7] h = b17_3 (orc S (lim tab.get S)) (lim tab.get S 17 q) q x0 x1 x2 x3 x4 x5 x6 x7 h := (qAA k17 q 3 _ h).trans (e17_3 ..).symm
theorem w17_4 (S : Oracle) (q : Nat) (x0 x1 x2 x3 x4 x5 x6 x7 : TVal) (h : Heap) : lim tab.get S 17 q 4 [x0, x1, x2, x3, x4, x5, x6, x7] h = b17_4 (orc S (lim tab.get S)) (lim tab.get S 17 q) q x0 x1 x2 x3 x4 x5 x6 x7 h := (qAA k17 q 4 _ h).trans (e17_4 ..).symm
theorem w17_5 (S : Oracle) (q : Nat) (x0 x1 x2 x3 x4 x5 x6 x7 : TVal) (h : Heap) : lim tab.get S 17 q 5 [x0, x1, x2, x3, x4, x5, x6, x7] h = b17_5 (orc S (lim tab.get S)) (lim tab.get S 17 q) q x0 x1 x2 x3 x4 x5 x6 x7 h := (qAA k17 q 5 _ h).trans (e17_5 ..).symm
theorem w17_6 (S : Oracle) (q : Nat) (x0 x1 x2 x3 x4 : TVal) (h : Heap) : lim tab.get S 17 q 6 [x0, x1, x2, x3, x4] h = b17_6 (orc S (lim tab.get S)) (lim tab.get S 17 q) q x0 x1 x2 x3 x4 h := (qAA k17 q 6 _ h).trans (e17_6 ..).symm
theorem k18 : tab.get 18 = some c18 := by kernel_rfl
theorem w18_0 (S : Oracle) (q : Nat) (x0 : TVal) (h : Heap) : lim tab.get S 18 q 0 [x0] h = b18_0 (orc S (lim tab.get S)) (lim tab.get S 18 q) q x0 h := (qAA k18 q 0 _ h).trans (e18_0 ..).symm
theorem k19 : tab.get 19 = some c19 := by kernel_rfl
theorem w19_0 (S : Oracle) (q : Nat) (x0 : TVal) (h : Heap) : lim tab.get S 19 q 0 [x0] h = b19_0 (orc S (lim tab.get S)) (lim tab.get S 19 q) q x0 h := (qAA k19 q 0 _ h).trans (e19_0 ..).symm
theorem k20 : tab.get 20 = some c20 := by kernel_rfl
theorem w20_0 (S : Oracle) (q : Nat) (x0 : TVal) (h : Heap) : lim tab.get S 20 q 0 [x0] h = b20_0 (orc S (lim tab.get S)) (lim tab.get S 20 q) q x0 h := (qAA k20 q 0 _ h).trans (e20_0 ..).symm
theorem k21 : tab.get 21 = some c21 := by kernel_rfl
theorem w21_0 (S : Oracle) (q : Nat) (x0 : TVal) (h : Heap) : lim tab.get S 21 q 0 [x0] h = b21_0 (orc S (lim tab.get S)) (lim tab.get S 21 q) q x0 h := (qAA k21 q 0 _ h).trans (e21_0 ..).symm
theorem w21_1 (S : Oracle) (q : Nat) (x0 x1 x2 : TVal) (h : Heap) : lim tab.get S 21 q 1 [x0, x1, x2] h = b21_1 (orc S (lim tab.get S)) (lim tab.get S 21 q) q x0 x1 x2 h := (qAA k21 q 1 _ h).trans (e21_1 ..).symm
theorem w21_2 (S : Oracle) (q : Nat) (x0 x1 x2 : TVal) (h : Heap) : lim tab.get S 21 q 2 [x0, x1, x2] h = b21_2 (orc S (lim tab.get S)) (lim tab.get S 21 q) q x0 x1 x2 h := (qAA k21 q 2 _ h).trans (e21_2 ..).symm
theorem w21_3 (S : Oracle) (q : Nat) (x0 x1 x2 x3 : TVal) (h : Heap) : lim tab.get S 21 q 3 [x0, x1, x2, x3] h = b21_3 (orc S (lim tab.get S)) (lim tab.get S 21 q) q x0 x1 x2 x3 h := (qAA k21 q 3 _ h).trans (e21_3 ..).symm
theorem w21_4 (S : Oracle) (q : Nat) (x0 x1 x2 x3 : TVal) (h : Heap) : lim tab.get S 21 q 4 [x0, x1, x2, x3] h = b21_4 (orc S (lim tab.get S)) (lim tab.get S 21 q) q x0 x1 x2 x3 h := (qAA k21 q 4 _ h).trans (e21_4 ..).symm
theorem w21_5 (S : Oracle) (q : Nat) (x0 x1 x2 : TVal) (h : Heap) : lim tab.get S 21 q 5 [x0, x1, x2] h = b21_5 (orc S (lim tab.get S)) (lim tab.get S 21 q) q x0 x1 x2 h := (qAA k21 q 5 _ h).trans (e21_5 ..).symm
theorem k24 : tab.get 24 = some c24 := by kernel_rfl
theorem w24_0 (S : Oracle) (q : Nat) (x0 x1 : TVal) (h : Heap) : lim tab.get S 24 q 0 [x0, x1] h = b24_0 (orc S (lim tab.get S)) (lim tab.get S 24 q) q x0 x1 h := (qAA k24 q 0 _ h).trans (e24_0 ..).symm
theorem w24_1 (S : Oracle) (q : Nat) (x0 x1 x2 x3 : TVal) (h : Heap) : lim tab.get S 24 q 1 [x0, x1, x2, x3] h = b24_1 (orc S (lim tab.get S)) (lim tab.get S 24 q) q x0 x1 x2 x3 h := (qAA k24 q 1 _ h).trans (e24_1 ..).symm
theorem w24_2 (S : Oracle) (q : Nat) (x0 x1 x2 x3 : TVal) (h : Heap) : lim tab.get S 24 q 2 [x0, x1, x2, x3] h = b24_2 (orc S (lim tab.get S)) (lim tab.get S 24 q) q x0 x1 x2 x3 h := (qAA k24 q 2 _ h).trans (e24_2 ..).symm
theorem k25 : tab.get 25 = some c25 := by kernel_rfl
theorem w25_0 (S : Oracle) (q : Nat) (x0 : TVal) (h : Heap) : lim tab.get S 25 q 0 [x0] h = b25_0 (orc S (lim tab.get S)) (lim tab.get S 25 q) q x0 h := (qAA k25 q 0 _ h).trans (e25_0 ..).symm
theorem w25_1 (S : Oracle) (q : Nat) (x0 x1 x2 : TVal) (h : Heap) : lim tab.get S 25 q 1 [x0, x1, x2] h = b25_1 (orc S (lim tab.get S)) (lim tab.get S 25 q) q x0 x1 x2 h := (qAA k25 q 1 _ h).trans (e25_1 ..).symm
theorem w25_2 (S : Oracle) (q : Nat) (x0 : TVal) (h : Heap) : lim tab.get S 25 q 2 [x0] h = b25_2 (orc S (lim tab.get S)) (lim tab.get S 25 q) q x0 h := (qAA k25 q 2 _ h).trans (e25_2 ..).symm
theorem k26 : tab.get 26 = some c26 := by kernel_rfl
theorem w26_0 (S : Oracle) (q : Nat) (x0 x1 : TVal) (h : Heap) : lim tab.get S 26 q 0 [x0, x1] h = b26_0 (orc S (lim tab.get S)) (lim tab.get S 26 q) q x0 x1 h := (qAA k26 q 0 _ h).trans (e26_0 ..).symm
theorem k27 : tab.get 27 = some c27 := by kernel_rfl
theorem w27_0 (S : Oracle) (q : Nat) (x0 : TVal) (h : Heap) : lim tab.get S 27 q 0 [x0] h = b27_0 (orc S (lim tab.get S)) (lim tab.get S 27 q) q x0 h := (qAA k27 q 0 _ h).trans (e27_0 ..).symm
theorem w27_1 (S : Oracle) (q : Nat) (x0 : TVal) (h : Heap) : lim tab.get S 27 q 1 [x0] h = b27_1 (orc S (lim tab.get S)) (lim tab.get S 27 q) q x0 h := (qAA k27 q 1 _ h).trans (e27_1 ..).symm
theorem k28 : tab.get 28 = some c28 := by kernel_rfl
theorem w28_0 (S : Oracle) (q : Nat) (x0 : TVal) (h : Heap) : lim tab.get S 28 q 0 [x0] h = b28_0 (orc S (lim tab.get S)) (lim tab.get S 28 q) q x0 h := (qAA k28 q 0 _ h).trans (e28_0 ..).symm
theorem k29 : tab.get 29 = some c29 := by kernel_rfl
theorem w29_0 (S : Oracle) (q : Nat) (x0 x1 : TVal) (h : Heap) : lim tab.get S 29 q 0 [x0, x1] h = b29_0 (orc S (lim tab.get S)) (lim tab.get S 29 q) q x0 x1 h := (qAA k29 q 0 _ h).trans (e29_0 ..).symm
theorem w29_1 (S : Oracle) (q : Nat) (x0 x1 x2 : TVal) (h : Heap) : lim tab.get S 29 q 1 [x0, x1, x2] h = b29_1 (orc S (lim tab.get S)) (lim tab.get S 29 q) q x0 x1 x2 h := (qAA k29 q 1 _ h).trans (e29_1 ..).symm
theorem k30 : tab.get 30 = some c30 := by kernel_rfl
theorem w30_0 (S : Oracle) (q : Nat) (x0 x1 : TVal) (h : Heap) : lim tab.get S 30 q 0 [x0, x1] h = b30_0 (orc S (lim tab.get S)) (lim tab.get S 30 q) q x0 x1 h := (qAA k30 q 0 _ h).trans (e30_0 ..).symm
theorem k31 : tab.get 31 = some c31 := by kernel_rfl
theorem w31_0 (S : Oracle) (q : Nat) (x0 x1 : TVal) (h : Heap) : lim tab.get S 31 q 0 [x0, x1] h = b31_0 (orc S (lim tab.get S)) (lim tab.get S 31 q) q x0 x1 h := (qAA k31 q 0 _ h).trans (e31_0 ..).symm
theorem k32 : tab.get 32 = some c32 := by kernel_rfl
theorem w32_0 (S : Oracle) (q : Nat) (x0 : TVal) (h : Heap) : lim tab.get S 32 q 0 [x0] h = b32_0 (orc S (lim tab.get S)) (lim tab.get S 32 q) q x0 h := (qAA k32 q 0 _ h).trans (e32_0 ..).symm
theorem w32_1 (S : Oracle) (q : Nat) (x0 : TVal) (h : Heap) : lim tab.get S 32 q 1 [x0] h = b32_1 (orc S (lim tab.get S)) (lim tab.get S 32 q) q x0 h := (qAA k32 q 1 _ h).trans (e32_1 ..).symm
theorem k33 : tab.get 33 = some c33 := by kernel_rfl
theorem w33_0 (S : Oracle) (q : Nat) (x0 x1 x2 : TVal) (h : Heap) : lim tab.get S 33 q 0 [x0, x1, x2] h = b33_0 (orc S (lim tab.get S)) (lim tab.get S 33 q) q x0 x1 x2 h := (qAA k33 q 0 _ h).trans (e33_0 ..).symm
theorem w33_1 (S : Oracle) (q : Nat) (x0 x1 x2 x3 x4 : TVal) (h : Heap) : lim tab.get S 33 q 1 [x0, x1, x2, x3, x4] h = b33_1 (orc S (lim tab.get S)) (lim tab.get S 33 q) q x0 x1 x2 x3 x4 h := (qAA k33 q 1 _ h).trans (e33_1 ..).symm
theorem w33_2 (S : Oracle) (q : Nat) (x0 x1 x2 x3 x4 : TVal) (h : Heap) : lim tab.get S 33 q 2 [x0, x1, x2, x3, x4] h = b33_2 (orc S (lim tab.get S)) (lim tab.get S 33 q) q x0 x1 x2 x3 x4 h := (qAA k33 q 2 _ h).trans (e33_2 ..).symm
theorem w33_3 (S : Oracle) (q : Nat) (x0 x1 : TVal) (h : Heap) : lim tab.get S 33 q 3 [x0, x1] h = b33_3 (orc S (lim tab.get S)) (lim tab.get S 33 q) q x0 x1 h := (qAA k33 q 3 _ h).trans (e33_3 ..).symm
theorem k34 : tab.get 34 = some c34 := by kernel_rfl
theorem w34_0 (S : Oracle) (q : Nat) (x0 x1 : TVal) (h : Heap) : lim tab.get S 34 q 0 [x0, x1] h = b34_0 (orc S (lim tab.get S)) (lim tab.get S 34 q) q x0 x1 h := (qAA k34 q 0 _ h).trans (e34_0 ..).symm
theorem k35 : tab.get 35 = some c35 := by kernel_rfl
theorem w35_0 (S : Oracle) (q : Nat) (x0 : TVal) (h : Heap) : lim tab.get S 35 q 0 [x0] h = b35_0 (orc S (lim tab.get S)) (lim tab.get S 35 q) q x0 h := (qAA k35 q 0 _ h).trans (e35_0 ..).symm
theorem w35_1 (S : Oracle) (q : Nat) (x0 x1 : TVal) (h : Heap) : lim tab.get S 35 q 1 [x0, x1] h = b35_1 (orc S (lim tab.get S)) (lim tab.get S 35 q) q x0 x1 h := (qAA k35 q 1 _ h).trans (e35_1 ..).symm
theorem k36 : tab.get 36 = some c36 := by kernel_rfl
theorem w36_0 (S : Oracle) (q : Nat) (x0 : TVal) (h : Heap) : lim tab.get S 36 q 0 [x0] h = b36_0 (orc S (lim tab.get S)) (lim tab.get S 36 q) q x0 h := (qAA k36 q 0 _ h).trans (e36_0 ..).symm
theorem k37 : tab.get 37 = some c37 := by kernel_rfl
theorem w37_0 (S : Oracle) (q : Nat) (x0 x1 : TVal) (h : Heap) : lim tab.get S 37 q 0 [x0, x1] h = b37_0 (orc S (lim tab.get S)) (lim tab.get S 37 q) q x0 x1 h := (qAA k37 q 0 _ h).trans (e37_0 ..).symm
theorem k38 : tab.get 38 = some c38 := by kernel_rfl
theorem w38_0 (S : Oracle) (q : Nat) (x0 x1 x2 : TVal) (h : Heap) : lim tab.get S 38 q 0 [x0, x1, x2] h = b38_0 (orc S (lim tab.get S)) (lim tab.get S 38 q) q x0 x1 x2 h := (qAA k38 q 0 _ h).trans (e38_0 ..).symm
theorem w38_1 (S : Oracle) (q : Nat) (x0 x1 x2 x3 x4 x5 x6 : TVal) (h : Heap) : lim tab.get S 38 q 1 [x0, x1, x2, x3, x4, x5, x6] h = b38_1 (orc S (lim tab.get S)) (lim tab.get S 38 q) q x0 x1 x2 x3 x4 x5 x6 h := (qAA k38 q 1 _ h).trans (e38_1 ..).symm
theorem w38_2 (S : Oracle) (q : Nat) (x0 x1 : TVal) (h : Heap) : lim tab.get S 38 q 2 [x0, x1] h = b38_2 (orc S (lim tab.get S)) (lim tab.get S 38 q) q x0 x1 h := (qAA k38 q 2 _ h).trans (e38_2 ..).symm
theorem k39 : tab.get 39 = some c39 := by kernel_rfl
theorem w39_0 (S : Oracle) (q : Nat) (x0 x1 x2 x3 : TVal) (h : Heap) : lim tab.get S 39 q 0 [x0, x1, x2, x3] h = b39_0 (orc S (lim tab.get S)) (lim tab.get S 39 q) q x0 x1 x2 x3 h := (qAA k39 q 0 _ h).trans (e39_0 ..).symm
theorem k40 : tab.get 40 = some c40 := by kernel_rfl
theorem w40_0 (S : Oracle) (q : Nat) (x0 : TVal) (h : Heap) : lim tab.get S 40 q 0 [x0] h = b40_0 (orc S (lim tab.get S)) (lim tab.get S 40 q) q x0 h := (qAA k40 q 0 _ h).trans (e40_0 ..).symm
theorem k41 : tab.get 41 = some c41 := by kernel_rfl
theorem w41_0 (S : Oracle) (q : Nat) (x0 x1 : TVal) (h : Heap) : lim tab.get S 41 q 0 [x0, x1] h = b41_0 (orc S (lim tab.get S)) (lim tab.get S 41 q) q x0 x1 h := (qAA k41 q 0 _ h).trans (e41_0 ..).symm
theorem k42 : tab.get 42 = some c42 := by kernel_rfl
theorem w42_0 (S : Oracle) (q : Nat) (x0 : TVal) (h : Heap) : lim tab.get S 42 q 0 [x0] h = b42_0 (orc S (lim tab.get S)) (lim tab.get S 42 q) q x0 h := (qAA k42 q 0 _ h).trans (e42_0 ..).symm
theorem w42_1 (S : Oracle) (q : Nat) (x0 x1 : TVal) (h : Heap) : lim tab.get S 42 q 1 [x0, x1] h = b42_1 (orc S (lim tab.get S)) (lim tab.get S 42 q) q x0 x1 h := (qAA k42 q 1 _ h).trans (e42_1 ..).symm
theorem w42_2 (S : Oracle) (q : Nat) (x0 x1 x2 : TVal) (h : Heap) : lim tab.get S 42 q 2 [x0, x1, x2] h = b42_2 (orc S (lim tab.get S)) (lim tab.get S 42 q) q x0 x1 x2 h := (qAA k42 q 2 _ h).trans (e42_2 ..).symm
theorem w42_3 (S : Oracle) (q : Nat) (x0 : TVal) (h : Heap) : lim tab.get S 42 q 3 [x0] h = b42_3 (orc S (lim tab.get S)) (lim tab.get S 42 q) q x0 h := (qAA k42 q 3 _ h).trans (e42_3 ..).symm
theorem k47 : tab.get 47 = some c47 := by kernel_rfl
theorem w47_0 (S : Oracle) (q : Nat) (x0 : TVal) (h : Heap) : lim tab.get S 47 q 0 [x0] h = b47_0 (orc S (lim tab.get S)) (lim tab.get S 47 q) q x0 h := (qAA k47 q 0 _ h).trans (e47_0 ..).symm
theorem k48 : tab.get 48 = some c48 := by kernel_rfl
theorem w48_0 (S : Oracle) (q : Nat) (x0 x1 : TVal) (h : Heap) : lim tab.get S 48 q 0 [x0, x1] h = b48_0 (orc S (lim tab.get S)) (lim tab.get S 48 q) q x0 x1 h := (qAA k48 q 0 _ h).trans (e48_0 ..).symm
theorem w48_1 (S : Oracle) (q : Nat) (x0 x1 x2 x3 : TVal) (h : Heap) : lim tab.get S 48 q 1 [x0, x1, x2, x3] h = b48_1 (orc S (lim tab.get S)) (lim tab.get S 48 q) q x0 x1 x2 x3 h := (qAA k48 q 1 _ h).trans (e48_1 ..).symm
theorem w48_2 (S : Oracle) (q : Nat) (x0 x1 x2 x3 : TVal) (h : Heap) : lim tab.get S 48 q 2 [x0, x1, x2, x3] h = b48_2 (orc S (lim tab.get S)) (lim tab.get S 48 q) q x0 x1 x2 x3 h := (qAA k48 q 2 _ h).trans (e48_2 ..).symm
theorem w48_3 (S : Oracle) (q : Nat) (x0 x1 x2 x3 : TVal) (h : Heap) : lim tab.get S 48 q 3 [x0, x1, x2, x3] h = b48_3 (orc S (lim tab.get S)) (lim tab.get S 48 q) q x0 x1 x2 x3 h := (qAA k48 q 3 _ h).trans (e48_3 ..).symm
theorem w48_4 (S : Oracle) (q : Nat) (x0 x1 x2 x3 : TVal) (h : Heap) : lim tab.get S 48 q 4 [x0, x1, x2, x3] h = b48_4 (orc S (lim tab.get S)) (lim tab.get S 48 q) q x0 x1 x2 x3 h := (qAA k48 q 4 _ h).trans (e48_4 ..).symm
theorem w48_5 (S : Oracle) (q : Nat) (x0 x1 x2 : TVal) (h : Heap) : lim tab.get S 48 q 5 [x0, x1, x2] h = b48_5 (orc S (lim tab.get S)) (lim tab.get S 48 q) q x0 x1 x2 h := (qAA k48 q 5 _ h).trans (e48_5 ..).symm
theorem w48_6 (S : Oracle) (q : Nat) (x0 x1 x2 x3 x4 : TVal) (h : Heap) : lim tab.get S 48 q 6 [x0, x1, x2, x3, x4] h = b48_6 (orc S (lim tab.get S)) (lim tab.get S 48 q) q x0 x1 x2 x3 x4 h := (qAA k48 q 6 _ h).trans (e48_6 ..).symm
theorem w48_7 (S : Oracle) (q : Nat) (x0 : TVal) (h : Heap) : lim tab.get S 48 q 7 [x0] h = b48_7 (orc S (lim tab.get S)) (lim tab.get S 48 q) q x0 h := (qAA k48 q 7 _ h).trans (e48_7 ..).symm
theorem k49 : tab.get 49 = some c49 := by kernel_rfl
theorem w49_0 (S : Oracle) (q : Nat) (x0 x1 : TVal) (h : Heap) : lim tab.get S 49 q 0 [x0, x1] h = b49_0 (orc S (lim tab.get S)) (lim tab.get S 49 q) q x0 x1 h := (qAA k49 q 0 _ h).trans (e49_0 ..).symm
theorem w49_1 (S : Oracle) (q : Nat) (x0 x1 x2 x3 : TVal) (h : Heap) : lim tab.get S 49 q 1 [x0, x1, x2, x3] h = b49_1 (orc S (lim tab.get S)) (lim tab.get S 49 q) q x0 x1 x2 x3 h := (qAA k49 q 1 _ h).trans (e49_1 ..).symm
theorem w49_2 (S : Oracle) (q : Nat) (x0 x1 : TVal) (h : Heap) : lim tab.get S 49 q 2 [x0, x1] h = b49_2 (orc S (lim tab.get S)) (lim tab.get S 49 q) q x0 x1 h := (qAA k49 q 2 _ h).trans (e49_2 ..).symm
theorem k50 : tab.get 50 = some c50 := by kernel_rfl
theorem w50_0 (S : Oracle) (q : Nat) (x0 x1 : TVal) (h : Heap) : lim tab.get S 50 q 0 [x0, x1] h = b50_0 (orc S (lim tab.get S)) (lim tab.get S 50 q) q x0 x1 h := (qAA k50 q 0 _ h).trans (e50_0 ..).symm
theorem k51 : tab.get 51 = some c51 := by kernel_rfl
theorem w51_0 (S : Oracle) (q : Nat) (x0 x1 x2 x3 x4 : TVal) (h : Heap) : lim tab.get S 51 q 0 [x0, x1, x2, x3, x4] h = b51_0 (orc S (lim tab.get S)) (lim tab.get S 51 q) q x0 x1 x2 x3 x4 h := (qAA k51 q 0 _ h).trans (e51_0 ..).symm
theorem k52 : tab.get 52 = some c52 := by kernel_rfl
theorem w52_0 (S : Oracle) (q : Nat) (x0 x1 x2 : TVal) (h : Heap) : lim tab.get S 52 q 0 [x0, x1, x2] h = b52_0 (orc S (lim tab.get S)) (lim tab.get S 52 q) q x0 x1 x2 h := (qAA k52 q 0 _ h).trans (e52_0 ..).symm
theorem k53 : tab.get 53 = some c53 := by kernel_rfl
theorem w53_0 (S : Oracle) (q : Nat) (x0 : TVal) (h : Heap) : lim tab.get S 53 q 0 [x0] h = b53_0 (orc S (lim tab.get S)) (lim tab.get S 53 q) q x0 h := (qAA k53 q 0 _ h).trans (e53_0 ..).symm
theorem k56 : tab.get 56 = some c56 := by kernel_rfl
theorem w56_0 (S : Oracle) (q : Nat) (x0 x1 x2 x3 : TVal) (h : Heap) : lim tab.get S 56 q 0 [x0, x1, x2, x3] h = b56_0 (orc S (lim tab.get S)) (lim tab.get S 56 q) q x0 x1 x2 x3 h := (qAA k56 q 0 _ h).trans (e56_0 ..).symm
theorem k57 : tab.get 57 = some c57 := by kernel_rfl
theorem w57_0 (S : Oracle) (q : Nat) (x0 x1 : TVal) (h : Heap) : lim tab.get S 57 q 0 [x0, x1] h = b57_0 (orc S (lim tab.get S)) (lim tab.get S 57 q) q x0 x1 h := (qAA k57 q 0 _ h).trans (e57_0 ..).symm
theorem k59 : tab.get 59 = some c59 := by kernel_rfl
theorem w59_0 (S : Oracle) (q : Nat) (x0 x1 : TVal) (h : Heap) : lim tab.get S 59 q 0 [x0, x1] h = b59_0 (orc S (lim tab.get S)) (lim tab.get S 59 q) q x0 x1 h := (qAA k59 q 0 _ h).trans (e59_0 ..).symm
theorem k60 : tab.get 60 = some c60 := by kernel_rfl
theorem w60_0 (S : Oracle) (q : Nat) (x0 x1 x2 x3 : TVal) (h : Heap) : lim tab.get S 60 q 0 [x0, x1, x2, x3] h = b60_0 (orc S (lim tab.get S)) (lim tab.get S 60 q) q x0 x1 x2 x3 h := (qAA k60 q 0 _ h).trans (e60_0 ..).symm
theorem w60_1 (S : Oracle) (q : Nat) (x0 x1 x2 x3 x4 : TVal) (h : Heap) : lim tab.get S 60 q 1 [x0, x1, x2, x3, x4] h = b60_1 (orc S (lim tab.get S)) (lim tab.get S 60 q) q x0 x1 x2 x3 x4 h := (qAA k60 q 1 _ h).trans (e60_1 ..).symm
theorem w60_2 (S : Oracle) (q : Nat) (x0 x1 x2 x3 x4 x5 : TVal) (h : Heap) : lim tab.get S 60 q 2 [x0, x1, x2, x3, x4, x5] h = b60_2 (orc S (lim tab.get S)) (lim tab.get S 60 q) q x0 x1 x2 x3 x4 x5 h := (qAA k60 q 2 _ h).trans (e60_2 ..).symm
theorem k63 : tab.get 63 = some c63 := by kernel_rfl
theorem w63_0 (S : Oracle) (q : Nat) (x0 x1 : TVal) (h : Heap) : lim tab.get S 63 q 0 [x0, x1] h = b63_0 (orc S (lim tab.get S)) (lim tab.get S 63 q) q x0 x1 h := (qAA k63 q 0 _ h).trans (e63_0 ..).symm
theorem w63_1 (S : Oracle) (q : Nat) (x0 x1 x2 x3 : TVal) (h : Heap) : lim tab.get S 63 q 1 [x0, x1, x2, x3] h = b63_1 (orc S (lim tab.get S)) (lim tab.get S 63 q) q x0 x1 x2 x3 h := (qAA k63 q 1 _ h).trans (e63_1 ..).symm
theorem k64 : tab.get 64 = some c64 := by kernel_rfl
theorem w64_0 (S : Oracle) (q : Nat) (x0 : TVal) (h : Heap) : lim tab.get S 64 q 0 [x0] h = b64_0 (orc S (lim tab.get S)) (lim tab.get S 64 q) q x0 h := (qAA k64 q 0 _ h).trans (e64_0 ..).symm
theorem w64_1 (S : Oracle) (q : Nat) (x0 x1 x2 x3 x4 : TVal) (h : Heap) : lim tab.get S 64 q 1 [x0, x1, x2, x3, x4] h = b64_1 (orc S (lim tab.get S)) (lim tab.get S 64 q) q x0 x1 x2 x3 x4 h := (qAA k64 q 1 _ h).trans (e64_1 ..).symm
theorem w64_2 (S : Oracle) (q : Nat) (x0 x1 : TVal) (h : Heap) : lim tab.get S 64 q 2 [x0, x1] h = b64_2 (orc S (lim tab.get S)) (lim tab.get S 64 q) q x0 x1 h := (qAA k64 q 2 _ h).trans (e64_2 ..).symm
theorem k65 : tab.get 65 = some c65 := by kernel_rfl
theorem w65_0 (S : Oracle) (q : Nat) (x0 : TVal) (h : Heap) : lim tab.get S 65 q 0 [x0] h = b65_0 (orc S (lim tab.get S)) (lim tab.get S 65 q) q x0 h := (qAA k65 q 0 _ h).trans (e65_0 ..).symm
theorem k73 : tab.get 73 = some c73 := by kernel_rfl
theorem w73_0 (S : Oracle) (q : Nat) (x0 : TVal) (h : Heap) : lim tab.get S 73 q 0 [x0] h = b73_0 (orc S (lim tab.get S)) (lim tab.get S 73 q) q x0 h := (qAA k73 q 0 _ h).trans (e73_0 ..).symm
theorem k74 : tab.get 74 = some c74 := by kernel_rfl
theorem w74_0 (S : Oracle) (q : Nat) (x0 : TVal) (h : Heap) : lim tab.get S 74 q 0 [x0] h = b74_0 (orc S (lim tab.get S)) (lim tab.get S 74 q) q x0 h := (qAA k74 q 0 _ h).trans (e74_0 ..).symm
theorem k75 : tab.get 75 = some c75 := by kernel_rfl
theorem w75_0 (S : Oracle) (q : Nat) (x0 : TVal) (h : Heap) : lim tab.get S 75 q 0 [x0] h = b75_0 (orc S (lim tab.get S)) (lim tab.get S 75 q) q x0 h := (qAA k75 q 0 _ h).trans (e75_0 ..).symm
theorem w75_1 (S : Oracle) (q : Nat) (x0 x1 : TVal) (h : Heap) : lim tab.get S 75 q 1 [x0, x1] h = b75_1 (orc S (lim tab.get S)) (lim tab.get S 75 q) q x0 x1 h := (qAA k75 q 1 _ h).trans (e75_1 ..).symm
theorem w75_2 (S : Oracle) (q : Nat) (x0 x1 x2 x3 : TVal) (h : Heap) : lim tab.get S 75 q 2 [x0, x1, x2, x3] h = b75_2 (orc S (lim tab.get S)) (lim tab.get S 75 q) q x0 x1 x2 x3 h := (qAA k75 q 2 _ h).trans (e75_2 ..).symm
theorem w75_3 (S : Oracle) (q : Nat) (x0 x1 : TVal) (h : Heap) : lim tab.get S 75 q 3 [x0, x1] h = b75_3 (orc S (lim tab.get S)) (lim tab.get S 75 q) q x0 x1 h := (qAA k75 q 3 _ h).trans (e75_3 ..).symm
theorem k77 : tab.get 77 = some c77 := by kernel_rfl
theorem w77_0 (S : Oracle) (q : Nat) (x0 x1 : TVal) (h : Heap) : lim tab.get S 77 q 0 [x0, x1] h = b77_0 (orc S (lim tab.get S)) (lim tab.get S 77 q) q x0 x1 h := (qAA k77 q 0 _ h).trans (e77_0 ..).symm
theorem w77_1 (S : Oracle) (q : Nat) (x0 x1 : TVal) (h : Heap) : lim tab.get S 77 q 1 [x0, x1] h = b77_1 (orc S (lim tab.get S)) (lim tab.get S 77 q) q x0 x1 h := (qAA k77 q 1 _ h).trans (e77_1 ..).symm
theorem k78 : tab.get 78 = some c78 := by kernel_rfl
theorem w78_0 (S : Oracle) (q : Nat) (x0 : TVal) (h : Heap) : lim tab.get S 78 q 0 [x0] h = b78_0 (orc S (lim tab.get S)) (lim tab.get S 78 q) q x0 h := (qAA k78 q 0 _ h).trans (e78_0 ..).symm
theorem k80 : tab.get 80 = some c80 := by kernel_rfl
theorem w80_0 (S : Oracle) (q : Nat) (x0 x1 x2 : TVal) (h : Heap) : lim tab.get S 80 q 0 [x0, x1, x2] h = b80_0 (orc S (lim tab.get S)) (lim tab.get S 80 q) q x0 x1 x2 h := (qAA k80 q 0 _ h).trans (e80_0 ..).symm
theorem k81 : tab.get 81 = some c81 := by kernel_rfl
theorem w81_0 (S : Oracle) (q : Nat) (x0 : TVal) (h : Heap) : lim tab.get S 81 q 0 [x0] h = b81_0 (orc S (lim tab.get S)) (lim tab.get S 81 q) q x0 h := (qAA k81 q 0 _ h).trans (e81_0 ..).symm
theorem k82 : tab.get 82 = some c82 := by kernel_rfl
theorem w82_0 (S : Oracle) (q : Nat) (x0 x1 : TVal) (h : Heap) : lim tab.get S 82 q 0 [x0, x1] h = b82_0 (orc S (lim tab.get S)) (lim tab.get S 82 q) q x0 x1 h := (qAA k82 q 0 _ h).trans (e82_0 ..).symm
theorem k86 : tab.get 86 = some c86 := by kernel_rfl
theorem w86_0 (S : Oracle) (q : Nat) (x0 : TVal) (h : Heap) : lim tab.get S 86 q 0 [x0] h = b86_0 (orc S (lim tab.get S)) (lim tab.get S 86 q) q x0 h := (qAA k86 q 0 _ h).trans (e86_0 ..).symm
theorem k89 : tab.get 89 = some c89 := by kernel_rfl
theorem w89_0 (S : Oracle) (q : Nat) (x0 x1 : TVal) (h : Heap) : lim tab.get S 89 q 0 [x0, x1] h = b89_0 (orc S (lim tab.get S)) (lim tab.get S 89 q) q x0 x1 h := (qAA k89 q 0 _ h).trans (e89_0 ..).symm
theorem w89_1 (S : Oracle) (q : Nat) (x0 x1 x2 : TVal) (h : Heap) : lim tab.get S 89 q 1 [x0, x1, x2] h = b89_1 (orc S (lim tab.get S)) (lim tab.get S 89 q) q x0 x1 x2 h := (qAA k89 q 1 _ h).trans (e89_1 ..).symm
theorem k90 : tab.get 90 = some c90 := by kernel_rfl
theorem w90_0 (S : Oracle) (q : Nat) (x0 x1 : TVal) (h : Heap) : lim tab.get S 90 q 0 [x0, x1] h = b90_0 (orc S (lim tab.get S)) (lim tab.get S 90 q) q x0 x1 h := (qAA k90 q 0 _ h).trans (e90_0 ..).symm
theorem k94 : tab.get 94 = some c94 := by kernel_rfl
theorem w94_0 (S : Oracle) (q : Nat) (x0 x1 : TVal) (h : Heap) : lim tab.get S 94 q 0 [x0, x1] h = b94_0 (orc S (lim tab.get S)) (lim tab.get S 94 q) q x0 x1 h := (qAA k94 q 0 _ h).trans (e94_0 ..).symm
theorem w94_1 (S : Oracle) (q : Nat) (x0 x1 x2 : TVal) (h : Heap) : lim tab.get S 94 q 1 [x0, x1, x2] h = b94_1 (orc S (lim tab.get S)) (lim tab.get S 94 q) q x0 x1 x2 h := (qAA k94 q 1 _ h).trans (e94_1 ..).symm
theorem w94_2 (S : Oracle) (q : Nat) (x0 x1 x2 x3 x4 : TVal) (h : Heap) : lim tab.get S 94 q 2 [x0, x1, x2, x3, x4] h = b94_2 (orc S (lim tab.get S)) (lim tab.get S 94 q) q x0 x1 x2 x3 x4 h := (qAA k94 q 2 _ h).trans (e94_2 ..).symm
theorem w94_3 (S : Oracle) (q : Nat) (x0 x1 : TVal) (h : Heap) : lim tab.get S 94 q 3 [x0, x1] h = b94_3 (orc S (lim tab.get S)) (lim tab.get S 94 q) q x0 x1 h := (qAA k94 q 3 _ h).trans (e94_3 ..).symm
theorem k95 : tab.get 95 = some c95 := by kernel_rfl
theorem w95_0 (S : Oracle) (q : Nat) (x0 : TVal) (h : Heap) : lim tab.get S 95 q 0 [x0] h = b95_0 (orc S (lim tab.get S)) (lim tab.get S 95 q) q x0 h := (qAA k95 q 0 _ h).trans (e95_0 ..).symm
theorem k96 : tab.get 96 = some c96 := by kernel_rfl
theorem w96_0 (S : Oracle) (q : Nat) (x0 x1 : TVal) (h : Heap) : lim tab.get S 96 q 0 [x0, x1] h = b96_0 (orc S (lim tab.get S)) (lim tab.get S 96 q) q x0 x1 h := (qAA k96 q 0 _ h).trans (e96_0 ..).symm
theorem w96_1 (S : Oracle) (q : Nat) (x0 x1 x2 : TVal) (h : Heap) : lim tab.get S 96 q 1 [x0, x1, x2] h = b96_1 (orc S (lim tab.get S)) (lim tab.get S 96 q) q x0 x1 x2 h := (qAA k96 q 1 _ h).trans (e96_1 ..).symm
theorem k110 : tab.get 110 = some c110 := by kernel_rfl
theorem w110_0 (S : Oracle) (q : Nat) (x0 : TVal) (h : Heap) : lim tab.get S 110 q 0 [x0] h = b110_0 (orc S (lim tab.get S)) (lim tab.get S 110 q) q x0 h := (qAA k110 q 0 _ h).trans (e110_0 ..).symm
theorem k111 : tab.get 111 = some c111 := by kernel_rfl
theorem w111_0 (S : Oracle) (q : Nat) (x0 : TVal) (h : Heap) : lim tab.get S 111 q 0 [x0] h = b111_0 (orc S (lim tab.get S)) (lim tab.get S 111 q) q x0 h := (qAA k111 q 0 _ h).trans (e111_0 ..).symm
theorem k112 : tab.get 112 = some c112 := by kernel_rfl
theorem w112_0 (S : Oracle) (q : Nat) (x0 x1 : TVal) (h : Heap) : lim tab.get S 112 q 0 [x0, x1] h = b112_0 (orc S (lim tab.get S)) (lim tab.get S 112 q) q x0 x1 h := (qAA k112 q 0 _ h).trans (e112_0 ..).symm
theorem w112_1 (S : Oracle) (q : Nat) (x0 x1 x2 : TVal) (h : Heap) : lim tab.get S 112 q 1 [x0, x1, x2] h = b112_1 (orc S (lim tab.get S)) (lim tab.get S 112 q) q x0 x1 x2 h := (qAA k112 q 1 _ h).trans (e112_1 ..).symm
theorem w112_2 (S : Oracle) (q : Nat) (x0 x1 x2 : TVal) (h : Heap) : lim tab.get S 112 q 2 [x0, x1, x2] h = b112_2 (orc S (lim tab.get S)) (lim tab.get S 112 q) q x0 x1 x2 h := (qAA k112 q 2 _ h).trans (e112_2 ..).symm
theorem w112_3 (S : Oracle) (q : Nat) (x0 x1 x2 : TVal) (h : Heap) : lim tab.get S 112 q 3 [x0, x1, x2] h = b112_3 (orc S (lim tab.get S)) (lim tab.get S 112 q) q x0 x1 x2 h := (qAA k112 q 3 _ h).trans (e112_3 ..).symm
theorem w112_4 (S : Oracle) (q : Nat) (x0 x1 x2 : TVal) (h : Heap) : lim tab.get S 112 q 4 [x0, x1, x2] h = b112_4 (orc S (lim tab.get S)) (lim tab.get S 112 q) q x0 x1 x2 h := (qAA k112 q 4 _ h).trans (e112_4 ..).symm
theorem k124 : tab.get 124 = some c124 := by kernel_rfl
theorem w124_0 (S : Oracle) (q : Nat) (x0 : TVal) (h : Heap) : lim tab.get S 124 q 0 [x0] h = b124_0 (orc S (lim tab.get S)) (lim tab.get S 124 q) q x0 h := (qAA k124 q 0 _ h).trans (e124_0 ..).symm
theorem k125 : tab.get 125 = some c125 := by kernel_rfl
theorem w125_0 (S : Oracle) (q : Nat) (x0 : TVal) (h : Heap) : lim tab.get S 125 q 0 [x0] h = b125_0 (orc S (lim tab.get S)) (lim tab.get S 125 q) q x0 h := (qAA k125 q 0 _ h).trans (e125_0 ..).symm
theorem w125_1 (S : Oracle) (q : Nat) (x0 x1 : TVal) (h : Heap) : lim tab.get S 125 q 1 [x0, x1] h = b125_1 (orc S (lim tab.get S)) (lim tab.get S 125 q) q x0 x1 h := (qAA k125 q 1 _ h).trans (e125_1 ..).symm
theorem w125_2 (S : Oracle) (q : Nat) (x0 x1 : TVal) (h : Heap) : lim tab.get S 125 q 2 [x0, x1] h = b125_2 (orc S (lim tab.get S)) (lim tab.get S 125 q) q x0 x1 h := (qAA k125 q 2 _ h).trans (e125_2 ..).symm
theorem w125_3 (S : Oracle) (q : Nat) (x0 x1 : TVal) (h : Heap) : lim tab.get S 125 q 3 [x0, x1] h = b125_3 (orc S (lim tab.get S)) (lim tab.get S 125 q) q x0 x1 h := (qAA k125 q 3 _ h).trans (e125_3 ..).symm
theorem k126 : tab.get 126 = some c126 := by kernel_rfl
theorem w126_0 (S : Oracle) (q : Nat) (x0 : TVal) (h : Heap) : lim tab.get S 126 q 0 [x0] h = b126_0 (orc S (lim tab.get S)) (lim tab.get S 126 q) q x0 h := (qAA k126 q 0 _ h).trans (e126_0 ..).symm
theorem k132 : tab.get 132 = some c132 := by kernel_rfl
theorem w132_0 (S : Oracle) (q : Nat) (x0 x1 : TVal) (h : Heap) : lim tab.get S 132 q 0 [x0, x1] h = b132_0 (orc S (lim tab.get S)) (lim tab.get S 132 q) q x0 x1 h := (qAA k132 q 0 _ h).trans (e132_0 ..).symm
theorem w132_1 (S : Oracle) (q : Nat) (x0 x1 x2 x3 x4 x5 x6 x7 : TVal) (h : Heap) : lim tab.get S 132 q 1 [x0, x1, x2, x3, x4, x5, x6, x7] h = b132_1 (orc S (lim tab.get S)) (lim tab.get S 132 q) q x0 x1 x2 x3 x4 x5 x6 x7 h := (qAA k132 q 1 _ h).trans (e132_1 ..).symm
theorem w132_2 (S : Oracle) (q : Nat) (x0 x1 x2 x3 x4 x5 x6 x7 : TVal) (h : Heap) : lim tab.get S 132 q 2 [x0, x1, x2, x3, x4, x5, x6, x7] h = b132_2 (orc S (lim tab.get S)) (lim tab.get S 132 q) q x0 x1 x2 x3 x4 x5 x6 x7 h := (qAA k132 q 2 _ h).trans (e132_2 ..).symm
end Go.Proofs.YtlkejchbcchecaaGreatDoor.Ab
