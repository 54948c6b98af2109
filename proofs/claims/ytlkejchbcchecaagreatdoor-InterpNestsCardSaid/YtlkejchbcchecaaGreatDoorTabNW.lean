/- The machine's equations,a piece at a time. Own work,printed by a program of our own; no condition. -/
import Derived.Test.YtlkejchbcchecaaGreatDoorTabN
namespace Go.Proofs.YtlkejchbcchecaaGreatDoor.Ab
open Go Go.AI
set_option linter.all false
set_option linter.unusedVariables false
set_option maxRecDepth 100000
theorem k4:tab.get 4=some c4:=by kernel_rfl
theorem w4_0(S:Oracle)(q:Nat)(x0 x1:TVal)(h:Heap):lim tab.get S 4 q 0 [x0,x1] h=b4_0 (orc S (lim tab.get S)) (lim tab.get S 4 q) q x0 x1 h:=(qAA k4 q 0 _ h).trans (e4_0 ..).symm
theorem w4_1(S:Oracle)(q:Nat)(x0 x1 x2 x3 x4:TVal)(h:Heap):lim tab.get S 4 q 1 [x0,x1,x2,x3,x4] h=b4_1 (orc S (lim tab.get S)) (lim tab.get S 4 q) q x0 x1 x2 x3 x4 h:=(qAA k4 q 1 _ h).trans (e4_1 ..).symm
theorem w4_2(S:Oracle)(q:Nat)(x0 x1 x2 x3 x4:TVal)(h:Heap):lim tab.get S 4 q 2 [x0,x1,x2,x3,x4] h=b4_2 (orc S (lim tab.get S)) (lim tab.get S 4 q) q x0 x1 x2 x3 x4 h:=(qAA k4 q 2 _ h).trans (e4_2 ..).symm
theorem w4_3(S:Oracle)(q:Nat)(x0 x1 x2 x3:TVal)(h:Heap):lim tab.get S 4 q 3 [x0,x1,x2,x3] h=b4_3 (orc S (lim tab.get S)) (lim tab.get S 4 q) q x0 x1 x2 x3 h:=(qAA k4 q 3 _ h).trans (e4_3 ..).symm
theorem w4_4(S:Oracle)(q:Nat)(x0 x1 x2 x3:TVal)(h:Heap):lim tab.get S 4 q 4 [x0,x1,x2,x3] h=b4_4 (orc S (lim tab.get S)) (lim tab.get S 4 q) q x0 x1 x2 x3 h:=(qAA k4 q 4 _ h).trans (e4_4 ..).symm
theorem w4_5(S:Oracle)(q:Nat)(x0 x1 x2:TVal)(h:Heap):lim tab.get S 4 q 5 [x0,x1,x2] h=b4_5 (orc S (lim tab.get S)) (lim tab.get S 4 q) q x0 x1 x2 h:=(qAA k4 q 5 _ h).trans (e4_5 ..).symm
theorem k5:tab.get 5=some c5:=by kernel_rfl
theorem w5_0(S:Oracle)(q:Nat)(h:Heap):lim tab.get S 5 q 0 [] h=b5_0 (orc S (lim tab.get S)) (lim tab.get S 5 q) q  h:=(qAA k5 q 0 _ h).trans (e5_0 ..).symm
theorem k7:tab.get 7=some c7:=by kernel_rfl
theorem w7_0(S:Oracle)(q:Nat)(x0:TVal)(h:Heap):lim tab.get S 7 q 0 [x0] h=b7_0 (orc S (lim tab.get S)) (lim tab.get S 7 q) q x0 h:=(qAA k7 q 0 _ h).trans (e7_0 ..).symm
theorem w7_1(S:Oracle)(q:Nat)(x0 x1 x2 x3:TVal)(h:Heap):lim tab.get S 7 q 1 [x0,x1,x2,x3] h=b7_1 (orc S (lim tab.get S)) (lim tab.get S 7 q) q x0 x1 x2 x3 h:=(qAA k7 q 1 _ h).trans (e7_1 ..).symm
theorem w7_2(S:Oracle)(q:Nat)(x0 x1 x2 x3 x4:TVal)(h:Heap):lim tab.get S 7 q 2 [x0,x1,x2,x3,x4] h=b7_2 (orc S (lim tab.get S)) (lim tab.get S 7 q) q x0 x1 x2 x3 x4 h:=(qAA k7 q 2 _ h).trans (e7_2 ..).symm
theorem w7_3(S:Oracle)(q:Nat)(x0 x1:TVal)(h:Heap):lim tab.get S 7 q 3 [x0,x1] h=b7_3 (orc S (lim tab.get S)) (lim tab.get S 7 q) q x0 x1 h:=(qAA k7 q 3 _ h).trans (e7_3 ..).symm
theorem k8:tab.get 8=some c8:=by kernel_rfl
theorem w8_0(S:Oracle)(q:Nat)(x0 x1 x2 x3:TVal)(h:Heap):lim tab.get S 8 q 0 [x0,x1,x2,x3] h=b8_0 (orc S (lim tab.get S)) (lim tab.get S 8 q) q x0 x1 x2 x3 h:=(qAA k8 q 0 _ h).trans (e8_0 ..).symm
theorem w8_1(S:Oracle)(q:Nat)(x0 x1 x2 x3:TVal)(h:Heap):lim tab.get S 8 q 1 [x0,x1,x2,x3] h=b8_1 (orc S (lim tab.get S)) (lim tab.get S 8 q) q x0 x1 x2 x3 h:=(qAA k8 q 1 _ h).trans (e8_1 ..).symm
theorem w8_2(S:Oracle)(q:Nat)(x0 x1:TVal)(h:Heap):lim tab.get S 8 q 2 [x0,x1] h=b8_2 (orc S (lim tab.get S)) (lim tab.get S 8 q) q x0 x1 h:=(qAA k8 q 2 _ h).trans (e8_2 ..).symm
theorem k9:tab.get 9=some c9:=by kernel_rfl
theorem w9_0(S:Oracle)(q:Nat)(x0:TVal)(h:Heap):lim tab.get S 9 q 0 [x0] h=b9_0 (orc S (lim tab.get S)) (lim tab.get S 9 q) q x0 h:=(qAA k9 q 0 _ h).trans (e9_0 ..).symm
theorem w9_1(S:Oracle)(q:Nat)(x0 x1 x2 x3:TVal)(h:Heap):lim tab.get S 9 q 1 [x0,x1,x2,x3] h=b9_1 (orc S (lim tab.get S)) (lim tab.get S 9 q) q x0 x1 x2 x3 h:=(qAA k9 q 1 _ h).trans (e9_1 ..).symm
theorem w9_2(S:Oracle)(q:Nat)(x0 x1 x2 x3 x4 x5 x6 x7:TVal)(h:Heap):lim tab.get S 9 q 2 [x0,x1,x2,x3,x4,x5,x6,x7] h=b9_2 (orc S (lim tab.get S)) (lim tab.get S 9 q) q x0 x1 x2 x3 x4 x5 x6 x7 h:=(qAA k9 q 2 _ h).trans (e9_2 ..).symm
theorem w9_3(S:Oracle)(q:Nat)(x0 x1 x2 x3 x4:TVal)(h:Heap):lim tab.get S 9 q 3 [x0,x1,x2,x3,x4] h=b9_3 (orc S (lim tab.get S)) (lim tab.get S 9 q) q x0 x1 x2 x3 x4 h:=(qAA k9 q 3 _ h).trans (e9_3 ..).symm
theorem w9_4(S:Oracle)(q:Nat)(x0 x1 x2 x3:TVal)(h:Heap):lim tab.get S 9 q 4 [x0,x1,x2,x3] h=b9_4 (orc S (lim tab.get S)) (lim tab.get S 9 q) q x0 x1 x2 x3 h:=(qAA k9 q 4 _ h).trans (e9_4 ..).symm
theorem k10:tab.get 10=some c10:=by kernel_rfl
theorem w10_0(S:Oracle)(q:Nat)(x0 x1:TVal)(h:Heap):lim tab.get S 10 q 0 [x0,x1] h=b10_0 (orc S (lim tab.get S)) (lim tab.get S 10 q) q x0 x1 h:=(qAA k10 q 0 _ h).trans (e10_0 ..).symm
theorem k11:tab.get 11=some c11:=by kernel_rfl
theorem w11_0(S:Oracle)(q:Nat)(x0:TVal)(h:Heap):lim tab.get S 11 q 0 [x0] h=b11_0 (orc S (lim tab.get S)) (lim tab.get S 11 q) q x0 h:=(qAA k11 q 0 _ h).trans (e11_0 ..).symm
theorem w11_1(S:Oracle)(q:Nat)(x0 x1 x2:TVal)(h:Heap):lim tab.get S 11 q 1 [x0,x1,x2] h=b11_1 (orc S (lim tab.get S)) (lim tab.get S 11 q) q x0 x1 x2 h:=(qAA k11 q 1 _ h).trans (e11_1 ..).symm
theorem w11_2(S:Oracle)(q:Nat)(x0 x1 x2:TVal)(h:Heap):lim tab.get S 11 q 2 [x0,x1,x2] h=b11_2 (orc S (lim tab.get S)) (lim tab.get S 11 q) q x0 x1 x2 h:=(qAA k11 q 2 _ h).trans (e11_2 ..).symm
theorem w11_3(S:Oracle)(q:Nat)(x0:TVal)(h:Heap):lim tab.get S 11 q 3 [x0] h=b11_3 (orc S (lim tab.get S)) (lim tab.get S 11 q) q x0 h:=(qAA k11 q 3 _ h).trans (e11_3 ..).symm
theorem w11_4(S:Oracle)(q:Nat)(x0:TVal)(h:Heap):lim tab.get S 11 q 4 [x0] h=b11_4 (orc S (lim tab.get S)) (lim tab.get S 11 q) q x0 h:=(qAA k11 q 4 _ h).trans (e11_4 ..).symm
theorem w11_5(S:Oracle)(q:Nat)(x0 x1 x2:TVal)(h:Heap):lim tab.get S 11 q 5 [x0,x1,x2] h=b11_5 (orc S (lim tab.get S)) (lim tab.get S 11 q) q x0 x1 x2 h:=(qAA k11 q 5 _ h).trans (e11_5 ..).symm
theorem w11_6(S:Oracle)(q:Nat)(x0 x1 x2:TVal)(h:Heap):lim tab.get S 11 q 6 [x0,x1,x2] h=b11_6 (orc S (lim tab.get S)) (lim tab.get S 11 q) q x0 x1 x2 h:=(qAA k11 q 6 _ h).trans (e11_6 ..).symm
theorem w11_7(S:Oracle)(q:Nat)(x0:TVal)(h:Heap):lim tab.get S 11 q 7 [x0] h=b11_7 (orc S (lim tab.get S)) (lim tab.get S 11 q) q x0 h:=(qAA k11 q 7 _ h).trans (e11_7 ..).symm
theorem k12:tab.get 12=some c12:=by kernel_rfl
theorem w12_0(S:Oracle)(q:Nat)(x0 x1 x2:TVal)(h:Heap):lim tab.get S 12 q 0 [x0,x1,x2] h=b12_0 (orc S (lim tab.get S)) (lim tab.get S 12 q) q x0 x1 x2 h:=(qAA k12 q 0 _ h).trans (e12_0 ..).symm
theorem k13:tab.get 13=some c13:=by kernel_rfl
theorem w13_0(S:Oracle)(q:Nat)(x0:TVal)(h:Heap):lim tab.get S 13 q 0 [x0] h=b13_0 (orc S (lim tab.get S)) (lim tab.get S 13 q) q x0 h:=(qAA k13 q 0 _ h).trans (e13_0 ..).symm
theorem w13_1(S:Oracle)(q:Nat)(x0 x1 x2 x3:TVal)(h:Heap):lim tab.get S 13 q 1 [x0,x1,x2,x3] h=b13_1 (orc S (lim tab.get S)) (lim tab.get S 13 q) q x0 x1 x2 x3 h:=(qAA k13 q 1 _ h).trans (e13_1 ..).symm
theorem w13_2(S:Oracle)(q:Nat)(x0 x1 x2:TVal)(h:Heap):lim tab.get S 13 q 2 [x0,x1,x2] h=b13_2 (orc S (lim tab.get S)) (lim tab.get S 13 q) q x0 x1 x2 h:=(qAA k13 q 2 _ h).trans (e13_2 ..).symm
theorem w13_3(S:Oracle)(q:Nat)(x0 x1 x2:TVal)(h:Heap):lim tab.get S 13 q 3 [x0,x1,x2] h=b13_3 (orc S (lim tab.get S)) (lim tab.get S 13 q) q x0 x1 x2 h:=(qAA k13 q 3 _ h).trans (e13_3 ..).symm
theorem w13_4(S:Oracle)(q:Nat)(x0:TVal)(h:Heap):lim tab.get S 13 q 4 [x0] h=b13_4 (orc S (lim tab.get S)) (lim tab.get S 13 q) q x0 h:=(qAA k13 q 4 _ h).trans (e13_4 ..).symm
theorem k14:tab.get 14=some c14:=by kernel_rfl
theorem w14_0(S:Oracle)(q:Nat)(x0 x1:TVal)(h:Heap):lim tab.get S 14 q 0 [x0,x1] h=b14_0 (orc S (lim tab.get S)) (lim tab.get S 14 q) q x0 x1 h:=(qAA k14 q 0 _ h).trans (e14_0 ..).symm
theorem w14_1(S:Oracle)(q:Nat)(x0 x1 x2 x3 x4:TVal)(h:Heap):lim tab.get S 14 q 1 [x0,x1,x2,x3,x4] h=b14_1 (orc S (lim tab.get S)) (lim tab.get S 14 q) q x0 x1 x2 x3 x4 h:=(qAA k14 q 1 _ h).trans (e14_1 ..).symm
theorem w14_2(S:Oracle)(q:Nat)(x0 x1 x2 x3 x4 x5 x6:TVal)(h:Heap):lim tab.get S 14 q 2 [x0,x1,x2,x3,x4,x5,x6] h=b14_2 (orc S (lim tab.get S)) (lim tab.get S 14 q) q x0 x1 x2 x3 x4 x5 x6 h:=(qAA k14 q 2 _ h).trans (e14_2 ..).symm
theorem w14_3(S:Oracle)(q:Nat)(x0 x1 x2 x3 x4 x5 x6:TVal)(h:Heap):lim tab.get S 14 q 3 [x0,x1,x2,x3,x4,x5,x6] h=b14_3 (orc S (lim tab.get S)) (lim tab.get S 14 q) q x0 x1 x2 x3 x4 x5 x6 h:=(qAA k14 q 3 _ h).trans (e14_3 ..).symm
theorem w14_4(S:Oracle)(q:Nat)(x0 x1 x2 x3 x4 x5:TVal)(h:Heap):lim tab.get S 14 q 4 [x0,x1,x2,x3,x4,x5] h=b14_4 (orc S (lim tab.get S)) (lim tab.get S 14 q) q x0 x1 x2 x3 x4 x5 h:=(qAA k14 q 4 _ h).trans (e14_4 ..).symm
theorem w14_5(S:Oracle)(q:Nat)(x0 x1 x2 x3:TVal)(h:Heap):lim tab.get S 14 q 5 [x0,x1,x2,x3] h=b14_5 (orc S (lim tab.get S)) (lim tab.get S 14 q) q x0 x1 x2 x3 h:=(qAA k14 q 5 _ h).trans (e14_5 ..).symm
theorem w14_6(S:Oracle)(q:Nat)(x0 x1 x2 x3:TVal)(h:Heap):lim tab.get S 14 q 6 [x0,x1,x2,x3] h=b14_6 (orc S (lim tab.get S)) (lim tab.get S 14 q) q x0 x1 x2 x3 h:=(qAA k14 q 6 _ h).trans (e14_6 ..).symm
theorem w14_7(S:Oracle)(q:Nat)(x0 x1 x2 x3:TVal)(h:Heap):lim tab.get S 14 q 7 [x0,x1,x2,x3] h=b14_7 (orc S (lim tab.get S)) (lim tab.get S 14 q) q x0 x1 x2 x3 h:=(qAA k14 q 7 _ h).trans (e14_7 ..).symm
theorem k15:tab.get 15=some c15:=by kernel_rfl
theorem w15_0(S:Oracle)(q:Nat)(x0 x1:TVal)(h:Heap):lim tab.get S 15 q 0 [x0,x1] h=b15_0 (orc S (lim tab.get S)) (lim tab.get S 15 q) q x0 x1 h:=(qAA k15 q 0 _ h).trans (e15_0 ..).symm
theorem k16:tab.get 16=some c16:=by kernel_rfl
theorem w16_0(S:Oracle)(q:Nat)(x0 x1:TVal)(h:Heap):lim tab.get S 16 q 0 [x0,x1] h=b16_0 (orc S (lim tab.get S)) (lim tab.get S 16 q) q x0 x1 h:=(qAA k16 q 0 _ h).trans (e16_0 ..).symm
theorem k17:tab.get 17=some c17:=by kernel_rfl
theorem w17_0(S:Oracle)(q:Nat)(x0 x1 x2:TVal)(h:Heap):lim tab.get S 17 q 0 [x0,x1,x2] h=b17_0 (orc S (lim tab.get S)) (lim tab.get S 17 q) q x0 x1 x2 h:=(qAA k17 q 0 _ h).trans (e17_0 ..).symm
theorem w17_1(S:Oracle)(q:Nat)(x0 x1 x2 x3 x4:TVal)(h:Heap):lim tab.get S 17 q 1 [x0,x1,x2,x3,x4] h=b17_1 (orc S (lim tab.get S)) (lim tab.get S 17 q) q x0 x1 x2 x3 x4 h:=(qAA k17 q 1 _ h).trans (e17_1 ..).symm
theorem w17_2(S:Oracle)(q:Nat)(x0 x1 x2 x3 x4 x5 x6 x7:TVal)(h:Heap):lim tab.get S 17 q 2 [x0,x1,x2,x3,x4,x5,x6,x7] h=b17_2 (orc S (lim tab.get S)) (lim tab.get S 17 q) q x0 x1 x2 x3 x4 x5 x6 x7 h:=(qAA k17 q 2 _ h).trans (e17_2 ..).symm
theorem w17_3(S:Oracle)(q:Nat)(x0 x1 x2 x3 x4 x5 x6 x7:TVal)(h:Heap):lim tab.get S 17 q 3 [x0,x1,x2,x3,x4,x5,x6,x7] h=b17_3 (orc S (lim tab.get S)) (lim tab.get S 17 q) q x0 x1 x2 x3 x4 x5 x6 x7 h:=(qAA k17 q 3 _ h).trans (e17_3 ..).symm
theorem w17_4(S:Oracle)(q:Nat)(x0 x1 x2 x3 x4 x5 x6 x7:TVal)(h:Heap):lim tab.get S 17 q 4 [x0,x1,x2,x3,x4,x5,x6,x7] h=b17_4 (orc S (lim tab.get S)) (lim tab.get S 17 q) q x0 x1 x2 x3 x4 x5 x6 x7 h:=(qAA k17 q 4 _ h).trans (e17_4 ..).symm
theorem w17_5(S:Oracle)(q:Nat)(x0 x1 x2 x3 x4 x5 x6 x7:TVal)(h:Heap):lim tab.get S 17 q 5 [x0,x1,x2,x3,x4,x5,x6,x7] h=b17_5 (orc S (lim tab.get S)) (lim tab.get S 17 q) q x0 x1 x2 x3 x4 x5 x6 x7 h:=(qAA k17 q 5 _ h).trans (e17_5 ..).symm
theorem w17_6(S:Oracle)(q:Nat)(x0 x1 x2 x3 x4:TVal)(h:Heap):lim tab.get S 17 q 6 [x0,x1,x2,x3,x4] h=b17_6 (orc S (lim tab.get S)) (lim tab.get S 17 q) q x0 x1 x2 x3 x4 h:=(qAA k17 q 6 _ h).trans (e17_6 ..).symm
theorem k18:tab.get 18=some c18:=by kernel_rfl
theorem w18_0(S:Oracle)(q:Nat)(x0:TVal)(h:Heap):lim tab.get S 18 q 0 [x0] h=b18_0 (orc S (lim tab.get S)) (lim tab.get S 18 q) q x0 h:=(qAA k18 q 0 _ h).trans (e18_0 ..).symm
theorem k19:tab.get 19=some c19:=by kernel_rfl
theorem w19_0(S:Oracle)(q:Nat)(x0:TVal)(h:Heap):lim tab.get S 19 q 0 [x0] h=b19_0 (orc S (lim tab.get S)) (lim tab.get S 19 q) q x0 h:=(qAA k19 q 0 _ h).trans (e19_0 ..).symm
theorem k21:tab.get 21=some c21:=by kernel_rfl
theorem w21_0(S:Oracle)(q:Nat)(x0:TVal)(h:Heap):lim tab.get S 21 q 0 [x0] h=b21_0 (orc S (lim tab.get S)) (lim tab.get S 21 q) q x0 h:=(qAA k21 q 0 _ h).trans (e21_0 ..).symm
theorem w21_1(S:Oracle)(q:Nat)(x0 x1 x2:TVal)(h:Heap):lim tab.get S 21 q 1 [x0,x1,x2] h=b21_1 (orc S (lim tab.get S)) (lim tab.get S 21 q) q x0 x1 x2 h:=(qAA k21 q 1 _ h).trans (e21_1 ..).symm
theorem w21_2(S:Oracle)(q:Nat)(x0 x1 x2:TVal)(h:Heap):lim tab.get S 21 q 2 [x0,x1,x2] h=b21_2 (orc S (lim tab.get S)) (lim tab.get S 21 q) q x0 x1 x2 h:=(qAA k21 q 2 _ h).trans (e21_2 ..).symm
theorem w21_3(S:Oracle)(q:Nat)(x0 x1 x2 x3:TVal)(h:Heap):lim tab.get S 21 q 3 [x0,x1,x2,x3] h=b21_3 (orc S (lim tab.get S)) (lim tab.get S 21 q) q x0 x1 x2 x3 h:=(qAA k21 q 3 _ h).trans (e21_3 ..).symm
theorem w21_4(S:Oracle)(q:Nat)(x0 x1 x2 x3:TVal)(h:Heap):lim tab.get S 21 q 4 [x0,x1,x2,x3] h=b21_4 (orc S (lim tab.get S)) (lim tab.get S 21 q) q x0 x1 x2 x3 h:=(qAA k21 q 4 _ h).trans (e21_4 ..).symm
theorem w21_5(S:Oracle)(q:Nat)(x0 x1 x2:TVal)(h:Heap):lim tab.get S 21 q 5 [x0,x1,x2] h=b21_5 (orc S (lim tab.get S)) (lim tab.get S 21 q) q x0 x1 x2 h:=(qAA k21 q 5 _ h).trans (e21_5 ..).symm
theorem k23:tab.get 23=some c23:=by kernel_rfl
theorem w23_0(S:Oracle)(q:Nat)(x0:TVal)(h:Heap):lim tab.get S 23 q 0 [x0] h=b23_0 (orc S (lim tab.get S)) (lim tab.get S 23 q) q x0 h:=(qAA k23 q 0 _ h).trans (e23_0 ..).symm
theorem w23_1(S:Oracle)(q:Nat)(x0 x1 x2:TVal)(h:Heap):lim tab.get S 23 q 1 [x0,x1,x2] h=b23_1 (orc S (lim tab.get S)) (lim tab.get S 23 q) q x0 x1 x2 h:=(qAA k23 q 1 _ h).trans (e23_1 ..).symm
theorem w23_2(S:Oracle)(q:Nat)(x0 x1 x2:TVal)(h:Heap):lim tab.get S 23 q 2 [x0,x1,x2] h=b23_2 (orc S (lim tab.get S)) (lim tab.get S 23 q) q x0 x1 x2 h:=(qAA k23 q 2 _ h).trans (e23_2 ..).symm
theorem k24:tab.get 24=some c24:=by kernel_rfl
theorem w24_0(S:Oracle)(q:Nat)(x0 x1:TVal)(h:Heap):lim tab.get S 24 q 0 [x0,x1] h=b24_0 (orc S (lim tab.get S)) (lim tab.get S 24 q) q x0 x1 h:=(qAA k24 q 0 _ h).trans (e24_0 ..).symm
theorem w24_1(S:Oracle)(q:Nat)(x0 x1 x2 x3:TVal)(h:Heap):lim tab.get S 24 q 1 [x0,x1,x2,x3] h=b24_1 (orc S (lim tab.get S)) (lim tab.get S 24 q) q x0 x1 x2 x3 h:=(qAA k24 q 1 _ h).trans (e24_1 ..).symm
theorem w24_2(S:Oracle)(q:Nat)(x0 x1 x2 x3:TVal)(h:Heap):lim tab.get S 24 q 2 [x0,x1,x2,x3] h=b24_2 (orc S (lim tab.get S)) (lim tab.get S 24 q) q x0 x1 x2 x3 h:=(qAA k24 q 2 _ h).trans (e24_2 ..).symm
theorem k25:tab.get 25=some c25:=by kernel_rfl
theorem w25_0(S:Oracle)(q:Nat)(x0:TVal)(h:Heap):lim tab.get S 25 q 0 [x0] h=b25_0 (orc S (lim tab.get S)) (lim tab.get S 25 q) q x0 h:=(qAA k25 q 0 _ h).trans (e25_0 ..).symm
theorem w25_1(S:Oracle)(q:Nat)(x0 x1 x2:TVal)(h:Heap):lim tab.get S 25 q 1 [x0,x1,x2] h=b25_1 (orc S (lim tab.get S)) (lim tab.get S 25 q) q x0 x1 x2 h:=(qAA k25 q 1 _ h).trans (e25_1 ..).symm
theorem w25_2(S:Oracle)(q:Nat)(x0:TVal)(h:Heap):lim tab.get S 25 q 2 [x0] h=b25_2 (orc S (lim tab.get S)) (lim tab.get S 25 q) q x0 h:=(qAA k25 q 2 _ h).trans (e25_2 ..).symm
theorem k26:tab.get 26=some c26:=by kernel_rfl
theorem w26_0(S:Oracle)(q:Nat)(x0 x1:TVal)(h:Heap):lim tab.get S 26 q 0 [x0,x1] h=b26_0 (orc S (lim tab.get S)) (lim tab.get S 26 q) q x0 x1 h:=(qAA k26 q 0 _ h).trans (e26_0 ..).symm
theorem k27:tab.get 27=some c27:=by kernel_rfl
theorem w27_0(S:Oracle)(q:Nat)(x0:TVal)(h:Heap):lim tab.get S 27 q 0 [x0] h=b27_0 (orc S (lim tab.get S)) (lim tab.get S 27 q) q x0 h:=(qAA k27 q 0 _ h).trans (e27_0 ..).symm
theorem w27_1(S:Oracle)(q:Nat)(x0:TVal)(h:Heap):lim tab.get S 27 q 1 [x0] h=b27_1 (orc S (lim tab.get S)) (lim tab.get S 27 q) q x0 h:=(qAA k27 q 1 _ h).trans (e27_1 ..).symm
theorem k29:tab.get 29=some c29:=by kernel_rfl
theorem w29_0(S:Oracle)(q:Nat)(x0 x1:TVal)(h:Heap):lim tab.get S 29 q 0 [x0,x1] h=b29_0 (orc S (lim tab.get S)) (lim tab.get S 29 q) q x0 x1 h:=(qAA k29 q 0 _ h).trans (e29_0 ..).symm
theorem w29_1(S:Oracle)(q:Nat)(x0 x1 x2:TVal)(h:Heap):lim tab.get S 29 q 1 [x0,x1,x2] h=b29_1 (orc S (lim tab.get S)) (lim tab.get S 29 q) q x0 x1 x2 h:=(qAA k29 q 1 _ h).trans (e29_1 ..).symm
theorem k30:tab.get 30=some c30:=by kernel_rfl
theorem w30_0(S:Oracle)(q:Nat)(x0 x1:TVal)(h:Heap):lim tab.get S 30 q 0 [x0,x1] h=b30_0 (orc S (lim tab.get S)) (lim tab.get S 30 q) q x0 x1 h:=(qAA k30 q 0 _ h).trans (e30_0 ..).symm
theorem k31:tab.get 31=some c31:=by kernel_rfl
theorem w31_0(S:Oracle)(q:Nat)(x0 x1:TVal)(h:Heap):lim tab.get S 31 q 0 [x0,x1] h=b31_0 (orc S (lim tab.get S)) (lim tab.get S 31 q) q x0 x1 h:=(qAA k31 q 0 _ h).trans (e31_0 ..).symm
theorem k32:tab.get 32=some c32:=by kernel_rfl
theorem w32_0(S:Oracle)(q:Nat)(x0:TVal)(h:Heap):lim tab.get S 32 q 0 [x0] h=b32_0 (orc S (lim tab.get S)) (lim tab.get S 32 q) q x0 h:=(qAA k32 q 0 _ h).trans (e32_0 ..).symm
theorem w32_1(S:Oracle)(q:Nat)(x0:TVal)(h:Heap):lim tab.get S 32 q 1 [x0] h=b32_1 (orc S (lim tab.get S)) (lim tab.get S 32 q) q x0 h:=(qAA k32 q 1 _ h).trans (e32_1 ..).symm
theorem k33:tab.get 33=some c33:=by kernel_rfl
theorem w33_0(S:Oracle)(q:Nat)(x0 x1 x2:TVal)(h:Heap):lim tab.get S 33 q 0 [x0,x1,x2] h=b33_0 (orc S (lim tab.get S)) (lim tab.get S 33 q) q x0 x1 x2 h:=(qAA k33 q 0 _ h).trans (e33_0 ..).symm
theorem w33_1(S:Oracle)(q:Nat)(x0 x1 x2 x3 x4:TVal)(h:Heap):lim tab.get S 33 q 1 [x0,x1,x2,x3,x4] h=b33_1 (orc S (lim tab.get S)) (lim tab.get S 33 q) q x0 x1 x2 x3 x4 h:=(qAA k33 q 1 _ h).trans (e33_1 ..).symm
theorem w33_2(S:Oracle)(q:Nat)(x0 x1 x2 x3 x4:TVal)(h:Heap):lim tab.get S 33 q 2 [x0,x1,x2,x3,x4] h=b33_2 (orc S (lim tab.get S)) (lim tab.get S 33 q) q x0 x1 x2 x3 x4 h:=(qAA k33 q 2 _ h).trans (e33_2 ..).symm
theorem w33_3(S:Oracle)(q:Nat)(x0 x1:TVal)(h:Heap):lim tab.get S 33 q 3 [x0,x1] h=b33_3 (orc S (lim tab.get S)) (lim tab.get S 33 q) q x0 x1 h:=(qAA k33 q 3 _ h).trans (e33_3 ..).symm
theorem k34:tab.get 34=some c34:=by kernel_rfl
theorem w34_0(S:Oracle)(q:Nat)(x0 x1:TVal)(h:Heap):lim tab.get S 34 q 0 [x0,x1] h=b34_0 (orc S (lim tab.get S)) (lim tab.get S 34 q) q x0 x1 h:=(qAA k34 q 0 _ h).trans (e34_0 ..).symm
theorem k36:tab.get 36=some c36:=by kernel_rfl
theorem w36_0(S:Oracle)(q:Nat)(x0:TVal)(h:Heap):lim tab.get S 36 q 0 [x0] h=b36_0 (orc S (lim tab.get S)) (lim tab.get S 36 q) q x0 h:=(qAA k36 q 0 _ h).trans (e36_0 ..).symm
theorem k37:tab.get 37=some c37:=by kernel_rfl
theorem w37_0(S:Oracle)(q:Nat)(x0 x1:TVal)(h:Heap):lim tab.get S 37 q 0 [x0,x1] h=b37_0 (orc S (lim tab.get S)) (lim tab.get S 37 q) q x0 x1 h:=(qAA k37 q 0 _ h).trans (e37_0 ..).symm
theorem k38:tab.get 38=some c38:=by kernel_rfl
theorem w38_0(S:Oracle)(q:Nat)(x0 x1 x2:TVal)(h:Heap):lim tab.get S 38 q 0 [x0,x1,x2] h=b38_0 (orc S (lim tab.get S)) (lim tab.get S 38 q) q x0 x1 x2 h:=(qAA k38 q 0 _ h).trans (e38_0 ..).symm
theorem w38_1(S:Oracle)(q:Nat)(x0 x1 x2 x3 x4 x5 x6:TVal)(h:Heap):lim tab.get S 38 q 1 [x0,x1,x2,x3,x4,x5,x6] h=b38_1 (orc S (lim tab.get S)) (lim tab.get S 38 q) q x0 x1 x2 x3 x4 x5 x6 h:=(qAA k38 q 1 _ h).trans (e38_1 ..).symm
theorem w38_2(S:Oracle)(q:Nat)(x0 x1:TVal)(h:Heap):lim tab.get S 38 q 2 [x0,x1] h=b38_2 (orc S (lim tab.get S)) (lim tab.get S 38 q) q x0 x1 h:=(qAA k38 q 2 _ h).trans (e38_2 ..).symm
theorem k39:tab.get 39=some c39:=by kernel_rfl
theorem w39_0(S:Oracle)(q:Nat)(x0 x1 x2 x3:TVal)(h:Heap):lim tab.get S 39 q 0 [x0,x1,x2,x3] h=b39_0 (orc S (lim tab.get S)) (lim tab.get S 39 q) q x0 x1 x2 x3 h:=(qAA k39 q 0 _ h).trans (e39_0 ..).symm
theorem k40:tab.get 40=some c40:=by kernel_rfl
theorem w40_0(S:Oracle)(q:Nat)(x0:TVal)(h:Heap):lim tab.get S 40 q 0 [x0] h=b40_0 (orc S (lim tab.get S)) (lim tab.get S 40 q) q x0 h:=(qAA k40 q 0 _ h).trans (e40_0 ..).symm
theorem k41:tab.get 41=some c41:=by kernel_rfl
theorem w41_0(S:Oracle)(q:Nat)(x0 x1:TVal)(h:Heap):lim tab.get S 41 q 0 [x0,x1] h=b41_0 (orc S (lim tab.get S)) (lim tab.get S 41 q) q x0 x1 h:=(qAA k41 q 0 _ h).trans (e41_0 ..).symm
theorem k42:tab.get 42=some c42:=by kernel_rfl
theorem w42_0(S:Oracle)(q:Nat)(x0:TVal)(h:Heap):lim tab.get S 42 q 0 [x0] h=b42_0 (orc S (lim tab.get S)) (lim tab.get S 42 q) q x0 h:=(qAA k42 q 0 _ h).trans (e42_0 ..).symm
theorem w42_1(S:Oracle)(q:Nat)(x0 x1:TVal)(h:Heap):lim tab.get S 42 q 1 [x0,x1] h=b42_1 (orc S (lim tab.get S)) (lim tab.get S 42 q) q x0 x1 h:=(qAA k42 q 1 _ h).trans (e42_1 ..).symm
theorem w42_2(S:Oracle)(q:Nat)(x0 x1 x2:TVal)(h:Heap):lim tab.get S 42 q 2 [x0,x1,x2] h=b42_2 (orc S (lim tab.get S)) (lim tab.get S 42 q) q x0 x1 x2 h:=(qAA k42 q 2 _ h).trans (e42_2 ..).symm
theorem w42_3(S:Oracle)(q:Nat)(x0:TVal)(h:Heap):lim tab.get S 42 q 3 [x0] h=b42_3 (orc S (lim tab.get S)) (lim tab.get S 42 q) q x0 h:=(qAA k42 q 3 _ h).trans (e42_3 ..).symm
theorem k43:tab.get 43=some c43:=by kernel_rfl
theorem w43_0(S:Oracle)(q:Nat)(x0 x1:TVal)(h:Heap):lim tab.get S 43 q 0 [x0,x1] h=b43_0 (orc S (lim tab.get S)) (lim tab.get S 43 q) q x0 x1 h:=(qAA k43 q 0 _ h).trans (e43_0 ..).symm
theorem k44:tab.get 44=some c44:=by kernel_rfl
theorem w44_0(S:Oracle)(q:Nat)(x0:TVal)(h:Heap):lim tab.get S 44 q 0 [x0] h=b44_0 (orc S (lim tab.get S)) (lim tab.get S 44 q) q x0 h:=(qAA k44 q 0 _ h).trans (e44_0 ..).symm
theorem w44_1(S:Oracle)(q:Nat)(x0:TVal)(h:Heap):lim tab.get S 44 q 1 [x0] h=b44_1 (orc S (lim tab.get S)) (lim tab.get S 44 q) q x0 h:=(qAA k44 q 1 _ h).trans (e44_1 ..).symm
theorem k46:tab.get 46=some c46:=by kernel_rfl
theorem w46_0(S:Oracle)(q:Nat)(x0:TVal)(h:Heap):lim tab.get S 46 q 0 [x0] h=b46_0 (orc S (lim tab.get S)) (lim tab.get S 46 q) q x0 h:=(qAA k46 q 0 _ h).trans (e46_0 ..).symm
theorem k47:tab.get 47=some c47:=by kernel_rfl
theorem w47_0(S:Oracle)(q:Nat)(x0:TVal)(h:Heap):lim tab.get S 47 q 0 [x0] h=b47_0 (orc S (lim tab.get S)) (lim tab.get S 47 q) q x0 h:=(qAA k47 q 0 _ h).trans (e47_0 ..).symm
theorem k48:tab.get 48=some c48:=by kernel_rfl
theorem w48_0(S:Oracle)(q:Nat)(x0 x1:TVal)(h:Heap):lim tab.get S 48 q 0 [x0,x1] h=b48_0 (orc S (lim tab.get S)) (lim tab.get S 48 q) q x0 x1 h:=(qAA k48 q 0 _ h).trans (e48_0 ..).symm
theorem w48_1(S:Oracle)(q:Nat)(x0 x1 x2 x3:TVal)(h:Heap):lim tab.get S 48 q 1 [x0,x1,x2,x3] h=b48_1 (orc S (lim tab.get S)) (lim tab.get S 48 q) q x0 x1 x2 x3 h:=(qAA k48 q 1 _ h).trans (e48_1 ..).symm
theorem w48_2(S:Oracle)(q:Nat)(x0 x1 x2 x3:TVal)(h:Heap):lim tab.get S 48 q 2 [x0,x1,x2,x3] h=b48_2 (orc S (lim tab.get S)) (lim tab.get S 48 q) q x0 x1 x2 x3 h:=(qAA k48 q 2 _ h).trans (e48_2 ..).symm
theorem w48_3(S:Oracle)(q:Nat)(x0 x1 x2 x3:TVal)(h:Heap):lim tab.get S 48 q 3 [x0,x1,x2,x3] h=b48_3 (orc S (lim tab.get S)) (lim tab.get S 48 q) q x0 x1 x2 x3 h:=(qAA k48 q 3 _ h).trans (e48_3 ..).symm
theorem w48_4(S:Oracle)(q:Nat)(x0 x1 x2 x3:TVal)(h:Heap):lim tab.get S 48 q 4 [x0,x1,x2,x3] h=b48_4 (orc S (lim tab.get S)) (lim tab.get S 48 q) q x0 x1 x2 x3 h:=(qAA k48 q 4 _ h).trans (e48_4 ..).symm
theorem w48_5(S:Oracle)(q:Nat)(x0 x1 x2:TVal)(h:Heap):lim tab.get S 48 q 5 [x0,x1,x2] h=b48_5 (orc S (lim tab.get S)) (lim tab.get S 48 q) q x0 x1 x2 h:=(qAA k48 q 5 _ h).trans (e48_5 ..).symm
theorem w48_6(S:Oracle)(q:Nat)(x0 x1 x2 x3 x4:TVal)(h:Heap):lim tab.get S 48 q 6 [x0,x1,x2,x3,x4] h=b48_6 (orc S (lim tab.get S)) (lim tab.get S 48 q) q x0 x1 x2 x3 x4 h:=(qAA k48 q 6 _ h).trans (e48_6 ..).symm
theorem w48_7(S:Oracle)(q:Nat)(x0:TVal)(h:Heap):lim tab.get S 48 q 7 [x0] h=b48_7 (orc S (lim tab.get S)) (lim tab.get S 48 q) q x0 h:=(qAA k48 q 7 _ h).trans (e48_7 ..).symm
theorem k49:tab.get 49=some c49:=by kernel_rfl
theorem w49_0(S:Oracle)(q:Nat)(x0 x1:TVal)(h:Heap):lim tab.get S 49 q 0 [x0,x1] h=b49_0 (orc S (lim tab.get S)) (lim tab.get S 49 q) q x0 x1 h:=(qAA k49 q 0 _ h).trans (e49_0 ..).symm
theorem w49_1(S:Oracle)(q:Nat)(x0 x1 x2 x3:TVal)(h:Heap):lim tab.get S 49 q 1 [x0,x1,x2,x3] h=b49_1 (orc S (lim tab.get S)) (lim tab.get S 49 q) q x0 x1 x2 x3 h:=(qAA k49 q 1 _ h).trans (e49_1 ..).symm
theorem w49_2(S:Oracle)(q:Nat)(x0 x1:TVal)(h:Heap):lim tab.get S 49 q 2 [x0,x1] h=b49_2 (orc S (lim tab.get S)) (lim tab.get S 49 q) q x0 x1 h:=(qAA k49 q 2 _ h).trans (e49_2 ..).symm
theorem k51:tab.get 51=some c51:=by kernel_rfl
theorem w51_0(S:Oracle)(q:Nat)(x0 x1 x2 x3 x4:TVal)(h:Heap):lim tab.get S 51 q 0 [x0,x1,x2,x3,x4] h=b51_0 (orc S (lim tab.get S)) (lim tab.get S 51 q) q x0 x1 x2 x3 x4 h:=(qAA k51 q 0 _ h).trans (e51_0 ..).symm
theorem k53:tab.get 53=some c53:=by kernel_rfl
theorem w53_0(S:Oracle)(q:Nat)(x0:TVal)(h:Heap):lim tab.get S 53 q 0 [x0] h=b53_0 (orc S (lim tab.get S)) (lim tab.get S 53 q) q x0 h:=(qAA k53 q 0 _ h).trans (e53_0 ..).symm
theorem k54:tab.get 54=some c54:=by kernel_rfl
theorem w54_0(S:Oracle)(q:Nat)(x0 x1:TVal)(h:Heap):lim tab.get S 54 q 0 [x0,x1] h=b54_0 (orc S (lim tab.get S)) (lim tab.get S 54 q) q x0 x1 h:=(qAA k54 q 0 _ h).trans (e54_0 ..).symm
theorem w54_1(S:Oracle)(q:Nat)(x0 x1 x2:TVal)(h:Heap):lim tab.get S 54 q 1 [x0,x1,x2] h=b54_1 (orc S (lim tab.get S)) (lim tab.get S 54 q) q x0 x1 x2 h:=(qAA k54 q 1 _ h).trans (e54_1 ..).symm
theorem w54_2(S:Oracle)(q:Nat)(x0 x1:TVal)(h:Heap):lim tab.get S 54 q 2 [x0,x1] h=b54_2 (orc S (lim tab.get S)) (lim tab.get S 54 q) q x0 x1 h:=(qAA k54 q 2 _ h).trans (e54_2 ..).symm
theorem k55:tab.get 55=some c55:=by kernel_rfl
theorem w55_0(S:Oracle)(q:Nat)(x0:TVal)(h:Heap):lim tab.get S 55 q 0 [x0] h=b55_0 (orc S (lim tab.get S)) (lim tab.get S 55 q) q x0 h:=(qAA k55 q 0 _ h).trans (e55_0 ..).symm
theorem w55_1(S:Oracle)(q:Nat)(x0 x1:TVal)(h:Heap):lim tab.get S 55 q 1 [x0,x1] h=b55_1 (orc S (lim tab.get S)) (lim tab.get S 55 q) q x0 x1 h:=(qAA k55 q 1 _ h).trans (e55_1 ..).symm
theorem k56:tab.get 56=some c56:=by kernel_rfl
theorem w56_0(S:Oracle)(q:Nat)(x0 x1 x2 x3:TVal)(h:Heap):lim tab.get S 56 q 0 [x0,x1,x2,x3] h=b56_0 (orc S (lim tab.get S)) (lim tab.get S 56 q) q x0 x1 x2 x3 h:=(qAA k56 q 0 _ h).trans (e56_0 ..).symm
theorem k57:tab.get 57=some c57:=by kernel_rfl
theorem w57_0(S:Oracle)(q:Nat)(x0 x1:TVal)(h:Heap):lim tab.get S 57 q 0 [x0,x1] h=b57_0 (orc S (lim tab.get S)) (lim tab.get S 57 q) q x0 x1 h:=(qAA k57 q 0 _ h).trans (e57_0 ..).symm
theorem k62:tab.get 62=some c62:=by kernel_rfl
theorem w62_0(S:Oracle)(q:Nat)(x0 x1 x2 x3:TVal)(h:Heap):lim tab.get S 62 q 0 [x0,x1,x2,x3] h=b62_0 (orc S (lim tab.get S)) (lim tab.get S 62 q) q x0 x1 x2 x3 h:=(qAA k62 q 0 _ h).trans (e62_0 ..).symm
theorem k63:tab.get 63=some c63:=by kernel_rfl
theorem w63_0(S:Oracle)(q:Nat)(x0 x1:TVal)(h:Heap):lim tab.get S 63 q 0 [x0,x1] h=b63_0 (orc S (lim tab.get S)) (lim tab.get S 63 q) q x0 x1 h:=(qAA k63 q 0 _ h).trans (e63_0 ..).symm
theorem w63_1(S:Oracle)(q:Nat)(x0 x1 x2 x3:TVal)(h:Heap):lim tab.get S 63 q 1 [x0,x1,x2,x3] h=b63_1 (orc S (lim tab.get S)) (lim tab.get S 63 q) q x0 x1 x2 x3 h:=(qAA k63 q 1 _ h).trans (e63_1 ..).symm
theorem k64:tab.get 64=some c64:=by kernel_rfl
theorem w64_0(S:Oracle)(q:Nat)(x0:TVal)(h:Heap):lim tab.get S 64 q 0 [x0] h=b64_0 (orc S (lim tab.get S)) (lim tab.get S 64 q) q x0 h:=(qAA k64 q 0 _ h).trans (e64_0 ..).symm
theorem w64_1(S:Oracle)(q:Nat)(x0 x1 x2 x3 x4:TVal)(h:Heap):lim tab.get S 64 q 1 [x0,x1,x2,x3,x4] h=b64_1 (orc S (lim tab.get S)) (lim tab.get S 64 q) q x0 x1 x2 x3 x4 h:=(qAA k64 q 1 _ h).trans (e64_1 ..).symm
theorem w64_2(S:Oracle)(q:Nat)(x0 x1:TVal)(h:Heap):lim tab.get S 64 q 2 [x0,x1] h=b64_2 (orc S (lim tab.get S)) (lim tab.get S 64 q) q x0 x1 h:=(qAA k64 q 2 _ h).trans (e64_2 ..).symm
theorem k65:tab.get 65=some c65:=by kernel_rfl
theorem w65_0(S:Oracle)(q:Nat)(x0:TVal)(h:Heap):lim tab.get S 65 q 0 [x0] h=b65_0 (orc S (lim tab.get S)) (lim tab.get S 65 q) q x0 h:=(qAA k65 q 0 _ h).trans (e65_0 ..).symm
theorem k66:tab.get 66=some c66:=by kernel_rfl
theorem w66_0(S:Oracle)(q:Nat)(x0:TVal)(h:Heap):lim tab.get S 66 q 0 [x0] h=b66_0 (orc S (lim tab.get S)) (lim tab.get S 66 q) q x0 h:=(qAA k66 q 0 _ h).trans (e66_0 ..).symm
theorem w66_1(S:Oracle)(q:Nat)(x0 x1 x2 x3:TVal)(h:Heap):lim tab.get S 66 q 1 [x0,x1,x2,x3] h=b66_1 (orc S (lim tab.get S)) (lim tab.get S 66 q) q x0 x1 x2 x3 h:=(qAA k66 q 1 _ h).trans (e66_1 ..).symm
theorem w66_2(S:Oracle)(q:Nat)(x0:TVal)(h:Heap):lim tab.get S 66 q 2 [x0] h=b66_2 (orc S (lim tab.get S)) (lim tab.get S 66 q) q x0 h:=(qAA k66 q 2 _ h).trans (e66_2 ..).symm
theorem k67:tab.get 67=some c67:=by kernel_rfl
theorem w67_0(S:Oracle)(q:Nat)(x0:TVal)(h:Heap):lim tab.get S 67 q 0 [x0] h=b67_0 (orc S (lim tab.get S)) (lim tab.get S 67 q) q x0 h:=(qAA k67 q 0 _ h).trans (e67_0 ..).symm
theorem k71:tab.get 71=some c71:=by kernel_rfl
theorem w71_0(S:Oracle)(q:Nat)(x0:TVal)(h:Heap):lim tab.get S 71 q 0 [x0] h=b71_0 (orc S (lim tab.get S)) (lim tab.get S 71 q) q x0 h:=(qAA k71 q 0 _ h).trans (e71_0 ..).symm
theorem w71_1(S:Oracle)(q:Nat)(x0 x1 x2:TVal)(h:Heap):lim tab.get S 71 q 1 [x0,x1,x2] h=b71_1 (orc S (lim tab.get S)) (lim tab.get S 71 q) q x0 x1 x2 h:=(qAA k71 q 1 _ h).trans (e71_1 ..).symm
theorem w71_2(S:Oracle)(q:Nat)(x0 x1 x2:TVal)(h:Heap):lim tab.get S 71 q 2 [x0,x1,x2] h=b71_2 (orc S (lim tab.get S)) (lim tab.get S 71 q) q x0 x1 x2 h:=(qAA k71 q 2 _ h).trans (e71_2 ..).symm
theorem w71_3(S:Oracle)(q:Nat)(x0 x1 x2:TVal)(h:Heap):lim tab.get S 71 q 3 [x0,x1,x2] h=b71_3 (orc S (lim tab.get S)) (lim tab.get S 71 q) q x0 x1 x2 h:=(qAA k71 q 3 _ h).trans (e71_3 ..).symm
theorem k72:tab.get 72=some c72:=by kernel_rfl
theorem w72_0(S:Oracle)(q:Nat)(x0 x1 x2:TVal)(h:Heap):lim tab.get S 72 q 0 [x0,x1,x2] h=b72_0 (orc S (lim tab.get S)) (lim tab.get S 72 q) q x0 x1 x2 h:=(qAA k72 q 0 _ h).trans (e72_0 ..).symm
theorem w72_1(S:Oracle)(q:Nat)(x0 x1 x2 x3:TVal)(h:Heap):lim tab.get S 72 q 1 [x0,x1,x2,x3] h=b72_1 (orc S (lim tab.get S)) (lim tab.get S 72 q) q x0 x1 x2 x3 h:=(qAA k72 q 1 _ h).trans (e72_1 ..).symm
theorem w72_2(S:Oracle)(q:Nat)(x0 x1 x2:TVal)(h:Heap):lim tab.get S 72 q 2 [x0,x1,x2] h=b72_2 (orc S (lim tab.get S)) (lim tab.get S 72 q) q x0 x1 x2 h:=(qAA k72 q 2 _ h).trans (e72_2 ..).symm
theorem w72_3(S:Oracle)(q:Nat)(x0 x1 x2 x3:TVal)(h:Heap):lim tab.get S 72 q 3 [x0,x1,x2,x3] h=b72_3 (orc S (lim tab.get S)) (lim tab.get S 72 q) q x0 x1 x2 x3 h:=(qAA k72 q 3 _ h).trans (e72_3 ..).symm
theorem w72_4(S:Oracle)(q:Nat)(x0 x1 x2:TVal)(h:Heap):lim tab.get S 72 q 4 [x0,x1,x2] h=b72_4 (orc S (lim tab.get S)) (lim tab.get S 72 q) q x0 x1 x2 h:=(qAA k72 q 4 _ h).trans (e72_4 ..).symm
theorem w72_5(S:Oracle)(q:Nat)(x0 x1 x2 x3:TVal)(h:Heap):lim tab.get S 72 q 5 [x0,x1,x2,x3] h=b72_5 (orc S (lim tab.get S)) (lim tab.get S 72 q) q x0 x1 x2 x3 h:=(qAA k72 q 5 _ h).trans (e72_5 ..).symm
theorem k73:tab.get 73=some c73:=by kernel_rfl
theorem w73_0(S:Oracle)(q:Nat)(x0:TVal)(h:Heap):lim tab.get S 73 q 0 [x0] h=b73_0 (orc S (lim tab.get S)) (lim tab.get S 73 q) q x0 h:=(qAA k73 q 0 _ h).trans (e73_0 ..).symm
theorem k74:tab.get 74=some c74:=by kernel_rfl
theorem w74_0(S:Oracle)(q:Nat)(x0:TVal)(h:Heap):lim tab.get S 74 q 0 [x0] h=b74_0 (orc S (lim tab.get S)) (lim tab.get S 74 q) q x0 h:=(qAA k74 q 0 _ h).trans (e74_0 ..).symm
theorem k75:tab.get 75=some c75:=by kernel_rfl
theorem w75_0(S:Oracle)(q:Nat)(x0:TVal)(h:Heap):lim tab.get S 75 q 0 [x0] h=b75_0 (orc S (lim tab.get S)) (lim tab.get S 75 q) q x0 h:=(qAA k75 q 0 _ h).trans (e75_0 ..).symm
theorem w75_1(S:Oracle)(q:Nat)(x0 x1:TVal)(h:Heap):lim tab.get S 75 q 1 [x0,x1] h=b75_1 (orc S (lim tab.get S)) (lim tab.get S 75 q) q x0 x1 h:=(qAA k75 q 1 _ h).trans (e75_1 ..).symm
theorem w75_2(S:Oracle)(q:Nat)(x0 x1 x2 x3:TVal)(h:Heap):lim tab.get S 75 q 2 [x0,x1,x2,x3] h=b75_2 (orc S (lim tab.get S)) (lim tab.get S 75 q) q x0 x1 x2 x3 h:=(qAA k75 q 2 _ h).trans (e75_2 ..).symm
theorem w75_3(S:Oracle)(q:Nat)(x0 x1:TVal)(h:Heap):lim tab.get S 75 q 3 [x0,x1] h=b75_3 (orc S (lim tab.get S)) (lim tab.get S 75 q) q x0 x1 h:=(qAA k75 q 3 _ h).trans (e75_3 ..).symm
theorem k76:tab.get 76=some c76:=by kernel_rfl
theorem w76_0(S:Oracle)(q:Nat)(x0 x1:TVal)(h:Heap):lim tab.get S 76 q 0 [x0,x1] h=b76_0 (orc S (lim tab.get S)) (lim tab.get S 76 q) q x0 x1 h:=(qAA k76 q 0 _ h).trans (e76_0 ..).symm
theorem w76_1(S:Oracle)(q:Nat)(x0 x1 x2:TVal)(h:Heap):lim tab.get S 76 q 1 [x0,x1,x2] h=b76_1 (orc S (lim tab.get S)) (lim tab.get S 76 q) q x0 x1 x2 h:=(qAA k76 q 1 _ h).trans (e76_1 ..).symm
theorem w76_2(S:Oracle)(q:Nat)(x0 x1 x2 x3 x4:TVal)(h:Heap):lim tab.get S 76 q 2 [x0,x1,x2,x3,x4] h=b76_2 (orc S (lim tab.get S)) (lim tab.get S 76 q) q x0 x1 x2 x3 x4 h:=(qAA k76 q 2 _ h).trans (e76_2 ..).symm
theorem w76_3(S:Oracle)(q:Nat)(x0 x1 x2:TVal)(h:Heap):lim tab.get S 76 q 3 [x0,x1,x2] h=b76_3 (orc S (lim tab.get S)) (lim tab.get S 76 q) q x0 x1 x2 h:=(qAA k76 q 3 _ h).trans (e76_3 ..).symm
theorem k77:tab.get 77=some c77:=by kernel_rfl
theorem w77_0(S:Oracle)(q:Nat)(x0 x1:TVal)(h:Heap):lim tab.get S 77 q 0 [x0,x1] h=b77_0 (orc S (lim tab.get S)) (lim tab.get S 77 q) q x0 x1 h:=(qAA k77 q 0 _ h).trans (e77_0 ..).symm
theorem w77_1(S:Oracle)(q:Nat)(x0 x1:TVal)(h:Heap):lim tab.get S 77 q 1 [x0,x1] h=b77_1 (orc S (lim tab.get S)) (lim tab.get S 77 q) q x0 x1 h:=(qAA k77 q 1 _ h).trans (e77_1 ..).symm
theorem k78:tab.get 78=some c78:=by kernel_rfl
theorem w78_0(S:Oracle)(q:Nat)(x0:TVal)(h:Heap):lim tab.get S 78 q 0 [x0] h=b78_0 (orc S (lim tab.get S)) (lim tab.get S 78 q) q x0 h:=(qAA k78 q 0 _ h).trans (e78_0 ..).symm
theorem k79:tab.get 79=some c79:=by kernel_rfl
theorem w79_0(S:Oracle)(q:Nat)(x0 x1 x2 x3:TVal)(h:Heap):lim tab.get S 79 q 0 [x0,x1,x2,x3] h=b79_0 (orc S (lim tab.get S)) (lim tab.get S 79 q) q x0 x1 x2 x3 h:=(qAA k79 q 0 _ h).trans (e79_0 ..).symm
theorem w79_1(S:Oracle)(q:Nat)(x0 x1 x2 x3 x4 x5 x6 x7 x8:TVal)(h:Heap):lim tab.get S 79 q 1 [x0,x1,x2,x3,x4,x5,x6,x7,x8] h=b79_1 (orc S (lim tab.get S)) (lim tab.get S 79 q) q x0 x1 x2 x3 x4 x5 x6 x7 x8 h:=(qAA k79 q 1 _ h).trans (e79_1 ..).symm
theorem w79_2(S:Oracle)(q:Nat)(x0 x1 x2 x3 x4:TVal)(h:Heap):lim tab.get S 79 q 2 [x0,x1,x2,x3,x4] h=b79_2 (orc S (lim tab.get S)) (lim tab.get S 79 q) q x0 x1 x2 x3 x4 h:=(qAA k79 q 2 _ h).trans (e79_2 ..).symm
theorem k80:tab.get 80=some c80:=by kernel_rfl
theorem w80_0(S:Oracle)(q:Nat)(x0 x1 x2:TVal)(h:Heap):lim tab.get S 80 q 0 [x0,x1,x2] h=b80_0 (orc S (lim tab.get S)) (lim tab.get S 80 q) q x0 x1 x2 h:=(qAA k80 q 0 _ h).trans (e80_0 ..).symm
theorem k82:tab.get 82=some c82:=by kernel_rfl
theorem w82_0(S:Oracle)(q:Nat)(x0 x1:TVal)(h:Heap):lim tab.get S 82 q 0 [x0,x1] h=b82_0 (orc S (lim tab.get S)) (lim tab.get S 82 q) q x0 x1 h:=(qAA k82 q 0 _ h).trans (e82_0 ..).symm
theorem k84:tab.get 84=some c84:=by kernel_rfl
theorem w84_0(S:Oracle)(q:Nat)(x0 x1:TVal)(h:Heap):lim tab.get S 84 q 0 [x0,x1] h=b84_0 (orc S (lim tab.get S)) (lim tab.get S 84 q) q x0 x1 h:=(qAA k84 q 0 _ h).trans (e84_0 ..).symm
theorem w84_1(S:Oracle)(q:Nat)(x0 x1 x2 x3:TVal)(h:Heap):lim tab.get S 84 q 1 [x0,x1,x2,x3] h=b84_1 (orc S (lim tab.get S)) (lim tab.get S 84 q) q x0 x1 x2 x3 h:=(qAA k84 q 1 _ h).trans (e84_1 ..).symm
theorem k85:tab.get 85=some c85:=by kernel_rfl
theorem w85_0(S:Oracle)(q:Nat)(x0 x1:TVal)(h:Heap):lim tab.get S 85 q 0 [x0,x1] h=b85_0 (orc S (lim tab.get S)) (lim tab.get S 85 q) q x0 x1 h:=(qAA k85 q 0 _ h).trans (e85_0 ..).symm
theorem k86:tab.get 86=some c86:=by kernel_rfl
theorem w86_0(S:Oracle)(q:Nat)(x0:TVal)(h:Heap):lim tab.get S 86 q 0 [x0] h=b86_0 (orc S (lim tab.get S)) (lim tab.get S 86 q) q x0 h:=(qAA k86 q 0 _ h).trans (e86_0 ..).symm
theorem k88:tab.get 88=some c88:=by kernel_rfl
theorem w88_0(S:Oracle)(q:Nat)(x0:TVal)(h:Heap):lim tab.get S 88 q 0 [x0] h=b88_0 (orc S (lim tab.get S)) (lim tab.get S 88 q) q x0 h:=(qAA k88 q 0 _ h).trans (e88_0 ..).symm
theorem k89:tab.get 89=some c89:=by kernel_rfl
theorem w89_0(S:Oracle)(q:Nat)(x0 x1:TVal)(h:Heap):lim tab.get S 89 q 0 [x0,x1] h=b89_0 (orc S (lim tab.get S)) (lim tab.get S 89 q) q x0 x1 h:=(qAA k89 q 0 _ h).trans (e89_0 ..).symm
theorem w89_1(S:Oracle)(q:Nat)(x0 x1 x2:TVal)(h:Heap):lim tab.get S 89 q 1 [x0,x1,x2] h=b89_1 (orc S (lim tab.get S)) (lim tab.get S 89 q) q x0 x1 x2 h:=(qAA k89 q 1 _ h).trans (e89_1 ..).symm
theorem k90:tab.get 90=some c90:=by kernel_rfl
theorem w90_0(S:Oracle)(q:Nat)(x0 x1:TVal)(h:Heap):lim tab.get S 90 q 0 [x0,x1] h=b90_0 (orc S (lim tab.get S)) (lim tab.get S 90 q) q x0 x1 h:=(qAA k90 q 0 _ h).trans (e90_0 ..).symm
theorem k91:tab.get 91=some c91:=by kernel_rfl
theorem w91_0(S:Oracle)(q:Nat)(x0:TVal)(h:Heap):lim tab.get S 91 q 0 [x0] h=b91_0 (orc S (lim tab.get S)) (lim tab.get S 91 q) q x0 h:=(qAA k91 q 0 _ h).trans (e91_0 ..).symm
theorem k92:tab.get 92=some c92:=by kernel_rfl
theorem w92_0(S:Oracle)(q:Nat)(x0 x1:TVal)(h:Heap):lim tab.get S 92 q 0 [x0,x1] h=b92_0 (orc S (lim tab.get S)) (lim tab.get S 92 q) q x0 x1 h:=(qAA k92 q 0 _ h).trans (e92_0 ..).symm
theorem w92_1(S:Oracle)(q:Nat)(x0 x1 x2 x3 x4:TVal)(h:Heap):lim tab.get S 92 q 1 [x0,x1,x2,x3,x4] h=b92_1 (orc S (lim tab.get S)) (lim tab.get S 92 q) q x0 x1 x2 x3 x4 h:=(qAA k92 q 1 _ h).trans (e92_1 ..).symm
theorem k94:tab.get 94=some c94:=by kernel_rfl
theorem w94_0(S:Oracle)(q:Nat)(x0 x1:TVal)(h:Heap):lim tab.get S 94 q 0 [x0,x1] h=b94_0 (orc S (lim tab.get S)) (lim tab.get S 94 q) q x0 x1 h:=(qAA k94 q 0 _ h).trans (e94_0 ..).symm
theorem w94_1(S:Oracle)(q:Nat)(x0 x1 x2:TVal)(h:Heap):lim tab.get S 94 q 1 [x0,x1,x2] h=b94_1 (orc S (lim tab.get S)) (lim tab.get S 94 q) q x0 x1 x2 h:=(qAA k94 q 1 _ h).trans (e94_1 ..).symm
theorem w94_2(S:Oracle)(q:Nat)(x0 x1 x2 x3 x4:TVal)(h:Heap):lim tab.get S 94 q 2 [x0,x1,x2,x3,x4] h=b94_2 (orc S (lim tab.get S)) (lim tab.get S 94 q) q x0 x1 x2 x3 x4 h:=(qAA k94 q 2 _ h).trans (e94_2 ..).symm
theorem w94_3(S:Oracle)(q:Nat)(x0 x1:TVal)(h:Heap):lim tab.get S 94 q 3 [x0,x1] h=b94_3 (orc S (lim tab.get S)) (lim tab.get S 94 q) q x0 x1 h:=(qAA k94 q 3 _ h).trans (e94_3 ..).symm
theorem k96:tab.get 96=some c96:=by kernel_rfl
theorem w96_0(S:Oracle)(q:Nat)(x0 x1:TVal)(h:Heap):lim tab.get S 96 q 0 [x0,x1] h=b96_0 (orc S (lim tab.get S)) (lim tab.get S 96 q) q x0 x1 h:=(qAA k96 q 0 _ h).trans (e96_0 ..).symm
theorem w96_1(S:Oracle)(q:Nat)(x0 x1 x2:TVal)(h:Heap):lim tab.get S 96 q 1 [x0,x1,x2] h=b96_1 (orc S (lim tab.get S)) (lim tab.get S 96 q) q x0 x1 x2 h:=(qAA k96 q 1 _ h).trans (e96_1 ..).symm
theorem k98:tab.get 98=some c98:=by kernel_rfl
theorem w98_0(S:Oracle)(q:Nat)(x0:TVal)(h:Heap):lim tab.get S 98 q 0 [x0] h=b98_0 (orc S (lim tab.get S)) (lim tab.get S 98 q) q x0 h:=(qAA k98 q 0 _ h).trans (e98_0 ..).symm
theorem k99:tab.get 99=some c99:=by kernel_rfl
theorem w99_0(S:Oracle)(q:Nat)(x0 x1:TVal)(h:Heap):lim tab.get S 99 q 0 [x0,x1] h=b99_0 (orc S (lim tab.get S)) (lim tab.get S 99 q) q x0 x1 h:=(qAA k99 q 0 _ h).trans (e99_0 ..).symm
theorem k100:tab.get 100=some c100:=by kernel_rfl
theorem w100_0(S:Oracle)(q:Nat)(x0:TVal)(h:Heap):lim tab.get S 100 q 0 [x0] h=b100_0 (orc S (lim tab.get S)) (lim tab.get S 100 q) q x0 h:=(qAA k100 q 0 _ h).trans (e100_0 ..).symm
theorem w100_1(S:Oracle)(q:Nat)(x0 x1:TVal)(h:Heap):lim tab.get S 100 q 1 [x0,x1] h=b100_1 (orc S (lim tab.get S)) (lim tab.get S 100 q) q x0 x1 h:=(qAA k100 q 1 _ h).trans (e100_1 ..).symm
theorem w100_2(S:Oracle)(q:Nat)(x0:TVal)(h:Heap):lim tab.get S 100 q 2 [x0] h=b100_2 (orc S (lim tab.get S)) (lim tab.get S 100 q) q x0 h:=(qAA k100 q 2 _ h).trans (e100_2 ..).symm
theorem k109:tab.get 109=some c109:=by kernel_rfl
theorem w109_0(S:Oracle)(q:Nat)(x0 x1:TVal)(h:Heap):lim tab.get S 109 q 0 [x0,x1] h=b109_0 (orc S (lim tab.get S)) (lim tab.get S 109 q) q x0 x1 h:=(qAA k109 q 0 _ h).trans (e109_0 ..).symm
theorem k110:tab.get 110=some c110:=by kernel_rfl
theorem w110_0(S:Oracle)(q:Nat)(x0:TVal)(h:Heap):lim tab.get S 110 q 0 [x0] h=b110_0 (orc S (lim tab.get S)) (lim tab.get S 110 q) q x0 h:=(qAA k110 q 0 _ h).trans (e110_0 ..).symm
theorem k111:tab.get 111=some c111:=by kernel_rfl
theorem w111_0(S:Oracle)(q:Nat)(x0:TVal)(h:Heap):lim tab.get S 111 q 0 [x0] h=b111_0 (orc S (lim tab.get S)) (lim tab.get S 111 q) q x0 h:=(qAA k111 q 0 _ h).trans (e111_0 ..).symm
theorem k112:tab.get 112=some c112:=by kernel_rfl
theorem w112_0(S:Oracle)(q:Nat)(x0 x1:TVal)(h:Heap):lim tab.get S 112 q 0 [x0,x1] h=b112_0 (orc S (lim tab.get S)) (lim tab.get S 112 q) q x0 x1 h:=(qAA k112 q 0 _ h).trans (e112_0 ..).symm
theorem w112_1(S:Oracle)(q:Nat)(x0 x1 x2:TVal)(h:Heap):lim tab.get S 112 q 1 [x0,x1,x2] h=b112_1 (orc S (lim tab.get S)) (lim tab.get S 112 q) q x0 x1 x2 h:=(qAA k112 q 1 _ h).trans (e112_1 ..).symm
theorem w112_2(S:Oracle)(q:Nat)(x0 x1 x2:TVal)(h:Heap):lim tab.get S 112 q 2 [x0,x1,x2] h=b112_2 (orc S (lim tab.get S)) (lim tab.get S 112 q) q x0 x1 x2 h:=(qAA k112 q 2 _ h).trans (e112_2 ..).symm
theorem w112_3(S:Oracle)(q:Nat)(x0 x1 x2:TVal)(h:Heap):lim tab.get S 112 q 3 [x0,x1,x2] h=b112_3 (orc S (lim tab.get S)) (lim tab.get S 112 q) q x0 x1 x2 h:=(qAA k112 q 3 _ h).trans (e112_3 ..).symm
theorem w112_4(S:Oracle)(q:Nat)(x0 x1 x2:TVal)(h:Heap):lim tab.get S 112 q 4 [x0,x1,x2] h=b112_4 (orc S (lim tab.get S)) (lim tab.get S 112 q) q x0 x1 x2 h:=(qAA k112 q 4 _ h).trans (e112_4 ..).symm
theorem k114:tab.get 114=some c114:=by kernel_rfl
theorem w114_0(S:Oracle)(q:Nat)(x0:TVal)(h:Heap):lim tab.get S 114 q 0 [x0] h=b114_0 (orc S (lim tab.get S)) (lim tab.get S 114 q) q x0 h:=(qAA k114 q 0 _ h).trans (e114_0 ..).symm
theorem k115:tab.get 115=some c115:=by kernel_rfl
theorem w115_0(S:Oracle)(q:Nat)(x0:TVal)(h:Heap):lim tab.get S 115 q 0 [x0] h=b115_0 (orc S (lim tab.get S)) (lim tab.get S 115 q) q x0 h:=(qAA k115 q 0 _ h).trans (e115_0 ..).symm
theorem k116:tab.get 116=some c116:=by kernel_rfl
theorem w116_0(S:Oracle)(q:Nat)(x0 x1:TVal)(h:Heap):lim tab.get S 116 q 0 [x0,x1] h=b116_0 (orc S (lim tab.get S)) (lim tab.get S 116 q) q x0 x1 h:=(qAA k116 q 0 _ h).trans (e116_0 ..).symm
theorem k117:tab.get 117=some c117:=by kernel_rfl
theorem w117_0(S:Oracle)(q:Nat)(x0:TVal)(h:Heap):lim tab.get S 117 q 0 [x0] h=b117_0 (orc S (lim tab.get S)) (lim tab.get S 117 q) q x0 h:=(qAA k117 q 0 _ h).trans (e117_0 ..).symm
theorem k118:tab.get 118=some c118:=by kernel_rfl
theorem w118_0(S:Oracle)(q:Nat)(x0 x1:TVal)(h:Heap):lim tab.get S 118 q 0 [x0,x1] h=b118_0 (orc S (lim tab.get S)) (lim tab.get S 118 q) q x0 x1 h:=(qAA k118 q 0 _ h).trans (e118_0 ..).symm
theorem k121:tab.get 121=some c121:=by kernel_rfl
theorem w121_0(S:Oracle)(q:Nat)(x0:TVal)(h:Heap):lim tab.get S 121 q 0 [x0] h=b121_0 (orc S (lim tab.get S)) (lim tab.get S 121 q) q x0 h:=(qAA k121 q 0 _ h).trans (e121_0 ..).symm
theorem k123:tab.get 123=some c123:=by kernel_rfl
theorem w123_0(S:Oracle)(q:Nat)(x0 x1 x2:TVal)(h:Heap):lim tab.get S 123 q 0 [x0,x1,x2] h=b123_0 (orc S (lim tab.get S)) (lim tab.get S 123 q) q x0 x1 x2 h:=(qAA k123 q 0 _ h).trans (e123_0 ..).symm
theorem k124:tab.get 124=some c124:=by kernel_rfl
theorem w124_0(S:Oracle)(q:Nat)(x0:TVal)(h:Heap):lim tab.get S 124 q 0 [x0] h=b124_0 (orc S (lim tab.get S)) (lim tab.get S 124 q) q x0 h:=(qAA k124 q 0 _ h).trans (e124_0 ..).symm
theorem k125:tab.get 125=some c125:=by kernel_rfl
theorem w125_0(S:Oracle)(q:Nat)(x0:TVal)(h:Heap):lim tab.get S 125 q 0 [x0] h=b125_0 (orc S (lim tab.get S)) (lim tab.get S 125 q) q x0 h:=(qAA k125 q 0 _ h).trans (e125_0 ..).symm
theorem w125_1(S:Oracle)(q:Nat)(x0 x1:TVal)(h:Heap):lim tab.get S 125 q 1 [x0,x1] h=b125_1 (orc S (lim tab.get S)) (lim tab.get S 125 q) q x0 x1 h:=(qAA k125 q 1 _ h).trans (e125_1 ..).symm
theorem w125_2(S:Oracle)(q:Nat)(x0 x1:TVal)(h:Heap):lim tab.get S 125 q 2 [x0,x1] h=b125_2 (orc S (lim tab.get S)) (lim tab.get S 125 q) q x0 x1 h:=(qAA k125 q 2 _ h).trans (e125_2 ..).symm
theorem w125_3(S:Oracle)(q:Nat)(x0 x1:TVal)(h:Heap):lim tab.get S 125 q 3 [x0,x1] h=b125_3 (orc S (lim tab.get S)) (lim tab.get S 125 q) q x0 x1 h:=(qAA k125 q 3 _ h).trans (e125_3 ..).symm
theorem k126:tab.get 126=some c126:=by kernel_rfl
theorem w126_0(S:Oracle)(q:Nat)(x0:TVal)(h:Heap):lim tab.get S 126 q 0 [x0] h=b126_0 (orc S (lim tab.get S)) (lim tab.get S 126 q) q x0 h:=(qAA k126 q 0 _ h).trans (e126_0 ..).symm
theorem k129:tab.get 129=some c129:=by kernel_rfl
theorem w129_0(S:Oracle)(q:Nat)(x0 x1:TVal)(h:Heap):lim tab.get S 129 q 0 [x0,x1] h=b129_0 (orc S (lim tab.get S)) (lim tab.get S 129 q) q x0 x1 h:=(qAA k129 q 0 _ h).trans (e129_0 ..).symm
theorem w129_1(S:Oracle)(q:Nat)(x0 x1 x2:TVal)(h:Heap):lim tab.get S 129 q 1 [x0,x1,x2] h=b129_1 (orc S (lim tab.get S)) (lim tab.get S 129 q) q x0 x1 x2 h:=(qAA k129 q 1 _ h).trans (e129_1 ..).symm
theorem w129_2(S:Oracle)(q:Nat)(x0:TVal)(h:Heap):lim tab.get S 129 q 2 [x0] h=b129_2 (orc S (lim tab.get S)) (lim tab.get S 129 q) q x0 h:=(qAA k129 q 2 _ h).trans (e129_2 ..).symm
theorem k130:tab.get 130=some c130:=by kernel_rfl
theorem w130_0(S:Oracle)(q:Nat)(x0:TVal)(h:Heap):lim tab.get S 130 q 0 [x0] h=b130_0 (orc S (lim tab.get S)) (lim tab.get S 130 q) q x0 h:=(qAA k130 q 0 _ h).trans (e130_0 ..).symm
theorem k131:tab.get 131=some c131:=by kernel_rfl
theorem w131_0(S:Oracle)(q:Nat)(x0:TVal)(h:Heap):lim tab.get S 131 q 0 [x0] h=b131_0 (orc S (lim tab.get S)) (lim tab.get S 131 q) q x0 h:=(qAA k131 q 0 _ h).trans (e131_0 ..).symm
theorem k133:tab.get 133=some c133:=by kernel_rfl
theorem w133_0(S:Oracle)(q:Nat)(x0 x1:TVal)(h:Heap):lim tab.get S 133 q 0 [x0,x1] h=b133_0 (orc S (lim tab.get S)) (lim tab.get S 133 q) q x0 x1 h:=(qAA k133 q 0 _ h).trans (e133_0 ..).symm
theorem w133_1(S:Oracle)(q:Nat)(x0 x1 x2 x3:TVal)(h:Heap):lim tab.get S 133 q 1 [x0,x1,x2,x3] h=b133_1 (orc S (lim tab.get S)) (lim tab.get S 133 q) q x0 x1 x2 x3 h:=(qAA k133 q 1 _ h).trans (e133_1 ..).symm
end Go.Proofs.YtlkejchbcchecaaGreatDoor.Ab
