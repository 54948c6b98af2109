/- The machine's equations,a piece at a time. Own work,printed by a program of our own; no condition. -/
import Derived.Test.YtiahgnkffnokfaaGreatDoorTabX
namespace Go.Proofs.YtiahgnkffnokfaaGreatDoor.Ab
open Go Go.AI
set_option linter.all false
set_option linter.unusedVariables false
set_option maxRecDepth 100000
theorem k8:tab.get 8=some c8:=by kernel_rfl
theorem w8_0(S:Oracle)(q:Nat)(x0 x1:TVal)(h:Heap):lim tab.get S 8 q 0 [x0,x1] h=b8_0 (orc S (lim tab.get S)) (lim tab.get S 8 q) q x0 x1 h:=(qAA k8 q 0 _ h).trans (e8_0 ..).symm
theorem k11:tab.get 11=some c11:=by kernel_rfl
theorem w11_0(S:Oracle)(q:Nat)(h:Heap):lim tab.get S 11 q 0 [] h=b11_0 (orc S (lim tab.get S)) (lim tab.get S 11 q) q  h:=(qAA k11 q 0 _ h).trans (e11_0 ..).symm
theorem k12:tab.get 12=some c12:=by kernel_rfl
theorem w12_0(S:Oracle)(q:Nat)(x0 x1:TVal)(h:Heap):lim tab.get S 12 q 0 [x0,x1] h=b12_0 (orc S (lim tab.get S)) (lim tab.get S 12 q) q x0 x1 h:=(qAA k12 q 0 _ h).trans (e12_0 ..).symm
theorem k13:tab.get 13=some c13:=by kernel_rfl
theorem w13_0(S:Oracle)(q:Nat)(x0:TVal)(h:Heap):lim tab.get S 13 q 0 [x0] h=b13_0 (orc S (lim tab.get S)) (lim tab.get S 13 q) q x0 h:=(qAA k13 q 0 _ h).trans (e13_0 ..).symm
theorem w13_1(S:Oracle)(q:Nat)(x0 x1 x2:TVal)(h:Heap):lim tab.get S 13 q 1 [x0,x1,x2] h=b13_1 (orc S (lim tab.get S)) (lim tab.get S 13 q) q x0 x1 x2 h:=(qAA k13 q 1 _ h).trans (e13_1 ..).symm
theorem w13_2(S:Oracle)(q:Nat)(x0 x1 x2:TVal)(h:Heap):lim tab.get S 13 q 2 [x0,x1,x2] h=b13_2 (orc S (lim tab.get S)) (lim tab.get S 13 q) q x0 x1 x2 h:=(qAA k13 q 2 _ h).trans (e13_2 ..).symm
theorem k14:tab.get 14=some c14:=by kernel_rfl
theorem w14_0(S:Oracle)(q:Nat)(x0:TVal)(h:Heap):lim tab.get S 14 q 0 [x0] h=b14_0 (orc S (lim tab.get S)) (lim tab.get S 14 q) q x0 h:=(qAA k14 q 0 _ h).trans (e14_0 ..).symm
theorem w14_1(S:Oracle)(q:Nat)(x0 x1 x2 x3:TVal)(h:Heap):lim tab.get S 14 q 1 [x0,x1,x2,x3] h=b14_1 (orc S (lim tab.get S)) (lim tab.get S 14 q) q x0 x1 x2 x3 h:=(qAA k14 q 1 _ h).trans (e14_1 ..).symm
theorem w14_2(S:Oracle)(q:Nat)(x0:TVal)(h:Heap):lim tab.get S 14 q 2 [x0] h=b14_2 (orc S (lim tab.get S)) (lim tab.get S 14 q) q x0 h:=(qAA k14 q 2 _ h).trans (e14_2 ..).symm
theorem w14_3(S:Oracle)(q:Nat)(x0 x1:TVal)(h:Heap):lim tab.get S 14 q 3 [x0,x1] h=b14_3 (orc S (lim tab.get S)) (lim tab.get S 14 q) q x0 x1 h:=(qAA k14 q 3 _ h).trans (e14_3 ..).symm
theorem w14_4(S:Oracle)(q:Nat)(x0 x1 x2 x3 x4:TVal)(h:Heap):lim tab.get S 14 q 4 [x0,x1,x2,x3,x4] h=b14_4 (orc S (lim tab.get S)) (lim tab.get S 14 q) q x0 x1 x2 x3 x4 h:=(qAA k14 q 4 _ h).trans (e14_4 ..).symm
theorem w14_5(S:Oracle)(q:Nat)(x0 x1 x2 x3 x4:TVal)(h:Heap):lim tab.get S 14 q 5 [x0,x1,x2,x3,x4] h=b14_5 (orc S (lim tab.get S)) (lim tab.get S 14 q) q x0 x1 x2 x3 x4 h:=(qAA k14 q 5 _ h).trans (e14_5 ..).symm
theorem w14_6(S:Oracle)(q:Nat)(x0:TVal)(h:Heap):lim tab.get S 14 q 6 [x0] h=b14_6 (orc S (lim tab.get S)) (lim tab.get S 14 q) q x0 h:=(qAA k14 q 6 _ h).trans (e14_6 ..).symm
theorem k15:tab.get 15=some c15:=by kernel_rfl
theorem w15_0(S:Oracle)(q:Nat)(x0 x1:TVal)(h:Heap):lim tab.get S 15 q 0 [x0,x1] h=b15_0 (orc S (lim tab.get S)) (lim tab.get S 15 q) q x0 x1 h:=(qAA k15 q 0 _ h).trans (e15_0 ..).symm
theorem w15_1(S:Oracle)(q:Nat)(x0 x1 x2:TVal)(h:Heap):lim tab.get S 15 q 1 [x0,x1,x2] h=b15_1 (orc S (lim tab.get S)) (lim tab.get S 15 q) q x0 x1 x2 h:=(qAA k15 q 1 _ h).trans (e15_1 ..).symm
theorem k16:tab.get 16=some c16:=by kernel_rfl
theorem w16_0(S:Oracle)(q:Nat)(x0 x1:TVal)(h:Heap):lim tab.get S 16 q 0 [x0,x1] h=b16_0 (orc S (lim tab.get S)) (lim tab.get S 16 q) q x0 x1 h:=(qAA k16 q 0 _ h).trans (e16_0 ..).symm
theorem w16_1(S:Oracle)(q:Nat)(x0 x1 x2 x3:TVal)(h:Heap):lim tab.get S 16 q 1 [x0,x1,x2,x3] h=b16_1 (orc S (lim tab.get S)) (lim tab.get S 16 q) q x0 x1 x2 x3 h:=(qAA k16 q 1 _ h).trans (e16_1 ..).symm
theorem w16_2(S:Oracle)(q:Nat)(x0 x1 x2 x3 x4:TVal)(h:Heap):lim tab.get S 16 q 2 [x0,x1,x2,x3,x4] h=b16_2 (orc S (lim tab.get S)) (lim tab.get S 16 q) q x0 x1 x2 x3 x4 h:=(qAA k16 q 2 _ h).trans (e16_2 ..).symm
theorem w16_3(S:Oracle)(q:Nat)(x0 x1 x2 x3 x4:TVal)(h:Heap):lim tab.get S 16 q 3 [x0,x1,x2,x3,x4] h=b16_3 (orc S (lim tab.get S)) (lim tab.get S 16 q) q x0 x1 x2 x3 x4 h:=(qAA k16 q 3 _ h).trans (e16_3 ..).symm
theorem w16_4(S:Oracle)(q:Nat)(x0 x1 x2 x3 x4 x5:TVal)(h:Heap):lim tab.get S 16 q 4 [x0,x1,x2,x3,x4,x5] h=b16_4 (orc S (lim tab.get S)) (lim tab.get S 16 q) q x0 x1 x2 x3 x4 x5 h:=(qAA k16 q 4 _ h).trans (e16_4 ..).symm
theorem w16_5(S:Oracle)(q:Nat)(x0 x1:TVal)(h:Heap):lim tab.get S 16 q 5 [x0,x1] h=b16_5 (orc S (lim tab.get S)) (lim tab.get S 16 q) q x0 x1 h:=(qAA k16 q 5 _ h).trans (e16_5 ..).symm
theorem k17:tab.get 17=some c17:=by kernel_rfl
theorem w17_0(S:Oracle)(q:Nat)(x0 x1:TVal)(h:Heap):lim tab.get S 17 q 0 [x0,x1] h=b17_0 (orc S (lim tab.get S)) (lim tab.get S 17 q) q x0 x1 h:=(qAA k17 q 0 _ h).trans (e17_0 ..).symm
theorem k20:tab.get 20=some c20:=by kernel_rfl
theorem w20_0(S:Oracle)(q:Nat)(x0 x1:TVal)(h:Heap):lim tab.get S 20 q 0 [x0,x1] h=b20_0 (orc S (lim tab.get S)) (lim tab.get S 20 q) q x0 x1 h:=(qAA k20 q 0 _ h).trans (e20_0 ..).symm
theorem w20_1(S:Oracle)(q:Nat)(x0 x1 x2:TVal)(h:Heap):lim tab.get S 20 q 1 [x0,x1,x2] h=b20_1 (orc S (lim tab.get S)) (lim tab.get S 20 q) q x0 x1 x2 h:=(qAA k20 q 1 _ h).trans (e20_1 ..).symm
theorem w20_2(S:Oracle)(q:Nat)(x0 x1:TVal)(h:Heap):lim tab.get S 20 q 2 [x0,x1] h=b20_2 (orc S (lim tab.get S)) (lim tab.get S 20 q) q x0 x1 h:=(qAA k20 q 2 _ h).trans (e20_2 ..).symm
theorem w20_3(S:Oracle)(q:Nat)(x0 x1 x2:TVal)(h:Heap):lim tab.get S 20 q 3 [x0,x1,x2] h=b20_3 (orc S (lim tab.get S)) (lim tab.get S 20 q) q x0 x1 x2 h:=(qAA k20 q 3 _ h).trans (e20_3 ..).symm
theorem k21:tab.get 21=some c21:=by kernel_rfl
theorem w21_0(S:Oracle)(q:Nat)(x0:TVal)(h:Heap):lim tab.get S 21 q 0 [x0] h=b21_0 (orc S (lim tab.get S)) (lim tab.get S 21 q) q x0 h:=(qAA k21 q 0 _ h).trans (e21_0 ..).symm
theorem w21_1(S:Oracle)(q:Nat)(x0 x1 x2:TVal)(h:Heap):lim tab.get S 21 q 1 [x0,x1,x2] h=b21_1 (orc S (lim tab.get S)) (lim tab.get S 21 q) q x0 x1 x2 h:=(qAA k21 q 1 _ h).trans (e21_1 ..).symm
theorem w21_2(S:Oracle)(q:Nat)(x0 x1 x2:TVal)(h:Heap):lim tab.get S 21 q 2 [x0,x1,x2] h=b21_2 (orc S (lim tab.get S)) (lim tab.get S 21 q) q x0 x1 x2 h:=(qAA k21 q 2 _ h).trans (e21_2 ..).symm
theorem w21_3(S:Oracle)(q:Nat)(x0:TVal)(h:Heap):lim tab.get S 21 q 3 [x0] h=b21_3 (orc S (lim tab.get S)) (lim tab.get S 21 q) q x0 h:=(qAA k21 q 3 _ h).trans (e21_3 ..).symm
theorem w21_4(S:Oracle)(q:Nat)(x0:TVal)(h:Heap):lim tab.get S 21 q 4 [x0] h=b21_4 (orc S (lim tab.get S)) (lim tab.get S 21 q) q x0 h:=(qAA k21 q 4 _ h).trans (e21_4 ..).symm
theorem w21_5(S:Oracle)(q:Nat)(x0 x1 x2:TVal)(h:Heap):lim tab.get S 21 q 5 [x0,x1,x2] h=b21_5 (orc S (lim tab.get S)) (lim tab.get S 21 q) q x0 x1 x2 h:=(qAA k21 q 5 _ h).trans (e21_5 ..).symm
theorem w21_6(S:Oracle)(q:Nat)(x0 x1 x2:TVal)(h:Heap):lim tab.get S 21 q 6 [x0,x1,x2] h=b21_6 (orc S (lim tab.get S)) (lim tab.get S 21 q) q x0 x1 x2 h:=(qAA k21 q 6 _ h).trans (e21_6 ..).symm
theorem w21_7(S:Oracle)(q:Nat)(x0:TVal)(h:Heap):lim tab.get S 21 q 7 [x0] h=b21_7 (orc S (lim tab.get S)) (lim tab.get S 21 q) q x0 h:=(qAA k21 q 7 _ h).trans (e21_7 ..).symm
theorem k24:tab.get 24=some c24:=by kernel_rfl
theorem w24_0(S:Oracle)(q:Nat)(x0:TVal)(h:Heap):lim tab.get S 24 q 0 [x0] h=b24_0 (orc S (lim tab.get S)) (lim tab.get S 24 q) q x0 h:=(qAA k24 q 0 _ h).trans (e24_0 ..).symm
theorem k26:tab.get 26=some c26:=by kernel_rfl
theorem w26_0(S:Oracle)(q:Nat)(x0 x1:TVal)(h:Heap):lim tab.get S 26 q 0 [x0,x1] h=b26_0 (orc S (lim tab.get S)) (lim tab.get S 26 q) q x0 x1 h:=(qAA k26 q 0 _ h).trans (e26_0 ..).symm
theorem k27:tab.get 27=some c27:=by kernel_rfl
theorem w27_0(S:Oracle)(q:Nat)(x0:TVal)(h:Heap):lim tab.get S 27 q 0 [x0] h=b27_0 (orc S (lim tab.get S)) (lim tab.get S 27 q) q x0 h:=(qAA k27 q 0 _ h).trans (e27_0 ..).symm
theorem k28:tab.get 28=some c28:=by kernel_rfl
theorem w28_0(S:Oracle)(q:Nat)(x0 x1:TVal)(h:Heap):lim tab.get S 28 q 0 [x0,x1] h=b28_0 (orc S (lim tab.get S)) (lim tab.get S 28 q) q x0 x1 h:=(qAA k28 q 0 _ h).trans (e28_0 ..).symm
theorem k29:tab.get 29=some c29:=by kernel_rfl
theorem w29_0(S:Oracle)(q:Nat)(x0:TVal)(h:Heap):lim tab.get S 29 q 0 [x0] h=b29_0 (orc S (lim tab.get S)) (lim tab.get S 29 q) q x0 h:=(qAA k29 q 0 _ h).trans (e29_0 ..).symm
theorem k30:tab.get 30=some c30:=by kernel_rfl
theorem w30_0(S:Oracle)(q:Nat)(x0 x1:TVal)(h:Heap):lim tab.get S 30 q 0 [x0,x1] h=b30_0 (orc S (lim tab.get S)) (lim tab.get S 30 q) q x0 x1 h:=(qAA k30 q 0 _ h).trans (e30_0 ..).symm
theorem k33:tab.get 33=some c33:=by kernel_rfl
theorem w33_0(S:Oracle)(q:Nat)(x0:TVal)(h:Heap):lim tab.get S 33 q 0 [x0] h=b33_0 (orc S (lim tab.get S)) (lim tab.get S 33 q) q x0 h:=(qAA k33 q 0 _ h).trans (e33_0 ..).symm
theorem w33_1(S:Oracle)(q:Nat)(x0 x1 x2:TVal)(h:Heap):lim tab.get S 33 q 1 [x0,x1,x2] h=b33_1 (orc S (lim tab.get S)) (lim tab.get S 33 q) q x0 x1 x2 h:=(qAA k33 q 1 _ h).trans (e33_1 ..).symm
theorem w33_2(S:Oracle)(q:Nat)(x0 x1 x2:TVal)(h:Heap):lim tab.get S 33 q 2 [x0,x1,x2] h=b33_2 (orc S (lim tab.get S)) (lim tab.get S 33 q) q x0 x1 x2 h:=(qAA k33 q 2 _ h).trans (e33_2 ..).symm
theorem k34:tab.get 34=some c34:=by kernel_rfl
theorem w34_0(S:Oracle)(q:Nat)(x0 x1 x2:TVal)(h:Heap):lim tab.get S 34 q 0 [x0,x1,x2] h=b34_0 (orc S (lim tab.get S)) (lim tab.get S 34 q) q x0 x1 x2 h:=(qAA k34 q 0 _ h).trans (e34_0 ..).symm
theorem w34_1(S:Oracle)(q:Nat)(x0 x1 x2 x3 x4:TVal)(h:Heap):lim tab.get S 34 q 1 [x0,x1,x2,x3,x4] h=b34_1 (orc S (lim tab.get S)) (lim tab.get S 34 q) q x0 x1 x2 x3 x4 h:=(qAA k34 q 1 _ h).trans (e34_1 ..).symm
theorem w34_2(S:Oracle)(q:Nat)(x0 x1 x2 x3 x4:TVal)(h:Heap):lim tab.get S 34 q 2 [x0,x1,x2,x3,x4] h=b34_2 (orc S (lim tab.get S)) (lim tab.get S 34 q) q x0 x1 x2 x3 x4 h:=(qAA k34 q 2 _ h).trans (e34_2 ..).symm
theorem k35:tab.get 35=some c35:=by kernel_rfl
theorem w35_0(S:Oracle)(q:Nat)(x0 x1:TVal)(h:Heap):lim tab.get S 35 q 0 [x0,x1] h=b35_0 (orc S (lim tab.get S)) (lim tab.get S 35 q) q x0 x1 h:=(qAA k35 q 0 _ h).trans (e35_0 ..).symm
theorem w35_1(S:Oracle)(q:Nat)(x0 x1 x2 x3:TVal)(h:Heap):lim tab.get S 35 q 1 [x0,x1,x2,x3] h=b35_1 (orc S (lim tab.get S)) (lim tab.get S 35 q) q x0 x1 x2 x3 h:=(qAA k35 q 1 _ h).trans (e35_1 ..).symm
theorem k36:tab.get 36=some c36:=by kernel_rfl
theorem w36_0(S:Oracle)(q:Nat)(x0 x1 x2:TVal)(h:Heap):lim tab.get S 36 q 0 [x0,x1,x2] h=b36_0 (orc S (lim tab.get S)) (lim tab.get S 36 q) q x0 x1 x2 h:=(qAA k36 q 0 _ h).trans (e36_0 ..).symm
theorem w36_1(S:Oracle)(q:Nat)(x0 x1 x2 x3 x4:TVal)(h:Heap):lim tab.get S 36 q 1 [x0,x1,x2,x3,x4] h=b36_1 (orc S (lim tab.get S)) (lim tab.get S 36 q) q x0 x1 x2 x3 x4 h:=(qAA k36 q 1 _ h).trans (e36_1 ..).symm
theorem k39:tab.get 39=some c39:=by kernel_rfl
theorem w39_0(S:Oracle)(q:Nat)(x0:TVal)(h:Heap):lim tab.get S 39 q 0 [x0] h=b39_0 (orc S (lim tab.get S)) (lim tab.get S 39 q) q x0 h:=(qAA k39 q 0 _ h).trans (e39_0 ..).symm
theorem w39_1(S:Oracle)(q:Nat)(x0 x1 x2:TVal)(h:Heap):lim tab.get S 39 q 1 [x0,x1,x2] h=b39_1 (orc S (lim tab.get S)) (lim tab.get S 39 q) q x0 x1 x2 h:=(qAA k39 q 1 _ h).trans (e39_1 ..).symm
theorem w39_2(S:Oracle)(q:Nat)(x0 x1 x2:TVal)(h:Heap):lim tab.get S 39 q 2 [x0,x1,x2] h=b39_2 (orc S (lim tab.get S)) (lim tab.get S 39 q) q x0 x1 x2 h:=(qAA k39 q 2 _ h).trans (e39_2 ..).symm
theorem w39_3(S:Oracle)(q:Nat)(x0 x1 x2 x3:TVal)(h:Heap):lim tab.get S 39 q 3 [x0,x1,x2,x3] h=b39_3 (orc S (lim tab.get S)) (lim tab.get S 39 q) q x0 x1 x2 x3 h:=(qAA k39 q 3 _ h).trans (e39_3 ..).symm
theorem w39_4(S:Oracle)(q:Nat)(x0 x1 x2 x3:TVal)(h:Heap):lim tab.get S 39 q 4 [x0,x1,x2,x3] h=b39_4 (orc S (lim tab.get S)) (lim tab.get S 39 q) q x0 x1 x2 x3 h:=(qAA k39 q 4 _ h).trans (e39_4 ..).symm
theorem w39_5(S:Oracle)(q:Nat)(x0 x1 x2:TVal)(h:Heap):lim tab.get S 39 q 5 [x0,x1,x2] h=b39_5 (orc S (lim tab.get S)) (lim tab.get S 39 q) q x0 x1 x2 h:=(qAA k39 q 5 _ h).trans (e39_5 ..).symm
theorem k40:tab.get 40=some c40:=by kernel_rfl
theorem w40_0(S:Oracle)(q:Nat)(x0:TVal)(h:Heap):lim tab.get S 40 q 0 [x0] h=b40_0 (orc S (lim tab.get S)) (lim tab.get S 40 q) q x0 h:=(qAA k40 q 0 _ h).trans (e40_0 ..).symm
theorem w40_1(S:Oracle)(q:Nat)(x0 x1 x2:TVal)(h:Heap):lim tab.get S 40 q 1 [x0,x1,x2] h=b40_1 (orc S (lim tab.get S)) (lim tab.get S 40 q) q x0 x1 x2 h:=(qAA k40 q 1 _ h).trans (e40_1 ..).symm
theorem w40_2(S:Oracle)(q:Nat)(x0 x1 x2 x3 x4:TVal)(h:Heap):lim tab.get S 40 q 2 [x0,x1,x2,x3,x4] h=b40_2 (orc S (lim tab.get S)) (lim tab.get S 40 q) q x0 x1 x2 x3 x4 h:=(qAA k40 q 2 _ h).trans (e40_2 ..).symm
theorem w40_3(S:Oracle)(q:Nat)(x0 x1 x2:TVal)(h:Heap):lim tab.get S 40 q 3 [x0,x1,x2] h=b40_3 (orc S (lim tab.get S)) (lim tab.get S 40 q) q x0 x1 x2 h:=(qAA k40 q 3 _ h).trans (e40_3 ..).symm
theorem w40_4(S:Oracle)(q:Nat)(x0:TVal)(h:Heap):lim tab.get S 40 q 4 [x0] h=b40_4 (orc S (lim tab.get S)) (lim tab.get S 40 q) q x0 h:=(qAA k40 q 4 _ h).trans (e40_4 ..).symm
theorem k44:tab.get 44=some c44:=by kernel_rfl
theorem w44_0(S:Oracle)(q:Nat)(x0 x1 x2:TVal)(h:Heap):lim tab.get S 44 q 0 [x0,x1,x2] h=b44_0 (orc S (lim tab.get S)) (lim tab.get S 44 q) q x0 x1 x2 h:=(qAA k44 q 0 _ h).trans (e44_0 ..).symm
theorem w44_1(S:Oracle)(q:Nat)(x0 x1 x2 x3 x4:TVal)(h:Heap):lim tab.get S 44 q 1 [x0,x1,x2,x3,x4] h=b44_1 (orc S (lim tab.get S)) (lim tab.get S 44 q) q x0 x1 x2 x3 x4 h:=(qAA k44 q 1 _ h).trans (e44_1 ..).symm
theorem k46:tab.get 46=some c46:=by kernel_rfl
theorem w46_0(S:Oracle)(q:Nat)(x0 x1:TVal)(h:Heap):lim tab.get S 46 q 0 [x0,x1] h=b46_0 (orc S (lim tab.get S)) (lim tab.get S 46 q) q x0 x1 h:=(qAA k46 q 0 _ h).trans (e46_0 ..).symm
theorem k47:tab.get 47=some c47:=by kernel_rfl
theorem w47_0(S:Oracle)(q:Nat)(x0:TVal)(h:Heap):lim tab.get S 47 q 0 [x0] h=b47_0 (orc S (lim tab.get S)) (lim tab.get S 47 q) q x0 h:=(qAA k47 q 0 _ h).trans (e47_0 ..).symm
theorem w47_1(S:Oracle)(q:Nat)(x0 x1 x2 x3:TVal)(h:Heap):lim tab.get S 47 q 1 [x0,x1,x2,x3] h=b47_1 (orc S (lim tab.get S)) (lim tab.get S 47 q) q x0 x1 x2 x3 h:=(qAA k47 q 1 _ h).trans (e47_1 ..).symm
theorem w47_2(S:Oracle)(q:Nat)(x0:TVal)(h:Heap):lim tab.get S 47 q 2 [x0] h=b47_2 (orc S (lim tab.get S)) (lim tab.get S 47 q) q x0 h:=(qAA k47 q 2 _ h).trans (e47_2 ..).symm
theorem k48:tab.get 48=some c48:=by kernel_rfl
theorem w48_0(S:Oracle)(q:Nat)(x0 x1:TVal)(h:Heap):lim tab.get S 48 q 0 [x0,x1] h=b48_0 (orc S (lim tab.get S)) (lim tab.get S 48 q) q x0 x1 h:=(qAA k48 q 0 _ h).trans (e48_0 ..).symm
theorem k49:tab.get 49=some c49:=by kernel_rfl
theorem w49_0(S:Oracle)(q:Nat)(x0:TVal)(h:Heap):lim tab.get S 49 q 0 [x0] h=b49_0 (orc S (lim tab.get S)) (lim tab.get S 49 q) q x0 h:=(qAA k49 q 0 _ h).trans (e49_0 ..).symm
theorem w49_1(S:Oracle)(q:Nat)(x0 x1 x2:TVal)(h:Heap):lim tab.get S 49 q 1 [x0,x1,x2] h=b49_1 (orc S (lim tab.get S)) (lim tab.get S 49 q) q x0 x1 x2 h:=(qAA k49 q 1 _ h).trans (e49_1 ..).symm
theorem w49_2(S:Oracle)(q:Nat)(x0 x1 x2:TVal)(h:Heap):lim tab.get S 49 q 2 [x0,x1,x2] h=b49_2 (orc S (lim tab.get S)) (lim tab.get S 49 q) q x0 x1 x2 h:=(qAA k49 q 2 _ h).trans (e49_2 ..).symm
theorem w49_3(S:Oracle)(q:Nat)(x0:TVal)(h:Heap):lim tab.get S 49 q 3 [x0] h=b49_3 (orc S (lim tab.get S)) (lim tab.get S 49 q) q x0 h:=(qAA k49 q 3 _ h).trans (e49_3 ..).symm
theorem k50:tab.get 50=some c50:=by kernel_rfl
theorem w50_0(S:Oracle)(q:Nat)(x0 x1 x2:TVal)(h:Heap):lim tab.get S 50 q 0 [x0,x1,x2] h=b50_0 (orc S (lim tab.get S)) (lim tab.get S 50 q) q x0 x1 x2 h:=(qAA k50 q 0 _ h).trans (e50_0 ..).symm
theorem w50_1(S:Oracle)(q:Nat)(x0 x1 x2:TVal)(h:Heap):lim tab.get S 50 q 1 [x0,x1,x2] h=b50_1 (orc S (lim tab.get S)) (lim tab.get S 50 q) q x0 x1 x2 h:=(qAA k50 q 1 _ h).trans (e50_1 ..).symm
theorem w50_2(S:Oracle)(q:Nat)(x0 x1:TVal)(h:Heap):lim tab.get S 50 q 2 [x0,x1] h=b50_2 (orc S (lim tab.get S)) (lim tab.get S 50 q) q x0 x1 h:=(qAA k50 q 2 _ h).trans (e50_2 ..).symm
theorem k51:tab.get 51=some c51:=by kernel_rfl
theorem w51_0(S:Oracle)(q:Nat)(x0 x1 x2:TVal)(h:Heap):lim tab.get S 51 q 0 [x0,x1,x2] h=b51_0 (orc S (lim tab.get S)) (lim tab.get S 51 q) q x0 x1 x2 h:=(qAA k51 q 0 _ h).trans (e51_0 ..).symm
theorem k52:tab.get 52=some c52:=by kernel_rfl
theorem w52_0(S:Oracle)(q:Nat)(x0 x1:TVal)(h:Heap):lim tab.get S 52 q 0 [x0,x1] h=b52_0 (orc S (lim tab.get S)) (lim tab.get S 52 q) q x0 x1 h:=(qAA k52 q 0 _ h).trans (e52_0 ..).symm
theorem w52_1(S:Oracle)(q:Nat)(x0 x1 x2 x3 x4 x5 x6:TVal)(h:Heap):lim tab.get S 52 q 1 [x0,x1,x2,x3,x4,x5,x6] h=b52_1 (orc S (lim tab.get S)) (lim tab.get S 52 q) q x0 x1 x2 x3 x4 x5 x6 h:=(qAA k52 q 1 _ h).trans (e52_1 ..).symm
theorem w52_2(S:Oracle)(q:Nat)(x0 x1 x2 x3 x4 x5 x6 x7:TVal)(h:Heap):lim tab.get S 52 q 2 [x0,x1,x2,x3,x4,x5,x6,x7] h=b52_2 (orc S (lim tab.get S)) (lim tab.get S 52 q) q x0 x1 x2 x3 x4 x5 x6 x7 h:=(qAA k52 q 2 _ h).trans (e52_2 ..).symm
theorem w52_3(S:Oracle)(q:Nat)(x0 x1:TVal)(h:Heap):lim tab.get S 52 q 3 [x0,x1] h=b52_3 (orc S (lim tab.get S)) (lim tab.get S 52 q) q x0 x1 h:=(qAA k52 q 3 _ h).trans (e52_3 ..).symm
theorem k53:tab.get 53=some c53:=by kernel_rfl
theorem w53_0(S:Oracle)(q:Nat)(x0:TVal)(h:Heap):lim tab.get S 53 q 0 [x0] h=b53_0 (orc S (lim tab.get S)) (lim tab.get S 53 q) q x0 h:=(qAA k53 q 0 _ h).trans (e53_0 ..).symm
theorem w53_1(S:Oracle)(q:Nat)(x0 x1 x2 x3:TVal)(h:Heap):lim tab.get S 53 q 1 [x0,x1,x2,x3] h=b53_1 (orc S (lim tab.get S)) (lim tab.get S 53 q) q x0 x1 x2 x3 h:=(qAA k53 q 1 _ h).trans (e53_1 ..).symm
theorem w53_2(S:Oracle)(q:Nat)(x0 x1 x2 x3 x4 x5:TVal)(h:Heap):lim tab.get S 53 q 2 [x0,x1,x2,x3,x4,x5] h=b53_2 (orc S (lim tab.get S)) (lim tab.get S 53 q) q x0 x1 x2 x3 x4 x5 h:=(qAA k53 q 2 _ h).trans (e53_2 ..).symm
theorem w53_3(S:Oracle)(q:Nat)(x0 x1 x2 x3 x4 x5 x6:TVal)(h:Heap):lim tab.get S 53 q 3 [x0,x1,x2,x3,x4,x5,x6] h=b53_3 (orc S (lim tab.get S)) (lim tab.get S 53 q) q x0 x1 x2 x3 x4 x5 x6 h:=(qAA k53 q 3 _ h).trans (e53_3 ..).symm
theorem w53_4(S:Oracle)(q:Nat)(x0 x1 x2 x3 x4 x5:TVal)(h:Heap):lim tab.get S 53 q 4 [x0,x1,x2,x3,x4,x5] h=b53_4 (orc S (lim tab.get S)) (lim tab.get S 53 q) q x0 x1 x2 x3 x4 x5 h:=(qAA k53 q 4 _ h).trans (e53_4 ..).symm
theorem w53_5(S:Oracle)(q:Nat)(x0 x1 x2 x3 x4:TVal)(h:Heap):lim tab.get S 53 q 5 [x0,x1,x2,x3,x4] h=b53_5 (orc S (lim tab.get S)) (lim tab.get S 53 q) q x0 x1 x2 x3 x4 h:=(qAA k53 q 5 _ h).trans (e53_5 ..).symm
theorem k54:tab.get 54=some c54:=by kernel_rfl
theorem w54_0(S:Oracle)(q:Nat)(x0 x1:TVal)(h:Heap):lim tab.get S 54 q 0 [x0,x1] h=b54_0 (orc S (lim tab.get S)) (lim tab.get S 54 q) q x0 x1 h:=(qAA k54 q 0 _ h).trans (e54_0 ..).symm
theorem k55:tab.get 55=some c55:=by kernel_rfl
theorem w55_0(S:Oracle)(q:Nat)(x0:TVal)(h:Heap):lim tab.get S 55 q 0 [x0] h=b55_0 (orc S (lim tab.get S)) (lim tab.get S 55 q) q x0 h:=(qAA k55 q 0 _ h).trans (e55_0 ..).symm
theorem k56:tab.get 56=some c56:=by kernel_rfl
theorem w56_0(S:Oracle)(q:Nat)(x0 x1:TVal)(h:Heap):lim tab.get S 56 q 0 [x0,x1] h=b56_0 (orc S (lim tab.get S)) (lim tab.get S 56 q) q x0 x1 h:=(qAA k56 q 0 _ h).trans (e56_0 ..).symm
theorem w56_1(S:Oracle)(q:Nat)(x0 x1 x2:TVal)(h:Heap):lim tab.get S 56 q 1 [x0,x1,x2] h=b56_1 (orc S (lim tab.get S)) (lim tab.get S 56 q) q x0 x1 x2 h:=(qAA k56 q 1 _ h).trans (e56_1 ..).symm
theorem k64:tab.get 64=some c64:=by kernel_rfl
theorem w64_0(S:Oracle)(q:Nat)(x0:TVal)(h:Heap):lim tab.get S 64 q 0 [x0] h=b64_0 (orc S (lim tab.get S)) (lim tab.get S 64 q) q x0 h:=(qAA k64 q 0 _ h).trans (e64_0 ..).symm
theorem w64_1(S:Oracle)(q:Nat)(x0 x1:TVal)(h:Heap):lim tab.get S 64 q 1 [x0,x1] h=b64_1 (orc S (lim tab.get S)) (lim tab.get S 64 q) q x0 x1 h:=(qAA k64 q 1 _ h).trans (e64_1 ..).symm
theorem w64_2(S:Oracle)(q:Nat)(x0 x1 x2:TVal)(h:Heap):lim tab.get S 64 q 2 [x0,x1,x2] h=b64_2 (orc S (lim tab.get S)) (lim tab.get S 64 q) q x0 x1 x2 h:=(qAA k64 q 2 _ h).trans (e64_2 ..).symm
theorem w64_3(S:Oracle)(q:Nat)(x0:TVal)(h:Heap):lim tab.get S 64 q 3 [x0] h=b64_3 (orc S (lim tab.get S)) (lim tab.get S 64 q) q x0 h:=(qAA k64 q 3 _ h).trans (e64_3 ..).symm
theorem k71:tab.get 71=some c71:=by kernel_rfl
theorem w71_0(S:Oracle)(q:Nat)(x0:TVal)(h:Heap):lim tab.get S 71 q 0 [x0] h=b71_0 (orc S (lim tab.get S)) (lim tab.get S 71 q) q x0 h:=(qAA k71 q 0 _ h).trans (e71_0 ..).symm
theorem w71_1(S:Oracle)(q:Nat)(x0:TVal)(h:Heap):lim tab.get S 71 q 1 [x0] h=b71_1 (orc S (lim tab.get S)) (lim tab.get S 71 q) q x0 h:=(qAA k71 q 1 _ h).trans (e71_1 ..).symm
theorem w71_2(S:Oracle)(q:Nat)(x0:TVal)(h:Heap):lim tab.get S 71 q 2 [x0] h=b71_2 (orc S (lim tab.get S)) (lim tab.get S 71 q) q x0 h:=(qAA k71 q 2 _ h).trans (e71_2 ..).symm
theorem k72:tab.get 72=some c72:=by kernel_rfl
theorem w72_0(S:Oracle)(q:Nat)(x0:TVal)(h:Heap):lim tab.get S 72 q 0 [x0] h=b72_0 (orc S (lim tab.get S)) (lim tab.get S 72 q) q x0 h:=(qAA k72 q 0 _ h).trans (e72_0 ..).symm
theorem w72_1(S:Oracle)(q:Nat)(x0 x1 x2:TVal)(h:Heap):lim tab.get S 72 q 1 [x0,x1,x2] h=b72_1 (orc S (lim tab.get S)) (lim tab.get S 72 q) q x0 x1 x2 h:=(qAA k72 q 1 _ h).trans (e72_1 ..).symm
theorem k74:tab.get 74=some c74:=by kernel_rfl
theorem w74_0(S:Oracle)(q:Nat)(x0 x1:TVal)(h:Heap):lim tab.get S 74 q 0 [x0,x1] h=b74_0 (orc S (lim tab.get S)) (lim tab.get S 74 q) q x0 x1 h:=(qAA k74 q 0 _ h).trans (e74_0 ..).symm
theorem k75:tab.get 75=some c75:=by kernel_rfl
theorem w75_0(S:Oracle)(q:Nat)(x0 x1:TVal)(h:Heap):lim tab.get S 75 q 0 [x0,x1] h=b75_0 (orc S (lim tab.get S)) (lim tab.get S 75 q) q x0 x1 h:=(qAA k75 q 0 _ h).trans (e75_0 ..).symm
theorem k76:tab.get 76=some c76:=by kernel_rfl
theorem w76_0(S:Oracle)(q:Nat)(x0:TVal)(h:Heap):lim tab.get S 76 q 0 [x0] h=b76_0 (orc S (lim tab.get S)) (lim tab.get S 76 q) q x0 h:=(qAA k76 q 0 _ h).trans (e76_0 ..).symm
theorem w76_1(S:Oracle)(q:Nat)(x0 x1:TVal)(h:Heap):lim tab.get S 76 q 1 [x0,x1] h=b76_1 (orc S (lim tab.get S)) (lim tab.get S 76 q) q x0 x1 h:=(qAA k76 q 1 _ h).trans (e76_1 ..).symm
theorem w76_2(S:Oracle)(q:Nat)(x0:TVal)(h:Heap):lim tab.get S 76 q 2 [x0] h=b76_2 (orc S (lim tab.get S)) (lim tab.get S 76 q) q x0 h:=(qAA k76 q 2 _ h).trans (e76_2 ..).symm
theorem k77:tab.get 77=some c77:=by kernel_rfl
theorem w77_0(S:Oracle)(q:Nat)(x0 x1:TVal)(h:Heap):lim tab.get S 77 q 0 [x0,x1] h=b77_0 (orc S (lim tab.get S)) (lim tab.get S 77 q) q x0 x1 h:=(qAA k77 q 0 _ h).trans (e77_0 ..).symm
theorem k78:tab.get 78=some c78:=by kernel_rfl
theorem w78_0(S:Oracle)(q:Nat)(x0:TVal)(h:Heap):lim tab.get S 78 q 0 [x0] h=b78_0 (orc S (lim tab.get S)) (lim tab.get S 78 q) q x0 h:=(qAA k78 q 0 _ h).trans (e78_0 ..).symm
theorem w78_1(S:Oracle)(q:Nat)(x0 x1:TVal)(h:Heap):lim tab.get S 78 q 1 [x0,x1] h=b78_1 (orc S (lim tab.get S)) (lim tab.get S 78 q) q x0 x1 h:=(qAA k78 q 1 _ h).trans (e78_1 ..).symm
theorem k79:tab.get 79=some c79:=by kernel_rfl
theorem w79_0(S:Oracle)(q:Nat)(x0 x1:TVal)(h:Heap):lim tab.get S 79 q 0 [x0,x1] h=b79_0 (orc S (lim tab.get S)) (lim tab.get S 79 q) q x0 x1 h:=(qAA k79 q 0 _ h).trans (e79_0 ..).symm
theorem k80:tab.get 80=some c80:=by kernel_rfl
theorem w80_0(S:Oracle)(q:Nat)(x0 x1 x2:TVal)(h:Heap):lim tab.get S 80 q 0 [x0,x1,x2] h=b80_0 (orc S (lim tab.get S)) (lim tab.get S 80 q) q x0 x1 x2 h:=(qAA k80 q 0 _ h).trans (e80_0 ..).symm
theorem k81:tab.get 81=some c81:=by kernel_rfl
theorem w81_0(S:Oracle)(q:Nat)(x0 x1:TVal)(h:Heap):lim tab.get S 81 q 0 [x0,x1] h=b81_0 (orc S (lim tab.get S)) (lim tab.get S 81 q) q x0 x1 h:=(qAA k81 q 0 _ h).trans (e81_0 ..).symm
theorem k82:tab.get 82=some c82:=by kernel_rfl
theorem w82_0(S:Oracle)(q:Nat)(x0 x1:TVal)(h:Heap):lim tab.get S 82 q 0 [x0,x1] h=b82_0 (orc S (lim tab.get S)) (lim tab.get S 82 q) q x0 x1 h:=(qAA k82 q 0 _ h).trans (e82_0 ..).symm
theorem k83:tab.get 83=some c83:=by kernel_rfl
theorem w83_0(S:Oracle)(q:Nat)(x0 x1:TVal)(h:Heap):lim tab.get S 83 q 0 [x0,x1] h=b83_0 (orc S (lim tab.get S)) (lim tab.get S 83 q) q x0 x1 h:=(qAA k83 q 0 _ h).trans (e83_0 ..).symm
theorem k84:tab.get 84=some c84:=by kernel_rfl
theorem w84_0(S:Oracle)(q:Nat)(x0 x1:TVal)(h:Heap):lim tab.get S 84 q 0 [x0,x1] h=b84_0 (orc S (lim tab.get S)) (lim tab.get S 84 q) q x0 x1 h:=(qAA k84 q 0 _ h).trans (e84_0 ..).symm
theorem w84_1(S:Oracle)(q:Nat)(x0 x1:TVal)(h:Heap):lim tab.get S 84 q 1 [x0,x1] h=b84_1 (orc S (lim tab.get S)) (lim tab.get S 84 q) q x0 x1 h:=(qAA k84 q 1 _ h).trans (e84_1 ..).symm
theorem k85:tab.get 85=some c85:=by kernel_rfl
theorem w85_0(S:Oracle)(q:Nat)(x0:TVal)(h:Heap):lim tab.get S 85 q 0 [x0] h=b85_0 (orc S (lim tab.get S)) (lim tab.get S 85 q) q x0 h:=(qAA k85 q 0 _ h).trans (e85_0 ..).symm
theorem w85_1(S:Oracle)(q:Nat)(x0 x1 x2:TVal)(h:Heap):lim tab.get S 85 q 1 [x0,x1,x2] h=b85_1 (orc S (lim tab.get S)) (lim tab.get S 85 q) q x0 x1 x2 h:=(qAA k85 q 1 _ h).trans (e85_1 ..).symm
theorem w85_2(S:Oracle)(q:Nat)(x0:TVal)(h:Heap):lim tab.get S 85 q 2 [x0] h=b85_2 (orc S (lim tab.get S)) (lim tab.get S 85 q) q x0 h:=(qAA k85 q 2 _ h).trans (e85_2 ..).symm
theorem k86:tab.get 86=some c86:=by kernel_rfl
theorem w86_0(S:Oracle)(q:Nat)(x0 x1:TVal)(h:Heap):lim tab.get S 86 q 0 [x0,x1] h=b86_0 (orc S (lim tab.get S)) (lim tab.get S 86 q) q x0 x1 h:=(qAA k86 q 0 _ h).trans (e86_0 ..).symm
theorem w86_1(S:Oracle)(q:Nat)(x0 x1:TVal)(h:Heap):lim tab.get S 86 q 1 [x0,x1] h=b86_1 (orc S (lim tab.get S)) (lim tab.get S 86 q) q x0 x1 h:=(qAA k86 q 1 _ h).trans (e86_1 ..).symm
theorem k88:tab.get 88=some c88:=by kernel_rfl
theorem w88_0(S:Oracle)(q:Nat)(x0:TVal)(h:Heap):lim tab.get S 88 q 0 [x0] h=b88_0 (orc S (lim tab.get S)) (lim tab.get S 88 q) q x0 h:=(qAA k88 q 0 _ h).trans (e88_0 ..).symm
theorem k89:tab.get 89=some c89:=by kernel_rfl
theorem w89_0(S:Oracle)(q:Nat)(x0:TVal)(h:Heap):lim tab.get S 89 q 0 [x0] h=b89_0 (orc S (lim tab.get S)) (lim tab.get S 89 q) q x0 h:=(qAA k89 q 0 _ h).trans (e89_0 ..).symm
theorem k90:tab.get 90=some c90:=by kernel_rfl
theorem w90_0(S:Oracle)(q:Nat)(x0 x1:TVal)(h:Heap):lim tab.get S 90 q 0 [x0,x1] h=b90_0 (orc S (lim tab.get S)) (lim tab.get S 90 q) q x0 x1 h:=(qAA k90 q 0 _ h).trans (e90_0 ..).symm
theorem w90_1(S:Oracle)(q:Nat)(x0 x1 x2:TVal)(h:Heap):lim tab.get S 90 q 1 [x0,x1,x2] h=b90_1 (orc S (lim tab.get S)) (lim tab.get S 90 q) q x0 x1 x2 h:=(qAA k90 q 1 _ h).trans (e90_1 ..).symm
theorem w90_2(S:Oracle)(q:Nat)(x0 x1 x2:TVal)(h:Heap):lim tab.get S 90 q 2 [x0,x1,x2] h=b90_2 (orc S (lim tab.get S)) (lim tab.get S 90 q) q x0 x1 x2 h:=(qAA k90 q 2 _ h).trans (e90_2 ..).symm
theorem w90_3(S:Oracle)(q:Nat)(x0 x1 x2:TVal)(h:Heap):lim tab.get S 90 q 3 [x0,x1,x2] h=b90_3 (orc S (lim tab.get S)) (lim tab.get S 90 q) q x0 x1 x2 h:=(qAA k90 q 3 _ h).trans (e90_3 ..).symm
theorem w90_4(S:Oracle)(q:Nat)(x0 x1 x2:TVal)(h:Heap):lim tab.get S 90 q 4 [x0,x1,x2] h=b90_4 (orc S (lim tab.get S)) (lim tab.get S 90 q) q x0 x1 x2 h:=(qAA k90 q 4 _ h).trans (e90_4 ..).symm
theorem k96:tab.get 96=some c96:=by kernel_rfl
theorem w96_0(S:Oracle)(q:Nat)(x0:TVal)(h:Heap):lim tab.get S 96 q 0 [x0] h=b96_0 (orc S (lim tab.get S)) (lim tab.get S 96 q) q x0 h:=(qAA k96 q 0 _ h).trans (e96_0 ..).symm
theorem k100:tab.get 100=some c100:=by kernel_rfl
theorem w100_0(S:Oracle)(q:Nat)(x0 x1:TVal)(h:Heap):lim tab.get S 100 q 0 [x0,x1] h=b100_0 (orc S (lim tab.get S)) (lim tab.get S 100 q) q x0 x1 h:=(qAA k100 q 0 _ h).trans (e100_0 ..).symm
theorem k101:tab.get 101=some c101:=by kernel_rfl
theorem w101_0(S:Oracle)(q:Nat)(x0:TVal)(h:Heap):lim tab.get S 101 q 0 [x0] h=b101_0 (orc S (lim tab.get S)) (lim tab.get S 101 q) q x0 h:=(qAA k101 q 0 _ h).trans (e101_0 ..).symm
theorem k103:tab.get 103=some c103:=by kernel_rfl
theorem w103_0(S:Oracle)(q:Nat)(x0 x1:TVal)(h:Heap):lim tab.get S 103 q 0 [x0,x1] h=b103_0 (orc S (lim tab.get S)) (lim tab.get S 103 q) q x0 x1 h:=(qAA k103 q 0 _ h).trans (e103_0 ..).symm
theorem k104:tab.get 104=some c104:=by kernel_rfl
theorem w104_0(S:Oracle)(q:Nat)(x0 x1:TVal)(h:Heap):lim tab.get S 104 q 0 [x0,x1] h=b104_0 (orc S (lim tab.get S)) (lim tab.get S 104 q) q x0 x1 h:=(qAA k104 q 0 _ h).trans (e104_0 ..).symm
theorem k105:tab.get 105=some c105:=by kernel_rfl
theorem w105_0(S:Oracle)(q:Nat)(x0 x1 x2:TVal)(h:Heap):lim tab.get S 105 q 0 [x0,x1,x2] h=b105_0 (orc S (lim tab.get S)) (lim tab.get S 105 q) q x0 x1 x2 h:=(qAA k105 q 0 _ h).trans (e105_0 ..).symm
theorem w105_1(S:Oracle)(q:Nat)(x0 x1 x2 x3 x4 x5:TVal)(h:Heap):lim tab.get S 105 q 1 [x0,x1,x2,x3,x4,x5] h=b105_1 (orc S (lim tab.get S)) (lim tab.get S 105 q) q x0 x1 x2 x3 x4 x5 h:=(qAA k105 q 1 _ h).trans (e105_1 ..).symm
theorem w105_2(S:Oracle)(q:Nat)(x0 x1 x2 x3 x4:TVal)(h:Heap):lim tab.get S 105 q 2 [x0,x1,x2,x3,x4] h=b105_2 (orc S (lim tab.get S)) (lim tab.get S 105 q) q x0 x1 x2 x3 x4 h:=(qAA k105 q 2 _ h).trans (e105_2 ..).symm
theorem w105_3(S:Oracle)(q:Nat)(x0 x1 x2 x3:TVal)(h:Heap):lim tab.get S 105 q 3 [x0,x1,x2,x3] h=b105_3 (orc S (lim tab.get S)) (lim tab.get S 105 q) q x0 x1 x2 x3 h:=(qAA k105 q 3 _ h).trans (e105_3 ..).symm
theorem w105_4(S:Oracle)(q:Nat)(x0 x1 x2 x3 x4 x5:TVal)(h:Heap):lim tab.get S 105 q 4 [x0,x1,x2,x3,x4,x5] h=b105_4 (orc S (lim tab.get S)) (lim tab.get S 105 q) q x0 x1 x2 x3 x4 x5 h:=(qAA k105 q 4 _ h).trans (e105_4 ..).symm
theorem w105_5(S:Oracle)(q:Nat)(x0 x1 x2 x3 x4:TVal)(h:Heap):lim tab.get S 105 q 5 [x0,x1,x2,x3,x4] h=b105_5 (orc S (lim tab.get S)) (lim tab.get S 105 q) q x0 x1 x2 x3 x4 h:=(qAA k105 q 5 _ h).trans (e105_5 ..).symm
theorem w105_6(S:Oracle)(q:Nat)(x0 x1 x2 x3:TVal)(h:Heap):lim tab.get S 105 q 6 [x0,x1,x2,x3] h=b105_6 (orc S (lim tab.get S)) (lim tab.get S 105 q) q x0 x1 x2 x3 h:=(qAA k105 q 6 _ h).trans (e105_6 ..).symm
theorem k106:tab.get 106=some c106:=by kernel_rfl
theorem w106_0(S:Oracle)(q:Nat)(x0:TVal)(h:Heap):lim tab.get S 106 q 0 [x0] h=b106_0 (orc S (lim tab.get S)) (lim tab.get S 106 q) q x0 h:=(qAA k106 q 0 _ h).trans (e106_0 ..).symm
theorem k107:tab.get 107=some c107:=by kernel_rfl
theorem w107_0(S:Oracle)(q:Nat)(x0 x1:TVal)(h:Heap):lim tab.get S 107 q 0 [x0,x1] h=b107_0 (orc S (lim tab.get S)) (lim tab.get S 107 q) q x0 x1 h:=(qAA k107 q 0 _ h).trans (e107_0 ..).symm
theorem k110:tab.get 110=some c110:=by kernel_rfl
theorem w110_0(S:Oracle)(q:Nat)(x0:TVal)(h:Heap):lim tab.get S 110 q 0 [x0] h=b110_0 (orc S (lim tab.get S)) (lim tab.get S 110 q) q x0 h:=(qAA k110 q 0 _ h).trans (e110_0 ..).symm
theorem k111:tab.get 111=some c111:=by kernel_rfl
theorem w111_0(S:Oracle)(q:Nat)(x0:TVal)(h:Heap):lim tab.get S 111 q 0 [x0] h=b111_0 (orc S (lim tab.get S)) (lim tab.get S 111 q) q x0 h:=(qAA k111 q 0 _ h).trans (e111_0 ..).symm
theorem w111_1(S:Oracle)(q:Nat)(x0 x1:TVal)(h:Heap):lim tab.get S 111 q 1 [x0,x1] h=b111_1 (orc S (lim tab.get S)) (lim tab.get S 111 q) q x0 x1 h:=(qAA k111 q 1 _ h).trans (e111_1 ..).symm
theorem w111_2(S:Oracle)(q:Nat)(x0 x1:TVal)(h:Heap):lim tab.get S 111 q 2 [x0,x1] h=b111_2 (orc S (lim tab.get S)) (lim tab.get S 111 q) q x0 x1 h:=(qAA k111 q 2 _ h).trans (e111_2 ..).symm
theorem w111_3(S:Oracle)(q:Nat)(x0 x1:TVal)(h:Heap):lim tab.get S 111 q 3 [x0,x1] h=b111_3 (orc S (lim tab.get S)) (lim tab.get S 111 q) q x0 x1 h:=(qAA k111 q 3 _ h).trans (e111_3 ..).symm
theorem k112:tab.get 112=some c112:=by kernel_rfl
theorem w112_0(S:Oracle)(q:Nat)(x0:TVal)(h:Heap):lim tab.get S 112 q 0 [x0] h=b112_0 (orc S (lim tab.get S)) (lim tab.get S 112 q) q x0 h:=(qAA k112 q 0 _ h).trans (e112_0 ..).symm
theorem k120:tab.get 120=some c120:=by kernel_rfl
theorem w120_0(S:Oracle)(q:Nat)(x0 x1:TVal)(h:Heap):lim tab.get S 120 q 0 [x0,x1] h=b120_0 (orc S (lim tab.get S)) (lim tab.get S 120 q) q x0 x1 h:=(qAA k120 q 0 _ h).trans (e120_0 ..).symm
theorem w120_1(S:Oracle)(q:Nat)(x0 x1 x2 x3:TVal)(h:Heap):lim tab.get S 120 q 1 [x0,x1,x2,x3] h=b120_1 (orc S (lim tab.get S)) (lim tab.get S 120 q) q x0 x1 x2 x3 h:=(qAA k120 q 1 _ h).trans (e120_1 ..).symm
theorem k125:tab.get 125=some c125:=by kernel_rfl
theorem w125_0(S:Oracle)(q:Nat)(x0 x1 x2 x3:TVal)(h:Heap):lim tab.get S 125 q 0 [x0,x1,x2,x3] h=b125_0 (orc S (lim tab.get S)) (lim tab.get S 125 q) q x0 x1 x2 x3 h:=(qAA k125 q 0 _ h).trans (e125_0 ..).symm
theorem w125_1(S:Oracle)(q:Nat)(x0 x1 x2 x3 x4:TVal)(h:Heap):lim tab.get S 125 q 1 [x0,x1,x2,x3,x4] h=b125_1 (orc S (lim tab.get S)) (lim tab.get S 125 q) q x0 x1 x2 x3 x4 h:=(qAA k125 q 1 _ h).trans (e125_1 ..).symm
theorem w125_2(S:Oracle)(q:Nat)(x0 x1 x2 x3 x4 x5:TVal)(h:Heap):lim tab.get S 125 q 2 [x0,x1,x2,x3,x4,x5] h=b125_2 (orc S (lim tab.get S)) (lim tab.get S 125 q) q x0 x1 x2 x3 x4 x5 h:=(qAA k125 q 2 _ h).trans (e125_2 ..).symm
theorem w125_3(S:Oracle)(q:Nat)(x0 x1 x2 x3 x4:TVal)(h:Heap):lim tab.get S 125 q 3 [x0,x1,x2,x3,x4] h=b125_3 (orc S (lim tab.get S)) (lim tab.get S 125 q) q x0 x1 x2 x3 x4 h:=(qAA k125 q 3 _ h).trans (e125_3 ..).symm
end Go.Proofs.YtiahgnkffnokfaaGreatDoor.Ab
