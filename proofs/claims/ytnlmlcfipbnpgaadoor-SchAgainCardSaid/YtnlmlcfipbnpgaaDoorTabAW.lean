/- The machine's equations,a piece at a time. Own work,printed by a program of our own; no condition. -/
import Derived.Test.YtnlmlcfipbnpgaaDoorTabA
namespace Go.Proofs.YtnlmlcfipbnpgaaDoor.Ab
open Go Go.AI
set_option linter.all false
set_option linter.unusedVariables false
set_option maxRecDepth 100000
theorem k4:tab.get 4=some c4:=by kernel_rfl
theorem w4_0(S:Oracle)(q:Nat)(x0 x1:TVal)(h:Heap):lim tab.get S 4 q 0 [x0,x1] h=b4_0 (orc S (lim tab.get S)) (lim tab.get S 4 q) q x0 x1 h:=(qAA k4 q 0 _ h).trans (e4_0 ..).symm
theorem w4_1(S:Oracle)(q:Nat)(x0 x1:TVal)(h:Heap):lim tab.get S 4 q 1 [x0,x1] h=b4_1 (orc S (lim tab.get S)) (lim tab.get S 4 q) q x0 x1 h:=(qAA k4 q 1 _ h).trans (e4_1 ..).symm
theorem w4_2(S:Oracle)(q:Nat)(x0 x1:TVal)(h:Heap):lim tab.get S 4 q 2 [x0,x1] h=b4_2 (orc S (lim tab.get S)) (lim tab.get S 4 q) q x0 x1 h:=(qAA k4 q 2 _ h).trans (e4_2 ..).symm
theorem k10:tab.get 10=some c10:=by kernel_rfl
theorem w10_0(S:Oracle)(q:Nat)(h:Heap):lim tab.get S 10 q 0 [] h=b10_0 (orc S (lim tab.get S)) (lim tab.get S 10 q) q  h:=(qAA k10 q 0 _ h).trans (e10_0 ..).symm
theorem k11:tab.get 11=some c11:=by kernel_rfl
theorem w11_0(S:Oracle)(q:Nat)(x0 x1:TVal)(h:Heap):lim tab.get S 11 q 0 [x0,x1] h=b11_0 (orc S (lim tab.get S)) (lim tab.get S 11 q) q x0 x1 h:=(qAA k11 q 0 _ h).trans (e11_0 ..).symm
theorem w11_1(S:Oracle)(q:Nat)(x0 x1 x2:TVal)(h:Heap):lim tab.get S 11 q 1 [x0,x1,x2] h=b11_1 (orc S (lim tab.get S)) (lim tab.get S 11 q) q x0 x1 x2 h:=(qAA k11 q 1 _ h).trans (e11_1 ..).symm
theorem k12:tab.get 12=some c12:=by kernel_rfl
theorem w12_0(S:Oracle)(q:Nat)(x0 x1 x2:TVal)(h:Heap):lim tab.get S 12 q 0 [x0,x1,x2] h=b12_0 (orc S (lim tab.get S)) (lim tab.get S 12 q) q x0 x1 x2 h:=(qAA k12 q 0 _ h).trans (e12_0 ..).symm
theorem w12_1(S:Oracle)(q:Nat)(x0 x1 x2 x3 x4:TVal)(h:Heap):lim tab.get S 12 q 1 [x0,x1,x2,x3,x4] h=b12_1 (orc S (lim tab.get S)) (lim tab.get S 12 q) q x0 x1 x2 x3 x4 h:=(qAA k12 q 1 _ h).trans (e12_1 ..).symm
theorem w12_2(S:Oracle)(q:Nat)(x0 x1 x2 x3 x4 x5 x6 x7:TVal)(h:Heap):lim tab.get S 12 q 2 [x0,x1,x2,x3,x4,x5,x6,x7] h=b12_2 (orc S (lim tab.get S)) (lim tab.get S 12 q) q x0 x1 x2 x3 x4 x5 x6 x7 h:=(qAA k12 q 2 _ h).trans (e12_2 ..).symm
theorem w12_3(S:Oracle)(q:Nat)(x0 x1 x2 x3 x4 x5 x6:TVal)(h:Heap):lim tab.get S 12 q 3 [x0,x1,x2,x3,x4,x5,x6] h=b12_3 (orc S (lim tab.get S)) (lim tab.get S 12 q) q x0 x1 x2 x3 x4 x5 x6 h:=(qAA k12 q 3 _ h).trans (e12_3 ..).symm
theorem w12_4(S:Oracle)(q:Nat)(x0 x1 x2 x3 x4 x5 x6:TVal)(h:Heap):lim tab.get S 12 q 4 [x0,x1,x2,x3,x4,x5,x6] h=b12_4 (orc S (lim tab.get S)) (lim tab.get S 12 q) q x0 x1 x2 x3 x4 x5 x6 h:=(qAA k12 q 4 _ h).trans (e12_4 ..).symm
theorem w12_5(S:Oracle)(q:Nat)(x0 x1 x2 x3 x4 x5 x6 x7:TVal)(h:Heap):lim tab.get S 12 q 5 [x0,x1,x2,x3,x4,x5,x6,x7] h=b12_5 (orc S (lim tab.get S)) (lim tab.get S 12 q) q x0 x1 x2 x3 x4 x5 x6 x7 h:=(qAA k12 q 5 _ h).trans (e12_5 ..).symm
theorem w12_6(S:Oracle)(q:Nat)(x0 x1:TVal)(h:Heap):lim tab.get S 12 q 6 [x0,x1] h=b12_6 (orc S (lim tab.get S)) (lim tab.get S 12 q) q x0 x1 h:=(qAA k12 q 6 _ h).trans (e12_6 ..).symm
theorem k14:tab.get 14=some c14:=by kernel_rfl
theorem w14_0(S:Oracle)(q:Nat)(x0:TVal)(h:Heap):lim tab.get S 14 q 0 [x0] h=b14_0 (orc S (lim tab.get S)) (lim tab.get S 14 q) q x0 h:=(qAA k14 q 0 _ h).trans (e14_0 ..).symm
theorem w14_1(S:Oracle)(q:Nat)(x0 x1 x2 x3:TVal)(h:Heap):lim tab.get S 14 q 1 [x0,x1,x2,x3] h=b14_1 (orc S (lim tab.get S)) (lim tab.get S 14 q) q x0 x1 x2 x3 h:=(qAA k14 q 1 _ h).trans (e14_1 ..).symm
theorem k15:tab.get 15=some c15:=by kernel_rfl
theorem w15_0(S:Oracle)(q:Nat)(x0:TVal)(h:Heap):lim tab.get S 15 q 0 [x0] h=b15_0 (orc S (lim tab.get S)) (lim tab.get S 15 q) q x0 h:=(qAA k15 q 0 _ h).trans (e15_0 ..).symm
theorem w15_1(S:Oracle)(q:Nat)(x0 x1 x2 x3:TVal)(h:Heap):lim tab.get S 15 q 1 [x0,x1,x2,x3] h=b15_1 (orc S (lim tab.get S)) (lim tab.get S 15 q) q x0 x1 x2 x3 h:=(qAA k15 q 1 _ h).trans (e15_1 ..).symm
theorem k16:tab.get 16=some c16:=by kernel_rfl
theorem w16_0(S:Oracle)(q:Nat)(x0:TVal)(h:Heap):lim tab.get S 16 q 0 [x0] h=b16_0 (orc S (lim tab.get S)) (lim tab.get S 16 q) q x0 h:=(qAA k16 q 0 _ h).trans (e16_0 ..).symm
theorem k17:tab.get 17=some c17:=by kernel_rfl
theorem w17_0(S:Oracle)(q:Nat)(x0 x1:TVal)(h:Heap):lim tab.get S 17 q 0 [x0,x1] h=b17_0 (orc S (lim tab.get S)) (lim tab.get S 17 q) q x0 x1 h:=(qAA k17 q 0 _ h).trans (e17_0 ..).symm
theorem w17_1(S:Oracle)(q:Nat)(x0 x1 x2:TVal)(h:Heap):lim tab.get S 17 q 1 [x0,x1,x2] h=b17_1 (orc S (lim tab.get S)) (lim tab.get S 17 q) q x0 x1 x2 h:=(qAA k17 q 1 _ h).trans (e17_1 ..).symm
theorem w17_2(S:Oracle)(q:Nat)(x0 x1:TVal)(h:Heap):lim tab.get S 17 q 2 [x0,x1] h=b17_2 (orc S (lim tab.get S)) (lim tab.get S 17 q) q x0 x1 h:=(qAA k17 q 2 _ h).trans (e17_2 ..).symm
theorem w17_3(S:Oracle)(q:Nat)(x0 x1 x2:TVal)(h:Heap):lim tab.get S 17 q 3 [x0,x1,x2] h=b17_3 (orc S (lim tab.get S)) (lim tab.get S 17 q) q x0 x1 x2 h:=(qAA k17 q 3 _ h).trans (e17_3 ..).symm
theorem k19:tab.get 19=some c19:=by kernel_rfl
theorem w19_0(S:Oracle)(q:Nat)(x0 x1:TVal)(h:Heap):lim tab.get S 19 q 0 [x0,x1] h=b19_0 (orc S (lim tab.get S)) (lim tab.get S 19 q) q x0 x1 h:=(qAA k19 q 0 _ h).trans (e19_0 ..).symm
theorem k21:tab.get 21=some c21:=by kernel_rfl
theorem w21_0(S:Oracle)(q:Nat)(x0:TVal)(h:Heap):lim tab.get S 21 q 0 [x0] h=b21_0 (orc S (lim tab.get S)) (lim tab.get S 21 q) q x0 h:=(qAA k21 q 0 _ h).trans (e21_0 ..).symm
theorem k27:tab.get 27=some c27:=by kernel_rfl
theorem w27_0(S:Oracle)(q:Nat)(x0 x1:TVal)(h:Heap):lim tab.get S 27 q 0 [x0,x1] h=b27_0 (orc S (lim tab.get S)) (lim tab.get S 27 q) q x0 x1 h:=(qAA k27 q 0 _ h).trans (e27_0 ..).symm
theorem k28:tab.get 28=some c28:=by kernel_rfl
theorem w28_0(S:Oracle)(q:Nat)(x0 x1 x2:TVal)(h:Heap):lim tab.get S 28 q 0 [x0,x1,x2] h=b28_0 (orc S (lim tab.get S)) (lim tab.get S 28 q) q x0 x1 x2 h:=(qAA k28 q 0 _ h).trans (e28_0 ..).symm
theorem w28_1(S:Oracle)(q:Nat)(x0 x1 x2 x3 x4:TVal)(h:Heap):lim tab.get S 28 q 1 [x0,x1,x2,x3,x4] h=b28_1 (orc S (lim tab.get S)) (lim tab.get S 28 q) q x0 x1 x2 x3 x4 h:=(qAA k28 q 1 _ h).trans (e28_1 ..).symm
theorem w28_2(S:Oracle)(q:Nat)(x0 x1 x2 x3 x4:TVal)(h:Heap):lim tab.get S 28 q 2 [x0,x1,x2,x3,x4] h=b28_2 (orc S (lim tab.get S)) (lim tab.get S 28 q) q x0 x1 x2 x3 x4 h:=(qAA k28 q 2 _ h).trans (e28_2 ..).symm
theorem k31:tab.get 31=some c31:=by kernel_rfl
theorem w31_0(S:Oracle)(q:Nat)(x0:TVal)(h:Heap):lim tab.get S 31 q 0 [x0] h=b31_0 (orc S (lim tab.get S)) (lim tab.get S 31 q) q x0 h:=(qAA k31 q 0 _ h).trans (e31_0 ..).symm
theorem w31_1(S:Oracle)(q:Nat)(x0 x1 x2 x3 x4:TVal)(h:Heap):lim tab.get S 31 q 1 [x0,x1,x2,x3,x4] h=b31_1 (orc S (lim tab.get S)) (lim tab.get S 31 q) q x0 x1 x2 x3 x4 h:=(qAA k31 q 1 _ h).trans (e31_1 ..).symm
theorem w31_2(S:Oracle)(q:Nat)(x0 x1 x2 x3 x4:TVal)(h:Heap):lim tab.get S 31 q 2 [x0,x1,x2,x3,x4] h=b31_2 (orc S (lim tab.get S)) (lim tab.get S 31 q) q x0 x1 x2 x3 x4 h:=(qAA k31 q 2 _ h).trans (e31_2 ..).symm
theorem w31_3(S:Oracle)(q:Nat)(x0:TVal)(h:Heap):lim tab.get S 31 q 3 [x0] h=b31_3 (orc S (lim tab.get S)) (lim tab.get S 31 q) q x0 h:=(qAA k31 q 3 _ h).trans (e31_3 ..).symm
theorem k32:tab.get 32=some c32:=by kernel_rfl
theorem w32_0(S:Oracle)(q:Nat)(x0:TVal)(h:Heap):lim tab.get S 32 q 0 [x0] h=b32_0 (orc S (lim tab.get S)) (lim tab.get S 32 q) q x0 h:=(qAA k32 q 0 _ h).trans (e32_0 ..).symm
theorem k33:tab.get 33=some c33:=by kernel_rfl
theorem w33_0(S:Oracle)(q:Nat)(x0:TVal)(h:Heap):lim tab.get S 33 q 0 [x0] h=b33_0 (orc S (lim tab.get S)) (lim tab.get S 33 q) q x0 h:=(qAA k33 q 0 _ h).trans (e33_0 ..).symm
theorem k34:tab.get 34=some c34:=by kernel_rfl
theorem w34_0(S:Oracle)(q:Nat)(x0 x1:TVal)(h:Heap):lim tab.get S 34 q 0 [x0,x1] h=b34_0 (orc S (lim tab.get S)) (lim tab.get S 34 q) q x0 x1 h:=(qAA k34 q 0 _ h).trans (e34_0 ..).symm
theorem w34_1(S:Oracle)(q:Nat)(x0 x1 x2 x3:TVal)(h:Heap):lim tab.get S 34 q 1 [x0,x1,x2,x3] h=b34_1 (orc S (lim tab.get S)) (lim tab.get S 34 q) q x0 x1 x2 x3 h:=(qAA k34 q 1 _ h).trans (e34_1 ..).symm
theorem w34_2(S:Oracle)(q:Nat)(x0 x1 x2 x3 x4:TVal)(h:Heap):lim tab.get S 34 q 2 [x0,x1,x2,x3,x4] h=b34_2 (orc S (lim tab.get S)) (lim tab.get S 34 q) q x0 x1 x2 x3 x4 h:=(qAA k34 q 2 _ h).trans (e34_2 ..).symm
theorem w34_3(S:Oracle)(q:Nat)(x0 x1:TVal)(h:Heap):lim tab.get S 34 q 3 [x0,x1] h=b34_3 (orc S (lim tab.get S)) (lim tab.get S 34 q) q x0 x1 h:=(qAA k34 q 3 _ h).trans (e34_3 ..).symm
theorem k35:tab.get 35=some c35:=by kernel_rfl
theorem w35_0(S:Oracle)(q:Nat)(x0:TVal)(h:Heap):lim tab.get S 35 q 0 [x0] h=b35_0 (orc S (lim tab.get S)) (lim tab.get S 35 q) q x0 h:=(qAA k35 q 0 _ h).trans (e35_0 ..).symm
theorem k39:tab.get 39=some c39:=by kernel_rfl
theorem w39_0(S:Oracle)(q:Nat)(x0 x1:TVal)(h:Heap):lim tab.get S 39 q 0 [x0,x1] h=b39_0 (orc S (lim tab.get S)) (lim tab.get S 39 q) q x0 x1 h:=(qAA k39 q 0 _ h).trans (e39_0 ..).symm
theorem k41:tab.get 41=some c41:=by kernel_rfl
theorem w41_0(S:Oracle)(q:Nat)(x0 x1:TVal)(h:Heap):lim tab.get S 41 q 0 [x0,x1] h=b41_0 (orc S (lim tab.get S)) (lim tab.get S 41 q) q x0 x1 h:=(qAA k41 q 0 _ h).trans (e41_0 ..).symm
theorem k46:tab.get 46=some c46:=by kernel_rfl
theorem w46_0(S:Oracle)(q:Nat)(x0 x1:TVal)(h:Heap):lim tab.get S 46 q 0 [x0,x1] h=b46_0 (orc S (lim tab.get S)) (lim tab.get S 46 q) q x0 x1 h:=(qAA k46 q 0 _ h).trans (e46_0 ..).symm
theorem k53:tab.get 53=some c53:=by kernel_rfl
theorem w53_0(S:Oracle)(q:Nat)(x0 x1:TVal)(h:Heap):lim tab.get S 53 q 0 [x0,x1] h=b53_0 (orc S (lim tab.get S)) (lim tab.get S 53 q) q x0 x1 h:=(qAA k53 q 0 _ h).trans (e53_0 ..).symm
theorem w53_1(S:Oracle)(q:Nat)(x0 x1 x2:TVal)(h:Heap):lim tab.get S 53 q 1 [x0,x1,x2] h=b53_1 (orc S (lim tab.get S)) (lim tab.get S 53 q) q x0 x1 x2 h:=(qAA k53 q 1 _ h).trans (e53_1 ..).symm
theorem w53_2(S:Oracle)(q:Nat)(x0 x1 x2:TVal)(h:Heap):lim tab.get S 53 q 2 [x0,x1,x2] h=b53_2 (orc S (lim tab.get S)) (lim tab.get S 53 q) q x0 x1 x2 h:=(qAA k53 q 2 _ h).trans (e53_2 ..).symm
theorem w53_3(S:Oracle)(q:Nat)(x0 x1 x2 x3 x4 x5:TVal)(h:Heap):lim tab.get S 53 q 3 [x0,x1,x2,x3,x4,x5] h=b53_3 (orc S (lim tab.get S)) (lim tab.get S 53 q) q x0 x1 x2 x3 x4 x5 h:=(qAA k53 q 3 _ h).trans (e53_3 ..).symm
theorem w53_4(S:Oracle)(q:Nat)(x0 x1 x2 x3 x4 x5 x6:TVal)(h:Heap):lim tab.get S 53 q 4 [x0,x1,x2,x3,x4,x5,x6] h=b53_4 (orc S (lim tab.get S)) (lim tab.get S 53 q) q x0 x1 x2 x3 x4 x5 x6 h:=(qAA k53 q 4 _ h).trans (e53_4 ..).symm
theorem w53_5(S:Oracle)(q:Nat)(x0 x1 x2:TVal)(h:Heap):lim tab.get S 53 q 5 [x0,x1,x2] h=b53_5 (orc S (lim tab.get S)) (lim tab.get S 53 q) q x0 x1 x2 h:=(qAA k53 q 5 _ h).trans (e53_5 ..).symm
theorem w53_6(S:Oracle)(q:Nat)(x0 x1 x2 x3 x4:TVal)(h:Heap):lim tab.get S 53 q 6 [x0,x1,x2,x3,x4] h=b53_6 (orc S (lim tab.get S)) (lim tab.get S 53 q) q x0 x1 x2 x3 x4 h:=(qAA k53 q 6 _ h).trans (e53_6 ..).symm
theorem w53_7(S:Oracle)(q:Nat)(x0:TVal)(h:Heap):lim tab.get S 53 q 7 [x0] h=b53_7 (orc S (lim tab.get S)) (lim tab.get S 53 q) q x0 h:=(qAA k53 q 7 _ h).trans (e53_7 ..).symm
theorem k54:tab.get 54=some c54:=by kernel_rfl
theorem w54_0(S:Oracle)(q:Nat)(x0:TVal)(h:Heap):lim tab.get S 54 q 0 [x0] h=b54_0 (orc S (lim tab.get S)) (lim tab.get S 54 q) q x0 h:=(qAA k54 q 0 _ h).trans (e54_0 ..).symm
theorem w54_1(S:Oracle)(q:Nat)(x0 x1 x2:TVal)(h:Heap):lim tab.get S 54 q 1 [x0,x1,x2] h=b54_1 (orc S (lim tab.get S)) (lim tab.get S 54 q) q x0 x1 x2 h:=(qAA k54 q 1 _ h).trans (e54_1 ..).symm
theorem w54_2(S:Oracle)(q:Nat)(x0 x1 x2:TVal)(h:Heap):lim tab.get S 54 q 2 [x0,x1,x2] h=b54_2 (orc S (lim tab.get S)) (lim tab.get S 54 q) q x0 x1 x2 h:=(qAA k54 q 2 _ h).trans (e54_2 ..).symm
theorem w54_3(S:Oracle)(q:Nat)(x0 x1 x2:TVal)(h:Heap):lim tab.get S 54 q 3 [x0,x1,x2] h=b54_3 (orc S (lim tab.get S)) (lim tab.get S 54 q) q x0 x1 x2 h:=(qAA k54 q 3 _ h).trans (e54_3 ..).symm
theorem w54_4(S:Oracle)(q:Nat)(x0:TVal)(h:Heap):lim tab.get S 54 q 4 [x0] h=b54_4 (orc S (lim tab.get S)) (lim tab.get S 54 q) q x0 h:=(qAA k54 q 4 _ h).trans (e54_4 ..).symm
theorem k55:tab.get 55=some c55:=by kernel_rfl
theorem w55_0(S:Oracle)(q:Nat)(x0:TVal)(h:Heap):lim tab.get S 55 q 0 [x0] h=b55_0 (orc S (lim tab.get S)) (lim tab.get S 55 q) q x0 h:=(qAA k55 q 0 _ h).trans (e55_0 ..).symm
theorem k56:tab.get 56=some c56:=by kernel_rfl
theorem w56_0(S:Oracle)(q:Nat)(x0 x1:TVal)(h:Heap):lim tab.get S 56 q 0 [x0,x1] h=b56_0 (orc S (lim tab.get S)) (lim tab.get S 56 q) q x0 x1 h:=(qAA k56 q 0 _ h).trans (e56_0 ..).symm
theorem k57:tab.get 57=some c57:=by kernel_rfl
theorem w57_0(S:Oracle)(q:Nat)(x0 x1 x2:TVal)(h:Heap):lim tab.get S 57 q 0 [x0,x1,x2] h=b57_0 (orc S (lim tab.get S)) (lim tab.get S 57 q) q x0 x1 x2 h:=(qAA k57 q 0 _ h).trans (e57_0 ..).symm
theorem w57_1(S:Oracle)(q:Nat)(x0 x1 x2 x3 x4 x5 x6:TVal)(h:Heap):lim tab.get S 57 q 1 [x0,x1,x2,x3,x4,x5,x6] h=b57_1 (orc S (lim tab.get S)) (lim tab.get S 57 q) q x0 x1 x2 x3 x4 x5 x6 h:=(qAA k57 q 1 _ h).trans (e57_1 ..).symm
theorem w57_2(S:Oracle)(q:Nat)(x0 x1:TVal)(h:Heap):lim tab.get S 57 q 2 [x0,x1] h=b57_2 (orc S (lim tab.get S)) (lim tab.get S 57 q) q x0 x1 h:=(qAA k57 q 2 _ h).trans (e57_2 ..).symm
theorem k65:tab.get 65=some c65:=by kernel_rfl
theorem w65_0(S:Oracle)(q:Nat)(x0:TVal)(h:Heap):lim tab.get S 65 q 0 [x0] h=b65_0 (orc S (lim tab.get S)) (lim tab.get S 65 q) q x0 h:=(qAA k65 q 0 _ h).trans (e65_0 ..).symm
theorem k66:tab.get 66=some c66:=by kernel_rfl
theorem w66_0(S:Oracle)(q:Nat)(x0 x1 x2:TVal)(h:Heap):lim tab.get S 66 q 0 [x0,x1,x2] h=b66_0 (orc S (lim tab.get S)) (lim tab.get S 66 q) q x0 x1 x2 h:=(qAA k66 q 0 _ h).trans (e66_0 ..).symm
theorem w66_1(S:Oracle)(q:Nat)(x0 x1 x2:TVal)(h:Heap):lim tab.get S 66 q 1 [x0,x1,x2] h=b66_1 (orc S (lim tab.get S)) (lim tab.get S 66 q) q x0 x1 x2 h:=(qAA k66 q 1 _ h).trans (e66_1 ..).symm
theorem w66_2(S:Oracle)(q:Nat)(x0 x1:TVal)(h:Heap):lim tab.get S 66 q 2 [x0,x1] h=b66_2 (orc S (lim tab.get S)) (lim tab.get S 66 q) q x0 x1 h:=(qAA k66 q 2 _ h).trans (e66_2 ..).symm
theorem k69:tab.get 69=some c69:=by kernel_rfl
theorem w69_0(S:Oracle)(q:Nat)(x0:TVal)(h:Heap):lim tab.get S 69 q 0 [x0] h=b69_0 (orc S (lim tab.get S)) (lim tab.get S 69 q) q x0 h:=(qAA k69 q 0 _ h).trans (e69_0 ..).symm
theorem k71:tab.get 71=some c71:=by kernel_rfl
theorem w71_0(S:Oracle)(q:Nat)(x0 x1:TVal)(h:Heap):lim tab.get S 71 q 0 [x0,x1] h=b71_0 (orc S (lim tab.get S)) (lim tab.get S 71 q) q x0 x1 h:=(qAA k71 q 0 _ h).trans (e71_0 ..).symm
theorem k81:tab.get 81=some c81:=by kernel_rfl
theorem w81_0(S:Oracle)(q:Nat)(x0 x1:TVal)(h:Heap):lim tab.get S 81 q 0 [x0,x1] h=b81_0 (orc S (lim tab.get S)) (lim tab.get S 81 q) q x0 x1 h:=(qAA k81 q 0 _ h).trans (e81_0 ..).symm
theorem w81_1(S:Oracle)(q:Nat)(x0 x1:TVal)(h:Heap):lim tab.get S 81 q 1 [x0,x1] h=b81_1 (orc S (lim tab.get S)) (lim tab.get S 81 q) q x0 x1 h:=(qAA k81 q 1 _ h).trans (e81_1 ..).symm
theorem k82:tab.get 82=some c82:=by kernel_rfl
theorem w82_0(S:Oracle)(q:Nat)(x0 x1:TVal)(h:Heap):lim tab.get S 82 q 0 [x0,x1] h=b82_0 (orc S (lim tab.get S)) (lim tab.get S 82 q) q x0 x1 h:=(qAA k82 q 0 _ h).trans (e82_0 ..).symm
theorem k83:tab.get 83=some c83:=by kernel_rfl
theorem w83_0(S:Oracle)(q:Nat)(x0:TVal)(h:Heap):lim tab.get S 83 q 0 [x0] h=b83_0 (orc S (lim tab.get S)) (lim tab.get S 83 q) q x0 h:=(qAA k83 q 0 _ h).trans (e83_0 ..).symm
theorem k84:tab.get 84=some c84:=by kernel_rfl
theorem w84_0(S:Oracle)(q:Nat)(x0 x1:TVal)(h:Heap):lim tab.get S 84 q 0 [x0,x1] h=b84_0 (orc S (lim tab.get S)) (lim tab.get S 84 q) q x0 x1 h:=(qAA k84 q 0 _ h).trans (e84_0 ..).symm
theorem k85:tab.get 85=some c85:=by kernel_rfl
theorem w85_0(S:Oracle)(q:Nat)(x0:TVal)(h:Heap):lim tab.get S 85 q 0 [x0] h=b85_0 (orc S (lim tab.get S)) (lim tab.get S 85 q) q x0 h:=(qAA k85 q 0 _ h).trans (e85_0 ..).symm
theorem w85_1(S:Oracle)(q:Nat)(x0 x1 x2 x3:TVal)(h:Heap):lim tab.get S 85 q 1 [x0,x1,x2,x3] h=b85_1 (orc S (lim tab.get S)) (lim tab.get S 85 q) q x0 x1 x2 x3 h:=(qAA k85 q 1 _ h).trans (e85_1 ..).symm
theorem k86:tab.get 86=some c86:=by kernel_rfl
theorem w86_0(S:Oracle)(q:Nat)(x0 x1 x2:TVal)(h:Heap):lim tab.get S 86 q 0 [x0,x1,x2] h=b86_0 (orc S (lim tab.get S)) (lim tab.get S 86 q) q x0 x1 x2 h:=(qAA k86 q 0 _ h).trans (e86_0 ..).symm
theorem k87:tab.get 87=some c87:=by kernel_rfl
theorem w87_0(S:Oracle)(q:Nat)(x0 x1:TVal)(h:Heap):lim tab.get S 87 q 0 [x0,x1] h=b87_0 (orc S (lim tab.get S)) (lim tab.get S 87 q) q x0 x1 h:=(qAA k87 q 0 _ h).trans (e87_0 ..).symm
theorem k88:tab.get 88=some c88:=by kernel_rfl
theorem w88_0(S:Oracle)(q:Nat)(x0 x1:TVal)(h:Heap):lim tab.get S 88 q 0 [x0,x1] h=b88_0 (orc S (lim tab.get S)) (lim tab.get S 88 q) q x0 x1 h:=(qAA k88 q 0 _ h).trans (e88_0 ..).symm
theorem k98:tab.get 98=some c98:=by kernel_rfl
theorem w98_0(S:Oracle)(q:Nat)(x0 x1:TVal)(h:Heap):lim tab.get S 98 q 0 [x0,x1] h=b98_0 (orc S (lim tab.get S)) (lim tab.get S 98 q) q x0 x1 h:=(qAA k98 q 0 _ h).trans (e98_0 ..).symm
theorem w98_1(S:Oracle)(q:Nat)(x0 x1 x2 x3 x4 x5 x6 x7:TVal)(h:Heap):lim tab.get S 98 q 1 [x0,x1,x2,x3,x4,x5,x6,x7] h=b98_1 (orc S (lim tab.get S)) (lim tab.get S 98 q) q x0 x1 x2 x3 x4 x5 x6 x7 h:=(qAA k98 q 1 _ h).trans (e98_1 ..).symm
theorem w98_2(S:Oracle)(q:Nat)(x0 x1 x2 x3 x4 x5 x6 x7:TVal)(h:Heap):lim tab.get S 98 q 2 [x0,x1,x2,x3,x4,x5,x6,x7] h=b98_2 (orc S (lim tab.get S)) (lim tab.get S 98 q) q x0 x1 x2 x3 x4 x5 x6 x7 h:=(qAA k98 q 2 _ h).trans (e98_2 ..).symm
theorem k99:tab.get 99=some c99:=by kernel_rfl
theorem w99_0(S:Oracle)(q:Nat)(x0 x1:TVal)(h:Heap):lim tab.get S 99 q 0 [x0,x1] h=b99_0 (orc S (lim tab.get S)) (lim tab.get S 99 q) q x0 x1 h:=(qAA k99 q 0 _ h).trans (e99_0 ..).symm
theorem k107:tab.get 107=some c107:=by kernel_rfl
theorem w107_0(S:Oracle)(q:Nat)(x0:TVal)(h:Heap):lim tab.get S 107 q 0 [x0] h=b107_0 (orc S (lim tab.get S)) (lim tab.get S 107 q) q x0 h:=(qAA k107 q 0 _ h).trans (e107_0 ..).symm
theorem k108:tab.get 108=some c108:=by kernel_rfl
theorem w108_0(S:Oracle)(q:Nat)(x0:TVal)(h:Heap):lim tab.get S 108 q 0 [x0] h=b108_0 (orc S (lim tab.get S)) (lim tab.get S 108 q) q x0 h:=(qAA k108 q 0 _ h).trans (e108_0 ..).symm
theorem k116:tab.get 116=some c116:=by kernel_rfl
theorem w116_0(S:Oracle)(q:Nat)(x0:TVal)(h:Heap):lim tab.get S 116 q 0 [x0] h=b116_0 (orc S (lim tab.get S)) (lim tab.get S 116 q) q x0 h:=(qAA k116 q 0 _ h).trans (e116_0 ..).symm
theorem k117:tab.get 117=some c117:=by kernel_rfl
theorem w117_0(S:Oracle)(q:Nat)(x0 x1:TVal)(h:Heap):lim tab.get S 117 q 0 [x0,x1] h=b117_0 (orc S (lim tab.get S)) (lim tab.get S 117 q) q x0 x1 h:=(qAA k117 q 0 _ h).trans (e117_0 ..).symm
theorem k118:tab.get 118=some c118:=by kernel_rfl
theorem w118_0(S:Oracle)(q:Nat)(x0:TVal)(h:Heap):lim tab.get S 118 q 0 [x0] h=b118_0 (orc S (lim tab.get S)) (lim tab.get S 118 q) q x0 h:=(qAA k118 q 0 _ h).trans (e118_0 ..).symm
theorem k119:tab.get 119=some c119:=by kernel_rfl
theorem w119_0(S:Oracle)(q:Nat)(x0:TVal)(h:Heap):lim tab.get S 119 q 0 [x0] h=b119_0 (orc S (lim tab.get S)) (lim tab.get S 119 q) q x0 h:=(qAA k119 q 0 _ h).trans (e119_0 ..).symm
theorem k120:tab.get 120=some c120:=by kernel_rfl
theorem w120_0(S:Oracle)(q:Nat)(x0:TVal)(h:Heap):lim tab.get S 120 q 0 [x0] h=b120_0 (orc S (lim tab.get S)) (lim tab.get S 120 q) q x0 h:=(qAA k120 q 0 _ h).trans (e120_0 ..).symm
theorem w120_1(S:Oracle)(q:Nat)(x0 x1 x2 x3 x4:TVal)(h:Heap):lim tab.get S 120 q 1 [x0,x1,x2,x3,x4] h=b120_1 (orc S (lim tab.get S)) (lim tab.get S 120 q) q x0 x1 x2 x3 x4 h:=(qAA k120 q 1 _ h).trans (e120_1 ..).symm
theorem w120_2(S:Oracle)(q:Nat)(x0 x1 x2 x3:TVal)(h:Heap):lim tab.get S 120 q 2 [x0,x1,x2,x3] h=b120_2 (orc S (lim tab.get S)) (lim tab.get S 120 q) q x0 x1 x2 x3 h:=(qAA k120 q 2 _ h).trans (e120_2 ..).symm
theorem k121:tab.get 121=some c121:=by kernel_rfl
theorem w121_0(S:Oracle)(q:Nat)(x0:TVal)(h:Heap):lim tab.get S 121 q 0 [x0] h=b121_0 (orc S (lim tab.get S)) (lim tab.get S 121 q) q x0 h:=(qAA k121 q 0 _ h).trans (e121_0 ..).symm
theorem w121_1(S:Oracle)(q:Nat)(x0 x1 x2 x3:TVal)(h:Heap):lim tab.get S 121 q 1 [x0,x1,x2,x3] h=b121_1 (orc S (lim tab.get S)) (lim tab.get S 121 q) q x0 x1 x2 x3 h:=(qAA k121 q 1 _ h).trans (e121_1 ..).symm
theorem w121_2(S:Oracle)(q:Nat)(x0 x1 x2 x3:TVal)(h:Heap):lim tab.get S 121 q 2 [x0,x1,x2,x3] h=b121_2 (orc S (lim tab.get S)) (lim tab.get S 121 q) q x0 x1 x2 x3 h:=(qAA k121 q 2 _ h).trans (e121_2 ..).symm
theorem w121_3(S:Oracle)(q:Nat)(x0:TVal)(h:Heap):lim tab.get S 121 q 3 [x0] h=b121_3 (orc S (lim tab.get S)) (lim tab.get S 121 q) q x0 h:=(qAA k121 q 3 _ h).trans (e121_3 ..).symm
theorem k122:tab.get 122=some c122:=by kernel_rfl
theorem w122_0(S:Oracle)(q:Nat)(x0:TVal)(h:Heap):lim tab.get S 122 q 0 [x0] h=b122_0 (orc S (lim tab.get S)) (lim tab.get S 122 q) q x0 h:=(qAA k122 q 0 _ h).trans (e122_0 ..).symm
theorem w122_1(S:Oracle)(q:Nat)(x0 x1 x2 x3 x4:TVal)(h:Heap):lim tab.get S 122 q 1 [x0,x1,x2,x3,x4] h=b122_1 (orc S (lim tab.get S)) (lim tab.get S 122 q) q x0 x1 x2 x3 x4 h:=(qAA k122 q 1 _ h).trans (e122_1 ..).symm
theorem w122_2(S:Oracle)(q:Nat)(x0 x1:TVal)(h:Heap):lim tab.get S 122 q 2 [x0,x1] h=b122_2 (orc S (lim tab.get S)) (lim tab.get S 122 q) q x0 x1 h:=(qAA k122 q 2 _ h).trans (e122_2 ..).symm
theorem k123:tab.get 123=some c123:=by kernel_rfl
theorem w123_0(S:Oracle)(q:Nat)(x0 x1 x2:TVal)(h:Heap):lim tab.get S 123 q 0 [x0,x1,x2] h=b123_0 (orc S (lim tab.get S)) (lim tab.get S 123 q) q x0 x1 x2 h:=(qAA k123 q 0 _ h).trans (e123_0 ..).symm
theorem w123_1(S:Oracle)(q:Nat)(x0 x1 x2 x3 x4 x5:TVal)(h:Heap):lim tab.get S 123 q 1 [x0,x1,x2,x3,x4,x5] h=b123_1 (orc S (lim tab.get S)) (lim tab.get S 123 q) q x0 x1 x2 x3 x4 x5 h:=(qAA k123 q 1 _ h).trans (e123_1 ..).symm
theorem w123_2(S:Oracle)(q:Nat)(x0 x1 x2 x3 x4:TVal)(h:Heap):lim tab.get S 123 q 2 [x0,x1,x2,x3,x4] h=b123_2 (orc S (lim tab.get S)) (lim tab.get S 123 q) q x0 x1 x2 x3 x4 h:=(qAA k123 q 2 _ h).trans (e123_2 ..).symm
theorem w123_3(S:Oracle)(q:Nat)(x0 x1 x2 x3:TVal)(h:Heap):lim tab.get S 123 q 3 [x0,x1,x2,x3] h=b123_3 (orc S (lim tab.get S)) (lim tab.get S 123 q) q x0 x1 x2 x3 h:=(qAA k123 q 3 _ h).trans (e123_3 ..).symm
theorem w123_4(S:Oracle)(q:Nat)(x0 x1 x2 x3 x4 x5:TVal)(h:Heap):lim tab.get S 123 q 4 [x0,x1,x2,x3,x4,x5] h=b123_4 (orc S (lim tab.get S)) (lim tab.get S 123 q) q x0 x1 x2 x3 x4 x5 h:=(qAA k123 q 4 _ h).trans (e123_4 ..).symm
theorem w123_5(S:Oracle)(q:Nat)(x0 x1 x2 x3 x4:TVal)(h:Heap):lim tab.get S 123 q 5 [x0,x1,x2,x3,x4] h=b123_5 (orc S (lim tab.get S)) (lim tab.get S 123 q) q x0 x1 x2 x3 x4 h:=(qAA k123 q 5 _ h).trans (e123_5 ..).symm
theorem w123_6(S:Oracle)(q:Nat)(x0 x1 x2 x3:TVal)(h:Heap):lim tab.get S 123 q 6 [x0,x1,x2,x3] h=b123_6 (orc S (lim tab.get S)) (lim tab.get S 123 q) q x0 x1 x2 x3 h:=(qAA k123 q 6 _ h).trans (e123_6 ..).symm
theorem k126:tab.get 126=some c126:=by kernel_rfl
theorem w126_0(S:Oracle)(q:Nat)(x0 x1:TVal)(h:Heap):lim tab.get S 126 q 0 [x0,x1] h=b126_0 (orc S (lim tab.get S)) (lim tab.get S 126 q) q x0 x1 h:=(qAA k126 q 0 _ h).trans (e126_0 ..).symm
theorem k128:tab.get 128=some c128:=by kernel_rfl
theorem w128_0(S:Oracle)(q:Nat)(x0:TVal)(h:Heap):lim tab.get S 128 q 0 [x0] h=b128_0 (orc S (lim tab.get S)) (lim tab.get S 128 q) q x0 h:=(qAA k128 q 0 _ h).trans (e128_0 ..).symm
theorem k129:tab.get 129=some c129:=by kernel_rfl
theorem w129_0(S:Oracle)(q:Nat)(x0 x1:TVal)(h:Heap):lim tab.get S 129 q 0 [x0,x1] h=b129_0 (orc S (lim tab.get S)) (lim tab.get S 129 q) q x0 x1 h:=(qAA k129 q 0 _ h).trans (e129_0 ..).symm
theorem w129_1(S:Oracle)(q:Nat)(x0 x1 x2 x3 x4 x5 x6:TVal)(h:Heap):lim tab.get S 129 q 1 [x0,x1,x2,x3,x4,x5,x6] h=b129_1 (orc S (lim tab.get S)) (lim tab.get S 129 q) q x0 x1 x2 x3 x4 x5 x6 h:=(qAA k129 q 1 _ h).trans (e129_1 ..).symm
theorem w129_2(S:Oracle)(q:Nat)(x0 x1 x2 x3 x4 x5:TVal)(h:Heap):lim tab.get S 129 q 2 [x0,x1,x2,x3,x4,x5] h=b129_2 (orc S (lim tab.get S)) (lim tab.get S 129 q) q x0 x1 x2 x3 x4 x5 h:=(qAA k129 q 2 _ h).trans (e129_2 ..).symm
theorem w129_3(S:Oracle)(q:Nat)(x0 x1 x2 x3 x4 x5 x6:TVal)(h:Heap):lim tab.get S 129 q 3 [x0,x1,x2,x3,x4,x5,x6] h=b129_3 (orc S (lim tab.get S)) (lim tab.get S 129 q) q x0 x1 x2 x3 x4 x5 x6 h:=(qAA k129 q 3 _ h).trans (e129_3 ..).symm
theorem k130:tab.get 130=some c130:=by kernel_rfl
theorem w130_0(S:Oracle)(q:Nat)(x0 x1:TVal)(h:Heap):lim tab.get S 130 q 0 [x0,x1] h=b130_0 (orc S (lim tab.get S)) (lim tab.get S 130 q) q x0 x1 h:=(qAA k130 q 0 _ h).trans (e130_0 ..).symm
theorem k137:tab.get 137=some c137:=by kernel_rfl
theorem w137_0(S:Oracle)(q:Nat)(x0 x1:TVal)(h:Heap):lim tab.get S 137 q 0 [x0,x1] h=b137_0 (orc S (lim tab.get S)) (lim tab.get S 137 q) q x0 x1 h:=(qAA k137 q 0 _ h).trans (e137_0 ..).symm
theorem w137_1(S:Oracle)(q:Nat)(x0 x1 x2:TVal)(h:Heap):lim tab.get S 137 q 1 [x0,x1,x2] h=b137_1 (orc S (lim tab.get S)) (lim tab.get S 137 q) q x0 x1 x2 h:=(qAA k137 q 1 _ h).trans (e137_1 ..).symm
theorem w137_2(S:Oracle)(q:Nat)(x0:TVal)(h:Heap):lim tab.get S 137 q 2 [x0] h=b137_2 (orc S (lim tab.get S)) (lim tab.get S 137 q) q x0 h:=(qAA k137 q 2 _ h).trans (e137_2 ..).symm
theorem k138:tab.get 138=some c138:=by kernel_rfl
theorem w138_0(S:Oracle)(q:Nat)(x0:TVal)(h:Heap):lim tab.get S 138 q 0 [x0] h=b138_0 (orc S (lim tab.get S)) (lim tab.get S 138 q) q x0 h:=(qAA k138 q 0 _ h).trans (e138_0 ..).symm
theorem k145:tab.get 145=some c145:=by kernel_rfl
theorem w145_0(S:Oracle)(q:Nat)(x0 x1:TVal)(h:Heap):lim tab.get S 145 q 0 [x0,x1] h=b145_0 (orc S (lim tab.get S)) (lim tab.get S 145 q) q x0 x1 h:=(qAA k145 q 0 _ h).trans (e145_0 ..).symm
theorem k146:tab.get 146=some c146:=by kernel_rfl
theorem w146_0(S:Oracle)(q:Nat)(x0:TVal)(h:Heap):lim tab.get S 146 q 0 [x0] h=b146_0 (orc S (lim tab.get S)) (lim tab.get S 146 q) q x0 h:=(qAA k146 q 0 _ h).trans (e146_0 ..).symm
theorem k147:tab.get 147=some c147:=by kernel_rfl
theorem w147_0(S:Oracle)(q:Nat)(x0:TVal)(h:Heap):lim tab.get S 147 q 0 [x0] h=b147_0 (orc S (lim tab.get S)) (lim tab.get S 147 q) q x0 h:=(qAA k147 q 0 _ h).trans (e147_0 ..).symm
theorem w147_1(S:Oracle)(q:Nat)(x0 x1 x2 x3 x4:TVal)(h:Heap):lim tab.get S 147 q 1 [x0,x1,x2,x3,x4] h=b147_1 (orc S (lim tab.get S)) (lim tab.get S 147 q) q x0 x1 x2 x3 x4 h:=(qAA k147 q 1 _ h).trans (e147_1 ..).symm
theorem w147_2(S:Oracle)(q:Nat)(x0 x1 x2:TVal)(h:Heap):lim tab.get S 147 q 2 [x0,x1,x2] h=b147_2 (orc S (lim tab.get S)) (lim tab.get S 147 q) q x0 x1 x2 h:=(qAA k147 q 2 _ h).trans (e147_2 ..).symm
theorem w147_3(S:Oracle)(q:Nat)(x0 x1 x2 x3:TVal)(h:Heap):lim tab.get S 147 q 3 [x0,x1,x2,x3] h=b147_3 (orc S (lim tab.get S)) (lim tab.get S 147 q) q x0 x1 x2 x3 h:=(qAA k147 q 3 _ h).trans (e147_3 ..).symm
theorem w147_4(S:Oracle)(q:Nat)(x0 x1 x2 x3:TVal)(h:Heap):lim tab.get S 147 q 4 [x0,x1,x2,x3] h=b147_4 (orc S (lim tab.get S)) (lim tab.get S 147 q) q x0 x1 x2 x3 h:=(qAA k147 q 4 _ h).trans (e147_4 ..).symm
theorem w147_5(S:Oracle)(q:Nat)(x0 x1 x2 x3 x4:TVal)(h:Heap):lim tab.get S 147 q 5 [x0,x1,x2,x3,x4] h=b147_5 (orc S (lim tab.get S)) (lim tab.get S 147 q) q x0 x1 x2 x3 x4 h:=(qAA k147 q 5 _ h).trans (e147_5 ..).symm
theorem w147_6(S:Oracle)(q:Nat)(x0 x1 x2 x3:TVal)(h:Heap):lim tab.get S 147 q 6 [x0,x1,x2,x3] h=b147_6 (orc S (lim tab.get S)) (lim tab.get S 147 q) q x0 x1 x2 x3 h:=(qAA k147 q 6 _ h).trans (e147_6 ..).symm
theorem w147_7(S:Oracle)(q:Nat)(x0 x1 x2 x3:TVal)(h:Heap):lim tab.get S 147 q 7 [x0,x1,x2,x3] h=b147_7 (orc S (lim tab.get S)) (lim tab.get S 147 q) q x0 x1 x2 x3 h:=(qAA k147 q 7 _ h).trans (e147_7 ..).symm
theorem k148:tab.get 148=some c148:=by kernel_rfl
theorem w148_0(S:Oracle)(q:Nat)(x0 x1 x2 x3:TVal)(h:Heap):lim tab.get S 148 q 0 [x0,x1,x2,x3] h=b148_0 (orc S (lim tab.get S)) (lim tab.get S 148 q) q x0 x1 x2 x3 h:=(qAA k148 q 0 _ h).trans (e148_0 ..).symm
theorem w148_1(S:Oracle)(q:Nat)(x0 x1 x2 x3 x4:TVal)(h:Heap):lim tab.get S 148 q 1 [x0,x1,x2,x3,x4] h=b148_1 (orc S (lim tab.get S)) (lim tab.get S 148 q) q x0 x1 x2 x3 x4 h:=(qAA k148 q 1 _ h).trans (e148_1 ..).symm
theorem w148_2(S:Oracle)(q:Nat)(x0 x1 x2 x3 x4 x5:TVal)(h:Heap):lim tab.get S 148 q 2 [x0,x1,x2,x3,x4,x5] h=b148_2 (orc S (lim tab.get S)) (lim tab.get S 148 q) q x0 x1 x2 x3 x4 x5 h:=(qAA k148 q 2 _ h).trans (e148_2 ..).symm
theorem w148_3(S:Oracle)(q:Nat)(x0 x1 x2 x3 x4:TVal)(h:Heap):lim tab.get S 148 q 3 [x0,x1,x2,x3,x4] h=b148_3 (orc S (lim tab.get S)) (lim tab.get S 148 q) q x0 x1 x2 x3 x4 h:=(qAA k148 q 3 _ h).trans (e148_3 ..).symm
theorem k149:tab.get 149=some c149:=by kernel_rfl
theorem w149_0(S:Oracle)(q:Nat)(x0 x1 x2 x3 x4:TVal)(h:Heap):lim tab.get S 149 q 0 [x0,x1,x2,x3,x4] h=b149_0 (orc S (lim tab.get S)) (lim tab.get S 149 q) q x0 x1 x2 x3 x4 h:=(qAA k149 q 0 _ h).trans (e149_0 ..).symm
theorem w149_1(S:Oracle)(q:Nat)(x0 x1 x2 x3 x4:TVal)(h:Heap):lim tab.get S 149 q 1 [x0,x1,x2,x3,x4] h=b149_1 (orc S (lim tab.get S)) (lim tab.get S 149 q) q x0 x1 x2 x3 x4 h:=(qAA k149 q 1 _ h).trans (e149_1 ..).symm
theorem w149_2(S:Oracle)(q:Nat)(x0 x1 x2:TVal)(h:Heap):lim tab.get S 149 q 2 [x0,x1,x2] h=b149_2 (orc S (lim tab.get S)) (lim tab.get S 149 q) q x0 x1 x2 h:=(qAA k149 q 2 _ h).trans (e149_2 ..).symm
theorem w149_3(S:Oracle)(q:Nat)(x0 x1 x2:TVal)(h:Heap):lim tab.get S 149 q 3 [x0,x1,x2] h=b149_3 (orc S (lim tab.get S)) (lim tab.get S 149 q) q x0 x1 x2 h:=(qAA k149 q 3 _ h).trans (e149_3 ..).symm
theorem w149_4(S:Oracle)(q:Nat)(h:Heap):lim tab.get S 149 q 4 [] h=b149_4 (orc S (lim tab.get S)) (lim tab.get S 149 q) q  h:=(qAA k149 q 4 _ h).trans (e149_4 ..).symm
theorem w149_5(S:Oracle)(q:Nat)(x0 x1 x2 x3 x4:TVal)(h:Heap):lim tab.get S 149 q 5 [x0,x1,x2,x3,x4] h=b149_5 (orc S (lim tab.get S)) (lim tab.get S 149 q) q x0 x1 x2 x3 x4 h:=(qAA k149 q 5 _ h).trans (e149_5 ..).symm
theorem w149_6(S:Oracle)(q:Nat)(x0 x1 x2 x3 x4:TVal)(h:Heap):lim tab.get S 149 q 6 [x0,x1,x2,x3,x4] h=b149_6 (orc S (lim tab.get S)) (lim tab.get S 149 q) q x0 x1 x2 x3 x4 h:=(qAA k149 q 6 _ h).trans (e149_6 ..).symm
theorem w149_7(S:Oracle)(q:Nat)(x0 x1 x2:TVal)(h:Heap):lim tab.get S 149 q 7 [x0,x1,x2] h=b149_7 (orc S (lim tab.get S)) (lim tab.get S 149 q) q x0 x1 x2 h:=(qAA k149 q 7 _ h).trans (e149_7 ..).symm
theorem w149_8(S:Oracle)(q:Nat)(x0 x1 x2:TVal)(h:Heap):lim tab.get S 149 q 8 [x0,x1,x2] h=b149_8 (orc S (lim tab.get S)) (lim tab.get S 149 q) q x0 x1 x2 h:=(qAA k149 q 8 _ h).trans (e149_8 ..).symm
theorem w149_9(S:Oracle)(q:Nat)(h:Heap):lim tab.get S 149 q 9 [] h=b149_9 (orc S (lim tab.get S)) (lim tab.get S 149 q) q  h:=(qAA k149 q 9 _ h).trans (e149_9 ..).symm
theorem w149_10(S:Oracle)(q:Nat)(x0 x1 x2 x3 x4:TVal)(h:Heap):lim tab.get S 149 q 10 [x0,x1,x2,x3,x4] h=b149_10 (orc S (lim tab.get S)) (lim tab.get S 149 q) q x0 x1 x2 x3 x4 h:=(qAA k149 q 10 _ h).trans (e149_10 ..).symm
theorem w149_11(S:Oracle)(q:Nat)(x0 x1 x2 x3 x4 x5 x6 x7 x8:TVal)(h:Heap):lim tab.get S 149 q 11 [x0,x1,x2,x3,x4,x5,x6,x7,x8] h=b149_11 (orc S (lim tab.get S)) (lim tab.get S 149 q) q x0 x1 x2 x3 x4 x5 x6 x7 x8 h:=(qAA k149 q 11 _ h).trans (e149_11 ..).symm
theorem w149_12(S:Oracle)(q:Nat)(x0 x1 x2 x3 x4 x5 x6 x7 x8 x9:TVal)(h:Heap):lim tab.get S 149 q 12 [x0,x1,x2,x3,x4,x5,x6,x7,x8,x9] h=b149_12 (orc S (lim tab.get S)) (lim tab.get S 149 q) q x0 x1 x2 x3 x4 x5 x6 x7 x8 x9 h:=(qAA k149 q 12 _ h).trans (e149_12 ..).symm
theorem w149_13(S:Oracle)(q:Nat)(x0 x1 x2 x3 x4 x5 x6 x7:TVal)(h:Heap):lim tab.get S 149 q 13 [x0,x1,x2,x3,x4,x5,x6,x7] h=b149_13 (orc S (lim tab.get S)) (lim tab.get S 149 q) q x0 x1 x2 x3 x4 x5 x6 x7 h:=(qAA k149 q 13 _ h).trans (e149_13 ..).symm
theorem w149_14(S:Oracle)(q:Nat)(x0 x1 x2 x3 x4 x5 x6:TVal)(h:Heap):lim tab.get S 149 q 14 [x0,x1,x2,x3,x4,x5,x6] h=b149_14 (orc S (lim tab.get S)) (lim tab.get S 149 q) q x0 x1 x2 x3 x4 x5 x6 h:=(qAA k149 q 14 _ h).trans (e149_14 ..).symm
theorem w149_15(S:Oracle)(q:Nat)(x0 x1 x2 x3 x4:TVal)(h:Heap):lim tab.get S 149 q 15 [x0,x1,x2,x3,x4] h=b149_15 (orc S (lim tab.get S)) (lim tab.get S 149 q) q x0 x1 x2 x3 x4 h:=(qAA k149 q 15 _ h).trans (e149_15 ..).symm
theorem k153:tab.get 153=some c153:=by kernel_rfl
theorem w153_0(S:Oracle)(q:Nat)(x0:TVal)(h:Heap):lim tab.get S 153 q 0 [x0] h=b153_0 (orc S (lim tab.get S)) (lim tab.get S 153 q) q x0 h:=(qAA k153 q 0 _ h).trans (e153_0 ..).symm
theorem w153_1(S:Oracle)(q:Nat)(x0 x1 x2:TVal)(h:Heap):lim tab.get S 153 q 1 [x0,x1,x2] h=b153_1 (orc S (lim tab.get S)) (lim tab.get S 153 q) q x0 x1 x2 h:=(qAA k153 q 1 _ h).trans (e153_1 ..).symm
theorem w153_2(S:Oracle)(q:Nat)(x0 x1:TVal)(h:Heap):lim tab.get S 153 q 2 [x0,x1] h=b153_2 (orc S (lim tab.get S)) (lim tab.get S 153 q) q x0 x1 h:=(qAA k153 q 2 _ h).trans (e153_2 ..).symm
theorem w153_3(S:Oracle)(q:Nat)(x0 x1 x2 x3:TVal)(h:Heap):lim tab.get S 153 q 3 [x0,x1,x2,x3] h=b153_3 (orc S (lim tab.get S)) (lim tab.get S 153 q) q x0 x1 x2 x3 h:=(qAA k153 q 3 _ h).trans (e153_3 ..).symm
theorem w153_4(S:Oracle)(q:Nat)(x0 x1 x2 x3:TVal)(h:Heap):lim tab.get S 153 q 4 [x0,x1,x2,x3] h=b153_4 (orc S (lim tab.get S)) (lim tab.get S 153 q) q x0 x1 x2 x3 h:=(qAA k153 q 4 _ h).trans (e153_4 ..).symm
theorem k161:tab.get 161=some c161:=by kernel_rfl
theorem w161_0(S:Oracle)(q:Nat)(x0 x1:TVal)(h:Heap):lim tab.get S 161 q 0 [x0,x1] h=b161_0 (orc S (lim tab.get S)) (lim tab.get S 161 q) q x0 x1 h:=(qAA k161 q 0 _ h).trans (e161_0 ..).symm
theorem k162:tab.get 162=some c162:=by kernel_rfl
theorem w162_0(S:Oracle)(q:Nat)(x0 x1:TVal)(h:Heap):lim tab.get S 162 q 0 [x0,x1] h=b162_0 (orc S (lim tab.get S)) (lim tab.get S 162 q) q x0 x1 h:=(qAA k162 q 0 _ h).trans (e162_0 ..).symm
theorem w162_1(S:Oracle)(q:Nat)(x0 x1 x2 x3 x4:TVal)(h:Heap):lim tab.get S 162 q 1 [x0,x1,x2,x3,x4] h=b162_1 (orc S (lim tab.get S)) (lim tab.get S 162 q) q x0 x1 x2 x3 x4 h:=(qAA k162 q 1 _ h).trans (e162_1 ..).symm
theorem w162_2(S:Oracle)(q:Nat)(x0 x1 x2:TVal)(h:Heap):lim tab.get S 162 q 2 [x0,x1,x2] h=b162_2 (orc S (lim tab.get S)) (lim tab.get S 162 q) q x0 x1 x2 h:=(qAA k162 q 2 _ h).trans (e162_2 ..).symm
theorem w162_3(S:Oracle)(q:Nat)(x0 x1:TVal)(h:Heap):lim tab.get S 162 q 3 [x0,x1] h=b162_3 (orc S (lim tab.get S)) (lim tab.get S 162 q) q x0 x1 h:=(qAA k162 q 3 _ h).trans (e162_3 ..).symm
theorem w162_4(S:Oracle)(q:Nat)(x0 x1 x2 x3 x4:TVal)(h:Heap):lim tab.get S 162 q 4 [x0,x1,x2,x3,x4] h=b162_4 (orc S (lim tab.get S)) (lim tab.get S 162 q) q x0 x1 x2 x3 x4 h:=(qAA k162 q 4 _ h).trans (e162_4 ..).symm
theorem k163:tab.get 163=some c163:=by kernel_rfl
theorem w163_0(S:Oracle)(q:Nat)(x0:TVal)(h:Heap):lim tab.get S 163 q 0 [x0] h=b163_0 (orc S (lim tab.get S)) (lim tab.get S 163 q) q x0 h:=(qAA k163 q 0 _ h).trans (e163_0 ..).symm
theorem w163_1(S:Oracle)(q:Nat)(x0:TVal)(h:Heap):lim tab.get S 163 q 1 [x0] h=b163_1 (orc S (lim tab.get S)) (lim tab.get S 163 q) q x0 h:=(qAA k163 q 1 _ h).trans (e163_1 ..).symm
theorem k164:tab.get 164=some c164:=by kernel_rfl
theorem w164_0(S:Oracle)(q:Nat)(x0 x1 x2 x3 x4:TVal)(h:Heap):lim tab.get S 164 q 0 [x0,x1,x2,x3,x4] h=b164_0 (orc S (lim tab.get S)) (lim tab.get S 164 q) q x0 x1 x2 x3 x4 h:=(qAA k164 q 0 _ h).trans (e164_0 ..).symm
theorem w164_1(S:Oracle)(q:Nat)(x0 x1 x2 x3 x4:TVal)(h:Heap):lim tab.get S 164 q 1 [x0,x1,x2,x3,x4] h=b164_1 (orc S (lim tab.get S)) (lim tab.get S 164 q) q x0 x1 x2 x3 x4 h:=(qAA k164 q 1 _ h).trans (e164_1 ..).symm
theorem w164_2(S:Oracle)(q:Nat)(x0 x1 x2 x3:TVal)(h:Heap):lim tab.get S 164 q 2 [x0,x1,x2,x3] h=b164_2 (orc S (lim tab.get S)) (lim tab.get S 164 q) q x0 x1 x2 x3 h:=(qAA k164 q 2 _ h).trans (e164_2 ..).symm
theorem k169:tab.get 169=some c169:=by kernel_rfl
theorem w169_0(S:Oracle)(q:Nat)(x0 x1:TVal)(h:Heap):lim tab.get S 169 q 0 [x0,x1] h=b169_0 (orc S (lim tab.get S)) (lim tab.get S 169 q) q x0 x1 h:=(qAA k169 q 0 _ h).trans (e169_0 ..).symm
theorem k170:tab.get 170=some c170:=by kernel_rfl
theorem w170_0(S:Oracle)(q:Nat)(x0 x1 x2 x3 x4:TVal)(h:Heap):lim tab.get S 170 q 0 [x0,x1,x2,x3,x4] h=b170_0 (orc S (lim tab.get S)) (lim tab.get S 170 q) q x0 x1 x2 x3 x4 h:=(qAA k170 q 0 _ h).trans (e170_0 ..).symm
theorem w170_1(S:Oracle)(q:Nat)(x0 x1 x2 x3 x4:TVal)(h:Heap):lim tab.get S 170 q 1 [x0,x1,x2,x3,x4] h=b170_1 (orc S (lim tab.get S)) (lim tab.get S 170 q) q x0 x1 x2 x3 x4 h:=(qAA k170 q 1 _ h).trans (e170_1 ..).symm
theorem k171:tab.get 171=some c171:=by kernel_rfl
theorem w171_0(S:Oracle)(q:Nat)(x0 x1:TVal)(h:Heap):lim tab.get S 171 q 0 [x0,x1] h=b171_0 (orc S (lim tab.get S)) (lim tab.get S 171 q) q x0 x1 h:=(qAA k171 q 0 _ h).trans (e171_0 ..).symm
theorem w171_1(S:Oracle)(q:Nat)(x0 x1 x2 x3:TVal)(h:Heap):lim tab.get S 171 q 1 [x0,x1,x2,x3] h=b171_1 (orc S (lim tab.get S)) (lim tab.get S 171 q) q x0 x1 x2 x3 h:=(qAA k171 q 1 _ h).trans (e171_1 ..).symm
theorem w171_2(S:Oracle)(q:Nat)(h:Heap):lim tab.get S 171 q 2 [] h=b171_2 (orc S (lim tab.get S)) (lim tab.get S 171 q) q  h:=(qAA k171 q 2 _ h).trans (e171_2 ..).symm
theorem w171_3(S:Oracle)(q:Nat)(x0 x1:TVal)(h:Heap):lim tab.get S 171 q 3 [x0,x1] h=b171_3 (orc S (lim tab.get S)) (lim tab.get S 171 q) q x0 x1 h:=(qAA k171 q 3 _ h).trans (e171_3 ..).symm
theorem w171_4(S:Oracle)(q:Nat)(x0 x1 x2 x3:TVal)(h:Heap):lim tab.get S 171 q 4 [x0,x1,x2,x3] h=b171_4 (orc S (lim tab.get S)) (lim tab.get S 171 q) q x0 x1 x2 x3 h:=(qAA k171 q 4 _ h).trans (e171_4 ..).symm
theorem k172:tab.get 172=some c172:=by kernel_rfl
theorem w172_0(S:Oracle)(q:Nat)(x0 x1:TVal)(h:Heap):lim tab.get S 172 q 0 [x0,x1] h=b172_0 (orc S (lim tab.get S)) (lim tab.get S 172 q) q x0 x1 h:=(qAA k172 q 0 _ h).trans (e172_0 ..).symm
theorem w172_1(S:Oracle)(q:Nat)(x0 x1 x2 x3:TVal)(h:Heap):lim tab.get S 172 q 1 [x0,x1,x2,x3] h=b172_1 (orc S (lim tab.get S)) (lim tab.get S 172 q) q x0 x1 x2 x3 h:=(qAA k172 q 1 _ h).trans (e172_1 ..).symm
theorem w172_2(S:Oracle)(q:Nat)(h:Heap):lim tab.get S 172 q 2 [] h=b172_2 (orc S (lim tab.get S)) (lim tab.get S 172 q) q  h:=(qAA k172 q 2 _ h).trans (e172_2 ..).symm
theorem w172_3(S:Oracle)(q:Nat)(x0 x1:TVal)(h:Heap):lim tab.get S 172 q 3 [x0,x1] h=b172_3 (orc S (lim tab.get S)) (lim tab.get S 172 q) q x0 x1 h:=(qAA k172 q 3 _ h).trans (e172_3 ..).symm
theorem w172_4(S:Oracle)(q:Nat)(x0 x1 x2 x3:TVal)(h:Heap):lim tab.get S 172 q 4 [x0,x1,x2,x3] h=b172_4 (orc S (lim tab.get S)) (lim tab.get S 172 q) q x0 x1 x2 x3 h:=(qAA k172 q 4 _ h).trans (e172_4 ..).symm
end Go.Proofs.YtnlmlcfipbnpgaaDoor.Ab
