/- The machine's equations,a piece at a time. Own work,printed by a program of our own; no condition. -/
import Derived.Test.YtnlmlcfipbnpgaaDoorTabO
namespace Go.Proofs.YtnlmlcfipbnpgaaDoor.Ab
open Go Go.AI
set_option linter.all false
set_option linter.unusedVariables false
set_option maxRecDepth 100000
theorem k6:tab.get 6=some c6:=by kernel_rfl
theorem w6_0(S q x0 x1 x2 h):lim tab.get S 6 q 0 [x0,x1,x2] h=b6_0 (orc S (lim tab.get S)) (lim tab.get S 6 q) q x0 x1 x2 h:=(qAA k6 q 0 _ h).trans (e6_0 ..).symm
theorem w6_1(S q x0 x1 x2 x3 x4 h):lim tab.get S 6 q 1 [x0,x1,x2,x3,x4] h=b6_1 (orc S (lim tab.get S)) (lim tab.get S 6 q) q x0 x1 x2 x3 x4 h:=(qAA k6 q 1 _ h).trans (e6_1 ..).symm
theorem w6_2(S q x0 x1 x2 x3 x4 x5 x6 h):lim tab.get S 6 q 2 [x0,x1,x2,x3,x4,x5,x6] h=b6_2 (orc S (lim tab.get S)) (lim tab.get S 6 q) q x0 x1 x2 x3 x4 x5 x6 h:=(qAA k6 q 2 _ h).trans (e6_2 ..).symm
theorem w6_3(S q x0 x1 x2 x3 x4 x5 h):lim tab.get S 6 q 3 [x0,x1,x2,x3,x4,x5] h=b6_3 (orc S (lim tab.get S)) (lim tab.get S 6 q) q x0 x1 x2 x3 x4 x5 h:=(qAA k6 q 3 _ h).trans (e6_3 ..).symm
theorem w6_4(S q x0 x1 x2 x3 x4 h):lim tab.get S 6 q 4 [x0,x1,x2,x3,x4] h=b6_4 (orc S (lim tab.get S)) (lim tab.get S 6 q) q x0 x1 x2 x3 x4 h:=(qAA k6 q 4 _ h).trans (e6_4 ..).symm
theorem w6_5(S q x0 x1 x2 h):lim tab.get S 6 q 5 [x0,x1,x2] h=b6_5 (orc S (lim tab.get S)) (lim tab.get S 6 q) q x0 x1 x2 h:=(qAA k6 q 5 _ h).trans (e6_5 ..).symm
theorem w6_6(S q x0 x1 x2 x3 x4 x5 x6 x7 h):lim tab.get S 6 q 6 [x0,x1,x2,x3,x4,x5,x6,x7] h=b6_6 (orc S (lim tab.get S)) (lim tab.get S 6 q) q x0 x1 x2 x3 x4 x5 x6 x7 h:=(qAA k6 q 6 _ h).trans (e6_6 ..).symm
theorem w6_7(S q x0 x1 x2 x3 x4 x5 x6 x7 x8 x9 x10 h):lim tab.get S 6 q 7 [x0,x1,x2,x3,x4,x5,x6,x7,x8,x9,x10] h=b6_7 (orc S (lim tab.get S)) (lim tab.get S 6 q) q x0 x1 x2 x3 x4 x5 x6 x7 x8 x9 x10 h:=(qAA k6 q 7 _ h).trans (e6_7 ..).symm
theorem w6_8(S q x0 x1 x2 x3 x4 x5 h):lim tab.get S 6 q 8 [x0,x1,x2,x3,x4,x5] h=b6_8 (orc S (lim tab.get S)) (lim tab.get S 6 q) q x0 x1 x2 x3 x4 x5 h:=(qAA k6 q 8 _ h).trans (e6_8 ..).symm
theorem w6_9(S q x0 x1 x2 x3 x4 h):lim tab.get S 6 q 9 [x0,x1,x2,x3,x4] h=b6_9 (orc S (lim tab.get S)) (lim tab.get S 6 q) q x0 x1 x2 x3 x4 h:=(qAA k6 q 9 _ h).trans (e6_9 ..).symm
theorem k10:tab.get 10=some c10:=by kernel_rfl
theorem w10_0(S q h):lim tab.get S 10 q 0 [] h=b10_0 (orc S (lim tab.get S)) (lim tab.get S 10 q) q  h:=(qAA k10 q 0 _ h).trans (e10_0 ..).symm
theorem k14:tab.get 14=some c14:=by kernel_rfl
theorem w14_0(S q x0 h):lim tab.get S 14 q 0 [x0] h=b14_0 (orc S (lim tab.get S)) (lim tab.get S 14 q) q x0 h:=(qAA k14 q 0 _ h).trans (e14_0 ..).symm
theorem w14_1(S q x0 x1 x2 x3 h):lim tab.get S 14 q 1 [x0,x1,x2,x3] h=b14_1 (orc S (lim tab.get S)) (lim tab.get S 14 q) q x0 x1 x2 x3 h:=(qAA k14 q 1 _ h).trans (e14_1 ..).symm
theorem k16:tab.get 16=some c16:=by kernel_rfl
theorem w16_0(S q x0 h):lim tab.get S 16 q 0 [x0] h=b16_0 (orc S (lim tab.get S)) (lim tab.get S 16 q) q x0 h:=(qAA k16 q 0 _ h).trans (e16_0 ..).symm
theorem k17:tab.get 17=some c17:=by kernel_rfl
theorem w17_0(S q x0 x1 h):lim tab.get S 17 q 0 [x0,x1] h=b17_0 (orc S (lim tab.get S)) (lim tab.get S 17 q) q x0 x1 h:=(qAA k17 q 0 _ h).trans (e17_0 ..).symm
theorem w17_1(S q x0 x1 x2 h):lim tab.get S 17 q 1 [x0,x1,x2] h=b17_1 (orc S (lim tab.get S)) (lim tab.get S 17 q) q x0 x1 x2 h:=(qAA k17 q 1 _ h).trans (e17_1 ..).symm
theorem w17_2(S q x0 x1 h):lim tab.get S 17 q 2 [x0,x1] h=b17_2 (orc S (lim tab.get S)) (lim tab.get S 17 q) q x0 x1 h:=(qAA k17 q 2 _ h).trans (e17_2 ..).symm
theorem w17_3(S q x0 x1 x2 h):lim tab.get S 17 q 3 [x0,x1,x2] h=b17_3 (orc S (lim tab.get S)) (lim tab.get S 17 q) q x0 x1 x2 h:=(qAA k17 q 3 _ h).trans (e17_3 ..).symm
theorem k19:tab.get 19=some c19:=by kernel_rfl
theorem w19_0(S q x0 x1 h):lim tab.get S 19 q 0 [x0,x1] h=b19_0 (orc S (lim tab.get S)) (lim tab.get S 19 q) q x0 x1 h:=(qAA k19 q 0 _ h).trans (e19_0 ..).symm
theorem k21:tab.get 21=some c21:=by kernel_rfl
theorem w21_0(S q x0 h):lim tab.get S 21 q 0 [x0] h=b21_0 (orc S (lim tab.get S)) (lim tab.get S 21 q) q x0 h:=(qAA k21 q 0 _ h).trans (e21_0 ..).symm
theorem k22:tab.get 22=some c22:=by kernel_rfl
theorem w22_0(S q x0 h):lim tab.get S 22 q 0 [x0] h=b22_0 (orc S (lim tab.get S)) (lim tab.get S 22 q) q x0 h:=(qAA k22 q 0 _ h).trans (e22_0 ..).symm
theorem w22_1(S q x0 x1 x2 h):lim tab.get S 22 q 1 [x0,x1,x2] h=b22_1 (orc S (lim tab.get S)) (lim tab.get S 22 q) q x0 x1 x2 h:=(qAA k22 q 1 _ h).trans (e22_1 ..).symm
theorem w22_2(S q x0 x1 x2 h):lim tab.get S 22 q 2 [x0,x1,x2] h=b22_2 (orc S (lim tab.get S)) (lim tab.get S 22 q) q x0 x1 x2 h:=(qAA k22 q 2 _ h).trans (e22_2 ..).symm
theorem w22_3(S q x0 x1 x2 h):lim tab.get S 22 q 3 [x0,x1,x2] h=b22_3 (orc S (lim tab.get S)) (lim tab.get S 22 q) q x0 x1 x2 h:=(qAA k22 q 3 _ h).trans (e22_3 ..).symm
theorem w22_4(S q x0 x1 x2 x3 x4 h):lim tab.get S 22 q 4 [x0,x1,x2,x3,x4] h=b22_4 (orc S (lim tab.get S)) (lim tab.get S 22 q) q x0 x1 x2 x3 x4 h:=(qAA k22 q 4 _ h).trans (e22_4 ..).symm
theorem w22_5(S q x0 x1 x2 h):lim tab.get S 22 q 5 [x0,x1,x2] h=b22_5 (orc S (lim tab.get S)) (lim tab.get S 22 q) q x0 x1 x2 h:=(qAA k22 q 5 _ h).trans (e22_5 ..).symm
theorem w22_6(S q x0 x1 x2 x3 x4 h):lim tab.get S 22 q 6 [x0,x1,x2,x3,x4] h=b22_6 (orc S (lim tab.get S)) (lim tab.get S 22 q) q x0 x1 x2 x3 x4 h:=(qAA k22 q 6 _ h).trans (e22_6 ..).symm
theorem w22_7(S q x0 x1 x2 h):lim tab.get S 22 q 7 [x0,x1,x2] h=b22_7 (orc S (lim tab.get S)) (lim tab.get S 22 q) q x0 x1 x2 h:=(qAA k22 q 7 _ h).trans (e22_7 ..).symm
theorem k23:tab.get 23=some c23:=by kernel_rfl
theorem w23_0(S q x0 x1 h):lim tab.get S 23 q 0 [x0,x1] h=b23_0 (orc S (lim tab.get S)) (lim tab.get S 23 q) q x0 x1 h:=(qAA k23 q 0 _ h).trans (e23_0 ..).symm
theorem w23_1(S q x0 x1 x2 h):lim tab.get S 23 q 1 [x0,x1,x2] h=b23_1 (orc S (lim tab.get S)) (lim tab.get S 23 q) q x0 x1 x2 h:=(qAA k23 q 1 _ h).trans (e23_1 ..).symm
theorem w23_2(S q x0 x1 h):lim tab.get S 23 q 2 [x0,x1] h=b23_2 (orc S (lim tab.get S)) (lim tab.get S 23 q) q x0 x1 h:=(qAA k23 q 2 _ h).trans (e23_2 ..).symm
theorem w23_3(S q x0 x1 x2 h):lim tab.get S 23 q 3 [x0,x1,x2] h=b23_3 (orc S (lim tab.get S)) (lim tab.get S 23 q) q x0 x1 x2 h:=(qAA k23 q 3 _ h).trans (e23_3 ..).symm
theorem w23_4(S q x0 x1 x2 x3 x4 x5 h):lim tab.get S 23 q 4 [x0,x1,x2,x3,x4,x5] h=b23_4 (orc S (lim tab.get S)) (lim tab.get S 23 q) q x0 x1 x2 x3 x4 x5 h:=(qAA k23 q 4 _ h).trans (e23_4 ..).symm
theorem w23_5(S q x0 x1 x2 h):lim tab.get S 23 q 5 [x0,x1,x2] h=b23_5 (orc S (lim tab.get S)) (lim tab.get S 23 q) q x0 x1 x2 h:=(qAA k23 q 5 _ h).trans (e23_5 ..).symm
theorem k31:tab.get 31=some c31:=by kernel_rfl
theorem w31_0(S q x0 h):lim tab.get S 31 q 0 [x0] h=b31_0 (orc S (lim tab.get S)) (lim tab.get S 31 q) q x0 h:=(qAA k31 q 0 _ h).trans (e31_0 ..).symm
theorem w31_1(S q x0 x1 x2 x3 x4 h):lim tab.get S 31 q 1 [x0,x1,x2,x3,x4] h=b31_1 (orc S (lim tab.get S)) (lim tab.get S 31 q) q x0 x1 x2 x3 x4 h:=(qAA k31 q 1 _ h).trans (e31_1 ..).symm
theorem w31_2(S q x0 x1 x2 x3 x4 h):lim tab.get S 31 q 2 [x0,x1,x2,x3,x4] h=b31_2 (orc S (lim tab.get S)) (lim tab.get S 31 q) q x0 x1 x2 x3 x4 h:=(qAA k31 q 2 _ h).trans (e31_2 ..).symm
theorem w31_3(S q x0 h):lim tab.get S 31 q 3 [x0] h=b31_3 (orc S (lim tab.get S)) (lim tab.get S 31 q) q x0 h:=(qAA k31 q 3 _ h).trans (e31_3 ..).symm
theorem k32:tab.get 32=some c32:=by kernel_rfl
theorem w32_0(S q x0 h):lim tab.get S 32 q 0 [x0] h=b32_0 (orc S (lim tab.get S)) (lim tab.get S 32 q) q x0 h:=(qAA k32 q 0 _ h).trans (e32_0 ..).symm
theorem k33:tab.get 33=some c33:=by kernel_rfl
theorem w33_0(S q x0 h):lim tab.get S 33 q 0 [x0] h=b33_0 (orc S (lim tab.get S)) (lim tab.get S 33 q) q x0 h:=(qAA k33 q 0 _ h).trans (e33_0 ..).symm
theorem k34:tab.get 34=some c34:=by kernel_rfl
theorem w34_0(S q x0 x1 h):lim tab.get S 34 q 0 [x0,x1] h=b34_0 (orc S (lim tab.get S)) (lim tab.get S 34 q) q x0 x1 h:=(qAA k34 q 0 _ h).trans (e34_0 ..).symm
theorem w34_1(S q x0 x1 x2 x3 h):lim tab.get S 34 q 1 [x0,x1,x2,x3] h=b34_1 (orc S (lim tab.get S)) (lim tab.get S 34 q) q x0 x1 x2 x3 h:=(qAA k34 q 1 _ h).trans (e34_1 ..).symm
theorem w34_2(S q x0 x1 x2 x3 x4 h):lim tab.get S 34 q 2 [x0,x1,x2,x3,x4] h=b34_2 (orc S (lim tab.get S)) (lim tab.get S 34 q) q x0 x1 x2 x3 x4 h:=(qAA k34 q 2 _ h).trans (e34_2 ..).symm
theorem w34_3(S q x0 x1 h):lim tab.get S 34 q 3 [x0,x1] h=b34_3 (orc S (lim tab.get S)) (lim tab.get S 34 q) q x0 x1 h:=(qAA k34 q 3 _ h).trans (e34_3 ..).symm
theorem k35:tab.get 35=some c35:=by kernel_rfl
theorem w35_0(S q x0 h):lim tab.get S 35 q 0 [x0] h=b35_0 (orc S (lim tab.get S)) (lim tab.get S 35 q) q x0 h:=(qAA k35 q 0 _ h).trans (e35_0 ..).symm
theorem k39:tab.get 39=some c39:=by kernel_rfl
theorem w39_0(S q x0 x1 h):lim tab.get S 39 q 0 [x0,x1] h=b39_0 (orc S (lim tab.get S)) (lim tab.get S 39 q) q x0 x1 h:=(qAA k39 q 0 _ h).trans (e39_0 ..).symm
theorem k40:tab.get 40=some c40:=by kernel_rfl
theorem w40_0(S q x0 x1 h):lim tab.get S 40 q 0 [x0,x1] h=b40_0 (orc S (lim tab.get S)) (lim tab.get S 40 q) q x0 x1 h:=(qAA k40 q 0 _ h).trans (e40_0 ..).symm
theorem k41:tab.get 41=some c41:=by kernel_rfl
theorem w41_0(S q x0 x1 h):lim tab.get S 41 q 0 [x0,x1] h=b41_0 (orc S (lim tab.get S)) (lim tab.get S 41 q) q x0 x1 h:=(qAA k41 q 0 _ h).trans (e41_0 ..).symm
theorem k42:tab.get 42=some c42:=by kernel_rfl
theorem w42_0(S q x0 h):lim tab.get S 42 q 0 [x0] h=b42_0 (orc S (lim tab.get S)) (lim tab.get S 42 q) q x0 h:=(qAA k42 q 0 _ h).trans (e42_0 ..).symm
theorem k43:tab.get 43=some c43:=by kernel_rfl
theorem w43_0(S q x0 h):lim tab.get S 43 q 0 [x0] h=b43_0 (orc S (lim tab.get S)) (lim tab.get S 43 q) q x0 h:=(qAA k43 q 0 _ h).trans (e43_0 ..).symm
theorem k44:tab.get 44=some c44:=by kernel_rfl
theorem w44_0(S q x0 x1 h):lim tab.get S 44 q 0 [x0,x1] h=gE_0 5 94 95 124 150 68 (orc S (lim tab.get S)) (lim tab.get S 44 q) q x0 x1 h:=(qAA k44 q 0 _ h).trans (e44_0 ..).symm
theorem k45:tab.get 45=some c45:=by kernel_rfl
theorem w45_0(S q x0 x1 h):lim tab.get S 45 q 0 [x0,x1] h=b45_0 (orc S (lim tab.get S)) (lim tab.get S 45 q) q x0 x1 h:=(qAA k45 q 0 _ h).trans (e45_0 ..).symm
theorem k46:tab.get 46=some c46:=by kernel_rfl
theorem w46_0(S q x0 x1 h):lim tab.get S 46 q 0 [x0,x1] h=b46_0 (orc S (lim tab.get S)) (lim tab.get S 46 q) q x0 x1 h:=(qAA k46 q 0 _ h).trans (e46_0 ..).symm
theorem k47:tab.get 47=some c47:=by kernel_rfl
theorem w47_0(S q x0 x1 h):lim tab.get S 47 q 0 [x0,x1] h=gE_0 6 96 97 125 151 70 (orc S (lim tab.get S)) (lim tab.get S 47 q) q x0 x1 h:=(qAA k47 q 0 _ h).trans (e47_0 ..).symm
theorem k48:tab.get 48=some c48:=by kernel_rfl
theorem w48_0(S q x0 x1 h):lim tab.get S 48 q 0 [x0,x1] h=b48_0 (orc S (lim tab.get S)) (lim tab.get S 48 q) q x0 x1 h:=(qAA k48 q 0 _ h).trans (e48_0 ..).symm
theorem k54:tab.get 54=some c54:=by kernel_rfl
theorem w54_0(S q x0 h):lim tab.get S 54 q 0 [x0] h=b54_0 (orc S (lim tab.get S)) (lim tab.get S 54 q) q x0 h:=(qAA k54 q 0 _ h).trans (e54_0 ..).symm
theorem w54_1(S q x0 x1 x2 h):lim tab.get S 54 q 1 [x0,x1,x2] h=b54_1 (orc S (lim tab.get S)) (lim tab.get S 54 q) q x0 x1 x2 h:=(qAA k54 q 1 _ h).trans (e54_1 ..).symm
theorem w54_2(S q x0 x1 x2 h):lim tab.get S 54 q 2 [x0,x1,x2] h=b54_2 (orc S (lim tab.get S)) (lim tab.get S 54 q) q x0 x1 x2 h:=(qAA k54 q 2 _ h).trans (e54_2 ..).symm
theorem w54_3(S q x0 x1 x2 h):lim tab.get S 54 q 3 [x0,x1,x2] h=b54_3 (orc S (lim tab.get S)) (lim tab.get S 54 q) q x0 x1 x2 h:=(qAA k54 q 3 _ h).trans (e54_3 ..).symm
theorem w54_4(S q x0 h):lim tab.get S 54 q 4 [x0] h=b54_4 (orc S (lim tab.get S)) (lim tab.get S 54 q) q x0 h:=(qAA k54 q 4 _ h).trans (e54_4 ..).symm
theorem k55:tab.get 55=some c55:=by kernel_rfl
theorem w55_0(S q x0 h):lim tab.get S 55 q 0 [x0] h=b55_0 (orc S (lim tab.get S)) (lim tab.get S 55 q) q x0 h:=(qAA k55 q 0 _ h).trans (e55_0 ..).symm
theorem k56:tab.get 56=some c56:=by kernel_rfl
theorem w56_0(S q x0 x1 h):lim tab.get S 56 q 0 [x0,x1] h=b56_0 (orc S (lim tab.get S)) (lim tab.get S 56 q) q x0 x1 h:=(qAA k56 q 0 _ h).trans (e56_0 ..).symm
theorem k57:tab.get 57=some c57:=by kernel_rfl
theorem w57_0(S q x0 x1 x2 h):lim tab.get S 57 q 0 [x0,x1,x2] h=b57_0 (orc S (lim tab.get S)) (lim tab.get S 57 q) q x0 x1 x2 h:=(qAA k57 q 0 _ h).trans (e57_0 ..).symm
theorem w57_1(S q x0 x1 x2 x3 x4 x5 x6 h):lim tab.get S 57 q 1 [x0,x1,x2,x3,x4,x5,x6] h=b57_1 (orc S (lim tab.get S)) (lim tab.get S 57 q) q x0 x1 x2 x3 x4 x5 x6 h:=(qAA k57 q 1 _ h).trans (e57_1 ..).symm
theorem w57_2(S q x0 x1 h):lim tab.get S 57 q 2 [x0,x1] h=b57_2 (orc S (lim tab.get S)) (lim tab.get S 57 q) q x0 x1 h:=(qAA k57 q 2 _ h).trans (e57_2 ..).symm
theorem k65:tab.get 65=some c65:=by kernel_rfl
theorem w65_0(S q x0 h):lim tab.get S 65 q 0 [x0] h=b65_0 (orc S (lim tab.get S)) (lim tab.get S 65 q) q x0 h:=(qAA k65 q 0 _ h).trans (e65_0 ..).symm
theorem k66:tab.get 66=some c66:=by kernel_rfl
theorem w66_0(S q x0 x1 x2 h):lim tab.get S 66 q 0 [x0,x1,x2] h=b66_0 (orc S (lim tab.get S)) (lim tab.get S 66 q) q x0 x1 x2 h:=(qAA k66 q 0 _ h).trans (e66_0 ..).symm
theorem w66_1(S q x0 x1 x2 h):lim tab.get S 66 q 1 [x0,x1,x2] h=b66_1 (orc S (lim tab.get S)) (lim tab.get S 66 q) q x0 x1 x2 h:=(qAA k66 q 1 _ h).trans (e66_1 ..).symm
theorem w66_2(S q x0 x1 h):lim tab.get S 66 q 2 [x0,x1] h=b66_2 (orc S (lim tab.get S)) (lim tab.get S 66 q) q x0 x1 h:=(qAA k66 q 2 _ h).trans (e66_2 ..).symm
theorem k67:tab.get 67=some c67:=by kernel_rfl
theorem w67_0(S q x0 x1 h):lim tab.get S 67 q 0 [x0,x1] h=b67_0 (orc S (lim tab.get S)) (lim tab.get S 67 q) q x0 x1 h:=(qAA k67 q 0 _ h).trans (e67_0 ..).symm
theorem k68:tab.get 68=some c68:=by kernel_rfl
theorem w68_0(S q x0 x1 x2 h):lim tab.get S 68 q 0 [x0,x1,x2] h=gT_0 5 94 95 124 150 68 (orc S (lim tab.get S)) (lim tab.get S 68 q) q x0 x1 x2 h:=(qAA k68 q 0 _ h).trans (e68_0 ..).symm
theorem w68_1(S q x0 x1 x2 x3 x4 x5 h):lim tab.get S 68 q 1 [x0,x1,x2,x3,x4,x5] h=gT_1 5 94 95 124 150 68 (orc S (lim tab.get S)) (lim tab.get S 68 q) q x0 x1 x2 x3 x4 x5 h:=(qAA k68 q 1 _ h).trans (e68_1 ..).symm
theorem w68_2(S q x0 x1 x2 x3 x4 h):lim tab.get S 68 q 2 [x0,x1,x2,x3,x4] h=gT_2 5 94 95 124 150 68 (orc S (lim tab.get S)) (lim tab.get S 68 q) q x0 x1 x2 x3 x4 h:=(qAA k68 q 2 _ h).trans (e68_2 ..).symm
theorem w68_3(S q x0 x1 x2 x3 h):lim tab.get S 68 q 3 [x0,x1,x2,x3] h=gT_3 5 94 95 124 150 68 (orc S (lim tab.get S)) (lim tab.get S 68 q) q x0 x1 x2 x3 h:=(qAA k68 q 3 _ h).trans (e68_3 ..).symm
theorem w68_4(S q x0 x1 x2 x3 x4 x5 h):lim tab.get S 68 q 4 [x0,x1,x2,x3,x4,x5] h=gT_4 5 94 95 124 150 68 (orc S (lim tab.get S)) (lim tab.get S 68 q) q x0 x1 x2 x3 x4 x5 h:=(qAA k68 q 4 _ h).trans (e68_4 ..).symm
theorem w68_5(S q x0 x1 x2 x3 x4 h):lim tab.get S 68 q 5 [x0,x1,x2,x3,x4] h=gT_5 5 94 95 124 150 68 (orc S (lim tab.get S)) (lim tab.get S 68 q) q x0 x1 x2 x3 x4 h:=(qAA k68 q 5 _ h).trans (e68_5 ..).symm
theorem w68_6(S q x0 x1 x2 x3 h):lim tab.get S 68 q 6 [x0,x1,x2,x3] h=gT_6 5 94 95 124 150 68 (orc S (lim tab.get S)) (lim tab.get S 68 q) q x0 x1 x2 x3 h:=(qAA k68 q 6 _ h).trans (e68_6 ..).symm
theorem k69:tab.get 69=some c69:=by kernel_rfl
theorem w69_0(S q x0 h):lim tab.get S 69 q 0 [x0] h=b69_0 (orc S (lim tab.get S)) (lim tab.get S 69 q) q x0 h:=(qAA k69 q 0 _ h).trans (e69_0 ..).symm
theorem k70:tab.get 70=some c70:=by kernel_rfl
theorem w70_0(S q x0 x1 x2 h):lim tab.get S 70 q 0 [x0,x1,x2] h=gT_0 6 96 97 125 151 70 (orc S (lim tab.get S)) (lim tab.get S 70 q) q x0 x1 x2 h:=(qAA k70 q 0 _ h).trans (e70_0 ..).symm
theorem w70_1(S q x0 x1 x2 x3 x4 x5 h):lim tab.get S 70 q 1 [x0,x1,x2,x3,x4,x5] h=gT_1 6 96 97 125 151 70 (orc S (lim tab.get S)) (lim tab.get S 70 q) q x0 x1 x2 x3 x4 x5 h:=(qAA k70 q 1 _ h).trans (e70_1 ..).symm
theorem w70_2(S q x0 x1 x2 x3 x4 h):lim tab.get S 70 q 2 [x0,x1,x2,x3,x4] h=gT_2 6 96 97 125 151 70 (orc S (lim tab.get S)) (lim tab.get S 70 q) q x0 x1 x2 x3 x4 h:=(qAA k70 q 2 _ h).trans (e70_2 ..).symm
theorem w70_3(S q x0 x1 x2 x3 h):lim tab.get S 70 q 3 [x0,x1,x2,x3] h=gT_3 6 96 97 125 151 70 (orc S (lim tab.get S)) (lim tab.get S 70 q) q x0 x1 x2 x3 h:=(qAA k70 q 3 _ h).trans (e70_3 ..).symm
theorem w70_4(S q x0 x1 x2 x3 x4 x5 h):lim tab.get S 70 q 4 [x0,x1,x2,x3,x4,x5] h=gT_4 6 96 97 125 151 70 (orc S (lim tab.get S)) (lim tab.get S 70 q) q x0 x1 x2 x3 x4 x5 h:=(qAA k70 q 4 _ h).trans (e70_4 ..).symm
theorem w70_5(S q x0 x1 x2 x3 x4 h):lim tab.get S 70 q 5 [x0,x1,x2,x3,x4] h=gT_5 6 96 97 125 151 70 (orc S (lim tab.get S)) (lim tab.get S 70 q) q x0 x1 x2 x3 x4 h:=(qAA k70 q 5 _ h).trans (e70_5 ..).symm
theorem w70_6(S q x0 x1 x2 x3 h):lim tab.get S 70 q 6 [x0,x1,x2,x3] h=gT_6 6 96 97 125 151 70 (orc S (lim tab.get S)) (lim tab.get S 70 q) q x0 x1 x2 x3 h:=(qAA k70 q 6 _ h).trans (e70_6 ..).symm
theorem k71:tab.get 71=some c71:=by kernel_rfl
theorem w71_0(S q x0 x1 h):lim tab.get S 71 q 0 [x0,x1] h=b71_0 (orc S (lim tab.get S)) (lim tab.get S 71 q) q x0 x1 h:=(qAA k71 q 0 _ h).trans (e71_0 ..).symm
theorem k84:tab.get 84=some c84:=by kernel_rfl
theorem w84_0(S q x0 x1 h):lim tab.get S 84 q 0 [x0,x1] h=b84_0 (orc S (lim tab.get S)) (lim tab.get S 84 q) q x0 x1 h:=(qAA k84 q 0 _ h).trans (e84_0 ..).symm
theorem k85:tab.get 85=some c85:=by kernel_rfl
theorem w85_0(S q x0 h):lim tab.get S 85 q 0 [x0] h=b85_0 (orc S (lim tab.get S)) (lim tab.get S 85 q) q x0 h:=(qAA k85 q 0 _ h).trans (e85_0 ..).symm
theorem w85_1(S q x0 x1 x2 x3 h):lim tab.get S 85 q 1 [x0,x1,x2,x3] h=b85_1 (orc S (lim tab.get S)) (lim tab.get S 85 q) q x0 x1 x2 x3 h:=(qAA k85 q 1 _ h).trans (e85_1 ..).symm
theorem k86:tab.get 86=some c86:=by kernel_rfl
theorem w86_0(S q x0 x1 x2 h):lim tab.get S 86 q 0 [x0,x1,x2] h=b86_0 (orc S (lim tab.get S)) (lim tab.get S 86 q) q x0 x1 x2 h:=(qAA k86 q 0 _ h).trans (e86_0 ..).symm
theorem k87:tab.get 87=some c87:=by kernel_rfl
theorem w87_0(S q x0 x1 h):lim tab.get S 87 q 0 [x0,x1] h=gE_0 5 148 149 164 170 123 (orc S (lim tab.get S)) (lim tab.get S 87 q) q x0 x1 h:=(qAA k87 q 0 _ h).trans (e87_0 ..).symm
theorem k88:tab.get 88=some c88:=by kernel_rfl
theorem w88_0(S q x0 x1 h):lim tab.get S 88 q 0 [x0,x1] h=b88_0 (orc S (lim tab.get S)) (lim tab.get S 88 q) q x0 x1 h:=(qAA k88 q 0 _ h).trans (e88_0 ..).symm
theorem k94:tab.get 94=some c94:=by kernel_rfl
theorem w94_0(S q x0 x1 x2 x3 h):lim tab.get S 94 q 0 [x0,x1,x2,x3] h=gI_0 5 94 95 124 150 68 (orc S (lim tab.get S)) (lim tab.get S 94 q) q x0 x1 x2 x3 h:=(qAA k94 q 0 _ h).trans (e94_0 ..).symm
theorem w94_1(S q x0 x1 x2 x3 x4 h):lim tab.get S 94 q 1 [x0,x1,x2,x3,x4] h=gI_1 5 94 95 124 150 68 (orc S (lim tab.get S)) (lim tab.get S 94 q) q x0 x1 x2 x3 x4 h:=(qAA k94 q 1 _ h).trans (e94_1 ..).symm
theorem w94_2(S q x0 x1 x2 x3 x4 x5 h):lim tab.get S 94 q 2 [x0,x1,x2,x3,x4,x5] h=gI_2 5 94 95 124 150 68 (orc S (lim tab.get S)) (lim tab.get S 94 q) q x0 x1 x2 x3 x4 x5 h:=(qAA k94 q 2 _ h).trans (e94_2 ..).symm
theorem w94_3(S q x0 x1 x2 x3 x4 h):lim tab.get S 94 q 3 [x0,x1,x2,x3,x4] h=gI_3 5 94 95 124 150 68 (orc S (lim tab.get S)) (lim tab.get S 94 q) q x0 x1 x2 x3 x4 h:=(qAA k94 q 3 _ h).trans (e94_3 ..).symm
theorem k95:tab.get 95=some c95:=by kernel_rfl
theorem w95_0(S q x0 x1 x2 x3 x4 h):lim tab.get S 95 q 0 [x0,x1,x2,x3,x4] h=gM_0 5 94 95 124 150 68 (orc S (lim tab.get S)) (lim tab.get S 95 q) q x0 x1 x2 x3 x4 h:=(qAA k95 q 0 _ h).trans (e95_0 ..).symm
theorem w95_1(S q x0 x1 x2 x3 x4 h):lim tab.get S 95 q 1 [x0,x1,x2,x3,x4] h=gM_1 5 94 95 124 150 68 (orc S (lim tab.get S)) (lim tab.get S 95 q) q x0 x1 x2 x3 x4 h:=(qAA k95 q 1 _ h).trans (e95_1 ..).symm
theorem w95_2(S q x0 x1 x2 h):lim tab.get S 95 q 2 [x0,x1,x2] h=gM_2 5 94 95 124 150 68 (orc S (lim tab.get S)) (lim tab.get S 95 q) q x0 x1 x2 h:=(qAA k95 q 2 _ h).trans (e95_2 ..).symm
theorem w95_3(S q x0 x1 x2 h):lim tab.get S 95 q 3 [x0,x1,x2] h=gM_3 5 94 95 124 150 68 (orc S (lim tab.get S)) (lim tab.get S 95 q) q x0 x1 x2 h:=(qAA k95 q 3 _ h).trans (e95_3 ..).symm
theorem w95_4(S q h):lim tab.get S 95 q 4 [] h=gM_4 5 94 95 124 150 68 (orc S (lim tab.get S)) (lim tab.get S 95 q) q  h:=(qAA k95 q 4 _ h).trans (e95_4 ..).symm
theorem w95_5(S q x0 x1 x2 x3 x4 h):lim tab.get S 95 q 5 [x0,x1,x2,x3,x4] h=gM_5 5 94 95 124 150 68 (orc S (lim tab.get S)) (lim tab.get S 95 q) q x0 x1 x2 x3 x4 h:=(qAA k95 q 5 _ h).trans (e95_5 ..).symm
theorem w95_6(S q x0 x1 x2 x3 x4 h):lim tab.get S 95 q 6 [x0,x1,x2,x3,x4] h=gM_6 5 94 95 124 150 68 (orc S (lim tab.get S)) (lim tab.get S 95 q) q x0 x1 x2 x3 x4 h:=(qAA k95 q 6 _ h).trans (e95_6 ..).symm
theorem w95_7(S q x0 x1 x2 h):lim tab.get S 95 q 7 [x0,x1,x2] h=gM_7 5 94 95 124 150 68 (orc S (lim tab.get S)) (lim tab.get S 95 q) q x0 x1 x2 h:=(qAA k95 q 7 _ h).trans (e95_7 ..).symm
theorem w95_8(S q x0 x1 x2 h):lim tab.get S 95 q 8 [x0,x1,x2] h=gM_8 5 94 95 124 150 68 (orc S (lim tab.get S)) (lim tab.get S 95 q) q x0 x1 x2 h:=(qAA k95 q 8 _ h).trans (e95_8 ..).symm
theorem w95_9(S q h):lim tab.get S 95 q 9 [] h=gM_9 5 94 95 124 150 68 (orc S (lim tab.get S)) (lim tab.get S 95 q) q  h:=(qAA k95 q 9 _ h).trans (e95_9 ..).symm
theorem w95_10(S q x0 x1 x2 x3 x4 h):lim tab.get S 95 q 10 [x0,x1,x2,x3,x4] h=gM_10 5 94 95 124 150 68 (orc S (lim tab.get S)) (lim tab.get S 95 q) q x0 x1 x2 x3 x4 h:=(qAA k95 q 10 _ h).trans (e95_10 ..).symm
theorem w95_11(S q x0 x1 x2 x3 x4 x5 x6 x7 x8 h):lim tab.get S 95 q 11 [x0,x1,x2,x3,x4,x5,x6,x7,x8] h=gM_11 5 94 95 124 150 68 (orc S (lim tab.get S)) (lim tab.get S 95 q) q x0 x1 x2 x3 x4 x5 x6 x7 x8 h:=(qAA k95 q 11 _ h).trans (e95_11 ..).symm
theorem w95_12(S q x0 x1 x2 x3 x4 x5 x6 x7 x8 x9 h):lim tab.get S 95 q 12 [x0,x1,x2,x3,x4,x5,x6,x7,x8,x9] h=gM_12 5 94 95 124 150 68 (orc S (lim tab.get S)) (lim tab.get S 95 q) q x0 x1 x2 x3 x4 x5 x6 x7 x8 x9 h:=(qAA k95 q 12 _ h).trans (e95_12 ..).symm
theorem w95_13(S q x0 x1 x2 x3 x4 x5 x6 x7 h):lim tab.get S 95 q 13 [x0,x1,x2,x3,x4,x5,x6,x7] h=gM_13 5 94 95 124 150 68 (orc S (lim tab.get S)) (lim tab.get S 95 q) q x0 x1 x2 x3 x4 x5 x6 x7 h:=(qAA k95 q 13 _ h).trans (e95_13 ..).symm
theorem w95_14(S q x0 x1 x2 x3 x4 x5 x6 h):lim tab.get S 95 q 14 [x0,x1,x2,x3,x4,x5,x6] h=gM_14 5 94 95 124 150 68 (orc S (lim tab.get S)) (lim tab.get S 95 q) q x0 x1 x2 x3 x4 x5 x6 h:=(qAA k95 q 14 _ h).trans (e95_14 ..).symm
theorem w95_15(S q x0 x1 x2 x3 x4 h):lim tab.get S 95 q 15 [x0,x1,x2,x3,x4] h=gM_15 5 94 95 124 150 68 (orc S (lim tab.get S)) (lim tab.get S 95 q) q x0 x1 x2 x3 x4 h:=(qAA k95 q 15 _ h).trans (e95_15 ..).symm
theorem k96:tab.get 96=some c96:=by kernel_rfl
theorem w96_0(S q x0 x1 x2 x3 h):lim tab.get S 96 q 0 [x0,x1,x2,x3] h=gI_0 6 96 97 125 151 70 (orc S (lim tab.get S)) (lim tab.get S 96 q) q x0 x1 x2 x3 h:=(qAA k96 q 0 _ h).trans (e96_0 ..).symm
theorem w96_1(S q x0 x1 x2 x3 x4 h):lim tab.get S 96 q 1 [x0,x1,x2,x3,x4] h=gI_1 6 96 97 125 151 70 (orc S (lim tab.get S)) (lim tab.get S 96 q) q x0 x1 x2 x3 x4 h:=(qAA k96 q 1 _ h).trans (e96_1 ..).symm
theorem w96_2(S q x0 x1 x2 x3 x4 x5 h):lim tab.get S 96 q 2 [x0,x1,x2,x3,x4,x5] h=gI_2 6 96 97 125 151 70 (orc S (lim tab.get S)) (lim tab.get S 96 q) q x0 x1 x2 x3 x4 x5 h:=(qAA k96 q 2 _ h).trans (e96_2 ..).symm
theorem w96_3(S q x0 x1 x2 x3 x4 h):lim tab.get S 96 q 3 [x0,x1,x2,x3,x4] h=gI_3 6 96 97 125 151 70 (orc S (lim tab.get S)) (lim tab.get S 96 q) q x0 x1 x2 x3 x4 h:=(qAA k96 q 3 _ h).trans (e96_3 ..).symm
theorem k97:tab.get 97=some c97:=by kernel_rfl
theorem w97_0(S q x0 x1 x2 x3 x4 h):lim tab.get S 97 q 0 [x0,x1,x2,x3,x4] h=gM_0 6 96 97 125 151 70 (orc S (lim tab.get S)) (lim tab.get S 97 q) q x0 x1 x2 x3 x4 h:=(qAA k97 q 0 _ h).trans (e97_0 ..).symm
theorem w97_1(S q x0 x1 x2 x3 x4 h):lim tab.get S 97 q 1 [x0,x1,x2,x3,x4] h=gM_1 6 96 97 125 151 70 (orc S (lim tab.get S)) (lim tab.get S 97 q) q x0 x1 x2 x3 x4 h:=(qAA k97 q 1 _ h).trans (e97_1 ..).symm
theorem w97_2(S q x0 x1 x2 h):lim tab.get S 97 q 2 [x0,x1,x2] h=gM_2 6 96 97 125 151 70 (orc S (lim tab.get S)) (lim tab.get S 97 q) q x0 x1 x2 h:=(qAA k97 q 2 _ h).trans (e97_2 ..).symm
theorem w97_3(S q x0 x1 x2 h):lim tab.get S 97 q 3 [x0,x1,x2] h=gM_3 6 96 97 125 151 70 (orc S (lim tab.get S)) (lim tab.get S 97 q) q x0 x1 x2 h:=(qAA k97 q 3 _ h).trans (e97_3 ..).symm
theorem w97_4(S q h):lim tab.get S 97 q 4 [] h=gM_4 6 96 97 125 151 70 (orc S (lim tab.get S)) (lim tab.get S 97 q) q  h:=(qAA k97 q 4 _ h).trans (e97_4 ..).symm
theorem w97_5(S q x0 x1 x2 x3 x4 h):lim tab.get S 97 q 5 [x0,x1,x2,x3,x4] h=gM_5 6 96 97 125 151 70 (orc S (lim tab.get S)) (lim tab.get S 97 q) q x0 x1 x2 x3 x4 h:=(qAA k97 q 5 _ h).trans (e97_5 ..).symm
theorem w97_6(S q x0 x1 x2 x3 x4 h):lim tab.get S 97 q 6 [x0,x1,x2,x3,x4] h=gM_6 6 96 97 125 151 70 (orc S (lim tab.get S)) (lim tab.get S 97 q) q x0 x1 x2 x3 x4 h:=(qAA k97 q 6 _ h).trans (e97_6 ..).symm
theorem w97_7(S q x0 x1 x2 h):lim tab.get S 97 q 7 [x0,x1,x2] h=gM_7 6 96 97 125 151 70 (orc S (lim tab.get S)) (lim tab.get S 97 q) q x0 x1 x2 h:=(qAA k97 q 7 _ h).trans (e97_7 ..).symm
theorem w97_8(S q x0 x1 x2 h):lim tab.get S 97 q 8 [x0,x1,x2] h=gM_8 6 96 97 125 151 70 (orc S (lim tab.get S)) (lim tab.get S 97 q) q x0 x1 x2 h:=(qAA k97 q 8 _ h).trans (e97_8 ..).symm
theorem w97_9(S q h):lim tab.get S 97 q 9 [] h=gM_9 6 96 97 125 151 70 (orc S (lim tab.get S)) (lim tab.get S 97 q) q  h:=(qAA k97 q 9 _ h).trans (e97_9 ..).symm
theorem w97_10(S q x0 x1 x2 x3 x4 h):lim tab.get S 97 q 10 [x0,x1,x2,x3,x4] h=gM_10 6 96 97 125 151 70 (orc S (lim tab.get S)) (lim tab.get S 97 q) q x0 x1 x2 x3 x4 h:=(qAA k97 q 10 _ h).trans (e97_10 ..).symm
theorem w97_11(S q x0 x1 x2 x3 x4 x5 x6 x7 x8 h):lim tab.get S 97 q 11 [x0,x1,x2,x3,x4,x5,x6,x7,x8] h=gM_11 6 96 97 125 151 70 (orc S (lim tab.get S)) (lim tab.get S 97 q) q x0 x1 x2 x3 x4 x5 x6 x7 x8 h:=(qAA k97 q 11 _ h).trans (e97_11 ..).symm
theorem w97_12(S q x0 x1 x2 x3 x4 x5 x6 x7 x8 x9 h):lim tab.get S 97 q 12 [x0,x1,x2,x3,x4,x5,x6,x7,x8,x9] h=gM_12 6 96 97 125 151 70 (orc S (lim tab.get S)) (lim tab.get S 97 q) q x0 x1 x2 x3 x4 x5 x6 x7 x8 x9 h:=(qAA k97 q 12 _ h).trans (e97_12 ..).symm
theorem w97_13(S q x0 x1 x2 x3 x4 x5 x6 x7 h):lim tab.get S 97 q 13 [x0,x1,x2,x3,x4,x5,x6,x7] h=gM_13 6 96 97 125 151 70 (orc S (lim tab.get S)) (lim tab.get S 97 q) q x0 x1 x2 x3 x4 x5 x6 x7 h:=(qAA k97 q 13 _ h).trans (e97_13 ..).symm
theorem w97_14(S q x0 x1 x2 x3 x4 x5 x6 h):lim tab.get S 97 q 14 [x0,x1,x2,x3,x4,x5,x6] h=gM_14 6 96 97 125 151 70 (orc S (lim tab.get S)) (lim tab.get S 97 q) q x0 x1 x2 x3 x4 x5 x6 h:=(qAA k97 q 14 _ h).trans (e97_14 ..).symm
theorem w97_15(S q x0 x1 x2 x3 x4 h):lim tab.get S 97 q 15 [x0,x1,x2,x3,x4] h=gM_15 6 96 97 125 151 70 (orc S (lim tab.get S)) (lim tab.get S 97 q) q x0 x1 x2 x3 x4 h:=(qAA k97 q 15 _ h).trans (e97_15 ..).symm
theorem k99:tab.get 99=some c99:=by kernel_rfl
theorem w99_0(S q x0 x1 h):lim tab.get S 99 q 0 [x0,x1] h=b99_0 (orc S (lim tab.get S)) (lim tab.get S 99 q) q x0 x1 h:=(qAA k99 q 0 _ h).trans (e99_0 ..).symm
theorem k107:tab.get 107=some c107:=by kernel_rfl
theorem w107_0(S q x0 h):lim tab.get S 107 q 0 [x0] h=b107_0 (orc S (lim tab.get S)) (lim tab.get S 107 q) q x0 h:=(qAA k107 q 0 _ h).trans (e107_0 ..).symm
theorem k108:tab.get 108=some c108:=by kernel_rfl
theorem w108_0(S q x0 h):lim tab.get S 108 q 0 [x0] h=b108_0 (orc S (lim tab.get S)) (lim tab.get S 108 q) q x0 h:=(qAA k108 q 0 _ h).trans (e108_0 ..).symm
theorem k118:tab.get 118=some c118:=by kernel_rfl
theorem w118_0(S q x0 h):lim tab.get S 118 q 0 [x0] h=b118_0 (orc S (lim tab.get S)) (lim tab.get S 118 q) q x0 h:=(qAA k118 q 0 _ h).trans (e118_0 ..).symm
theorem k119:tab.get 119=some c119:=by kernel_rfl
theorem w119_0(S q x0 h):lim tab.get S 119 q 0 [x0] h=b119_0 (orc S (lim tab.get S)) (lim tab.get S 119 q) q x0 h:=(qAA k119 q 0 _ h).trans (e119_0 ..).symm
theorem k120:tab.get 120=some c120:=by kernel_rfl
theorem w120_0(S q x0 h):lim tab.get S 120 q 0 [x0] h=b120_0 (orc S (lim tab.get S)) (lim tab.get S 120 q) q x0 h:=(qAA k120 q 0 _ h).trans (e120_0 ..).symm
theorem w120_1(S q x0 x1 x2 x3 x4 h):lim tab.get S 120 q 1 [x0,x1,x2,x3,x4] h=b120_1 (orc S (lim tab.get S)) (lim tab.get S 120 q) q x0 x1 x2 x3 x4 h:=(qAA k120 q 1 _ h).trans (e120_1 ..).symm
theorem w120_2(S q x0 x1 x2 x3 h):lim tab.get S 120 q 2 [x0,x1,x2,x3] h=b120_2 (orc S (lim tab.get S)) (lim tab.get S 120 q) q x0 x1 x2 x3 h:=(qAA k120 q 2 _ h).trans (e120_2 ..).symm
theorem k121:tab.get 121=some c121:=by kernel_rfl
theorem w121_0(S q x0 h):lim tab.get S 121 q 0 [x0] h=b121_0 (orc S (lim tab.get S)) (lim tab.get S 121 q) q x0 h:=(qAA k121 q 0 _ h).trans (e121_0 ..).symm
theorem w121_1(S q x0 x1 x2 x3 h):lim tab.get S 121 q 1 [x0,x1,x2,x3] h=b121_1 (orc S (lim tab.get S)) (lim tab.get S 121 q) q x0 x1 x2 x3 h:=(qAA k121 q 1 _ h).trans (e121_1 ..).symm
theorem w121_2(S q x0 x1 x2 x3 h):lim tab.get S 121 q 2 [x0,x1,x2,x3] h=b121_2 (orc S (lim tab.get S)) (lim tab.get S 121 q) q x0 x1 x2 x3 h:=(qAA k121 q 2 _ h).trans (e121_2 ..).symm
theorem w121_3(S q x0 h):lim tab.get S 121 q 3 [x0] h=b121_3 (orc S (lim tab.get S)) (lim tab.get S 121 q) q x0 h:=(qAA k121 q 3 _ h).trans (e121_3 ..).symm
theorem k122:tab.get 122=some c122:=by kernel_rfl
theorem w122_0(S q x0 h):lim tab.get S 122 q 0 [x0] h=b122_0 (orc S (lim tab.get S)) (lim tab.get S 122 q) q x0 h:=(qAA k122 q 0 _ h).trans (e122_0 ..).symm
theorem w122_1(S q x0 x1 x2 x3 x4 h):lim tab.get S 122 q 1 [x0,x1,x2,x3,x4] h=b122_1 (orc S (lim tab.get S)) (lim tab.get S 122 q) q x0 x1 x2 x3 x4 h:=(qAA k122 q 1 _ h).trans (e122_1 ..).symm
theorem w122_2(S q x0 x1 h):lim tab.get S 122 q 2 [x0,x1] h=b122_2 (orc S (lim tab.get S)) (lim tab.get S 122 q) q x0 x1 h:=(qAA k122 q 2 _ h).trans (e122_2 ..).symm
theorem k123:tab.get 123=some c123:=by kernel_rfl
theorem w123_0(S q x0 x1 x2 h):lim tab.get S 123 q 0 [x0,x1,x2] h=gT_0 5 148 149 164 170 123 (orc S (lim tab.get S)) (lim tab.get S 123 q) q x0 x1 x2 h:=(qAA k123 q 0 _ h).trans (e123_0 ..).symm
theorem w123_1(S q x0 x1 x2 x3 x4 x5 h):lim tab.get S 123 q 1 [x0,x1,x2,x3,x4,x5] h=gT_1 5 148 149 164 170 123 (orc S (lim tab.get S)) (lim tab.get S 123 q) q x0 x1 x2 x3 x4 x5 h:=(qAA k123 q 1 _ h).trans (e123_1 ..).symm
theorem w123_2(S q x0 x1 x2 x3 x4 h):lim tab.get S 123 q 2 [x0,x1,x2,x3,x4] h=gT_2 5 148 149 164 170 123 (orc S (lim tab.get S)) (lim tab.get S 123 q) q x0 x1 x2 x3 x4 h:=(qAA k123 q 2 _ h).trans (e123_2 ..).symm
theorem w123_3(S q x0 x1 x2 x3 h):lim tab.get S 123 q 3 [x0,x1,x2,x3] h=gT_3 5 148 149 164 170 123 (orc S (lim tab.get S)) (lim tab.get S 123 q) q x0 x1 x2 x3 h:=(qAA k123 q 3 _ h).trans (e123_3 ..).symm
theorem w123_4(S q x0 x1 x2 x3 x4 x5 h):lim tab.get S 123 q 4 [x0,x1,x2,x3,x4,x5] h=gT_4 5 148 149 164 170 123 (orc S (lim tab.get S)) (lim tab.get S 123 q) q x0 x1 x2 x3 x4 x5 h:=(qAA k123 q 4 _ h).trans (e123_4 ..).symm
theorem w123_5(S q x0 x1 x2 x3 x4 h):lim tab.get S 123 q 5 [x0,x1,x2,x3,x4] h=gT_5 5 148 149 164 170 123 (orc S (lim tab.get S)) (lim tab.get S 123 q) q x0 x1 x2 x3 x4 h:=(qAA k123 q 5 _ h).trans (e123_5 ..).symm
theorem w123_6(S q x0 x1 x2 x3 h):lim tab.get S 123 q 6 [x0,x1,x2,x3] h=gT_6 5 148 149 164 170 123 (orc S (lim tab.get S)) (lim tab.get S 123 q) q x0 x1 x2 x3 h:=(qAA k123 q 6 _ h).trans (e123_6 ..).symm
theorem k124:tab.get 124=some c124:=by kernel_rfl
theorem w124_0(S q x0 x1 x2 x3 x4 h):lim tab.get S 124 q 0 [x0,x1,x2,x3,x4] h=gR_0 5 94 95 124 150 68 (orc S (lim tab.get S)) (lim tab.get S 124 q) q x0 x1 x2 x3 x4 h:=(qAA k124 q 0 _ h).trans (e124_0 ..).symm
theorem w124_1(S q x0 x1 x2 x3 x4 h):lim tab.get S 124 q 1 [x0,x1,x2,x3,x4] h=gR_1 5 94 95 124 150 68 (orc S (lim tab.get S)) (lim tab.get S 124 q) q x0 x1 x2 x3 x4 h:=(qAA k124 q 1 _ h).trans (e124_1 ..).symm
theorem w124_2(S q x0 x1 x2 x3 h):lim tab.get S 124 q 2 [x0,x1,x2,x3] h=gR_2 5 94 95 124 150 68 (orc S (lim tab.get S)) (lim tab.get S 124 q) q x0 x1 x2 x3 h:=(qAA k124 q 2 _ h).trans (e124_2 ..).symm
theorem k125:tab.get 125=some c125:=by kernel_rfl
theorem w125_0(S q x0 x1 x2 x3 x4 h):lim tab.get S 125 q 0 [x0,x1,x2,x3,x4] h=gR_0 6 96 97 125 151 70 (orc S (lim tab.get S)) (lim tab.get S 125 q) q x0 x1 x2 x3 x4 h:=(qAA k125 q 0 _ h).trans (e125_0 ..).symm
theorem w125_1(S q x0 x1 x2 x3 x4 h):lim tab.get S 125 q 1 [x0,x1,x2,x3,x4] h=gR_1 6 96 97 125 151 70 (orc S (lim tab.get S)) (lim tab.get S 125 q) q x0 x1 x2 x3 x4 h:=(qAA k125 q 1 _ h).trans (e125_1 ..).symm
theorem w125_2(S q x0 x1 x2 x3 h):lim tab.get S 125 q 2 [x0,x1,x2,x3] h=gR_2 6 96 97 125 151 70 (orc S (lim tab.get S)) (lim tab.get S 125 q) q x0 x1 x2 x3 h:=(qAA k125 q 2 _ h).trans (e125_2 ..).symm
theorem k130:tab.get 130=some c130:=by kernel_rfl
theorem w130_0(S q x0 x1 h):lim tab.get S 130 q 0 [x0,x1] h=b130_0 (orc S (lim tab.get S)) (lim tab.get S 130 q) q x0 x1 h:=(qAA k130 q 0 _ h).trans (e130_0 ..).symm
theorem k137:tab.get 137=some c137:=by kernel_rfl
theorem w137_0(S q x0 x1 h):lim tab.get S 137 q 0 [x0,x1] h=b137_0 (orc S (lim tab.get S)) (lim tab.get S 137 q) q x0 x1 h:=(qAA k137 q 0 _ h).trans (e137_0 ..).symm
theorem w137_1(S q x0 x1 x2 h):lim tab.get S 137 q 1 [x0,x1,x2] h=b137_1 (orc S (lim tab.get S)) (lim tab.get S 137 q) q x0 x1 x2 h:=(qAA k137 q 1 _ h).trans (e137_1 ..).symm
theorem w137_2(S q x0 h):lim tab.get S 137 q 2 [x0] h=b137_2 (orc S (lim tab.get S)) (lim tab.get S 137 q) q x0 h:=(qAA k137 q 2 _ h).trans (e137_2 ..).symm
theorem k138:tab.get 138=some c138:=by kernel_rfl
theorem w138_0(S q x0 h):lim tab.get S 138 q 0 [x0] h=b138_0 (orc S (lim tab.get S)) (lim tab.get S 138 q) q x0 h:=(qAA k138 q 0 _ h).trans (e138_0 ..).symm
theorem k145:tab.get 145=some c145:=by kernel_rfl
theorem w145_0(S q x0 x1 h):lim tab.get S 145 q 0 [x0,x1] h=b145_0 (orc S (lim tab.get S)) (lim tab.get S 145 q) q x0 x1 h:=(qAA k145 q 0 _ h).trans (e145_0 ..).symm
theorem k146:tab.get 146=some c146:=by kernel_rfl
theorem w146_0(S q x0 h):lim tab.get S 146 q 0 [x0] h=b146_0 (orc S (lim tab.get S)) (lim tab.get S 146 q) q x0 h:=(qAA k146 q 0 _ h).trans (e146_0 ..).symm
theorem k147:tab.get 147=some c147:=by kernel_rfl
theorem w147_0(S q x0 h):lim tab.get S 147 q 0 [x0] h=b147_0 (orc S (lim tab.get S)) (lim tab.get S 147 q) q x0 h:=(qAA k147 q 0 _ h).trans (e147_0 ..).symm
theorem w147_1(S q x0 x1 x2 x3 x4 h):lim tab.get S 147 q 1 [x0,x1,x2,x3,x4] h=b147_1 (orc S (lim tab.get S)) (lim tab.get S 147 q) q x0 x1 x2 x3 x4 h:=(qAA k147 q 1 _ h).trans (e147_1 ..).symm
theorem w147_2(S q x0 x1 x2 h):lim tab.get S 147 q 2 [x0,x1,x2] h=b147_2 (orc S (lim tab.get S)) (lim tab.get S 147 q) q x0 x1 x2 h:=(qAA k147 q 2 _ h).trans (e147_2 ..).symm
theorem w147_3(S q x0 x1 x2 x3 h):lim tab.get S 147 q 3 [x0,x1,x2,x3] h=b147_3 (orc S (lim tab.get S)) (lim tab.get S 147 q) q x0 x1 x2 x3 h:=(qAA k147 q 3 _ h).trans (e147_3 ..).symm
theorem w147_4(S q x0 x1 x2 x3 h):lim tab.get S 147 q 4 [x0,x1,x2,x3] h=b147_4 (orc S (lim tab.get S)) (lim tab.get S 147 q) q x0 x1 x2 x3 h:=(qAA k147 q 4 _ h).trans (e147_4 ..).symm
theorem w147_5(S q x0 x1 x2 x3 x4 h):lim tab.get S 147 q 5 [x0,x1,x2,x3,x4] h=b147_5 (orc S (lim tab.get S)) (lim tab.get S 147 q) q x0 x1 x2 x3 x4 h:=(qAA k147 q 5 _ h).trans (e147_5 ..).symm
theorem w147_6(S q x0 x1 x2 x3 h):lim tab.get S 147 q 6 [x0,x1,x2,x3] h=b147_6 (orc S (lim tab.get S)) (lim tab.get S 147 q) q x0 x1 x2 x3 h:=(qAA k147 q 6 _ h).trans (e147_6 ..).symm
theorem w147_7(S q x0 x1 x2 x3 h):lim tab.get S 147 q 7 [x0,x1,x2,x3] h=b147_7 (orc S (lim tab.get S)) (lim tab.get S 147 q) q x0 x1 x2 x3 h:=(qAA k147 q 7 _ h).trans (e147_7 ..).symm
theorem k148:tab.get 148=some c148:=by kernel_rfl
theorem w148_0(S q x0 x1 x2 x3 h):lim tab.get S 148 q 0 [x0,x1,x2,x3] h=gI_0 5 148 149 164 170 123 (orc S (lim tab.get S)) (lim tab.get S 148 q) q x0 x1 x2 x3 h:=(qAA k148 q 0 _ h).trans (e148_0 ..).symm
theorem w148_1(S q x0 x1 x2 x3 x4 h):lim tab.get S 148 q 1 [x0,x1,x2,x3,x4] h=gI_1 5 148 149 164 170 123 (orc S (lim tab.get S)) (lim tab.get S 148 q) q x0 x1 x2 x3 x4 h:=(qAA k148 q 1 _ h).trans (e148_1 ..).symm
theorem w148_2(S q x0 x1 x2 x3 x4 x5 h):lim tab.get S 148 q 2 [x0,x1,x2,x3,x4,x5] h=gI_2 5 148 149 164 170 123 (orc S (lim tab.get S)) (lim tab.get S 148 q) q x0 x1 x2 x3 x4 x5 h:=(qAA k148 q 2 _ h).trans (e148_2 ..).symm
theorem w148_3(S q x0 x1 x2 x3 x4 h):lim tab.get S 148 q 3 [x0,x1,x2,x3,x4] h=gI_3 5 148 149 164 170 123 (orc S (lim tab.get S)) (lim tab.get S 148 q) q x0 x1 x2 x3 x4 h:=(qAA k148 q 3 _ h).trans (e148_3 ..).symm
theorem k149:tab.get 149=some c149:=by kernel_rfl
theorem w149_0(S q x0 x1 x2 x3 x4 h):lim tab.get S 149 q 0 [x0,x1,x2,x3,x4] h=gM_0 5 148 149 164 170 123 (orc S (lim tab.get S)) (lim tab.get S 149 q) q x0 x1 x2 x3 x4 h:=(qAA k149 q 0 _ h).trans (e149_0 ..).symm
theorem w149_1(S q x0 x1 x2 x3 x4 h):lim tab.get S 149 q 1 [x0,x1,x2,x3,x4] h=gM_1 5 148 149 164 170 123 (orc S (lim tab.get S)) (lim tab.get S 149 q) q x0 x1 x2 x3 x4 h:=(qAA k149 q 1 _ h).trans (e149_1 ..).symm
theorem w149_2(S q x0 x1 x2 h):lim tab.get S 149 q 2 [x0,x1,x2] h=gM_2 5 148 149 164 170 123 (orc S (lim tab.get S)) (lim tab.get S 149 q) q x0 x1 x2 h:=(qAA k149 q 2 _ h).trans (e149_2 ..).symm
theorem w149_3(S q x0 x1 x2 h):lim tab.get S 149 q 3 [x0,x1,x2] h=gM_3 5 148 149 164 170 123 (orc S (lim tab.get S)) (lim tab.get S 149 q) q x0 x1 x2 h:=(qAA k149 q 3 _ h).trans (e149_3 ..).symm
theorem w149_4(S q h):lim tab.get S 149 q 4 [] h=gM_4 5 148 149 164 170 123 (orc S (lim tab.get S)) (lim tab.get S 149 q) q  h:=(qAA k149 q 4 _ h).trans (e149_4 ..).symm
theorem w149_5(S q x0 x1 x2 x3 x4 h):lim tab.get S 149 q 5 [x0,x1,x2,x3,x4] h=gM_5 5 148 149 164 170 123 (orc S (lim tab.get S)) (lim tab.get S 149 q) q x0 x1 x2 x3 x4 h:=(qAA k149 q 5 _ h).trans (e149_5 ..).symm
theorem w149_6(S q x0 x1 x2 x3 x4 h):lim tab.get S 149 q 6 [x0,x1,x2,x3,x4] h=gM_6 5 148 149 164 170 123 (orc S (lim tab.get S)) (lim tab.get S 149 q) q x0 x1 x2 x3 x4 h:=(qAA k149 q 6 _ h).trans (e149_6 ..).symm
theorem w149_7(S q x0 x1 x2 h):lim tab.get S 149 q 7 [x0,x1,x2] h=gM_7 5 148 149 164 170 123 (orc S (lim tab.get S)) (lim tab.get S 149 q) q x0 x1 x2 h:=(qAA k149 q 7 _ h).trans (e149_7 ..).symm
theorem w149_8(S q x0 x1 x2 h):lim tab.get S 149 q 8 [x0,x1,x2] h=gM_8 5 148 149 164 170 123 (orc S (lim tab.get S)) (lim tab.get S 149 q) q x0 x1 x2 h:=(qAA k149 q 8 _ h).trans (e149_8 ..).symm
theorem w149_9(S q h):lim tab.get S 149 q 9 [] h=gM_9 5 148 149 164 170 123 (orc S (lim tab.get S)) (lim tab.get S 149 q) q  h:=(qAA k149 q 9 _ h).trans (e149_9 ..).symm
theorem w149_10(S q x0 x1 x2 x3 x4 h):lim tab.get S 149 q 10 [x0,x1,x2,x3,x4] h=gM_10 5 148 149 164 170 123 (orc S (lim tab.get S)) (lim tab.get S 149 q) q x0 x1 x2 x3 x4 h:=(qAA k149 q 10 _ h).trans (e149_10 ..).symm
theorem w149_11(S q x0 x1 x2 x3 x4 x5 x6 x7 x8 h):lim tab.get S 149 q 11 [x0,x1,x2,x3,x4,x5,x6,x7,x8] h=gM_11 5 148 149 164 170 123 (orc S (lim tab.get S)) (lim tab.get S 149 q) q x0 x1 x2 x3 x4 x5 x6 x7 x8 h:=(qAA k149 q 11 _ h).trans (e149_11 ..).symm
theorem w149_12(S q x0 x1 x2 x3 x4 x5 x6 x7 x8 x9 h):lim tab.get S 149 q 12 [x0,x1,x2,x3,x4,x5,x6,x7,x8,x9] h=gM_12 5 148 149 164 170 123 (orc S (lim tab.get S)) (lim tab.get S 149 q) q x0 x1 x2 x3 x4 x5 x6 x7 x8 x9 h:=(qAA k149 q 12 _ h).trans (e149_12 ..).symm
theorem w149_13(S q x0 x1 x2 x3 x4 x5 x6 x7 h):lim tab.get S 149 q 13 [x0,x1,x2,x3,x4,x5,x6,x7] h=gM_13 5 148 149 164 170 123 (orc S (lim tab.get S)) (lim tab.get S 149 q) q x0 x1 x2 x3 x4 x5 x6 x7 h:=(qAA k149 q 13 _ h).trans (e149_13 ..).symm
theorem w149_14(S q x0 x1 x2 x3 x4 x5 x6 h):lim tab.get S 149 q 14 [x0,x1,x2,x3,x4,x5,x6] h=gM_14 5 148 149 164 170 123 (orc S (lim tab.get S)) (lim tab.get S 149 q) q x0 x1 x2 x3 x4 x5 x6 h:=(qAA k149 q 14 _ h).trans (e149_14 ..).symm
theorem w149_15(S q x0 x1 x2 x3 x4 h):lim tab.get S 149 q 15 [x0,x1,x2,x3,x4] h=gM_15 5 148 149 164 170 123 (orc S (lim tab.get S)) (lim tab.get S 149 q) q x0 x1 x2 x3 x4 h:=(qAA k149 q 15 _ h).trans (e149_15 ..).symm
theorem k150:tab.get 150=some c150:=by kernel_rfl
theorem w150_0(S q x0 x1 x2 x3 x4 h):lim tab.get S 150 q 0 [x0,x1,x2,x3,x4] h=gS_0 5 94 95 124 150 68 (orc S (lim tab.get S)) (lim tab.get S 150 q) q x0 x1 x2 x3 x4 h:=(qAA k150 q 0 _ h).trans (e150_0 ..).symm
theorem w150_1(S q x0 x1 x2 x3 x4 h):lim tab.get S 150 q 1 [x0,x1,x2,x3,x4] h=gS_1 5 94 95 124 150 68 (orc S (lim tab.get S)) (lim tab.get S 150 q) q x0 x1 x2 x3 x4 h:=(qAA k150 q 1 _ h).trans (e150_1 ..).symm
theorem k151:tab.get 151=some c151:=by kernel_rfl
theorem w151_0(S q x0 x1 x2 x3 x4 h):lim tab.get S 151 q 0 [x0,x1,x2,x3,x4] h=gS_0 6 96 97 125 151 70 (orc S (lim tab.get S)) (lim tab.get S 151 q) q x0 x1 x2 x3 x4 h:=(qAA k151 q 0 _ h).trans (e151_0 ..).symm
theorem w151_1(S q x0 x1 x2 x3 x4 h):lim tab.get S 151 q 1 [x0,x1,x2,x3,x4] h=gS_1 6 96 97 125 151 70 (orc S (lim tab.get S)) (lim tab.get S 151 q) q x0 x1 x2 x3 x4 h:=(qAA k151 q 1 _ h).trans (e151_1 ..).symm
theorem k161:tab.get 161=some c161:=by kernel_rfl
theorem w161_0(S q x0 x1 h):lim tab.get S 161 q 0 [x0,x1] h=b161_0 (orc S (lim tab.get S)) (lim tab.get S 161 q) q x0 x1 h:=(qAA k161 q 0 _ h).trans (e161_0 ..).symm
theorem k164:tab.get 164=some c164:=by kernel_rfl
theorem w164_0(S q x0 x1 x2 x3 x4 h):lim tab.get S 164 q 0 [x0,x1,x2,x3,x4] h=gR_0 5 148 149 164 170 123 (orc S (lim tab.get S)) (lim tab.get S 164 q) q x0 x1 x2 x3 x4 h:=(qAA k164 q 0 _ h).trans (e164_0 ..).symm
theorem w164_1(S q x0 x1 x2 x3 x4 h):lim tab.get S 164 q 1 [x0,x1,x2,x3,x4] h=gR_1 5 148 149 164 170 123 (orc S (lim tab.get S)) (lim tab.get S 164 q) q x0 x1 x2 x3 x4 h:=(qAA k164 q 1 _ h).trans (e164_1 ..).symm
theorem w164_2(S q x0 x1 x2 x3 h):lim tab.get S 164 q 2 [x0,x1,x2,x3] h=gR_2 5 148 149 164 170 123 (orc S (lim tab.get S)) (lim tab.get S 164 q) q x0 x1 x2 x3 h:=(qAA k164 q 2 _ h).trans (e164_2 ..).symm
theorem k170:tab.get 170=some c170:=by kernel_rfl
theorem w170_0(S q x0 x1 x2 x3 x4 h):lim tab.get S 170 q 0 [x0,x1,x2,x3,x4] h=gS_0 5 148 149 164 170 123 (orc S (lim tab.get S)) (lim tab.get S 170 q) q x0 x1 x2 x3 x4 h:=(qAA k170 q 0 _ h).trans (e170_0 ..).symm
theorem w170_1(S q x0 x1 x2 x3 x4 h):lim tab.get S 170 q 1 [x0,x1,x2,x3,x4] h=gS_1 5 148 149 164 170 123 (orc S (lim tab.get S)) (lim tab.get S 170 q) q x0 x1 x2 x3 x4 h:=(qAA k170 q 1 _ h).trans (e170_1 ..).symm
end Go.Proofs.YtnlmlcfipbnpgaaDoor.Ab
