/- The machine's equations,a piece at a time. Own work,printed by a program of our own; no condition. -/
import Derived.Test.YtnlmlcfipbnpgaaGreatDoorTabV
namespace Go.Proofs.YtnlmlcfipbnpgaaGreatDoor.Ab
open Go Go.AI
set_option linter.all false
set_option linter.unusedVariables false
set_option maxRecDepth 100000
theorem k4:tab.get 4=some c4:=by kernel_rfl
theorem w4_0(S q x0 x1 h):lim tab.get S 4 q 0 [x0,x1] h=b4_0 (orc S (lim tab.get S)) (lim tab.get S 4 q) q x0 x1 h:=(qAA k4 q 0 _ h).trans (e4_0 ..).symm
theorem w4_1(S q x0 x1 x2 x3 x4 h):lim tab.get S 4 q 1 [x0,x1,x2,x3,x4] h=b4_1 (orc S (lim tab.get S)) (lim tab.get S 4 q) q x0 x1 x2 x3 x4 h:=(qAA k4 q 1 _ h).trans (e4_1 ..).symm
theorem w4_2(S q x0 x1 x2 h):lim tab.get S 4 q 2 [x0,x1,x2] h=b4_2 (orc S (lim tab.get S)) (lim tab.get S 4 q) q x0 x1 x2 h:=(qAA k4 q 2 _ h).trans (e4_2 ..).symm
theorem k18:tab.get 18=some c18:=by kernel_rfl
theorem w18_0(S q h):lim tab.get S 18 q 0 [] h=b18_0 (orc S (lim tab.get S)) (lim tab.get S 18 q) q  h:=(qAA k18 q 0 _ h).trans (e18_0 ..).symm
theorem k19:tab.get 19=some c19:=by kernel_rfl
theorem w19_0(S q x0 h):lim tab.get S 19 q 0 [x0] h=b19_0 (orc S (lim tab.get S)) (lim tab.get S 19 q) q x0 h:=(qAA k19 q 0 _ h).trans (e19_0 ..).symm
theorem w19_1(S q x0 x1 x2 h):lim tab.get S 19 q 1 [x0,x1,x2] h=b19_1 (orc S (lim tab.get S)) (lim tab.get S 19 q) q x0 x1 x2 h:=(qAA k19 q 1 _ h).trans (e19_1 ..).symm
theorem k20:tab.get 20=some c20:=by kernel_rfl
theorem w20_0(S q x0 h):lim tab.get S 20 q 0 [x0] h=b20_0 (orc S (lim tab.get S)) (lim tab.get S 20 q) q x0 h:=(qAA k20 q 0 _ h).trans (e20_0 ..).symm
theorem w20_1(S q x0 x1 x2 x3 h):lim tab.get S 20 q 1 [x0,x1,x2,x3] h=b20_1 (orc S (lim tab.get S)) (lim tab.get S 20 q) q x0 x1 x2 x3 h:=(qAA k20 q 1 _ h).trans (e20_1 ..).symm
theorem w20_2(S q x0 x1 x2 x3 x4 h):lim tab.get S 20 q 2 [x0,x1,x2,x3,x4] h=b20_2 (orc S (lim tab.get S)) (lim tab.get S 20 q) q x0 x1 x2 x3 x4 h:=(qAA k20 q 2 _ h).trans (e20_2 ..).symm
theorem w20_3(S q x0 x1 h):lim tab.get S 20 q 3 [x0,x1] h=b20_3 (orc S (lim tab.get S)) (lim tab.get S 20 q) q x0 x1 h:=(qAA k20 q 3 _ h).trans (e20_3 ..).symm
theorem k21:tab.get 21=some c21:=by kernel_rfl
theorem w21_0(S q x0 x1 x2 x3 h):lim tab.get S 21 q 0 [x0,x1,x2,x3] h=b21_0 (orc S (lim tab.get S)) (lim tab.get S 21 q) q x0 x1 x2 x3 h:=(qAA k21 q 0 _ h).trans (e21_0 ..).symm
theorem w21_1(S q x0 x1 x2 x3 h):lim tab.get S 21 q 1 [x0,x1,x2,x3] h=b21_1 (orc S (lim tab.get S)) (lim tab.get S 21 q) q x0 x1 x2 x3 h:=(qAA k21 q 1 _ h).trans (e21_1 ..).symm
theorem w21_2(S q x0 x1 h):lim tab.get S 21 q 2 [x0,x1] h=b21_2 (orc S (lim tab.get S)) (lim tab.get S 21 q) q x0 x1 h:=(qAA k21 q 2 _ h).trans (e21_2 ..).symm
theorem k22:tab.get 22=some c22:=by kernel_rfl
theorem w22_0(S q x0 h):lim tab.get S 22 q 0 [x0] h=b22_0 (orc S (lim tab.get S)) (lim tab.get S 22 q) q x0 h:=(qAA k22 q 0 _ h).trans (e22_0 ..).symm
theorem w22_1(S q x0 x1 x2 x3 h):lim tab.get S 22 q 1 [x0,x1,x2,x3] h=b22_1 (orc S (lim tab.get S)) (lim tab.get S 22 q) q x0 x1 x2 x3 h:=(qAA k22 q 1 _ h).trans (e22_1 ..).symm
theorem w22_2(S q x0 x1 x2 x3 x4 x5 x6 x7 h):lim tab.get S 22 q 2 [x0,x1,x2,x3,x4,x5,x6,x7] h=b22_2 (orc S (lim tab.get S)) (lim tab.get S 22 q) q x0 x1 x2 x3 x4 x5 x6 x7 h:=(qAA k22 q 2 _ h).trans (e22_2 ..).symm
theorem w22_3(S q x0 x1 x2 x3 x4 h):lim tab.get S 22 q 3 [x0,x1,x2,x3,x4] h=b22_3 (orc S (lim tab.get S)) (lim tab.get S 22 q) q x0 x1 x2 x3 x4 h:=(qAA k22 q 3 _ h).trans (e22_3 ..).symm
theorem w22_4(S q x0 x1 x2 x3 h):lim tab.get S 22 q 4 [x0,x1,x2,x3] h=b22_4 (orc S (lim tab.get S)) (lim tab.get S 22 q) q x0 x1 x2 x3 h:=(qAA k22 q 4 _ h).trans (e22_4 ..).symm
theorem k34:tab.get 34=some c34:=by kernel_rfl
theorem w34_0(S q x0 x1 h):lim tab.get S 34 q 0 [x0,x1] h=b34_0 (orc S (lim tab.get S)) (lim tab.get S 34 q) q x0 x1 h:=(qAA k34 q 0 _ h).trans (e34_0 ..).symm
theorem w34_1(S q x0 x1 x2 x3 x4 h):lim tab.get S 34 q 1 [x0,x1,x2,x3,x4] h=b34_1 (orc S (lim tab.get S)) (lim tab.get S 34 q) q x0 x1 x2 x3 x4 h:=(qAA k34 q 1 _ h).trans (e34_1 ..).symm
theorem k56:tab.get 56=some c56:=by kernel_rfl
theorem w56_0(S q x0 h):lim tab.get S 56 q 0 [x0] h=b56_0 (orc S (lim tab.get S)) (lim tab.get S 56 q) q x0 h:=(qAA k56 q 0 _ h).trans (e56_0 ..).symm
theorem w56_1(S q x0 x1 x2 h):lim tab.get S 56 q 1 [x0,x1,x2] h=b56_1 (orc S (lim tab.get S)) (lim tab.get S 56 q) q x0 x1 x2 h:=(qAA k56 q 1 _ h).trans (e56_1 ..).symm
theorem w56_2(S q x0 h):lim tab.get S 56 q 2 [x0] h=b56_2 (orc S (lim tab.get S)) (lim tab.get S 56 q) q x0 h:=(qAA k56 q 2 _ h).trans (e56_2 ..).symm
theorem k63:tab.get 63=some c63:=by kernel_rfl
theorem w63_0(S q x0 h):lim tab.get S 63 q 0 [x0] h=b63_0 (orc S (lim tab.get S)) (lim tab.get S 63 q) q x0 h:=(qAA k63 q 0 _ h).trans (e63_0 ..).symm
theorem w63_1(S q x0 x1 x2 h):lim tab.get S 63 q 1 [x0,x1,x2] h=b63_1 (orc S (lim tab.get S)) (lim tab.get S 63 q) q x0 x1 x2 h:=(qAA k63 q 1 _ h).trans (e63_1 ..).symm
theorem w63_2(S q x0 x1 x2 h):lim tab.get S 63 q 2 [x0,x1,x2] h=b63_2 (orc S (lim tab.get S)) (lim tab.get S 63 q) q x0 x1 x2 h:=(qAA k63 q 2 _ h).trans (e63_2 ..).symm
theorem w63_3(S q x0 h):lim tab.get S 63 q 3 [x0] h=b63_3 (orc S (lim tab.get S)) (lim tab.get S 63 q) q x0 h:=(qAA k63 q 3 _ h).trans (e63_3 ..).symm
theorem w63_4(S q x0 h):lim tab.get S 63 q 4 [x0] h=b63_4 (orc S (lim tab.get S)) (lim tab.get S 63 q) q x0 h:=(qAA k63 q 4 _ h).trans (e63_4 ..).symm
theorem w63_5(S q x0 x1 x2 h):lim tab.get S 63 q 5 [x0,x1,x2] h=b63_5 (orc S (lim tab.get S)) (lim tab.get S 63 q) q x0 x1 x2 h:=(qAA k63 q 5 _ h).trans (e63_5 ..).symm
theorem w63_6(S q x0 x1 x2 h):lim tab.get S 63 q 6 [x0,x1,x2] h=b63_6 (orc S (lim tab.get S)) (lim tab.get S 63 q) q x0 x1 x2 h:=(qAA k63 q 6 _ h).trans (e63_6 ..).symm
theorem w63_7(S q x0 h):lim tab.get S 63 q 7 [x0] h=b63_7 (orc S (lim tab.get S)) (lim tab.get S 63 q) q x0 h:=(qAA k63 q 7 _ h).trans (e63_7 ..).symm
theorem k64:tab.get 64=some c64:=by kernel_rfl
theorem w64_0(S q x0 h):lim tab.get S 64 q 0 [x0] h=b64_0 (orc S (lim tab.get S)) (lim tab.get S 64 q) q x0 h:=(qAA k64 q 0 _ h).trans (e64_0 ..).symm
theorem w64_1(S q x0 x1 x2 x3 h):lim tab.get S 64 q 1 [x0,x1,x2,x3] h=b64_1 (orc S (lim tab.get S)) (lim tab.get S 64 q) q x0 x1 x2 x3 h:=(qAA k64 q 1 _ h).trans (e64_1 ..).symm
theorem w64_2(S q x0 x1 x2 h):lim tab.get S 64 q 2 [x0,x1,x2] h=b64_2 (orc S (lim tab.get S)) (lim tab.get S 64 q) q x0 x1 x2 h:=(qAA k64 q 2 _ h).trans (e64_2 ..).symm
theorem w64_3(S q x0 x1 x2 h):lim tab.get S 64 q 3 [x0,x1,x2] h=b64_3 (orc S (lim tab.get S)) (lim tab.get S 64 q) q x0 x1 x2 h:=(qAA k64 q 3 _ h).trans (e64_3 ..).symm
theorem w64_4(S q x0 h):lim tab.get S 64 q 4 [x0] h=b64_4 (orc S (lim tab.get S)) (lim tab.get S 64 q) q x0 h:=(qAA k64 q 4 _ h).trans (e64_4 ..).symm
theorem k65:tab.get 65=some c65:=by kernel_rfl
theorem w65_0(S q x0 x1 h):lim tab.get S 65 q 0 [x0,x1] h=b65_0 (orc S (lim tab.get S)) (lim tab.get S 65 q) q x0 x1 h:=(qAA k65 q 0 _ h).trans (e65_0 ..).symm
theorem w65_1(S q x0 x1 x2 x3 x4 h):lim tab.get S 65 q 1 [x0,x1,x2,x3,x4] h=b65_1 (orc S (lim tab.get S)) (lim tab.get S 65 q) q x0 x1 x2 x3 x4 h:=(qAA k65 q 1 _ h).trans (e65_1 ..).symm
theorem w65_2(S q x0 x1 x2 x3 x4 x5 x6 h):lim tab.get S 65 q 2 [x0,x1,x2,x3,x4,x5,x6] h=b65_2 (orc S (lim tab.get S)) (lim tab.get S 65 q) q x0 x1 x2 x3 x4 x5 x6 h:=(qAA k65 q 2 _ h).trans (e65_2 ..).symm
theorem w65_3(S q x0 x1 x2 x3 x4 x5 x6 h):lim tab.get S 65 q 3 [x0,x1,x2,x3,x4,x5,x6] h=b65_3 (orc S (lim tab.get S)) (lim tab.get S 65 q) q x0 x1 x2 x3 x4 x5 x6 h:=(qAA k65 q 3 _ h).trans (e65_3 ..).symm
theorem w65_4(S q x0 x1 x2 x3 x4 x5 h):lim tab.get S 65 q 4 [x0,x1,x2,x3,x4,x5] h=b65_4 (orc S (lim tab.get S)) (lim tab.get S 65 q) q x0 x1 x2 x3 x4 x5 h:=(qAA k65 q 4 _ h).trans (e65_4 ..).symm
theorem w65_5(S q x0 x1 x2 x3 h):lim tab.get S 65 q 5 [x0,x1,x2,x3] h=b65_5 (orc S (lim tab.get S)) (lim tab.get S 65 q) q x0 x1 x2 x3 h:=(qAA k65 q 5 _ h).trans (e65_5 ..).symm
theorem w65_6(S q x0 x1 x2 x3 h):lim tab.get S 65 q 6 [x0,x1,x2,x3] h=b65_6 (orc S (lim tab.get S)) (lim tab.get S 65 q) q x0 x1 x2 x3 h:=(qAA k65 q 6 _ h).trans (e65_6 ..).symm
theorem w65_7(S q x0 x1 x2 x3 h):lim tab.get S 65 q 7 [x0,x1,x2,x3] h=b65_7 (orc S (lim tab.get S)) (lim tab.get S 65 q) q x0 x1 x2 x3 h:=(qAA k65 q 7 _ h).trans (e65_7 ..).symm
theorem k66:tab.get 66=some c66:=by kernel_rfl
theorem w66_0(S q x0 x1 h):lim tab.get S 66 q 0 [x0,x1] h=b66_0 (orc S (lim tab.get S)) (lim tab.get S 66 q) q x0 x1 h:=(qAA k66 q 0 _ h).trans (e66_0 ..).symm
theorem k67:tab.get 67=some c67:=by kernel_rfl
theorem w67_0(S q x0 x1 h):lim tab.get S 67 q 0 [x0,x1] h=b67_0 (orc S (lim tab.get S)) (lim tab.get S 67 q) q x0 x1 h:=(qAA k67 q 0 _ h).trans (e67_0 ..).symm
theorem k68:tab.get 68=some c68:=by kernel_rfl
theorem w68_0(S q x0 x1 x2 h):lim tab.get S 68 q 0 [x0,x1,x2] h=b68_0 (orc S (lim tab.get S)) (lim tab.get S 68 q) q x0 x1 x2 h:=(qAA k68 q 0 _ h).trans (e68_0 ..).symm
theorem w68_1(S q x0 x1 x2 x3 x4 h):lim tab.get S 68 q 1 [x0,x1,x2,x3,x4] h=b68_1 (orc S (lim tab.get S)) (lim tab.get S 68 q) q x0 x1 x2 x3 x4 h:=(qAA k68 q 1 _ h).trans (e68_1 ..).symm
theorem w68_2(S q x0 x1 x2 x3 x4 x5 x6 x7 h):lim tab.get S 68 q 2 [x0,x1,x2,x3,x4,x5,x6,x7] h=b68_2 (orc S (lim tab.get S)) (lim tab.get S 68 q) q x0 x1 x2 x3 x4 x5 x6 x7 h:=(qAA k68 q 2 _ h).trans (e68_2 ..).symm
theorem w68_3(S q x0 x1 x2 x3 x4 x5 x6 x7 h):lim tab.get S 68 q 3 [x0,x1,x2,x3,x4,x5,x6,x7] h=b68_3 (orc S (lim tab.get S)) (lim tab.get S 68 q) q x0 x1 x2 x3 x4 x5 x6 x7 h:=(qAA k68 q 3 _ h).trans (e68_3 ..).symm
theorem w68_4(S q x0 x1 x2 x3 x4 x5 x6 x7 h):lim tab.get S 68 q 4 [x0,x1,x2,x3,x4,x5,x6,x7] h=b68_4 (orc S (lim tab.get S)) (lim tab.get S 68 q) q x0 x1 x2 x3 x4 x5 x6 x7 h:=(qAA k68 q 4 _ h).trans (e68_4 ..).symm
theorem w68_5(S q x0 x1 x2 x3 x4 x5 x6 x7 h):lim tab.get S 68 q 5 [x0,x1,x2,x3,x4,x5,x6,x7] h=b68_5 (orc S (lim tab.get S)) (lim tab.get S 68 q) q x0 x1 x2 x3 x4 x5 x6 x7 h:=(qAA k68 q 5 _ h).trans (e68_5 ..).symm
theorem w68_6(S q x0 x1 x2 x3 x4 h):lim tab.get S 68 q 6 [x0,x1,x2,x3,x4] h=b68_6 (orc S (lim tab.get S)) (lim tab.get S 68 q) q x0 x1 x2 x3 x4 h:=(qAA k68 q 6 _ h).trans (e68_6 ..).symm
theorem k69:tab.get 69=some c69:=by kernel_rfl
theorem w69_0(S q x0 h):lim tab.get S 69 q 0 [x0] h=b69_0 (orc S (lim tab.get S)) (lim tab.get S 69 q) q x0 h:=(qAA k69 q 0 _ h).trans (e69_0 ..).symm
theorem k70:tab.get 70=some c70:=by kernel_rfl
theorem w70_0(S q x0 h):lim tab.get S 70 q 0 [x0] h=b70_0 (orc S (lim tab.get S)) (lim tab.get S 70 q) q x0 h:=(qAA k70 q 0 _ h).trans (e70_0 ..).symm
theorem k71:tab.get 71=some c71:=by kernel_rfl
theorem w71_0(S q x0 h):lim tab.get S 71 q 0 [x0] h=b71_0 (orc S (lim tab.get S)) (lim tab.get S 71 q) q x0 h:=(qAA k71 q 0 _ h).trans (e71_0 ..).symm
theorem k86:tab.get 86=some c86:=by kernel_rfl
theorem w86_0(S q x0 h):lim tab.get S 86 q 0 [x0] h=b86_0 (orc S (lim tab.get S)) (lim tab.get S 86 q) q x0 h:=(qAA k86 q 0 _ h).trans (e86_0 ..).symm
theorem k87:tab.get 87=some c87:=by kernel_rfl
theorem w87_0(S q x0 h):lim tab.get S 87 q 0 [x0] h=b87_0 (orc S (lim tab.get S)) (lim tab.get S 87 q) q x0 h:=(qAA k87 q 0 _ h).trans (e87_0 ..).symm
theorem w87_1(S q x0 x1 h):lim tab.get S 87 q 1 [x0,x1] h=b87_1 (orc S (lim tab.get S)) (lim tab.get S 87 q) q x0 x1 h:=(qAA k87 q 1 _ h).trans (e87_1 ..).symm
theorem w87_2(S q x0 h):lim tab.get S 87 q 2 [x0] h=b87_2 (orc S (lim tab.get S)) (lim tab.get S 87 q) q x0 h:=(qAA k87 q 2 _ h).trans (e87_2 ..).symm
theorem k88:tab.get 88=some c88:=by kernel_rfl
theorem w88_0(S q x0 h):lim tab.get S 88 q 0 [x0] h=b88_0 (orc S (lim tab.get S)) (lim tab.get S 88 q) q x0 h:=(qAA k88 q 0 _ h).trans (e88_0 ..).symm
theorem w88_1(S q x0 x1 x2 h):lim tab.get S 88 q 1 [x0,x1,x2] h=b88_1 (orc S (lim tab.get S)) (lim tab.get S 88 q) q x0 x1 x2 h:=(qAA k88 q 1 _ h).trans (e88_1 ..).symm
theorem k89:tab.get 89=some c89:=by kernel_rfl
theorem w89_0(S q x0 x1 h):lim tab.get S 89 q 0 [x0,x1] h=b89_0 (orc S (lim tab.get S)) (lim tab.get S 89 q) q x0 x1 h:=(qAA k89 q 0 _ h).trans (e89_0 ..).symm
theorem k90:tab.get 90=some c90:=by kernel_rfl
theorem w90_0(S q x0 h):lim tab.get S 90 q 0 [x0] h=b90_0 (orc S (lim tab.get S)) (lim tab.get S 90 q) q x0 h:=(qAA k90 q 0 _ h).trans (e90_0 ..).symm
theorem k91:tab.get 91=some c91:=by kernel_rfl
theorem w91_0(S q x0 h):lim tab.get S 91 q 0 [x0] h=b91_0 (orc S (lim tab.get S)) (lim tab.get S 91 q) q x0 h:=(qAA k91 q 0 _ h).trans (e91_0 ..).symm
theorem k92:tab.get 92=some c92:=by kernel_rfl
theorem w92_0(S q x0 h):lim tab.get S 92 q 0 [x0] h=b92_0 (orc S (lim tab.get S)) (lim tab.get S 92 q) q x0 h:=(qAA k92 q 0 _ h).trans (e92_0 ..).symm
theorem k93:tab.get 93=some c93:=by kernel_rfl
theorem w93_0(S q x0 h):lim tab.get S 93 q 0 [x0] h=b93_0 (orc S (lim tab.get S)) (lim tab.get S 93 q) q x0 h:=(qAA k93 q 0 _ h).trans (e93_0 ..).symm
theorem k94:tab.get 94=some c94:=by kernel_rfl
theorem w94_0(S q x0 x1 h):lim tab.get S 94 q 0 [x0,x1] h=b94_0 (orc S (lim tab.get S)) (lim tab.get S 94 q) q x0 x1 h:=(qAA k94 q 0 _ h).trans (e94_0 ..).symm
theorem w94_1(S q x0 x1 x2 x3 h):lim tab.get S 94 q 1 [x0,x1,x2,x3] h=b94_1 (orc S (lim tab.get S)) (lim tab.get S 94 q) q x0 x1 x2 x3 h:=(qAA k94 q 1 _ h).trans (e94_1 ..).symm
theorem k95:tab.get 95=some c95:=by kernel_rfl
theorem w95_0(S q x0 x1 h):lim tab.get S 95 q 0 [x0,x1] h=b95_0 (orc S (lim tab.get S)) (lim tab.get S 95 q) q x0 x1 h:=(qAA k95 q 0 _ h).trans (e95_0 ..).symm
theorem k96:tab.get 96=some c96:=by kernel_rfl
theorem w96_0(S q x0 h):lim tab.get S 96 q 0 [x0] h=b96_0 (orc S (lim tab.get S)) (lim tab.get S 96 q) q x0 h:=(qAA k96 q 0 _ h).trans (e96_0 ..).symm
theorem k97:tab.get 97=some c97:=by kernel_rfl
theorem w97_0(S q x0 x1 h):lim tab.get S 97 q 0 [x0,x1] h=b97_0 (orc S (lim tab.get S)) (lim tab.get S 97 q) q x0 x1 h:=(qAA k97 q 0 _ h).trans (e97_0 ..).symm
theorem k116:tab.get 116=some c116:=by kernel_rfl
theorem w116_0(S q x0 h):lim tab.get S 116 q 0 [x0] h=b116_0 (orc S (lim tab.get S)) (lim tab.get S 116 q) q x0 h:=(qAA k116 q 0 _ h).trans (e116_0 ..).symm
theorem k117:tab.get 117=some c117:=by kernel_rfl
theorem w117_0(S q x0 x1 h):lim tab.get S 117 q 0 [x0,x1] h=b117_0 (orc S (lim tab.get S)) (lim tab.get S 117 q) q x0 x1 h:=(qAA k117 q 0 _ h).trans (e117_0 ..).symm
theorem w117_1(S q x0 x1 x2 x3 h):lim tab.get S 117 q 1 [x0,x1,x2,x3] h=b117_1 (orc S (lim tab.get S)) (lim tab.get S 117 q) q x0 x1 x2 x3 h:=(qAA k117 q 1 _ h).trans (e117_1 ..).symm
theorem w117_2(S q x0 x1 x2 x3 h):lim tab.get S 117 q 2 [x0,x1,x2,x3] h=b117_2 (orc S (lim tab.get S)) (lim tab.get S 117 q) q x0 x1 x2 x3 h:=(qAA k117 q 2 _ h).trans (e117_2 ..).symm
theorem w117_3(S q x0 x1 x2 x3 h):lim tab.get S 117 q 3 [x0,x1,x2,x3] h=b117_3 (orc S (lim tab.get S)) (lim tab.get S 117 q) q x0 x1 x2 x3 h:=(qAA k117 q 3 _ h).trans (e117_3 ..).symm
theorem w117_4(S q x0 x1 x2 x3 h):lim tab.get S 117 q 4 [x0,x1,x2,x3] h=b117_4 (orc S (lim tab.get S)) (lim tab.get S 117 q) q x0 x1 x2 x3 h:=(qAA k117 q 4 _ h).trans (e117_4 ..).symm
theorem w117_5(S q x0 x1 x2 h):lim tab.get S 117 q 5 [x0,x1,x2] h=b117_5 (orc S (lim tab.get S)) (lim tab.get S 117 q) q x0 x1 x2 h:=(qAA k117 q 5 _ h).trans (e117_5 ..).symm
theorem w117_6(S q x0 x1 x2 x3 x4 h):lim tab.get S 117 q 6 [x0,x1,x2,x3,x4] h=b117_6 (orc S (lim tab.get S)) (lim tab.get S 117 q) q x0 x1 x2 x3 x4 h:=(qAA k117 q 6 _ h).trans (e117_6 ..).symm
theorem w117_7(S q x0 h):lim tab.get S 117 q 7 [x0] h=b117_7 (orc S (lim tab.get S)) (lim tab.get S 117 q) q x0 h:=(qAA k117 q 7 _ h).trans (e117_7 ..).symm
theorem k121:tab.get 121=some c121:=by kernel_rfl
theorem w121_0(S q x0 h):lim tab.get S 121 q 0 [x0] h=b121_0 (orc S (lim tab.get S)) (lim tab.get S 121 q) q x0 h:=(qAA k121 q 0 _ h).trans (e121_0 ..).symm
theorem w121_1(S q x0 x1 x2 h):lim tab.get S 121 q 1 [x0,x1,x2] h=b121_1 (orc S (lim tab.get S)) (lim tab.get S 121 q) q x0 x1 x2 h:=(qAA k121 q 1 _ h).trans (e121_1 ..).symm
theorem w121_2(S q x0 x1 x2 h):lim tab.get S 121 q 2 [x0,x1,x2] h=b121_2 (orc S (lim tab.get S)) (lim tab.get S 121 q) q x0 x1 x2 h:=(qAA k121 q 2 _ h).trans (e121_2 ..).symm
theorem w121_3(S q x0 x1 x2 x3 h):lim tab.get S 121 q 3 [x0,x1,x2,x3] h=b121_3 (orc S (lim tab.get S)) (lim tab.get S 121 q) q x0 x1 x2 x3 h:=(qAA k121 q 3 _ h).trans (e121_3 ..).symm
theorem w121_4(S q x0 x1 x2 x3 h):lim tab.get S 121 q 4 [x0,x1,x2,x3] h=b121_4 (orc S (lim tab.get S)) (lim tab.get S 121 q) q x0 x1 x2 x3 h:=(qAA k121 q 4 _ h).trans (e121_4 ..).symm
theorem w121_5(S q x0 x1 x2 h):lim tab.get S 121 q 5 [x0,x1,x2] h=b121_5 (orc S (lim tab.get S)) (lim tab.get S 121 q) q x0 x1 x2 h:=(qAA k121 q 5 _ h).trans (e121_5 ..).symm
theorem k122:tab.get 122=some c122:=by kernel_rfl
theorem w122_0(S q x0 h):lim tab.get S 122 q 0 [x0] h=b122_0 (orc S (lim tab.get S)) (lim tab.get S 122 q) q x0 h:=(qAA k122 q 0 _ h).trans (e122_0 ..).symm
theorem w122_1(S q x0 x1 x2 h):lim tab.get S 122 q 1 [x0,x1,x2] h=b122_1 (orc S (lim tab.get S)) (lim tab.get S 122 q) q x0 x1 x2 h:=(qAA k122 q 1 _ h).trans (e122_1 ..).symm
theorem w122_2(S q x0 x1 x2 x3 x4 h):lim tab.get S 122 q 2 [x0,x1,x2,x3,x4] h=b122_2 (orc S (lim tab.get S)) (lim tab.get S 122 q) q x0 x1 x2 x3 x4 h:=(qAA k122 q 2 _ h).trans (e122_2 ..).symm
theorem w122_3(S q x0 x1 x2 h):lim tab.get S 122 q 3 [x0,x1,x2] h=b122_3 (orc S (lim tab.get S)) (lim tab.get S 122 q) q x0 x1 x2 h:=(qAA k122 q 3 _ h).trans (e122_3 ..).symm
theorem w122_4(S q x0 h):lim tab.get S 122 q 4 [x0] h=b122_4 (orc S (lim tab.get S)) (lim tab.get S 122 q) q x0 h:=(qAA k122 q 4 _ h).trans (e122_4 ..).symm
theorem k123:tab.get 123=some c123:=by kernel_rfl
theorem w123_0(S q x0 x1 h):lim tab.get S 123 q 0 [x0,x1] h=b123_0 (orc S (lim tab.get S)) (lim tab.get S 123 q) q x0 x1 h:=(qAA k123 q 0 _ h).trans (e123_0 ..).symm
theorem w123_1(S q x0 x1 x2 x3 h):lim tab.get S 123 q 1 [x0,x1,x2,x3] h=b123_1 (orc S (lim tab.get S)) (lim tab.get S 123 q) q x0 x1 x2 x3 h:=(qAA k123 q 1 _ h).trans (e123_1 ..).symm
theorem w123_2(S q x0 x1 x2 x3 h):lim tab.get S 123 q 2 [x0,x1,x2,x3] h=b123_2 (orc S (lim tab.get S)) (lim tab.get S 123 q) q x0 x1 x2 x3 h:=(qAA k123 q 2 _ h).trans (e123_2 ..).symm
theorem k124:tab.get 124=some c124:=by kernel_rfl
theorem w124_0(S q x0 x1 h):lim tab.get S 124 q 0 [x0,x1] h=b124_0 (orc S (lim tab.get S)) (lim tab.get S 124 q) q x0 x1 h:=(qAA k124 q 0 _ h).trans (e124_0 ..).symm
theorem k125:tab.get 125=some c125:=by kernel_rfl
theorem w125_0(S q x0 h):lim tab.get S 125 q 0 [x0] h=b125_0 (orc S (lim tab.get S)) (lim tab.get S 125 q) q x0 h:=(qAA k125 q 0 _ h).trans (e125_0 ..).symm
theorem w125_1(S q x0 h):lim tab.get S 125 q 1 [x0] h=b125_1 (orc S (lim tab.get S)) (lim tab.get S 125 q) q x0 h:=(qAA k125 q 1 _ h).trans (e125_1 ..).symm
theorem k126:tab.get 126=some c126:=by kernel_rfl
theorem w126_0(S q x0 h):lim tab.get S 126 q 0 [x0] h=b126_0 (orc S (lim tab.get S)) (lim tab.get S 126 q) q x0 h:=(qAA k126 q 0 _ h).trans (e126_0 ..).symm
theorem k127:tab.get 127=some c127:=by kernel_rfl
theorem w127_0(S q x0 x1 h):lim tab.get S 127 q 0 [x0,x1] h=b127_0 (orc S (lim tab.get S)) (lim tab.get S 127 q) q x0 x1 h:=(qAA k127 q 0 _ h).trans (e127_0 ..).symm
theorem w127_1(S q x0 x1 x2 h):lim tab.get S 127 q 1 [x0,x1,x2] h=b127_1 (orc S (lim tab.get S)) (lim tab.get S 127 q) q x0 x1 x2 h:=(qAA k127 q 1 _ h).trans (e127_1 ..).symm
theorem k128:tab.get 128=some c128:=by kernel_rfl
theorem w128_0(S q x0 x1 h):lim tab.get S 128 q 0 [x0,x1] h=b128_0 (orc S (lim tab.get S)) (lim tab.get S 128 q) q x0 x1 h:=(qAA k128 q 0 _ h).trans (e128_0 ..).symm
theorem k129:tab.get 129=some c129:=by kernel_rfl
theorem w129_0(S q x0 x1 h):lim tab.get S 129 q 0 [x0,x1] h=b129_0 (orc S (lim tab.get S)) (lim tab.get S 129 q) q x0 x1 h:=(qAA k129 q 0 _ h).trans (e129_0 ..).symm
theorem k130:tab.get 130=some c130:=by kernel_rfl
theorem w130_0(S q x0 h):lim tab.get S 130 q 0 [x0] h=b130_0 (orc S (lim tab.get S)) (lim tab.get S 130 q) q x0 h:=(qAA k130 q 0 _ h).trans (e130_0 ..).symm
theorem w130_1(S q x0 h):lim tab.get S 130 q 1 [x0] h=b130_1 (orc S (lim tab.get S)) (lim tab.get S 130 q) q x0 h:=(qAA k130 q 1 _ h).trans (e130_1 ..).symm
theorem k131:tab.get 131=some c131:=by kernel_rfl
theorem w131_0(S q x0 x1 x2 h):lim tab.get S 131 q 0 [x0,x1,x2] h=b131_0 (orc S (lim tab.get S)) (lim tab.get S 131 q) q x0 x1 x2 h:=(qAA k131 q 0 _ h).trans (e131_0 ..).symm
theorem w131_1(S q x0 x1 x2 x3 x4 h):lim tab.get S 131 q 1 [x0,x1,x2,x3,x4] h=b131_1 (orc S (lim tab.get S)) (lim tab.get S 131 q) q x0 x1 x2 x3 x4 h:=(qAA k131 q 1 _ h).trans (e131_1 ..).symm
theorem w131_2(S q x0 x1 x2 x3 x4 h):lim tab.get S 131 q 2 [x0,x1,x2,x3,x4] h=b131_2 (orc S (lim tab.get S)) (lim tab.get S 131 q) q x0 x1 x2 x3 x4 h:=(qAA k131 q 2 _ h).trans (e131_2 ..).symm
theorem w131_3(S q x0 x1 h):lim tab.get S 131 q 3 [x0,x1] h=b131_3 (orc S (lim tab.get S)) (lim tab.get S 131 q) q x0 x1 h:=(qAA k131 q 3 _ h).trans (e131_3 ..).symm
theorem k132:tab.get 132=some c132:=by kernel_rfl
theorem w132_0(S q x0 x1 h):lim tab.get S 132 q 0 [x0,x1] h=b132_0 (orc S (lim tab.get S)) (lim tab.get S 132 q) q x0 x1 h:=(qAA k132 q 0 _ h).trans (e132_0 ..).symm
theorem k133:tab.get 133=some c133:=by kernel_rfl
theorem w133_0(S q x0 h):lim tab.get S 133 q 0 [x0] h=b133_0 (orc S (lim tab.get S)) (lim tab.get S 133 q) q x0 h:=(qAA k133 q 0 _ h).trans (e133_0 ..).symm
theorem w133_1(S q x0 x1 h):lim tab.get S 133 q 1 [x0,x1] h=b133_1 (orc S (lim tab.get S)) (lim tab.get S 133 q) q x0 x1 h:=(qAA k133 q 1 _ h).trans (e133_1 ..).symm
theorem k134:tab.get 134=some c134:=by kernel_rfl
theorem w134_0(S q x0 h):lim tab.get S 134 q 0 [x0] h=b134_0 (orc S (lim tab.get S)) (lim tab.get S 134 q) q x0 h:=(qAA k134 q 0 _ h).trans (e134_0 ..).symm
theorem k135:tab.get 135=some c135:=by kernel_rfl
theorem w135_0(S q x0 x1 h):lim tab.get S 135 q 0 [x0,x1] h=b135_0 (orc S (lim tab.get S)) (lim tab.get S 135 q) q x0 x1 h:=(qAA k135 q 0 _ h).trans (e135_0 ..).symm
theorem k136:tab.get 136=some c136:=by kernel_rfl
theorem w136_0(S q x0 x1 x2 h):lim tab.get S 136 q 0 [x0,x1,x2] h=b136_0 (orc S (lim tab.get S)) (lim tab.get S 136 q) q x0 x1 x2 h:=(qAA k136 q 0 _ h).trans (e136_0 ..).symm
theorem w136_1(S q x0 x1 x2 x3 x4 x5 x6 h):lim tab.get S 136 q 1 [x0,x1,x2,x3,x4,x5,x6] h=b136_1 (orc S (lim tab.get S)) (lim tab.get S 136 q) q x0 x1 x2 x3 x4 x5 x6 h:=(qAA k136 q 1 _ h).trans (e136_1 ..).symm
theorem w136_2(S q x0 x1 h):lim tab.get S 136 q 2 [x0,x1] h=b136_2 (orc S (lim tab.get S)) (lim tab.get S 136 q) q x0 x1 h:=(qAA k136 q 2 _ h).trans (e136_2 ..).symm
theorem k137:tab.get 137=some c137:=by kernel_rfl
theorem w137_0(S q x0 x1 x2 x3 h):lim tab.get S 137 q 0 [x0,x1,x2,x3] h=b137_0 (orc S (lim tab.get S)) (lim tab.get S 137 q) q x0 x1 x2 x3 h:=(qAA k137 q 0 _ h).trans (e137_0 ..).symm
theorem k138:tab.get 138=some c138:=by kernel_rfl
theorem w138_0(S q x0 h):lim tab.get S 138 q 0 [x0] h=b138_0 (orc S (lim tab.get S)) (lim tab.get S 138 q) q x0 h:=(qAA k138 q 0 _ h).trans (e138_0 ..).symm
theorem k161:tab.get 161=some c161:=by kernel_rfl
theorem w161_0(S q x0 h):lim tab.get S 161 q 0 [x0] h=b161_0 (orc S (lim tab.get S)) (lim tab.get S 161 q) q x0 h:=(qAA k161 q 0 _ h).trans (e161_0 ..).symm
theorem k162:tab.get 162=some c162:=by kernel_rfl
theorem w162_0(S q x0 x1 h):lim tab.get S 162 q 0 [x0,x1] h=b162_0 (orc S (lim tab.get S)) (lim tab.get S 162 q) q x0 x1 h:=(qAA k162 q 0 _ h).trans (e162_0 ..).symm
theorem k163:tab.get 163=some c163:=by kernel_rfl
theorem w163_0(S q x0 h):lim tab.get S 163 q 0 [x0] h=b163_0 (orc S (lim tab.get S)) (lim tab.get S 163 q) q x0 h:=(qAA k163 q 0 _ h).trans (e163_0 ..).symm
theorem k164:tab.get 164=some c164:=by kernel_rfl
theorem w164_0(S q x0 x1 h):lim tab.get S 164 q 0 [x0,x1] h=b164_0 (orc S (lim tab.get S)) (lim tab.get S 164 q) q x0 x1 h:=(qAA k164 q 0 _ h).trans (e164_0 ..).symm
theorem k165:tab.get 165=some c165:=by kernel_rfl
theorem w165_0(S q x0 h):lim tab.get S 165 q 0 [x0] h=b165_0 (orc S (lim tab.get S)) (lim tab.get S 165 q) q x0 h:=(qAA k165 q 0 _ h).trans (e165_0 ..).symm
theorem k166:tab.get 166=some c166:=by kernel_rfl
theorem w166_0(S q x0 h):lim tab.get S 166 q 0 [x0] h=b166_0 (orc S (lim tab.get S)) (lim tab.get S 166 q) q x0 h:=(qAA k166 q 0 _ h).trans (e166_0 ..).symm
theorem k167:tab.get 167=some c167:=by kernel_rfl
theorem w167_0(S q x0 x1 h):lim tab.get S 167 q 0 [x0,x1] h=b167_0 (orc S (lim tab.get S)) (lim tab.get S 167 q) q x0 x1 h:=(qAA k167 q 0 _ h).trans (e167_0 ..).symm
theorem k168:tab.get 168=some c168:=by kernel_rfl
theorem w168_0(S q x0 h):lim tab.get S 168 q 0 [x0] h=b168_0 (orc S (lim tab.get S)) (lim tab.get S 168 q) q x0 h:=(qAA k168 q 0 _ h).trans (e168_0 ..).symm
theorem k169:tab.get 169=some c169:=by kernel_rfl
theorem w169_0(S q x0 x1 h):lim tab.get S 169 q 0 [x0,x1] h=b169_0 (orc S (lim tab.get S)) (lim tab.get S 169 q) q x0 x1 h:=(qAA k169 q 0 _ h).trans (e169_0 ..).symm
theorem w169_1(S q x0 x1 x2 x3 h):lim tab.get S 169 q 1 [x0,x1,x2,x3] h=b169_1 (orc S (lim tab.get S)) (lim tab.get S 169 q) q x0 x1 x2 x3 h:=(qAA k169 q 1 _ h).trans (e169_1 ..).symm
theorem k170:tab.get 170=some c170:=by kernel_rfl
theorem w170_0(S q x0 h):lim tab.get S 170 q 0 [x0] h=b170_0 (orc S (lim tab.get S)) (lim tab.get S 170 q) q x0 h:=(qAA k170 q 0 _ h).trans (e170_0 ..).symm
theorem w170_1(S q x0 x1 x2 x3 x4 h):lim tab.get S 170 q 1 [x0,x1,x2,x3,x4] h=b170_1 (orc S (lim tab.get S)) (lim tab.get S 170 q) q x0 x1 x2 x3 x4 h:=(qAA k170 q 1 _ h).trans (e170_1 ..).symm
theorem w170_2(S q x0 x1 h):lim tab.get S 170 q 2 [x0,x1] h=b170_2 (orc S (lim tab.get S)) (lim tab.get S 170 q) q x0 x1 h:=(qAA k170 q 2 _ h).trans (e170_2 ..).symm
theorem k171:tab.get 171=some c171:=by kernel_rfl
theorem w171_0(S q x0 h):lim tab.get S 171 q 0 [x0] h=b171_0 (orc S (lim tab.get S)) (lim tab.get S 171 q) q x0 h:=(qAA k171 q 0 _ h).trans (e171_0 ..).symm
theorem k172:tab.get 172=some c172:=by kernel_rfl
theorem w172_0(S q x0 x1 h):lim tab.get S 172 q 0 [x0,x1] h=b172_0 (orc S (lim tab.get S)) (lim tab.get S 172 q) q x0 x1 h:=(qAA k172 q 0 _ h).trans (e172_0 ..).symm
theorem k173:tab.get 173=some c173:=by kernel_rfl
theorem w173_0(S q x0 x1 x2 h):lim tab.get S 173 q 0 [x0,x1,x2] h=b173_0 (orc S (lim tab.get S)) (lim tab.get S 173 q) q x0 x1 x2 h:=(qAA k173 q 0 _ h).trans (e173_0 ..).symm
theorem k184:tab.get 184=some c184:=by kernel_rfl
theorem w184_0(S q x0 h):lim tab.get S 184 q 0 [x0] h=b184_0 (orc S (lim tab.get S)) (lim tab.get S 184 q) q x0 h:=(qAA k184 q 0 _ h).trans (e184_0 ..).symm
theorem k185:tab.get 185=some c185:=by kernel_rfl
theorem w185_0(S q x0 h):lim tab.get S 185 q 0 [x0] h=b185_0 (orc S (lim tab.get S)) (lim tab.get S 185 q) q x0 h:=(qAA k185 q 0 _ h).trans (e185_0 ..).symm
theorem k186:tab.get 186=some c186:=by kernel_rfl
theorem w186_0(S q x0 h):lim tab.get S 186 q 0 [x0] h=b186_0 (orc S (lim tab.get S)) (lim tab.get S 186 q) q x0 h:=(qAA k186 q 0 _ h).trans (e186_0 ..).symm
theorem w186_1(S q x0 x1 h):lim tab.get S 186 q 1 [x0,x1] h=b186_1 (orc S (lim tab.get S)) (lim tab.get S 186 q) q x0 x1 h:=(qAA k186 q 1 _ h).trans (e186_1 ..).symm
theorem w186_2(S q x0 x1 x2 x3 h):lim tab.get S 186 q 2 [x0,x1,x2,x3] h=b186_2 (orc S (lim tab.get S)) (lim tab.get S 186 q) q x0 x1 x2 x3 h:=(qAA k186 q 2 _ h).trans (e186_2 ..).symm
theorem w186_3(S q x0 x1 h):lim tab.get S 186 q 3 [x0,x1] h=b186_3 (orc S (lim tab.get S)) (lim tab.get S 186 q) q x0 x1 h:=(qAA k186 q 3 _ h).trans (e186_3 ..).symm
theorem k187:tab.get 187=some c187:=by kernel_rfl
theorem w187_0(S q x0 x1 h):lim tab.get S 187 q 0 [x0,x1] h=b187_0 (orc S (lim tab.get S)) (lim tab.get S 187 q) q x0 x1 h:=(qAA k187 q 0 _ h).trans (e187_0 ..).symm
theorem w187_1(S q x0 x1 x2 h):lim tab.get S 187 q 1 [x0,x1,x2] h=b187_1 (orc S (lim tab.get S)) (lim tab.get S 187 q) q x0 x1 x2 h:=(qAA k187 q 1 _ h).trans (e187_1 ..).symm
theorem w187_2(S q x0 x1 x2 x3 x4 h):lim tab.get S 187 q 2 [x0,x1,x2,x3,x4] h=b187_2 (orc S (lim tab.get S)) (lim tab.get S 187 q) q x0 x1 x2 x3 x4 h:=(qAA k187 q 2 _ h).trans (e187_2 ..).symm
theorem w187_3(S q x0 x1 x2 h):lim tab.get S 187 q 3 [x0,x1,x2] h=b187_3 (orc S (lim tab.get S)) (lim tab.get S 187 q) q x0 x1 x2 h:=(qAA k187 q 3 _ h).trans (e187_3 ..).symm
theorem k188:tab.get 188=some c188:=by kernel_rfl
theorem w188_0(S q x0 h):lim tab.get S 188 q 0 [x0] h=b188_0 (orc S (lim tab.get S)) (lim tab.get S 188 q) q x0 h:=(qAA k188 q 0 _ h).trans (e188_0 ..).symm
theorem w188_1(S q x0 x1 h):lim tab.get S 188 q 1 [x0,x1] h=b188_1 (orc S (lim tab.get S)) (lim tab.get S 188 q) q x0 x1 h:=(qAA k188 q 1 _ h).trans (e188_1 ..).symm
theorem w188_2(S q x0 x1 x2 h):lim tab.get S 188 q 2 [x0,x1,x2] h=b188_2 (orc S (lim tab.get S)) (lim tab.get S 188 q) q x0 x1 x2 h:=(qAA k188 q 2 _ h).trans (e188_2 ..).symm
theorem w188_3(S q x0 h):lim tab.get S 188 q 3 [x0] h=b188_3 (orc S (lim tab.get S)) (lim tab.get S 188 q) q x0 h:=(qAA k188 q 3 _ h).trans (e188_3 ..).symm
theorem k189:tab.get 189=some c189:=by kernel_rfl
theorem w189_0(S q x0 x1 h):lim tab.get S 189 q 0 [x0,x1] h=b189_0 (orc S (lim tab.get S)) (lim tab.get S 189 q) q x0 x1 h:=(qAA k189 q 0 _ h).trans (e189_0 ..).symm
theorem w189_1(S q x0 x1 x2 x3 h):lim tab.get S 189 q 1 [x0,x1,x2,x3] h=b189_1 (orc S (lim tab.get S)) (lim tab.get S 189 q) q x0 x1 x2 x3 h:=(qAA k189 q 1 _ h).trans (e189_1 ..).symm
theorem w189_2(S q x0 x1 h):lim tab.get S 189 q 2 [x0,x1] h=b189_2 (orc S (lim tab.get S)) (lim tab.get S 189 q) q x0 x1 h:=(qAA k189 q 2 _ h).trans (e189_2 ..).symm
theorem k190:tab.get 190=some c190:=by kernel_rfl
theorem w190_0(S q x0 x1 h):lim tab.get S 190 q 0 [x0,x1] h=b190_0 (orc S (lim tab.get S)) (lim tab.get S 190 q) q x0 x1 h:=(qAA k190 q 0 _ h).trans (e190_0 ..).symm
theorem k191:tab.get 191=some c191:=by kernel_rfl
theorem w191_0(S q x0 x1 x2 x3 x4 h):lim tab.get S 191 q 0 [x0,x1,x2,x3,x4] h=b191_0 (orc S (lim tab.get S)) (lim tab.get S 191 q) q x0 x1 x2 x3 x4 h:=(qAA k191 q 0 _ h).trans (e191_0 ..).symm
theorem k192:tab.get 192=some c192:=by kernel_rfl
theorem w192_0(S q x0 x1 x2 h):lim tab.get S 192 q 0 [x0,x1,x2] h=b192_0 (orc S (lim tab.get S)) (lim tab.get S 192 q) q x0 x1 x2 h:=(qAA k192 q 0 _ h).trans (e192_0 ..).symm
theorem k193:tab.get 193=some c193:=by kernel_rfl
theorem w193_0(S q x0 h):lim tab.get S 193 q 0 [x0] h=b193_0 (orc S (lim tab.get S)) (lim tab.get S 193 q) q x0 h:=(qAA k193 q 0 _ h).trans (e193_0 ..).symm
theorem k194:tab.get 194=some c194:=by kernel_rfl
theorem w194_0(S q x0 x1 h):lim tab.get S 194 q 0 [x0,x1] h=b194_0 (orc S (lim tab.get S)) (lim tab.get S 194 q) q x0 x1 h:=(qAA k194 q 0 _ h).trans (e194_0 ..).symm
theorem w194_1(S q x0 x1 x2 h):lim tab.get S 194 q 1 [x0,x1,x2] h=b194_1 (orc S (lim tab.get S)) (lim tab.get S 194 q) q x0 x1 x2 h:=(qAA k194 q 1 _ h).trans (e194_1 ..).symm
theorem w194_2(S q x0 x1 h):lim tab.get S 194 q 2 [x0,x1] h=b194_2 (orc S (lim tab.get S)) (lim tab.get S 194 q) q x0 x1 h:=(qAA k194 q 2 _ h).trans (e194_2 ..).symm
theorem k195:tab.get 195=some c195:=by kernel_rfl
theorem w195_0(S q x0 h):lim tab.get S 195 q 0 [x0] h=b195_0 (orc S (lim tab.get S)) (lim tab.get S 195 q) q x0 h:=(qAA k195 q 0 _ h).trans (e195_0 ..).symm
theorem w195_1(S q x0 x1 h):lim tab.get S 195 q 1 [x0,x1] h=b195_1 (orc S (lim tab.get S)) (lim tab.get S 195 q) q x0 x1 h:=(qAA k195 q 1 _ h).trans (e195_1 ..).symm
theorem k196:tab.get 196=some c196:=by kernel_rfl
theorem w196_0(S q x0 x1 x2 x3 h):lim tab.get S 196 q 0 [x0,x1,x2,x3] h=b196_0 (orc S (lim tab.get S)) (lim tab.get S 196 q) q x0 x1 x2 x3 h:=(qAA k196 q 0 _ h).trans (e196_0 ..).symm
theorem k197:tab.get 197=some c197:=by kernel_rfl
theorem w197_0(S q x0 x1 h):lim tab.get S 197 q 0 [x0,x1] h=b197_0 (orc S (lim tab.get S)) (lim tab.get S 197 q) q x0 x1 h:=(qAA k197 q 0 _ h).trans (e197_0 ..).symm
theorem k198:tab.get 198=some c198:=by kernel_rfl
theorem w198_0(S q x0 x1 h):lim tab.get S 198 q 0 [x0,x1] h=b198_0 (orc S (lim tab.get S)) (lim tab.get S 198 q) q x0 x1 h:=(qAA k198 q 0 _ h).trans (e198_0 ..).symm
theorem k199:tab.get 199=some c199:=by kernel_rfl
theorem w199_0(S q x0 x1 h):lim tab.get S 199 q 0 [x0,x1] h=b199_0 (orc S (lim tab.get S)) (lim tab.get S 199 q) q x0 x1 h:=(qAA k199 q 0 _ h).trans (e199_0 ..).symm
theorem k200:tab.get 200=some c200:=by kernel_rfl
theorem w200_0(S q x0 x1 x2 x3 h):lim tab.get S 200 q 0 [x0,x1,x2,x3] h=b200_0 (orc S (lim tab.get S)) (lim tab.get S 200 q) q x0 x1 x2 x3 h:=(qAA k200 q 0 _ h).trans (e200_0 ..).symm
theorem w200_1(S q x0 x1 x2 x3 x4 h):lim tab.get S 200 q 1 [x0,x1,x2,x3,x4] h=b200_1 (orc S (lim tab.get S)) (lim tab.get S 200 q) q x0 x1 x2 x3 x4 h:=(qAA k200 q 1 _ h).trans (e200_1 ..).symm
theorem w200_2(S q x0 x1 x2 x3 x4 x5 h):lim tab.get S 200 q 2 [x0,x1,x2,x3,x4,x5] h=b200_2 (orc S (lim tab.get S)) (lim tab.get S 200 q) q x0 x1 x2 x3 x4 x5 h:=(qAA k200 q 2 _ h).trans (e200_2 ..).symm
theorem k201:tab.get 201=some c201:=by kernel_rfl
theorem w201_0(S q x0 x1 x2 x3 h):lim tab.get S 201 q 0 [x0,x1,x2,x3] h=b201_0 (orc S (lim tab.get S)) (lim tab.get S 201 q) q x0 x1 x2 x3 h:=(qAA k201 q 0 _ h).trans (e201_0 ..).symm
theorem w201_1(S q x0 x1 x2 x3 x4 x5 x6 h):lim tab.get S 201 q 1 [x0,x1,x2,x3,x4,x5,x6] h=b201_1 (orc S (lim tab.get S)) (lim tab.get S 201 q) q x0 x1 x2 x3 x4 x5 x6 h:=(qAA k201 q 1 _ h).trans (e201_1 ..).symm
theorem w201_2(S q x0 x1 x2 h):lim tab.get S 201 q 2 [x0,x1,x2] h=b201_2 (orc S (lim tab.get S)) (lim tab.get S 201 q) q x0 x1 x2 h:=(qAA k201 q 2 _ h).trans (e201_2 ..).symm
theorem k202:tab.get 202=some c202:=by kernel_rfl
theorem w202_0(S q x0 x1 x2 x3 h):lim tab.get S 202 q 0 [x0,x1,x2,x3] h=b202_0 (orc S (lim tab.get S)) (lim tab.get S 202 q) q x0 x1 x2 x3 h:=(qAA k202 q 0 _ h).trans (e202_0 ..).symm
theorem k228:tab.get 228=some c228:=by kernel_rfl
theorem w228_0(S q x0 h):lim tab.get S 228 q 0 [x0] h=b228_0 (orc S (lim tab.get S)) (lim tab.get S 228 q) q x0 h:=(qAA k228 q 0 _ h).trans (e228_0 ..).symm
theorem k229:tab.get 229=some c229:=by kernel_rfl
theorem w229_0(S q x0 h):lim tab.get S 229 q 0 [x0] h=b229_0 (orc S (lim tab.get S)) (lim tab.get S 229 q) q x0 h:=(qAA k229 q 0 _ h).trans (e229_0 ..).symm
theorem k230:tab.get 230=some c230:=by kernel_rfl
theorem w230_0(S q x0 x1 h):lim tab.get S 230 q 0 [x0,x1] h=b230_0 (orc S (lim tab.get S)) (lim tab.get S 230 q) q x0 x1 h:=(qAA k230 q 0 _ h).trans (e230_0 ..).symm
theorem k231:tab.get 231=some c231:=by kernel_rfl
theorem w231_0(S q x0 x1 h):lim tab.get S 231 q 0 [x0,x1] h=b231_0 (orc S (lim tab.get S)) (lim tab.get S 231 q) q x0 x1 h:=(qAA k231 q 0 _ h).trans (e231_0 ..).symm
theorem w231_1(S q x0 x1 x2 x3 h):lim tab.get S 231 q 1 [x0,x1,x2,x3] h=b231_1 (orc S (lim tab.get S)) (lim tab.get S 231 q) q x0 x1 x2 x3 h:=(qAA k231 q 1 _ h).trans (e231_1 ..).symm
theorem k232:tab.get 232=some c232:=by kernel_rfl
theorem w232_0(S q x0 x1 h):lim tab.get S 232 q 0 [x0,x1] h=b232_0 (orc S (lim tab.get S)) (lim tab.get S 232 q) q x0 x1 h:=(qAA k232 q 0 _ h).trans (e232_0 ..).symm
theorem w232_1(S q x0 x1 x2 h):lim tab.get S 232 q 1 [x0,x1,x2] h=b232_1 (orc S (lim tab.get S)) (lim tab.get S 232 q) q x0 x1 x2 h:=(qAA k232 q 1 _ h).trans (e232_1 ..).symm
theorem k233:tab.get 233=some c233:=by kernel_rfl
theorem w233_0(S q x0 h):lim tab.get S 233 q 0 [x0] h=b233_0 (orc S (lim tab.get S)) (lim tab.get S 233 q) q x0 h:=(qAA k233 q 0 _ h).trans (e233_0 ..).symm
theorem k234:tab.get 234=some c234:=by kernel_rfl
theorem w234_0(S q x0 h):lim tab.get S 234 q 0 [x0] h=b234_0 (orc S (lim tab.get S)) (lim tab.get S 234 q) q x0 h:=(qAA k234 q 0 _ h).trans (e234_0 ..).symm
theorem k237:tab.get 237=some c237:=by kernel_rfl
theorem w237_0(S q x0 h):lim tab.get S 237 q 0 [x0] h=b237_0 (orc S (lim tab.get S)) (lim tab.get S 237 q) q x0 h:=(qAA k237 q 0 _ h).trans (e237_0 ..).symm
theorem k245:tab.get 245=some c245:=by kernel_rfl
theorem w245_0(S q x0 h):lim tab.get S 245 q 0 [x0] h=b245_0 (orc S (lim tab.get S)) (lim tab.get S 245 q) q x0 h:=(qAA k245 q 0 _ h).trans (e245_0 ..).symm
theorem k246:tab.get 246=some c246:=by kernel_rfl
theorem w246_0(S q x0 x1 h):lim tab.get S 246 q 0 [x0,x1] h=b246_0 (orc S (lim tab.get S)) (lim tab.get S 246 q) q x0 x1 h:=(qAA k246 q 0 _ h).trans (e246_0 ..).symm
theorem w246_1(S q x0 x1 h):lim tab.get S 246 q 1 [x0,x1] h=b246_1 (orc S (lim tab.get S)) (lim tab.get S 246 q) q x0 x1 h:=(qAA k246 q 1 _ h).trans (e246_1 ..).symm
theorem k247:tab.get 247=some c247:=by kernel_rfl
theorem w247_0(S q x0 h):lim tab.get S 247 q 0 [x0] h=b247_0 (orc S (lim tab.get S)) (lim tab.get S 247 q) q x0 h:=(qAA k247 q 0 _ h).trans (e247_0 ..).symm
theorem k248:tab.get 248=some c248:=by kernel_rfl
theorem w248_0(S q x0 x1 x2 x3 h):lim tab.get S 248 q 0 [x0,x1,x2,x3] h=b248_0 (orc S (lim tab.get S)) (lim tab.get S 248 q) q x0 x1 x2 x3 h:=(qAA k248 q 0 _ h).trans (e248_0 ..).symm
theorem w248_1(S q x0 x1 x2 x3 x4 x5 x6 x7 x8 h):lim tab.get S 248 q 1 [x0,x1,x2,x3,x4,x5,x6,x7,x8] h=b248_1 (orc S (lim tab.get S)) (lim tab.get S 248 q) q x0 x1 x2 x3 x4 x5 x6 x7 x8 h:=(qAA k248 q 1 _ h).trans (e248_1 ..).symm
theorem w248_2(S q x0 x1 x2 x3 x4 h):lim tab.get S 248 q 2 [x0,x1,x2,x3,x4] h=b248_2 (orc S (lim tab.get S)) (lim tab.get S 248 q) q x0 x1 x2 x3 x4 h:=(qAA k248 q 2 _ h).trans (e248_2 ..).symm
theorem k249:tab.get 249=some c249:=by kernel_rfl
theorem w249_0(S q x0 x1 x2 h):lim tab.get S 249 q 0 [x0,x1,x2] h=b249_0 (orc S (lim tab.get S)) (lim tab.get S 249 q) q x0 x1 x2 h:=(qAA k249 q 0 _ h).trans (e249_0 ..).symm
theorem k250:tab.get 250=some c250:=by kernel_rfl
theorem w250_0(S q x0 h):lim tab.get S 250 q 0 [x0] h=b250_0 (orc S (lim tab.get S)) (lim tab.get S 250 q) q x0 h:=(qAA k250 q 0 _ h).trans (e250_0 ..).symm
theorem k251:tab.get 251=some c251:=by kernel_rfl
theorem w251_0(S q x0 x1 h):lim tab.get S 251 q 0 [x0,x1] h=b251_0 (orc S (lim tab.get S)) (lim tab.get S 251 q) q x0 x1 h:=(qAA k251 q 0 _ h).trans (e251_0 ..).symm
theorem w251_1(S q x0 x1 x2 x3 h):lim tab.get S 251 q 1 [x0,x1,x2,x3] h=b251_1 (orc S (lim tab.get S)) (lim tab.get S 251 q) q x0 x1 x2 x3 h:=(qAA k251 q 1 _ h).trans (e251_1 ..).symm
theorem k252:tab.get 252=some c252:=by kernel_rfl
theorem w252_0(S q x0 x1 h):lim tab.get S 252 q 0 [x0,x1] h=b252_0 (orc S (lim tab.get S)) (lim tab.get S 252 q) q x0 x1 h:=(qAA k252 q 0 _ h).trans (e252_0 ..).symm
theorem k262:tab.get 262=some c262:=by kernel_rfl
theorem w262_0(S q x0 x1 h):lim tab.get S 262 q 0 [x0,x1] h=b262_0 (orc S (lim tab.get S)) (lim tab.get S 262 q) q x0 x1 h:=(qAA k262 q 0 _ h).trans (e262_0 ..).symm
theorem w262_1(S q x0 x1 x2 h):lim tab.get S 262 q 1 [x0,x1,x2] h=b262_1 (orc S (lim tab.get S)) (lim tab.get S 262 q) q x0 x1 x2 h:=(qAA k262 q 1 _ h).trans (e262_1 ..).symm
theorem w262_2(S q x0 h):lim tab.get S 262 q 2 [x0] h=b262_2 (orc S (lim tab.get S)) (lim tab.get S 262 q) q x0 h:=(qAA k262 q 2 _ h).trans (e262_2 ..).symm
theorem k263:tab.get 263=some c263:=by kernel_rfl
theorem w263_0(S q x0 h):lim tab.get S 263 q 0 [x0] h=b263_0 (orc S (lim tab.get S)) (lim tab.get S 263 q) q x0 h:=(qAA k263 q 0 _ h).trans (e263_0 ..).symm
theorem k264:tab.get 264=some c264:=by kernel_rfl
theorem w264_0(S q x0 x1 h):lim tab.get S 264 q 0 [x0,x1] h=b264_0 (orc S (lim tab.get S)) (lim tab.get S 264 q) q x0 x1 h:=(qAA k264 q 0 _ h).trans (e264_0 ..).symm
theorem w264_1(S q x0 x1 x2 x3 x4 x5 x6 x7 h):lim tab.get S 264 q 1 [x0,x1,x2,x3,x4,x5,x6,x7] h=b264_1 (orc S (lim tab.get S)) (lim tab.get S 264 q) q x0 x1 x2 x3 x4 x5 x6 x7 h:=(qAA k264 q 1 _ h).trans (e264_1 ..).symm
theorem w264_2(S q x0 x1 x2 x3 x4 x5 x6 x7 h):lim tab.get S 264 q 2 [x0,x1,x2,x3,x4,x5,x6,x7] h=b264_2 (orc S (lim tab.get S)) (lim tab.get S 264 q) q x0 x1 x2 x3 x4 x5 x6 x7 h:=(qAA k264 q 2 _ h).trans (e264_2 ..).symm
theorem k265:tab.get 265=some c265:=by kernel_rfl
theorem w265_0(S q x0 h):lim tab.get S 265 q 0 [x0] h=b265_0 (orc S (lim tab.get S)) (lim tab.get S 265 q) q x0 h:=(qAA k265 q 0 _ h).trans (e265_0 ..).symm
theorem k266:tab.get 266=some c266:=by kernel_rfl
theorem w266_0(S q x0 h):lim tab.get S 266 q 0 [x0] h=b266_0 (orc S (lim tab.get S)) (lim tab.get S 266 q) q x0 h:=(qAA k266 q 0 _ h).trans (e266_0 ..).symm
theorem k267:tab.get 267=some c267:=by kernel_rfl
theorem w267_0(S q x0 x1 h):lim tab.get S 267 q 0 [x0,x1] h=b267_0 (orc S (lim tab.get S)) (lim tab.get S 267 q) q x0 x1 h:=(qAA k267 q 0 _ h).trans (e267_0 ..).symm
theorem w267_1(S q x0 x1 x2 h):lim tab.get S 267 q 1 [x0,x1,x2] h=b267_1 (orc S (lim tab.get S)) (lim tab.get S 267 q) q x0 x1 x2 h:=(qAA k267 q 1 _ h).trans (e267_1 ..).symm
theorem w267_2(S q x0 x1 x2 h):lim tab.get S 267 q 2 [x0,x1,x2] h=b267_2 (orc S (lim tab.get S)) (lim tab.get S 267 q) q x0 x1 x2 h:=(qAA k267 q 2 _ h).trans (e267_2 ..).symm
theorem w267_3(S q x0 x1 x2 h):lim tab.get S 267 q 3 [x0,x1,x2] h=b267_3 (orc S (lim tab.get S)) (lim tab.get S 267 q) q x0 x1 x2 h:=(qAA k267 q 3 _ h).trans (e267_3 ..).symm
theorem w267_4(S q x0 x1 x2 h):lim tab.get S 267 q 4 [x0,x1,x2] h=b267_4 (orc S (lim tab.get S)) (lim tab.get S 267 q) q x0 x1 x2 h:=(qAA k267 q 4 _ h).trans (e267_4 ..).symm
theorem k268:tab.get 268=some c268:=by kernel_rfl
theorem w268_0(S q x0 x1 x2 x3 x4 h):lim tab.get S 268 q 0 [x0,x1,x2,x3,x4] h=b268_0 (orc S (lim tab.get S)) (lim tab.get S 268 q) q x0 x1 x2 x3 x4 h:=(qAA k268 q 0 _ h).trans (e268_0 ..).symm
theorem w268_1(S q x0 x1 x2 x3 x4 x5 x6 h):lim tab.get S 268 q 1 [x0,x1,x2,x3,x4,x5,x6] h=b268_1 (orc S (lim tab.get S)) (lim tab.get S 268 q) q x0 x1 x2 x3 x4 x5 x6 h:=(qAA k268 q 1 _ h).trans (e268_1 ..).symm
theorem w268_2(S q x0 x1 x2 x3 x4 x5 x6 x7 x8 h):lim tab.get S 268 q 2 [x0,x1,x2,x3,x4,x5,x6,x7,x8] h=b268_2 (orc S (lim tab.get S)) (lim tab.get S 268 q) q x0 x1 x2 x3 x4 x5 x6 x7 x8 h:=(qAA k268 q 2 _ h).trans (e268_2 ..).symm
theorem w268_3(S q x0 x1 x2 x3 x4 x5 x6 x7 x8 x9 x10 h):lim tab.get S 268 q 3 [x0,x1,x2,x3,x4,x5,x6,x7,x8,x9,x10] h=b268_3 (orc S (lim tab.get S)) (lim tab.get S 268 q) q x0 x1 x2 x3 x4 x5 x6 x7 x8 x9 x10 h:=(qAA k268 q 3 _ h).trans (e268_3 ..).symm
theorem w268_4(S q x0 x1 x2 x3 x4 x5 x6 x7 h):lim tab.get S 268 q 4 [x0,x1,x2,x3,x4,x5,x6,x7] h=b268_4 (orc S (lim tab.get S)) (lim tab.get S 268 q) q x0 x1 x2 x3 x4 x5 x6 x7 h:=(qAA k268 q 4 _ h).trans (e268_4 ..).symm
theorem w268_5(S q x0 x1 x2 x3 x4 x5 x6 x7 x8 h):lim tab.get S 268 q 5 [x0,x1,x2,x3,x4,x5,x6,x7,x8] h=b268_5 (orc S (lim tab.get S)) (lim tab.get S 268 q) q x0 x1 x2 x3 x4 x5 x6 x7 x8 h:=(qAA k268 q 5 _ h).trans (e268_5 ..).symm
theorem w268_6(S q x0 x1 x2 x3 x4 x5 x6 x7 h):lim tab.get S 268 q 6 [x0,x1,x2,x3,x4,x5,x6,x7] h=b268_6 (orc S (lim tab.get S)) (lim tab.get S 268 q) q x0 x1 x2 x3 x4 x5 x6 x7 h:=(qAA k268 q 6 _ h).trans (e268_6 ..).symm
theorem w268_7(S q x0 x1 x2 x3 x4 x5 x6 h):lim tab.get S 268 q 7 [x0,x1,x2,x3,x4,x5,x6] h=b268_7 (orc S (lim tab.get S)) (lim tab.get S 268 q) q x0 x1 x2 x3 x4 x5 x6 h:=(qAA k268 q 7 _ h).trans (e268_7 ..).symm
theorem w268_8(S q x0 x1 x2 x3 x4 x5 h):lim tab.get S 268 q 8 [x0,x1,x2,x3,x4,x5] h=b268_8 (orc S (lim tab.get S)) (lim tab.get S 268 q) q x0 x1 x2 x3 x4 x5 h:=(qAA k268 q 8 _ h).trans (e268_8 ..).symm
theorem k277:tab.get 277=some c277:=by kernel_rfl
theorem w277_0(S q x0 x1 h):lim tab.get S 277 q 0 [x0,x1] h=b277_0 (orc S (lim tab.get S)) (lim tab.get S 277 q) q x0 x1 h:=(qAA k277 q 0 _ h).trans (e277_0 ..).symm
theorem w277_1(S q x0 x1 x2 h):lim tab.get S 277 q 1 [x0,x1,x2] h=b277_1 (orc S (lim tab.get S)) (lim tab.get S 277 q) q x0 x1 x2 h:=(qAA k277 q 1 _ h).trans (e277_1 ..).symm
theorem k278:tab.get 278=some c278:=by kernel_rfl
theorem w278_0(S q x0 x1 h):lim tab.get S 278 q 0 [x0,x1] h=b278_0 (orc S (lim tab.get S)) (lim tab.get S 278 q) q x0 x1 h:=(qAA k278 q 0 _ h).trans (e278_0 ..).symm
theorem k279:tab.get 279=some c279:=by kernel_rfl
theorem w279_0(S q x0 x1 h):lim tab.get S 279 q 0 [x0,x1] h=b279_0 (orc S (lim tab.get S)) (lim tab.get S 279 q) q x0 x1 h:=(qAA k279 q 0 _ h).trans (e279_0 ..).symm
theorem k280:tab.get 280=some c280:=by kernel_rfl
theorem w280_0(S q x0 x1 h):lim tab.get S 280 q 0 [x0,x1] h=b280_0 (orc S (lim tab.get S)) (lim tab.get S 280 q) q x0 x1 h:=(qAA k280 q 0 _ h).trans (e280_0 ..).symm
theorem w280_1(S q x0 x1 x2 h):lim tab.get S 280 q 1 [x0,x1,x2] h=b280_1 (orc S (lim tab.get S)) (lim tab.get S 280 q) q x0 x1 x2 h:=(qAA k280 q 1 _ h).trans (e280_1 ..).symm
theorem w280_2(S q x0 x1 x2 x3 x4 h):lim tab.get S 280 q 2 [x0,x1,x2,x3,x4] h=b280_2 (orc S (lim tab.get S)) (lim tab.get S 280 q) q x0 x1 x2 x3 x4 h:=(qAA k280 q 2 _ h).trans (e280_2 ..).symm
theorem w280_3(S q x0 x1 h):lim tab.get S 280 q 3 [x0,x1] h=b280_3 (orc S (lim tab.get S)) (lim tab.get S 280 q) q x0 x1 h:=(qAA k280 q 3 _ h).trans (e280_3 ..).symm
theorem k281:tab.get 281=some c281:=by kernel_rfl
theorem w281_0(S q x0 x1 h):lim tab.get S 281 q 0 [x0,x1] h=b281_0 (orc S (lim tab.get S)) (lim tab.get S 281 q) q x0 x1 h:=(qAA k281 q 0 _ h).trans (e281_0 ..).symm
theorem w281_1(S q x0 x1 x2 h):lim tab.get S 281 q 1 [x0,x1,x2] h=b281_1 (orc S (lim tab.get S)) (lim tab.get S 281 q) q x0 x1 x2 h:=(qAA k281 q 1 _ h).trans (e281_1 ..).symm
theorem k287:tab.get 287=some c287:=by kernel_rfl
theorem w287_0(S q x0 x1 h):lim tab.get S 287 q 0 [x0,x1] h=b287_0 (orc S (lim tab.get S)) (lim tab.get S 287 q) q x0 x1 h:=(qAA k287 q 0 _ h).trans (e287_0 ..).symm
theorem k289:tab.get 289=some c289:=by kernel_rfl
theorem w289_0(S q x0 h):lim tab.get S 289 q 0 [x0] h=b289_0 (orc S (lim tab.get S)) (lim tab.get S 289 q) q x0 h:=(qAA k289 q 0 _ h).trans (e289_0 ..).symm
theorem k290:tab.get 290=some c290:=by kernel_rfl
theorem w290_0(S q x0 x1 h):lim tab.get S 290 q 0 [x0,x1] h=b290_0 (orc S (lim tab.get S)) (lim tab.get S 290 q) q x0 x1 h:=(qAA k290 q 0 _ h).trans (e290_0 ..).symm
theorem w290_1(S q x0 x1 x2 x3 x4 x5 x6 h):lim tab.get S 290 q 1 [x0,x1,x2,x3,x4,x5,x6] h=b290_1 (orc S (lim tab.get S)) (lim tab.get S 290 q) q x0 x1 x2 x3 x4 x5 x6 h:=(qAA k290 q 1 _ h).trans (e290_1 ..).symm
theorem w290_2(S q x0 x1 x2 x3 x4 x5 h):lim tab.get S 290 q 2 [x0,x1,x2,x3,x4,x5] h=b290_2 (orc S (lim tab.get S)) (lim tab.get S 290 q) q x0 x1 x2 x3 x4 x5 h:=(qAA k290 q 2 _ h).trans (e290_2 ..).symm
theorem w290_3(S q x0 x1 x2 x3 x4 x5 x6 h):lim tab.get S 290 q 3 [x0,x1,x2,x3,x4,x5,x6] h=b290_3 (orc S (lim tab.get S)) (lim tab.get S 290 q) q x0 x1 x2 x3 x4 x5 x6 h:=(qAA k290 q 3 _ h).trans (e290_3 ..).symm
theorem k291:tab.get 291=some c291:=by kernel_rfl
theorem w291_0(S q x0 h):lim tab.get S 291 q 0 [x0] h=b291_0 (orc S (lim tab.get S)) (lim tab.get S 291 q) q x0 h:=(qAA k291 q 0 _ h).trans (e291_0 ..).symm
theorem k292:tab.get 292=some c292:=by kernel_rfl
theorem w292_0(S q x0 h):lim tab.get S 292 q 0 [x0] h=b292_0 (orc S (lim tab.get S)) (lim tab.get S 292 q) q x0 h:=(qAA k292 q 0 _ h).trans (e292_0 ..).symm
theorem w292_1(S q x0 x1 h):lim tab.get S 292 q 1 [x0,x1] h=b292_1 (orc S (lim tab.get S)) (lim tab.get S 292 q) q x0 x1 h:=(qAA k292 q 1 _ h).trans (e292_1 ..).symm
theorem w292_2(S q x0 x1 h):lim tab.get S 292 q 2 [x0,x1] h=b292_2 (orc S (lim tab.get S)) (lim tab.get S 292 q) q x0 x1 h:=(qAA k292 q 2 _ h).trans (e292_2 ..).symm
theorem w292_3(S q x0 x1 h):lim tab.get S 292 q 3 [x0,x1] h=b292_3 (orc S (lim tab.get S)) (lim tab.get S 292 q) q x0 x1 h:=(qAA k292 q 3 _ h).trans (e292_3 ..).symm
theorem k293:tab.get 293=some c293:=by kernel_rfl
theorem w293_0(S q x0 h):lim tab.get S 293 q 0 [x0] h=b293_0 (orc S (lim tab.get S)) (lim tab.get S 293 q) q x0 h:=(qAA k293 q 0 _ h).trans (e293_0 ..).symm
theorem k294:tab.get 294=some c294:=by kernel_rfl
theorem w294_0(S q x0 h):lim tab.get S 294 q 0 [x0] h=b294_0 (orc S (lim tab.get S)) (lim tab.get S 294 q) q x0 h:=(qAA k294 q 0 _ h).trans (e294_0 ..).symm
theorem k295:tab.get 295=some c295:=by kernel_rfl
theorem w295_0(S q x0 h):lim tab.get S 295 q 0 [x0] h=b295_0 (orc S (lim tab.get S)) (lim tab.get S 295 q) q x0 h:=(qAA k295 q 0 _ h).trans (e295_0 ..).symm
theorem k302:tab.get 302=some c302:=by kernel_rfl
theorem w302_0(S q x0 h):lim tab.get S 302 q 0 [x0] h=b302_0 (orc S (lim tab.get S)) (lim tab.get S 302 q) q x0 h:=(qAA k302 q 0 _ h).trans (e302_0 ..).symm
theorem w302_1(S q x0 x1 x2 h):lim tab.get S 302 q 1 [x0,x1,x2] h=b302_1 (orc S (lim tab.get S)) (lim tab.get S 302 q) q x0 x1 x2 h:=(qAA k302 q 1 _ h).trans (e302_1 ..).symm
theorem w302_2(S q x0 x1 h):lim tab.get S 302 q 2 [x0,x1] h=b302_2 (orc S (lim tab.get S)) (lim tab.get S 302 q) q x0 x1 h:=(qAA k302 q 2 _ h).trans (e302_2 ..).symm
theorem w302_3(S q x0 x1 x2 x3 h):lim tab.get S 302 q 3 [x0,x1,x2,x3] h=b302_3 (orc S (lim tab.get S)) (lim tab.get S 302 q) q x0 x1 x2 x3 h:=(qAA k302 q 3 _ h).trans (e302_3 ..).symm
theorem w302_4(S q x0 x1 x2 x3 h):lim tab.get S 302 q 4 [x0,x1,x2,x3] h=b302_4 (orc S (lim tab.get S)) (lim tab.get S 302 q) q x0 x1 x2 x3 h:=(qAA k302 q 4 _ h).trans (e302_4 ..).symm
theorem k303:tab.get 303=some c303:=by kernel_rfl
theorem w303_0(S q x0 h):lim tab.get S 303 q 0 [x0] h=b303_0 (orc S (lim tab.get S)) (lim tab.get S 303 q) q x0 h:=(qAA k303 q 0 _ h).trans (e303_0 ..).symm
theorem k304:tab.get 304=some c304:=by kernel_rfl
theorem w304_0(S q x0 h):lim tab.get S 304 q 0 [x0] h=b304_0 (orc S (lim tab.get S)) (lim tab.get S 304 q) q x0 h:=(qAA k304 q 0 _ h).trans (e304_0 ..).symm
end Go.Proofs.YtnlmlcfipbnpgaaGreatDoor.Ab
