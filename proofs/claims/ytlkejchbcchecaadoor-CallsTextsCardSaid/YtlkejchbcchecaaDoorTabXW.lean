/- The machine's equations, a piece at a time. Own work, printed by a program of our own; no condition. -/
import Derived.Test.YtlkejchbcchecaaDoorTabX
namespace Go.Proofs.YtlkejchbcchecaaDoor.Ab
open Go Go.AI
set_option linter.all false
set_option linter.unusedVariables false
set_option maxRecDepth 100000
theorem k10 : tab.get 10 = some c10 := by kernel_rfl
theorem w10_0 (S : Oracle) (q : Nat) (x0 x1 x2 : TVal) (h : Heap) : lim tab.get S 10 q 0 [x0, x1, x2] h = b10_0 (orc S (lim tab.get S)) (lim tab.get S 10 q) q x0 x1 x2 h := (qAB k10 q 0 _ h).trans (e10_0 ..).symm
theorem k16 : tab.get 16 = some c16 := by kernel_rfl
theorem w16_0 (S : Oracle) (q : Nat) (x0 : TVal) (h : Heap) : lim tab.get S 16 q 0 [x0] h = b16_0 (orc S (lim tab.get S)) (lim tab.get S 16 q) q x0 h := (qAB k16 q 0 _ h).trans (e16_0 ..).symm
theorem k19 : tab.get 19 = some c19 := by kernel_rfl
theorem w19_0 (S : Oracle) (q : Nat) (x0 : TVal) (h : Heap) : lim tab.get S 19 q 0 [x0] h = b19_0 (orc S (lim tab.get S)) (lim tab.get S 19 q) q x0 h := (qAB k19 q 0 _ h).trans (e19_0 ..).symm
theorem w19_1 (S : Oracle) (q : Nat) (x0 x1 x2 : TVal) (h : Heap) : lim tab.get S 19 q 1 [x0, x1, x2] h = b19_1 (orc S (lim tab.get S)) (lim tab.get S 19 q) q x0 x1 x2 h := (qAB k19 q 1 _ h).trans (e19_1 ..).symm
theorem w19_2 (S : Oracle) (q : Nat) (x0 x1 x2 : TVal) (h : Heap) : lim tab.get S 19 q 2 [x0, x1, x2] h = b19_2 (orc S (lim tab.get S)) (lim tab.get S 19 q) q x0 x1 x2 h := (qAB k19 q 2 _ h).trans (e19_2 ..).symm
theorem k36 : tab.get 36 = some c36 := by kernel_rfl
theorem w36_0 (S : Oracle) (q : Nat) (h : Heap) : lim tab.get S 36 q 0 [] h = b36_0 (orc S (lim tab.get S)) (lim tab.get S 36 q) q  h := (qAB k36 q 0 _ h).trans (e36_0 ..).symm
theorem k38 : tab.get 38 = some c38 := by kernel_rfl
theorem w38_0 (S : Oracle) (q : Nat) (x0 x1 : TVal) (h : Heap) : lim tab.get S 38 q 0 [x0, x1] h = b38_0 (orc S (lim tab.get S)) (lim tab.get S 38 q) q x0 x1 h := (qAB k38 q 0 _ h).trans (e38_0 ..).symm
theorem w38_1 (S : Oracle) (q : Nat) (x0 x1 x2 x3 x4 : TVal) (h : Heap) : lim tab.get S 38 q 1 [x0, x1, x2, x3, x4] h = b38_1 (orc S (lim tab.get S)) (lim tab.get S 38 q) q x0 x1 x2 x3 x4 h := (qAB k38 q 1 _ h).trans (e38_1 ..).symm
theorem k56 : tab.get 56 = some c56 := by kernel_rfl
theorem w56_0 (S : Oracle) (q : Nat) (x0 x1 x2 : TVal) (h : Heap) : lim tab.get S 56 q 0 [x0, x1, x2] h = b56_0 (orc S (lim tab.get S)) (lim tab.get S 56 q) q x0 x1 x2 h := (qAB k56 q 0 _ h).trans (e56_0 ..).symm
theorem w56_1 (S : Oracle) (q : Nat) (x0 x1 x2 x3 : TVal) (h : Heap) : lim tab.get S 56 q 1 [x0, x1, x2, x3] h = b56_1 (orc S (lim tab.get S)) (lim tab.get S 56 q) q x0 x1 x2 x3 h := (qAB k56 q 1 _ h).trans (e56_1 ..).symm
theorem w56_2 (S : Oracle) (q : Nat) (x0 x1 x2 : TVal) (h : Heap) : lim tab.get S 56 q 2 [x0, x1, x2] h = b56_2 (orc S (lim tab.get S)) (lim tab.get S 56 q) q x0 x1 x2 h := (qAB k56 q 2 _ h).trans (e56_2 ..).symm
theorem w56_3 (S : Oracle) (q : Nat) (x0 x1 x2 x3 : TVal) (h : Heap) : lim tab.get S 56 q 3 [x0, x1, x2, x3] h = b56_3 (orc S (lim tab.get S)) (lim tab.get S 56 q) q x0 x1 x2 x3 h := (qAB k56 q 3 _ h).trans (e56_3 ..).symm
theorem w56_4 (S : Oracle) (q : Nat) (x0 x1 x2 : TVal) (h : Heap) : lim tab.get S 56 q 4 [x0, x1, x2] h = b56_4 (orc S (lim tab.get S)) (lim tab.get S 56 q) q x0 x1 x2 h := (qAB k56 q 4 _ h).trans (e56_4 ..).symm
theorem w56_5 (S : Oracle) (q : Nat) (x0 x1 x2 x3 : TVal) (h : Heap) : lim tab.get S 56 q 5 [x0, x1, x2, x3] h = b56_5 (orc S (lim tab.get S)) (lim tab.get S 56 q) q x0 x1 x2 x3 h := (qAB k56 q 5 _ h).trans (e56_5 ..).symm
theorem k66 : tab.get 66 = some c66 := by kernel_rfl
theorem w66_0 (S : Oracle) (q : Nat) (x0 x1 : TVal) (h : Heap) : lim tab.get S 66 q 0 [x0, x1] h = b66_0 (orc S (lim tab.get S)) (lim tab.get S 66 q) q x0 x1 h := (qAB k66 q 0 _ h).trans (e66_0 ..).symm
theorem k67 : tab.get 67 = some c67 := by kernel_rfl
theorem w67_0 (S : Oracle) (q : Nat) (x0 : TVal) (h : Heap) : lim tab.get S 67 q 0 [x0] h = b67_0 (orc S (lim tab.get S)) (lim tab.get S 67 q) q x0 h := (qAB k67 q 0 _ h).trans (e67_0 ..).symm
theorem w67_1 (S : Oracle) (q : Nat) (x0 : TVal) (h : Heap) : lim tab.get S 67 q 1 [x0] h = b67_1 (orc S (lim tab.get S)) (lim tab.get S 67 q) q x0 h := (qAB k67 q 1 _ h).trans (e67_1 ..).symm
theorem k68 : tab.get 68 = some c68 := by kernel_rfl
theorem w68_0 (S : Oracle) (q : Nat) (x0 x1 : TVal) (h : Heap) : lim tab.get S 68 q 0 [x0, x1] h = b68_0 (orc S (lim tab.get S)) (lim tab.get S 68 q) q x0 x1 h := (qAB k68 q 0 _ h).trans (e68_0 ..).symm
theorem k84 : tab.get 84 = some c84 := by kernel_rfl
theorem w84_0 (S : Oracle) (q : Nat) (x0 : TVal) (h : Heap) : lim tab.get S 84 q 0 [x0] h = b84_0 (orc S (lim tab.get S)) (lim tab.get S 84 q) q x0 h := (qAB k84 q 0 _ h).trans (e84_0 ..).symm
theorem k85 : tab.get 85 = some c85 := by kernel_rfl
theorem w85_0 (S : Oracle) (q : Nat) (x0 : TVal) (h : Heap) : lim tab.get S 85 q 0 [x0] h = b85_0 (orc S (lim tab.get S)) (lim tab.get S 85 q) q x0 h := (qAB k85 q 0 _ h).trans (e85_0 ..).symm
theorem w85_1 (S : Oracle) (q : Nat) (x0 x1 : TVal) (h : Heap) : lim tab.get S 85 q 1 [x0, x1] h = b85_1 (orc S (lim tab.get S)) (lim tab.get S 85 q) q x0 x1 h := (qAB k85 q 1 _ h).trans (e85_1 ..).symm
theorem w85_2 (S : Oracle) (q : Nat) (x0 : TVal) (h : Heap) : lim tab.get S 85 q 2 [x0] h = b85_2 (orc S (lim tab.get S)) (lim tab.get S 85 q) q x0 h := (qAB k85 q 2 _ h).trans (e85_2 ..).symm
theorem k86 : tab.get 86 = some c86 := by kernel_rfl
theorem w86_0 (S : Oracle) (q : Nat) (x0 : TVal) (h : Heap) : lim tab.get S 86 q 0 [x0] h = b86_0 (orc S (lim tab.get S)) (lim tab.get S 86 q) q x0 h := (qAB k86 q 0 _ h).trans (e86_0 ..).symm
theorem w86_1 (S : Oracle) (q : Nat) (x0 x1 x2 : TVal) (h : Heap) : lim tab.get S 86 q 1 [x0, x1, x2] h = b86_1 (orc S (lim tab.get S)) (lim tab.get S 86 q) q x0 x1 x2 h := (qAB k86 q 1 _ h).trans (e86_1 ..).symm
theorem k87 : tab.get 87 = some c87 := by kernel_rfl
theorem w87_0 (S : Oracle) (q : Nat) (x0 x1 : TVal) (h : Heap) : lim tab.get S 87 q 0 [x0, x1] h = b87_0 (orc S (lim tab.get S)) (lim tab.get S 87 q) q x0 x1 h := (qAB k87 q 0 _ h).trans (e87_0 ..).symm
theorem k88 : tab.get 88 = some c88 := by kernel_rfl
theorem w88_0 (S : Oracle) (q : Nat) (x0 : TVal) (h : Heap) : lim tab.get S 88 q 0 [x0] h = b88_0 (orc S (lim tab.get S)) (lim tab.get S 88 q) q x0 h := (qAB k88 q 0 _ h).trans (e88_0 ..).symm
theorem k89 : tab.get 89 = some c89 := by kernel_rfl
theorem w89_0 (S : Oracle) (q : Nat) (x0 : TVal) (h : Heap) : lim tab.get S 89 q 0 [x0] h = b89_0 (orc S (lim tab.get S)) (lim tab.get S 89 q) q x0 h := (qAB k89 q 0 _ h).trans (e89_0 ..).symm
theorem k90 : tab.get 90 = some c90 := by kernel_rfl
theorem w90_0 (S : Oracle) (q : Nat) (x0 : TVal) (h : Heap) : lim tab.get S 90 q 0 [x0] h = b90_0 (orc S (lim tab.get S)) (lim tab.get S 90 q) q x0 h := (qAB k90 q 0 _ h).trans (e90_0 ..).symm
theorem k91 : tab.get 91 = some c91 := by kernel_rfl
theorem w91_0 (S : Oracle) (q : Nat) (x0 : TVal) (h : Heap) : lim tab.get S 91 q 0 [x0] h = b91_0 (orc S (lim tab.get S)) (lim tab.get S 91 q) q x0 h := (qAB k91 q 0 _ h).trans (e91_0 ..).symm
theorem k92 : tab.get 92 = some c92 := by kernel_rfl
theorem w92_0 (S : Oracle) (q : Nat) (x0 x1 : TVal) (h : Heap) : lim tab.get S 92 q 0 [x0, x1] h = b92_0 (orc S (lim tab.get S)) (lim tab.get S 92 q) q x0 x1 h := (qAB k92 q 0 _ h).trans (e92_0 ..).symm
theorem w92_1 (S : Oracle) (q : Nat) (x0 x1 x2 x3 : TVal) (h : Heap) : lim tab.get S 92 q 1 [x0, x1, x2, x3] h = b92_1 (orc S (lim tab.get S)) (lim tab.get S 92 q) q x0 x1 x2 x3 h := (qAB k92 q 1 _ h).trans (e92_1 ..).symm
theorem k93 : tab.get 93 = some c93 := by kernel_rfl
theorem w93_0 (S : Oracle) (q : Nat) (x0 x1 : TVal) (h : Heap) : lim tab.get S 93 q 0 [x0, x1] h = b93_0 (orc S (lim tab.get S)) (lim tab.get S 93 q) q x0 x1 h := (qAB k93 q 0 _ h).trans (e93_0 ..).symm
theorem k94 : tab.get 94 = some c94 := by kernel_rfl
theorem w94_0 (S : Oracle) (q : Nat) (x0 : TVal) (h : Heap) : lim tab.get S 94 q 0 [x0] h = b94_0 (orc S (lim tab.get S)) (lim tab.get S 94 q) q x0 h := (qAB k94 q 0 _ h).trans (e94_0 ..).symm
theorem k95 : tab.get 95 = some c95 := by kernel_rfl
theorem w95_0 (S : Oracle) (q : Nat) (x0 : TVal) (h : Heap) : lim tab.get S 95 q 0 [x0] h = b95_0 (orc S (lim tab.get S)) (lim tab.get S 95 q) q x0 h := (qAB k95 q 0 _ h).trans (e95_0 ..).symm
theorem k96 : tab.get 96 = some c96 := by kernel_rfl
theorem w96_0 (S : Oracle) (q : Nat) (x0 x1 : TVal) (h : Heap) : lim tab.get S 96 q 0 [x0, x1] h = b96_0 (orc S (lim tab.get S)) (lim tab.get S 96 q) q x0 x1 h := (qAB k96 q 0 _ h).trans (e96_0 ..).symm
theorem k105 : tab.get 105 = some c105 := by kernel_rfl
theorem w105_0 (S : Oracle) (q : Nat) (x0 : TVal) (h : Heap) : lim tab.get S 105 q 0 [x0] h = b105_0 (orc S (lim tab.get S)) (lim tab.get S 105 q) q x0 h := (qAB k105 q 0 _ h).trans (e105_0 ..).symm
theorem k112 : tab.get 112 = some c112 := by kernel_rfl
theorem w112_0 (S : Oracle) (q : Nat) (x0 : TVal) (h : Heap) : lim tab.get S 112 q 0 [x0] h = b112_0 (orc S (lim tab.get S)) (lim tab.get S 112 q) q x0 h := (qAB k112 q 0 _ h).trans (e112_0 ..).symm
theorem k125 : tab.get 125 = some c125 := by kernel_rfl
theorem w125_0 (S : Oracle) (q : Nat) (x0 : TVal) (h : Heap) : lim tab.get S 125 q 0 [x0] h = b125_0 (orc S (lim tab.get S)) (lim tab.get S 125 q) q x0 h := (qAB k125 q 0 _ h).trans (e125_0 ..).symm
theorem w125_1 (S : Oracle) (q : Nat) (x0 x1 x2 x3 : TVal) (h : Heap) : lim tab.get S 125 q 1 [x0, x1, x2, x3] h = b125_1 (orc S (lim tab.get S)) (lim tab.get S 125 q) q x0 x1 x2 x3 h := (qAB k125 q 1 _ h).trans (e125_1 ..).symm
theorem w125_2 (S : Oracle) (q : Nat) (x0 : TVal) (h : Heap) : lim tab.get S 125 q 2 [x0] h = b125_2 (orc S (lim tab.get S)) (lim tab.get S 125 q) q x0 h := (qAB k125 q 2 _ h).trans (e125_2 ..).symm
theorem k126 : tab.get 126 = some c126 := by kernel_rfl
theorem w126_0 (S : Oracle) (q : Nat) (x0 : TVal) (h : Heap) : lim tab.get S 126 q 0 [x0] h = b126_0 (orc S (lim tab.get S)) (lim tab.get S 126 q) q x0 h := (qAB k126 q 0 _ h).trans (e126_0 ..).symm
theorem k127 : tab.get 127 = some c127 := by kernel_rfl
theorem w127_0 (S : Oracle) (q : Nat) (x0 : TVal) (h : Heap) : lim tab.get S 127 q 0 [x0] h = b127_0 (orc S (lim tab.get S)) (lim tab.get S 127 q) q x0 h := (qAB k127 q 0 _ h).trans (e127_0 ..).symm
theorem k128 : tab.get 128 = some c128 := by kernel_rfl
theorem w128_0 (S : Oracle) (q : Nat) (x0 x1 : TVal) (h : Heap) : lim tab.get S 128 q 0 [x0, x1] h = b128_0 (orc S (lim tab.get S)) (lim tab.get S 128 q) q x0 x1 h := (qAB k128 q 0 _ h).trans (e128_0 ..).symm
theorem w128_1 (S : Oracle) (q : Nat) (x0 x1 x2 x3 : TVal) (h : Heap) : lim tab.get S 128 q 1 [x0, x1, x2, x3] h = b128_1 (orc S (lim tab.get S)) (lim tab.get S 128 q) q x0 x1 x2 x3 h := (qAB k128 q 1 _ h).trans (e128_1 ..).symm
theorem w128_2 (S : Oracle) (q : Nat) (x0 x1 x2 : TVal) (h : Heap) : lim tab.get S 128 q 2 [x0, x1, x2] h = b128_2 (orc S (lim tab.get S)) (lim tab.get S 128 q) q x0 x1 x2 h := (qAB k128 q 2 _ h).trans (e128_2 ..).symm
theorem w128_3 (S : Oracle) (q : Nat) (x0 x1 : TVal) (h : Heap) : lim tab.get S 128 q 3 [x0, x1] h = b128_3 (orc S (lim tab.get S)) (lim tab.get S 128 q) q x0 x1 h := (qAB k128 q 3 _ h).trans (e128_3 ..).symm
theorem k129 : tab.get 129 = some c129 := by kernel_rfl
theorem w129_0 (S : Oracle) (q : Nat) (x0 x1 : TVal) (h : Heap) : lim tab.get S 129 q 0 [x0, x1] h = b129_0 (orc S (lim tab.get S)) (lim tab.get S 129 q) q x0 x1 h := (qAB k129 q 0 _ h).trans (e129_0 ..).symm
theorem w129_1 (S : Oracle) (q : Nat) (x0 x1 x2 x3 x4 : TVal) (h : Heap) : lim tab.get S 129 q 1 [x0, x1, x2, x3, x4] h = b129_1 (orc S (lim tab.get S)) (lim tab.get S 129 q) q x0 x1 x2 x3 x4 h := (qAB k129 q 1 _ h).trans (e129_1 ..).symm
theorem w129_2 (S : Oracle) (q : Nat) (x0 x1 x2 x3 x4 x5 x6 x7 : TVal) (h : Heap) : lim tab.get S 129 q 2 [x0, x1, x2, x3, x4, x5, x6, x7] h = b129_2 (orc S (lim tab.get S)) (lim tab.get S 129 q) q x0 x1 x2 x3 x4 x5 x6 x7 h := (qAB k129 q 2 _ h).trans (e129_2 ..).symm
theorem w129_3 (S : Oracle) (q : Nat) (x0 x1 x2 x3 x4 x5 x6 x7 : TVal) (h : Heap) : lim tab.get S 129 q 3 [x0, x1, x2, x3, x4, x5, x6, x7] h = b129_3 (orc S (lim tab.get S)) (lim tab.get S 129 q) q x0 x1 x2 x3 x4 x5 x6 x7 h := (qAB k129 q 3 _ h).trans (e129_3 ..).symm
theorem w129_4 (S : Oracle) (q : Nat) (x0 x1 x2 x3 : TVal) (h : Heap) : lim tab.get S 129 q 4 [x0, x1, x2, x3] h = b129_4 (orc S (lim tab.get S)) (lim tab.get S 129 q) q x0 x1 x2 x3 h := (qAB k129 q 4 _ h).trans (e129_4 ..).symm
theorem w129_5 (S : Oracle) (q : Nat) (x0 x1 x2 x3 : TVal) (h : Heap) : lim tab.get S 129 q 5 [x0, x1, x2, x3] h = b129_5 (orc S (lim tab.get S)) (lim tab.get S 129 q) q x0 x1 x2 x3 h := (qAB k129 q 5 _ h).trans (e129_5 ..).symm
theorem w129_6 (S : Oracle) (q : Nat) (x0 x1 : TVal) (h : Heap) : lim tab.get S 129 q 6 [x0, x1] h = b129_6 (orc S (lim tab.get S)) (lim tab.get S 129 q) q x0 x1 h := (qAB k129 q 6 _ h).trans (e129_6 ..).symm
theorem k130 : tab.get 130 = some c130 := by kernel_rfl
theorem w130_0 (S : Oracle) (q : Nat) (x0 : TVal) (h : Heap) : lim tab.get S 130 q 0 [x0] h = b130_0 (orc S (lim tab.get S)) (lim tab.get S 130 q) q x0 h := (qAB k130 q 0 _ h).trans (e130_0 ..).symm
theorem w130_1 (S : Oracle) (q : Nat) (x0 x1 x2 : TVal) (h : Heap) : lim tab.get S 130 q 1 [x0, x1, x2] h = b130_1 (orc S (lim tab.get S)) (lim tab.get S 130 q) q x0 x1 x2 h := (qAB k130 q 1 _ h).trans (e130_1 ..).symm
theorem w130_2 (S : Oracle) (q : Nat) (x0 x1 x2 : TVal) (h : Heap) : lim tab.get S 130 q 2 [x0, x1, x2] h = b130_2 (orc S (lim tab.get S)) (lim tab.get S 130 q) q x0 x1 x2 h := (qAB k130 q 2 _ h).trans (e130_2 ..).symm
theorem w130_3 (S : Oracle) (q : Nat) (x0 x1 x2 : TVal) (h : Heap) : lim tab.get S 130 q 3 [x0, x1, x2] h = b130_3 (orc S (lim tab.get S)) (lim tab.get S 130 q) q x0 x1 x2 h := (qAB k130 q 3 _ h).trans (e130_3 ..).symm
theorem k131 : tab.get 131 = some c131 := by kernel_rfl
theorem w131_0 (S : Oracle) (q : Nat) (x0 x1 : TVal) (h : Heap) : lim tab.get S 131 q 0 [x0, x1] h = b131_0 (orc S (lim tab.get S)) (lim tab.get S 131 q) q x0 x1 h := (qAB k131 q 0 _ h).trans (e131_0 ..).symm
theorem w131_1 (S : Oracle) (q : Nat) (x0 x1 x2 x3 : TVal) (h : Heap) : lim tab.get S 131 q 1 [x0, x1, x2, x3] h = b131_1 (orc S (lim tab.get S)) (lim tab.get S 131 q) q x0 x1 x2 x3 h := (qAB k131 q 1 _ h).trans (e131_1 ..).symm
theorem k132 : tab.get 132 = some c132 := by kernel_rfl
theorem w132_0 (S : Oracle) (q : Nat) (x0 : TVal) (h : Heap) : lim tab.get S 132 q 0 [x0] h = b132_0 (orc S (lim tab.get S)) (lim tab.get S 132 q) q x0 h := (qAB k132 q 0 _ h).trans (e132_0 ..).symm
theorem k148 : tab.get 148 = some c148 := by kernel_rfl
theorem w148_0 (S : Oracle) (q : Nat) (x0 : TVal) (h : Heap) : lim tab.get S 148 q 0 [x0] h = b148_0 (orc S (lim tab.get S)) (lim tab.get S 148 q) q x0 h := (qAB k148 q 0 _ h).trans (e148_0 ..).symm
theorem k149 : tab.get 149 = some c149 := by kernel_rfl
theorem w149_0 (S : Oracle) (q : Nat) (x0 x1 : TVal) (h : Heap) : lim tab.get S 149 q 0 [x0, x1] h = b149_0 (orc S (lim tab.get S)) (lim tab.get S 149 q) q x0 x1 h := (qAB k149 q 0 _ h).trans (e149_0 ..).symm
theorem k150 : tab.get 150 = some c150 := by kernel_rfl
theorem w150_0 (S : Oracle) (q : Nat) (x0 : TVal) (h : Heap) : lim tab.get S 150 q 0 [x0] h = b150_0 (orc S (lim tab.get S)) (lim tab.get S 150 q) q x0 h := (qAB k150 q 0 _ h).trans (e150_0 ..).symm
theorem k151 : tab.get 151 = some c151 := by kernel_rfl
theorem w151_0 (S : Oracle) (q : Nat) (x0 x1 : TVal) (h : Heap) : lim tab.get S 151 q 0 [x0, x1] h = b151_0 (orc S (lim tab.get S)) (lim tab.get S 151 q) q x0 x1 h := (qAB k151 q 0 _ h).trans (e151_0 ..).symm
theorem k152 : tab.get 152 = some c152 := by kernel_rfl
theorem w152_0 (S : Oracle) (q : Nat) (x0 : TVal) (h : Heap) : lim tab.get S 152 q 0 [x0] h = b152_0 (orc S (lim tab.get S)) (lim tab.get S 152 q) q x0 h := (qAB k152 q 0 _ h).trans (e152_0 ..).symm
theorem k153 : tab.get 153 = some c153 := by kernel_rfl
theorem w153_0 (S : Oracle) (q : Nat) (x0 : TVal) (h : Heap) : lim tab.get S 153 q 0 [x0] h = b153_0 (orc S (lim tab.get S)) (lim tab.get S 153 q) q x0 h := (qAB k153 q 0 _ h).trans (e153_0 ..).symm
theorem k154 : tab.get 154 = some c154 := by kernel_rfl
theorem w154_0 (S : Oracle) (q : Nat) (x0 x1 : TVal) (h : Heap) : lim tab.get S 154 q 0 [x0, x1] h = b154_0 (orc S (lim tab.get S)) (lim tab.get S 154 q) q x0 x1 h := (qAB k154 q 0 _ h).trans (e154_0 ..).symm
theorem k155 : tab.get 155 = some c155 := by kernel_rfl
theorem w155_0 (S : Oracle) (q : Nat) (x0 : TVal) (h : Heap) : lim tab.get S 155 q 0 [x0] h = b155_0 (orc S (lim tab.get S)) (lim tab.get S 155 q) q x0 h := (qAB k155 q 0 _ h).trans (e155_0 ..).symm
theorem k156 : tab.get 156 = some c156 := by kernel_rfl
theorem w156_0 (S : Oracle) (q : Nat) (x0 : TVal) (h : Heap) : lim tab.get S 156 q 0 [x0] h = b156_0 (orc S (lim tab.get S)) (lim tab.get S 156 q) q x0 h := (qAB k156 q 0 _ h).trans (e156_0 ..).symm
theorem w156_1 (S : Oracle) (q : Nat) (x0 x1 x2 x3 x4 : TVal) (h : Heap) : lim tab.get S 156 q 1 [x0, x1, x2, x3, x4] h = b156_1 (orc S (lim tab.get S)) (lim tab.get S 156 q) q x0 x1 x2 x3 x4 h := (qAB k156 q 1 _ h).trans (e156_1 ..).symm
theorem w156_2 (S : Oracle) (q : Nat) (x0 x1 : TVal) (h : Heap) : lim tab.get S 156 q 2 [x0, x1] h = b156_2 (orc S (lim tab.get S)) (lim tab.get S 156 q) q x0 x1 h := (qAB k156 q 2 _ h).trans (e156_2 ..).symm
theorem k157 : tab.get 157 = some c157 := by kernel_rfl
theorem w157_0 (S : Oracle) (q : Nat) (x0 : TVal) (h : Heap) : lim tab.get S 157 q 0 [x0] h = b157_0 (orc S (lim tab.get S)) (lim tab.get S 157 q) q x0 h := (qAB k157 q 0 _ h).trans (e157_0 ..).symm
theorem k158 : tab.get 158 = some c158 := by kernel_rfl
theorem w158_0 (S : Oracle) (q : Nat) (x0 x1 : TVal) (h : Heap) : lim tab.get S 158 q 0 [x0, x1] h = b158_0 (orc S (lim tab.get S)) (lim tab.get S 158 q) q x0 x1 h := (qAB k158 q 0 _ h).trans (e158_0 ..).symm
theorem k159 : tab.get 159 = some c159 := by kernel_rfl
theorem w159_0 (S : Oracle) (q : Nat) (x0 x1 x2 : TVal) (h : Heap) : lim tab.get S 159 q 0 [x0, x1, x2] h = b159_0 (orc S (lim tab.get S)) (lim tab.get S 159 q) q x0 x1 x2 h := (qAB k159 q 0 _ h).trans (e159_0 ..).symm
theorem k165 : tab.get 165 = some c165 := by kernel_rfl
theorem w165_0 (S : Oracle) (q : Nat) (x0 : TVal) (h : Heap) : lim tab.get S 165 q 0 [x0] h = b165_0 (orc S (lim tab.get S)) (lim tab.get S 165 q) q x0 h := (qAB k165 q 0 _ h).trans (e165_0 ..).symm
theorem w165_1 (S : Oracle) (q : Nat) (x0 x1 : TVal) (h : Heap) : lim tab.get S 165 q 1 [x0, x1] h = b165_1 (orc S (lim tab.get S)) (lim tab.get S 165 q) q x0 x1 h := (qAB k165 q 1 _ h).trans (e165_1 ..).symm
theorem w165_2 (S : Oracle) (q : Nat) (x0 x1 x2 x3 : TVal) (h : Heap) : lim tab.get S 165 q 2 [x0, x1, x2, x3] h = b165_2 (orc S (lim tab.get S)) (lim tab.get S 165 q) q x0 x1 x2 x3 h := (qAB k165 q 2 _ h).trans (e165_2 ..).symm
theorem w165_3 (S : Oracle) (q : Nat) (x0 x1 : TVal) (h : Heap) : lim tab.get S 165 q 3 [x0, x1] h = b165_3 (orc S (lim tab.get S)) (lim tab.get S 165 q) q x0 x1 h := (qAB k165 q 3 _ h).trans (e165_3 ..).symm
theorem k166 : tab.get 166 = some c166 := by kernel_rfl
theorem w166_0 (S : Oracle) (q : Nat) (x0 x1 : TVal) (h : Heap) : lim tab.get S 166 q 0 [x0, x1] h = b166_0 (orc S (lim tab.get S)) (lim tab.get S 166 q) q x0 x1 h := (qAB k166 q 0 _ h).trans (e166_0 ..).symm
theorem w166_1 (S : Oracle) (q : Nat) (x0 x1 x2 : TVal) (h : Heap) : lim tab.get S 166 q 1 [x0, x1, x2] h = b166_1 (orc S (lim tab.get S)) (lim tab.get S 166 q) q x0 x1 x2 h := (qAB k166 q 1 _ h).trans (e166_1 ..).symm
theorem w166_2 (S : Oracle) (q : Nat) (x0 x1 x2 x3 x4 : TVal) (h : Heap) : lim tab.get S 166 q 2 [x0, x1, x2, x3, x4] h = b166_2 (orc S (lim tab.get S)) (lim tab.get S 166 q) q x0 x1 x2 x3 x4 h := (qAB k166 q 2 _ h).trans (e166_2 ..).symm
theorem w166_3 (S : Oracle) (q : Nat) (x0 x1 x2 : TVal) (h : Heap) : lim tab.get S 166 q 3 [x0, x1, x2] h = b166_3 (orc S (lim tab.get S)) (lim tab.get S 166 q) q x0 x1 x2 h := (qAB k166 q 3 _ h).trans (e166_3 ..).symm
theorem k167 : tab.get 167 = some c167 := by kernel_rfl
theorem w167_0 (S : Oracle) (q : Nat) (x0 x1 : TVal) (h : Heap) : lim tab.get S 167 q 0 [x0, x1] h = b167_0 (orc S (lim tab.get S)) (lim tab.get S 167 q) q x0 x1 h := (qAB k167 q 0 _ h).trans (e167_0 ..).symm
theorem k174 : tab.get 174 = some c174 := by kernel_rfl
theorem w174_0 (S : Oracle) (q : Nat) (x0 : TVal) (h : Heap) : lim tab.get S 174 q 0 [x0] h = b174_0 (orc S (lim tab.get S)) (lim tab.get S 174 q) q x0 h := (qAB k174 q 0 _ h).trans (e174_0 ..).symm
theorem k175 : tab.get 175 = some c175 := by kernel_rfl
theorem w175_0 (S : Oracle) (q : Nat) (x0 : TVal) (h : Heap) : lim tab.get S 175 q 0 [x0] h = b175_0 (orc S (lim tab.get S)) (lim tab.get S 175 q) q x0 h := (qAB k175 q 0 _ h).trans (e175_0 ..).symm
theorem k176 : tab.get 176 = some c176 := by kernel_rfl
theorem w176_0 (S : Oracle) (q : Nat) (x0 x1 : TVal) (h : Heap) : lim tab.get S 176 q 0 [x0, x1] h = b176_0 (orc S (lim tab.get S)) (lim tab.get S 176 q) q x0 x1 h := (qAB k176 q 0 _ h).trans (e176_0 ..).symm
theorem k177 : tab.get 177 = some c177 := by kernel_rfl
theorem w177_0 (S : Oracle) (q : Nat) (x0 x1 : TVal) (h : Heap) : lim tab.get S 177 q 0 [x0, x1] h = b177_0 (orc S (lim tab.get S)) (lim tab.get S 177 q) q x0 x1 h := (qAB k177 q 0 _ h).trans (e177_0 ..).symm
theorem w177_1 (S : Oracle) (q : Nat) (x0 x1 x2 x3 : TVal) (h : Heap) : lim tab.get S 177 q 1 [x0, x1, x2, x3] h = b177_1 (orc S (lim tab.get S)) (lim tab.get S 177 q) q x0 x1 x2 x3 h := (qAB k177 q 1 _ h).trans (e177_1 ..).symm
theorem k178 : tab.get 178 = some c178 := by kernel_rfl
theorem w178_0 (S : Oracle) (q : Nat) (x0 x1 : TVal) (h : Heap) : lim tab.get S 178 q 0 [x0, x1] h = b178_0 (orc S (lim tab.get S)) (lim tab.get S 178 q) q x0 x1 h := (qAB k178 q 0 _ h).trans (e178_0 ..).symm
theorem w178_1 (S : Oracle) (q : Nat) (x0 x1 x2 : TVal) (h : Heap) : lim tab.get S 178 q 1 [x0, x1, x2] h = b178_1 (orc S (lim tab.get S)) (lim tab.get S 178 q) q x0 x1 x2 h := (qAB k178 q 1 _ h).trans (e178_1 ..).symm
theorem k179 : tab.get 179 = some c179 := by kernel_rfl
theorem w179_0 (S : Oracle) (q : Nat) (x0 : TVal) (h : Heap) : lim tab.get S 179 q 0 [x0] h = b179_0 (orc S (lim tab.get S)) (lim tab.get S 179 q) q x0 h := (qAB k179 q 0 _ h).trans (e179_0 ..).symm
theorem k180 : tab.get 180 = some c180 := by kernel_rfl
theorem w180_0 (S : Oracle) (q : Nat) (x0 x1 : TVal) (h : Heap) : lim tab.get S 180 q 0 [x0, x1] h = b180_0 (orc S (lim tab.get S)) (lim tab.get S 180 q) q x0 x1 h := (qAB k180 q 0 _ h).trans (e180_0 ..).symm
theorem w180_1 (S : Oracle) (q : Nat) (x0 x1 x2 : TVal) (h : Heap) : lim tab.get S 180 q 1 [x0, x1, x2] h = b180_1 (orc S (lim tab.get S)) (lim tab.get S 180 q) q x0 x1 x2 h := (qAB k180 q 1 _ h).trans (e180_1 ..).symm
theorem w180_2 (S : Oracle) (q : Nat) (x0 : TVal) (h : Heap) : lim tab.get S 180 q 2 [x0] h = b180_2 (orc S (lim tab.get S)) (lim tab.get S 180 q) q x0 h := (qAB k180 q 2 _ h).trans (e180_2 ..).symm
theorem k181 : tab.get 181 = some c181 := by kernel_rfl
theorem w181_0 (S : Oracle) (q : Nat) (x0 : TVal) (h : Heap) : lim tab.get S 181 q 0 [x0] h = b181_0 (orc S (lim tab.get S)) (lim tab.get S 181 q) q x0 h := (qAB k181 q 0 _ h).trans (e181_0 ..).symm
theorem k182 : tab.get 182 = some c182 := by kernel_rfl
theorem w182_0 (S : Oracle) (q : Nat) (x0 : TVal) (h : Heap) : lim tab.get S 182 q 0 [x0] h = b182_0 (orc S (lim tab.get S)) (lim tab.get S 182 q) q x0 h := (qAB k182 q 0 _ h).trans (e182_0 ..).symm
theorem k184 : tab.get 184 = some c184 := by kernel_rfl
theorem w184_0 (S : Oracle) (q : Nat) (x0 : TVal) (h : Heap) : lim tab.get S 184 q 0 [x0] h = b184_0 (orc S (lim tab.get S)) (lim tab.get S 184 q) q x0 h := (qAB k184 q 0 _ h).trans (e184_0 ..).symm
theorem k185 : tab.get 185 = some c185 := by kernel_rfl
theorem w185_0 (S : Oracle) (q : Nat) (x0 : TVal) (h : Heap) : lim tab.get S 185 q 0 [x0] h = b185_0 (orc S (lim tab.get S)) (lim tab.get S 185 q) q x0 h := (qAB k185 q 0 _ h).trans (e185_0 ..).symm
theorem k186 : tab.get 186 = some c186 := by kernel_rfl
theorem w186_0 (S : Oracle) (q : Nat) (x0 x1 : TVal) (h : Heap) : lim tab.get S 186 q 0 [x0, x1] h = b186_0 (orc S (lim tab.get S)) (lim tab.get S 186 q) q x0 x1 h := (qAB k186 q 0 _ h).trans (e186_0 ..).symm
theorem w186_1 (S : Oracle) (q : Nat) (x0 x1 x2 : TVal) (h : Heap) : lim tab.get S 186 q 1 [x0, x1, x2] h = b186_1 (orc S (lim tab.get S)) (lim tab.get S 186 q) q x0 x1 x2 h := (qAB k186 q 1 _ h).trans (e186_1 ..).symm
theorem w186_2 (S : Oracle) (q : Nat) (x0 x1 x2 : TVal) (h : Heap) : lim tab.get S 186 q 2 [x0, x1, x2] h = b186_2 (orc S (lim tab.get S)) (lim tab.get S 186 q) q x0 x1 x2 h := (qAB k186 q 2 _ h).trans (e186_2 ..).symm
theorem w186_3 (S : Oracle) (q : Nat) (x0 x1 x2 : TVal) (h : Heap) : lim tab.get S 186 q 3 [x0, x1, x2] h = b186_3 (orc S (lim tab.get S)) (lim tab.get S 186 q) q x0 x1 x2 h := (qAB k186 q 3 _ h).trans (e186_3 ..).symm
theorem w186_4 (S : Oracle) (q : Nat) (x0 x1 x2 : TVal) (h : Heap) : lim tab.get S 186 q 4 [x0, x1, x2] h = b186_4 (orc S (lim tab.get S)) (lim tab.get S 186 q) q x0 x1 x2 h := (qAB k186 q 4 _ h).trans (e186_4 ..).symm
theorem k192 : tab.get 192 = some c192 := by kernel_rfl
theorem w192_0 (S : Oracle) (q : Nat) (x0 : TVal) (h : Heap) : lim tab.get S 192 q 0 [x0] h = b192_0 (orc S (lim tab.get S)) (lim tab.get S 192 q) q x0 h := (qAB k192 q 0 _ h).trans (e192_0 ..).symm
theorem k193 : tab.get 193 = some c193 := by kernel_rfl
theorem w193_0 (S : Oracle) (q : Nat) (x0 : TVal) (h : Heap) : lim tab.get S 193 q 0 [x0] h = b193_0 (orc S (lim tab.get S)) (lim tab.get S 193 q) q x0 h := (qAB k193 q 0 _ h).trans (e193_0 ..).symm
theorem w193_1 (S : Oracle) (q : Nat) (x0 x1 : TVal) (h : Heap) : lim tab.get S 193 q 1 [x0, x1] h = b193_1 (orc S (lim tab.get S)) (lim tab.get S 193 q) q x0 x1 h := (qAB k193 q 1 _ h).trans (e193_1 ..).symm
theorem w193_2 (S : Oracle) (q : Nat) (x0 x1 : TVal) (h : Heap) : lim tab.get S 193 q 2 [x0, x1] h = b193_2 (orc S (lim tab.get S)) (lim tab.get S 193 q) q x0 x1 h := (qAB k193 q 2 _ h).trans (e193_2 ..).symm
theorem w193_3 (S : Oracle) (q : Nat) (x0 x1 : TVal) (h : Heap) : lim tab.get S 193 q 3 [x0, x1] h = b193_3 (orc S (lim tab.get S)) (lim tab.get S 193 q) q x0 x1 h := (qAB k193 q 3 _ h).trans (e193_3 ..).symm
theorem k194 : tab.get 194 = some c194 := by kernel_rfl
theorem w194_0 (S : Oracle) (q : Nat) (x0 : TVal) (h : Heap) : lim tab.get S 194 q 0 [x0] h = b194_0 (orc S (lim tab.get S)) (lim tab.get S 194 q) q x0 h := (qAB k194 q 0 _ h).trans (e194_0 ..).symm
end Go.Proofs.YtlkejchbcchecaaDoor.Ab
