/- The machine's equations, a piece at a time. Own work, printed by a program of our own; no condition. -/
import Derived.Test.YtnlmlcfipbnpgaaDoorTabP
namespace Go.Proofs.YtnlmlcfipbnpgaaDoor.Ab
open Go Go.AI
set_option linter.all false
set_option linter.unusedVariables false
set_option maxRecDepth 100000
theorem k9 : tab.get 9 = some c9 := by kernel_rfl
theorem w9_0 (S : Oracle) (q : Nat) (x0 : TVal) (h : Heap) : lim tab.get S 9 q 0 [x0] h = b9_0 (orc S (lim tab.get S)) (lim tab.get S 9 q) q x0 h := (qAA k9 q 0 _ h).trans (e9_0 ..).symm
theorem w9_1 (S : Oracle) (q : Nat) (x0 x1 x2 x3 : TVal) (h : Heap) : lim tab.get S 9 q 1 [x0, x1, x2, x3] h = b9_1 (orc S (lim tab.get S)) (lim tab.get S 9 q) q x0 x1 x2 x3 h := (qAA k9 q 1 _ h).trans (e9_1 ..).symm
theorem w9_2 (S : Oracle) (q : Nat) (x0 x1 x2 x3 x4 : TVal) (h : Heap) : lim tab.get S 9 q 2 [x0, x1, x2, x3, x4] h = b9_2 (orc S (lim tab.get S)) (lim tab.get S 9 q) q x0 x1 x2 x3 x4 h := (qAA k9 q 2 _ h).trans (e9_2 ..).symm
theorem w9_3 (S : Oracle) (q : Nat) (x0 x1 : TVal) (h : Heap) : lim tab.get S 9 q 3 [x0, x1] h = b9_3 (orc S (lim tab.get S)) (lim tab.get S 9 q) q x0 x1 h := (qAA k9 q 3 _ h).trans (e9_3 ..).symm
theorem w9_4 (S : Oracle) (q : Nat) (x0 x1 x2 : TVal) (h : Heap) : lim tab.get S 9 q 4 [x0, x1, x2] h = b9_4 (orc S (lim tab.get S)) (lim tab.get S 9 q) q x0 x1 x2 h := (qAA k9 q 4 _ h).trans (e9_4 ..).symm
theorem k24 : tab.get 24 = some c24 := by kernel_rfl
theorem w24_0 (S : Oracle) (q : Nat) (h : Heap) : lim tab.get S 24 q 0 [] h = b24_0 (orc S (lim tab.get S)) (lim tab.get S 24 q) q  h := (qAA k24 q 0 _ h).trans (e24_0 ..).symm
theorem k25 : tab.get 25 = some c25 := by kernel_rfl
theorem w25_0 (S : Oracle) (q : Nat) (x0 x1 : TVal) (h : Heap) : lim tab.get S 25 q 0 [x0, x1] h = b25_0 (orc S (lim tab.get S)) (lim tab.get S 25 q) q x0 x1 h := (qAA k25 q 0 _ h).trans (e25_0 ..).symm
theorem k26 : tab.get 26 = some c26 := by kernel_rfl
theorem w26_0 (S : Oracle) (q : Nat) (x0 : TVal) (h : Heap) : lim tab.get S 26 q 0 [x0] h = b26_0 (orc S (lim tab.get S)) (lim tab.get S 26 q) q x0 h := (qAA k26 q 0 _ h).trans (e26_0 ..).symm
theorem w26_1 (S : Oracle) (q : Nat) (x0 x1 x2 x3 x4 : TVal) (h : Heap) : lim tab.get S 26 q 1 [x0, x1, x2, x3, x4] h = b26_1 (orc S (lim tab.get S)) (lim tab.get S 26 q) q x0 x1 x2 x3 x4 h := (qAA k26 q 1 _ h).trans (e26_1 ..).symm
theorem w26_2 (S : Oracle) (q : Nat) (x0 x1 x2 x3 x4 x5 x6 : TVal) (h : Heap) : lim tab.get S 26 q 2 [x0, x1, x2, x3, x4, x5, x6] h = b26_2 (orc S (lim tab.get S)) (lim tab.get S 26 q) q x0 x1 x2 x3 x4 x5 x6 h := (qAA k26 q 2 _ h).trans (e26_2 ..).symm
theorem w26_3 (S : Oracle) (q : Nat) (x0 x1 : TVal) (h : Heap) : lim tab.get S 26 q 3 [x0, x1] h = b26_3 (orc S (lim tab.get S)) (lim tab.get S 26 q) q x0 x1 h := (qAA k26 q 3 _ h).trans (e26_3 ..).symm
theorem k49 : tab.get 49 = some c49 := by kernel_rfl
theorem w49_0 (S : Oracle) (q : Nat) (x0 : TVal) (h : Heap) : lim tab.get S 49 q 0 [x0] h = b49_0 (orc S (lim tab.get S)) (lim tab.get S 49 q) q x0 h := (qAA k49 q 0 _ h).trans (e49_0 ..).symm
theorem w49_1 (S : Oracle) (q : Nat) (x0 x1 x2 : TVal) (h : Heap) : lim tab.get S 49 q 1 [x0, x1, x2] h = b49_1 (orc S (lim tab.get S)) (lim tab.get S 49 q) q x0 x1 x2 h := (qAA k49 q 1 _ h).trans (e49_1 ..).symm
theorem w49_2 (S : Oracle) (q : Nat) (x0 x1 x2 x3 : TVal) (h : Heap) : lim tab.get S 49 q 2 [x0, x1, x2, x3] h = b49_2 (orc S (lim tab.get S)) (lim tab.get S 49 q) q x0 x1 x2 x3 h := (qAA k49 q 2 _ h).trans (e49_2 ..).symm
theorem w49_3 (S : Oracle) (q : Nat) (x0 : TVal) (h : Heap) : lim tab.get S 49 q 3 [x0] h = b49_3 (orc S (lim tab.get S)) (lim tab.get S 49 q) q x0 h := (qAA k49 q 3 _ h).trans (e49_3 ..).symm
theorem k50 : tab.get 50 = some c50 := by kernel_rfl
theorem w50_0 (S : Oracle) (q : Nat) (x0 x1 : TVal) (h : Heap) : lim tab.get S 50 q 0 [x0, x1] h = b50_0 (orc S (lim tab.get S)) (lim tab.get S 50 q) q x0 x1 h := (qAA k50 q 0 _ h).trans (e50_0 ..).symm
theorem w50_1 (S : Oracle) (q : Nat) (x0 x1 x2 x3 : TVal) (h : Heap) : lim tab.get S 50 q 1 [x0, x1, x2, x3] h = b50_1 (orc S (lim tab.get S)) (lim tab.get S 50 q) q x0 x1 x2 x3 h := (qAA k50 q 1 _ h).trans (e50_1 ..).symm
theorem w50_2 (S : Oracle) (q : Nat) (x0 x1 : TVal) (h : Heap) : lim tab.get S 50 q 2 [x0, x1] h = b50_2 (orc S (lim tab.get S)) (lim tab.get S 50 q) q x0 x1 h := (qAA k50 q 2 _ h).trans (e50_2 ..).symm
theorem k51 : tab.get 51 = some c51 := by kernel_rfl
theorem w51_0 (S : Oracle) (q : Nat) (x0 x1 : TVal) (h : Heap) : lim tab.get S 51 q 0 [x0, x1] h = b51_0 (orc S (lim tab.get S)) (lim tab.get S 51 q) q x0 x1 h := (qAA k51 q 0 _ h).trans (e51_0 ..).symm
theorem k52 : tab.get 52 = some c52 := by kernel_rfl
theorem w52_0 (S : Oracle) (q : Nat) (x0 : TVal) (h : Heap) : lim tab.get S 52 q 0 [x0] h = b52_0 (orc S (lim tab.get S)) (lim tab.get S 52 q) q x0 h := (qAA k52 q 0 _ h).trans (e52_0 ..).symm
theorem k54 : tab.get 54 = some c54 := by kernel_rfl
theorem w54_0 (S : Oracle) (q : Nat) (x0 : TVal) (h : Heap) : lim tab.get S 54 q 0 [x0] h = b54_0 (orc S (lim tab.get S)) (lim tab.get S 54 q) q x0 h := (qAA k54 q 0 _ h).trans (e54_0 ..).symm
theorem w54_1 (S : Oracle) (q : Nat) (x0 x1 x2 : TVal) (h : Heap) : lim tab.get S 54 q 1 [x0, x1, x2] h = b54_1 (orc S (lim tab.get S)) (lim tab.get S 54 q) q x0 x1 x2 h := (qAA k54 q 1 _ h).trans (e54_1 ..).symm
theorem w54_2 (S : Oracle) (q : Nat) (x0 x1 x2 : TVal) (h : Heap) : lim tab.get S 54 q 2 [x0, x1, x2] h = b54_2 (orc S (lim tab.get S)) (lim tab.get S 54 q) q x0 x1 x2 h := (qAA k54 q 2 _ h).trans (e54_2 ..).symm
theorem w54_3 (S : Oracle) (q : Nat) (x0 x1 x2 : TVal) (h : Heap) : lim tab.get S 54 q 3 [x0, x1, x2] h = b54_3 (orc S (lim tab.get S)) (lim tab.get S 54 q) q x0 x1 x2 h := (qAA k54 q 3 _ h).trans (e54_3 ..).symm
theorem w54_4 (S : Oracle) (q : Nat) (x0 : TVal) (h : Heap) : lim tab.get S 54 q 4 [x0] h = b54_4 (orc S (lim tab.get S)) (lim tab.get S 54 q) q x0 h := (qAA k54 q 4 _ h).trans (e54_4 ..).symm
theorem k71 : tab.get 71 = some c71 := by kernel_rfl
theorem w71_0 (S : Oracle) (q : Nat) (x0 x1 : TVal) (h : Heap) : lim tab.get S 71 q 0 [x0, x1] h = b71_0 (orc S (lim tab.get S)) (lim tab.get S 71 q) q x0 x1 h := (qAA k71 q 0 _ h).trans (e71_0 ..).symm
theorem k72 : tab.get 72 = some c72 := by kernel_rfl
theorem w72_0 (S : Oracle) (q : Nat) (x0 : TVal) (h : Heap) : lim tab.get S 72 q 0 [x0] h = b72_0 (orc S (lim tab.get S)) (lim tab.get S 72 q) q x0 h := (qAA k72 q 0 _ h).trans (e72_0 ..).symm
theorem w72_1 (S : Oracle) (q : Nat) (x0 x1 x2 x3 x4 : TVal) (h : Heap) : lim tab.get S 72 q 1 [x0, x1, x2, x3, x4] h = b72_1 (orc S (lim tab.get S)) (lim tab.get S 72 q) q x0 x1 x2 x3 x4 h := (qAA k72 q 1 _ h).trans (e72_1 ..).symm
theorem w72_2 (S : Oracle) (q : Nat) (x0 x1 x2 x3 x4 x5 : TVal) (h : Heap) : lim tab.get S 72 q 2 [x0, x1, x2, x3, x4, x5] h = b72_2 (orc S (lim tab.get S)) (lim tab.get S 72 q) q x0 x1 x2 x3 x4 x5 h := (qAA k72 q 2 _ h).trans (e72_2 ..).symm
theorem w72_3 (S : Oracle) (q : Nat) (x0 x1 x2 x3 x4 : TVal) (h : Heap) : lim tab.get S 72 q 3 [x0, x1, x2, x3, x4] h = b72_3 (orc S (lim tab.get S)) (lim tab.get S 72 q) q x0 x1 x2 x3 x4 h := (qAA k72 q 3 _ h).trans (e72_3 ..).symm
theorem k73 : tab.get 73 = some c73 := by kernel_rfl
theorem w73_0 (S : Oracle) (q : Nat) (x0 : TVal) (h : Heap) : lim tab.get S 73 q 0 [x0] h = b73_0 (orc S (lim tab.get S)) (lim tab.get S 73 q) q x0 h := (qAA k73 q 0 _ h).trans (e73_0 ..).symm
theorem w73_1 (S : Oracle) (q : Nat) (x0 x1 x2 x3 : TVal) (h : Heap) : lim tab.get S 73 q 1 [x0, x1, x2, x3] h = b73_1 (orc S (lim tab.get S)) (lim tab.get S 73 q) q x0 x1 x2 x3 h := (qAA k73 q 1 _ h).trans (e73_1 ..).symm
theorem w73_2 (S : Oracle) (q : Nat) (x0 x1 x2 : TVal) (h : Heap) : lim tab.get S 73 q 2 [x0, x1, x2] h = b73_2 (orc S (lim tab.get S)) (lim tab.get S 73 q) q x0 x1 x2 h := (qAA k73 q 2 _ h).trans (e73_2 ..).symm
theorem w73_3 (S : Oracle) (q : Nat) (x0 x1 x2 : TVal) (h : Heap) : lim tab.get S 73 q 3 [x0, x1, x2] h = b73_3 (orc S (lim tab.get S)) (lim tab.get S 73 q) q x0 x1 x2 h := (qAA k73 q 3 _ h).trans (e73_3 ..).symm
theorem k74 : tab.get 74 = some c74 := by kernel_rfl
theorem w74_0 (S : Oracle) (q : Nat) (x0 x1 : TVal) (h : Heap) : lim tab.get S 74 q 0 [x0, x1] h = b74_0 (orc S (lim tab.get S)) (lim tab.get S 74 q) q x0 x1 h := (qAA k74 q 0 _ h).trans (e74_0 ..).symm
theorem k75 : tab.get 75 = some c75 := by kernel_rfl
theorem w75_0 (S : Oracle) (q : Nat) (x0 : TVal) (h : Heap) : lim tab.get S 75 q 0 [x0] h = b75_0 (orc S (lim tab.get S)) (lim tab.get S 75 q) q x0 h := (qAA k75 q 0 _ h).trans (e75_0 ..).symm
theorem w75_1 (S : Oracle) (q : Nat) (x0 x1 : TVal) (h : Heap) : lim tab.get S 75 q 1 [x0, x1] h = b75_1 (orc S (lim tab.get S)) (lim tab.get S 75 q) q x0 x1 h := (qAA k75 q 1 _ h).trans (e75_1 ..).symm
theorem w75_2 (S : Oracle) (q : Nat) (x0 x1 x2 x3 x4 : TVal) (h : Heap) : lim tab.get S 75 q 2 [x0, x1, x2, x3, x4] h = b75_2 (orc S (lim tab.get S)) (lim tab.get S 75 q) q x0 x1 x2 x3 x4 h := (qAA k75 q 2 _ h).trans (e75_2 ..).symm
theorem w75_3 (S : Oracle) (q : Nat) (x0 x1 : TVal) (h : Heap) : lim tab.get S 75 q 3 [x0, x1] h = b75_3 (orc S (lim tab.get S)) (lim tab.get S 75 q) q x0 x1 h := (qAA k75 q 3 _ h).trans (e75_3 ..).symm
theorem k76 : tab.get 76 = some c76 := by kernel_rfl
theorem w76_0 (S : Oracle) (q : Nat) (x0 x1 : TVal) (h : Heap) : lim tab.get S 76 q 0 [x0, x1] h = b76_0 (orc S (lim tab.get S)) (lim tab.get S 76 q) q x0 x1 h := (qAA k76 q 0 _ h).trans (e76_0 ..).symm
theorem w76_1 (S : Oracle) (q : Nat) (x0 x1 : TVal) (h : Heap) : lim tab.get S 76 q 1 [x0, x1] h = b76_1 (orc S (lim tab.get S)) (lim tab.get S 76 q) q x0 x1 h := (qAA k76 q 1 _ h).trans (e76_1 ..).symm
theorem k77 : tab.get 77 = some c77 := by kernel_rfl
theorem w77_0 (S : Oracle) (q : Nat) (x0 : TVal) (h : Heap) : lim tab.get S 77 q 0 [x0] h = b77_0 (orc S (lim tab.get S)) (lim tab.get S 77 q) q x0 h := (qAA k77 q 0 _ h).trans (e77_0 ..).symm
theorem k78 : tab.get 78 = some c78 := by kernel_rfl
theorem w78_0 (S : Oracle) (q : Nat) (x0 x1 : TVal) (h : Heap) : lim tab.get S 78 q 0 [x0, x1] h = b78_0 (orc S (lim tab.get S)) (lim tab.get S 78 q) q x0 x1 h := (qAA k78 q 0 _ h).trans (e78_0 ..).symm
theorem k79 : tab.get 79 = some c79 := by kernel_rfl
theorem w79_0 (S : Oracle) (q : Nat) (x0 : TVal) (h : Heap) : lim tab.get S 79 q 0 [x0] h = b79_0 (orc S (lim tab.get S)) (lim tab.get S 79 q) q x0 h := (qAA k79 q 0 _ h).trans (e79_0 ..).symm
theorem k80 : tab.get 80 = some c80 := by kernel_rfl
theorem w80_0 (S : Oracle) (q : Nat) (x0 x1 : TVal) (h : Heap) : lim tab.get S 80 q 0 [x0, x1] h = b80_0 (orc S (lim tab.get S)) (lim tab.get S 80 q) q x0 x1 h := (qAA k80 q 0 _ h).trans (e80_0 ..).symm
theorem k84 : tab.get 84 = some c84 := by kernel_rfl
theorem w84_0 (S : Oracle) (q : Nat) (x0 x1 : TVal) (h : Heap) : lim tab.get S 84 q 0 [x0, x1] h = b84_0 (orc S (lim tab.get S)) (lim tab.get S 84 q) q x0 x1 h := (qAA k84 q 0 _ h).trans (e84_0 ..).symm
theorem k85 : tab.get 85 = some c85 := by kernel_rfl
theorem w85_0 (S : Oracle) (q : Nat) (x0 : TVal) (h : Heap) : lim tab.get S 85 q 0 [x0] h = b85_0 (orc S (lim tab.get S)) (lim tab.get S 85 q) q x0 h := (qAA k85 q 0 _ h).trans (e85_0 ..).symm
theorem w85_1 (S : Oracle) (q : Nat) (x0 x1 x2 x3 : TVal) (h : Heap) : lim tab.get S 85 q 1 [x0, x1, x2, x3] h = b85_1 (orc S (lim tab.get S)) (lim tab.get S 85 q) q x0 x1 x2 x3 h := (qAA k85 q 1 _ h).trans (e85_1 ..).symm
theorem k98 : tab.get 98 = some c98 := by kernel_rfl
theorem w98_0 (S : Oracle) (q : Nat) (x0 x1 : TVal) (h : Heap) : lim tab.get S 98 q 0 [x0, x1] h = b98_0 (orc S (lim tab.get S)) (lim tab.get S 98 q) q x0 x1 h := (qAA k98 q 0 _ h).trans (e98_0 ..).symm
theorem w98_1 (S : Oracle) (q : Nat) (x0 x1 x2 x3 x4 x5 x6 x7 : TVal) (h : Heap) : lim tab.get S 98 q 1 [x0, x1, x2, x3, x4, x5, x6, x7] h = b98_1 (orc S (lim tab.get S)) (lim tab.get S 98 q) q x0 x1 x2 x3 x4 x5 x6 x7 h := (qAA k98 q 1 _ h).trans (e98_1 ..).symm
theorem w98_2 (S : Oracle) (q : Nat) (x0 x1 x2 x3 x4 x5 x6 x7 : TVal) (h : Heap) : lim tab.get S 98 q 2 [x0, x1, x2, x3, x4, x5, x6, x7] h = b98_2 (orc S (lim tab.get S)) (lim tab.get S 98 q) q x0 x1 x2 x3 x4 x5 x6 x7 h := (qAA k98 q 2 _ h).trans (e98_2 ..).symm
theorem k99 : tab.get 99 = some c99 := by kernel_rfl
theorem w99_0 (S : Oracle) (q : Nat) (x0 x1 : TVal) (h : Heap) : lim tab.get S 99 q 0 [x0, x1] h = b99_0 (orc S (lim tab.get S)) (lim tab.get S 99 q) q x0 x1 h := (qAA k99 q 0 _ h).trans (e99_0 ..).symm
theorem k100 : tab.get 100 = some c100 := by kernel_rfl
theorem w100_0 (S : Oracle) (q : Nat) (x0 : TVal) (h : Heap) : lim tab.get S 100 q 0 [x0] h = b100_0 (orc S (lim tab.get S)) (lim tab.get S 100 q) q x0 h := (qAA k100 q 0 _ h).trans (e100_0 ..).symm
theorem k101 : tab.get 101 = some c101 := by kernel_rfl
theorem w101_0 (S : Oracle) (q : Nat) (x0 x1 : TVal) (h : Heap) : lim tab.get S 101 q 0 [x0, x1] h = b101_0 (orc S (lim tab.get S)) (lim tab.get S 101 q) q x0 x1 h := (qAA k101 q 0 _ h).trans (e101_0 ..).symm
theorem k102 : tab.get 102 = some c102 := by kernel_rfl
theorem w102_0 (S : Oracle) (q : Nat) (x0 x1 : TVal) (h : Heap) : lim tab.get S 102 q 0 [x0, x1] h = b102_0 (orc S (lim tab.get S)) (lim tab.get S 102 q) q x0 x1 h := (qAA k102 q 0 _ h).trans (e102_0 ..).symm
theorem k103 : tab.get 103 = some c103 := by kernel_rfl
theorem w103_0 (S : Oracle) (q : Nat) (x0 : TVal) (h : Heap) : lim tab.get S 103 q 0 [x0] h = b103_0 (orc S (lim tab.get S)) (lim tab.get S 103 q) q x0 h := (qAA k103 q 0 _ h).trans (e103_0 ..).symm
theorem w103_1 (S : Oracle) (q : Nat) (x0 x1 : TVal) (h : Heap) : lim tab.get S 103 q 1 [x0, x1] h = b103_1 (orc S (lim tab.get S)) (lim tab.get S 103 q) q x0 x1 h := (qAA k103 q 1 _ h).trans (e103_1 ..).symm
theorem k104 : tab.get 104 = some c104 := by kernel_rfl
theorem w104_0 (S : Oracle) (q : Nat) (x0 x1 : TVal) (h : Heap) : lim tab.get S 104 q 0 [x0, x1] h = b104_0 (orc S (lim tab.get S)) (lim tab.get S 104 q) q x0 x1 h := (qAA k104 q 0 _ h).trans (e104_0 ..).symm
theorem w104_1 (S : Oracle) (q : Nat) (x0 x1 : TVal) (h : Heap) : lim tab.get S 104 q 1 [x0, x1] h = b104_1 (orc S (lim tab.get S)) (lim tab.get S 104 q) q x0 x1 h := (qAA k104 q 1 _ h).trans (e104_1 ..).symm
theorem w104_2 (S : Oracle) (q : Nat) (x0 x1 x2 x3 : TVal) (h : Heap) : lim tab.get S 104 q 2 [x0, x1, x2, x3] h = b104_2 (orc S (lim tab.get S)) (lim tab.get S 104 q) q x0 x1 x2 x3 h := (qAA k104 q 2 _ h).trans (e104_2 ..).symm
theorem w104_3 (S : Oracle) (q : Nat) (x0 x1 : TVal) (h : Heap) : lim tab.get S 104 q 3 [x0, x1] h = b104_3 (orc S (lim tab.get S)) (lim tab.get S 104 q) q x0 x1 h := (qAA k104 q 3 _ h).trans (e104_3 ..).symm
theorem k105 : tab.get 105 = some c105 := by kernel_rfl
theorem w105_0 (S : Oracle) (q : Nat) (x0 : TVal) (h : Heap) : lim tab.get S 105 q 0 [x0] h = b105_0 (orc S (lim tab.get S)) (lim tab.get S 105 q) q x0 h := (qAA k105 q 0 _ h).trans (e105_0 ..).symm
theorem k106 : tab.get 106 = some c106 := by kernel_rfl
theorem w106_0 (S : Oracle) (q : Nat) (x0 x1 : TVal) (h : Heap) : lim tab.get S 106 q 0 [x0, x1] h = b106_0 (orc S (lim tab.get S)) (lim tab.get S 106 q) q x0 x1 h := (qAA k106 q 0 _ h).trans (e106_0 ..).symm
theorem k107 : tab.get 107 = some c107 := by kernel_rfl
theorem w107_0 (S : Oracle) (q : Nat) (x0 : TVal) (h : Heap) : lim tab.get S 107 q 0 [x0] h = b107_0 (orc S (lim tab.get S)) (lim tab.get S 107 q) q x0 h := (qAA k107 q 0 _ h).trans (e107_0 ..).symm
theorem k108 : tab.get 108 = some c108 := by kernel_rfl
theorem w108_0 (S : Oracle) (q : Nat) (x0 : TVal) (h : Heap) : lim tab.get S 108 q 0 [x0] h = b108_0 (orc S (lim tab.get S)) (lim tab.get S 108 q) q x0 h := (qAA k108 q 0 _ h).trans (e108_0 ..).symm
theorem k109 : tab.get 109 = some c109 := by kernel_rfl
theorem w109_0 (S : Oracle) (q : Nat) (x0 x1 : TVal) (h : Heap) : lim tab.get S 109 q 0 [x0, x1] h = b109_0 (orc S (lim tab.get S)) (lim tab.get S 109 q) q x0 x1 h := (qAA k109 q 0 _ h).trans (e109_0 ..).symm
theorem w109_1 (S : Oracle) (q : Nat) (x0 x1 : TVal) (h : Heap) : lim tab.get S 109 q 1 [x0, x1] h = b109_1 (orc S (lim tab.get S)) (lim tab.get S 109 q) q x0 x1 h := (qAA k109 q 1 _ h).trans (e109_1 ..).symm
theorem k110 : tab.get 110 = some c110 := by kernel_rfl
theorem w110_0 (S : Oracle) (q : Nat) (x0 x1 : TVal) (h : Heap) : lim tab.get S 110 q 0 [x0, x1] h = b110_0 (orc S (lim tab.get S)) (lim tab.get S 110 q) q x0 x1 h := (qAA k110 q 0 _ h).trans (e110_0 ..).symm
theorem w110_1 (S : Oracle) (q : Nat) (x0 x1 : TVal) (h : Heap) : lim tab.get S 110 q 1 [x0, x1] h = b110_1 (orc S (lim tab.get S)) (lim tab.get S 110 q) q x0 x1 h := (qAA k110 q 1 _ h).trans (e110_1 ..).symm
theorem k111 : tab.get 111 = some c111 := by kernel_rfl
theorem w111_0 (S : Oracle) (q : Nat) (x0 : TVal) (h : Heap) : lim tab.get S 111 q 0 [x0] h = b111_0 (orc S (lim tab.get S)) (lim tab.get S 111 q) q x0 h := (qAA k111 q 0 _ h).trans (e111_0 ..).symm
theorem w111_1 (S : Oracle) (q : Nat) (x0 x1 x2 : TVal) (h : Heap) : lim tab.get S 111 q 1 [x0, x1, x2] h = b111_1 (orc S (lim tab.get S)) (lim tab.get S 111 q) q x0 x1 x2 h := (qAA k111 q 1 _ h).trans (e111_1 ..).symm
theorem w111_2 (S : Oracle) (q : Nat) (x0 : TVal) (h : Heap) : lim tab.get S 111 q 2 [x0] h = b111_2 (orc S (lim tab.get S)) (lim tab.get S 111 q) q x0 h := (qAA k111 q 2 _ h).trans (e111_2 ..).symm
theorem k112 : tab.get 112 = some c112 := by kernel_rfl
theorem w112_0 (S : Oracle) (q : Nat) (x0 x1 : TVal) (h : Heap) : lim tab.get S 112 q 0 [x0, x1] h = b112_0 (orc S (lim tab.get S)) (lim tab.get S 112 q) q x0 x1 h := (qAA k112 q 0 _ h).trans (e112_0 ..).symm
theorem w112_1 (S : Oracle) (q : Nat) (x0 x1 : TVal) (h : Heap) : lim tab.get S 112 q 1 [x0, x1] h = b112_1 (orc S (lim tab.get S)) (lim tab.get S 112 q) q x0 x1 h := (qAA k112 q 1 _ h).trans (e112_1 ..).symm
theorem k113 : tab.get 113 = some c113 := by kernel_rfl
theorem w113_0 (S : Oracle) (q : Nat) (x0 x1 : TVal) (h : Heap) : lim tab.get S 113 q 0 [x0, x1] h = b113_0 (orc S (lim tab.get S)) (lim tab.get S 113 q) q x0 x1 h := (qAA k113 q 0 _ h).trans (e113_0 ..).symm
theorem w113_1 (S : Oracle) (q : Nat) (x0 x1 : TVal) (h : Heap) : lim tab.get S 113 q 1 [x0, x1] h = b113_1 (orc S (lim tab.get S)) (lim tab.get S 113 q) q x0 x1 h := (qAA k113 q 1 _ h).trans (e113_1 ..).symm
theorem k114 : tab.get 114 = some c114 := by kernel_rfl
theorem w114_0 (S : Oracle) (q : Nat) (x0 x1 : TVal) (h : Heap) : lim tab.get S 114 q 0 [x0, x1] h = b114_0 (orc S (lim tab.get S)) (lim tab.get S 114 q) q x0 x1 h := (qAA k114 q 0 _ h).trans (e114_0 ..).symm
theorem w114_1 (S : Oracle) (q : Nat) (x0 x1 : TVal) (h : Heap) : lim tab.get S 114 q 1 [x0, x1] h = b114_1 (orc S (lim tab.get S)) (lim tab.get S 114 q) q x0 x1 h := (qAA k114 q 1 _ h).trans (e114_1 ..).symm
theorem k115 : tab.get 115 = some c115 := by kernel_rfl
theorem w115_0 (S : Oracle) (q : Nat) (x0 x1 : TVal) (h : Heap) : lim tab.get S 115 q 0 [x0, x1] h = b115_0 (orc S (lim tab.get S)) (lim tab.get S 115 q) q x0 x1 h := (qAA k115 q 0 _ h).trans (e115_0 ..).symm
theorem w115_1 (S : Oracle) (q : Nat) (x0 x1 : TVal) (h : Heap) : lim tab.get S 115 q 1 [x0, x1] h = b115_1 (orc S (lim tab.get S)) (lim tab.get S 115 q) q x0 x1 h := (qAA k115 q 1 _ h).trans (e115_1 ..).symm
theorem w115_2 (S : Oracle) (q : Nat) (x0 x1 x2 x3 : TVal) (h : Heap) : lim tab.get S 115 q 2 [x0, x1, x2, x3] h = b115_2 (orc S (lim tab.get S)) (lim tab.get S 115 q) q x0 x1 x2 x3 h := (qAA k115 q 2 _ h).trans (e115_2 ..).symm
theorem k118 : tab.get 118 = some c118 := by kernel_rfl
theorem w118_0 (S : Oracle) (q : Nat) (x0 : TVal) (h : Heap) : lim tab.get S 118 q 0 [x0] h = b118_0 (orc S (lim tab.get S)) (lim tab.get S 118 q) q x0 h := (qAA k118 q 0 _ h).trans (e118_0 ..).symm
theorem k119 : tab.get 119 = some c119 := by kernel_rfl
theorem w119_0 (S : Oracle) (q : Nat) (x0 : TVal) (h : Heap) : lim tab.get S 119 q 0 [x0] h = b119_0 (orc S (lim tab.get S)) (lim tab.get S 119 q) q x0 h := (qAA k119 q 0 _ h).trans (e119_0 ..).symm
theorem k120 : tab.get 120 = some c120 := by kernel_rfl
theorem w120_0 (S : Oracle) (q : Nat) (x0 : TVal) (h : Heap) : lim tab.get S 120 q 0 [x0] h = b120_0 (orc S (lim tab.get S)) (lim tab.get S 120 q) q x0 h := (qAA k120 q 0 _ h).trans (e120_0 ..).symm
theorem w120_1 (S : Oracle) (q : Nat) (x0 x1 x2 x3 x4 : TVal) (h : Heap) : lim tab.get S 120 q 1 [x0, x1, x2, x3, x4] h = b120_1 (orc S (lim tab.get S)) (lim tab.get S 120 q) q x0 x1 x2 x3 x4 h := (qAA k120 q 1 _ h).trans (e120_1 ..).symm
theorem w120_2 (S : Oracle) (q : Nat) (x0 x1 x2 x3 : TVal) (h : Heap) : lim tab.get S 120 q 2 [x0, x1, x2, x3] h = b120_2 (orc S (lim tab.get S)) (lim tab.get S 120 q) q x0 x1 x2 x3 h := (qAA k120 q 2 _ h).trans (e120_2 ..).symm
theorem k121 : tab.get 121 = some c121 := by kernel_rfl
theorem w121_0 (S : Oracle) (q : Nat) (x0 : TVal) (h : Heap) : lim tab.get S 121 q 0 [x0] h = b121_0 (orc S (lim tab.get S)) (lim tab.get S 121 q) q x0 h := (qAA k121 q 0 _ h).trans (e121_0 ..).symm
theorem w121_1 (S : Oracle) (q : Nat) (x0 x1 x2 x3 : TVal) (h : Heap) : lim tab.get S 121 q 1 [x0, x1, x2, x3] h = b121_1 (orc S (lim tab.get S)) (lim tab.get S 121 q) q x0 x1 x2 x3 h := (qAA k121 q 1 _ h).trans (e121_1 ..).symm
theorem w121_2 (S : Oracle) (q : Nat) (x0 x1 x2 x3 : TVal) (h : Heap) : lim tab.get S 121 q 2 [x0, x1, x2, x3] h = b121_2 (orc S (lim tab.get S)) (lim tab.get S 121 q) q x0 x1 x2 x3 h := (qAA k121 q 2 _ h).trans (e121_2 ..).symm
theorem w121_3 (S : Oracle) (q : Nat) (x0 : TVal) (h : Heap) : lim tab.get S 121 q 3 [x0] h = b121_3 (orc S (lim tab.get S)) (lim tab.get S 121 q) q x0 h := (qAA k121 q 3 _ h).trans (e121_3 ..).symm
theorem k122 : tab.get 122 = some c122 := by kernel_rfl
theorem w122_0 (S : Oracle) (q : Nat) (x0 : TVal) (h : Heap) : lim tab.get S 122 q 0 [x0] h = b122_0 (orc S (lim tab.get S)) (lim tab.get S 122 q) q x0 h := (qAA k122 q 0 _ h).trans (e122_0 ..).symm
theorem w122_1 (S : Oracle) (q : Nat) (x0 x1 x2 x3 x4 : TVal) (h : Heap) : lim tab.get S 122 q 1 [x0, x1, x2, x3, x4] h = b122_1 (orc S (lim tab.get S)) (lim tab.get S 122 q) q x0 x1 x2 x3 x4 h := (qAA k122 q 1 _ h).trans (e122_1 ..).symm
theorem w122_2 (S : Oracle) (q : Nat) (x0 x1 : TVal) (h : Heap) : lim tab.get S 122 q 2 [x0, x1] h = b122_2 (orc S (lim tab.get S)) (lim tab.get S 122 q) q x0 x1 h := (qAA k122 q 2 _ h).trans (e122_2 ..).symm
theorem k126 : tab.get 126 = some c126 := by kernel_rfl
theorem w126_0 (S : Oracle) (q : Nat) (x0 x1 : TVal) (h : Heap) : lim tab.get S 126 q 0 [x0, x1] h = b126_0 (orc S (lim tab.get S)) (lim tab.get S 126 q) q x0 x1 h := (qAA k126 q 0 _ h).trans (e126_0 ..).symm
theorem k128 : tab.get 128 = some c128 := by kernel_rfl
theorem w128_0 (S : Oracle) (q : Nat) (x0 : TVal) (h : Heap) : lim tab.get S 128 q 0 [x0] h = b128_0 (orc S (lim tab.get S)) (lim tab.get S 128 q) q x0 h := (qAA k128 q 0 _ h).trans (e128_0 ..).symm
theorem k129 : tab.get 129 = some c129 := by kernel_rfl
theorem w129_0 (S : Oracle) (q : Nat) (x0 x1 : TVal) (h : Heap) : lim tab.get S 129 q 0 [x0, x1] h = b129_0 (orc S (lim tab.get S)) (lim tab.get S 129 q) q x0 x1 h := (qAA k129 q 0 _ h).trans (e129_0 ..).symm
theorem w129_1 (S : Oracle) (q : Nat) (x0 x1 x2 x3 x4 x5 x6 : TVal) (h : Heap) : lim tab.get S 129 q 1 [x0, x1, x2, x3, x4, x5, x6] h = b129_1 (orc S (lim tab.get S)) (lim tab.get S 129 q) q x0 x1 x2 x3 x4 x5 x6 h := (qAA k129 q 1 _ h).trans (e129_1 ..).symm
theorem w129_2 (S : Oracle) (q : Nat) (x0 x1 x2 x3 x4 x5 : TVal) (h : Heap) : lim tab.get S 129 q 2 [x0, x1, x2, x3, x4, x5] h = b129_2 (orc S (lim tab.get S)) (lim tab.get S 129 q) q x0 x1 x2 x3 x4 x5 h := (qAA k129 q 2 _ h).trans (e129_2 ..).symm
theorem w129_3 (S : Oracle) (q : Nat) (x0 x1 x2 x3 x4 x5 x6 : TVal) (h : Heap) : lim tab.get S 129 q 3 [x0, x1, x2, x3, x4, x5, x6] h = b129_3 (orc S (lim tab.get S)) (lim tab.get S 129 q) q x0 x1 x2 x3 x4 x5 x6 h := (qAA k129 q 3 _ h).trans (e129_3 ..).symm
theorem k130 : tab.get 130 = some c130 := by kernel_rfl
theorem w130_0 (S : Oracle) (q : Nat) (x0 x1 : TVal) (h : Heap) : lim tab.get S 130 q 0 [x0, x1] h = b130_0 (orc S (lim tab.get S)) (lim tab.get S 130 q) q x0 x1 h := (qAA k130 q 0 _ h).trans (e130_0 ..).symm
theorem k131 : tab.get 131 = some c131 := by kernel_rfl
theorem w131_0 (S : Oracle) (q : Nat) (x0 : TVal) (h : Heap) : lim tab.get S 131 q 0 [x0] h = b131_0 (orc S (lim tab.get S)) (lim tab.get S 131 q) q x0 h := (qAA k131 q 0 _ h).trans (e131_0 ..).symm
theorem w131_1 (S : Oracle) (q : Nat) (x0 x1 x2 : TVal) (h : Heap) : lim tab.get S 131 q 1 [x0, x1, x2] h = b131_1 (orc S (lim tab.get S)) (lim tab.get S 131 q) q x0 x1 x2 h := (qAA k131 q 1 _ h).trans (e131_1 ..).symm
theorem w131_2 (S : Oracle) (q : Nat) (x0 x1 : TVal) (h : Heap) : lim tab.get S 131 q 2 [x0, x1] h = b131_2 (orc S (lim tab.get S)) (lim tab.get S 131 q) q x0 x1 h := (qAA k131 q 2 _ h).trans (e131_2 ..).symm
theorem k132 : tab.get 132 = some c132 := by kernel_rfl
theorem w132_0 (S : Oracle) (q : Nat) (x0 x1 : TVal) (h : Heap) : lim tab.get S 132 q 0 [x0, x1] h = b132_0 (orc S (lim tab.get S)) (lim tab.get S 132 q) q x0 x1 h := (qAA k132 q 0 _ h).trans (e132_0 ..).symm
theorem k133 : tab.get 133 = some c133 := by kernel_rfl
theorem w133_0 (S : Oracle) (q : Nat) (x0 : TVal) (h : Heap) : lim tab.get S 133 q 0 [x0] h = b133_0 (orc S (lim tab.get S)) (lim tab.get S 133 q) q x0 h := (qAA k133 q 0 _ h).trans (e133_0 ..).symm
theorem k134 : tab.get 134 = some c134 := by kernel_rfl
theorem w134_0 (S : Oracle) (q : Nat) (x0 : TVal) (h : Heap) : lim tab.get S 134 q 0 [x0] h = b134_0 (orc S (lim tab.get S)) (lim tab.get S 134 q) q x0 h := (qAA k134 q 0 _ h).trans (e134_0 ..).symm
theorem k135 : tab.get 135 = some c135 := by kernel_rfl
theorem w135_0 (S : Oracle) (q : Nat) (x0 x1 : TVal) (h : Heap) : lim tab.get S 135 q 0 [x0, x1] h = b135_0 (orc S (lim tab.get S)) (lim tab.get S 135 q) q x0 x1 h := (qAA k135 q 0 _ h).trans (e135_0 ..).symm
theorem k136 : tab.get 136 = some c136 := by kernel_rfl
theorem w136_0 (S : Oracle) (q : Nat) (x0 x1 : TVal) (h : Heap) : lim tab.get S 136 q 0 [x0, x1] h = b136_0 (orc S (lim tab.get S)) (lim tab.get S 136 q) q x0 x1 h := (qAA k136 q 0 _ h).trans (e136_0 ..).symm
theorem w136_1 (S : Oracle) (q : Nat) (x0 x1 x2 x3 : TVal) (h : Heap) : lim tab.get S 136 q 1 [x0, x1, x2, x3] h = b136_1 (orc S (lim tab.get S)) (lim tab.get S 136 q) q x0 x1 x2 x3 h := (qAA k136 q 1 _ h).trans (e136_1 ..).symm
theorem k137 : tab.get 137 = some c137 := by kernel_rfl
theorem w137_0 (S : Oracle) (q : Nat) (x0 x1 : TVal) (h : Heap) : lim tab.get S 137 q 0 [x0, x1] h = b137_0 (orc S (lim tab.get S)) (lim tab.get S 137 q) q x0 x1 h := (qAA k137 q 0 _ h).trans (e137_0 ..).symm
theorem w137_1 (S : Oracle) (q : Nat) (x0 x1 x2 : TVal) (h : Heap) : lim tab.get S 137 q 1 [x0, x1, x2] h = b137_1 (orc S (lim tab.get S)) (lim tab.get S 137 q) q x0 x1 x2 h := (qAA k137 q 1 _ h).trans (e137_1 ..).symm
theorem w137_2 (S : Oracle) (q : Nat) (x0 : TVal) (h : Heap) : lim tab.get S 137 q 2 [x0] h = b137_2 (orc S (lim tab.get S)) (lim tab.get S 137 q) q x0 h := (qAA k137 q 2 _ h).trans (e137_2 ..).symm
theorem k138 : tab.get 138 = some c138 := by kernel_rfl
theorem w138_0 (S : Oracle) (q : Nat) (x0 : TVal) (h : Heap) : lim tab.get S 138 q 0 [x0] h = b138_0 (orc S (lim tab.get S)) (lim tab.get S 138 q) q x0 h := (qAA k138 q 0 _ h).trans (e138_0 ..).symm
theorem k139 : tab.get 139 = some c139 := by kernel_rfl
theorem w139_0 (S : Oracle) (q : Nat) (x0 x1 : TVal) (h : Heap) : lim tab.get S 139 q 0 [x0, x1] h = b139_0 (orc S (lim tab.get S)) (lim tab.get S 139 q) q x0 x1 h := (qAA k139 q 0 _ h).trans (e139_0 ..).symm
theorem k140 : tab.get 140 = some c140 := by kernel_rfl
theorem w140_0 (S : Oracle) (q : Nat) (x0 : TVal) (h : Heap) : lim tab.get S 140 q 0 [x0] h = b140_0 (orc S (lim tab.get S)) (lim tab.get S 140 q) q x0 h := (qAA k140 q 0 _ h).trans (e140_0 ..).symm
theorem k141 : tab.get 141 = some c141 := by kernel_rfl
theorem w141_0 (S : Oracle) (q : Nat) (x0 x1 : TVal) (h : Heap) : lim tab.get S 141 q 0 [x0, x1] h = b141_0 (orc S (lim tab.get S)) (lim tab.get S 141 q) q x0 x1 h := (qAA k141 q 0 _ h).trans (e141_0 ..).symm
theorem k142 : tab.get 142 = some c142 := by kernel_rfl
theorem w142_0 (S : Oracle) (q : Nat) (x0 : TVal) (h : Heap) : lim tab.get S 142 q 0 [x0] h = b142_0 (orc S (lim tab.get S)) (lim tab.get S 142 q) q x0 h := (qAA k142 q 0 _ h).trans (e142_0 ..).symm
theorem w142_1 (S : Oracle) (q : Nat) (x0 x1 x2 x3 : TVal) (h : Heap) : lim tab.get S 142 q 1 [x0, x1, x2, x3] h = b142_1 (orc S (lim tab.get S)) (lim tab.get S 142 q) q x0 x1 x2 x3 h := (qAA k142 q 1 _ h).trans (e142_1 ..).symm
theorem w142_2 (S : Oracle) (q : Nat) (x0 x1 x2 : TVal) (h : Heap) : lim tab.get S 142 q 2 [x0, x1, x2] h = b142_2 (orc S (lim tab.get S)) (lim tab.get S 142 q) q x0 x1 x2 h := (qAA k142 q 2 _ h).trans (e142_2 ..).symm
theorem w142_3 (S : Oracle) (q : Nat) (x0 x1 x2 : TVal) (h : Heap) : lim tab.get S 142 q 3 [x0, x1, x2] h = b142_3 (orc S (lim tab.get S)) (lim tab.get S 142 q) q x0 x1 x2 h := (qAA k142 q 3 _ h).trans (e142_3 ..).symm
theorem k145 : tab.get 145 = some c145 := by kernel_rfl
theorem w145_0 (S : Oracle) (q : Nat) (x0 x1 : TVal) (h : Heap) : lim tab.get S 145 q 0 [x0, x1] h = b145_0 (orc S (lim tab.get S)) (lim tab.get S 145 q) q x0 x1 h := (qAA k145 q 0 _ h).trans (e145_0 ..).symm
theorem k146 : tab.get 146 = some c146 := by kernel_rfl
theorem w146_0 (S : Oracle) (q : Nat) (x0 : TVal) (h : Heap) : lim tab.get S 146 q 0 [x0] h = b146_0 (orc S (lim tab.get S)) (lim tab.get S 146 q) q x0 h := (qAA k146 q 0 _ h).trans (e146_0 ..).symm
theorem k147 : tab.get 147 = some c147 := by kernel_rfl
theorem w147_0 (S : Oracle) (q : Nat) (x0 : TVal) (h : Heap) : lim tab.get S 147 q 0 [x0] h = b147_0 (orc S (lim tab.get S)) (lim tab.get S 147 q) q x0 h := (qAA k147 q 0 _ h).trans (e147_0 ..).symm
theorem w147_1 (S : Oracle) (q : Nat) (x0 x1 x2 x3 x4 : TVal) (h : Heap) : lim tab.get S 147 q 1 [x0, x1, x2, x3, x4] h = b147_1 (orc S (lim tab.get S)) (lim tab.get S 147 q) q x0 x1 x2 x3 x4 h := (qAA k147 q 1 _ h).trans (e147_1 ..).symm
theorem w147_2 (S : Oracle) (q : Nat) (x0 x1 x2 : TVal) (h : Heap) : lim tab.get S 147 q 2 [x0, x1, x2] h = b147_2 (orc S (lim tab.get S)) (lim tab.get S 147 q) q x0 x1 x2 h := (qAA k147 q 2 _ h).trans (e147_2 ..).symm
theorem w147_3 (S : Oracle) (q : Nat) (x0 x1 x2 x3 : TVal) (h : Heap) : lim tab.get S 147 q 3 [x0, x1, x2, x3] h = b147_3 (orc S (lim tab.get S)) (lim tab.get S 147 q) q x0 x1 x2 x3 h := (qAA k147 q 3 _ h).trans (e147_3 ..).symm
theorem w147_4 (S : Oracle) (q : Nat) (x0 x1 x2 x3 : TVal) (h : Heap) : lim tab.get S 147 q 4 [x0, x1, x2, x3] h = b147_4 (orc S (lim tab.get S)) (lim tab.get S 147 q) q x0 x1 x2 x3 h := (qAA k147 q 4 _ h).trans (e147_4 ..).symm
theorem w147_5 (S : Oracle) (q : Nat) (x0 x1 x2 x3 x4 : TVal) (h : Heap) : lim tab.get S 147 q 5 [x0, x1, x2, x3, x4] h = b147_5 (orc S (lim tab.get S)) (lim tab.get S 147 q) q x0 x1 x2 x3 x4 h := (qAA k147 q 5 _ h).trans (e147_5 ..).symm
theorem w147_6 (S : Oracle) (q : Nat) (x0 x1 x2 x3 : TVal) (h : Heap) : lim tab.get S 147 q 6 [x0, x1, x2, x3] h = b147_6 (orc S (lim tab.get S)) (lim tab.get S 147 q) q x0 x1 x2 x3 h := (qAA k147 q 6 _ h).trans (e147_6 ..).symm
theorem w147_7 (S : Oracle) (q : Nat) (x0 x1 x2 x3 : TVal) (h : Heap) : lim tab.get S 147 q 7 [x0, x1, x2, x3] h = b147_7 (orc S (lim tab.get S)) (lim tab.get S 147 q) q x0 x1 x2 x3 h := (qAA k147 q 7 _ h).trans (e147_7 ..).symm
theorem k153 : tab.get 153 = some c153 := by kernel_rfl
theorem w153_0 (S : Oracle) (q : Nat) (x0 : TVal) (h : Heap) : lim tab.get S 153 q 0 [x0] h = b153_0 (orc S (lim tab.get S)) (lim tab.get S 153 q) q x0 h := (qAA k153 q 0 _ h).trans (e153_0 ..).symm
theorem w153_1 (S : Oracle) (q : Nat) (x0 x1 x2 : TVal) (h : Heap) : lim tab.get S 153 q 1 [x0, x1, x2] h = b153_1 (orc S (lim tab.get S)) (lim tab.get S 153 q) q x0 x1 x2 h := (qAA k153 q 1 _ h).trans (e153_1 ..).symm
theorem w153_2 (S : Oracle) (q : Nat) (x0 x1 : TVal) (h : Heap) : lim tab.get S 153 q 2 [x0, x1] h = b153_2 (orc S (lim tab.get S)) (lim tab.get S 153 q) q x0 x1 h := (qAA k153 q 2 _ h).trans (e153_2 ..).symm
theorem w153_3 (S : Oracle) (q : Nat) (x0 x1 x2 x3 : TVal) (h : Heap) : lim tab.get S 153 q 3 [x0, x1, x2, x3] h = b153_3 (orc S (lim tab.get S)) (lim tab.get S 153 q) q x0 x1 x2 x3 h := (qAA k153 q 3 _ h).trans (e153_3 ..).symm
theorem w153_4 (S : Oracle) (q : Nat) (x0 x1 x2 x3 : TVal) (h : Heap) : lim tab.get S 153 q 4 [x0, x1, x2, x3] h = b153_4 (orc S (lim tab.get S)) (lim tab.get S 153 q) q x0 x1 x2 x3 h := (qAA k153 q 4 _ h).trans (e153_4 ..).symm
theorem k154 : tab.get 154 = some c154 := by kernel_rfl
theorem w154_0 (S : Oracle) (q : Nat) (h : Heap) : lim tab.get S 154 q 0 [] h = b154_0 (orc S (lim tab.get S)) (lim tab.get S 154 q) q  h := (qAA k154 q 0 _ h).trans (e154_0 ..).symm
theorem k155 : tab.get 155 = some c155 := by kernel_rfl
theorem w155_0 (S : Oracle) (q : Nat) (x0 : TVal) (h : Heap) : lim tab.get S 155 q 0 [x0] h = b155_0 (orc S (lim tab.get S)) (lim tab.get S 155 q) q x0 h := (qAA k155 q 0 _ h).trans (e155_0 ..).symm
theorem w155_1 (S : Oracle) (q : Nat) (x0 x1 : TVal) (h : Heap) : lim tab.get S 155 q 1 [x0, x1] h = b155_1 (orc S (lim tab.get S)) (lim tab.get S 155 q) q x0 x1 h := (qAA k155 q 1 _ h).trans (e155_1 ..).symm
theorem k156 : tab.get 156 = some c156 := by kernel_rfl
theorem w156_0 (S : Oracle) (q : Nat) (x0 : TVal) (h : Heap) : lim tab.get S 156 q 0 [x0] h = b156_0 (orc S (lim tab.get S)) (lim tab.get S 156 q) q x0 h := (qAA k156 q 0 _ h).trans (e156_0 ..).symm
theorem w156_1 (S : Oracle) (q : Nat) (x0 x1 x2 : TVal) (h : Heap) : lim tab.get S 156 q 1 [x0, x1, x2] h = b156_1 (orc S (lim tab.get S)) (lim tab.get S 156 q) q x0 x1 x2 h := (qAA k156 q 1 _ h).trans (e156_1 ..).symm
theorem k157 : tab.get 157 = some c157 := by kernel_rfl
theorem w157_0 (S : Oracle) (q : Nat) (x0 x1 : TVal) (h : Heap) : lim tab.get S 157 q 0 [x0, x1] h = b157_0 (orc S (lim tab.get S)) (lim tab.get S 157 q) q x0 x1 h := (qAA k157 q 0 _ h).trans (e157_0 ..).symm
theorem k158 : tab.get 158 = some c158 := by kernel_rfl
theorem w158_0 (S : Oracle) (q : Nat) (x0 : TVal) (h : Heap) : lim tab.get S 158 q 0 [x0] h = b158_0 (orc S (lim tab.get S)) (lim tab.get S 158 q) q x0 h := (qAA k158 q 0 _ h).trans (e158_0 ..).symm
theorem k159 : tab.get 159 = some c159 := by kernel_rfl
theorem w159_0 (S : Oracle) (q : Nat) (x0 x1 : TVal) (h : Heap) : lim tab.get S 159 q 0 [x0, x1] h = b159_0 (orc S (lim tab.get S)) (lim tab.get S 159 q) q x0 x1 h := (qAA k159 q 0 _ h).trans (e159_0 ..).symm
theorem w159_1 (S : Oracle) (q : Nat) (x0 : TVal) (h : Heap) : lim tab.get S 159 q 1 [x0] h = b159_1 (orc S (lim tab.get S)) (lim tab.get S 159 q) q x0 h := (qAA k159 q 1 _ h).trans (e159_1 ..).symm
theorem w159_2 (S : Oracle) (q : Nat) (x0 x1 x2 x3 : TVal) (h : Heap) : lim tab.get S 159 q 2 [x0, x1, x2, x3] h = b159_2 (orc S (lim tab.get S)) (lim tab.get S 159 q) q x0 x1 x2 x3 h := (qAA k159 q 2 _ h).trans (e159_2 ..).symm
theorem w159_3 (S : Oracle) (q : Nat) (x0 x1 x2 x3 : TVal) (h : Heap) : lim tab.get S 159 q 3 [x0, x1, x2, x3] h = b159_3 (orc S (lim tab.get S)) (lim tab.get S 159 q) q x0 x1 x2 x3 h := (qAA k159 q 3 _ h).trans (e159_3 ..).symm
theorem w159_4 (S : Oracle) (q : Nat) (x0 x1 x2 x3 x4 : TVal) (h : Heap) : lim tab.get S 159 q 4 [x0, x1, x2, x3, x4] h = b159_4 (orc S (lim tab.get S)) (lim tab.get S 159 q) q x0 x1 x2 x3 x4 h := (qAA k159 q 4 _ h).trans (e159_4 ..).symm
theorem w159_5 (S : Oracle) (q : Nat) (x0 x1 : TVal) (h : Heap) : lim tab.get S 159 q 5 [x0, x1] h = b159_5 (orc S (lim tab.get S)) (lim tab.get S 159 q) q x0 x1 h := (qAA k159 q 5 _ h).trans (e159_5 ..).symm
theorem w159_6 (S : Oracle) (q : Nat) (h : Heap) : lim tab.get S 159 q 6 [] h = b159_6 (orc S (lim tab.get S)) (lim tab.get S 159 q) q  h := (qAA k159 q 6 _ h).trans (e159_6 ..).symm
theorem w159_7 (S : Oracle) (q : Nat) (x0 x1 x2 x3 x4 x5 : TVal) (h : Heap) : lim tab.get S 159 q 7 [x0, x1, x2, x3, x4, x5] h = b159_7 (orc S (lim tab.get S)) (lim tab.get S 159 q) q x0 x1 x2 x3 x4 x5 h := (qAA k159 q 7 _ h).trans (e159_7 ..).symm
theorem w159_8 (S : Oracle) (q : Nat) (x0 x1 x2 x3 x4 x5 x6 : TVal) (h : Heap) : lim tab.get S 159 q 8 [x0, x1, x2, x3, x4, x5, x6] h = b159_8 (orc S (lim tab.get S)) (lim tab.get S 159 q) q x0 x1 x2 x3 x4 x5 x6 h := (qAA k159 q 8 _ h).trans (e159_8 ..).symm
theorem w159_9 (S : Oracle) (q : Nat) (x0 x1 : TVal) (h : Heap) : lim tab.get S 159 q 9 [x0, x1] h = b159_9 (orc S (lim tab.get S)) (lim tab.get S 159 q) q x0 x1 h := (qAA k159 q 9 _ h).trans (e159_9 ..).symm
theorem w159_10 (S : Oracle) (q : Nat) (x0 x1 x2 x3 x4 x5 : TVal) (h : Heap) : lim tab.get S 159 q 10 [x0, x1, x2, x3, x4, x5] h = b159_10 (orc S (lim tab.get S)) (lim tab.get S 159 q) q x0 x1 x2 x3 x4 x5 h := (qAA k159 q 10 _ h).trans (e159_10 ..).symm
theorem k160 : tab.get 160 = some c160 := by kernel_rfl
theorem w160_0 (S : Oracle) (q : Nat) (x0 : TVal) (h : Heap) : lim tab.get S 160 q 0 [x0] h = b160_0 (orc S (lim tab.get S)) (lim tab.get S 160 q) q x0 h := (qAA k160 q 0 _ h).trans (e160_0 ..).symm
theorem k161 : tab.get 161 = some c161 := by kernel_rfl
theorem w161_0 (S : Oracle) (q : Nat) (x0 x1 : TVal) (h : Heap) : lim tab.get S 161 q 0 [x0, x1] h = b161_0 (orc S (lim tab.get S)) (lim tab.get S 161 q) q x0 x1 h := (qAA k161 q 0 _ h).trans (e161_0 ..).symm
theorem k162 : tab.get 162 = some c162 := by kernel_rfl
theorem w162_0 (S : Oracle) (q : Nat) (x0 x1 : TVal) (h : Heap) : lim tab.get S 162 q 0 [x0, x1] h = b162_0 (orc S (lim tab.get S)) (lim tab.get S 162 q) q x0 x1 h := (qAA k162 q 0 _ h).trans (e162_0 ..).symm
theorem w162_1 (S : Oracle) (q : Nat) (x0 x1 x2 x3 x4 : TVal) (h : Heap) : lim tab.get S 162 q 1 [x0, x1, x2, x3, x4] h = b162_1 (orc S (lim tab.get S)) (lim tab.get S 162 q) q x0 x1 x2 x3 x4 h := (qAA k162 q 1 _ h).trans (e162_1 ..).symm
theorem w162_2 (S : Oracle) (q : Nat) (x0 x1 x2 : TVal) (h : Heap) : lim tab.get S 162 q 2 [x0, x1, x2] h = b162_2 (orc S (lim tab.get S)) (lim tab.get S 162 q) q x0 x1 x2 h := (qAA k162 q 2 _ h).trans (e162_2 ..).symm
theorem w162_3 (S : Oracle) (q : Nat) (x0 x1 : TVal) (h : Heap) : lim tab.get S 162 q 3 [x0, x1] h = b162_3 (orc S (lim tab.get S)) (lim tab.get S 162 q) q x0 x1 h := (qAA k162 q 3 _ h).trans (e162_3 ..).symm
theorem w162_4 (S : Oracle) (q : Nat) (x0 x1 x2 x3 x4 : TVal) (h : Heap) : lim tab.get S 162 q 4 [x0, x1, x2, x3, x4] h = b162_4 (orc S (lim tab.get S)) (lim tab.get S 162 q) q x0 x1 x2 x3 x4 h := (qAA k162 q 4 _ h).trans (e162_4 ..).symm
theorem k163 : tab.get 163 = some c163 := by kernel_rfl
theorem w163_0 (S : Oracle) (q : Nat) (x0 : TVal) (h : Heap) : lim tab.get S 163 q 0 [x0] h = b163_0 (orc S (lim tab.get S)) (lim tab.get S 163 q) q x0 h := (qAA k163 q 0 _ h).trans (e163_0 ..).symm
theorem w163_1 (S : Oracle) (q : Nat) (x0 : TVal) (h : Heap) : lim tab.get S 163 q 1 [x0] h = b163_1 (orc S (lim tab.get S)) (lim tab.get S 163 q) q x0 h := (qAA k163 q 1 _ h).trans (e163_1 ..).symm
theorem k165 : tab.get 165 = some c165 := by kernel_rfl
theorem w165_0 (S : Oracle) (q : Nat) (x0 x1 : TVal) (h : Heap) : lim tab.get S 165 q 0 [x0, x1] h = b165_0 (orc S (lim tab.get S)) (lim tab.get S 165 q) q x0 x1 h := (qAA k165 q 0 _ h).trans (e165_0 ..).symm
theorem w165_1 (S : Oracle) (q : Nat) (x0 x1 x2 : TVal) (h : Heap) : lim tab.get S 165 q 1 [x0, x1, x2] h = b165_1 (orc S (lim tab.get S)) (lim tab.get S 165 q) q x0 x1 x2 h := (qAA k165 q 1 _ h).trans (e165_1 ..).symm
theorem k166 : tab.get 166 = some c166 := by kernel_rfl
theorem w166_0 (S : Oracle) (q : Nat) (x0 : TVal) (h : Heap) : lim tab.get S 166 q 0 [x0] h = b166_0 (orc S (lim tab.get S)) (lim tab.get S 166 q) q x0 h := (qAA k166 q 0 _ h).trans (e166_0 ..).symm
theorem k167 : tab.get 167 = some c167 := by kernel_rfl
theorem w167_0 (S : Oracle) (q : Nat) (x0 x1 : TVal) (h : Heap) : lim tab.get S 167 q 0 [x0, x1] h = b167_0 (orc S (lim tab.get S)) (lim tab.get S 167 q) q x0 x1 h := (qAA k167 q 0 _ h).trans (e167_0 ..).symm
theorem k168 : tab.get 168 = some c168 := by kernel_rfl
theorem w168_0 (S : Oracle) (q : Nat) (x0 : TVal) (h : Heap) : lim tab.get S 168 q 0 [x0] h = b168_0 (orc S (lim tab.get S)) (lim tab.get S 168 q) q x0 h := (qAA k168 q 0 _ h).trans (e168_0 ..).symm
theorem k169 : tab.get 169 = some c169 := by kernel_rfl
theorem w169_0 (S : Oracle) (q : Nat) (x0 x1 : TVal) (h : Heap) : lim tab.get S 169 q 0 [x0, x1] h = b169_0 (orc S (lim tab.get S)) (lim tab.get S 169 q) q x0 x1 h := (qAA k169 q 0 _ h).trans (e169_0 ..).symm
theorem k171 : tab.get 171 = some c171 := by kernel_rfl
theorem w171_0 (S : Oracle) (q : Nat) (x0 x1 : TVal) (h : Heap) : lim tab.get S 171 q 0 [x0, x1] h = b171_0 (orc S (lim tab.get S)) (lim tab.get S 171 q) q x0 x1 h := (qAA k171 q 0 _ h).trans (e171_0 ..).symm
theorem w171_1 (S : Oracle) (q : Nat) (x0 x1 x2 x3 : TVal) (h : Heap) : lim tab.get S 171 q 1 [x0, x1, x2, x3] h = b171_1 (orc S (lim tab.get S)) (lim tab.get S 171 q) q x0 x1 x2 x3 h := (qAA k171 q 1 _ h).trans (e171_1 ..).symm
theorem w171_2 (S : Oracle) (q : Nat) (h : Heap) : lim tab.get S 171 q 2 [] h = b171_2 (orc S (lim tab.get S)) (lim tab.get S 171 q) q  h := (qAA k171 q 2 _ h).trans (e171_2 ..).symm
theorem w171_3 (S : Oracle) (q : Nat) (x0 x1 : TVal) (h : Heap) : lim tab.get S 171 q 3 [x0, x1] h = b171_3 (orc S (lim tab.get S)) (lim tab.get S 171 q) q x0 x1 h := (qAA k171 q 3 _ h).trans (e171_3 ..).symm
theorem w171_4 (S : Oracle) (q : Nat) (x0 x1 x2 x3 : TVal) (h : Heap) : lim tab.get S 171 q 4 [x0, x1, x2, x3] h = b171_4 (orc S (lim tab.get S)) (lim tab.get S 171 q) q x0 x1 x2 x3 h := (qAA k171 q 4 _ h).trans (e171_4 ..).symm
theorem k172 : tab.get 172 = some c172 := by kernel_rfl
theorem w172_0 (S : Oracle) (q : Nat) (x0 x1 : TVal) (h : Heap) : lim tab.get S 172 q 0 [x0, x1] h = b172_0 (orc S (lim tab.get S)) (lim tab.get S 172 q) q x0 x1 h := (qAA k172 q 0 _ h).trans (e172_0 ..).symm
theorem w172_1 (S : Oracle) (q : Nat) (x0 x1 x2 x3 : TVal) (h : Heap) : lim tab.get S 172 q 1 [x0, x1, x2, x3] h = b172_1 (orc S (lim tab.get S)) (lim tab.get S 172 q) q x0 x1 x2 x3 h := (qAA k172 q 1 _ h).trans (e172_1 ..).symm
theorem w172_2 (S : Oracle) (q : Nat) (h : Heap) : lim tab.get S 172 q 2 [] h = b172_2 (orc S (lim tab.get S)) (lim tab.get S 172 q) q  h := (qAA k172 q 2 _ h).trans (e172_2 ..).symm
theorem w172_3 (S : Oracle) (q : Nat) (x0 x1 : TVal) (h : Heap) : lim tab.get S 172 q 3 [x0, x1] h = b172_3 (orc S (lim tab.get S)) (lim tab.get S 172 q) q x0 x1 h := (qAA k172 q 3 _ h).trans (e172_3 ..).symm
theorem w172_4 (S : Oracle) (q : Nat) (x0 x1 x2 x3 : TVal) (h : Heap) : lim tab.get S 172 q 4 [x0, x1, x2, x3] h = b172_4 (orc S (lim tab.get S)) (lim tab.get S 172 q) q x0 x1 x2 x3 h := (qAA k172 q 4 _ h).trans (e172_4 ..).symm
end Go.Proofs.YtnlmlcfipbnpgaaDoor.Ab
