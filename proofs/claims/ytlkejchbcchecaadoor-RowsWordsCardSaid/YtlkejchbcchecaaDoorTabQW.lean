/- The machine's equations, a piece at a time. Own work, printed by a program of our own; no condition. -/
import Derived.Test.YtlkejchbcchecaaDoorTabQ
namespace Go.Proofs.YtlkejchbcchecaaDoor.Ab
open Go Go.AI
set_option linter.all false
set_option linter.unusedVariables false
set_option maxRecDepth 100000
theorem k5 : tab.get 5 = some c5 := by kernel_rfl
theorem w5_0 (S : Oracle) (q : Nat) (x0 x1 x2 x3 : TVal) (h : Heap) : lim tab.get S 5 q 0 [x0, x1, x2, x3] h = b5_0 (orc S (lim tab.get S)) (lim tab.get S 5 q) q x0 x1 x2 x3 h := (qAA k5 q 0 _ h).trans (e5_0 ..).symm
theorem w5_1 (S : Oracle) (q : Nat) (x0 x1 x2 x3 x4 x5 : TVal) (h : Heap) : lim tab.get S 5 q 1 [x0, x1, x2, x3, x4, x5] h = b5_1 (orc S (lim tab.get S)) (lim tab.get S 5 q) q x0 x1 x2 x3 x4 x5 h := (qAA k5 q 1 _ h).trans (e5_1 ..).symm
theorem w5_2 (S : Oracle) (q : Nat) (x0 x1 x2 x3 x4 x5 : TVal) (h : Heap) : lim tab.get S 5 q 2 [x0, x1, x2, x3, x4, x5] h = b5_2 (orc S (lim tab.get S)) (lim tab.get S 5 q) q x0 x1 x2 x3 x4 x5 h := (qAA k5 q 2 _ h).trans (e5_2 ..).symm
theorem w5_3 (S : Oracle) (q : Nat) (x0 x1 x2 x3 : TVal) (h : Heap) : lim tab.get S 5 q 3 [x0, x1, x2, x3] h = b5_3 (orc S (lim tab.get S)) (lim tab.get S 5 q) q x0 x1 x2 x3 h := (qAA k5 q 3 _ h).trans (e5_3 ..).symm
theorem w5_4 (S : Oracle) (q : Nat) (x0 x1 x2 x3 x4 : TVal) (h : Heap) : lim tab.get S 5 q 4 [x0, x1, x2, x3, x4] h = b5_4 (orc S (lim tab.get S)) (lim tab.get S 5 q) q x0 x1 x2 x3 x4 h := (qAA k5 q 4 _ h).trans (e5_4 ..).symm
theorem w5_5 (S : Oracle) (q : Nat) (x0 x1 x2 x3 x4 x5 : TVal) (h : Heap) : lim tab.get S 5 q 5 [x0, x1, x2, x3, x4, x5] h = b5_5 (orc S (lim tab.get S)) (lim tab.get S 5 q) q x0 x1 x2 x3 x4 x5 h := (qAA k5 q 5 _ h).trans (e5_5 ..).symm
theorem w5_6 (S : Oracle) (q : Nat) (x0 x1 x2 x3 x4 : TVal) (h : Heap) : lim tab.get S 5 q 6 [x0, x1, x2, x3, x4] h = b5_6 (orc S (lim tab.get S)) (lim tab.get S 5 q) q x0 x1 x2 x3 x4 h := (qAA k5 q 6 _ h).trans (e5_6 ..).symm
theorem w5_7 (S : Oracle) (q : Nat) (x0 x1 : TVal) (h : Heap) : lim tab.get S 5 q 7 [x0, x1] h = b5_7 (orc S (lim tab.get S)) (lim tab.get S 5 q) q x0 x1 h := (qAA k5 q 7 _ h).trans (e5_7 ..).symm
theorem k17 : tab.get 17 = some c17 := by kernel_rfl
theorem w17_0 (S : Oracle) (q : Nat) (x0 x1 x2 : TVal) (h : Heap) : lim tab.get S 17 q 0 [x0, x1, x2] h = b17_0 (orc S (lim tab.get S)) (lim tab.get S 17 q) q x0 x1 x2 h := (qAA k17 q 0 _ h).trans (e17_0 ..).symm
theorem k22 : tab.get 22 = some c22 := by kernel_rfl
theorem w22_0 (S : Oracle) (q : Nat) (h : Heap) : lim tab.get S 22 q 0 [] h = b22_0 (orc S (lim tab.get S)) (lim tab.get S 22 q) q  h := (qAA k22 q 0 _ h).trans (e22_0 ..).symm
theorem k23 : tab.get 23 = some c23 := by kernel_rfl
theorem w23_0 (S : Oracle) (q : Nat) (x0 x1 x2 : TVal) (h : Heap) : lim tab.get S 23 q 0 [x0, x1, x2] h = b23_0 (orc S (lim tab.get S)) (lim tab.get S 23 q) q x0 x1 x2 h := (qAA k23 q 0 _ h).trans (e23_0 ..).symm
theorem k24 : tab.get 24 = some c24 := by kernel_rfl
theorem w24_0 (S : Oracle) (q : Nat) (x0 x1 : TVal) (h : Heap) : lim tab.get S 24 q 0 [x0, x1] h = b24_0 (orc S (lim tab.get S)) (lim tab.get S 24 q) q x0 x1 h := (qAA k24 q 0 _ h).trans (e24_0 ..).symm
theorem w24_1 (S : Oracle) (q : Nat) (x0 x1 x2 : TVal) (h : Heap) : lim tab.get S 24 q 1 [x0, x1, x2] h = b24_1 (orc S (lim tab.get S)) (lim tab.get S 24 q) q x0 x1 x2 h := (qAA k24 q 1 _ h).trans (e24_1 ..).symm
theorem w24_2 (S : Oracle) (q : Nat) (x0 x1 : TVal) (h : Heap) : lim tab.get S 24 q 2 [x0, x1] h = b24_2 (orc S (lim tab.get S)) (lim tab.get S 24 q) q x0 x1 h := (qAA k24 q 2 _ h).trans (e24_2 ..).symm
theorem w24_3 (S : Oracle) (q : Nat) (x0 x1 x2 : TVal) (h : Heap) : lim tab.get S 24 q 3 [x0, x1, x2] h = b24_3 (orc S (lim tab.get S)) (lim tab.get S 24 q) q x0 x1 x2 h := (qAA k24 q 3 _ h).trans (e24_3 ..).symm
theorem k25 : tab.get 25 = some c25 := by kernel_rfl
theorem w25_0 (S : Oracle) (q : Nat) (x0 : TVal) (h : Heap) : lim tab.get S 25 q 0 [x0] h = b25_0 (orc S (lim tab.get S)) (lim tab.get S 25 q) q x0 h := (qAA k25 q 0 _ h).trans (e25_0 ..).symm
theorem k35 : tab.get 35 = some c35 := by kernel_rfl
theorem w35_0 (S : Oracle) (q : Nat) (x0 : TVal) (h : Heap) : lim tab.get S 35 q 0 [x0] h = b35_0 (orc S (lim tab.get S)) (lim tab.get S 35 q) q x0 h := (qAA k35 q 0 _ h).trans (e35_0 ..).symm
theorem k57 : tab.get 57 = some c57 := by kernel_rfl
theorem w57_0 (S : Oracle) (q : Nat) (x0 : TVal) (h : Heap) : lim tab.get S 57 q 0 [x0] h = b57_0 (orc S (lim tab.get S)) (lim tab.get S 57 q) q x0 h := (qAA k57 q 0 _ h).trans (e57_0 ..).symm
theorem w57_1 (S : Oracle) (q : Nat) (x0 x1 x2 x3 : TVal) (h : Heap) : lim tab.get S 57 q 1 [x0, x1, x2, x3] h = b57_1 (orc S (lim tab.get S)) (lim tab.get S 57 q) q x0 x1 x2 x3 h := (qAA k57 q 1 _ h).trans (e57_1 ..).symm
theorem k58 : tab.get 58 = some c58 := by kernel_rfl
theorem w58_0 (S : Oracle) (q : Nat) (x0 x1 x2 : TVal) (h : Heap) : lim tab.get S 58 q 0 [x0, x1, x2] h = b58_0 (orc S (lim tab.get S)) (lim tab.get S 58 q) q x0 x1 x2 h := (qAA k58 q 0 _ h).trans (e58_0 ..).symm
theorem k72 : tab.get 72 = some c72 := by kernel_rfl
theorem w72_0 (S : Oracle) (q : Nat) (x0 : TVal) (h : Heap) : lim tab.get S 72 q 0 [x0] h = b72_0 (orc S (lim tab.get S)) (lim tab.get S 72 q) q x0 h := (qAA k72 q 0 _ h).trans (e72_0 ..).symm
theorem w72_1 (S : Oracle) (q : Nat) (x0 x1 x2 x3 : TVal) (h : Heap) : lim tab.get S 72 q 1 [x0, x1, x2, x3] h = b72_1 (orc S (lim tab.get S)) (lim tab.get S 72 q) q x0 x1 x2 x3 h := (qAA k72 q 1 _ h).trans (e72_1 ..).symm
theorem k73 : tab.get 73 = some c73 := by kernel_rfl
theorem w73_0 (S : Oracle) (q : Nat) (x0 x1 x2 : TVal) (h : Heap) : lim tab.get S 73 q 0 [x0, x1, x2] h = b73_0 (orc S (lim tab.get S)) (lim tab.get S 73 q) q x0 x1 x2 h := (qAA k73 q 0 _ h).trans (e73_0 ..).symm
theorem w73_1 (S : Oracle) (q : Nat) (x0 x1 x2 x3 x4 : TVal) (h : Heap) : lim tab.get S 73 q 1 [x0, x1, x2, x3, x4] h = b73_1 (orc S (lim tab.get S)) (lim tab.get S 73 q) q x0 x1 x2 x3 x4 h := (qAA k73 q 1 _ h).trans (e73_1 ..).symm
theorem w73_2 (S : Oracle) (q : Nat) (x0 x1 x2 x3 x4 x5 x6 : TVal) (h : Heap) : lim tab.get S 73 q 2 [x0, x1, x2, x3, x4, x5, x6] h = b73_2 (orc S (lim tab.get S)) (lim tab.get S 73 q) q x0 x1 x2 x3 x4 x5 x6 h := (qAA k73 q 2 _ h).trans (e73_2 ..).symm
theorem w73_3 (S : Oracle) (q : Nat) (x0 x1 : TVal) (h : Heap) : lim tab.get S 73 q 3 [x0, x1] h = b73_3 (orc S (lim tab.get S)) (lim tab.get S 73 q) q x0 x1 h := (qAA k73 q 3 _ h).trans (e73_3 ..).symm
theorem w73_4 (S : Oracle) (q : Nat) (x0 x1 x2 x3 x4 x5 : TVal) (h : Heap) : lim tab.get S 73 q 4 [x0, x1, x2, x3, x4, x5] h = b73_4 (orc S (lim tab.get S)) (lim tab.get S 73 q) q x0 x1 x2 x3 x4 x5 h := (qAA k73 q 4 _ h).trans (e73_4 ..).symm
theorem k74 : tab.get 74 = some c74 := by kernel_rfl
theorem w74_0 (S : Oracle) (q : Nat) (x0 x1 : TVal) (h : Heap) : lim tab.get S 74 q 0 [x0, x1] h = b74_0 (orc S (lim tab.get S)) (lim tab.get S 74 q) q x0 x1 h := (qAA k74 q 0 _ h).trans (e74_0 ..).symm
theorem k75 : tab.get 75 = some c75 := by kernel_rfl
theorem w75_0 (S : Oracle) (q : Nat) (x0 x1 x2 : TVal) (h : Heap) : lim tab.get S 75 q 0 [x0, x1, x2] h = b75_0 (orc S (lim tab.get S)) (lim tab.get S 75 q) q x0 x1 x2 h := (qAA k75 q 0 _ h).trans (e75_0 ..).symm
theorem w75_1 (S : Oracle) (q : Nat) (x0 x1 x2 x3 x4 x5 : TVal) (h : Heap) : lim tab.get S 75 q 1 [x0, x1, x2, x3, x4, x5] h = b75_1 (orc S (lim tab.get S)) (lim tab.get S 75 q) q x0 x1 x2 x3 x4 x5 h := (qAA k75 q 1 _ h).trans (e75_1 ..).symm
theorem w75_2 (S : Oracle) (q : Nat) (x0 x1 x2 x3 x4 x5 x6 : TVal) (h : Heap) : lim tab.get S 75 q 2 [x0, x1, x2, x3, x4, x5, x6] h = b75_2 (orc S (lim tab.get S)) (lim tab.get S 75 q) q x0 x1 x2 x3 x4 x5 x6 h := (qAA k75 q 2 _ h).trans (e75_2 ..).symm
theorem w75_3 (S : Oracle) (q : Nat) (x0 x1 : TVal) (h : Heap) : lim tab.get S 75 q 3 [x0, x1] h = b75_3 (orc S (lim tab.get S)) (lim tab.get S 75 q) q x0 x1 h := (qAA k75 q 3 _ h).trans (e75_3 ..).symm
theorem w75_4 (S : Oracle) (q : Nat) (x0 x1 x2 x3 x4 x5 x6 : TVal) (h : Heap) : lim tab.get S 75 q 4 [x0, x1, x2, x3, x4, x5, x6] h = b75_4 (orc S (lim tab.get S)) (lim tab.get S 75 q) q x0 x1 x2 x3 x4 x5 x6 h := (qAA k75 q 4 _ h).trans (e75_4 ..).symm
theorem w75_5 (S : Oracle) (q : Nat) (x0 x1 : TVal) (h : Heap) : lim tab.get S 75 q 5 [x0, x1] h = b75_5 (orc S (lim tab.get S)) (lim tab.get S 75 q) q x0 x1 h := (qAA k75 q 5 _ h).trans (e75_5 ..).symm
theorem w75_6 (S : Oracle) (q : Nat) (x0 : TVal) (h : Heap) : lim tab.get S 75 q 6 [x0] h = b75_6 (orc S (lim tab.get S)) (lim tab.get S 75 q) q x0 h := (qAA k75 q 6 _ h).trans (e75_6 ..).symm
theorem k113 : tab.get 113 = some c113 := by kernel_rfl
theorem w113_0 (S : Oracle) (q : Nat) (x0 x1 : TVal) (h : Heap) : lim tab.get S 113 q 0 [x0, x1] h = b113_0 (orc S (lim tab.get S)) (lim tab.get S 113 q) q x0 x1 h := (qAA k113 q 0 _ h).trans (e113_0 ..).symm
theorem w113_1 (S : Oracle) (q : Nat) (x0 x1 x2 x3 x4 : TVal) (h : Heap) : lim tab.get S 113 q 1 [x0, x1, x2, x3, x4] h = b113_1 (orc S (lim tab.get S)) (lim tab.get S 113 q) q x0 x1 x2 x3 x4 h := (qAA k113 q 1 _ h).trans (e113_1 ..).symm
theorem w113_2 (S : Oracle) (q : Nat) (x0 x1 x2 x3 x4 : TVal) (h : Heap) : lim tab.get S 113 q 2 [x0, x1, x2, x3, x4] h = b113_2 (orc S (lim tab.get S)) (lim tab.get S 113 q) q x0 x1 x2 x3 x4 h := (qAA k113 q 2 _ h).trans (e113_2 ..).symm
theorem w113_3 (S : Oracle) (q : Nat) (x0 x1 : TVal) (h : Heap) : lim tab.get S 113 q 3 [x0, x1] h = b113_3 (orc S (lim tab.get S)) (lim tab.get S 113 q) q x0 x1 h := (qAA k113 q 3 _ h).trans (e113_3 ..).symm
theorem k114 : tab.get 114 = some c114 := by kernel_rfl
theorem w114_0 (S : Oracle) (q : Nat) (x0 x1 x2 x3 x4 : TVal) (h : Heap) : lim tab.get S 114 q 0 [x0, x1, x2, x3, x4] h = b114_0 (orc S (lim tab.get S)) (lim tab.get S 114 q) q x0 x1 x2 x3 x4 h := (qAA k114 q 0 _ h).trans (e114_0 ..).symm
theorem w114_1 (S : Oracle) (q : Nat) (x0 x1 x2 x3 x4 x5 : TVal) (h : Heap) : lim tab.get S 114 q 1 [x0, x1, x2, x3, x4, x5] h = b114_1 (orc S (lim tab.get S)) (lim tab.get S 114 q) q x0 x1 x2 x3 x4 x5 h := (qAA k114 q 1 _ h).trans (e114_1 ..).symm
theorem k115 : tab.get 115 = some c115 := by kernel_rfl
theorem w115_0 (S : Oracle) (q : Nat) (x0 : TVal) (h : Heap) : lim tab.get S 115 q 0 [x0] h = b115_0 (orc S (lim tab.get S)) (lim tab.get S 115 q) q x0 h := (qAA k115 q 0 _ h).trans (e115_0 ..).symm
theorem k116 : tab.get 116 = some c116 := by kernel_rfl
theorem w116_0 (S : Oracle) (q : Nat) (x0 : TVal) (h : Heap) : lim tab.get S 116 q 0 [x0] h = b116_0 (orc S (lim tab.get S)) (lim tab.get S 116 q) q x0 h := (qAA k116 q 0 _ h).trans (e116_0 ..).symm
theorem k117 : tab.get 117 = some c117 := by kernel_rfl
theorem w117_0 (S : Oracle) (q : Nat) (x0 x1 : TVal) (h : Heap) : lim tab.get S 117 q 0 [x0, x1] h = b117_0 (orc S (lim tab.get S)) (lim tab.get S 117 q) q x0 x1 h := (qAA k117 q 0 _ h).trans (e117_0 ..).symm
theorem k118 : tab.get 118 = some c118 := by kernel_rfl
theorem w118_0 (S : Oracle) (q : Nat) (x0 x1 x2 : TVal) (h : Heap) : lim tab.get S 118 q 0 [x0, x1, x2] h = b118_0 (orc S (lim tab.get S)) (lim tab.get S 118 q) q x0 x1 x2 h := (qAA k118 q 0 _ h).trans (e118_0 ..).symm
theorem w118_1 (S : Oracle) (q : Nat) (x0 x1 x2 x3 x4 x5 : TVal) (h : Heap) : lim tab.get S 118 q 1 [x0, x1, x2, x3, x4, x5] h = b118_1 (orc S (lim tab.get S)) (lim tab.get S 118 q) q x0 x1 x2 x3 x4 x5 h := (qAA k118 q 1 _ h).trans (e118_1 ..).symm
theorem w118_2 (S : Oracle) (q : Nat) (x0 x1 x2 x3 x4 x5 : TVal) (h : Heap) : lim tab.get S 118 q 2 [x0, x1, x2, x3, x4, x5] h = b118_2 (orc S (lim tab.get S)) (lim tab.get S 118 q) q x0 x1 x2 x3 x4 x5 h := (qAA k118 q 2 _ h).trans (e118_2 ..).symm
theorem w118_3 (S : Oracle) (q : Nat) (x0 x1 : TVal) (h : Heap) : lim tab.get S 118 q 3 [x0, x1] h = b118_3 (orc S (lim tab.get S)) (lim tab.get S 118 q) q x0 x1 h := (qAA k118 q 3 _ h).trans (e118_3 ..).symm
theorem w118_4 (S : Oracle) (q : Nat) (x0 x1 x2 x3 : TVal) (h : Heap) : lim tab.get S 118 q 4 [x0, x1, x2, x3] h = b118_4 (orc S (lim tab.get S)) (lim tab.get S 118 q) q x0 x1 x2 x3 h := (qAA k118 q 4 _ h).trans (e118_4 ..).symm
theorem k119 : tab.get 119 = some c119 := by kernel_rfl
theorem w119_0 (S : Oracle) (q : Nat) (x0 x1 x2 : TVal) (h : Heap) : lim tab.get S 119 q 0 [x0, x1, x2] h = b119_0 (orc S (lim tab.get S)) (lim tab.get S 119 q) q x0 x1 x2 h := (qAA k119 q 0 _ h).trans (e119_0 ..).symm
theorem k131 : tab.get 131 = some c131 := by kernel_rfl
theorem w131_0 (S : Oracle) (q : Nat) (x0 x1 : TVal) (h : Heap) : lim tab.get S 131 q 0 [x0, x1] h = b131_0 (orc S (lim tab.get S)) (lim tab.get S 131 q) q x0 x1 h := (qAA k131 q 0 _ h).trans (e131_0 ..).symm
theorem w131_1 (S : Oracle) (q : Nat) (x0 x1 x2 x3 : TVal) (h : Heap) : lim tab.get S 131 q 1 [x0, x1, x2, x3] h = b131_1 (orc S (lim tab.get S)) (lim tab.get S 131 q) q x0 x1 x2 x3 h := (qAA k131 q 1 _ h).trans (e131_1 ..).symm
theorem k134 : tab.get 134 = some c134 := by kernel_rfl
theorem w134_0 (S : Oracle) (q : Nat) (x0 x1 : TVal) (h : Heap) : lim tab.get S 134 q 0 [x0, x1] h = b134_0 (orc S (lim tab.get S)) (lim tab.get S 134 q) q x0 x1 h := (qAA k134 q 0 _ h).trans (e134_0 ..).symm
theorem w134_1 (S : Oracle) (q : Nat) (x0 x1 x2 x3 x4 : TVal) (h : Heap) : lim tab.get S 134 q 1 [x0, x1, x2, x3, x4] h = b134_1 (orc S (lim tab.get S)) (lim tab.get S 134 q) q x0 x1 x2 x3 x4 h := (qAA k134 q 1 _ h).trans (e134_1 ..).symm
theorem w134_2 (S : Oracle) (q : Nat) (x0 x1 x2 x3 x4 : TVal) (h : Heap) : lim tab.get S 134 q 2 [x0, x1, x2, x3, x4] h = b134_2 (orc S (lim tab.get S)) (lim tab.get S 134 q) q x0 x1 x2 x3 x4 h := (qAA k134 q 2 _ h).trans (e134_2 ..).symm
theorem w134_3 (S : Oracle) (q : Nat) (x0 x1 : TVal) (h : Heap) : lim tab.get S 134 q 3 [x0, x1] h = b134_3 (orc S (lim tab.get S)) (lim tab.get S 134 q) q x0 x1 h := (qAA k134 q 3 _ h).trans (e134_3 ..).symm
theorem k135 : tab.get 135 = some c135 := by kernel_rfl
theorem w135_0 (S : Oracle) (q : Nat) (x0 x1 : TVal) (h : Heap) : lim tab.get S 135 q 0 [x0, x1] h = b135_0 (orc S (lim tab.get S)) (lim tab.get S 135 q) q x0 x1 h := (qAA k135 q 0 _ h).trans (e135_0 ..).symm
theorem k136 : tab.get 136 = some c136 := by kernel_rfl
theorem w136_0 (S : Oracle) (q : Nat) (x0 x1 x2 : TVal) (h : Heap) : lim tab.get S 136 q 0 [x0, x1, x2] h = b136_0 (orc S (lim tab.get S)) (lim tab.get S 136 q) q x0 x1 x2 h := (qAA k136 q 0 _ h).trans (e136_0 ..).symm
theorem w136_1 (S : Oracle) (q : Nat) (x0 x1 x2 x3 x4 x5 x6 : TVal) (h : Heap) : lim tab.get S 136 q 1 [x0, x1, x2, x3, x4, x5, x6] h = b136_1 (orc S (lim tab.get S)) (lim tab.get S 136 q) q x0 x1 x2 x3 x4 x5 x6 h := (qAA k136 q 1 _ h).trans (e136_1 ..).symm
theorem w136_2 (S : Oracle) (q : Nat) (x0 x1 x2 x3 x4 x5 x6 x7 x8 : TVal) (h : Heap) : lim tab.get S 136 q 2 [x0, x1, x2, x3, x4, x5, x6, x7, x8] h = b136_2 (orc S (lim tab.get S)) (lim tab.get S 136 q) q x0 x1 x2 x3 x4 x5 x6 x7 x8 h := (qAA k136 q 2 _ h).trans (e136_2 ..).symm
theorem w136_3 (S : Oracle) (q : Nat) (x0 x1 x2 x3 x4 x5 x6 x7 : TVal) (h : Heap) : lim tab.get S 136 q 3 [x0, x1, x2, x3, x4, x5, x6, x7] h = b136_3 (orc S (lim tab.get S)) (lim tab.get S 136 q) q x0 x1 x2 x3 x4 x5 x6 x7 h := (qAA k136 q 3 _ h).trans (e136_3 ..).symm
theorem w136_4 (S : Oracle) (q : Nat) (x0 x1 : TVal) (h : Heap) : lim tab.get S 136 q 4 [x0, x1] h = b136_4 (orc S (lim tab.get S)) (lim tab.get S 136 q) q x0 x1 h := (qAA k136 q 4 _ h).trans (e136_4 ..).symm
theorem k137 : tab.get 137 = some c137 := by kernel_rfl
theorem w137_0 (S : Oracle) (q : Nat) (x0 x1 : TVal) (h : Heap) : lim tab.get S 137 q 0 [x0, x1] h = b137_0 (orc S (lim tab.get S)) (lim tab.get S 137 q) q x0 x1 h := (qAA k137 q 0 _ h).trans (e137_0 ..).symm
theorem k138 : tab.get 138 = some c138 := by kernel_rfl
theorem w138_0 (S : Oracle) (q : Nat) (x0 x1 : TVal) (h : Heap) : lim tab.get S 138 q 0 [x0, x1] h = b138_0 (orc S (lim tab.get S)) (lim tab.get S 138 q) q x0 x1 h := (qAA k138 q 0 _ h).trans (e138_0 ..).symm
theorem k139 : tab.get 139 = some c139 := by kernel_rfl
theorem w139_0 (S : Oracle) (q : Nat) (x0 x1 : TVal) (h : Heap) : lim tab.get S 139 q 0 [x0, x1] h = b139_0 (orc S (lim tab.get S)) (lim tab.get S 139 q) q x0 x1 h := (qAA k139 q 0 _ h).trans (e139_0 ..).symm
theorem k140 : tab.get 140 = some c140 := by kernel_rfl
theorem w140_0 (S : Oracle) (q : Nat) (x0 x1 : TVal) (h : Heap) : lim tab.get S 140 q 0 [x0, x1] h = b140_0 (orc S (lim tab.get S)) (lim tab.get S 140 q) q x0 x1 h := (qAA k140 q 0 _ h).trans (e140_0 ..).symm
theorem k141 : tab.get 141 = some c141 := by kernel_rfl
theorem w141_0 (S : Oracle) (q : Nat) (x0 x1 : TVal) (h : Heap) : lim tab.get S 141 q 0 [x0, x1] h = b141_0 (orc S (lim tab.get S)) (lim tab.get S 141 q) q x0 x1 h := (qAA k141 q 0 _ h).trans (e141_0 ..).symm
theorem k142 : tab.get 142 = some c142 := by kernel_rfl
theorem w142_0 (S : Oracle) (q : Nat) (x0 x1 x2 : TVal) (h : Heap) : lim tab.get S 142 q 0 [x0, x1, x2] h = b142_0 (orc S (lim tab.get S)) (lim tab.get S 142 q) q x0 x1 x2 h := (qAA k142 q 0 _ h).trans (e142_0 ..).symm
theorem w142_1 (S : Oracle) (q : Nat) (x0 x1 : TVal) (h : Heap) : lim tab.get S 142 q 1 [x0, x1] h = b142_1 (orc S (lim tab.get S)) (lim tab.get S 142 q) q x0 x1 h := (qAA k142 q 1 _ h).trans (e142_1 ..).symm
theorem w142_2 (S : Oracle) (q : Nat) (x0 x1 x2 x3 x4 x5 x6 x7 : TVal) (h : Heap) : lim tab.get S 142 q 2 [x0, x1, x2, x3, x4, x5, x6, x7] h = b142_2 (orc S (lim tab.get S)) (lim tab.get S 142 q) q x0 x1 x2 x3 x4 x5 x6 x7 h := (qAA k142 q 2 _ h).trans (e142_2 ..).symm
theorem w142_3 (S : Oracle) (q : Nat) (x0 x1 : TVal) (h : Heap) : lim tab.get S 142 q 3 [x0, x1] h = b142_3 (orc S (lim tab.get S)) (lim tab.get S 142 q) q x0 x1 h := (qAA k142 q 3 _ h).trans (e142_3 ..).symm
theorem k164 : tab.get 164 = some c164 := by kernel_rfl
theorem w164_0 (S : Oracle) (q : Nat) (x0 : TVal) (h : Heap) : lim tab.get S 164 q 0 [x0] h = b164_0 (orc S (lim tab.get S)) (lim tab.get S 164 q) q x0 h := (qAA k164 q 0 _ h).trans (e164_0 ..).symm
theorem k178 : tab.get 178 = some c178 := by kernel_rfl
theorem w178_0 (S : Oracle) (q : Nat) (x0 x1 : TVal) (h : Heap) : lim tab.get S 178 q 0 [x0, x1] h = b178_0 (orc S (lim tab.get S)) (lim tab.get S 178 q) q x0 x1 h := (qAA k178 q 0 _ h).trans (e178_0 ..).symm
theorem w178_1 (S : Oracle) (q : Nat) (x0 x1 x2 : TVal) (h : Heap) : lim tab.get S 178 q 1 [x0, x1, x2] h = b178_1 (orc S (lim tab.get S)) (lim tab.get S 178 q) q x0 x1 x2 h := (qAA k178 q 1 _ h).trans (e178_1 ..).symm
theorem k184 : tab.get 184 = some c184 := by kernel_rfl
theorem w184_0 (S : Oracle) (q : Nat) (x0 : TVal) (h : Heap) : lim tab.get S 184 q 0 [x0] h = b184_0 (orc S (lim tab.get S)) (lim tab.get S 184 q) q x0 h := (qAA k184 q 0 _ h).trans (e184_0 ..).symm
theorem k185 : tab.get 185 = some c185 := by kernel_rfl
theorem w185_0 (S : Oracle) (q : Nat) (x0 : TVal) (h : Heap) : lim tab.get S 185 q 0 [x0] h = b185_0 (orc S (lim tab.get S)) (lim tab.get S 185 q) q x0 h := (qAA k185 q 0 _ h).trans (e185_0 ..).symm
theorem k186 : tab.get 186 = some c186 := by kernel_rfl
theorem w186_0 (S : Oracle) (q : Nat) (x0 x1 : TVal) (h : Heap) : lim tab.get S 186 q 0 [x0, x1] h = b186_0 (orc S (lim tab.get S)) (lim tab.get S 186 q) q x0 x1 h := (qAA k186 q 0 _ h).trans (e186_0 ..).symm
theorem w186_1 (S : Oracle) (q : Nat) (x0 x1 x2 : TVal) (h : Heap) : lim tab.get S 186 q 1 [x0, x1, x2] h = b186_1 (orc S (lim tab.get S)) (lim tab.get S 186 q) q x0 x1 x2 h := (qAA k186 q 1 _ h).trans (e186_1 ..).symm
theorem w186_2 (S : Oracle) (q : Nat) (x0 x1 x2 : TVal) (h : Heap) : lim tab.get S 186 q 2 [x0, x1, x2] h = b186_2 (orc S (lim tab.get S)) (lim tab.get S 186 q) q x0 x1 x2 h := (qAA k186 q 2 _ h).trans (e186_2 ..).symm
theorem w186_3 (S : Oracle) (q : Nat) (x0 x1 x2 : TVal) (h : Heap) : lim tab.get S 186 q 3 [x0, x1, x2] h = b186_3 (orc S (lim tab.get S)) (lim tab.get S 186 q) q x0 x1 x2 h := (qAA k186 q 3 _ h).trans (e186_3 ..).symm
theorem w186_4 (S : Oracle) (q : Nat) (x0 x1 x2 : TVal) (h : Heap) : lim tab.get S 186 q 4 [x0, x1, x2] h = b186_4 (orc S (lim tab.get S)) (lim tab.get S 186 q) q x0 x1 x2 h := (qAA k186 q 4 _ h).trans (e186_4 ..).symm
theorem k187 : tab.get 187 = some c187 := by kernel_rfl
theorem w187_0 (S : Oracle) (q : Nat) (x0 x1 x2 x3 x4 : TVal) (h : Heap) : lim tab.get S 187 q 0 [x0, x1, x2, x3, x4] h = b187_0 (orc S (lim tab.get S)) (lim tab.get S 187 q) q x0 x1 x2 x3 x4 h := (qAA k187 q 0 _ h).trans (e187_0 ..).symm
theorem w187_1 (S : Oracle) (q : Nat) (x0 x1 x2 x3 x4 x5 x6 : TVal) (h : Heap) : lim tab.get S 187 q 1 [x0, x1, x2, x3, x4, x5, x6] h = b187_1 (orc S (lim tab.get S)) (lim tab.get S 187 q) q x0 x1 x2 x3 x4 x5 x6 h := (qAA k187 q 1 _ h).trans (e187_1 ..).symm
theorem w187_2 (S : Oracle) (q : Nat) (x0 x1 x2 x3 x4 x5 x6 x7 x8 : TVal) (h : Heap) : lim tab.get S 187 q 2 [x0, x1, x2, x3, x4, x5, x6, x7, x8] h = b187_2 (orc S (lim tab.get S)) (lim tab.get S 187 q) q x0 x1 x2 x3 x4 x5 x6 x7 x8 h := (qAA k187 q 2 _ h).trans (e187_2 ..).symm
theorem w187_3 (S : Oracle) (q : Nat) (x0 x1 x2 x3 x4 x5 x6 x7 x8 x9 x10 : TVal) (h : Heap) : lim tab.get S 187 q 3 [x0, x1, x2, x3, x4, x5, x6, x7, x8, x9, x10] h = b187_3 (orc S (lim tab.get S)) (lim tab.get S 187 q) q x0 x1 x2 x3 x4 x5 x6 x7 x8 x9 x10 h := (qAA k187 q 3 _ h).trans (e187_3 ..).symm
theorem w187_4 (S : Oracle) (q : Nat) (x0 x1 x2 x3 x4 x5 x6 x7 : TVal) (h : Heap) : lim tab.get S 187 q 4 [x0, x1, x2, x3, x4, x5, x6, x7] h = b187_4 (orc S (lim tab.get S)) (lim tab.get S 187 q) q x0 x1 x2 x3 x4 x5 x6 x7 h := (qAA k187 q 4 _ h).trans (e187_4 ..).symm
theorem w187_5 (S : Oracle) (q : Nat) (x0 x1 x2 x3 x4 x5 x6 x7 x8 : TVal) (h : Heap) : lim tab.get S 187 q 5 [x0, x1, x2, x3, x4, x5, x6, x7, x8] h = b187_5 (orc S (lim tab.get S)) (lim tab.get S 187 q) q x0 x1 x2 x3 x4 x5 x6 x7 x8 h := (qAA k187 q 5 _ h).trans (e187_5 ..).symm
theorem w187_6 (S : Oracle) (q : Nat) (x0 x1 x2 x3 x4 x5 x6 x7 : TVal) (h : Heap) : lim tab.get S 187 q 6 [x0, x1, x2, x3, x4, x5, x6, x7] h = b187_6 (orc S (lim tab.get S)) (lim tab.get S 187 q) q x0 x1 x2 x3 x4 x5 x6 x7 h := (qAA k187 q 6 _ h).trans (e187_6 ..).symm
theorem w187_7 (S : Oracle) (q : Nat) (x0 x1 x2 x3 x4 x5 x6 : TVal) (h : Heap) : lim tab.get S 187 q 7 [x0, x1, x2, x3, x4, x5, x6] h = b187_7 (orc S (lim tab.get S)) (lim tab.get S 187 q) q x0 x1 x2 x3 x4 x5 x6 h := (qAA k187 q 7 _ h).trans (e187_7 ..).symm
theorem w187_8 (S : Oracle) (q : Nat) (x0 x1 x2 x3 x4 x5 : TVal) (h : Heap) : lim tab.get S 187 q 8 [x0, x1, x2, x3, x4, x5] h = b187_8 (orc S (lim tab.get S)) (lim tab.get S 187 q) q x0 x1 x2 x3 x4 x5 h := (qAA k187 q 8 _ h).trans (e187_8 ..).symm
theorem k192 : tab.get 192 = some c192 := by kernel_rfl
theorem w192_0 (S : Oracle) (q : Nat) (x0 : TVal) (h : Heap) : lim tab.get S 192 q 0 [x0] h = b192_0 (orc S (lim tab.get S)) (lim tab.get S 192 q) q x0 h := (qAA k192 q 0 _ h).trans (e192_0 ..).symm
theorem k193 : tab.get 193 = some c193 := by kernel_rfl
theorem w193_0 (S : Oracle) (q : Nat) (x0 : TVal) (h : Heap) : lim tab.get S 193 q 0 [x0] h = b193_0 (orc S (lim tab.get S)) (lim tab.get S 193 q) q x0 h := (qAA k193 q 0 _ h).trans (e193_0 ..).symm
theorem w193_1 (S : Oracle) (q : Nat) (x0 x1 : TVal) (h : Heap) : lim tab.get S 193 q 1 [x0, x1] h = b193_1 (orc S (lim tab.get S)) (lim tab.get S 193 q) q x0 x1 h := (qAA k193 q 1 _ h).trans (e193_1 ..).symm
theorem w193_2 (S : Oracle) (q : Nat) (x0 x1 : TVal) (h : Heap) : lim tab.get S 193 q 2 [x0, x1] h = b193_2 (orc S (lim tab.get S)) (lim tab.get S 193 q) q x0 x1 h := (qAA k193 q 2 _ h).trans (e193_2 ..).symm
theorem w193_3 (S : Oracle) (q : Nat) (x0 x1 : TVal) (h : Heap) : lim tab.get S 193 q 3 [x0, x1] h = b193_3 (orc S (lim tab.get S)) (lim tab.get S 193 q) q x0 x1 h := (qAA k193 q 3 _ h).trans (e193_3 ..).symm
theorem k194 : tab.get 194 = some c194 := by kernel_rfl
theorem w194_0 (S : Oracle) (q : Nat) (x0 : TVal) (h : Heap) : lim tab.get S 194 q 0 [x0] h = b194_0 (orc S (lim tab.get S)) (lim tab.get S 194 q) q x0 h := (qAA k194 q 0 _ h).trans (e194_0 ..).symm
theorem k195 : tab.get 195 = some c195 := by kernel_rfl
theorem w195_0 (S : Oracle) (q : Nat) (x0 : TVal) (h : Heap) : lim tab.get S 195 q 0 [x0] h = b195_0 (orc S (lim tab.get S)) (lim tab.get S 195 q) q x0 h := (qAA k195 q 0 _ h).trans (e195_0 ..).symm
theorem k196 : tab.get 196 = some c196 := by kernel_rfl
theorem w196_0 (S : Oracle) (q : Nat) (x0 : TVal) (h : Heap) : lim tab.get S 196 q 0 [x0] h = b196_0 (orc S (lim tab.get S)) (lim tab.get S 196 q) q x0 h := (qAA k196 q 0 _ h).trans (e196_0 ..).symm
theorem k199 : tab.get 199 = some c199 := by kernel_rfl
theorem w199_0 (S : Oracle) (q : Nat) (x0 : TVal) (h : Heap) : lim tab.get S 199 q 0 [x0] h = b199_0 (orc S (lim tab.get S)) (lim tab.get S 199 q) q x0 h := (qAA k199 q 0 _ h).trans (e199_0 ..).symm
theorem k200 : tab.get 200 = some c200 := by kernel_rfl
theorem w200_0 (S : Oracle) (q : Nat) (x0 : TVal) (h : Heap) : lim tab.get S 200 q 0 [x0] h = b200_0 (orc S (lim tab.get S)) (lim tab.get S 200 q) q x0 h := (qAA k200 q 0 _ h).trans (e200_0 ..).symm
end Go.Proofs.YtlkejchbcchecaaDoor.Ab
