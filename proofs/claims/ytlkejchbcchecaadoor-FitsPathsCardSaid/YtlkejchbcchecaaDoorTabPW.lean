/- The machine's equations, a piece at a time. Own work, printed by a program of our own; no condition. -/
import Derived.Test.YtlkejchbcchecaaDoorTabP
namespace Go.Proofs.YtlkejchbcchecaaDoor.Ab
open Go Go.AI
set_option linter.all false
set_option linter.unusedVariables false
set_option maxRecDepth 100000
theorem k3 : tab.get 3 = some c3 := by kernel_rfl
theorem w3_0 (S : Oracle) (q : Nat) (x0 : TVal) (h : Heap) : lim tab.get S 3 q 0 [x0] h = b3_0 (orc S (lim tab.get S)) (lim tab.get S 3 q) q x0 h := (lim_eqF k3 q 0 _ h).trans (e3_0 ..).symm
theorem w3_1 (S : Oracle) (q : Nat) (x0 x1 x2 x3 x4 x5 : TVal) (h : Heap) : lim tab.get S 3 q 1 [x0, x1, x2, x3, x4, x5] h = b3_1 (orc S (lim tab.get S)) (lim tab.get S 3 q) q x0 x1 x2 x3 x4 x5 h := (lim_eqF k3 q 1 _ h).trans (e3_1 ..).symm
theorem w3_2 (S : Oracle) (q : Nat) (x0 x1 x2 x3 x4 x5 : TVal) (h : Heap) : lim tab.get S 3 q 2 [x0, x1, x2, x3, x4, x5] h = b3_2 (orc S (lim tab.get S)) (lim tab.get S 3 q) q x0 x1 x2 x3 x4 x5 h := (lim_eqF k3 q 2 _ h).trans (e3_2 ..).symm
theorem w3_3 (S : Oracle) (q : Nat) (x0 x1 x2 x3 : TVal) (h : Heap) : lim tab.get S 3 q 3 [x0, x1, x2, x3] h = b3_3 (orc S (lim tab.get S)) (lim tab.get S 3 q) q x0 x1 x2 x3 h := (lim_eqF k3 q 3 _ h).trans (e3_3 ..).symm
theorem k13 : tab.get 13 = some c13 := by kernel_rfl
theorem w13_0 (S : Oracle) (q : Nat) (h : Heap) : lim tab.get S 13 q 0 [] h = b13_0 (orc S (lim tab.get S)) (lim tab.get S 13 q) q  h := (lim_eqF k13 q 0 _ h).trans (e13_0 ..).symm
theorem k14 : tab.get 14 = some c14 := by kernel_rfl
theorem w14_0 (S : Oracle) (q : Nat) (x0 x1 : TVal) (h : Heap) : lim tab.get S 14 q 0 [x0, x1] h = b14_0 (orc S (lim tab.get S)) (lim tab.get S 14 q) q x0 x1 h := (lim_eqF k14 q 0 _ h).trans (e14_0 ..).symm
theorem k15 : tab.get 15 = some c15 := by kernel_rfl
theorem w15_0 (S : Oracle) (q : Nat) (x0 : TVal) (h : Heap) : lim tab.get S 15 q 0 [x0] h = b15_0 (orc S (lim tab.get S)) (lim tab.get S 15 q) q x0 h := (lim_eqF k15 q 0 _ h).trans (e15_0 ..).symm
theorem w15_1 (S : Oracle) (q : Nat) (x0 x1 : TVal) (h : Heap) : lim tab.get S 15 q 1 [x0, x1] h = b15_1 (orc S (lim tab.get S)) (lim tab.get S 15 q) q x0 x1 h := (lim_eqF k15 q 1 _ h).trans (e15_1 ..).symm
theorem w15_2 (S : Oracle) (q : Nat) (x0 : TVal) (h : Heap) : lim tab.get S 15 q 2 [x0] h = b15_2 (orc S (lim tab.get S)) (lim tab.get S 15 q) q x0 h := (lim_eqF k15 q 2 _ h).trans (e15_2 ..).symm
theorem w15_3 (S : Oracle) (q : Nat) (x0 x1 x2 x3 : TVal) (h : Heap) : lim tab.get S 15 q 3 [x0, x1, x2, x3] h = b15_3 (orc S (lim tab.get S)) (lim tab.get S 15 q) q x0 x1 x2 x3 h := (lim_eqF k15 q 3 _ h).trans (e15_3 ..).symm
theorem w15_4 (S : Oracle) (q : Nat) (x0 x1 x2 : TVal) (h : Heap) : lim tab.get S 15 q 4 [x0, x1, x2] h = b15_4 (orc S (lim tab.get S)) (lim tab.get S 15 q) q x0 x1 x2 h := (lim_eqF k15 q 4 _ h).trans (e15_4 ..).symm
theorem w15_5 (S : Oracle) (q : Nat) (x0 x1 x2 : TVal) (h : Heap) : lim tab.get S 15 q 5 [x0, x1, x2] h = b15_5 (orc S (lim tab.get S)) (lim tab.get S 15 q) q x0 x1 x2 h := (lim_eqF k15 q 5 _ h).trans (e15_5 ..).symm
theorem w15_6 (S : Oracle) (q : Nat) (x0 x1 x2 x3 : TVal) (h : Heap) : lim tab.get S 15 q 6 [x0, x1, x2, x3] h = b15_6 (orc S (lim tab.get S)) (lim tab.get S 15 q) q x0 x1 x2 x3 h := (lim_eqF k15 q 6 _ h).trans (e15_6 ..).symm
theorem w15_7 (S : Oracle) (q : Nat) (x0 x1 x2 x3 x4 x5 : TVal) (h : Heap) : lim tab.get S 15 q 7 [x0, x1, x2, x3, x4, x5] h = b15_7 (orc S (lim tab.get S)) (lim tab.get S 15 q) q x0 x1 x2 x3 x4 x5 h := (lim_eqF k15 q 7 _ h).trans (e15_7 ..).symm
theorem w15_8 (S : Oracle) (q : Nat) (x0 x1 x2 x3 x4 : TVal) (h : Heap) : lim tab.get S 15 q 8 [x0, x1, x2, x3, x4] h = b15_8 (orc S (lim tab.get S)) (lim tab.get S 15 q) q x0 x1 x2 x3 x4 h := (lim_eqF k15 q 8 _ h).trans (e15_8 ..).symm
theorem w15_9 (S : Oracle) (q : Nat) (x0 x1 x2 x3 : TVal) (h : Heap) : lim tab.get S 15 q 9 [x0, x1, x2, x3] h = b15_9 (orc S (lim tab.get S)) (lim tab.get S 15 q) q x0 x1 x2 x3 h := (lim_eqF k15 q 9 _ h).trans (e15_9 ..).symm
theorem w15_10 (S : Oracle) (q : Nat) (x0 x1 x2 x3 : TVal) (h : Heap) : lim tab.get S 15 q 10 [x0, x1, x2, x3] h = b15_10 (orc S (lim tab.get S)) (lim tab.get S 15 q) q x0 x1 x2 x3 h := (lim_eqF k15 q 10 _ h).trans (e15_10 ..).symm
theorem w15_11 (S : Oracle) (q : Nat) (x0 : TVal) (h : Heap) : lim tab.get S 15 q 11 [x0] h = b15_11 (orc S (lim tab.get S)) (lim tab.get S 15 q) q x0 h := (lim_eqF k15 q 11 _ h).trans (e15_11 ..).symm
theorem w15_12 (S : Oracle) (q : Nat) (x0 x1 x2 : TVal) (h : Heap) : lim tab.get S 15 q 12 [x0, x1, x2] h = b15_12 (orc S (lim tab.get S)) (lim tab.get S 15 q) q x0 x1 x2 h := (lim_eqF k15 q 12 _ h).trans (e15_12 ..).symm
theorem k16 : tab.get 16 = some c16 := by kernel_rfl
theorem w16_0 (S : Oracle) (q : Nat) (x0 : TVal) (h : Heap) : lim tab.get S 16 q 0 [x0] h = b16_0 (orc S (lim tab.get S)) (lim tab.get S 16 q) q x0 h := (lim_eqF k16 q 0 _ h).trans (e16_0 ..).symm
theorem k17 : tab.get 17 = some c17 := by kernel_rfl
theorem w17_0 (S : Oracle) (q : Nat) (x0 x1 x2 : TVal) (h : Heap) : lim tab.get S 17 q 0 [x0, x1, x2] h = b17_0 (orc S (lim tab.get S)) (lim tab.get S 17 q) q x0 x1 x2 h := (lim_eqF k17 q 0 _ h).trans (e17_0 ..).symm
theorem k49 : tab.get 49 = some c49 := by kernel_rfl
theorem w49_0 (S : Oracle) (q : Nat) (x0 : TVal) (h : Heap) : lim tab.get S 49 q 0 [x0] h = b49_0 (orc S (lim tab.get S)) (lim tab.get S 49 q) q x0 h := (lim_eqF k49 q 0 _ h).trans (e49_0 ..).symm
theorem w49_1 (S : Oracle) (q : Nat) (x0 x1 : TVal) (h : Heap) : lim tab.get S 49 q 1 [x0, x1] h = b49_1 (orc S (lim tab.get S)) (lim tab.get S 49 q) q x0 x1 h := (lim_eqF k49 q 1 _ h).trans (e49_1 ..).symm
theorem k50 : tab.get 50 = some c50 := by kernel_rfl
theorem w50_0 (S : Oracle) (q : Nat) (x0 : TVal) (h : Heap) : lim tab.get S 50 q 0 [x0] h = b50_0 (orc S (lim tab.get S)) (lim tab.get S 50 q) q x0 h := (lim_eqF k50 q 0 _ h).trans (e50_0 ..).symm
theorem k51 : tab.get 51 = some c51 := by kernel_rfl
theorem w51_0 (S : Oracle) (q : Nat) (x0 x1 x2 : TVal) (h : Heap) : lim tab.get S 51 q 0 [x0, x1, x2] h = b51_0 (orc S (lim tab.get S)) (lim tab.get S 51 q) q x0 x1 x2 h := (lim_eqF k51 q 0 _ h).trans (e51_0 ..).symm
theorem w51_1 (S : Oracle) (q : Nat) (x0 x1 x2 x3 x4 : TVal) (h : Heap) : lim tab.get S 51 q 1 [x0, x1, x2, x3, x4] h = b51_1 (orc S (lim tab.get S)) (lim tab.get S 51 q) q x0 x1 x2 x3 x4 h := (lim_eqF k51 q 1 _ h).trans (e51_1 ..).symm
theorem k52 : tab.get 52 = some c52 := by kernel_rfl
theorem w52_0 (S : Oracle) (q : Nat) (x0 : TVal) (h : Heap) : lim tab.get S 52 q 0 [x0] h = b52_0 (orc S (lim tab.get S)) (lim tab.get S 52 q) q x0 h := (lim_eqF k52 q 0 _ h).trans (e52_0 ..).symm
theorem w52_1 (S : Oracle) (q : Nat) (x0 : TVal) (h : Heap) : lim tab.get S 52 q 1 [x0] h = b52_1 (orc S (lim tab.get S)) (lim tab.get S 52 q) q x0 h := (lim_eqF k52 q 1 _ h).trans (e52_1 ..).symm
theorem k53 : tab.get 53 = some c53 := by kernel_rfl
theorem w53_0 (S : Oracle) (q : Nat) (x0 : TVal) (h : Heap) : lim tab.get S 53 q 0 [x0] h = b53_0 (orc S (lim tab.get S)) (lim tab.get S 53 q) q x0 h := (lim_eqF k53 q 0 _ h).trans (e53_0 ..).symm
theorem w53_1 (S : Oracle) (q : Nat) (x0 x1 x2 : TVal) (h : Heap) : lim tab.get S 53 q 1 [x0, x1, x2] h = b53_1 (orc S (lim tab.get S)) (lim tab.get S 53 q) q x0 x1 x2 h := (lim_eqF k53 q 1 _ h).trans (e53_1 ..).symm
theorem w53_2 (S : Oracle) (q : Nat) (x0 x1 x2 x3 x4 : TVal) (h : Heap) : lim tab.get S 53 q 2 [x0, x1, x2, x3, x4] h = b53_2 (orc S (lim tab.get S)) (lim tab.get S 53 q) q x0 x1 x2 x3 x4 h := (lim_eqF k53 q 2 _ h).trans (e53_2 ..).symm
theorem w53_3 (S : Oracle) (q : Nat) (x0 x1 x2 x3 x4 : TVal) (h : Heap) : lim tab.get S 53 q 3 [x0, x1, x2, x3, x4] h = b53_3 (orc S (lim tab.get S)) (lim tab.get S 53 q) q x0 x1 x2 x3 x4 h := (lim_eqF k53 q 3 _ h).trans (e53_3 ..).symm
theorem w53_4 (S : Oracle) (q : Nat) (x0 x1 x2 : TVal) (h : Heap) : lim tab.get S 53 q 4 [x0, x1, x2] h = b53_4 (orc S (lim tab.get S)) (lim tab.get S 53 q) q x0 x1 x2 h := (lim_eqF k53 q 4 _ h).trans (e53_4 ..).symm
theorem w53_5 (S : Oracle) (q : Nat) (x0 x1 x2 : TVal) (h : Heap) : lim tab.get S 53 q 5 [x0, x1, x2] h = b53_5 (orc S (lim tab.get S)) (lim tab.get S 53 q) q x0 x1 x2 h := (lim_eqF k53 q 5 _ h).trans (e53_5 ..).symm
theorem k54 : tab.get 54 = some c54 := by kernel_rfl
theorem w54_0 (S : Oracle) (q : Nat) (x0 : TVal) (h : Heap) : lim tab.get S 54 q 0 [x0] h = b54_0 (orc S (lim tab.get S)) (lim tab.get S 54 q) q x0 h := (lim_eqF k54 q 0 _ h).trans (e54_0 ..).symm
theorem w54_1 (S : Oracle) (q : Nat) (x0 x1 x2 : TVal) (h : Heap) : lim tab.get S 54 q 1 [x0, x1, x2] h = b54_1 (orc S (lim tab.get S)) (lim tab.get S 54 q) q x0 x1 x2 h := (lim_eqF k54 q 1 _ h).trans (e54_1 ..).symm
theorem w54_2 (S : Oracle) (q : Nat) (x0 x1 : TVal) (h : Heap) : lim tab.get S 54 q 2 [x0, x1] h = b54_2 (orc S (lim tab.get S)) (lim tab.get S 54 q) q x0 x1 h := (lim_eqF k54 q 2 _ h).trans (e54_2 ..).symm
theorem w54_3 (S : Oracle) (q : Nat) (x0 x1 x2 : TVal) (h : Heap) : lim tab.get S 54 q 3 [x0, x1, x2] h = b54_3 (orc S (lim tab.get S)) (lim tab.get S 54 q) q x0 x1 x2 h := (lim_eqF k54 q 3 _ h).trans (e54_3 ..).symm
theorem k55 : tab.get 55 = some c55 := by kernel_rfl
theorem w55_0 (S : Oracle) (q : Nat) (x0 x1 : TVal) (h : Heap) : lim tab.get S 55 q 0 [x0, x1] h = b55_0 (orc S (lim tab.get S)) (lim tab.get S 55 q) q x0 x1 h := (lim_eqF k55 q 0 _ h).trans (e55_0 ..).symm
theorem w55_1 (S : Oracle) (q : Nat) (x0 x1 x2 : TVal) (h : Heap) : lim tab.get S 55 q 1 [x0, x1, x2] h = b55_1 (orc S (lim tab.get S)) (lim tab.get S 55 q) q x0 x1 x2 h := (lim_eqF k55 q 1 _ h).trans (e55_1 ..).symm
theorem k56 : tab.get 56 = some c56 := by kernel_rfl
theorem w56_0 (S : Oracle) (q : Nat) (x0 x1 x2 : TVal) (h : Heap) : lim tab.get S 56 q 0 [x0, x1, x2] h = b56_0 (orc S (lim tab.get S)) (lim tab.get S 56 q) q x0 x1 x2 h := (lim_eqF k56 q 0 _ h).trans (e56_0 ..).symm
theorem w56_1 (S : Oracle) (q : Nat) (x0 x1 x2 x3 : TVal) (h : Heap) : lim tab.get S 56 q 1 [x0, x1, x2, x3] h = b56_1 (orc S (lim tab.get S)) (lim tab.get S 56 q) q x0 x1 x2 x3 h := (lim_eqF k56 q 1 _ h).trans (e56_1 ..).symm
theorem w56_2 (S : Oracle) (q : Nat) (x0 x1 x2 : TVal) (h : Heap) : lim tab.get S 56 q 2 [x0, x1, x2] h = b56_2 (orc S (lim tab.get S)) (lim tab.get S 56 q) q x0 x1 x2 h := (lim_eqF k56 q 2 _ h).trans (e56_2 ..).symm
theorem w56_3 (S : Oracle) (q : Nat) (x0 x1 x2 x3 : TVal) (h : Heap) : lim tab.get S 56 q 3 [x0, x1, x2, x3] h = b56_3 (orc S (lim tab.get S)) (lim tab.get S 56 q) q x0 x1 x2 x3 h := (lim_eqF k56 q 3 _ h).trans (e56_3 ..).symm
theorem w56_4 (S : Oracle) (q : Nat) (x0 x1 x2 : TVal) (h : Heap) : lim tab.get S 56 q 4 [x0, x1, x2] h = b56_4 (orc S (lim tab.get S)) (lim tab.get S 56 q) q x0 x1 x2 h := (lim_eqF k56 q 4 _ h).trans (e56_4 ..).symm
theorem w56_5 (S : Oracle) (q : Nat) (x0 x1 x2 x3 : TVal) (h : Heap) : lim tab.get S 56 q 5 [x0, x1, x2, x3] h = b56_5 (orc S (lim tab.get S)) (lim tab.get S 56 q) q x0 x1 x2 x3 h := (lim_eqF k56 q 5 _ h).trans (e56_5 ..).symm
theorem k57 : tab.get 57 = some c57 := by kernel_rfl
theorem w57_0 (S : Oracle) (q : Nat) (x0 : TVal) (h : Heap) : lim tab.get S 57 q 0 [x0] h = b57_0 (orc S (lim tab.get S)) (lim tab.get S 57 q) q x0 h := (lim_eqF k57 q 0 _ h).trans (e57_0 ..).symm
theorem w57_1 (S : Oracle) (q : Nat) (x0 x1 x2 x3 : TVal) (h : Heap) : lim tab.get S 57 q 1 [x0, x1, x2, x3] h = b57_1 (orc S (lim tab.get S)) (lim tab.get S 57 q) q x0 x1 x2 x3 h := (lim_eqF k57 q 1 _ h).trans (e57_1 ..).symm
theorem k58 : tab.get 58 = some c58 := by kernel_rfl
theorem w58_0 (S : Oracle) (q : Nat) (x0 x1 x2 : TVal) (h : Heap) : lim tab.get S 58 q 0 [x0, x1, x2] h = b58_0 (orc S (lim tab.get S)) (lim tab.get S 58 q) q x0 x1 x2 h := (lim_eqF k58 q 0 _ h).trans (e58_0 ..).symm
theorem k107 : tab.get 107 = some c107 := by kernel_rfl
theorem w107_0 (S : Oracle) (q : Nat) (x0 : TVal) (h : Heap) : lim tab.get S 107 q 0 [x0] h = b107_0 (orc S (lim tab.get S)) (lim tab.get S 107 q) q x0 h := (lim_eqF k107 q 0 _ h).trans (e107_0 ..).symm
theorem k108 : tab.get 108 = some c108 := by kernel_rfl
theorem w108_0 (S : Oracle) (q : Nat) (x0 : TVal) (h : Heap) : lim tab.get S 108 q 0 [x0] h = b108_0 (orc S (lim tab.get S)) (lim tab.get S 108 q) q x0 h := (lim_eqF k108 q 0 _ h).trans (e108_0 ..).symm
theorem k109 : tab.get 109 = some c109 := by kernel_rfl
theorem w109_0 (S : Oracle) (q : Nat) (x0 x1 : TVal) (h : Heap) : lim tab.get S 109 q 0 [x0, x1] h = b109_0 (orc S (lim tab.get S)) (lim tab.get S 109 q) q x0 x1 h := (lim_eqF k109 q 0 _ h).trans (e109_0 ..).symm
theorem w109_1 (S : Oracle) (q : Nat) (x0 x1 x2 x3 x4 : TVal) (h : Heap) : lim tab.get S 109 q 1 [x0, x1, x2, x3, x4] h = b109_1 (orc S (lim tab.get S)) (lim tab.get S 109 q) q x0 x1 x2 x3 x4 h := (lim_eqF k109 q 1 _ h).trans (e109_1 ..).symm
theorem w109_2 (S : Oracle) (q : Nat) (x0 x1 x2 x3 : TVal) (h : Heap) : lim tab.get S 109 q 2 [x0, x1, x2, x3] h = b109_2 (orc S (lim tab.get S)) (lim tab.get S 109 q) q x0 x1 x2 x3 h := (lim_eqF k109 q 2 _ h).trans (e109_2 ..).symm
theorem w109_3 (S : Oracle) (q : Nat) (x0 x1 x2 : TVal) (h : Heap) : lim tab.get S 109 q 3 [x0, x1, x2] h = b109_3 (orc S (lim tab.get S)) (lim tab.get S 109 q) q x0 x1 x2 h := (lim_eqF k109 q 3 _ h).trans (e109_3 ..).symm
theorem w109_4 (S : Oracle) (q : Nat) (x0 : TVal) (h : Heap) : lim tab.get S 109 q 4 [x0] h = b109_4 (orc S (lim tab.get S)) (lim tab.get S 109 q) q x0 h := (lim_eqF k109 q 4 _ h).trans (e109_4 ..).symm
theorem w109_5 (S : Oracle) (q : Nat) (x0 x1 : TVal) (h : Heap) : lim tab.get S 109 q 5 [x0, x1] h = b109_5 (orc S (lim tab.get S)) (lim tab.get S 109 q) q x0 x1 h := (lim_eqF k109 q 5 _ h).trans (e109_5 ..).symm
theorem w109_6 (S : Oracle) (q : Nat) (x0 : TVal) (h : Heap) : lim tab.get S 109 q 6 [x0] h = b109_6 (orc S (lim tab.get S)) (lim tab.get S 109 q) q x0 h := (lim_eqF k109 q 6 _ h).trans (e109_6 ..).symm
theorem k110 : tab.get 110 = some c110 := by kernel_rfl
theorem w110_0 (S : Oracle) (q : Nat) (x0 x1 : TVal) (h : Heap) : lim tab.get S 110 q 0 [x0, x1] h = b110_0 (orc S (lim tab.get S)) (lim tab.get S 110 q) q x0 x1 h := (lim_eqF k110 q 0 _ h).trans (e110_0 ..).symm
theorem w110_1 (S : Oracle) (q : Nat) (x0 x1 x2 : TVal) (h : Heap) : lim tab.get S 110 q 1 [x0, x1, x2] h = b110_1 (orc S (lim tab.get S)) (lim tab.get S 110 q) q x0 x1 x2 h := (lim_eqF k110 q 1 _ h).trans (e110_1 ..).symm
theorem w110_2 (S : Oracle) (q : Nat) (x0 x1 x2 : TVal) (h : Heap) : lim tab.get S 110 q 2 [x0, x1, x2] h = b110_2 (orc S (lim tab.get S)) (lim tab.get S 110 q) q x0 x1 x2 h := (lim_eqF k110 q 2 _ h).trans (e110_2 ..).symm
theorem k111 : tab.get 111 = some c111 := by kernel_rfl
theorem w111_0 (S : Oracle) (q : Nat) (x0 x1 : TVal) (h : Heap) : lim tab.get S 111 q 0 [x0, x1] h = b111_0 (orc S (lim tab.get S)) (lim tab.get S 111 q) q x0 x1 h := (lim_eqF k111 q 0 _ h).trans (e111_0 ..).symm
theorem w111_1 (S : Oracle) (q : Nat) (x0 x1 x2 x3 : TVal) (h : Heap) : lim tab.get S 111 q 1 [x0, x1, x2, x3] h = b111_1 (orc S (lim tab.get S)) (lim tab.get S 111 q) q x0 x1 x2 x3 h := (lim_eqF k111 q 1 _ h).trans (e111_1 ..).symm
theorem w111_2 (S : Oracle) (q : Nat) (x0 x1 : TVal) (h : Heap) : lim tab.get S 111 q 2 [x0, x1] h = b111_2 (orc S (lim tab.get S)) (lim tab.get S 111 q) q x0 x1 h := (lim_eqF k111 q 2 _ h).trans (e111_2 ..).symm
theorem k112 : tab.get 112 = some c112 := by kernel_rfl
theorem w112_0 (S : Oracle) (q : Nat) (x0 : TVal) (h : Heap) : lim tab.get S 112 q 0 [x0] h = b112_0 (orc S (lim tab.get S)) (lim tab.get S 112 q) q x0 h := (lim_eqF k112 q 0 _ h).trans (e112_0 ..).symm
theorem k113 : tab.get 113 = some c113 := by kernel_rfl
theorem w113_0 (S : Oracle) (q : Nat) (x0 x1 : TVal) (h : Heap) : lim tab.get S 113 q 0 [x0, x1] h = b113_0 (orc S (lim tab.get S)) (lim tab.get S 113 q) q x0 x1 h := (lim_eqF k113 q 0 _ h).trans (e113_0 ..).symm
theorem w113_1 (S : Oracle) (q : Nat) (x0 x1 x2 x3 x4 : TVal) (h : Heap) : lim tab.get S 113 q 1 [x0, x1, x2, x3, x4] h = b113_1 (orc S (lim tab.get S)) (lim tab.get S 113 q) q x0 x1 x2 x3 x4 h := (lim_eqF k113 q 1 _ h).trans (e113_1 ..).symm
theorem w113_2 (S : Oracle) (q : Nat) (x0 x1 x2 x3 x4 : TVal) (h : Heap) : lim tab.get S 113 q 2 [x0, x1, x2, x3, x4] h = b113_2 (orc S (lim tab.get S)) (lim tab.get S 113 q) q x0 x1 x2 x3 x4 h := (lim_eqF k113 q 2 _ h).trans (e113_2 ..).symm
theorem w113_3 (S : Oracle) (q : Nat) (x0 x1 : TVal) (h : Heap) : lim tab.get S 113 q 3 [x0, x1] h = b113_3 (orc S (lim tab.get S)) (lim tab.get S 113 q) q x0 x1 h := (lim_eqF k113 q 3 _ h).trans (e113_3 ..).symm
theorem k114 : tab.get 114 = some c114 := by kernel_rfl
theorem w114_0 (S : Oracle) (q : Nat) (x0 x1 x2 x3 x4 : TVal) (h : Heap) : lim tab.get S 114 q 0 [x0, x1, x2, x3, x4] h = b114_0 (orc S (lim tab.get S)) (lim tab.get S 114 q) q x0 x1 x2 x3 x4 h := (lim_eqF k114 q 0 _ h).trans (e114_0 ..).symm
theorem w114_1 (S : Oracle) (q : Nat) (x0 x1 x2 x3 x4 x5 : TVal) (h : Heap) : lim tab.get S 114 q 1 [x0, x1, x2, x3, x4, x5] h = b114_1 (orc S (lim tab.get S)) (lim tab.get S 114 q) q x0 x1 x2 x3 x4 x5 h := (lim_eqF k114 q 1 _ h).trans (e114_1 ..).symm
theorem k115 : tab.get 115 = some c115 := by kernel_rfl
theorem w115_0 (S : Oracle) (q : Nat) (x0 : TVal) (h : Heap) : lim tab.get S 115 q 0 [x0] h = b115_0 (orc S (lim tab.get S)) (lim tab.get S 115 q) q x0 h := (lim_eqF k115 q 0 _ h).trans (e115_0 ..).symm
theorem k116 : tab.get 116 = some c116 := by kernel_rfl
theorem w116_0 (S : Oracle) (q : Nat) (x0 : TVal) (h : Heap) : lim tab.get S 116 q 0 [x0] h = b116_0 (orc S (lim tab.get S)) (lim tab.get S 116 q) q x0 h := (lim_eqF k116 q 0 _ h).trans (e116_0 ..).symm
theorem k117 : tab.get 117 = some c117 := by kernel_rfl
theorem w117_0 (S : Oracle) (q : Nat) (x0 x1 : TVal) (h : Heap) : lim tab.get S 117 q 0 [x0, x1] h = b117_0 (orc S (lim tab.get S)) (lim tab.get S 117 q) q x0 x1 h := (lim_eqF k117 q 0 _ h).trans (e117_0 ..).symm
theorem k118 : tab.get 118 = some c118 := by kernel_rfl
theorem w118_0 (S : Oracle) (q : Nat) (x0 x1 x2 : TVal) (h : Heap) : lim tab.get S 118 q 0 [x0, x1, x2] h = b118_0 (orc S (lim tab.get S)) (lim tab.get S 118 q) q x0 x1 x2 h := (lim_eqF k118 q 0 _ h).trans (e118_0 ..).symm
theorem w118_1 (S : Oracle) (q : Nat) (x0 x1 x2 x3 x4 x5 : TVal) (h : Heap) : lim tab.get S 118 q 1 [x0, x1, x2, x3, x4, x5] h = b118_1 (orc S (lim tab.get S)) (lim tab.get S 118 q) q x0 x1 x2 x3 x4 x5 h := (lim_eqF k118 q 1 _ h).trans (e118_1 ..).symm
theorem w118_2 (S : Oracle) (q : Nat) (x0 x1 x2 x3 x4 x5 : TVal) (h : Heap) : lim tab.get S 118 q 2 [x0, x1, x2, x3, x4, x5] h = b118_2 (orc S (lim tab.get S)) (lim tab.get S 118 q) q x0 x1 x2 x3 x4 x5 h := (lim_eqF k118 q 2 _ h).trans (e118_2 ..).symm
theorem w118_3 (S : Oracle) (q : Nat) (x0 x1 : TVal) (h : Heap) : lim tab.get S 118 q 3 [x0, x1] h = b118_3 (orc S (lim tab.get S)) (lim tab.get S 118 q) q x0 x1 h := (lim_eqF k118 q 3 _ h).trans (e118_3 ..).symm
theorem w118_4 (S : Oracle) (q : Nat) (x0 x1 x2 x3 : TVal) (h : Heap) : lim tab.get S 118 q 4 [x0, x1, x2, x3] h = b118_4 (orc S (lim tab.get S)) (lim tab.get S 118 q) q x0 x1 x2 x3 h := (lim_eqF k118 q 4 _ h).trans (e118_4 ..).symm
theorem k119 : tab.get 119 = some c119 := by kernel_rfl
theorem w119_0 (S : Oracle) (q : Nat) (x0 x1 x2 : TVal) (h : Heap) : lim tab.get S 119 q 0 [x0, x1, x2] h = b119_0 (orc S (lim tab.get S)) (lim tab.get S 119 q) q x0 x1 x2 h := (lim_eqF k119 q 0 _ h).trans (e119_0 ..).symm
theorem k131 : tab.get 131 = some c131 := by kernel_rfl
theorem w131_0 (S : Oracle) (q : Nat) (x0 x1 : TVal) (h : Heap) : lim tab.get S 131 q 0 [x0, x1] h = b131_0 (orc S (lim tab.get S)) (lim tab.get S 131 q) q x0 x1 h := (lim_eqF k131 q 0 _ h).trans (e131_0 ..).symm
theorem w131_1 (S : Oracle) (q : Nat) (x0 x1 x2 x3 : TVal) (h : Heap) : lim tab.get S 131 q 1 [x0, x1, x2, x3] h = b131_1 (orc S (lim tab.get S)) (lim tab.get S 131 q) q x0 x1 x2 x3 h := (lim_eqF k131 q 1 _ h).trans (e131_1 ..).symm
theorem k139 : tab.get 139 = some c139 := by kernel_rfl
theorem w139_0 (S : Oracle) (q : Nat) (x0 x1 : TVal) (h : Heap) : lim tab.get S 139 q 0 [x0, x1] h = b139_0 (orc S (lim tab.get S)) (lim tab.get S 139 q) q x0 x1 h := (lim_eqF k139 q 0 _ h).trans (e139_0 ..).symm
theorem k162 : tab.get 162 = some c162 := by kernel_rfl
theorem w162_0 (S : Oracle) (q : Nat) (x0 x1 : TVal) (h : Heap) : lim tab.get S 162 q 0 [x0, x1] h = b162_0 (orc S (lim tab.get S)) (lim tab.get S 162 q) q x0 x1 h := (lim_eqF k162 q 0 _ h).trans (e162_0 ..).symm
theorem w162_1 (S : Oracle) (q : Nat) (x0 x1 x2 x3 : TVal) (h : Heap) : lim tab.get S 162 q 1 [x0, x1, x2, x3] h = b162_1 (orc S (lim tab.get S)) (lim tab.get S 162 q) q x0 x1 x2 x3 h := (lim_eqF k162 q 1 _ h).trans (e162_1 ..).symm
theorem w162_2 (S : Oracle) (q : Nat) (x0 : TVal) (h : Heap) : lim tab.get S 162 q 2 [x0] h = b162_2 (orc S (lim tab.get S)) (lim tab.get S 162 q) q x0 h := (lim_eqF k162 q 2 _ h).trans (e162_2 ..).symm
theorem k163 : tab.get 163 = some c163 := by kernel_rfl
theorem w163_0 (S : Oracle) (q : Nat) (x0 x1 : TVal) (h : Heap) : lim tab.get S 163 q 0 [x0, x1] h = b163_0 (orc S (lim tab.get S)) (lim tab.get S 163 q) q x0 x1 h := (lim_eqF k163 q 0 _ h).trans (e163_0 ..).symm
theorem w163_1 (S : Oracle) (q : Nat) (x0 x1 x2 : TVal) (h : Heap) : lim tab.get S 163 q 1 [x0, x1, x2] h = b163_1 (orc S (lim tab.get S)) (lim tab.get S 163 q) q x0 x1 x2 h := (lim_eqF k163 q 1 _ h).trans (e163_1 ..).symm
theorem k164 : tab.get 164 = some c164 := by kernel_rfl
theorem w164_0 (S : Oracle) (q : Nat) (x0 : TVal) (h : Heap) : lim tab.get S 164 q 0 [x0] h = b164_0 (orc S (lim tab.get S)) (lim tab.get S 164 q) q x0 h := (lim_eqF k164 q 0 _ h).trans (e164_0 ..).symm
theorem k178 : tab.get 178 = some c178 := by kernel_rfl
theorem w178_0 (S : Oracle) (q : Nat) (x0 x1 : TVal) (h : Heap) : lim tab.get S 178 q 0 [x0, x1] h = b178_0 (orc S (lim tab.get S)) (lim tab.get S 178 q) q x0 x1 h := (lim_eqF k178 q 0 _ h).trans (e178_0 ..).symm
theorem w178_1 (S : Oracle) (q : Nat) (x0 x1 x2 : TVal) (h : Heap) : lim tab.get S 178 q 1 [x0, x1, x2] h = b178_1 (orc S (lim tab.get S)) (lim tab.get S 178 q) q x0 x1 x2 h := (lim_eqF k178 q 1 _ h).trans (e178_1 ..).symm
theorem k184 : tab.get 184 = some c184 := by kernel_rfl
theorem w184_0 (S : Oracle) (q : Nat) (x0 : TVal) (h : Heap) : lim tab.get S 184 q 0 [x0] h = b184_0 (orc S (lim tab.get S)) (lim tab.get S 184 q) q x0 h := (lim_eqF k184 q 0 _ h).trans (e184_0 ..).symm
theorem k185 : tab.get 185 = some c185 := by kernel_rfl
theorem w185_0 (S : Oracle) (q : Nat) (x0 : TVal) (h : Heap) : lim tab.get S 185 q 0 [x0] h = b185_0 (orc S (lim tab.get S)) (lim tab.get S 185 q) q x0 h := (lim_eqF k185 q 0 _ h).trans (e185_0 ..).symm
theorem k186 : tab.get 186 = some c186 := by kernel_rfl
theorem w186_0 (S : Oracle) (q : Nat) (x0 x1 : TVal) (h : Heap) : lim tab.get S 186 q 0 [x0, x1] h = b186_0 (orc S (lim tab.get S)) (lim tab.get S 186 q) q x0 x1 h := (lim_eqF k186 q 0 _ h).trans (e186_0 ..).symm
theorem w186_1 (S : Oracle) (q : Nat) (x0 x1 x2 : TVal) (h : Heap) : lim tab.get S 186 q 1 [x0, x1, x2] h = b186_1 (orc S (lim tab.get S)) (lim tab.get S 186 q) q x0 x1 x2 h := (lim_eqF k186 q 1 _ h).trans (e186_1 ..).symm
theorem w186_2 (S : Oracle) (q : Nat) (x0 x1 x2 : TVal) (h : Heap) : lim tab.get S 186 q 2 [x0, x1, x2] h = b186_2 (orc S (lim tab.get S)) (lim tab.get S 186 q) q x0 x1 x2 h := (lim_eqF k186 q 2 _ h).trans (e186_2 ..).symm
theorem w186_3 (S : Oracle) (q : Nat) (x0 x1 x2 : TVal) (h : Heap) : lim tab.get S 186 q 3 [x0, x1, x2] h = b186_3 (orc S (lim tab.get S)) (lim tab.get S 186 q) q x0 x1 x2 h := (lim_eqF k186 q 3 _ h).trans (e186_3 ..).symm
theorem w186_4 (S : Oracle) (q : Nat) (x0 x1 x2 : TVal) (h : Heap) : lim tab.get S 186 q 4 [x0, x1, x2] h = b186_4 (orc S (lim tab.get S)) (lim tab.get S 186 q) q x0 x1 x2 h := (lim_eqF k186 q 4 _ h).trans (e186_4 ..).symm
theorem k187 : tab.get 187 = some c187 := by kernel_rfl
theorem w187_0 (S : Oracle) (q : Nat) (x0 x1 x2 x3 x4 : TVal) (h : Heap) : lim tab.get S 187 q 0 [x0, x1, x2, x3, x4] h = b187_0 (orc S (lim tab.get S)) (lim tab.get S 187 q) q x0 x1 x2 x3 x4 h := (lim_eqF k187 q 0 _ h).trans (e187_0 ..).symm
theorem w187_1 (S : Oracle) (q : Nat) (x0 x1 x2 x3 x4 x5 x6 : TVal) (h : Heap) : lim tab.get S 187 q 1 [x0, x1, x2, x3, x4, x5, x6] h = b187_1 (orc S (lim tab.get S)) (lim tab.get S 187 q) q x0 x1 x2 x3 x4 x5 x6 h := (lim_eqF k187 q 1 _ h).trans (e187_1 ..).symm
theorem w187_2 (S : Oracle) (q : Nat) (x0 x1 x2 x3 x4 x5 x6 x7 x8 : TVal) (h : Heap) : lim tab.get S 187 q 2 [x0, x1, x2, x3, x4, x5, x6, x7, x8] h = b187_2 (orc S (lim tab.get S)) (lim tab.get S 187 q) q x0 x1 x2 x3 x4 x5 x6 x7 x8 h := (lim_eqF k187 q 2 _ h).trans (e187_2 ..).symm
theorem w187_3 (S : Oracle) (q : Nat) (x0 x1 x2 x3 x4 x5 x6 x7 x8 x9 x10 : TVal) (h : Heap) : lim tab.get S 187 q 3 [x0, x1, x2, x3, x4, x5, x6, x7, x8, x9, x10] h = b187_3 (orc S (lim tab.get S)) (lim tab.get S 187 q) q x0 x1 x2 x3 x4 x5 x6 x7 x8 x9 x10 h := (lim_eqF k187 q 3 _ h).trans (e187_3 ..).symm
theorem w187_4 (S : Oracle) (q : Nat) (x0 x1 x2 x3 x4 x5 x6 x7 : TVal) (h : Heap) : lim tab.get S 187 q 4 [x0, x1, x2, x3, x4, x5, x6, x7] h = b187_4 (orc S (lim tab.get S)) (lim tab.get S 187 q) q x0 x1 x2 x3 x4 x5 x6 x7 h := (lim_eqF k187 q 4 _ h).trans (e187_4 ..).symm
theorem w187_5 (S : Oracle) (q : Nat) (x0 x1 x2 x3 x4 x5 x6 x7 x8 : TVal) (h : Heap) : lim tab.get S 187 q 5 [x0, x1, x2, x3, x4, x5, x6, x7, x8] h = b187_5 (orc S (lim tab.get S)) (lim tab.get S 187 q) q x0 x1 x2 x3 x4 x5 x6 x7 x8 h := (lim_eqF k187 q 5 _ h).trans (e187_5 ..).symm
theorem w187_6 (S : Oracle) (q : Nat) (x0 x1 x2 x3 x4 x5 x6 x7 : TVal) (h : Heap) : lim tab.get S 187 q 6 [x0, x1, x2, x3, x4, x5, x6, x7] h = b187_6 (orc S (lim tab.get S)) (lim tab.get S 187 q) q x0 x1 x2 x3 x4 x5 x6 x7 h := (lim_eqF k187 q 6 _ h).trans (e187_6 ..).symm
theorem w187_7 (S : Oracle) (q : Nat) (x0 x1 x2 x3 x4 x5 x6 : TVal) (h : Heap) : lim tab.get S 187 q 7 [x0, x1, x2, x3, x4, x5, x6] h = b187_7 (orc S (lim tab.get S)) (lim tab.get S 187 q) q x0 x1 x2 x3 x4 x5 x6 h := (lim_eqF k187 q 7 _ h).trans (e187_7 ..).symm
theorem w187_8 (S : Oracle) (q : Nat) (x0 x1 x2 x3 x4 x5 : TVal) (h : Heap) : lim tab.get S 187 q 8 [x0, x1, x2, x3, x4, x5] h = b187_8 (orc S (lim tab.get S)) (lim tab.get S 187 q) q x0 x1 x2 x3 x4 x5 h := (lim_eqF k187 q 8 _ h).trans (e187_8 ..).symm
theorem k192 : tab.get 192 = some c192 := by kernel_rfl
theorem w192_0 (S : Oracle) (q : Nat) (x0 : TVal) (h : Heap) : lim tab.get S 192 q 0 [x0] h = b192_0 (orc S (lim tab.get S)) (lim tab.get S 192 q) q x0 h := (lim_eqF k192 q 0 _ h).trans (e192_0 ..).symm
theorem k193 : tab.get 193 = some c193 := by kernel_rfl
theorem w193_0 (S : Oracle) (q : Nat) (x0 : TVal) (h : Heap) : lim tab.get S 193 q 0 [x0] h = b193_0 (orc S (lim tab.get S)) (lim tab.get S 193 q) q x0 h := (lim_eqF k193 q 0 _ h).trans (e193_0 ..).symm
theorem w193_1 (S : Oracle) (q : Nat) (x0 x1 : TVal) (h : Heap) : lim tab.get S 193 q 1 [x0, x1] h = b193_1 (orc S (lim tab.get S)) (lim tab.get S 193 q) q x0 x1 h := (lim_eqF k193 q 1 _ h).trans (e193_1 ..).symm
theorem w193_2 (S : Oracle) (q : Nat) (x0 x1 : TVal) (h : Heap) : lim tab.get S 193 q 2 [x0, x1] h = b193_2 (orc S (lim tab.get S)) (lim tab.get S 193 q) q x0 x1 h := (lim_eqF k193 q 2 _ h).trans (e193_2 ..).symm
theorem w193_3 (S : Oracle) (q : Nat) (x0 x1 : TVal) (h : Heap) : lim tab.get S 193 q 3 [x0, x1] h = b193_3 (orc S (lim tab.get S)) (lim tab.get S 193 q) q x0 x1 h := (lim_eqF k193 q 3 _ h).trans (e193_3 ..).symm
theorem k194 : tab.get 194 = some c194 := by kernel_rfl
theorem w194_0 (S : Oracle) (q : Nat) (x0 : TVal) (h : Heap) : lim tab.get S 194 q 0 [x0] h = b194_0 (orc S (lim tab.get S)) (lim tab.get S 194 q) q x0 h := (lim_eqF k194 q 0 _ h).trans (e194_0 ..).symm
theorem k195 : tab.get 195 = some c195 := by kernel_rfl
theorem w195_0 (S : Oracle) (q : Nat) (x0 : TVal) (h : Heap) : lim tab.get S 195 q 0 [x0] h = b195_0 (orc S (lim tab.get S)) (lim tab.get S 195 q) q x0 h := (lim_eqF k195 q 0 _ h).trans (e195_0 ..).symm
theorem k196 : tab.get 196 = some c196 := by kernel_rfl
theorem w196_0 (S : Oracle) (q : Nat) (x0 : TVal) (h : Heap) : lim tab.get S 196 q 0 [x0] h = b196_0 (orc S (lim tab.get S)) (lim tab.get S 196 q) q x0 h := (lim_eqF k196 q 0 _ h).trans (e196_0 ..).symm
theorem k199 : tab.get 199 = some c199 := by kernel_rfl
theorem w199_0 (S : Oracle) (q : Nat) (x0 : TVal) (h : Heap) : lim tab.get S 199 q 0 [x0] h = b199_0 (orc S (lim tab.get S)) (lim tab.get S 199 q) q x0 h := (lim_eqF k199 q 0 _ h).trans (e199_0 ..).symm
theorem k200 : tab.get 200 = some c200 := by kernel_rfl
theorem w200_0 (S : Oracle) (q : Nat) (x0 : TVal) (h : Heap) : lim tab.get S 200 q 0 [x0] h = b200_0 (orc S (lim tab.get S)) (lim tab.get S 200 q) q x0 h := (lim_eqF k200 q 0 _ h).trans (e200_0 ..).symm
end Go.Proofs.YtlkejchbcchecaaDoor.Ab
