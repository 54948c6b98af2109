/- sch.Type run on the texts as deep as may be, part 1. -/
import Derived.Test.YtnlmlcfipbnpgaaDoorSdA
set_option linter.all false
set_option linter.unusedVariables false
set_option linter.unusedSimpArgs false
set_option maxRecDepth 100000
namespace Go.Proofs.YtnlmlcfipbnpgaaDoor.Ab
open Go Go.AI
theorem td1 : ((List.range 15).all fun k => okT (bif Nat.ble k 11 then 0 else 13) (machU blks.get S2 3000 16 0 0 [kS (textJ 1 k)] h0)) = true := by kernel_rfl
theorem td5 : ((List.range 15).all fun k => okT (bif Nat.ble k 11 then 0 else 13) (machU blks.get S2 3000 16 0 0 [kS (textJ 5 k)] h0)) = true := by kernel_rfl
theorem td9 : ((List.range 15).all fun k => okT (bif Nat.ble k 11 then 0 else 13) (machU blks.get S2 3000 16 0 0 [kS (textJ 9 k)] h0)) = true := by kernel_rfl
theorem td13 : ((List.range 15).all fun k => okT (bif Nat.ble k 11 then 0 else 13) (machU blks.get S2 3000 16 0 0 [kS (textJ 13 k)] h0)) = true := by kernel_rfl
theorem td17 : ((List.range 15).all fun k => okT (bif Nat.ble k 11 then 0 else 13) (machU blks.get S2 3000 16 0 0 [kS (textJ 17 k)] h0)) = true := by kernel_rfl
end Go.Proofs.YtnlmlcfipbnpgaaDoor.Ab
