/- sch.Type run on the texts as deep as may be, part 0. -/
import Derived.Test.YtnlmlcfipbnpgaaDoorSdA
set_option linter.all false
set_option linter.unusedVariables false
set_option linter.unusedSimpArgs false
set_option maxRecDepth 100000
namespace Go.Proofs.YtnlmlcfipbnpgaaDoor.Ab
open Go Go.AI
theorem td0 : ((List.range 15).all fun k => okT (bif Nat.ble k 11 then 0 else 13) (machU blks.get S2 3000 16 0 0 [kS (textJ 0 k)] h0)) = true := by kernel_rfl
theorem td4 : ((List.range 15).all fun k => okT (bif Nat.ble k 11 then 0 else 13) (machU blks.get S2 3000 16 0 0 [kS (textJ 4 k)] h0)) = true := by kernel_rfl
theorem td8 : ((List.range 15).all fun k => okT (bif Nat.ble k 11 then 0 else 13) (machU blks.get S2 3000 16 0 0 [kS (textJ 8 k)] h0)) = true := by kernel_rfl
theorem td12 : ((List.range 15).all fun k => okT (bif Nat.ble k 11 then 0 else 13) (machU blks.get S2 3000 16 0 0 [kS (textJ 12 k)] h0)) = true := by kernel_rfl
theorem td16 : ((List.range 15).all fun k => okT (bif Nat.ble k 11 then 0 else 13) (machU blks.get S2 3000 16 0 0 [kS (textJ 16 k)] h0)) = true := by kernel_rfl
end Go.Proofs.YtnlmlcfipbnpgaaDoor.Ab
