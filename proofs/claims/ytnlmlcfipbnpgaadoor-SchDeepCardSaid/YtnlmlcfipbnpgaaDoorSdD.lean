/- sch.Type run on the texts as deep as may be, part 2. -/
import Derived.Test.YtnlmlcfipbnpgaaDoorSdA
set_option linter.all false
set_option linter.unusedVariables false
set_option linter.unusedSimpArgs false
set_option maxRecDepth 100000
namespace Go.Proofs.YtnlmlcfipbnpgaaDoor.Ab
open Go Go.AI
theorem td2 : ((List.range 15).all fun k => okT (bif Nat.ble k 11 then 0 else 13) (machU blks.get S2 3000 16 0 0 [kS (textJ 2 k)] h0)) = true := by kernel_rfl
theorem td6 : ((List.range 15).all fun k => okT (bif Nat.ble k 11 then 0 else 13) (machU blks.get S2 3000 16 0 0 [kS (textJ 6 k)] h0)) = true := by kernel_rfl
theorem td10 : ((List.range 15).all fun k => okT (bif Nat.ble k 11 then 0 else 13) (machU blks.get S2 3000 16 0 0 [kS (textJ 10 k)] h0)) = true := by kernel_rfl
theorem td14 : ((List.range 15).all fun k => okT (bif Nat.ble k 11 then 0 else 13) (machU blks.get S2 3000 16 0 0 [kS (textJ 14 k)] h0)) = true := by kernel_rfl
theorem td18 : ((List.range 15).all fun k => okT (bif Nat.ble k 11 then 0 else 13) (machU blks.get S2 3000 16 0 0 [kS (textJ 18 k)] h0)) = true := by kernel_rfl
end Go.Proofs.YtnlmlcfipbnpgaaDoor.Ab
