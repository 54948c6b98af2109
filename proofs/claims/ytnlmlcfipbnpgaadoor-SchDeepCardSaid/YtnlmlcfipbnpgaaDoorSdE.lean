/- sch.Type run on the texts as deep as may be, part 3. -/
import Derived.Test.YtnlmlcfipbnpgaaDoorSdA
set_option linter.all false
set_option linter.unusedVariables false
set_option linter.unusedSimpArgs false
set_option maxRecDepth 100000
namespace Go.Proofs.YtnlmlcfipbnpgaaDoor.Ab
open Go Go.AI
theorem td3 : ((List.range 15).all fun k => okT (bif Nat.ble k 11 then 0 else 13) (machU blks.get S2 3000 16 0 0 [kS (textJ 3 k)] h0)) = true := by kernel_rfl
theorem td7 : ((List.range 15).all fun k => okT (bif Nat.ble k 11 then 0 else 13) (machU blks.get S2 3000 16 0 0 [kS (textJ 7 k)] h0)) = true := by kernel_rfl
theorem td11 : ((List.range 15).all fun k => okT (bif Nat.ble k 11 then 0 else 13) (machU blks.get S2 3000 16 0 0 [kS (textJ 11 k)] h0)) = true := by kernel_rfl
theorem td15 : ((List.range 15).all fun k => okT (bif Nat.ble k 11 then 0 else 13) (machU blks.get S2 3000 16 0 0 [kS (textJ 15 k)] h0)) = true := by kernel_rfl
end Go.Proofs.YtnlmlcfipbnpgaaDoor.Ab
