/- 'InterpRows' evaluated, part 0. Own work; no condition. -/
import Derived.Test.YtnlmlcfipbnpgaaGreatDoorRInterpRows
namespace Go.Proofs.YtnlmlcfipbnpgaaGreatDoor.Ab
open Go Go.AI
set_option maxRecDepth 100000
namespace InterpRows
theorem run_0 : (p 0) = true := by kernel_rfl
theorem run_5 : (p 5) = true := by kernel_rfl
theorem run_10 : (p 10) = true := by kernel_rfl
theorem run_15 : (p 15) = true := by kernel_rfl
theorem run_20 : (p 20) = true := by kernel_rfl
theorem run_25 : (p 25) = true := by kernel_rfl
theorem run_30 : (p 30) = true := by kernel_rfl
end InterpRows
end Go.Proofs.YtnlmlcfipbnpgaaGreatDoor.Ab
