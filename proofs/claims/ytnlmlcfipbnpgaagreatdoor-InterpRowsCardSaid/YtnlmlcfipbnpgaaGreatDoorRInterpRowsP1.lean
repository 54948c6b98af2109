/- 'InterpRows' evaluated, part 1. Own work; no condition. -/
import Derived.Test.YtnlmlcfipbnpgaaGreatDoorRInterpRows
namespace Go.Proofs.YtnlmlcfipbnpgaaGreatDoor.Ab
open Go Go.AI
set_option maxRecDepth 100000
namespace InterpRows
theorem run_1 : (p 1) = true := by kernel_rfl
theorem run_6 : (p 6) = true := by kernel_rfl
theorem run_11 : (p 11) = true := by kernel_rfl
theorem run_16 : (p 16) = true := by kernel_rfl
theorem run_21 : (p 21) = true := by kernel_rfl
theorem run_26 : (p 26) = true := by kernel_rfl
theorem run_31 : (p 31) = true := by kernel_rfl
end InterpRows
end Go.Proofs.YtnlmlcfipbnpgaaGreatDoor.Ab
