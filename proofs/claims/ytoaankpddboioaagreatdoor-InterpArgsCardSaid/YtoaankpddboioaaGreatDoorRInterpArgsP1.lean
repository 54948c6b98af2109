/- 'InterpArgs' evaluated, part 1. Own work; no condition. -/
import Derived.Test.YtoaankpddboioaaGreatDoorRInterpArgs
namespace Go.Proofs.YtoaankpddboioaaGreatDoor.Ab
open Go Go.AI
set_option maxRecDepth 100000
namespace InterpArgs
theorem run_1 : (p 1) = true := by kernel_rfl
theorem run_5 : (p 5) = true := by kernel_rfl
end InterpArgs
end Go.Proofs.YtoaankpddboioaaGreatDoor.Ab
