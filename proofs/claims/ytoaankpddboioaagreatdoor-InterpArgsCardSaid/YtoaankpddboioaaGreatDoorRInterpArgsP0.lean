/- 'InterpArgs' evaluated, part 0. Own work; no condition. -/
import Derived.Test.YtoaankpddboioaaGreatDoorRInterpArgs
namespace Go.Proofs.YtoaankpddboioaaGreatDoor.Ab
open Go Go.AI
set_option maxRecDepth 100000
namespace InterpArgs
theorem run_0 : (p 0) = true := by kernel_rfl
theorem run_4 : (p 4) = true := by kernel_rfl
end InterpArgs
end Go.Proofs.YtoaankpddboioaaGreatDoor.Ab
