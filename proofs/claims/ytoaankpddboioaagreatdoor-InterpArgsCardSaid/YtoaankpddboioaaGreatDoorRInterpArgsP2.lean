/- 'InterpArgs' evaluated, part 2. Own work; no condition. -/
import Derived.Test.YtoaankpddboioaaGreatDoorRInterpArgs
namespace Go.Proofs.YtoaankpddboioaaGreatDoor.Ab
open Go Go.AI
set_option maxRecDepth 100000
namespace InterpArgs
theorem run_2 : (p 2) = true := by kernel_rfl
theorem run_6 : (p 6) = true := by kernel_rfl
end InterpArgs
end Go.Proofs.YtoaankpddboioaaGreatDoor.Ab
