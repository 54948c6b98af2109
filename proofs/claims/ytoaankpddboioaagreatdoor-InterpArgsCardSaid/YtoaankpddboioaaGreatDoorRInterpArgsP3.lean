/- 'InterpArgs' evaluated, part 3. Own work; no condition. -/
import Derived.Test.YtoaankpddboioaaGreatDoorRInterpArgs
namespace Go.Proofs.YtoaankpddboioaaGreatDoor.Ab
open Go Go.AI
set_option maxRecDepth 100000
namespace InterpArgs
theorem run_3 : (p 3) = true := by kernel_rfl
theorem run_7 : (p 7) = true := by kernel_rfl
end InterpArgs
end Go.Proofs.YtoaankpddboioaaGreatDoor.Ab
