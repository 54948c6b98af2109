/- 'CallsTurns' evaluated, part 3. Own work; no condition. -/
import Derived.Test.YtkkbfljipfndgaaDoorRCallsTurns
namespace Go.Proofs.YtkkbfljipfndgaaDoor.Ab
open Go Go.AI
set_option maxRecDepth 100000
namespace CallsTurns
theorem run_0_3 : (((List.range 20).all fun r2 => p 0 3 r2)) = true := by kernel_rfl
theorem run_0_7 : (((List.range 20).all fun r2 => p 0 7 r2)) = true := by kernel_rfl
theorem run_0_11 : (((List.range 20).all fun r2 => p 0 11 r2)) = true := by kernel_rfl
theorem run_1_3 : (((List.range 20).all fun r2 => p 1 3 r2)) = true := by kernel_rfl
theorem run_1_7 : (((List.range 20).all fun r2 => p 1 7 r2)) = true := by kernel_rfl
theorem run_1_11 : (((List.range 20).all fun r2 => p 1 11 r2)) = true := by kernel_rfl
theorem run_2_3 : (((List.range 20).all fun r2 => p 2 3 r2)) = true := by kernel_rfl
theorem run_2_7 : (((List.range 20).all fun r2 => p 2 7 r2)) = true := by kernel_rfl
theorem run_2_11 : (((List.range 20).all fun r2 => p 2 11 r2)) = true := by kernel_rfl
theorem run_3_3 : (((List.range 20).all fun r2 => p 3 3 r2)) = true := by kernel_rfl
theorem run_3_7 : (((List.range 20).all fun r2 => p 3 7 r2)) = true := by kernel_rfl
theorem run_3_11 : (((List.range 20).all fun r2 => p 3 11 r2)) = true := by kernel_rfl
theorem run_4_3 : (((List.range 20).all fun r2 => p 4 3 r2)) = true := by kernel_rfl
theorem run_4_7 : (((List.range 20).all fun r2 => p 4 7 r2)) = true := by kernel_rfl
theorem run_4_11 : (((List.range 20).all fun r2 => p 4 11 r2)) = true := by kernel_rfl
end CallsTurns
end Go.Proofs.YtkkbfljipfndgaaDoor.Ab
