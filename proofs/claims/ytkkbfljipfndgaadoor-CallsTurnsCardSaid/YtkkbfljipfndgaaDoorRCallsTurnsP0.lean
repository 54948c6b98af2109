/- 'CallsTurns' evaluated, part 0. Own work; no condition. -/
import Derived.Test.YtkkbfljipfndgaaDoorRCallsTurns
namespace Go.Proofs.YtkkbfljipfndgaaDoor.Ab
open Go Go.AI
set_option maxRecDepth 100000
namespace CallsTurns
theorem run_0_0 : (((List.range 20).all fun r2 => p 0 0 r2)) = true := by kernel_rfl
theorem run_0_4 : (((List.range 20).all fun r2 => p 0 4 r2)) = true := by kernel_rfl
theorem run_0_8 : (((List.range 20).all fun r2 => p 0 8 r2)) = true := by kernel_rfl
theorem run_1_0 : (((List.range 20).all fun r2 => p 1 0 r2)) = true := by kernel_rfl
theorem run_1_4 : (((List.range 20).all fun r2 => p 1 4 r2)) = true := by kernel_rfl
theorem run_1_8 : (((List.range 20).all fun r2 => p 1 8 r2)) = true := by kernel_rfl
theorem run_2_0 : (((List.range 20).all fun r2 => p 2 0 r2)) = true := by kernel_rfl
theorem run_2_4 : (((List.range 20).all fun r2 => p 2 4 r2)) = true := by kernel_rfl
theorem run_2_8 : (((List.range 20).all fun r2 => p 2 8 r2)) = true := by kernel_rfl
theorem run_3_0 : (((List.range 20).all fun r2 => p 3 0 r2)) = true := by kernel_rfl
theorem run_3_4 : (((List.range 20).all fun r2 => p 3 4 r2)) = true := by kernel_rfl
theorem run_3_8 : (((List.range 20).all fun r2 => p 3 8 r2)) = true := by kernel_rfl
theorem run_4_0 : (((List.range 20).all fun r2 => p 4 0 r2)) = true := by kernel_rfl
theorem run_4_4 : (((List.range 20).all fun r2 => p 4 4 r2)) = true := by kernel_rfl
theorem run_4_8 : (((List.range 20).all fun r2 => p 4 8 r2)) = true := by kernel_rfl
end CallsTurns
end Go.Proofs.YtkkbfljipfndgaaDoor.Ab
