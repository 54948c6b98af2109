/- 'CallsTurns' evaluated, part 1. Own work; no condition. -/
import Derived.Test.YtkkbfljipfndgaaDoorRCallsTurns
namespace Go.Proofs.YtkkbfljipfndgaaDoor.Ab
open Go Go.AI
set_option maxRecDepth 100000
namespace CallsTurns
theorem run_0_1 : (((List.range 20).all fun r2 => p 0 1 r2)) = true := by kernel_rfl
theorem run_0_5 : (((List.range 20).all fun r2 => p 0 5 r2)) = true := by kernel_rfl
theorem run_0_9 : (((List.range 20).all fun r2 => p 0 9 r2)) = true := by kernel_rfl
theorem run_1_1 : (((List.range 20).all fun r2 => p 1 1 r2)) = true := by kernel_rfl
theorem run_1_5 : (((List.range 20).all fun r2 => p 1 5 r2)) = true := by kernel_rfl
theorem run_1_9 : (((List.range 20).all fun r2 => p 1 9 r2)) = true := by kernel_rfl
theorem run_2_1 : (((List.range 20).all fun r2 => p 2 1 r2)) = true := by kernel_rfl
theorem run_2_5 : (((List.range 20).all fun r2 => p 2 5 r2)) = true := by kernel_rfl
theorem run_2_9 : (((List.range 20).all fun r2 => p 2 9 r2)) = true := by kernel_rfl
theorem run_3_1 : (((List.range 20).all fun r2 => p 3 1 r2)) = true := by kernel_rfl
theorem run_3_5 : (((List.range 20).all fun r2 => p 3 5 r2)) = true := by kernel_rfl
theorem run_3_9 : (((List.range 20).all fun r2 => p 3 9 r2)) = true := by kernel_rfl
theorem run_4_1 : (((List.range 20).all fun r2 => p 4 1 r2)) = true := by kernel_rfl
theorem run_4_5 : (((List.range 20).all fun r2 => p 4 5 r2)) = true := by kernel_rfl
theorem run_4_9 : (((List.range 20).all fun r2 => p 4 9 r2)) = true := by kernel_rfl
end CallsTurns
end Go.Proofs.YtkkbfljipfndgaaDoor.Ab
