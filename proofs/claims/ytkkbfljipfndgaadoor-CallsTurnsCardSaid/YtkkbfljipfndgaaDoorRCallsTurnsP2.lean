/- 'CallsTurns' evaluated, part 2. Own work; no condition. -/
import Derived.Test.YtkkbfljipfndgaaDoorRCallsTurns
namespace Go.Proofs.YtkkbfljipfndgaaDoor.Ab
open Go Go.AI
set_option maxRecDepth 100000
namespace CallsTurns
theorem run_0_2 : (((List.range 20).all fun r2 => p 0 2 r2)) = true := by kernel_rfl
theorem run_0_6 : (((List.range 20).all fun r2 => p 0 6 r2)) = true := by kernel_rfl
theorem run_0_10 : (((List.range 20).all fun r2 => p 0 10 r2)) = true := by kernel_rfl
theorem run_1_2 : (((List.range 20).all fun r2 => p 1 2 r2)) = true := by kernel_rfl
theorem run_1_6 : (((List.range 20).all fun r2 => p 1 6 r2)) = true := by kernel_rfl
theorem run_1_10 : (((List.range 20).all fun r2 => p 1 10 r2)) = true := by kernel_rfl
theorem run_2_2 : (((List.range 20).all fun r2 => p 2 2 r2)) = true := by kernel_rfl
theorem run_2_6 : (((List.range 20).all fun r2 => p 2 6 r2)) = true := by kernel_rfl
theorem run_2_10 : (((List.range 20).all fun r2 => p 2 10 r2)) = true := by kernel_rfl
theorem run_3_2 : (((List.range 20).all fun r2 => p 3 2 r2)) = true := by kernel_rfl
theorem run_3_6 : (((List.range 20).all fun r2 => p 3 6 r2)) = true := by kernel_rfl
theorem run_3_10 : (((List.range 20).all fun r2 => p 3 10 r2)) = true := by kernel_rfl
theorem run_4_2 : (((List.range 20).all fun r2 => p 4 2 r2)) = true := by kernel_rfl
theorem run_4_6 : (((List.range 20).all fun r2 => p 4 6 r2)) = true := by kernel_rfl
theorem run_4_10 : (((List.range 20).all fun r2 => p 4 10 r2)) = true := by kernel_rfl
end CallsTurns
end Go.Proofs.YtkkbfljipfndgaaDoor.Ab
