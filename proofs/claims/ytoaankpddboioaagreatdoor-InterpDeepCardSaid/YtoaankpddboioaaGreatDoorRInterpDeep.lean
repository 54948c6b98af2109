/- 'InterpDeep' evaluated in each of its cases, by the abstract interpreter. Own work; no condition. -/
import Derived.Test.YtoaankpddboioaaGreatDoorTabD
namespace Go.Proofs.YtoaankpddboioaaGreatDoor.Ab
open Go Go.AI
set_option maxRecDepth 100000
namespace InterpDeep
def args_lo (b1 : Bool) : List TVal := [.pv (.sym .i64 0 (.ofNat 0) (-9223372036854775808) (.ofNat 0)), .pv (.bool b1)]
def args_hi (b1 : Bool) : List TVal := [.pv (.sym .i64 0 (.ofNat 0) (.ofNat 12) 9223372036854775807), .pv (.bool b1)]
def args_n1 (b1 : Bool) : List TVal := [.pv (.int .i64 (.ofNat 1)), .pv (.bool b1)]
def args_n2 (b1 : Bool) : List TVal := [.pv (.int .i64 (.ofNat 2)), .pv (.bool b1)]
def args_n3 (b1 : Bool) : List TVal := [.pv (.int .i64 (.ofNat 3)), .pv (.bool b1)]
def args_n4 (b1 : Bool) : List TVal := [.pv (.int .i64 (.ofNat 4)), .pv (.bool b1)]
def args_n5 (b1 : Bool) : List TVal := [.pv (.int .i64 (.ofNat 5)), .pv (.bool b1)]
def args_n6 (b1 : Bool) : List TVal := [.pv (.int .i64 (.ofNat 6)), .pv (.bool b1)]
def args_n7 (b1 : Bool) : List TVal := [.pv (.int .i64 (.ofNat 7)), .pv (.bool b1)]
def args_n8 (b1 : Bool) : List TVal := [.pv (.int .i64 (.ofNat 8)), .pv (.bool b1)]
def args_n9 (b1 : Bool) : List TVal := [.pv (.int .i64 (.ofNat 9)), .pv (.bool b1)]
def args_n10 (b1 : Bool) : List TVal := [.pv (.int .i64 (.ofNat 10)), .pv (.bool b1)]
def args_n11 (b1 : Bool) : List TVal := [.pv (.int .i64 (.ofNat 11)), .pv (.bool b1)]
theorem run_lo_true : okB (machU blks.get (orS (fun _ _ _ => none) (SI 139)) 100000 7 0 0 (args_lo true) h0) = true := by kernel_rfl
theorem run_lo_false : okB (machU blks.get (orS (fun _ _ _ => none) (SI 139)) 100000 7 0 0 (args_lo false) h0) = true := by kernel_rfl
theorem run_hi_true : okB (machU blks.get (orS (fun _ _ _ => none) (SI 139)) 100000 7 0 0 (args_hi true) h0) = true := by kernel_rfl
theorem run_hi_false : okB (machU blks.get (orS (fun _ _ _ => none) (SI 139)) 100000 7 0 0 (args_hi false) h0) = true := by kernel_rfl
theorem run_n1_true : okB (machU blks.get (orS (fun _ _ _ => none) (SI 139)) 100000 7 0 0 (args_n1 true) h0) = true := by kernel_rfl
theorem run_n1_false : okB (machU blks.get (orS (fun _ _ _ => none) (SI 139)) 100000 7 0 0 (args_n1 false) h0) = true := by kernel_rfl
theorem run_n2_true : okB (machU blks.get (orS (fun _ _ _ => none) (SI 139)) 100000 7 0 0 (args_n2 true) h0) = true := by kernel_rfl
theorem run_n2_false : okB (machU blks.get (orS (fun _ _ _ => none) (SI 139)) 100000 7 0 0 (args_n2 false) h0) = true := by kernel_rfl
theorem run_n3_true : okB (machU blks.get (orS (fun _ _ _ => none) (SI 139)) 100000 7 0 0 (args_n3 true) h0) = true := by kernel_rfl
theorem run_n3_false : okB (machU blks.get (orS (fun _ _ _ => none) (SI 139)) 100000 7 0 0 (args_n3 false) h0) = true := by kernel_rfl
theorem run_n4_true : okB (machU blks.get (orS (fun _ _ _ => none) (SI 139)) 100000 7 0 0 (args_n4 true) h0) = true := by kernel_rfl
theorem run_n4_false : okB (machU blks.get (orS (fun _ _ _ => none) (SI 139)) 100000 7 0 0 (args_n4 false) h0) = true := by kernel_rfl
theorem run_n5_true : okB (machU blks.get (orS (fun _ _ _ => none) (SI 139)) 100000 7 0 0 (args_n5 true) h0) = true := by kernel_rfl
theorem run_n5_false : okB (machU blks.get (orS (fun _ _ _ => none) (SI 139)) 100000 7 0 0 (args_n5 false) h0) = true := by kernel_rfl
theorem run_n6_true : okB (machU blks.get (orS (fun _ _ _ => none) (SI 139)) 100000 7 0 0 (args_n6 true) h0) = true := by kernel_rfl
theorem run_n6_false : okB (machU blks.get (orS (fun _ _ _ => none) (SI 139)) 100000 7 0 0 (args_n6 false) h0) = true := by kernel_rfl
theorem run_n7_true : okB (machU blks.get (orS (fun _ _ _ => none) (SI 139)) 100000 7 0 0 (args_n7 true) h0) = true := by kernel_rfl
theorem run_n7_false : okB (machU blks.get (orS (fun _ _ _ => none) (SI 139)) 100000 7 0 0 (args_n7 false) h0) = true := by kernel_rfl
theorem run_n8_true : okB (machU blks.get (orS (fun _ _ _ => none) (SI 139)) 100000 7 0 0 (args_n8 true) h0) = true := by kernel_rfl
theorem run_n8_false : okB (machU blks.get (orS (fun _ _ _ => none) (SI 139)) 100000 7 0 0 (args_n8 false) h0) = true := by kernel_rfl
theorem run_n9_true : okB (machU blks.get (orS (fun _ _ _ => none) (SI 139)) 100000 7 0 0 (args_n9 true) h0) = true := by kernel_rfl
theorem run_n9_false : okB (machU blks.get (orS (fun _ _ _ => none) (SI 139)) 100000 7 0 0 (args_n9 false) h0) = true := by kernel_rfl
theorem run_n10_true : okB (machU blks.get (orS (fun _ _ _ => none) (SI 139)) 100000 7 0 0 (args_n10 true) h0) = true := by kernel_rfl
theorem run_n10_false : okB (machU blks.get (orS (fun _ _ _ => none) (SI 139)) 100000 7 0 0 (args_n10 false) h0) = true := by kernel_rfl
theorem run_n11_true : okB (machU blks.get (orS (fun _ _ _ => none) (SI 139)) 100000 7 0 0 (args_n11 true) h0) = true := by kernel_rfl
theorem run_n11_false : okB (machU blks.get (orS (fun _ _ _ => none) (SI 139)) 100000 7 0 0 (args_n11 false) h0) = true := by kernel_rfl
end InterpDeep
end Go.Proofs.YtoaankpddboioaaGreatDoor.Ab
