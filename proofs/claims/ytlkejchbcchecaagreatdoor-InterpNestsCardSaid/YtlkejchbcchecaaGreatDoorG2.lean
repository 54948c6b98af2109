/- The rules,the contracts,the plain laws that lead to the statement. Own work. Condition: what each theorem names. -/
import Derived.Test.YtlkejchbcchecaaGreatDoorG1
set_option linter.all false
set_option linter.unusedVariables false
set_option linter.unusedSimpArgs false
set_option linter.unusedSectionVars false
set_option maxRecDepth 100000
set_option maxHeartbeats 4000000
open Nat renaming reduceAdd→rA,reduceMul→rB,reduceLT→rC,reduceLeDiff→rD,reduceEqDiff→rE
open Int renaming reduceLT→rF,reduceLE→rG,reduceEq→rH,reduceToNat→rI
namespace Go.Proofs.YtlkejchbcchecaaGreatDoor.Ab
open Go Go.AI
theorem tr0:isTree 0 (runT 0)=true:=by kernel_rfl
theorem tr1:isTree 1 (runT 1)=true:=by kernel_rfl
theorem tr2:isTree 2 (runT 2)=true:=by kernel_rfl
theorem tr3:isTree 3 (runT 3)=true:=by kernel_rfl
theorem tr4:isTree 4 (runT 4)=true:=by kernel_rfl
end Go.Proofs.YtlkejchbcchecaaGreatDoor.Ab
