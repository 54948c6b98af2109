/- The rules,the contracts,the plain laws that lead to the statement. Own work. Condition: what each theorem names. -/
import Derived.Test.YtlkejchbcchecaaGreatDoorG4
set_option linter.all false
set_option linter.unusedVariables false
set_option linter.unusedSimpArgs false
set_option linter.unusedSectionVars false
set_option maxRecDepth 100000
set_option maxHeartbeats 4000000
open Nat renaming reduceAdd→rA,reduceMul→rB,reduceLT→rC,reduceLeDiff→rD,reduceEqDiff→rE
open Int renaming reduceLT→rF,reduceLE→rG,reduceEq→rH,reduceToNat→rI
namespace Go.Proofs.YtlkejchbcchecaaGreatDoor.Ab
open Go Go.AI
theorem tr9:isTree 9 (runT 9)=true:=by kernel_rfl
end Go.Proofs.YtlkejchbcchecaaGreatDoor.Ab
