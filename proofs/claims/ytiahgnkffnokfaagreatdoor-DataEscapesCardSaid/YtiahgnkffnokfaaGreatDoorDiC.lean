/- The program's reader of values: a number. -/
import Derived.Test.YtiahgnkffnokfaaGreatDoorDiB
set_option linter.all false
set_option linter.unusedVariables false
set_option linter.unusedSimpArgs false
set_option maxRecDepth 100000
set_option maxHeartbeats 4000000
namespace Go.Proofs.YtiahgnkffnokfaaGreatDoor.Ab
open Go Go.AI
abbrev Z6 : List Cell := [.p (.int .i64 0), .p (.bool false), .p (.int .i64 0), .p (.str []), .p .nilslice, .p .nilslice]
theorem u48 {β : Type} {k : TVal → Heap → Option β} {h : Heap} {d : Nat} (r : Ref) (s w : List UInt8) (hg : h.get r = some (rO s 0)) : vcall Om (.v (.c (.func 48 []))) [.v (.c (.ptr r 0)), kS w] h d k = k (kB (decide (s.take w.length = w))) (h.put r (rO (if s.take w.length = w then s.drop w.length else s) 0)) :=
 vcall_p 48 r 0 [] [kS w] _ _ _ rfl rfl hg (plain_rO _ _) (plain_rO _ _) rfl (take48 s w)
end Go.Proofs.YtiahgnkffnokfaaGreatDoor.Ab
