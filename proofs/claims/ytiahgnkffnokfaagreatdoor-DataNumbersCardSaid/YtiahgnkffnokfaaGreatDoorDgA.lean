/- Where the contracts stand: the program's machine; rows of names. -/
import Derived.Test.YtiahgnkffnokfaaGreatDoorTabNW
import Derived.Test.YtiahgnkffnokfaaGreatDoorVtA
import Derived.Test.YtiahgnkffnokfaaGreatDoorQuO
set_option linter.all false
set_option linter.unusedVariables false
set_option linter.unusedSimpArgs false
set_option maxRecDepth 100000
namespace Go.Proofs.YtiahgnkffnokfaaGreatDoor.Ab
open Go Go.AI
noncomputable def S : Oracle := orS (SQ 31) (orS (SI 102) (SJ 32))
noncomputable abbrev W : Mach := lim tab.get S
noncomputable abbrev Om : Oracle := orc S W
abbrev kA (r : List PVal) : TVal := .v (.agg (pcells r))
def withinM (a n : Int) : Int := if a.tmod n < 0 then a.tmod n + n else a.tmod n
theorem withinM_lt (a n : Int) (hn : 0 < n) : 0 ≤ withinM a n ∧ withinM a n < n := by
 have h1 := Int.tmod_lt_of_pos a hn
 have h2 : -n < a.tmod n := by
  have := Int.tmod_lt_of_pos (-a) hn
  rw [Int.neg_tmod] at this; omega
 unfold withinM
 split <;> omega
end Go.Proofs.YtiahgnkffnokfaaGreatDoor.Ab
