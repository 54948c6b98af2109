/- The oracle of DataBounds: short texts in quotes, checks of lists of nulls. -/
import Derived.Test.YtiahgnkffnokfaaGreatDoorDjB
import Derived.Test.YtiahgnkffnokfaaGreatDoorQuO
set_option linter.all false
set_option linter.unusedVariables false
set_option linter.unusedSimpArgs false
namespace Go.Proofs.YtiahgnkffnokfaaGreatDoor.Ab
open Go Go.AI
noncomputable def SLayC : Oracle := orS (SQ 31) SChk
theorem SLayC_sound [Sym] (hm : Tryz.prog.follows .mixedOrders = true) : FSound Tryz.prog (globs2 tabs opq) SLayC := orS_sound quote_sound (SChk_sound hm)
end Go.Proofs.YtiahgnkffnokfaaGreatDoor.Ab
