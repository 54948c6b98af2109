/-
  DERIVED. GIVEN WITH THE SEED: THE CARDS: each row of YtlkejchbcchecaaDoorRows.lean that lists a variable, with what it lists TIED to the program's text (the seventh form; the later family's looks); each row that meets fmt, with fmt's text TOLD by the authors' own Lean function (tested against real Go, not proved from fmt's source: count such statements apart). THE CARD IS WHAT COUNTS. Prove the row's statement (the work); the ties are given (YtlkejchbcchecaaDoorTie.lean); close each card by the builder's one call (the guide's Derived/Test/ToyasCard.lean, 'card_holds'). Laid BY PROGRAM, IN A SANDBOX (cutbox-door.mjs). By AI agents, Wed Nov 11 2026. No macro, syntax, notation, axiom, sorry.
-/
import Derived.Test.YtlkejchbcchecaaDoorRows
import GoSem.ClaimSeven
namespace Go.Proofs.YtlkejchbcchecaaDoor
namespace Rows

/-- THE TIED CARD OF 'spruelaw14.FitsPaths'. -/
def fitsPathsCard : Claim7 := { stood := { row := fitsPathsRow, standIns := [], harness := (true, "4acfeb6c50288b6301c614c2578ae4f68a3b048ae142f23d326181810b5df88b"), looks := false }, kinds := [], alts := [], laidByText := true, laidKinds := [.data, .data, .data], laidTests := true, laidLooks := .later }
def FitsPathsCardSaid : Prop := Claim7.holds Tryd.pinned (.plain (OpenSpec.ofChange fitsPathsSpec)) fitsPathsCard

/-- THE TIED CARD OF 'spruelaw14.FitsFills'. -/
def fitsFillsCard : Claim7 := { stood := { row := fitsFillsRow, standIns := [], harness := (true, "4acfeb6c50288b6301c614c2578ae4f68a3b048ae142f23d326181810b5df88b"), looks := false }, kinds := [], alts := [], laidByText := true, laidKinds := [.data, .data, .data], laidTests := true, laidLooks := .later }
def FitsFillsCardSaid : Prop := Claim7.holds Tryd.pinned (.plain (OpenSpec.ofChange fitsFillsSpec)) fitsFillsCard

/-- THE TIED CARD OF 'spruelaw17.RowsWords'. -/
def rowsWordsCard : Claim7 := { stood := { row := rowsWordsRow, standIns := [], harness := (true, "4acfeb6c50288b6301c614c2578ae4f68a3b048ae142f23d326181810b5df88b"), looks := false }, kinds := [], alts := [], laidByText := true, laidKinds := [.data, .data, .data], laidTests := true, laidLooks := .later }
def RowsWordsCardSaid : Prop := Claim7.holds Tryd.pinned (.plain (OpenSpec.ofChange rowsWordsSpec)) rowsWordsCard

/-- THE TIED CARD OF 'spruelaw17.RowsMany'. -/
def rowsManyCard : Claim7 := { stood := { row := rowsManyRow, standIns := [], harness := (true, "4acfeb6c50288b6301c614c2578ae4f68a3b048ae142f23d326181810b5df88b"), looks := false }, kinds := [], alts := [], laidByText := true, laidKinds := [.data, .data, .data], laidTests := true, laidLooks := .later }
def RowsManyCardSaid : Prop := Claim7.holds Tryd.pinned (.plain (OpenSpec.ofChange rowsManySpec)) rowsManyCard

/-- THE TIED CARD OF 'spruelaw17.RowsPack'. -/
def rowsPackCard : Claim7 := { stood := { row := rowsPackRow, standIns := [], harness := (true, "4acfeb6c50288b6301c614c2578ae4f68a3b048ae142f23d326181810b5df88b"), looks := false }, kinds := [], alts := [], laidByText := true, laidKinds := [.data, .data, .data], laidTests := true, laidLooks := .later }
def RowsPackCardSaid : Prop := Claim7.holds Tryd.pinned (.plain (OpenSpec.ofChange rowsPackSpec)) rowsPackCard

/-- THE TIED CARD OF 'spruelaw17.RowsAgain'. -/
def rowsAgainCard : Claim7 := { stood := { row := rowsAgainRow, standIns := [], harness := (true, "4acfeb6c50288b6301c614c2578ae4f68a3b048ae142f23d326181810b5df88b"), looks := false }, kinds := [], alts := [], laidByText := true, laidKinds := [.data, .data, .data], laidTests := true, laidLooks := .later }
def RowsAgainCardSaid : Prop := Claim7.holds Tryd.pinned (.plain (OpenSpec.ofChange rowsAgainSpec)) rowsAgainCard

/-- THE TIED CARD OF 'spruelaw15.CallsPlaces'. -/
def callsPlacesCard : Claim7 := { stood := { row := callsPlacesRow, standIns := [], harness := (true, "4acfeb6c50288b6301c614c2578ae4f68a3b048ae142f23d326181810b5df88b"), looks := false }, kinds := [], alts := [], laidByText := true, laidKinds := [.data, .data, .data], laidTests := true, laidLooks := .later }
def CallsPlacesCardSaid : Prop := Claim7.holds Tryd.pinned (.plain (OpenSpec.ofChange callsPlacesSpec)) callsPlacesCard

/-- THE TIED CARD OF 'spruelaw15.CallsTexts'. -/
def callsTextsCard : Claim7 := { stood := { row := callsTextsRow, standIns := [], harness := (true, "4acfeb6c50288b6301c614c2578ae4f68a3b048ae142f23d326181810b5df88b"), looks := false }, kinds := [], alts := [], laidByText := true, laidKinds := [.data, .data, .data], laidTests := true, laidLooks := .later }
def CallsTextsCardSaid : Prop := Claim7.holds Tryd.pinned (.plain (OpenSpec.ofChange callsTextsSpec)) callsTextsCard

/-- THE TIED CARD OF 'spruelaw15.CallsEvals'. -/
def callsEvalsCard : Claim7 := { stood := { row := callsEvalsRow, standIns := [], harness := (true, "4acfeb6c50288b6301c614c2578ae4f68a3b048ae142f23d326181810b5df88b"), looks := false }, kinds := [], alts := [], laidByText := true, laidKinds := [.data, .data, .data], laidTests := true, laidLooks := .later }
def CallsEvalsCardSaid : Prop := Claim7.holds Tryd.pinned (.plain (OpenSpec.ofChange callsEvalsSpec)) callsEvalsCard

/-- THE TIED CARD OF 'spruelaw15.CallsScripts'. -/
def callsScriptsCard : Claim7 := { stood := { row := callsScriptsRow, standIns := [], harness := (true, "4acfeb6c50288b6301c614c2578ae4f68a3b048ae142f23d326181810b5df88b"), looks := false }, kinds := [], alts := [], laidByText := true, laidKinds := [.data, .data, .data], laidTests := true, laidLooks := .later }
def CallsScriptsCardSaid : Prop := Claim7.holds Tryd.pinned (.plain (OpenSpec.ofChange callsScriptsSpec)) callsScriptsCard

/-- THE SECOND FORM's CARD OF 'spruelaw14.FitsPaths'. -/
def fitsPathsUptoCard : Claim7 := { stood := { row := fitsPathsUptoRow, standIns := [], harness := (true, "4acfeb6c50288b6301c614c2578ae4f68a3b048ae142f23d326181810b5df88b"), looks := false }, kinds := [], alts := [], laidByText := true, laidKinds := [.data, .data, .data], laidTests := true, laidLooks := .later }
def FitsPathsUptoCardSaid : Prop := Claim7.holds Tryd.pinned (.plain (OpenSpec.upto fitsPathsSpec)) fitsPathsUptoCard

/-- THE SECOND FORM's CARD OF 'spruelaw14.FitsFills'. -/
def fitsFillsUptoCard : Claim7 := { stood := { row := fitsFillsUptoRow, standIns := [], harness := (true, "4acfeb6c50288b6301c614c2578ae4f68a3b048ae142f23d326181810b5df88b"), looks := false }, kinds := [], alts := [], laidByText := true, laidKinds := [.data, .data, .data], laidTests := true, laidLooks := .later }
def FitsFillsUptoCardSaid : Prop := Claim7.holds Tryd.pinned (.plain (OpenSpec.upto fitsFillsSpec)) fitsFillsUptoCard

/-- THE SECOND FORM's CARD OF 'spruelaw17.RowsWords'. -/
def rowsWordsUptoCard : Claim7 := { stood := { row := rowsWordsUptoRow, standIns := [], harness := (true, "4acfeb6c50288b6301c614c2578ae4f68a3b048ae142f23d326181810b5df88b"), looks := false }, kinds := [], alts := [], laidByText := true, laidKinds := [.data, .data, .data], laidTests := true, laidLooks := .later }
def RowsWordsUptoCardSaid : Prop := Claim7.holds Tryd.pinned (.plain (OpenSpec.upto rowsWordsSpec)) rowsWordsUptoCard

/-- THE SECOND FORM's CARD OF 'spruelaw17.RowsMany'. -/
def rowsManyUptoCard : Claim7 := { stood := { row := rowsManyUptoRow, standIns := [], harness := (true, "4acfeb6c50288b6301c614c2578ae4f68a3b048ae142f23d326181810b5df88b"), looks := false }, kinds := [], alts := [], laidByText := true, laidKinds := [.data, .data, .data], laidTests := true, laidLooks := .later }
def RowsManyUptoCardSaid : Prop := Claim7.holds Tryd.pinned (.plain (OpenSpec.upto rowsManySpec)) rowsManyUptoCard

/-- THE SECOND FORM's CARD OF 'spruelaw17.RowsPack'. -/
def rowsPackUptoCard : Claim7 := { stood := { row := rowsPackUptoRow, standIns := [], harness := (true, "4acfeb6c50288b6301c614c2578ae4f68a3b048ae142f23d326181810b5df88b"), looks := false }, kinds := [], alts := [], laidByText := true, laidKinds := [.data, .data, .data], laidTests := true, laidLooks := .later }
def RowsPackUptoCardSaid : Prop := Claim7.holds Tryd.pinned (.plain (OpenSpec.upto rowsPackSpec)) rowsPackUptoCard

/-- THE SECOND FORM's CARD OF 'spruelaw17.RowsAgain'. -/
def rowsAgainUptoCard : Claim7 := { stood := { row := rowsAgainUptoRow, standIns := [], harness := (true, "4acfeb6c50288b6301c614c2578ae4f68a3b048ae142f23d326181810b5df88b"), looks := false }, kinds := [], alts := [], laidByText := true, laidKinds := [.data, .data, .data], laidTests := true, laidLooks := .later }
def RowsAgainUptoCardSaid : Prop := Claim7.holds Tryd.pinned (.plain (OpenSpec.upto rowsAgainSpec)) rowsAgainUptoCard

/-- THE SECOND FORM's CARD OF 'spruelaw15.CallsPlaces'. -/
def callsPlacesUptoCard : Claim7 := { stood := { row := callsPlacesUptoRow, standIns := [], harness := (true, "4acfeb6c50288b6301c614c2578ae4f68a3b048ae142f23d326181810b5df88b"), looks := false }, kinds := [], alts := [], laidByText := true, laidKinds := [.data, .data, .data], laidTests := true, laidLooks := .later }
def CallsPlacesUptoCardSaid : Prop := Claim7.holds Tryd.pinned (.plain (OpenSpec.upto callsPlacesSpec)) callsPlacesUptoCard

/-- THE SECOND FORM's CARD OF 'spruelaw15.CallsTexts'. -/
def callsTextsUptoCard : Claim7 := { stood := { row := callsTextsUptoRow, standIns := [], harness := (true, "4acfeb6c50288b6301c614c2578ae4f68a3b048ae142f23d326181810b5df88b"), looks := false }, kinds := [], alts := [], laidByText := true, laidKinds := [.data, .data, .data], laidTests := true, laidLooks := .later }
def CallsTextsUptoCardSaid : Prop := Claim7.holds Tryd.pinned (.plain (OpenSpec.upto callsTextsSpec)) callsTextsUptoCard

/-- THE SECOND FORM's CARD OF 'spruelaw15.CallsEvals'. -/
def callsEvalsUptoCard : Claim7 := { stood := { row := callsEvalsUptoRow, standIns := [], harness := (true, "4acfeb6c50288b6301c614c2578ae4f68a3b048ae142f23d326181810b5df88b"), looks := false }, kinds := [], alts := [], laidByText := true, laidKinds := [.data, .data, .data], laidTests := true, laidLooks := .later }
def CallsEvalsUptoCardSaid : Prop := Claim7.holds Tryd.pinned (.plain (OpenSpec.upto callsEvalsSpec)) callsEvalsUptoCard

/-- THE SECOND FORM's CARD OF 'spruelaw15.CallsScripts'. -/
def callsScriptsUptoCard : Claim7 := { stood := { row := callsScriptsUptoRow, standIns := [], harness := (true, "4acfeb6c50288b6301c614c2578ae4f68a3b048ae142f23d326181810b5df88b"), looks := false }, kinds := [], alts := [], laidByText := true, laidKinds := [.data, .data, .data], laidTests := true, laidLooks := .later }
def CallsScriptsUptoCardSaid : Prop := Claim7.holds Tryd.pinned (.plain (OpenSpec.upto callsScriptsSpec)) callsScriptsUptoCard
end Rows
end Go.Proofs.YtlkejchbcchecaaDoor
