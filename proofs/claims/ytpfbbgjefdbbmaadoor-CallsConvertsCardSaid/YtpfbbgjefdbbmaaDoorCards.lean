/-
  DERIVED. GIVEN WITH THE SEED: THE CARDS: each row of YtpfbbgjefdbbmaaDoorRows.lean that lists a variable, with what it lists TIED to the program's text (the seventh form; the later family's looks); each row that meets fmt, with fmt's text TOLD by the authors' own Lean function (tested against real Go, not proved from fmt's source: count such statements apart). THE CARD IS WHAT COUNTS. Prove the row's statement (the work); the ties are given (YtpfbbgjefdbbmaaDoorTie.lean); close each card by the builder's one call (the guide's Derived/Test/ToyasCard.lean, 'card_holds'). Laid BY PROGRAM, IN A SANDBOX (cutbox-door.mjs). By AI agents, Wed Nov 11 2026. No macro, syntax, notation, axiom, sorry.
-/
import Derived.Test.YtpfbbgjefdbbmaaDoorRows
import GoSem.ClaimSeven
namespace Go.Proofs.YtpfbbgjefdbbmaaDoor
namespace Rows

/-- THE TIED CARD OF 'spruelaw15.CallsNumbers'. -/
def callsNumbersCard : Claim7 := { stood := { row := callsNumbersRow, standIns := [], harness := (true, "5a4806ea22d77f99028f7431b877be27194fc298a4ba2a2e2716f93c7468d824"), looks := false }, kinds := [], alts := [], laidByText := true, laidKinds := [.data, .data, .data], laidTests := true, laidLooks := .later }
def CallsNumbersCardSaid : Prop := Claim7.holds Tryd.pinned (.plain (OpenSpec.ofChange callsNumbersSpec)) callsNumbersCard

/-- THE TIED CARD OF 'spruelaw15.CallsShifts'. -/
def callsShiftsCard : Claim7 := { stood := { row := callsShiftsRow, standIns := [], harness := (true, "5a4806ea22d77f99028f7431b877be27194fc298a4ba2a2e2716f93c7468d824"), looks := false }, kinds := [], alts := [], laidByText := true, laidKinds := [.data, .data, .data], laidTests := true, laidLooks := .later }
def CallsShiftsCardSaid : Prop := Claim7.holds Tryd.pinned (.plain (OpenSpec.ofChange callsShiftsSpec)) callsShiftsCard

/-- THE TIED CARD OF 'spruelaw15.CallsConverts'. -/
def callsConvertsCard : Claim7 := { stood := { row := callsConvertsRow, standIns := [], harness := (true, "5a4806ea22d77f99028f7431b877be27194fc298a4ba2a2e2716f93c7468d824"), looks := false }, kinds := [], alts := [], laidByText := true, laidKinds := [.data, .data, .data], laidTests := true, laidLooks := .later }
def CallsConvertsCardSaid : Prop := Claim7.holds Tryd.pinned (.plain (OpenSpec.ofChange callsConvertsSpec)) callsConvertsCard

/-- THE TIED CARD OF 'spruelaw15.CallsPlaces'. -/
def callsPlacesCard : Claim7 := { stood := { row := callsPlacesRow, standIns := [], harness := (true, "5a4806ea22d77f99028f7431b877be27194fc298a4ba2a2e2716f93c7468d824"), looks := false }, kinds := [], alts := [], laidByText := true, laidKinds := [.data, .data, .data], laidTests := true, laidLooks := .later }
def CallsPlacesCardSaid : Prop := Claim7.holds Tryd.pinned (.plain (OpenSpec.ofChange callsPlacesSpec)) callsPlacesCard

/-- THE TIED CARD OF 'spruelaw15.CallsTexts'. -/
def callsTextsCard : Claim7 := { stood := { row := callsTextsRow, standIns := [], harness := (true, "5a4806ea22d77f99028f7431b877be27194fc298a4ba2a2e2716f93c7468d824"), looks := false }, kinds := [], alts := [], laidByText := true, laidKinds := [.data, .data, .data], laidTests := true, laidLooks := .later }
def CallsTextsCardSaid : Prop := Claim7.holds Tryd.pinned (.plain (OpenSpec.ofChange callsTextsSpec)) callsTextsCard

/-- THE TIED CARD OF 'spruelaw15.CallsScripts'. -/
def callsScriptsCard : Claim7 := { stood := { row := callsScriptsRow, standIns := [], harness := (true, "5a4806ea22d77f99028f7431b877be27194fc298a4ba2a2e2716f93c7468d824"), looks := false }, kinds := [], alts := [], laidByText := true, laidKinds := [.data, .data, .data], laidTests := true, laidLooks := .later }
def CallsScriptsCardSaid : Prop := Claim7.holds Tryd.pinned (.plain (OpenSpec.ofChange callsScriptsSpec)) callsScriptsCard

/-- THE SECOND FORM's CARD OF 'spruelaw15.CallsNumbers'. -/
def callsNumbersUptoCard : Claim7 := { stood := { row := callsNumbersUptoRow, standIns := [], harness := (true, "5a4806ea22d77f99028f7431b877be27194fc298a4ba2a2e2716f93c7468d824"), looks := false }, kinds := [], alts := [], laidByText := true, laidKinds := [.data, .data, .data], laidTests := true, laidLooks := .later }
def CallsNumbersUptoCardSaid : Prop := Claim7.holds Tryd.pinned (.plain (OpenSpec.upto callsNumbersSpec)) callsNumbersUptoCard

/-- THE SECOND FORM's CARD OF 'spruelaw15.CallsShifts'. -/
def callsShiftsUptoCard : Claim7 := { stood := { row := callsShiftsUptoRow, standIns := [], harness := (true, "5a4806ea22d77f99028f7431b877be27194fc298a4ba2a2e2716f93c7468d824"), looks := false }, kinds := [], alts := [], laidByText := true, laidKinds := [.data, .data, .data], laidTests := true, laidLooks := .later }
def CallsShiftsUptoCardSaid : Prop := Claim7.holds Tryd.pinned (.plain (OpenSpec.upto callsShiftsSpec)) callsShiftsUptoCard

/-- THE SECOND FORM's CARD OF 'spruelaw15.CallsConverts'. -/
def callsConvertsUptoCard : Claim7 := { stood := { row := callsConvertsUptoRow, standIns := [], harness := (true, "5a4806ea22d77f99028f7431b877be27194fc298a4ba2a2e2716f93c7468d824"), looks := false }, kinds := [], alts := [], laidByText := true, laidKinds := [.data, .data, .data], laidTests := true, laidLooks := .later }
def CallsConvertsUptoCardSaid : Prop := Claim7.holds Tryd.pinned (.plain (OpenSpec.upto callsConvertsSpec)) callsConvertsUptoCard

/-- THE SECOND FORM's CARD OF 'spruelaw15.CallsPlaces'. -/
def callsPlacesUptoCard : Claim7 := { stood := { row := callsPlacesUptoRow, standIns := [], harness := (true, "5a4806ea22d77f99028f7431b877be27194fc298a4ba2a2e2716f93c7468d824"), looks := false }, kinds := [], alts := [], laidByText := true, laidKinds := [.data, .data, .data], laidTests := true, laidLooks := .later }
def CallsPlacesUptoCardSaid : Prop := Claim7.holds Tryd.pinned (.plain (OpenSpec.upto callsPlacesSpec)) callsPlacesUptoCard

/-- THE SECOND FORM's CARD OF 'spruelaw15.CallsTexts'. -/
def callsTextsUptoCard : Claim7 := { stood := { row := callsTextsUptoRow, standIns := [], harness := (true, "5a4806ea22d77f99028f7431b877be27194fc298a4ba2a2e2716f93c7468d824"), looks := false }, kinds := [], alts := [], laidByText := true, laidKinds := [.data, .data, .data], laidTests := true, laidLooks := .later }
def CallsTextsUptoCardSaid : Prop := Claim7.holds Tryd.pinned (.plain (OpenSpec.upto callsTextsSpec)) callsTextsUptoCard

/-- THE SECOND FORM's CARD OF 'spruelaw15.CallsScripts'. -/
def callsScriptsUptoCard : Claim7 := { stood := { row := callsScriptsUptoRow, standIns := [], harness := (true, "5a4806ea22d77f99028f7431b877be27194fc298a4ba2a2e2716f93c7468d824"), looks := false }, kinds := [], alts := [], laidByText := true, laidKinds := [.data, .data, .data], laidTests := true, laidLooks := .later }
def CallsScriptsUptoCardSaid : Prop := Claim7.holds Tryd.pinned (.plain (OpenSpec.upto callsScriptsSpec)) callsScriptsUptoCard
end Rows
end Go.Proofs.YtpfbbgjefdbbmaaDoor
