/-
  DERIVED. GIVEN WITH THE SEED: THE CARDS: each row of YtoaankpddboioaaGreatDoorRows.lean that lists a variable, with what it lists TIED to the program's text (the seventh form; the later family's looks); each row that meets fmt, with fmt's text TOLD by the authors' own Lean function (tested against real Go, not proved from fmt's source: count such statements apart). THE CARD IS WHAT COUNTS. Prove the row's statement (the work); the ties are given (YtoaankpddboioaaGreatDoorTie.lean); close each card by the builder's one call (the guide's Derived/Test/ToyasCard.lean, 'card_holds'). Laid BY PROGRAM, IN A SANDBOX (cutbox-door.mjs). By AI agents, Wed Nov 11 2026. No macro, syntax, notation, axiom, sorry.
-/
import Derived.Test.YtoaankpddboioaaGreatDoorRows
import GoSem.ClaimSeven
namespace Go.Proofs.YtoaankpddboioaaGreatDoor
namespace Rows

/-- THE TIED CARD OF 'spruelaw16.InterpRows'. -/
def interpRowsCard : Claim7 := { stood := { row := interpRowsRow, standIns := [], harness := (true, "ebd97c23807507720a4de2be02c440c85806571e23ed46cb1478682633879ab8"), looks := false }, kinds := [], alts := [], laidByText := true, laidKinds := [.data, .data, .data], laidTests := true, laidLooks := .later }
def InterpRowsCardSaid : Prop := Claim7.holds Tryz.pinned (.plain (OpenSpec.ofChange interpRowsSpec)) interpRowsCard

/-- THE TIED CARD OF 'spruelaw16.InterpOrder'. -/
def interpOrderCard : Claim7 := { stood := { row := interpOrderRow, standIns := [], harness := (true, "ebd97c23807507720a4de2be02c440c85806571e23ed46cb1478682633879ab8"), looks := false }, kinds := [], alts := [], laidByText := true, laidKinds := [.data, .data, .data], laidTests := true, laidLooks := .later }
def InterpOrderCardSaid : Prop := Claim7.holds Tryz.pinned (.plain (OpenSpec.ofChange interpOrderSpec)) interpOrderCard

/-- THE TIED CARD OF 'spruelaw16.InterpFails'. -/
def interpFailsCard : Claim7 := { stood := { row := interpFailsRow, standIns := [], harness := (true, "ebd97c23807507720a4de2be02c440c85806571e23ed46cb1478682633879ab8"), looks := false }, kinds := [], alts := [], laidByText := true, laidKinds := [.data, .data, .data], laidTests := true, laidLooks := .later }
def InterpFailsCardSaid : Prop := Claim7.holds Tryz.pinned (.plain (OpenSpec.ofChange interpFailsSpec)) interpFailsCard

/-- THE TIED CARD OF 'spruelaw16.InterpArgs'. -/
def interpArgsCard : Claim7 := { stood := { row := interpArgsRow, standIns := [], harness := (true, "ebd97c23807507720a4de2be02c440c85806571e23ed46cb1478682633879ab8"), looks := false }, kinds := [], alts := [], laidByText := true, laidKinds := [.data, .data, .data], laidTests := true, laidLooks := .later }
def InterpArgsCardSaid : Prop := Claim7.holds Tryz.pinned (.plain (OpenSpec.ofChange interpArgsSpec)) interpArgsCard

/-- THE TIED CARD OF 'spruelaw16.InterpDeep'. -/
def interpDeepCard : Claim7 := { stood := { row := interpDeepRow, standIns := [], harness := (true, "ebd97c23807507720a4de2be02c440c85806571e23ed46cb1478682633879ab8"), looks := false }, kinds := [], alts := [], laidByText := true, laidKinds := [.data, .data, .data], laidTests := true, laidLooks := .later }
def InterpDeepCardSaid : Prop := Claim7.holds Tryz.pinned (.plain (OpenSpec.ofChange interpDeepSpec)) interpDeepCard

/-- THE TIED CARD OF 'spruelaw16.InterpRanges'. -/
def interpRangesCard : Claim7 := { stood := { row := interpRangesRow, standIns := [], harness := (true, "ebd97c23807507720a4de2be02c440c85806571e23ed46cb1478682633879ab8"), looks := false }, kinds := [], alts := [], laidByText := true, laidKinds := [.data, .data, .data], laidTests := true, laidLooks := .later }
def InterpRangesCardSaid : Prop := Claim7.holds Tryz.pinned (.plain (OpenSpec.ofChange interpRangesSpec)) interpRangesCard

/-- THE TIED CARD OF 'spruelaw16.InterpVars'. -/
def interpVarsCard : Claim7 := { stood := { row := interpVarsRow, standIns := [], harness := (true, "ebd97c23807507720a4de2be02c440c85806571e23ed46cb1478682633879ab8"), looks := false }, kinds := [], alts := [], laidByText := true, laidKinds := [.data, .data, .data], laidTests := true, laidLooks := .later }
def InterpVarsCardSaid : Prop := Claim7.holds Tryz.pinned (.plain (OpenSpec.ofChange interpVarsSpec)) interpVarsCard

/-- THE TIED CARD OF 'spruelaw16.InterpNests'. -/
def interpNestsCard : Claim7 := { stood := { row := interpNestsRow, standIns := [], harness := (true, "ebd97c23807507720a4de2be02c440c85806571e23ed46cb1478682633879ab8"), looks := false }, kinds := [], alts := [], laidByText := true, laidKinds := [.data, .data, .data], laidTests := true, laidLooks := .later }
def InterpNestsCardSaid : Prop := Claim7.holds Tryz.pinned (.plain (OpenSpec.ofChange interpNestsSpec)) interpNestsCard

/-- THE SECOND FORM's CARD OF 'spruelaw16.InterpRows'. -/
def interpRowsUptoCard : Claim7 := { stood := { row := interpRowsUptoRow, standIns := [], harness := (true, "ebd97c23807507720a4de2be02c440c85806571e23ed46cb1478682633879ab8"), looks := false }, kinds := [], alts := [], laidByText := true, laidKinds := [.data, .data, .data], laidTests := true, laidLooks := .later }
def InterpRowsUptoCardSaid : Prop := Claim7.holds Tryz.pinned (.plain (OpenSpec.upto interpRowsSpec)) interpRowsUptoCard

/-- THE SECOND FORM's CARD OF 'spruelaw16.InterpOrder'. -/
def interpOrderUptoCard : Claim7 := { stood := { row := interpOrderUptoRow, standIns := [], harness := (true, "ebd97c23807507720a4de2be02c440c85806571e23ed46cb1478682633879ab8"), looks := false }, kinds := [], alts := [], laidByText := true, laidKinds := [.data, .data, .data], laidTests := true, laidLooks := .later }
def InterpOrderUptoCardSaid : Prop := Claim7.holds Tryz.pinned (.plain (OpenSpec.upto interpOrderSpec)) interpOrderUptoCard

/-- THE SECOND FORM's CARD OF 'spruelaw16.InterpFails'. -/
def interpFailsUptoCard : Claim7 := { stood := { row := interpFailsUptoRow, standIns := [], harness := (true, "ebd97c23807507720a4de2be02c440c85806571e23ed46cb1478682633879ab8"), looks := false }, kinds := [], alts := [], laidByText := true, laidKinds := [.data, .data, .data], laidTests := true, laidLooks := .later }
def InterpFailsUptoCardSaid : Prop := Claim7.holds Tryz.pinned (.plain (OpenSpec.upto interpFailsSpec)) interpFailsUptoCard

/-- THE SECOND FORM's CARD OF 'spruelaw16.InterpArgs'. -/
def interpArgsUptoCard : Claim7 := { stood := { row := interpArgsUptoRow, standIns := [], harness := (true, "ebd97c23807507720a4de2be02c440c85806571e23ed46cb1478682633879ab8"), looks := false }, kinds := [], alts := [], laidByText := true, laidKinds := [.data, .data, .data], laidTests := true, laidLooks := .later }
def InterpArgsUptoCardSaid : Prop := Claim7.holds Tryz.pinned (.plain (OpenSpec.upto interpArgsSpec)) interpArgsUptoCard

/-- THE SECOND FORM's CARD OF 'spruelaw16.InterpDeep'. -/
def interpDeepUptoCard : Claim7 := { stood := { row := interpDeepUptoRow, standIns := [], harness := (true, "ebd97c23807507720a4de2be02c440c85806571e23ed46cb1478682633879ab8"), looks := false }, kinds := [], alts := [], laidByText := true, laidKinds := [.data, .data, .data], laidTests := true, laidLooks := .later }
def InterpDeepUptoCardSaid : Prop := Claim7.holds Tryz.pinned (.plain (OpenSpec.upto interpDeepSpec)) interpDeepUptoCard

/-- THE SECOND FORM's CARD OF 'spruelaw16.InterpRanges'. -/
def interpRangesUptoCard : Claim7 := { stood := { row := interpRangesUptoRow, standIns := [], harness := (true, "ebd97c23807507720a4de2be02c440c85806571e23ed46cb1478682633879ab8"), looks := false }, kinds := [], alts := [], laidByText := true, laidKinds := [.data, .data, .data], laidTests := true, laidLooks := .later }
def InterpRangesUptoCardSaid : Prop := Claim7.holds Tryz.pinned (.plain (OpenSpec.upto interpRangesSpec)) interpRangesUptoCard

/-- THE SECOND FORM's CARD OF 'spruelaw16.InterpVars'. -/
def interpVarsUptoCard : Claim7 := { stood := { row := interpVarsUptoRow, standIns := [], harness := (true, "ebd97c23807507720a4de2be02c440c85806571e23ed46cb1478682633879ab8"), looks := false }, kinds := [], alts := [], laidByText := true, laidKinds := [.data, .data, .data], laidTests := true, laidLooks := .later }
def InterpVarsUptoCardSaid : Prop := Claim7.holds Tryz.pinned (.plain (OpenSpec.upto interpVarsSpec)) interpVarsUptoCard

/-- THE SECOND FORM's CARD OF 'spruelaw16.InterpNests'. -/
def interpNestsUptoCard : Claim7 := { stood := { row := interpNestsUptoRow, standIns := [], harness := (true, "ebd97c23807507720a4de2be02c440c85806571e23ed46cb1478682633879ab8"), looks := false }, kinds := [], alts := [], laidByText := true, laidKinds := [.data, .data, .data], laidTests := true, laidLooks := .later }
def InterpNestsUptoCardSaid : Prop := Claim7.holds Tryz.pinned (.plain (OpenSpec.upto interpNestsSpec)) interpNestsUptoCard
end Rows
end Go.Proofs.YtoaankpddboioaaGreatDoor
