/-
  DERIVED. GIVEN WITH THE SEED: THE CARDS: each row of YtnlmlcfipbnpgaaGreatDoorRows.lean that lists a variable, with what it lists TIED to the program's text (the seventh form; the later family's looks); each row that meets fmt, with fmt's text TOLD by the authors' own Lean function (tested against real Go, not proved from fmt's source: count such statements apart). THE CARD IS WHAT COUNTS. Prove the row's statement (the work); the ties are given (YtnlmlcfipbnpgaaGreatDoorTie.lean); close each card by the builder's one call (the guide's Derived/Test/ToyasCard.lean, 'card_holds'). Laid BY PROGRAM, IN A SANDBOX (cutbox-door.mjs). By AI agents, Wed Nov 11 2026. No macro, syntax, notation, axiom, sorry.
-/
import Derived.Test.YtnlmlcfipbnpgaaGreatDoorRows
import GoSem.ClaimSeven
namespace Go.Proofs.YtnlmlcfipbnpgaaGreatDoor
namespace Rows

/-- THE TIED CARD OF 'spruelaw3.SchSchemas'. -/
def schSchemasCard : Claim7 := { stood := { row := schSchemasRow, standIns := [], harness := (true, "99195fd4f653f6bedb8364a458722edcd78df067f930f0027c27c3caec651db5"), looks := false }, kinds := [], alts := [], laidByText := true, laidKinds := [.listed, .data], laidTests := true, laidLooks := .later }
def SchSchemasCardSaid : Prop := Claim7.holds Tryz.pinned (.plain (OpenSpec.ofChange schSchemasSpec)) schSchemasCard

/-- THE TIED CARD OF 'spruelaw16.InterpVars'. -/
def interpVarsCard : Claim7 := { stood := { row := interpVarsRow, standIns := [], harness := (true, "99195fd4f653f6bedb8364a458722edcd78df067f930f0027c27c3caec651db5"), looks := false }, kinds := [], alts := [], laidByText := true, laidKinds := [.data, .data, .data], laidTests := true, laidLooks := .later }
def InterpVarsCardSaid : Prop := Claim7.holds Tryz.pinned (.plain (OpenSpec.ofChange interpVarsSpec)) interpVarsCard

/-- THE TIED CARD OF 'spruelaw16.InterpRows'. -/
def interpRowsCard : Claim7 := { stood := { row := interpRowsRow, standIns := [], harness := (true, "99195fd4f653f6bedb8364a458722edcd78df067f930f0027c27c3caec651db5"), looks := false }, kinds := [], alts := [], laidByText := true, laidKinds := [.data, .data, .data], laidTests := true, laidLooks := .later }
def InterpRowsCardSaid : Prop := Claim7.holds Tryz.pinned (.plain (OpenSpec.ofChange interpRowsSpec)) interpRowsCard

/-- THE TIED CARD OF 'spruelaw16.InterpOrder'. -/
def interpOrderCard : Claim7 := { stood := { row := interpOrderRow, standIns := [], harness := (true, "99195fd4f653f6bedb8364a458722edcd78df067f930f0027c27c3caec651db5"), looks := false }, kinds := [], alts := [], laidByText := true, laidKinds := [.data, .data, .data], laidTests := true, laidLooks := .later }
def InterpOrderCardSaid : Prop := Claim7.holds Tryz.pinned (.plain (OpenSpec.ofChange interpOrderSpec)) interpOrderCard

/-- THE TIED CARD OF 'spruelaw15.CallsTyped'. -/
def callsTypedCard : Claim7 := { stood := { row := callsTypedRow, standIns := [], harness := (true, "99195fd4f653f6bedb8364a458722edcd78df067f930f0027c27c3caec651db5"), looks := false }, kinds := [], alts := [], laidByText := true, laidKinds := [.data, .data, .data], laidTests := true, laidLooks := .later }
def CallsTypedCardSaid : Prop := Claim7.holds Tryz.pinned (.plain (OpenSpec.ofChange callsTypedSpec)) callsTypedCard

/-- THE SECOND FORM's CARD OF 'spruelaw3.SchSchemas'. -/
def schSchemasUptoCard : Claim7 := { stood := { row := schSchemasUptoRow, standIns := [], harness := (true, "99195fd4f653f6bedb8364a458722edcd78df067f930f0027c27c3caec651db5"), looks := false }, kinds := [], alts := [], laidByText := true, laidKinds := [.listed, .data], laidTests := true, laidLooks := .later }
def SchSchemasUptoCardSaid : Prop := Claim7.holds Tryz.pinned (.plain (OpenSpec.upto schSchemasSpec)) schSchemasUptoCard

/-- THE SECOND FORM's CARD OF 'spruelaw16.InterpVars'. -/
def interpVarsUptoCard : Claim7 := { stood := { row := interpVarsUptoRow, standIns := [], harness := (true, "99195fd4f653f6bedb8364a458722edcd78df067f930f0027c27c3caec651db5"), looks := false }, kinds := [], alts := [], laidByText := true, laidKinds := [.data, .data, .data], laidTests := true, laidLooks := .later }
def InterpVarsUptoCardSaid : Prop := Claim7.holds Tryz.pinned (.plain (OpenSpec.upto interpVarsSpec)) interpVarsUptoCard

/-- THE SECOND FORM's CARD OF 'spruelaw16.InterpRows'. -/
def interpRowsUptoCard : Claim7 := { stood := { row := interpRowsUptoRow, standIns := [], harness := (true, "99195fd4f653f6bedb8364a458722edcd78df067f930f0027c27c3caec651db5"), looks := false }, kinds := [], alts := [], laidByText := true, laidKinds := [.data, .data, .data], laidTests := true, laidLooks := .later }
def InterpRowsUptoCardSaid : Prop := Claim7.holds Tryz.pinned (.plain (OpenSpec.upto interpRowsSpec)) interpRowsUptoCard

/-- THE SECOND FORM's CARD OF 'spruelaw16.InterpOrder'. -/
def interpOrderUptoCard : Claim7 := { stood := { row := interpOrderUptoRow, standIns := [], harness := (true, "99195fd4f653f6bedb8364a458722edcd78df067f930f0027c27c3caec651db5"), looks := false }, kinds := [], alts := [], laidByText := true, laidKinds := [.data, .data, .data], laidTests := true, laidLooks := .later }
def InterpOrderUptoCardSaid : Prop := Claim7.holds Tryz.pinned (.plain (OpenSpec.upto interpOrderSpec)) interpOrderUptoCard

/-- THE SECOND FORM's CARD OF 'spruelaw15.CallsTyped'. -/
def callsTypedUptoCard : Claim7 := { stood := { row := callsTypedUptoRow, standIns := [], harness := (true, "99195fd4f653f6bedb8364a458722edcd78df067f930f0027c27c3caec651db5"), looks := false }, kinds := [], alts := [], laidByText := true, laidKinds := [.data, .data, .data], laidTests := true, laidLooks := .later }
def CallsTypedUptoCardSaid : Prop := Claim7.holds Tryz.pinned (.plain (OpenSpec.upto callsTypedSpec)) callsTypedUptoCard
end Rows
end Go.Proofs.YtnlmlcfipbnpgaaGreatDoor
