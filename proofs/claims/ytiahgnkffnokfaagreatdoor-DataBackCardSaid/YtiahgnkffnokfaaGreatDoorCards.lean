/-
  DERIVED. GIVEN WITH THE SEED: THE CARDS: each row of YtiahgnkffnokfaaGreatDoorRows.lean that lists a variable, with what it lists TIED to the program's text (the seventh form; the later family's looks); each row that meets fmt, with fmt's text TOLD by the authors' own Lean function (tested against real Go, not proved from fmt's source: count such statements apart). THE CARD IS WHAT COUNTS. Prove the row's statement (the work); the ties are given (YtiahgnkffnokfaaGreatDoorTie.lean); close each card by the builder's one call (the guide's Derived/Test/ToyasCard.lean, 'card_holds'). Laid BY PROGRAM, IN A SANDBOX (cutbox-door.mjs). By AI agents, Wed Nov 11 2026. No macro, syntax, notation, axiom, sorry.
-/
import Derived.Test.YtiahgnkffnokfaaGreatDoorRows
import GoSem.ClaimSeven
namespace Go.Proofs.YtiahgnkffnokfaaGreatDoor
namespace Rows

/-- THE TIED CARD OF 'spruelaw13.DataKeys'. -/
def dataKeysCard : Claim7 := { stood := { row := dataKeysRow, standIns := [], harness := (true, "c508fb49d925d526c5a74bcd4fb6de99c0df9188966d9ca02f57b6b9a79ccf0a"), looks := true }, kinds := [], alts := [], laidByText := true, laidKinds := [.data, .data, .data, .data, .pinned], laidTests := true, laidLooks := .later }
def DataKeysCardSaid : Prop := Claim7.holds Tryz.pinned (.plain (OpenSpec.ofChange dataKeysSpec)) dataKeysCard

/-- THE TIED CARD OF 'spruelaw13.DataEscapes'. -/
def dataEscapesCard : Claim7 := { stood := { row := dataEscapesRow, standIns := [], harness := (true, "c508fb49d925d526c5a74bcd4fb6de99c0df9188966d9ca02f57b6b9a79ccf0a"), looks := true }, kinds := [], alts := [], laidByText := true, laidKinds := [.data, .data, .data, .data, .pinned], laidTests := true, laidLooks := .later }
def DataEscapesCardSaid : Prop := Claim7.holds Tryz.pinned (.plain (OpenSpec.ofChange dataEscapesSpec)) dataEscapesCard

/-- THE TIED CARD OF 'spruelaw13.DataNumbers'. -/
def dataNumbersCard : Claim7 := { stood := { row := dataNumbersRow, standIns := [], harness := (true, "c508fb49d925d526c5a74bcd4fb6de99c0df9188966d9ca02f57b6b9a79ccf0a"), looks := true }, kinds := [], alts := [], laidByText := true, laidKinds := [.data, .data, .data, .data, .pinned], laidTests := true, laidLooks := .later }
def DataNumbersCardSaid : Prop := Claim7.holds Tryz.pinned (.plain (OpenSpec.ofChange dataNumbersSpec)) dataNumbersCard

/-- THE TIED CARD OF 'spruelaw13.DataBlanks'. -/
def dataBlanksCard : Claim7 := { stood := { row := dataBlanksRow, standIns := [], harness := (true, "c508fb49d925d526c5a74bcd4fb6de99c0df9188966d9ca02f57b6b9a79ccf0a"), looks := true }, kinds := [], alts := [], laidByText := true, laidKinds := [.data, .data, .data, .data, .pinned], laidTests := true, laidLooks := .later }
def DataBlanksCardSaid : Prop := Claim7.holds Tryz.pinned (.plain (OpenSpec.ofChange dataBlanksSpec)) dataBlanksCard

/-- THE TIED CARD OF 'spruelaw13.DataGets'. -/
def dataGetsCard : Claim7 := { stood := { row := dataGetsRow, standIns := [], harness := (true, "c508fb49d925d526c5a74bcd4fb6de99c0df9188966d9ca02f57b6b9a79ccf0a"), looks := true }, kinds := [], alts := [], laidByText := true, laidKinds := [.data, .data, .data, .data, .pinned], laidTests := true, laidLooks := .later }
def DataGetsCardSaid : Prop := Claim7.holds Tryz.pinned (.plain (OpenSpec.ofChange dataGetsSpec)) dataGetsCard

/-- THE TIED CARD OF 'spruelaw13.DataBack'. -/
def dataBackCard : Claim7 := { stood := { row := dataBackRow, standIns := [], harness := (true, "c508fb49d925d526c5a74bcd4fb6de99c0df9188966d9ca02f57b6b9a79ccf0a"), looks := true }, kinds := [], alts := [], laidByText := true, laidKinds := [.data, .data, .data, .data, .pinned], laidTests := true, laidLooks := .later }
def DataBackCardSaid : Prop := Claim7.holds Tryz.pinned (.plain (OpenSpec.ofChange dataBackSpec)) dataBackCard

/-- THE TIED CARD OF 'spruelaw13.DataParses'. -/
def dataParsesCard : Claim7 := { stood := { row := dataParsesRow, standIns := [], harness := (true, "c508fb49d925d526c5a74bcd4fb6de99c0df9188966d9ca02f57b6b9a79ccf0a"), looks := true }, kinds := [], alts := [], laidByText := true, laidKinds := [.data, .data, .data, .data, .pinned], laidTests := true, laidLooks := .later }
def DataParsesCardSaid : Prop := Claim7.holds Tryz.pinned (.plain (OpenSpec.ofChange dataParsesSpec)) dataParsesCard

/-- THE TIED CARD OF 'spruelaw13.DataBounds'. -/
def dataBoundsCard : Claim7 := { stood := { row := dataBoundsRow, standIns := [], harness := (true, "c508fb49d925d526c5a74bcd4fb6de99c0df9188966d9ca02f57b6b9a79ccf0a"), looks := true }, kinds := [], alts := [], laidByText := true, laidKinds := [.data, .data, .data, .data, .pinned], laidTests := true, laidLooks := .later }
def DataBoundsCardSaid : Prop := Claim7.holds Tryz.pinned (.plain (OpenSpec.ofChange dataBoundsSpec)) dataBoundsCard

/-- THE SECOND FORM's CARD OF 'spruelaw13.DataKeys'. -/
def dataKeysUptoCard : Claim7 := { stood := { row := dataKeysUptoRow, standIns := [], harness := (true, "c508fb49d925d526c5a74bcd4fb6de99c0df9188966d9ca02f57b6b9a79ccf0a"), looks := true }, kinds := [], alts := [], laidByText := true, laidKinds := [.data, .data, .data, .data, .pinned], laidTests := true, laidLooks := .later }
def DataKeysUptoCardSaid : Prop := Claim7.holds Tryz.pinned (.plain (OpenSpec.upto dataKeysSpec)) dataKeysUptoCard

/-- THE SECOND FORM's CARD OF 'spruelaw13.DataEscapes'. -/
def dataEscapesUptoCard : Claim7 := { stood := { row := dataEscapesUptoRow, standIns := [], harness := (true, "c508fb49d925d526c5a74bcd4fb6de99c0df9188966d9ca02f57b6b9a79ccf0a"), looks := true }, kinds := [], alts := [], laidByText := true, laidKinds := [.data, .data, .data, .data, .pinned], laidTests := true, laidLooks := .later }
def DataEscapesUptoCardSaid : Prop := Claim7.holds Tryz.pinned (.plain (OpenSpec.upto dataEscapesSpec)) dataEscapesUptoCard

/-- THE SECOND FORM's CARD OF 'spruelaw13.DataNumbers'. -/
def dataNumbersUptoCard : Claim7 := { stood := { row := dataNumbersUptoRow, standIns := [], harness := (true, "c508fb49d925d526c5a74bcd4fb6de99c0df9188966d9ca02f57b6b9a79ccf0a"), looks := true }, kinds := [], alts := [], laidByText := true, laidKinds := [.data, .data, .data, .data, .pinned], laidTests := true, laidLooks := .later }
def DataNumbersUptoCardSaid : Prop := Claim7.holds Tryz.pinned (.plain (OpenSpec.upto dataNumbersSpec)) dataNumbersUptoCard

/-- THE SECOND FORM's CARD OF 'spruelaw13.DataBlanks'. -/
def dataBlanksUptoCard : Claim7 := { stood := { row := dataBlanksUptoRow, standIns := [], harness := (true, "c508fb49d925d526c5a74bcd4fb6de99c0df9188966d9ca02f57b6b9a79ccf0a"), looks := true }, kinds := [], alts := [], laidByText := true, laidKinds := [.data, .data, .data, .data, .pinned], laidTests := true, laidLooks := .later }
def DataBlanksUptoCardSaid : Prop := Claim7.holds Tryz.pinned (.plain (OpenSpec.upto dataBlanksSpec)) dataBlanksUptoCard

/-- THE SECOND FORM's CARD OF 'spruelaw13.DataGets'. -/
def dataGetsUptoCard : Claim7 := { stood := { row := dataGetsUptoRow, standIns := [], harness := (true, "c508fb49d925d526c5a74bcd4fb6de99c0df9188966d9ca02f57b6b9a79ccf0a"), looks := true }, kinds := [], alts := [], laidByText := true, laidKinds := [.data, .data, .data, .data, .pinned], laidTests := true, laidLooks := .later }
def DataGetsUptoCardSaid : Prop := Claim7.holds Tryz.pinned (.plain (OpenSpec.upto dataGetsSpec)) dataGetsUptoCard

/-- THE SECOND FORM's CARD OF 'spruelaw13.DataBack'. -/
def dataBackUptoCard : Claim7 := { stood := { row := dataBackUptoRow, standIns := [], harness := (true, "c508fb49d925d526c5a74bcd4fb6de99c0df9188966d9ca02f57b6b9a79ccf0a"), looks := true }, kinds := [], alts := [], laidByText := true, laidKinds := [.data, .data, .data, .data, .pinned], laidTests := true, laidLooks := .later }
def DataBackUptoCardSaid : Prop := Claim7.holds Tryz.pinned (.plain (OpenSpec.upto dataBackSpec)) dataBackUptoCard

/-- THE SECOND FORM's CARD OF 'spruelaw13.DataParses'. -/
def dataParsesUptoCard : Claim7 := { stood := { row := dataParsesUptoRow, standIns := [], harness := (true, "c508fb49d925d526c5a74bcd4fb6de99c0df9188966d9ca02f57b6b9a79ccf0a"), looks := true }, kinds := [], alts := [], laidByText := true, laidKinds := [.data, .data, .data, .data, .pinned], laidTests := true, laidLooks := .later }
def DataParsesUptoCardSaid : Prop := Claim7.holds Tryz.pinned (.plain (OpenSpec.upto dataParsesSpec)) dataParsesUptoCard

/-- THE SECOND FORM's CARD OF 'spruelaw13.DataBounds'. -/
def dataBoundsUptoCard : Claim7 := { stood := { row := dataBoundsUptoRow, standIns := [], harness := (true, "c508fb49d925d526c5a74bcd4fb6de99c0df9188966d9ca02f57b6b9a79ccf0a"), looks := true }, kinds := [], alts := [], laidByText := true, laidKinds := [.data, .data, .data, .data, .pinned], laidTests := true, laidLooks := .later }
def DataBoundsUptoCardSaid : Prop := Claim7.holds Tryz.pinned (.plain (OpenSpec.upto dataBoundsSpec)) dataBoundsUptoCard
end Rows
end Go.Proofs.YtiahgnkffnokfaaGreatDoor
