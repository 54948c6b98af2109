/-
  DERIVED. GIVEN WITH THE SEED: THE CARDS: each row of YtnlmlcfipbnpgaaDoorRows.lean that lists a variable, with what it lists TIED to the program's text (the seventh form; the later family's looks); each row that meets fmt, with fmt's text TOLD by the authors' own Lean function (tested against real Go, not proved from fmt's source: count such statements apart). THE CARD IS WHAT COUNTS. Prove the row's statement (the work); the ties are given (YtnlmlcfipbnpgaaDoorTie.lean); close each card by the builder's one call (the guide's Derived/Test/ToyasCard.lean, 'card_holds'). Laid BY PROGRAM, IN A SANDBOX (cutbox-door.mjs). By AI agents, Wed Nov 11 2026. No macro, syntax, notation, axiom, sorry.
-/
import Derived.Test.YtnlmlcfipbnpgaaDoorRows
import GoSem.ClaimSeven
namespace Go.Proofs.YtnlmlcfipbnpgaaDoor
namespace Rows

/-- THE TIED CARD OF 'spruelaw3.SchSames'. -/
def schSamesCard : Claim7 := { stood := { row := schSamesRow, standIns := [], harness := (true, "7cf71506317cc80ca0afc5e623b5cbc0c4d6c6555da6d9f72daaf2acfc47f0e6"), looks := false }, kinds := [], alts := [], laidByText := true, laidKinds := [.listed, .data], laidTests := true, laidLooks := .later }
def SchSamesCardSaid : Prop := Claim7.holds Tryd.pinned (.plain (OpenSpec.ofChange schSamesSpec)) schSamesCard

/-- THE TIED CARD OF 'spruelaw3.SchAgain'. -/
def schAgainCard : Claim7 := { stood := { row := schAgainRow, standIns := [], harness := (true, "7cf71506317cc80ca0afc5e623b5cbc0c4d6c6555da6d9f72daaf2acfc47f0e6"), looks := false }, kinds := [], alts := [], laidByText := true, laidKinds := [.listed, .data], laidTests := true, laidLooks := .later }
def SchAgainCardSaid : Prop := Claim7.holds Tryd.pinned (.plain (OpenSpec.ofChange schAgainSpec)) schAgainCard

/-- THE TIED CARD OF 'spruelaw3.SchTypes'. -/
def schTypesCard : Claim7 := { stood := { row := schTypesRow, standIns := [], harness := (true, "7cf71506317cc80ca0afc5e623b5cbc0c4d6c6555da6d9f72daaf2acfc47f0e6"), looks := false }, kinds := [], alts := [], laidByText := true, laidKinds := [.listed, .data], laidTests := true, laidLooks := .later }
def SchTypesCardSaid : Prop := Claim7.holds Tryd.pinned (.plain (OpenSpec.ofChange schTypesSpec)) schTypesCard

/-- THE TIED CARD OF 'spruelaw3.SchOrder'. -/
def schOrderCard : Claim7 := { stood := { row := schOrderRow, standIns := [], harness := (true, "7cf71506317cc80ca0afc5e623b5cbc0c4d6c6555da6d9f72daaf2acfc47f0e6"), looks := false }, kinds := [], alts := [], laidByText := true, laidKinds := [.listed, .data], laidTests := true, laidLooks := .later }
def SchOrderCardSaid : Prop := Claim7.holds Tryd.pinned (.plain (OpenSpec.ofChange schOrderSpec)) schOrderCard

/-- THE TIED CARD OF 'spruelaw3.SchDeep'. -/
def schDeepCard : Claim7 := { stood := { row := schDeepRow, standIns := [], harness := (true, "7cf71506317cc80ca0afc5e623b5cbc0c4d6c6555da6d9f72daaf2acfc47f0e6"), looks := false }, kinds := [], alts := [], laidByText := true, laidKinds := [.listed, .data], laidTests := true, laidLooks := .later }
def SchDeepCardSaid : Prop := Claim7.holds Tryd.pinned (.plain (OpenSpec.ofChange schDeepSpec)) schDeepCard

/-- THE TIED CARD OF 'spruelaw7.TreeNests'. -/
def treeNestsCard : Claim7 := { stood := { row := treeNestsRow, standIns := [], harness := (true, "7cf71506317cc80ca0afc5e623b5cbc0c4d6c6555da6d9f72daaf2acfc47f0e6"), looks := false }, kinds := [], alts := [], laidByText := true, laidKinds := [.data, .listed, .data, .pinned], laidTests := true, laidLooks := .later }
def TreeNestsCardSaid : Prop := Claim7.holds Tryd.pinned (.plain (OpenSpec.ofChange treeNestsSpec)) treeNestsCard

/-- THE TIED CARD OF 'spruelaw7.TreePlaces'. -/
def treePlacesCard : Claim7 := { stood := { row := treePlacesRow, standIns := [], harness := (true, "7cf71506317cc80ca0afc5e623b5cbc0c4d6c6555da6d9f72daaf2acfc47f0e6"), looks := false }, kinds := [], alts := [], laidByText := true, laidKinds := [.data, .listed, .data, .pinned], laidTests := true, laidLooks := .later }
def TreePlacesCardSaid : Prop := Claim7.holds Tryd.pinned (.plain (OpenSpec.ofChange treePlacesSpec)) treePlacesCard

/-- THE SECOND FORM's CARD OF 'spruelaw3.SchSames'. -/
def schSamesUptoCard : Claim7 := { stood := { row := schSamesUptoRow, standIns := [], harness := (true, "7cf71506317cc80ca0afc5e623b5cbc0c4d6c6555da6d9f72daaf2acfc47f0e6"), looks := false }, kinds := [], alts := [], laidByText := true, laidKinds := [.listed, .data], laidTests := true, laidLooks := .later }
def SchSamesUptoCardSaid : Prop := Claim7.holds Tryd.pinned (.plain (OpenSpec.upto schSamesSpec)) schSamesUptoCard

/-- THE SECOND FORM's CARD OF 'spruelaw3.SchAgain'. -/
def schAgainUptoCard : Claim7 := { stood := { row := schAgainUptoRow, standIns := [], harness := (true, "7cf71506317cc80ca0afc5e623b5cbc0c4d6c6555da6d9f72daaf2acfc47f0e6"), looks := false }, kinds := [], alts := [], laidByText := true, laidKinds := [.listed, .data], laidTests := true, laidLooks := .later }
def SchAgainUptoCardSaid : Prop := Claim7.holds Tryd.pinned (.plain (OpenSpec.upto schAgainSpec)) schAgainUptoCard

/-- THE SECOND FORM's CARD OF 'spruelaw3.SchTypes'. -/
def schTypesUptoCard : Claim7 := { stood := { row := schTypesUptoRow, standIns := [], harness := (true, "7cf71506317cc80ca0afc5e623b5cbc0c4d6c6555da6d9f72daaf2acfc47f0e6"), looks := false }, kinds := [], alts := [], laidByText := true, laidKinds := [.listed, .data], laidTests := true, laidLooks := .later }
def SchTypesUptoCardSaid : Prop := Claim7.holds Tryd.pinned (.plain (OpenSpec.upto schTypesSpec)) schTypesUptoCard

/-- THE SECOND FORM's CARD OF 'spruelaw3.SchOrder'. -/
def schOrderUptoCard : Claim7 := { stood := { row := schOrderUptoRow, standIns := [], harness := (true, "7cf71506317cc80ca0afc5e623b5cbc0c4d6c6555da6d9f72daaf2acfc47f0e6"), looks := false }, kinds := [], alts := [], laidByText := true, laidKinds := [.listed, .data], laidTests := true, laidLooks := .later }
def SchOrderUptoCardSaid : Prop := Claim7.holds Tryd.pinned (.plain (OpenSpec.upto schOrderSpec)) schOrderUptoCard

/-- THE SECOND FORM's CARD OF 'spruelaw3.SchDeep'. -/
def schDeepUptoCard : Claim7 := { stood := { row := schDeepUptoRow, standIns := [], harness := (true, "7cf71506317cc80ca0afc5e623b5cbc0c4d6c6555da6d9f72daaf2acfc47f0e6"), looks := false }, kinds := [], alts := [], laidByText := true, laidKinds := [.listed, .data], laidTests := true, laidLooks := .later }
def SchDeepUptoCardSaid : Prop := Claim7.holds Tryd.pinned (.plain (OpenSpec.upto schDeepSpec)) schDeepUptoCard

/-- THE SECOND FORM's CARD OF 'spruelaw7.TreeNests'. -/
def treeNestsUptoCard : Claim7 := { stood := { row := treeNestsUptoRow, standIns := [], harness := (true, "7cf71506317cc80ca0afc5e623b5cbc0c4d6c6555da6d9f72daaf2acfc47f0e6"), looks := false }, kinds := [], alts := [], laidByText := true, laidKinds := [.data, .listed, .data, .pinned], laidTests := true, laidLooks := .later }
def TreeNestsUptoCardSaid : Prop := Claim7.holds Tryd.pinned (.plain (OpenSpec.upto treeNestsSpec)) treeNestsUptoCard

/-- THE SECOND FORM's CARD OF 'spruelaw7.TreePlaces'. -/
def treePlacesUptoCard : Claim7 := { stood := { row := treePlacesUptoRow, standIns := [], harness := (true, "7cf71506317cc80ca0afc5e623b5cbc0c4d6c6555da6d9f72daaf2acfc47f0e6"), looks := false }, kinds := [], alts := [], laidByText := true, laidKinds := [.data, .listed, .data, .pinned], laidTests := true, laidLooks := .later }
def TreePlacesUptoCardSaid : Prop := Claim7.holds Tryd.pinned (.plain (OpenSpec.upto treePlacesSpec)) treePlacesUptoCard
end Rows
end Go.Proofs.YtnlmlcfipbnpgaaDoor
