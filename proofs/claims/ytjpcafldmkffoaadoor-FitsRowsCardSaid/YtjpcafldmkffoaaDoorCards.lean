/-
  DERIVED. GIVEN WITH THE SEED: THE CARDS: each row of YtjpcafldmkffoaaDoorRows.lean that lists a variable, with what it lists TIED to the program's text (the seventh form; the later family's looks); each row that meets fmt, with fmt's text TOLD by the authors' own Lean function (tested against real Go, not proved from fmt's source: count such statements apart). THE CARD IS WHAT COUNTS. Prove the row's statement (the work); the ties are given (YtjpcafldmkffoaaDoorTie.lean); close each card by the builder's one call (the guide's Derived/Test/ToyasCard.lean, 'card_holds'). Laid BY PROGRAM, IN A SANDBOX (cutbox-door.mjs). By AI agents, Wed Nov 11 2026. No macro, syntax, notation, axiom, sorry.
-/
import Derived.Test.YtjpcafldmkffoaaDoorRows
import GoSem.ClaimSeven
namespace Go.Proofs.YtjpcafldmkffoaaDoor
namespace Rows

/-- THE TIED CARD OF 'spruelaw14.FitsPaths'. -/
def fitsPathsCard : Claim7 := { stood := { row := fitsPathsRow, standIns := [], harness := (true, "d3a850d275ff5411f78dcaa36f283e0623b9cb375de2f4bc290eb90c2168d82f"), looks := false }, kinds := [], alts := [], laidByText := true, laidKinds := [.data, .data, .data], laidTests := true, laidLooks := .later }
def FitsPathsCardSaid : Prop := Claim7.holds Tryd.pinned (.plain (OpenSpec.ofChange fitsPathsSpec)) fitsPathsCard

/-- THE TIED CARD OF 'spruelaw14.FitsRows'. -/
def fitsRowsCard : Claim7 := { stood := { row := fitsRowsRow, standIns := [], harness := (true, "d3a850d275ff5411f78dcaa36f283e0623b9cb375de2f4bc290eb90c2168d82f"), looks := false }, kinds := [], alts := [], laidByText := true, laidKinds := [.data, .data, .data], laidTests := true, laidLooks := .later }
def FitsRowsCardSaid : Prop := Claim7.holds Tryd.pinned (.plain (OpenSpec.ofChange fitsRowsSpec)) fitsRowsCard

/-- THE TIED CARD OF 'spruelaw14.FitsNames'. -/
def fitsNamesCard : Claim7 := { stood := { row := fitsNamesRow, standIns := [], harness := (true, "d3a850d275ff5411f78dcaa36f283e0623b9cb375de2f4bc290eb90c2168d82f"), looks := false }, kinds := [], alts := [], laidByText := true, laidKinds := [.data, .data, .data], laidTests := true, laidLooks := .later }
def FitsNamesCardSaid : Prop := Claim7.holds Tryd.pinned (.plain (OpenSpec.ofChange fitsNamesSpec)) fitsNamesCard

/-- THE TIED CARD OF 'spruelaw14.FitsKinds'. -/
def fitsKindsCard : Claim7 := { stood := { row := fitsKindsRow, standIns := [], harness := (true, "d3a850d275ff5411f78dcaa36f283e0623b9cb375de2f4bc290eb90c2168d82f"), looks := false }, kinds := [], alts := [], laidByText := true, laidKinds := [.data, .data, .data], laidTests := true, laidLooks := .later }
def FitsKindsCardSaid : Prop := Claim7.holds Tryd.pinned (.plain (OpenSpec.ofChange fitsKindsSpec)) fitsKindsCard

/-- THE TIED CARD OF 'spruelaw14.FitsFills'. -/
def fitsFillsCard : Claim7 := { stood := { row := fitsFillsRow, standIns := [], harness := (true, "d3a850d275ff5411f78dcaa36f283e0623b9cb375de2f4bc290eb90c2168d82f"), looks := false }, kinds := [], alts := [], laidByText := true, laidKinds := [.data, .data, .data], laidTests := true, laidLooks := .later }
def FitsFillsCardSaid : Prop := Claim7.holds Tryd.pinned (.plain (OpenSpec.ofChange fitsFillsSpec)) fitsFillsCard

/-- THE SECOND FORM's CARD OF 'spruelaw14.FitsPaths'. -/
def fitsPathsUptoCard : Claim7 := { stood := { row := fitsPathsUptoRow, standIns := [], harness := (true, "d3a850d275ff5411f78dcaa36f283e0623b9cb375de2f4bc290eb90c2168d82f"), looks := false }, kinds := [], alts := [], laidByText := true, laidKinds := [.data, .data, .data], laidTests := true, laidLooks := .later }
def FitsPathsUptoCardSaid : Prop := Claim7.holds Tryd.pinned (.plain (OpenSpec.upto fitsPathsSpec)) fitsPathsUptoCard

/-- THE SECOND FORM's CARD OF 'spruelaw14.FitsRows'. -/
def fitsRowsUptoCard : Claim7 := { stood := { row := fitsRowsUptoRow, standIns := [], harness := (true, "d3a850d275ff5411f78dcaa36f283e0623b9cb375de2f4bc290eb90c2168d82f"), looks := false }, kinds := [], alts := [], laidByText := true, laidKinds := [.data, .data, .data], laidTests := true, laidLooks := .later }
def FitsRowsUptoCardSaid : Prop := Claim7.holds Tryd.pinned (.plain (OpenSpec.upto fitsRowsSpec)) fitsRowsUptoCard

/-- THE SECOND FORM's CARD OF 'spruelaw14.FitsNames'. -/
def fitsNamesUptoCard : Claim7 := { stood := { row := fitsNamesUptoRow, standIns := [], harness := (true, "d3a850d275ff5411f78dcaa36f283e0623b9cb375de2f4bc290eb90c2168d82f"), looks := false }, kinds := [], alts := [], laidByText := true, laidKinds := [.data, .data, .data], laidTests := true, laidLooks := .later }
def FitsNamesUptoCardSaid : Prop := Claim7.holds Tryd.pinned (.plain (OpenSpec.upto fitsNamesSpec)) fitsNamesUptoCard

/-- THE SECOND FORM's CARD OF 'spruelaw14.FitsKinds'. -/
def fitsKindsUptoCard : Claim7 := { stood := { row := fitsKindsUptoRow, standIns := [], harness := (true, "d3a850d275ff5411f78dcaa36f283e0623b9cb375de2f4bc290eb90c2168d82f"), looks := false }, kinds := [], alts := [], laidByText := true, laidKinds := [.data, .data, .data], laidTests := true, laidLooks := .later }
def FitsKindsUptoCardSaid : Prop := Claim7.holds Tryd.pinned (.plain (OpenSpec.upto fitsKindsSpec)) fitsKindsUptoCard

/-- THE SECOND FORM's CARD OF 'spruelaw14.FitsFills'. -/
def fitsFillsUptoCard : Claim7 := { stood := { row := fitsFillsUptoRow, standIns := [], harness := (true, "d3a850d275ff5411f78dcaa36f283e0623b9cb375de2f4bc290eb90c2168d82f"), looks := false }, kinds := [], alts := [], laidByText := true, laidKinds := [.data, .data, .data], laidTests := true, laidLooks := .later }
def FitsFillsUptoCardSaid : Prop := Claim7.holds Tryd.pinned (.plain (OpenSpec.upto fitsFillsSpec)) fitsFillsUptoCard
end Rows
end Go.Proofs.YtjpcafldmkffoaaDoor
