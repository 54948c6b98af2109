/-
  DERIVED. GIVEN WITH THE SEED: THE CARDS: each row of YtljhpmggifjigaaDoorRows.lean that lists a variable, with what it lists TIED to the program's text (the seventh form; the later family's looks); each row that meets fmt, with fmt's text TOLD by the authors' own Lean function (tested against real Go, not proved from fmt's source: count such statements apart). THE CARD IS WHAT COUNTS. Prove the row's statement (the work); the ties are given (YtljhpmggifjigaaDoorTie.lean); close each card by the builder's one call (the guide's Derived/Test/ToyasCard.lean, 'card_holds'). Laid BY PROGRAM, IN A SANDBOX (cutbox-door.mjs). By AI agents, Wed Nov 11 2026. No macro, syntax, notation, axiom, sorry.
-/
import Derived.Test.YtljhpmggifjigaaDoorRows
import GoSem.ClaimSeven
namespace Go.Proofs.YtljhpmggifjigaaDoor
namespace Rows

/-- THE TIED CARD OF 'spruelaw1.ScanBlanks'. -/
def scanBlanksCard : Claim7 := { stood := { row := scanBlanksRow, standIns := [], harness := (true, "e05e3f97162b952ef515a654210e04b2f7eaeb63db9a0addd56d017a3c377f88"), looks := false }, kinds := [], alts := [], laidByText := true, laidKinds := [.listed, .data], laidTests := true, laidLooks := .later }
def ScanBlanksCardSaid : Prop := Claim7.holds Tryd.pinned (.plain (OpenSpec.ofChange scanBlanksSpec)) scanBlanksCard

/-- THE TIED CARD OF 'spruelaw1.ScanBounds'. -/
def scanBoundsCard : Claim7 := { stood := { row := scanBoundsRow, standIns := [], harness := (true, "e05e3f97162b952ef515a654210e04b2f7eaeb63db9a0addd56d017a3c377f88"), looks := false }, kinds := [], alts := [], laidByText := true, laidKinds := [.listed, .data], laidTests := true, laidLooks := .later }
def ScanBoundsCardSaid : Prop := Claim7.holds Tryd.pinned (.plain (OpenSpec.ofChange scanBoundsSpec)) scanBoundsCard

/-- THE TIED CARD OF 'spruelaw1.ScanNumbers'. -/
def scanNumbersCard : Claim7 := { stood := { row := scanNumbersRow, standIns := [], harness := (true, "e05e3f97162b952ef515a654210e04b2f7eaeb63db9a0addd56d017a3c377f88"), looks := false }, kinds := [], alts := [], laidByText := true, laidKinds := [.listed, .data], laidTests := true, laidLooks := .later }
def ScanNumbersCardSaid : Prop := Claim7.holds Tryd.pinned (.plain (OpenSpec.ofChange scanNumbersSpec)) scanNumbersCard

/-- THE TIED CARD OF 'spruelaw1.ScanStrings'. -/
def scanStringsCard : Claim7 := { stood := { row := scanStringsRow, standIns := [], harness := (true, "e05e3f97162b952ef515a654210e04b2f7eaeb63db9a0addd56d017a3c377f88"), looks := false }, kinds := [], alts := [], laidByText := true, laidKinds := [.listed, .data], laidTests := true, laidLooks := .later }
def ScanStringsCardSaid : Prop := Claim7.holds Tryd.pinned (.plain (OpenSpec.ofChange scanStringsSpec)) scanStringsCard

/-- THE TIED CARD OF 'spruelaw1.ScanSigns'. -/
def scanSignsCard : Claim7 := { stood := { row := scanSignsRow, standIns := [], harness := (true, "e05e3f97162b952ef515a654210e04b2f7eaeb63db9a0addd56d017a3c377f88"), looks := false }, kinds := [], alts := [], laidByText := true, laidKinds := [.listed, .data], laidTests := true, laidLooks := .later }
def ScanSignsCardSaid : Prop := Claim7.holds Tryd.pinned (.plain (OpenSpec.ofChange scanSignsSpec)) scanSignsCard

/-- THE TIED CARD OF 'spruelaw1.ScanFirst'. -/
def scanFirstCard : Claim7 := { stood := { row := scanFirstRow, standIns := [], harness := (true, "e05e3f97162b952ef515a654210e04b2f7eaeb63db9a0addd56d017a3c377f88"), looks := false }, kinds := [], alts := [], laidByText := true, laidKinds := [.listed, .data], laidTests := true, laidLooks := .later }
def ScanFirstCardSaid : Prop := Claim7.holds Tryd.pinned (.plain (OpenSpec.ofChange scanFirstSpec)) scanFirstCard

/-- THE TIED CARD OF 'spruelaw1.ScanFronts'. -/
def scanFrontsCard : Claim7 := { stood := { row := scanFrontsRow, standIns := [], harness := (true, "e05e3f97162b952ef515a654210e04b2f7eaeb63db9a0addd56d017a3c377f88"), looks := false }, kinds := [], alts := [], laidByText := true, laidKinds := [.listed, .data], laidTests := true, laidLooks := .later }
def ScanFrontsCardSaid : Prop := Claim7.holds Tryd.pinned (.plain (OpenSpec.ofChange scanFrontsSpec)) scanFrontsCard

/-- THE TIED CARD OF 'spruelaw1.ScanTokens'. -/
def scanTokensCard : Claim7 := { stood := { row := scanTokensRow, standIns := [], harness := (true, "e05e3f97162b952ef515a654210e04b2f7eaeb63db9a0addd56d017a3c377f88"), looks := false }, kinds := [], alts := [], laidByText := true, laidKinds := [.listed, .data], laidTests := true, laidLooks := .later }
def ScanTokensCardSaid : Prop := Claim7.holds Tryd.pinned (.plain (OpenSpec.ofChange scanTokensSpec)) scanTokensCard

/-- THE TIED CARD OF 'spruelaw1.ScanNames'. -/
def scanNamesCard : Claim7 := { stood := { row := scanNamesRow, standIns := [], harness := (true, "e05e3f97162b952ef515a654210e04b2f7eaeb63db9a0addd56d017a3c377f88"), looks := false }, kinds := [], alts := [], laidByText := true, laidKinds := [.listed, .data], laidTests := true, laidLooks := .later }
def ScanNamesCardSaid : Prop := Claim7.holds Tryd.pinned (.plain (OpenSpec.ofChange scanNamesSpec)) scanNamesCard

/-- THE SECOND FORM's CARD OF 'spruelaw1.ScanBlanks'. -/
def scanBlanksUptoCard : Claim7 := { stood := { row := scanBlanksUptoRow, standIns := [], harness := (true, "e05e3f97162b952ef515a654210e04b2f7eaeb63db9a0addd56d017a3c377f88"), looks := false }, kinds := [], alts := [], laidByText := true, laidKinds := [.listed, .data], laidTests := true, laidLooks := .later }
def ScanBlanksUptoCardSaid : Prop := Claim7.holds Tryd.pinned (.plain (OpenSpec.upto scanBlanksSpec)) scanBlanksUptoCard

/-- THE SECOND FORM's CARD OF 'spruelaw1.ScanBounds'. -/
def scanBoundsUptoCard : Claim7 := { stood := { row := scanBoundsUptoRow, standIns := [], harness := (true, "e05e3f97162b952ef515a654210e04b2f7eaeb63db9a0addd56d017a3c377f88"), looks := false }, kinds := [], alts := [], laidByText := true, laidKinds := [.listed, .data], laidTests := true, laidLooks := .later }
def ScanBoundsUptoCardSaid : Prop := Claim7.holds Tryd.pinned (.plain (OpenSpec.upto scanBoundsSpec)) scanBoundsUptoCard

/-- THE SECOND FORM's CARD OF 'spruelaw1.ScanNumbers'. -/
def scanNumbersUptoCard : Claim7 := { stood := { row := scanNumbersUptoRow, standIns := [], harness := (true, "e05e3f97162b952ef515a654210e04b2f7eaeb63db9a0addd56d017a3c377f88"), looks := false }, kinds := [], alts := [], laidByText := true, laidKinds := [.listed, .data], laidTests := true, laidLooks := .later }
def ScanNumbersUptoCardSaid : Prop := Claim7.holds Tryd.pinned (.plain (OpenSpec.upto scanNumbersSpec)) scanNumbersUptoCard

/-- THE SECOND FORM's CARD OF 'spruelaw1.ScanStrings'. -/
def scanStringsUptoCard : Claim7 := { stood := { row := scanStringsUptoRow, standIns := [], harness := (true, "e05e3f97162b952ef515a654210e04b2f7eaeb63db9a0addd56d017a3c377f88"), looks := false }, kinds := [], alts := [], laidByText := true, laidKinds := [.listed, .data], laidTests := true, laidLooks := .later }
def ScanStringsUptoCardSaid : Prop := Claim7.holds Tryd.pinned (.plain (OpenSpec.upto scanStringsSpec)) scanStringsUptoCard

/-- THE SECOND FORM's CARD OF 'spruelaw1.ScanSigns'. -/
def scanSignsUptoCard : Claim7 := { stood := { row := scanSignsUptoRow, standIns := [], harness := (true, "e05e3f97162b952ef515a654210e04b2f7eaeb63db9a0addd56d017a3c377f88"), looks := false }, kinds := [], alts := [], laidByText := true, laidKinds := [.listed, .data], laidTests := true, laidLooks := .later }
def ScanSignsUptoCardSaid : Prop := Claim7.holds Tryd.pinned (.plain (OpenSpec.upto scanSignsSpec)) scanSignsUptoCard

/-- THE SECOND FORM's CARD OF 'spruelaw1.ScanFirst'. -/
def scanFirstUptoCard : Claim7 := { stood := { row := scanFirstUptoRow, standIns := [], harness := (true, "e05e3f97162b952ef515a654210e04b2f7eaeb63db9a0addd56d017a3c377f88"), looks := false }, kinds := [], alts := [], laidByText := true, laidKinds := [.listed, .data], laidTests := true, laidLooks := .later }
def ScanFirstUptoCardSaid : Prop := Claim7.holds Tryd.pinned (.plain (OpenSpec.upto scanFirstSpec)) scanFirstUptoCard

/-- THE SECOND FORM's CARD OF 'spruelaw1.ScanFronts'. -/
def scanFrontsUptoCard : Claim7 := { stood := { row := scanFrontsUptoRow, standIns := [], harness := (true, "e05e3f97162b952ef515a654210e04b2f7eaeb63db9a0addd56d017a3c377f88"), looks := false }, kinds := [], alts := [], laidByText := true, laidKinds := [.listed, .data], laidTests := true, laidLooks := .later }
def ScanFrontsUptoCardSaid : Prop := Claim7.holds Tryd.pinned (.plain (OpenSpec.upto scanFrontsSpec)) scanFrontsUptoCard

/-- THE SECOND FORM's CARD OF 'spruelaw1.ScanTokens'. -/
def scanTokensUptoCard : Claim7 := { stood := { row := scanTokensUptoRow, standIns := [], harness := (true, "e05e3f97162b952ef515a654210e04b2f7eaeb63db9a0addd56d017a3c377f88"), looks := false }, kinds := [], alts := [], laidByText := true, laidKinds := [.listed, .data], laidTests := true, laidLooks := .later }
def ScanTokensUptoCardSaid : Prop := Claim7.holds Tryd.pinned (.plain (OpenSpec.upto scanTokensSpec)) scanTokensUptoCard

/-- THE SECOND FORM's CARD OF 'spruelaw1.ScanNames'. -/
def scanNamesUptoCard : Claim7 := { stood := { row := scanNamesUptoRow, standIns := [], harness := (true, "e05e3f97162b952ef515a654210e04b2f7eaeb63db9a0addd56d017a3c377f88"), looks := false }, kinds := [], alts := [], laidByText := true, laidKinds := [.listed, .data], laidTests := true, laidLooks := .later }
def ScanNamesUptoCardSaid : Prop := Claim7.holds Tryd.pinned (.plain (OpenSpec.upto scanNamesSpec)) scanNamesUptoCard
end Rows
end Go.Proofs.YtljhpmggifjigaaDoor
