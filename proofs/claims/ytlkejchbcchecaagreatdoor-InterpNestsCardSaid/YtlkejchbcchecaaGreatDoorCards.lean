/-
  DERIVED. GIVEN WITH THE SEED: THE CARDS: each row of YtlkejchbcchecaaGreatDoorRows.lean that lists a variable, with what it lists TIED to the program's text (the seventh form; the later family's looks); each row that meets fmt, with fmt's text TOLD by the authors' own Lean function (tested against real Go, not proved from fmt's source: count such statements apart). THE CARD IS WHAT COUNTS. Prove the row's statement (the work); the ties are given (YtlkejchbcchecaaGreatDoorTie.lean); close each card by the builder's one call (the guide's Derived/Test/ToyasCard.lean, 'card_holds'). Laid BY PROGRAM, IN A SANDBOX (cutbox-door.mjs). By AI agents, Wed Nov 11 2026. No macro, syntax, notation, axiom, sorry.
-/
import Derived.Test.YtlkejchbcchecaaGreatDoorRows
import GoSem.ClaimSeven
namespace Go.Proofs.YtlkejchbcchecaaGreatDoor
namespace Rows

/-- THE TIED CARD OF 'spruelaw16.InterpRanges'. -/
def interpRangesCard : Claim7 := { stood := { row := interpRangesRow, standIns := [], harness := (true, "7ca9994cbc3d60415c9d89b15f6cb5e23445b6a16ae8a03f854ab42fbdcc589c"), looks := false }, kinds := [], alts := [], laidByText := true, laidKinds := [.data, .data, .data], laidTests := true, laidLooks := .later }
def InterpRangesCardSaid : Prop := Claim7.holds Tryz.pinned (.plain (OpenSpec.ofChange interpRangesSpec)) interpRangesCard

/-- THE TIED CARD OF 'spruelaw16.InterpNests'. -/
def interpNestsCard : Claim7 := { stood := { row := interpNestsRow, standIns := [], harness := (true, "7ca9994cbc3d60415c9d89b15f6cb5e23445b6a16ae8a03f854ab42fbdcc589c"), looks := false }, kinds := [], alts := [], laidByText := true, laidKinds := [.data, .data, .data], laidTests := true, laidLooks := .later }
def InterpNestsCardSaid : Prop := Claim7.holds Tryz.pinned (.plain (OpenSpec.ofChange interpNestsSpec)) interpNestsCard

/-- THE SECOND FORM's CARD OF 'spruelaw16.InterpRanges'. -/
def interpRangesUptoCard : Claim7 := { stood := { row := interpRangesUptoRow, standIns := [], harness := (true, "7ca9994cbc3d60415c9d89b15f6cb5e23445b6a16ae8a03f854ab42fbdcc589c"), looks := false }, kinds := [], alts := [], laidByText := true, laidKinds := [.data, .data, .data], laidTests := true, laidLooks := .later }
def InterpRangesUptoCardSaid : Prop := Claim7.holds Tryz.pinned (.plain (OpenSpec.upto interpRangesSpec)) interpRangesUptoCard

/-- THE SECOND FORM's CARD OF 'spruelaw16.InterpNests'. -/
def interpNestsUptoCard : Claim7 := { stood := { row := interpNestsUptoRow, standIns := [], harness := (true, "7ca9994cbc3d60415c9d89b15f6cb5e23445b6a16ae8a03f854ab42fbdcc589c"), looks := false }, kinds := [], alts := [], laidByText := true, laidKinds := [.data, .data, .data], laidTests := true, laidLooks := .later }
def InterpNestsUptoCardSaid : Prop := Claim7.holds Tryz.pinned (.plain (OpenSpec.upto interpNestsSpec)) interpNestsUptoCard
end Rows
end Go.Proofs.YtlkejchbcchecaaGreatDoor
