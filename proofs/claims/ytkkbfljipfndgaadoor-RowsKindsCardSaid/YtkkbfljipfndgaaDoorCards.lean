/-
  DERIVED. GIVEN WITH THE SEED: THE CARDS: each row of YtkkbfljipfndgaaDoorRows.lean that lists a variable, with what it lists TIED to the program's text (the seventh form; the later family's looks); each row that meets fmt, with fmt's text TOLD by the authors' own Lean function (tested against real Go, not proved from fmt's source: count such statements apart). THE CARD IS WHAT COUNTS. Prove the row's statement (the work); the ties are given (YtkkbfljipfndgaaDoorTie.lean); close each card by the builder's one call (the guide's Derived/Test/ToyasCard.lean, 'card_holds'). Laid BY PROGRAM, IN A SANDBOX (cutbox-door.mjs). By AI agents, Wed Nov 11 2026. No macro, syntax, notation, axiom, sorry.
-/
import Derived.Test.YtkkbfljipfndgaaDoorRows
import GoSem.ClaimSeven
namespace Go.Proofs.YtkkbfljipfndgaaDoor
namespace Rows

/-- THE TIED CARD OF 'spruelaw15.CallsTruths'. -/
def callsTruthsCard : Claim7 := { stood := { row := callsTruthsRow, standIns := [], harness := (true, "f5c3b5af945d6ee3beec939952330efa1c4502c3013efc9d18e18d7a3ba25ce1"), looks := false }, kinds := [], alts := [], laidByText := true, laidKinds := [.data, .data, .data], laidTests := true, laidLooks := .later }
def CallsTruthsCardSaid : Prop := Claim7.holds Tryd.pinned (.plain (OpenSpec.ofChange callsTruthsSpec)) callsTruthsCard

/-- THE TIED CARD OF 'spruelaw15.CallsTurns'. -/
def callsTurnsCard : Claim7 := { stood := { row := callsTurnsRow, standIns := [], harness := (true, "f5c3b5af945d6ee3beec939952330efa1c4502c3013efc9d18e18d7a3ba25ce1"), looks := false }, kinds := [], alts := [], laidByText := true, laidKinds := [.data, .data, .data], laidTests := true, laidLooks := .later }
def CallsTurnsCardSaid : Prop := Claim7.holds Tryd.pinned (.plain (OpenSpec.ofChange callsTurnsSpec)) callsTurnsCard

/-- THE TIED CARD OF 'spruelaw17.RowsKinds'. -/
def rowsKindsCard : Claim7 := { stood := { row := rowsKindsRow, standIns := [], harness := (true, "f5c3b5af945d6ee3beec939952330efa1c4502c3013efc9d18e18d7a3ba25ce1"), looks := false }, kinds := [], alts := [], laidByText := true, laidKinds := [.data, .data, .data], laidTests := true, laidLooks := .later }
def RowsKindsCardSaid : Prop := Claim7.holds Tryd.pinned (.plain (OpenSpec.ofChange rowsKindsSpec)) rowsKindsCard

/-- THE TIED CARD OF 'spruelaw17.RowsDeep'. -/
def rowsDeepCard : Claim7 := { stood := { row := rowsDeepRow, standIns := [], harness := (true, "f5c3b5af945d6ee3beec939952330efa1c4502c3013efc9d18e18d7a3ba25ce1"), looks := false }, kinds := [], alts := [], laidByText := true, laidKinds := [.data, .data, .data], laidTests := true, laidLooks := .later }
def RowsDeepCardSaid : Prop := Claim7.holds Tryd.pinned (.plain (OpenSpec.ofChange rowsDeepSpec)) rowsDeepCard

/-- THE SECOND FORM's CARD OF 'spruelaw15.CallsTruths'. -/
def callsTruthsUptoCard : Claim7 := { stood := { row := callsTruthsUptoRow, standIns := [], harness := (true, "f5c3b5af945d6ee3beec939952330efa1c4502c3013efc9d18e18d7a3ba25ce1"), looks := false }, kinds := [], alts := [], laidByText := true, laidKinds := [.data, .data, .data], laidTests := true, laidLooks := .later }
def CallsTruthsUptoCardSaid : Prop := Claim7.holds Tryd.pinned (.plain (OpenSpec.upto callsTruthsSpec)) callsTruthsUptoCard

/-- THE SECOND FORM's CARD OF 'spruelaw15.CallsTurns'. -/
def callsTurnsUptoCard : Claim7 := { stood := { row := callsTurnsUptoRow, standIns := [], harness := (true, "f5c3b5af945d6ee3beec939952330efa1c4502c3013efc9d18e18d7a3ba25ce1"), looks := false }, kinds := [], alts := [], laidByText := true, laidKinds := [.data, .data, .data], laidTests := true, laidLooks := .later }
def CallsTurnsUptoCardSaid : Prop := Claim7.holds Tryd.pinned (.plain (OpenSpec.upto callsTurnsSpec)) callsTurnsUptoCard

/-- THE SECOND FORM's CARD OF 'spruelaw17.RowsKinds'. -/
def rowsKindsUptoCard : Claim7 := { stood := { row := rowsKindsUptoRow, standIns := [], harness := (true, "f5c3b5af945d6ee3beec939952330efa1c4502c3013efc9d18e18d7a3ba25ce1"), looks := false }, kinds := [], alts := [], laidByText := true, laidKinds := [.data, .data, .data], laidTests := true, laidLooks := .later }
def RowsKindsUptoCardSaid : Prop := Claim7.holds Tryd.pinned (.plain (OpenSpec.upto rowsKindsSpec)) rowsKindsUptoCard

/-- THE SECOND FORM's CARD OF 'spruelaw17.RowsDeep'. -/
def rowsDeepUptoCard : Claim7 := { stood := { row := rowsDeepUptoRow, standIns := [], harness := (true, "f5c3b5af945d6ee3beec939952330efa1c4502c3013efc9d18e18d7a3ba25ce1"), looks := false }, kinds := [], alts := [], laidByText := true, laidKinds := [.data, .data, .data], laidTests := true, laidLooks := .later }
def RowsDeepUptoCardSaid : Prop := Claim7.holds Tryd.pinned (.plain (OpenSpec.upto rowsDeepSpec)) rowsDeepUptoCard
end Rows
end Go.Proofs.YtkkbfljipfndgaaDoor
