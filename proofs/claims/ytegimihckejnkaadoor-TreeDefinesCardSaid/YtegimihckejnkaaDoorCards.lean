/-
  DERIVED. GIVEN WITH THE SEED: THE CARDS: each row of YtegimihckejnkaaDoorRows.lean that lists a variable, with what it lists TIED to the program's text (the seventh form; the later family's looks); each row that meets fmt, with fmt's text TOLD by the authors' own Lean function (tested against real Go, not proved from fmt's source: count such statements apart). THE CARD IS WHAT COUNTS. Prove the row's statement (the work); the ties are given (YtegimihckejnkaaDoorTie.lean); close each card by the builder's one call (the guide's Derived/Test/ToyasCard.lean, 'card_holds'). Laid BY PROGRAM, IN A SANDBOX (cutbox-door.mjs). By AI agents, Wed Nov 11 2026. No macro, syntax, notation, axiom, sorry.
-/
import Derived.Test.YtegimihckejnkaaDoorRows
import GoSem.ClaimSeven
namespace Go.Proofs.YtegimihckejnkaaDoor
namespace Rows

/-- THE TIED CARD OF 'spruelaw7.TreeDefines'. -/
def treeDefinesCard : Claim7 := { stood := { row := treeDefinesRow, standIns := [], harness := (true, "8e684793ec2326f5e6a8a5711c3e3cffd8d93f15adb1025b259fb97003f90adc"), looks := false }, kinds := [], alts := [], laidByText := true, laidKinds := [.data, .listed, .data, .pinned], laidTests := true, laidLooks := .later }
def TreeDefinesCardSaid : Prop := Claim7.holds Tryd.pinned (.plain (OpenSpec.ofChange treeDefinesSpec)) treeDefinesCard

/-- THE TIED CARD OF 'spruelaw7.TreeMatches'. -/
def treeMatchesCard : Claim7 := { stood := { row := treeMatchesRow, standIns := [], harness := (true, "8e684793ec2326f5e6a8a5711c3e3cffd8d93f15adb1025b259fb97003f90adc"), looks := false }, kinds := [], alts := [], laidByText := true, laidKinds := [.data, .listed, .data, .pinned], laidTests := true, laidLooks := .later }
def TreeMatchesCardSaid : Prop := Claim7.holds Tryd.pinned (.plain (OpenSpec.ofChange treeMatchesSpec)) treeMatchesCard

/-- THE TIED CARD OF 'spruelaw7.TreeElses'. -/
def treeElsesCard : Claim7 := { stood := { row := treeElsesRow, standIns := [], harness := (true, "8e684793ec2326f5e6a8a5711c3e3cffd8d93f15adb1025b259fb97003f90adc"), looks := false }, kinds := [], alts := [], laidByText := true, laidKinds := [.data, .listed, .data, .pinned], laidTests := true, laidLooks := .later }
def TreeElsesCardSaid : Prop := Claim7.holds Tryd.pinned (.plain (OpenSpec.ofChange treeElsesSpec)) treeElsesCard

/-- THE TIED CARD OF 'spruelaw7.TreeActions'. -/
def treeActionsCard : Claim7 := { stood := { row := treeActionsRow, standIns := [], harness := (true, "8e684793ec2326f5e6a8a5711c3e3cffd8d93f15adb1025b259fb97003f90adc"), looks := false }, kinds := [], alts := [], laidByText := true, laidKinds := [.data, .listed, .data, .pinned], laidTests := true, laidLooks := .later }
def TreeActionsCardSaid : Prop := Claim7.holds Tryd.pinned (.plain (OpenSpec.ofChange treeActionsSpec)) treeActionsCard

/-- THE TIED CARD OF 'spruelaw7.TreeBounds'. -/
def treeBoundsCard : Claim7 := { stood := { row := treeBoundsRow, standIns := [], harness := (true, "8e684793ec2326f5e6a8a5711c3e3cffd8d93f15adb1025b259fb97003f90adc"), looks := false }, kinds := [], alts := [], laidByText := true, laidKinds := [.data, .listed, .data, .pinned], laidTests := true, laidLooks := .later }
def TreeBoundsCardSaid : Prop := Claim7.holds Tryd.pinned (.plain (OpenSpec.ofChange treeBoundsSpec)) treeBoundsCard

/-- THE TIED CARD OF 'spruelaw7.TreePaths'. -/
def treePathsCard : Claim7 := { stood := { row := treePathsRow, standIns := [], harness := (true, "8e684793ec2326f5e6a8a5711c3e3cffd8d93f15adb1025b259fb97003f90adc"), looks := false }, kinds := [], alts := [], laidByText := true, laidKinds := [.data, .listed, .data, .pinned], laidTests := true, laidLooks := .later }
def TreePathsCardSaid : Prop := Claim7.holds Tryd.pinned (.plain (OpenSpec.ofChange treePathsSpec)) treePathsCard

/-- THE TIED CARD OF 'spruelaw7.TreeWords'. -/
def treeWordsCard : Claim7 := { stood := { row := treeWordsRow, standIns := [], harness := (true, "8e684793ec2326f5e6a8a5711c3e3cffd8d93f15adb1025b259fb97003f90adc"), looks := false }, kinds := [], alts := [], laidByText := true, laidKinds := [.data, .listed, .data, .pinned], laidTests := true, laidLooks := .later }
def TreeWordsCardSaid : Prop := Claim7.holds Tryd.pinned (.plain (OpenSpec.ofChange treeWordsSpec)) treeWordsCard

/-- THE TIED CARD OF 'spruelaw3.SchDeep'. -/
def schDeepCard : Claim7 := { stood := { row := schDeepRow, standIns := [], harness := (true, "8e684793ec2326f5e6a8a5711c3e3cffd8d93f15adb1025b259fb97003f90adc"), looks := false }, kinds := [], alts := [], laidByText := true, laidKinds := [.listed, .data], laidTests := true, laidLooks := .later }
def SchDeepCardSaid : Prop := Claim7.holds Tryd.pinned (.plain (OpenSpec.ofChange schDeepSpec)) schDeepCard

/-- THE TIED CARD OF 'spruelaw3.SchCommas'. -/
def schCommasCard : Claim7 := { stood := { row := schCommasRow, standIns := [], harness := (true, "8e684793ec2326f5e6a8a5711c3e3cffd8d93f15adb1025b259fb97003f90adc"), looks := false }, kinds := [], alts := [], laidByText := true, laidKinds := [.listed, .data], laidTests := true, laidLooks := .later }
def SchCommasCardSaid : Prop := Claim7.holds Tryd.pinned (.plain (OpenSpec.ofChange schCommasSpec)) schCommasCard

/-- THE TIED CARD OF 'spruelaw3.SchRows'. -/
def schRowsCard : Claim7 := { stood := { row := schRowsRow, standIns := [], harness := (true, "8e684793ec2326f5e6a8a5711c3e3cffd8d93f15adb1025b259fb97003f90adc"), looks := false }, kinds := [], alts := [], laidByText := true, laidKinds := [.listed, .data], laidTests := true, laidLooks := .later }
def SchRowsCardSaid : Prop := Claim7.holds Tryd.pinned (.plain (OpenSpec.ofChange schRowsSpec)) schRowsCard

/-- THE TIED CARD OF 'spruelaw1.ScanBounds'. -/
def scanBoundsCard : Claim7 := { stood := { row := scanBoundsRow, standIns := [], harness := (true, "8e684793ec2326f5e6a8a5711c3e3cffd8d93f15adb1025b259fb97003f90adc"), looks := false }, kinds := [], alts := [], laidByText := true, laidKinds := [.listed, .data], laidTests := true, laidLooks := .later }
def ScanBoundsCardSaid : Prop := Claim7.holds Tryd.pinned (.plain (OpenSpec.ofChange scanBoundsSpec)) scanBoundsCard

/-- THE SECOND FORM's CARD OF 'spruelaw7.TreeDefines'. -/
def treeDefinesUptoCard : Claim7 := { stood := { row := treeDefinesUptoRow, standIns := [], harness := (true, "8e684793ec2326f5e6a8a5711c3e3cffd8d93f15adb1025b259fb97003f90adc"), looks := false }, kinds := [], alts := [], laidByText := true, laidKinds := [.data, .listed, .data, .pinned], laidTests := true, laidLooks := .later }
def TreeDefinesUptoCardSaid : Prop := Claim7.holds Tryd.pinned (.plain (OpenSpec.upto treeDefinesSpec)) treeDefinesUptoCard

/-- THE SECOND FORM's CARD OF 'spruelaw7.TreeMatches'. -/
def treeMatchesUptoCard : Claim7 := { stood := { row := treeMatchesUptoRow, standIns := [], harness := (true, "8e684793ec2326f5e6a8a5711c3e3cffd8d93f15adb1025b259fb97003f90adc"), looks := false }, kinds := [], alts := [], laidByText := true, laidKinds := [.data, .listed, .data, .pinned], laidTests := true, laidLooks := .later }
def TreeMatchesUptoCardSaid : Prop := Claim7.holds Tryd.pinned (.plain (OpenSpec.upto treeMatchesSpec)) treeMatchesUptoCard

/-- THE SECOND FORM's CARD OF 'spruelaw7.TreeElses'. -/
def treeElsesUptoCard : Claim7 := { stood := { row := treeElsesUptoRow, standIns := [], harness := (true, "8e684793ec2326f5e6a8a5711c3e3cffd8d93f15adb1025b259fb97003f90adc"), looks := false }, kinds := [], alts := [], laidByText := true, laidKinds := [.data, .listed, .data, .pinned], laidTests := true, laidLooks := .later }
def TreeElsesUptoCardSaid : Prop := Claim7.holds Tryd.pinned (.plain (OpenSpec.upto treeElsesSpec)) treeElsesUptoCard

/-- THE SECOND FORM's CARD OF 'spruelaw7.TreeActions'. -/
def treeActionsUptoCard : Claim7 := { stood := { row := treeActionsUptoRow, standIns := [], harness := (true, "8e684793ec2326f5e6a8a5711c3e3cffd8d93f15adb1025b259fb97003f90adc"), looks := false }, kinds := [], alts := [], laidByText := true, laidKinds := [.data, .listed, .data, .pinned], laidTests := true, laidLooks := .later }
def TreeActionsUptoCardSaid : Prop := Claim7.holds Tryd.pinned (.plain (OpenSpec.upto treeActionsSpec)) treeActionsUptoCard

/-- THE SECOND FORM's CARD OF 'spruelaw7.TreeBounds'. -/
def treeBoundsUptoCard : Claim7 := { stood := { row := treeBoundsUptoRow, standIns := [], harness := (true, "8e684793ec2326f5e6a8a5711c3e3cffd8d93f15adb1025b259fb97003f90adc"), looks := false }, kinds := [], alts := [], laidByText := true, laidKinds := [.data, .listed, .data, .pinned], laidTests := true, laidLooks := .later }
def TreeBoundsUptoCardSaid : Prop := Claim7.holds Tryd.pinned (.plain (OpenSpec.upto treeBoundsSpec)) treeBoundsUptoCard

/-- THE SECOND FORM's CARD OF 'spruelaw7.TreePaths'. -/
def treePathsUptoCard : Claim7 := { stood := { row := treePathsUptoRow, standIns := [], harness := (true, "8e684793ec2326f5e6a8a5711c3e3cffd8d93f15adb1025b259fb97003f90adc"), looks := false }, kinds := [], alts := [], laidByText := true, laidKinds := [.data, .listed, .data, .pinned], laidTests := true, laidLooks := .later }
def TreePathsUptoCardSaid : Prop := Claim7.holds Tryd.pinned (.plain (OpenSpec.upto treePathsSpec)) treePathsUptoCard

/-- THE SECOND FORM's CARD OF 'spruelaw7.TreeWords'. -/
def treeWordsUptoCard : Claim7 := { stood := { row := treeWordsUptoRow, standIns := [], harness := (true, "8e684793ec2326f5e6a8a5711c3e3cffd8d93f15adb1025b259fb97003f90adc"), looks := false }, kinds := [], alts := [], laidByText := true, laidKinds := [.data, .listed, .data, .pinned], laidTests := true, laidLooks := .later }
def TreeWordsUptoCardSaid : Prop := Claim7.holds Tryd.pinned (.plain (OpenSpec.upto treeWordsSpec)) treeWordsUptoCard

/-- THE SECOND FORM's CARD OF 'spruelaw3.SchDeep'. -/
def schDeepUptoCard : Claim7 := { stood := { row := schDeepUptoRow, standIns := [], harness := (true, "8e684793ec2326f5e6a8a5711c3e3cffd8d93f15adb1025b259fb97003f90adc"), looks := false }, kinds := [], alts := [], laidByText := true, laidKinds := [.listed, .data], laidTests := true, laidLooks := .later }
def SchDeepUptoCardSaid : Prop := Claim7.holds Tryd.pinned (.plain (OpenSpec.upto schDeepSpec)) schDeepUptoCard

/-- THE SECOND FORM's CARD OF 'spruelaw3.SchCommas'. -/
def schCommasUptoCard : Claim7 := { stood := { row := schCommasUptoRow, standIns := [], harness := (true, "8e684793ec2326f5e6a8a5711c3e3cffd8d93f15adb1025b259fb97003f90adc"), looks := false }, kinds := [], alts := [], laidByText := true, laidKinds := [.listed, .data], laidTests := true, laidLooks := .later }
def SchCommasUptoCardSaid : Prop := Claim7.holds Tryd.pinned (.plain (OpenSpec.upto schCommasSpec)) schCommasUptoCard

/-- THE SECOND FORM's CARD OF 'spruelaw3.SchRows'. -/
def schRowsUptoCard : Claim7 := { stood := { row := schRowsUptoRow, standIns := [], harness := (true, "8e684793ec2326f5e6a8a5711c3e3cffd8d93f15adb1025b259fb97003f90adc"), looks := false }, kinds := [], alts := [], laidByText := true, laidKinds := [.listed, .data], laidTests := true, laidLooks := .later }
def SchRowsUptoCardSaid : Prop := Claim7.holds Tryd.pinned (.plain (OpenSpec.upto schRowsSpec)) schRowsUptoCard

/-- THE SECOND FORM's CARD OF 'spruelaw1.ScanBounds'. -/
def scanBoundsUptoCard : Claim7 := { stood := { row := scanBoundsUptoRow, standIns := [], harness := (true, "8e684793ec2326f5e6a8a5711c3e3cffd8d93f15adb1025b259fb97003f90adc"), looks := false }, kinds := [], alts := [], laidByText := true, laidKinds := [.listed, .data], laidTests := true, laidLooks := .later }
def ScanBoundsUptoCardSaid : Prop := Claim7.holds Tryd.pinned (.plain (OpenSpec.upto scanBoundsSpec)) scanBoundsUptoCard
end Rows
end Go.Proofs.YtegimihckejnkaaDoor
