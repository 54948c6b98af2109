/-
  NARROWER THAN 'FOR EVERY INPUT', by the rows' own cells (each row's printed sentence says how): FitsPaths: laid · FitsFills: laid · RowsWords: laid · RowsMany: laid · RowsPack: loops, laid · RowsAgain: loops, laid · CallsPlaces: loops, laid · CallsTexts: laid · CallsEvals: loops, laid · CallsScripts: loops, laid.
  DERIVED. THE GIVEN ROWS OF THIS SEAT. 10 by the template 'for every input the law returns true; each argument reads behind the call as it read before'; 0 by the template 'total and deterministic' (their statements: YtlkejchbcchecaaDoorTotals.lean).
  GIVEN WITH THE SEED: the statements are not yours to turn. If you find one false, say at which input.
  Laid BY PROGRAM, IN A SANDBOX (cutbox-rows.mjs): the forced cells as the released guide's own fill.sh prints them over the translation 25aa8f641150002a… (all of the seat's roots in one cut). By AI agents, Wed Nov 11 2026. No macro, syntax, notation, axiom, sorry.
-/
import Derived.Test.YtlkejchbcchecaaDoorChecked
import GoSem.Claim
import GoSem.ClaimJoined
import GoSem.ClaimMapViews
import Derived.JoinedTies
import Derived.KernelRfl
namespace Go.Proofs.YtlkejchbcchecaaDoor
/- THE CELL 'sum', in the pinned program and in every row, IS THE sha256 OF THE DUMP (.gsa) THAT YtlkejchbcchecaaDoorProg.lean LOADS. Nothing in Lean hashes anything: it is a label: what it is worth is what the hold of that sum in a sandbox is worth. -/
noncomputable def Tryd.pinned : Pinned := { name := "ytlkejchbcchecaadoor", sum := "25aa8f641150002ab610ea239388f1def51950a58370f5b9d35b1afd7ab7c64f", checked := Tryd.checked }
namespace Rows
def none {H : Type} : Left H := { results := [], args := [] }

/- WHAT THE LISTED PACKAGE-LEVEL VARIABLES READ AS WHEN THE CALL BEGINS. Each datum BY PROGRAM (the guide's laid-datum.mjs) off the statement by which the dump's own 'gosem.cut.vars' lays the variable. In a bare row this is a premise. The card (YtlkejchbcchecaaDoorCards.lean) ties it to the program's text. -/
def laid_math_bits_deBruijn32tab {H : Type} : DataW H := .agg [.lit (.int .u8 0), .lit (.int .u8 1), .lit (.int .u8 28), .lit (.int .u8 2), .lit (.int .u8 29), .lit (.int .u8 14), .lit (.int .u8 24), .lit (.int .u8 3), .lit (.int .u8 30), .lit (.int .u8 22), .lit (.int .u8 20), .lit (.int .u8 15), .lit (.int .u8 25), .lit (.int .u8 17), .lit (.int .u8 4), .lit (.int .u8 8), .lit (.int .u8 31), .lit (.int .u8 27), .lit (.int .u8 13), .lit (.int .u8 23), .lit (.int .u8 21), .lit (.int .u8 19), .lit (.int .u8 16), .lit (.int .u8 7), .lit (.int .u8 26), .lit (.int .u8 12), .lit (.int .u8 18), .lit (.int .u8 6), .lit (.int .u8 11), .lit (.int .u8 5), .lit (.int .u8 10), .lit (.int .u8 9)]
def laid_math_bits_deBruijn64tab {H : Type} : DataW H := .agg [.lit (.int .u8 0), .lit (.int .u8 1), .lit (.int .u8 56), .lit (.int .u8 2), .lit (.int .u8 57), .lit (.int .u8 49), .lit (.int .u8 28), .lit (.int .u8 3), .lit (.int .u8 61), .lit (.int .u8 58), .lit (.int .u8 42), .lit (.int .u8 50), .lit (.int .u8 38), .lit (.int .u8 29), .lit (.int .u8 17), .lit (.int .u8 4), .lit (.int .u8 62), .lit (.int .u8 47), .lit (.int .u8 59), .lit (.int .u8 36), .lit (.int .u8 45), .lit (.int .u8 43), .lit (.int .u8 51), .lit (.int .u8 22), .lit (.int .u8 53), .lit (.int .u8 39), .lit (.int .u8 33), .lit (.int .u8 30), .lit (.int .u8 24), .lit (.int .u8 18), .lit (.int .u8 12), .lit (.int .u8 5), .lit (.int .u8 63), .lit (.int .u8 55), .lit (.int .u8 48), .lit (.int .u8 27), .lit (.int .u8 60), .lit (.int .u8 41), .lit (.int .u8 37), .lit (.int .u8 16), .lit (.int .u8 46), .lit (.int .u8 35), .lit (.int .u8 44), .lit (.int .u8 21), .lit (.int .u8 52), .lit (.int .u8 32), .lit (.int .u8 23), .lit (.int .u8 11), .lit (.int .u8 54), .lit (.int .u8 26), .lit (.int .u8 40), .lit (.int .u8 15), .lit (.int .u8 34), .lit (.int .u8 20), .lit (.int .u8 31), .lit (.int .u8 10), .lit (.int .u8 25), .lit (.int .u8 14), .lit (.int .u8 19), .lit (.int .u8 9), .lit (.int .u8 13), .lit (.int .u8 8), .lit (.int .u8 7), .lit (.int .u8 6)]
def laid_internal_strconv_uint64pow10 {H : Type} : DataW H := .agg [.lit (.int .u64 1), .lit (.int .u64 10), .lit (.int .u64 100), .lit (.int .u64 1000), .lit (.int .u64 10000), .lit (.int .u64 100000), .lit (.int .u64 1000000), .lit (.int .u64 10000000), .lit (.int .u64 100000000), .lit (.int .u64 1000000000), .lit (.int .u64 10000000000), .lit (.int .u64 100000000000), .lit (.int .u64 1000000000000), .lit (.int .u64 10000000000000), .lit (.int .u64 100000000000000), .lit (.int .u64 1000000000000000), .lit (.int .u64 10000000000000000), .lit (.int .u64 100000000000000000), .lit (.int .u64 1000000000000000000), .lit (.int .u64 10000000000000000000)]

/-- 'spruelaw14.FitsPaths': WHATEVER THE INPUT: true; the input reads as it did. -/
def fitsPathsSpec : ChangeSpec := { name := "fitsPaths", fn := fun _ => fun
  | [d] => { results := [.lit (.bool true)], args := [d] }
  | _ => none }
def fitsPathsRow : OpenClaim := { program := "ytlkejchbcchecaadoor", sum := "25aa8f641150002ab610ea239388f1def51950a58370f5b9d35b1afd7ab7c64f", func := "sprue/spruelaw14.FitsPaths", spec := "fitsPaths", unfollowed := true, recurses := true, named := ["internal/strconv.uint64pow10", "math/bits.deBruijn32tab", "math/bits.deBruijn64tab"], apart := false, laid := [("math/bits.deBruijn32tab", laid_math_bits_deBruijn32tab), ("math/bits.deBruijn64tab", laid_math_bits_deBruijn64tab), ("internal/strconv.uint64pow10", laid_internal_strconv_uint64pow10)] }
def FitsPathsSaid : Prop := fitsPathsRow.holds Tryd.pinned (OpenSpec.ofChange fitsPathsSpec)

/-- ITS FALSE NEIGHBOUR: 'it returns false'. Refute it at one input. -/
def fitsPathsWrong : ChangeSpec := { name := "fitsPaths", fn := fun _ => fun
  | [d] => { results := [.lit (.bool false)], args := [d] }
  | _ => none }
def FitsPathsWrongFalsely : Prop := fitsPathsRow.holds Tryd.pinned (OpenSpec.ofChange fitsPathsWrong)

/-- 'spruelaw14.FitsFills': WHATEVER THE INPUT: true; the input reads as it did. -/
def fitsFillsSpec : ChangeSpec := { name := "fitsFills", fn := fun _ => fun
  | [d] => { results := [.lit (.bool true)], args := [d] }
  | _ => none }
def fitsFillsRow : OpenClaim := { program := "ytlkejchbcchecaadoor", sum := "25aa8f641150002ab610ea239388f1def51950a58370f5b9d35b1afd7ab7c64f", func := "sprue/spruelaw14.FitsFills", spec := "fitsFills", unfollowed := true, recurses := true, named := ["internal/strconv.uint64pow10", "math/bits.deBruijn32tab", "math/bits.deBruijn64tab"], apart := false, laid := [("math/bits.deBruijn32tab", laid_math_bits_deBruijn32tab), ("math/bits.deBruijn64tab", laid_math_bits_deBruijn64tab), ("internal/strconv.uint64pow10", laid_internal_strconv_uint64pow10)] }
def FitsFillsSaid : Prop := fitsFillsRow.holds Tryd.pinned (OpenSpec.ofChange fitsFillsSpec)

/-- ITS FALSE NEIGHBOUR: 'it returns false'. Refute it at one input. -/
def fitsFillsWrong : ChangeSpec := { name := "fitsFills", fn := fun _ => fun
  | [d] => { results := [.lit (.bool false)], args := [d] }
  | _ => none }
def FitsFillsWrongFalsely : Prop := fitsFillsRow.holds Tryd.pinned (OpenSpec.ofChange fitsFillsWrong)

/-- 'spruelaw17.RowsWords': WHATEVER THE INPUT: true; the input reads as it did. -/
def rowsWordsSpec : ChangeSpec := { name := "rowsWords", fn := fun _ => fun
  | [d1, d2, d3, d4] => { results := [.lit (.bool true)], args := [d1, d2, d3, d4] }
  | _ => none }
def rowsWordsRow : OpenClaim := { program := "ytlkejchbcchecaadoor", sum := "25aa8f641150002ab610ea239388f1def51950a58370f5b9d35b1afd7ab7c64f", func := "sprue/spruelaw17.RowsWords", spec := "rowsWords", unfollowed := true, recurses := true, named := ["internal/strconv.uint64pow10", "math/bits.deBruijn32tab", "math/bits.deBruijn64tab"], apart := false, laid := [("math/bits.deBruijn32tab", laid_math_bits_deBruijn32tab), ("math/bits.deBruijn64tab", laid_math_bits_deBruijn64tab), ("internal/strconv.uint64pow10", laid_internal_strconv_uint64pow10)] }
def RowsWordsSaid : Prop := rowsWordsRow.holds Tryd.pinned (OpenSpec.ofChange rowsWordsSpec)

/-- ITS FALSE NEIGHBOUR: 'it returns false'. Refute it at one input. -/
def rowsWordsWrong : ChangeSpec := { name := "rowsWords", fn := fun _ => fun
  | [d1, d2, d3, d4] => { results := [.lit (.bool false)], args := [d1, d2, d3, d4] }
  | _ => none }
def RowsWordsWrongFalsely : Prop := rowsWordsRow.holds Tryd.pinned (OpenSpec.ofChange rowsWordsWrong)

/-- 'spruelaw17.RowsMany': WHATEVER THE INPUT: true; the input reads as it did. -/
def rowsManySpec : ChangeSpec := { name := "rowsMany", fn := fun _ => fun
  | [d1, d2, d3] => { results := [.lit (.bool true)], args := [d1, d2, d3] }
  | _ => none }
def rowsManyRow : OpenClaim := { program := "ytlkejchbcchecaadoor", sum := "25aa8f641150002ab610ea239388f1def51950a58370f5b9d35b1afd7ab7c64f", func := "sprue/spruelaw17.RowsMany", spec := "rowsMany", unfollowed := true, recurses := true, named := ["internal/strconv.uint64pow10", "math/bits.deBruijn32tab", "math/bits.deBruijn64tab"], apart := false, laid := [("math/bits.deBruijn32tab", laid_math_bits_deBruijn32tab), ("math/bits.deBruijn64tab", laid_math_bits_deBruijn64tab), ("internal/strconv.uint64pow10", laid_internal_strconv_uint64pow10)] }
def RowsManySaid : Prop := rowsManyRow.holds Tryd.pinned (OpenSpec.ofChange rowsManySpec)

/-- ITS FALSE NEIGHBOUR: 'it returns false'. Refute it at one input. -/
def rowsManyWrong : ChangeSpec := { name := "rowsMany", fn := fun _ => fun
  | [d1, d2, d3] => { results := [.lit (.bool false)], args := [d1, d2, d3] }
  | _ => none }
def RowsManyWrongFalsely : Prop := rowsManyRow.holds Tryd.pinned (OpenSpec.ofChange rowsManyWrong)

/-- 'spruelaw17.RowsPack': WHATEVER THE INPUT: true; the input reads as it did. -/
def rowsPackSpec : ChangeSpec := { name := "rowsPack", fn := fun _ => fun
  | [d1, d2, d3, d4, d5, d6] => { results := [.lit (.bool true)], args := [d1, d2, d3, d4, d5, d6] }
  | _ => none }
def rowsPackRow : OpenClaim := { program := "ytlkejchbcchecaadoor", sum := "25aa8f641150002ab610ea239388f1def51950a58370f5b9d35b1afd7ab7c64f", func := "sprue/spruelaw17.RowsPack", spec := "rowsPack", unfollowed := true, recurses := true, named := ["internal/strconv.uint64pow10", "math/bits.deBruijn32tab", "math/bits.deBruijn64tab"], loops := true, apart := false, laid := [("math/bits.deBruijn32tab", laid_math_bits_deBruijn32tab), ("math/bits.deBruijn64tab", laid_math_bits_deBruijn64tab), ("internal/strconv.uint64pow10", laid_internal_strconv_uint64pow10)] }
def RowsPackSaid : Prop := rowsPackRow.holds Tryd.pinned (OpenSpec.ofChange rowsPackSpec)

/-- ITS FALSE NEIGHBOUR: 'it returns false'. Refute it at one input. -/
def rowsPackWrong : ChangeSpec := { name := "rowsPack", fn := fun _ => fun
  | [d1, d2, d3, d4, d5, d6] => { results := [.lit (.bool false)], args := [d1, d2, d3, d4, d5, d6] }
  | _ => none }
def RowsPackWrongFalsely : Prop := rowsPackRow.holds Tryd.pinned (OpenSpec.ofChange rowsPackWrong)

/-- 'spruelaw17.RowsAgain': WHATEVER THE INPUT: true; the input reads as it did. -/
def rowsAgainSpec : ChangeSpec := { name := "rowsAgain", fn := fun _ => fun
  | [d1, d2, d3, d4] => { results := [.lit (.bool true)], args := [d1, d2, d3, d4] }
  | _ => none }
def rowsAgainRow : OpenClaim := { program := "ytlkejchbcchecaadoor", sum := "25aa8f641150002ab610ea239388f1def51950a58370f5b9d35b1afd7ab7c64f", func := "sprue/spruelaw17.RowsAgain", spec := "rowsAgain", unfollowed := true, recurses := true, named := ["internal/strconv.uint64pow10", "math/bits.deBruijn32tab", "math/bits.deBruijn64tab"], loops := true, apart := false, laid := [("math/bits.deBruijn32tab", laid_math_bits_deBruijn32tab), ("math/bits.deBruijn64tab", laid_math_bits_deBruijn64tab), ("internal/strconv.uint64pow10", laid_internal_strconv_uint64pow10)] }
def RowsAgainSaid : Prop := rowsAgainRow.holds Tryd.pinned (OpenSpec.ofChange rowsAgainSpec)

/-- ITS FALSE NEIGHBOUR: 'it returns false'. Refute it at one input. -/
def rowsAgainWrong : ChangeSpec := { name := "rowsAgain", fn := fun _ => fun
  | [d1, d2, d3, d4] => { results := [.lit (.bool false)], args := [d1, d2, d3, d4] }
  | _ => none }
def RowsAgainWrongFalsely : Prop := rowsAgainRow.holds Tryd.pinned (OpenSpec.ofChange rowsAgainWrong)

/-- 'spruelaw15.CallsPlaces': WHATEVER THE INPUT: true; the input reads as it did. -/
def callsPlacesSpec : ChangeSpec := { name := "callsPlaces", fn := fun _ => fun
  | [d1, d2, d3] => { results := [.lit (.bool true)], args := [d1, d2, d3] }
  | _ => none }
def callsPlacesRow : OpenClaim := { program := "ytlkejchbcchecaadoor", sum := "25aa8f641150002ab610ea239388f1def51950a58370f5b9d35b1afd7ab7c64f", func := "sprue/spruelaw15.CallsPlaces", spec := "callsPlaces", inPlace := ["internal/bytealg.IndexByteString", "internal/bytealg.IndexString"], unfollowed := true, recurses := true, named := ["internal/bytealg.MaxLen", "internal/strconv.uint64pow10", "math/bits.deBruijn32tab", "math/bits.deBruijn64tab"], loops := true, apart := false, laid := [("math/bits.deBruijn32tab", laid_math_bits_deBruijn32tab), ("math/bits.deBruijn64tab", laid_math_bits_deBruijn64tab), ("internal/strconv.uint64pow10", laid_internal_strconv_uint64pow10)] }
def CallsPlacesSaid : Prop := callsPlacesRow.holds Tryd.pinned (OpenSpec.ofChange callsPlacesSpec)

/-- ITS FALSE NEIGHBOUR: 'it returns false'. Refute it at one input. -/
def callsPlacesWrong : ChangeSpec := { name := "callsPlaces", fn := fun _ => fun
  | [d1, d2, d3] => { results := [.lit (.bool false)], args := [d1, d2, d3] }
  | _ => none }
def CallsPlacesWrongFalsely : Prop := callsPlacesRow.holds Tryd.pinned (OpenSpec.ofChange callsPlacesWrong)

/-- 'spruelaw15.CallsTexts': WHATEVER THE INPUT: true; the input reads as it did. -/
def callsTextsSpec : ChangeSpec := { name := "callsTexts", fn := fun _ => fun
  | [d1, d2, d3] => { results := [.lit (.bool true)], args := [d1, d2, d3] }
  | _ => none }
def callsTextsRow : OpenClaim := { program := "ytlkejchbcchecaadoor", sum := "25aa8f641150002ab610ea239388f1def51950a58370f5b9d35b1afd7ab7c64f", func := "sprue/spruelaw15.CallsTexts", spec := "callsTexts", inPlace := ["internal/bytealg.IndexByteString", "internal/bytealg.IndexString"], unfollowed := true, recurses := true, named := ["internal/bytealg.MaxLen", "internal/strconv.uint64pow10", "math/bits.deBruijn32tab", "math/bits.deBruijn64tab"], apart := false, laid := [("math/bits.deBruijn32tab", laid_math_bits_deBruijn32tab), ("math/bits.deBruijn64tab", laid_math_bits_deBruijn64tab), ("internal/strconv.uint64pow10", laid_internal_strconv_uint64pow10)] }
def CallsTextsSaid : Prop := callsTextsRow.holds Tryd.pinned (OpenSpec.ofChange callsTextsSpec)

/-- ITS FALSE NEIGHBOUR: 'it returns false'. Refute it at one input. -/
def callsTextsWrong : ChangeSpec := { name := "callsTexts", fn := fun _ => fun
  | [d1, d2, d3] => { results := [.lit (.bool false)], args := [d1, d2, d3] }
  | _ => none }
def CallsTextsWrongFalsely : Prop := callsTextsRow.holds Tryd.pinned (OpenSpec.ofChange callsTextsWrong)

/-- 'spruelaw15.CallsEvals': WHATEVER THE INPUT: true; the input reads as it did. -/
def callsEvalsSpec : ChangeSpec := { name := "callsEvals", fn := fun _ => fun
  | [d1, d2, d3, d4] => { results := [.lit (.bool true)], args := [d1, d2, d3, d4] }
  | _ => none }
def callsEvalsRow : OpenClaim := { program := "ytlkejchbcchecaadoor", sum := "25aa8f641150002ab610ea239388f1def51950a58370f5b9d35b1afd7ab7c64f", func := "sprue/spruelaw15.CallsEvals", spec := "callsEvals", inPlace := ["internal/bytealg.IndexByteString", "internal/bytealg.IndexString"], unfollowed := true, recurses := true, named := ["internal/bytealg.MaxLen", "internal/strconv.uint64pow10", "math/bits.deBruijn32tab", "math/bits.deBruijn64tab"], loops := true, apart := false, laid := [("math/bits.deBruijn32tab", laid_math_bits_deBruijn32tab), ("math/bits.deBruijn64tab", laid_math_bits_deBruijn64tab), ("internal/strconv.uint64pow10", laid_internal_strconv_uint64pow10)] }
def CallsEvalsSaid : Prop := callsEvalsRow.holds Tryd.pinned (OpenSpec.ofChange callsEvalsSpec)

/-- ITS FALSE NEIGHBOUR: 'it returns false'. Refute it at one input. -/
def callsEvalsWrong : ChangeSpec := { name := "callsEvals", fn := fun _ => fun
  | [d1, d2, d3, d4] => { results := [.lit (.bool false)], args := [d1, d2, d3, d4] }
  | _ => none }
def CallsEvalsWrongFalsely : Prop := callsEvalsRow.holds Tryd.pinned (OpenSpec.ofChange callsEvalsWrong)

/-- 'spruelaw15.CallsScripts': WHATEVER THE INPUT: true; the input reads as it did. -/
def callsScriptsSpec : ChangeSpec := { name := "callsScripts", fn := fun _ => fun
  | [d1, d2, d3, d4, d5] => { results := [.lit (.bool true)], args := [d1, d2, d3, d4, d5] }
  | _ => none }
def callsScriptsRow : OpenClaim := { program := "ytlkejchbcchecaadoor", sum := "25aa8f641150002ab610ea239388f1def51950a58370f5b9d35b1afd7ab7c64f", func := "sprue/spruelaw15.CallsScripts", spec := "callsScripts", inPlace := ["internal/bytealg.IndexByteString", "internal/bytealg.IndexString"], unfollowed := true, recurses := true, named := ["internal/bytealg.MaxLen", "internal/strconv.uint64pow10", "math/bits.deBruijn32tab", "math/bits.deBruijn64tab"], loops := true, apart := false, laid := [("math/bits.deBruijn32tab", laid_math_bits_deBruijn32tab), ("math/bits.deBruijn64tab", laid_math_bits_deBruijn64tab), ("internal/strconv.uint64pow10", laid_internal_strconv_uint64pow10)] }
def CallsScriptsSaid : Prop := callsScriptsRow.holds Tryd.pinned (OpenSpec.ofChange callsScriptsSpec)

/-- ITS FALSE NEIGHBOUR: 'it returns false'. Refute it at one input. -/
def callsScriptsWrong : ChangeSpec := { name := "callsScripts", fn := fun _ => fun
  | [d1, d2, d3, d4, d5] => { results := [.lit (.bool false)], args := [d1, d2, d3, d4, d5] }
  | _ => none }
def CallsScriptsWrongFalsely : Prop := callsScriptsRow.holds Tryd.pinned (OpenSpec.ofChange callsScriptsWrong)

/- THE SECOND FORM. 'bulk': how many values and letters a reading holds, each counted each time it is reached (what is shared counts as often as it is met; a slice's spare places count too). A statement '..UptoSaid' is the law's where the arguments, and the package variables that the reading takes, are together of bulk at most 1048576: NARROWER than '..Said'. Prove '..Said' where nothing that the law and all that it calls make is longer than what came in: it says more and counts as full. Else prove '..UptoSaid'. A law counts once. -/
mutual
def uptoBulk {H : Type} : DataW H → Nat
  | .lit (.string bytes) => bytes.length + 1
  | .lit _ => 1
  | .nil => 1
  | .ptr d => uptoBulk d + 1
  | .slice elems spare => uptoBulkAll elems + uptoBulkAll spare + 1
  | .agg parts => uptoBulkAll parts + 1
  | .iface _ d => uptoBulk d + 1
  | .map entries => uptoBulkEntries entries + 1
  | .held _ => 1
def uptoBulkAll {H : Type} : List (DataW H) → Nat
  | [] => 0
  | d :: r => uptoBulk d + uptoBulkAll r
def uptoBulkEntries {H : Type} : List (Lit × DataW H) → Nat
  | [] => 0
  | x :: r => uptoBulkEntry x + uptoBulkEntries r
def uptoBulkEntry {H : Type} : Lit × DataW H → Nat
  | (.string bytes, d) => bytes.length + uptoBulk d + 1
  | (_, d) => uptoBulk d + 1
 end
def uptoSmall : (H : Type) → List (DataW H) → Bool := fun _ ds => decide (uptoBulkAll ds ≤ 1048576)
def OpenSpec.upto (s : _root_.Go.ChangeSpec) : _root_.Go.OpenSpec := { _root_.Go.OpenSpec.ofChange s with cond := some uptoSmall }

/-- 'spruelaw14.FitsPaths', WHERE WHAT IT READS IS OF BULK AT MOST 1048576: true; the input reads as it did. -/
def fitsPathsUptoRow : OpenClaim := { program := "ytlkejchbcchecaadoor", sum := "25aa8f641150002ab610ea239388f1def51950a58370f5b9d35b1afd7ab7c64f", func := "sprue/spruelaw14.FitsPaths", spec := "fitsPaths", unfollowed := true, recurses := true, named := ["internal/strconv.uint64pow10", "math/bits.deBruijn32tab", "math/bits.deBruijn64tab"], apart := false, laid := [("math/bits.deBruijn32tab", laid_math_bits_deBruijn32tab), ("math/bits.deBruijn64tab", laid_math_bits_deBruijn64tab), ("internal/strconv.uint64pow10", laid_internal_strconv_uint64pow10)], narrowed := true }
def FitsPathsUptoSaid : Prop := fitsPathsUptoRow.holds Tryd.pinned (OpenSpec.upto fitsPathsSpec)

/-- 'spruelaw14.FitsFills', WHERE WHAT IT READS IS OF BULK AT MOST 1048576: true; the input reads as it did. -/
def fitsFillsUptoRow : OpenClaim := { program := "ytlkejchbcchecaadoor", sum := "25aa8f641150002ab610ea239388f1def51950a58370f5b9d35b1afd7ab7c64f", func := "sprue/spruelaw14.FitsFills", spec := "fitsFills", unfollowed := true, recurses := true, named := ["internal/strconv.uint64pow10", "math/bits.deBruijn32tab", "math/bits.deBruijn64tab"], apart := false, laid := [("math/bits.deBruijn32tab", laid_math_bits_deBruijn32tab), ("math/bits.deBruijn64tab", laid_math_bits_deBruijn64tab), ("internal/strconv.uint64pow10", laid_internal_strconv_uint64pow10)], narrowed := true }
def FitsFillsUptoSaid : Prop := fitsFillsUptoRow.holds Tryd.pinned (OpenSpec.upto fitsFillsSpec)

/-- 'spruelaw17.RowsWords', WHERE WHAT IT READS IS OF BULK AT MOST 1048576: true; the input reads as it did. -/
def rowsWordsUptoRow : OpenClaim := { program := "ytlkejchbcchecaadoor", sum := "25aa8f641150002ab610ea239388f1def51950a58370f5b9d35b1afd7ab7c64f", func := "sprue/spruelaw17.RowsWords", spec := "rowsWords", unfollowed := true, recurses := true, named := ["internal/strconv.uint64pow10", "math/bits.deBruijn32tab", "math/bits.deBruijn64tab"], apart := false, laid := [("math/bits.deBruijn32tab", laid_math_bits_deBruijn32tab), ("math/bits.deBruijn64tab", laid_math_bits_deBruijn64tab), ("internal/strconv.uint64pow10", laid_internal_strconv_uint64pow10)], narrowed := true }
def RowsWordsUptoSaid : Prop := rowsWordsUptoRow.holds Tryd.pinned (OpenSpec.upto rowsWordsSpec)

/-- 'spruelaw17.RowsMany', WHERE WHAT IT READS IS OF BULK AT MOST 1048576: true; the input reads as it did. -/
def rowsManyUptoRow : OpenClaim := { program := "ytlkejchbcchecaadoor", sum := "25aa8f641150002ab610ea239388f1def51950a58370f5b9d35b1afd7ab7c64f", func := "sprue/spruelaw17.RowsMany", spec := "rowsMany", unfollowed := true, recurses := true, named := ["internal/strconv.uint64pow10", "math/bits.deBruijn32tab", "math/bits.deBruijn64tab"], apart := false, laid := [("math/bits.deBruijn32tab", laid_math_bits_deBruijn32tab), ("math/bits.deBruijn64tab", laid_math_bits_deBruijn64tab), ("internal/strconv.uint64pow10", laid_internal_strconv_uint64pow10)], narrowed := true }
def RowsManyUptoSaid : Prop := rowsManyUptoRow.holds Tryd.pinned (OpenSpec.upto rowsManySpec)

/-- 'spruelaw17.RowsPack', WHERE WHAT IT READS IS OF BULK AT MOST 1048576: true; the input reads as it did. -/
def rowsPackUptoRow : OpenClaim := { program := "ytlkejchbcchecaadoor", sum := "25aa8f641150002ab610ea239388f1def51950a58370f5b9d35b1afd7ab7c64f", func := "sprue/spruelaw17.RowsPack", spec := "rowsPack", unfollowed := true, recurses := true, named := ["internal/strconv.uint64pow10", "math/bits.deBruijn32tab", "math/bits.deBruijn64tab"], loops := true, apart := false, laid := [("math/bits.deBruijn32tab", laid_math_bits_deBruijn32tab), ("math/bits.deBruijn64tab", laid_math_bits_deBruijn64tab), ("internal/strconv.uint64pow10", laid_internal_strconv_uint64pow10)], narrowed := true }
def RowsPackUptoSaid : Prop := rowsPackUptoRow.holds Tryd.pinned (OpenSpec.upto rowsPackSpec)

/-- 'spruelaw17.RowsAgain', WHERE WHAT IT READS IS OF BULK AT MOST 1048576: true; the input reads as it did. -/
def rowsAgainUptoRow : OpenClaim := { program := "ytlkejchbcchecaadoor", sum := "25aa8f641150002ab610ea239388f1def51950a58370f5b9d35b1afd7ab7c64f", func := "sprue/spruelaw17.RowsAgain", spec := "rowsAgain", unfollowed := true, recurses := true, named := ["internal/strconv.uint64pow10", "math/bits.deBruijn32tab", "math/bits.deBruijn64tab"], loops := true, apart := false, laid := [("math/bits.deBruijn32tab", laid_math_bits_deBruijn32tab), ("math/bits.deBruijn64tab", laid_math_bits_deBruijn64tab), ("internal/strconv.uint64pow10", laid_internal_strconv_uint64pow10)], narrowed := true }
def RowsAgainUptoSaid : Prop := rowsAgainUptoRow.holds Tryd.pinned (OpenSpec.upto rowsAgainSpec)

/-- 'spruelaw15.CallsPlaces', WHERE WHAT IT READS IS OF BULK AT MOST 1048576: true; the input reads as it did. -/
def callsPlacesUptoRow : OpenClaim := { program := "ytlkejchbcchecaadoor", sum := "25aa8f641150002ab610ea239388f1def51950a58370f5b9d35b1afd7ab7c64f", func := "sprue/spruelaw15.CallsPlaces", spec := "callsPlaces", inPlace := ["internal/bytealg.IndexByteString", "internal/bytealg.IndexString"], unfollowed := true, recurses := true, named := ["internal/bytealg.MaxLen", "internal/strconv.uint64pow10", "math/bits.deBruijn32tab", "math/bits.deBruijn64tab"], loops := true, apart := false, laid := [("math/bits.deBruijn32tab", laid_math_bits_deBruijn32tab), ("math/bits.deBruijn64tab", laid_math_bits_deBruijn64tab), ("internal/strconv.uint64pow10", laid_internal_strconv_uint64pow10)], narrowed := true }
def CallsPlacesUptoSaid : Prop := callsPlacesUptoRow.holds Tryd.pinned (OpenSpec.upto callsPlacesSpec)

/-- 'spruelaw15.CallsTexts', WHERE WHAT IT READS IS OF BULK AT MOST 1048576: true; the input reads as it did. -/
def callsTextsUptoRow : OpenClaim := { program := "ytlkejchbcchecaadoor", sum := "25aa8f641150002ab610ea239388f1def51950a58370f5b9d35b1afd7ab7c64f", func := "sprue/spruelaw15.CallsTexts", spec := "callsTexts", inPlace := ["internal/bytealg.IndexByteString", "internal/bytealg.IndexString"], unfollowed := true, recurses := true, named := ["internal/bytealg.MaxLen", "internal/strconv.uint64pow10", "math/bits.deBruijn32tab", "math/bits.deBruijn64tab"], apart := false, laid := [("math/bits.deBruijn32tab", laid_math_bits_deBruijn32tab), ("math/bits.deBruijn64tab", laid_math_bits_deBruijn64tab), ("internal/strconv.uint64pow10", laid_internal_strconv_uint64pow10)], narrowed := true }
def CallsTextsUptoSaid : Prop := callsTextsUptoRow.holds Tryd.pinned (OpenSpec.upto callsTextsSpec)

/-- 'spruelaw15.CallsEvals', WHERE WHAT IT READS IS OF BULK AT MOST 1048576: true; the input reads as it did. -/
def callsEvalsUptoRow : OpenClaim := { program := "ytlkejchbcchecaadoor", sum := "25aa8f641150002ab610ea239388f1def51950a58370f5b9d35b1afd7ab7c64f", func := "sprue/spruelaw15.CallsEvals", spec := "callsEvals", inPlace := ["internal/bytealg.IndexByteString", "internal/bytealg.IndexString"], unfollowed := true, recurses := true, named := ["internal/bytealg.MaxLen", "internal/strconv.uint64pow10", "math/bits.deBruijn32tab", "math/bits.deBruijn64tab"], loops := true, apart := false, laid := [("math/bits.deBruijn32tab", laid_math_bits_deBruijn32tab), ("math/bits.deBruijn64tab", laid_math_bits_deBruijn64tab), ("internal/strconv.uint64pow10", laid_internal_strconv_uint64pow10)], narrowed := true }
def CallsEvalsUptoSaid : Prop := callsEvalsUptoRow.holds Tryd.pinned (OpenSpec.upto callsEvalsSpec)

/-- 'spruelaw15.CallsScripts', WHERE WHAT IT READS IS OF BULK AT MOST 1048576: true; the input reads as it did. -/
def callsScriptsUptoRow : OpenClaim := { program := "ytlkejchbcchecaadoor", sum := "25aa8f641150002ab610ea239388f1def51950a58370f5b9d35b1afd7ab7c64f", func := "sprue/spruelaw15.CallsScripts", spec := "callsScripts", inPlace := ["internal/bytealg.IndexByteString", "internal/bytealg.IndexString"], unfollowed := true, recurses := true, named := ["internal/bytealg.MaxLen", "internal/strconv.uint64pow10", "math/bits.deBruijn32tab", "math/bits.deBruijn64tab"], loops := true, apart := false, laid := [("math/bits.deBruijn32tab", laid_math_bits_deBruijn32tab), ("math/bits.deBruijn64tab", laid_math_bits_deBruijn64tab), ("internal/strconv.uint64pow10", laid_internal_strconv_uint64pow10)], narrowed := true }
def CallsScriptsUptoSaid : Prop := callsScriptsUptoRow.holds Tryd.pinned (OpenSpec.upto callsScriptsSpec)

end Rows
end Go.Proofs.YtlkejchbcchecaaDoor
