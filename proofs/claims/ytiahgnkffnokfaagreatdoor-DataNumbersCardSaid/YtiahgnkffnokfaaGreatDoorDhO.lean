/- Numerals: the text that is read off the digits. -/
import Derived.Test.YtiahgnkffnokfaaGreatDoorDhN
import Derived.Test.YtiahgnkffnokfaaGreatDoorMaV
set_option linter.all false
set_option linter.unusedVariables false
set_option linter.unusedSimpArgs false
set_option maxRecDepth 100000
namespace Go.Proofs.YtiahgnkffnokfaaGreatDoor.Ab
open Go Go.AI
theorem dig_byte (u m : Nat) : dig ((u : Int) / 10 ^ m) = .p (.int .u8 ((UInt8.ofNat (48 + u / 10 ^ m % 10)).toNat : Int)) := by
 unfold dig
 rw [UInt8.toNat_ofNat', Nat.mod_eq_of_lt (by omega)]
 have : ((48 + u / 10 ^ m % 10 : Nat) : Int) = 48 + (u : Int) / 10 ^ m % 10 := by
  rw [Int.natCast_add, Int.natCast_emod, Int.natCast_ediv, Int.natCast_pow]; rfl
 rw [this]
theorem wr_row (n u : Nat) (cs : List Cell) (hl : cs.length = 24) (hN : n + 1 ≤ 23) (h1 : u < 10 ^ (n + 1)) (h2 : 10 ^ n ≤ u ∨ n = 0) :
  ((wr cs (n + 1) (u : Int) (n + 1)).drop 1).take (n + 1) = (Lib.decDigits u).map fun b => Cell.p (.int .u8 (b.toNat : Int)) := by
 rw [digits_row n u h1 h2, List.map_map]
 refine List.ext_getElem? fun j => ?_
 rw [List.getElem?_take, List.getElem?_map]
 by_cases hj : j < n + 1
 ·rw [if_pos hj, List.getElem?_drop, wr_get _ _ _ _ _ (Nat.le_refl _) (by omega), if_pos ⟨by omega, by omega⟩, List.getElem?_range hj]
  show some (dig _) = some _
  rw [show n + 1 - (1 + j) = n - j by omega, dig_byte]; rfl
 ·rw [if_neg hj]
  rw [List.getElem?_eq_none (by simpa using hj)]; rfl
end Go.Proofs.YtiahgnkffnokfaaGreatDoor.Ab
