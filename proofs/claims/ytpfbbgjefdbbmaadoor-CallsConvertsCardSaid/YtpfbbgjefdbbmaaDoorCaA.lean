/- calls.Eval of numbers: contracts. -/
import Derived.Test.YtpfbbgjefdbbmaaDoorTabCW
import Derived.Test.YtpfbbgjefdbbmaaDoorMaM
set_option linter.all false
set_option linter.unusedVariables false
set_option linter.unusedSimpArgs false
set_option maxRecDepth 100000
namespace Go.Proofs.YtpfbbgjefdbbmaaDoor.Ab
open Go Go.AI
noncomputable def S : Oracle := SI 83
noncomputable abbrev W : Mach := lim tab.get S
noncomputable abbrev Om : Oracle := orc S W
abbrev vrow (n : Int) : List PVal := [.int .i64 2, .bool false, .int .i64 n, .str [], .nilslice, .nilslice]
abbrev trow (b : Bool) : List PVal := [.int .i64 1, .bool b, .int .i64 0, .str [], .nilslice, .nilslice]
abbrev evV (row : List PVal) : TVal := .tup [.agg (pcells row), .c (.p (.int .i64 0))]
theorem known_ok : Om 9 [] [] = some (kB true, []) := (orc_none rfl).trans (machU_le blks_ok 500 9 0 0 _ _ _ (by kernel_rfl))
def nAdd : List UInt8 := [97, 100, 100]
def nSub : List UInt8 := [115, 117, 98]
def nMul : List UInt8 := [109, 117, 108]
def nShl : List UInt8 := [115, 104, 108]
def nShr : List UInt8 := [115, 104, 114]
/-- By how many places. -/
def sh (b : Int) : Nat := (b % 64).toNat
theorem sh_lt (b : Int) : sh b < 64 := by unfold sh; omega
theorem rem_sh (b : Int) : (IntKind.u64.wrap b).tmod 64 = (sh b : Int) := by
 have e : IntKind.u64.wrap b = b % 18446744073709551616 := rfl
 rw [e, Int.tmod_eq_emod_of_nonneg (by omega)]
 unfold sh
 omega
theorem and_sh (b : Int) : IntKind.u64.wrap (IntKind.i64.wrap (BitVec.ofInt 64 b &&& BitVec.ofInt 64 63).toNat) = (sh b : Int) := by
 have e1 : (BitVec.ofInt 64 b &&& BitVec.ofInt 64 63).toNat = sh b := by
  rw [BitVec.toNat_and]
  have e2 : (BitVec.ofInt 64 63).toNat = 2 ^ 6 - 1 := by decide
  rw [e2, Nat.and_two_pow_sub_one_eq_mod, BitVec.toNat_ofInt]
  unfold sh
  omega
 have := sh_lt b
 rw [e1, wrap_i64 _ (by omega) (by omega), wrap_u64 _ (by omega) (by omega)]
def reckonM (nm : List UInt8) (a b : Int) : Int :=
 if nm = nAdd then IntKind.i64.wrap (a + b) else if nm = nSub then IntKind.i64.wrap (a - b) else if nm = nMul then IntKind.i64.wrap (a * b) else if nm = nShl then IntKind.i64.wrap (a * 2 ^ (sh b)) else a.fdiv (2 ^ (sh b))
theorem reckon_ok (nm : List UInt8) (a b : Int) : Om 61 [kS nm, kI a, kI b] [] = some (kI (reckonM nm a b), []) := by
 refine (orc_none rfl).trans ?_
 show lim tab.get S 61 0 0 [kS nm, kI a, kI b] h0 = _
 have h64 : min (sh b) 64 = sh b := by have := sh_lt b; omega
 rw [w61_0, b61_0, vbin_seql]
 unfold reckonM
 by_cases h1 : nm = nAdd
 ·rw [show decide (nm = [97, 100, 100]) = true from decide_eq_true h1, vif_t, vbin_add, tcomp_c, vfin_pure _ _ rfl, if_pos h1]; rfl
 rw [show decide (nm = [97, 100, 100]) = false from decide_eq_false h1, vif_f, vbin_seql, if_neg h1]
 by_cases h2 : nm = nSub
 ·rw [show decide (nm = [115, 117, 98]) = true from decide_eq_true h2, vif_t, vbin_sub, tcomp_c, vfin_pure _ _ rfl, if_pos h2]; rfl
 rw [show decide (nm = [115, 117, 98]) = false from decide_eq_false h2, vif_f, vbin_seql, if_neg h2]
 by_cases h3 : nm = nMul
 ·rw [show decide (nm = [109, 117, 108]) = true from decide_eq_true h3, vif_t, vbin_mul, tcomp_c, vfin_pure _ _ rfl, if_pos h3]; rfl
 rw [show decide (nm = [109, 117, 108]) = false from decide_eq_false h3, vif_f, vbin_seql, if_neg h3]
 by_cases h4 : nm = nShl
 ·rw [show decide (nm = [115, 104, 108]) = true from decide_eq_true h4, vif_t, vtoInt_n, vbin_rem _ _ _ _ (by decide), rem_sh, vbin_shl, h64, tcomp_c, vfin_pure _ _ rfl, if_pos h4]; rfl
 ·rw [show decide (nm = [115, 104, 108]) = false from decide_eq_false h4, vif_f, vtoInt_n, vbin_rem _ _ _ _ (by decide), rem_sh, vbin_shr, h64, tcomp_c, vfin_pure _ _ rfl, if_neg h4]; rfl
/-- same, of two numbers. -/
theorem same_ok (a b : Int) : Om 30 [kSl 6 true [vrow a, vrow b]] [] = some (evV (trow (decide (a = b))), []) := by
 refine (orc_none rfl).trans ?_
 show lim tab.get S 30 0 0 [kSl 6 true [vrow a, vrow b]] h0 = _
 have truth : ∀ x : Bool, Om 36 [kB x] [] = some (.v (.agg (pcells (trow x))), []) := fun x => (orc_none rfl).trans (machU_le blks_ok 50 36 0 0 _ _ _ (by kernel_rfl))
 have i0 : ∀ {β : Type} {h : Heap} {k : TVal → Heap → Option β}, viaddr 6 (kSl 6 true [vrow a, vrow b]) (kI 0) h k = k (.v (.c (.p (.pptr (vrow a) 0)))) h := fun {β h k} => viaddr_sl 6 true [vrow a, vrow b] 0 (vrow a) rfl
 have i1 : ∀ {β : Type} {h : Heap} {k : TVal → Heap → Option β}, viaddr 6 (kSl 6 true [vrow a, vrow b]) (kI 1) h k = k (.v (.c (.p (.pptr (vrow b) 0)))) h := fun {β h k} => viaddr_sl 6 true [vrow a, vrow b] 1 (vrow b) rfl
 rw [w30_0, b30_0, valloc, i0, vfaddr_pptr, vload_pptr _ _ _ (.int .i64 2) rfl, vbin_lss, decide_eq_false (by decide)]
 simp only [vguard_ff]
 rw [vbin_gtr, decide_eq_false (by decide), vpick_f]
 simp only [vguard_ff]
 rw [i1, vfaddr_pptr, vload_pptr _ _ _ (.int .i64 2) rfl, vbin_neq, decide_eq_true rfl, vpick_f]
 simp only [Bool.not_true, vif_f]
 rw [i0, vfaddr_pptr, vload_pptr _ _ _ (.bool false) rfl, i1, vfaddr_pptr, vload_pptr _ _ _ (.bool false) rfl, vbin_beql, show (false == false) = true from rfl]
 simp only [vguard_tt]
 rw [i0, vfaddr_pptr, vload_pptr _ _ _ (.int .i64 a) rfl, i1, vfaddr_pptr, vload_pptr _ _ _ (.int .i64 b) rfl, vbin_eql, vpick_t]
 have fin : ∀ x : Bool, (vcall Om (.v (.c (.func 36 []))) [kB x] (h0.own 2 (h0.gen 2 + 1) (.cells [.p (.int .i64 0), .p (.bool false), .p (.int .i64 0), .p (.str []), .p .nilslice, .p .nilslice] 0)) 55 fun x55 h => vstore 6 (.v (.c (.ptr (.own 2 (h0.gen 2 + 1)) 0))) x55 h fun _ h => vcell true 6 (.v (.c (.ptr (.own 2 (h0.gen 2 + 1)) 0))) h fun c0 => tcomp (kI 0) fun c1 => vfin true 0 [c0, c1] h) = some (evV (trow x), []) := by
  intro x
  rw [vcall_pure 36 _ _ rfl (truth x) rfl, store_cell 6 2 _ _ _ (pcells (trow x)) _ (Heap.own_get _ _ _ _ (by decide) (fun e => by cases e)) (by decide) rfl rfl, tcomp_c, vfin_pure _ _ rfl]; rfl
 by_cases hab : a = b
 ·rw [decide_eq_true hab]
  simp only [vguard_tt]
  rw [i0, vfaddr_pptr, vload_pptr _ _ _ (.str []) rfl, i1, vfaddr_pptr, vload_pptr _ _ _ (.str []) rfl, vbin_seql, decide_eq_true rfl, vpick_t]
  exact fin true
 ·rw [decide_eq_false hab]
  simp only [vguard_ft, vpick_f]
  exact fin false
/-- What is known: reckon, same. -/
noncomputable def Kr (args : List TVal) : Option TVal := match args with
 | [.v (.c (.p (.str nm))), .v (.c (.p (.int .i64 a))), .v (.c (.p (.int .i64 b)))] => some (kI (reckonM nm a b))
 | _ => none
noncomputable def Ks (args : List TVal) : Option TVal := match args with
 | [.v (.c (.p (.slice 6 true [[.int .i64 2, .bool false, .int .i64 a, .str [], .nilslice, .nilslice], [.int .i64 2, .bool false, .int .i64 b, .str [], .nilslice, .nilslice]])))] => some (evV (trow (decide (a = b))))
 | _ => none
noncomputable def S2 : Oracle := addF 30 Ks (addF 61 Kr S)
theorem known2 : Known tab.get S S2 := by
 refine ((Known.refl tab.get S).add 61 Kr ?_).add 30 Ks ?_
 ·intro args v e
  unfold Kr at e
  split at e
  ·cases e; exact reckon_ok _ _ _
  ·cases e
 ·intro args v e
  unfold Ks at e
  split at e
  ·cases e; exact same_ok _ _
  ·cases e
theorem ev_lt (a b : Int) : Om 10 [kS [108, 116], kSl 6 true [vrow a, vrow b]] [] = some (evV (trow (bltI a b)), []) := (orc_none rfl).trans (machU_le blks_ok 500 10 0 0 _ _ _ (by kernel_rfl))
theorem ev_eq (a b : Int) : Om 10 [kS [101, 113], kSl 6 true [vrow a, vrow b]] [] = some (evV (trow (decide (a = b))), []) := known2.run blks_ok (N := 500) rfl (by kernel_rfl)
theorem ev_shl (a b : Int) : Om 10 [kS nShl, kSl 6 true [vrow a, vrow b]] [] = some (evV (vrow (reckonM nShl a b)), []) := known2.run blks_ok (N := 500) rfl (by kernel_rfl)
theorem ev_shr (a b : Int) : Om 10 [kS nShr, kSl 6 true [vrow a, vrow b]] [] = some (evV (vrow (reckonM nShr a b)), []) := known2.run blks_ok (N := 500) rfl (by kernel_rfl)
theorem ev_add (a b : Int) : Om 10 [kS nAdd, kSl 6 true [vrow a, vrow b]] [] = some (evV (vrow (reckonM nAdd a b)), []) := known2.run blks_ok (N := 500) rfl (by kernel_rfl)
theorem ev_sub (a b : Int) : Om 10 [kS nSub, kSl 6 true [vrow a, vrow b]] [] = some (evV (vrow (reckonM nSub a b)), []) := known2.run blks_ok (N := 500) rfl (by kernel_rfl)
theorem ev_mul (a b : Int) : Om 10 [kS nMul, kSl 6 true [vrow a, vrow b]] [] = some (evV (vrow (reckonM nMul a b)), []) := known2.run blks_ok (N := 500) rfl (by kernel_rfl)
def convs : List (List UInt8 × IntKind) := [([105, 56], .i8), ([105, 49, 54], .i16), ([105, 51, 50], .i32), ([117, 56], .u8), ([117, 49, 54], .u16), ([117, 51, 50], .u32)]
theorem ev_i8 (a : Int) : Om 10 [kS [105, 56], kSl 6 true [vrow a]] [] = some (evV (vrow (wrapF .i64 (wrapF .i8 a))), []) := (orc_none rfl).trans (machU_le blks_ok 500 10 0 0 _ _ _ (by kernel_rfl))
theorem ev_i16 (a : Int) : Om 10 [kS [105, 49, 54], kSl 6 true [vrow a]] [] = some (evV (vrow (wrapF .i64 (wrapF .i16 a))), []) := (orc_none rfl).trans (machU_le blks_ok 500 10 0 0 _ _ _ (by kernel_rfl))
theorem ev_i32 (a : Int) : Om 10 [kS [105, 51, 50], kSl 6 true [vrow a]] [] = some (evV (vrow (wrapF .i64 (wrapF .i32 a))), []) := (orc_none rfl).trans (machU_le blks_ok 500 10 0 0 _ _ _ (by kernel_rfl))
theorem ev_u8 (a : Int) : Om 10 [kS [117, 56], kSl 6 true [vrow a]] [] = some (evV (vrow (wrapF .i64 (wrapF .u8 a))), []) := (orc_none rfl).trans (machU_le blks_ok 500 10 0 0 _ _ _ (by kernel_rfl))
theorem ev_u16 (a : Int) : Om 10 [kS [117, 49, 54], kSl 6 true [vrow a]] [] = some (evV (vrow (wrapF .i64 (wrapF .u16 a))), []) := (orc_none rfl).trans (machU_le blks_ok 500 10 0 0 _ _ _ (by kernel_rfl))
theorem ev_u32 (a : Int) : Om 10 [kS [117, 51, 50], kSl 6 true [vrow a]] [] = some (evV (vrow (wrapF .i64 (wrapF .u32 a))), []) := (orc_none rfl).trans (machU_le blks_ok 500 10 0 0 _ _ _ (by kernel_rfl))
end Go.Proofs.YtpfbbgjefdbbmaaDoor.Ab
