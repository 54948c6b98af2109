/- CallsShifts, whatever the numbers. -/
import Derived.Test.YtpfbbgjefdbbmaaDoorCaC
set_option linter.all false
set_option linter.unusedVariables false
set_option linter.unusedSimpArgs false
set_option maxRecDepth 100000
namespace Go.Proofs.YtpfbbgjefdbbmaaDoor.Ab
open Go Go.AI
theorem num_ok (n : Int) : Om 12 [kI n] [] = some (.v (.agg (pcells (vrow n))), []) := (orc_none rfl).trans (machU_le blks_ok 50 12 0 0 _ _ _ (by kernel_rfl))
theorem one2 (nm : List UInt8) (a b : Int) (h : nm ∈ names5) : Om 11 [kS nm, kSl 6 true [vrow a, vrow b]] [] = some (evV (vrow (reckonM nm a b)), []) := by
 refine (orc_none rfl).trans ?_
 show lim tab.get S 11 0 0 [kS nm, kSl 6 true [vrow a, vrow b]] h0 = _
 rw [w11_0, b11_0]
 simp only [valloc]
 rw [vcall_pure 10 _ _ rfl (ev5 a b nm h) rfl, vext_tup _ 0 _ rfl, vext_tup _ 1 _ rfl, store_cell 6 4 _ _ _ (pcells (vrow (reckonM nm a b))) _ (Heap.own_get _ _ _ _ (by decide) (fun e => by cases e)) (by decide) rfl rfl, tcomp_c, vfin_pure _ _ rfl]; rfl
theorem one1 (nm : List UInt8) (a : Int) (h : nm ∈ names6) : Om 11 [kS nm, kSl 6 true [vrow a]] [] = some (evV (vrow (conv6 nm a)), []) := by
 refine (orc_none rfl).trans ?_
 show lim tab.get S 11 0 0 [kS nm, kSl 6 true [vrow a]] h0 = _
 rw [w11_0, b11_0]
 simp only [valloc]
 rw [vcall_pure 10 _ _ rfl (ev6 a nm h) rfl, vext_tup _ 0 _ rfl, vext_tup _ 1 _ rfl, store_cell 6 4 _ _ _ (pcells (vrow (conv6 nm a))) _ (Heap.own_get _ _ _ _ (by decide) (fun e => by cases e)) (by decide) rfl rfl, tcomp_c, vfin_pure _ _ rfl]; rfl
theorem one_shl (a b : Int) : Om 11 [kS [115, 104, 108], kSl 6 true [vrow a, vrow b]] [] = some (evV (vrow (reckonM nShl a b)), []) := one2 nShl a b (by decide)
theorem one_shr (a b : Int) : Om 11 [kS [115, 104, 114], kSl 6 true [vrow a, vrow b]] [] = some (evV (vrow (reckonM nShr a b)), []) := one2 nShr a b (by decide)
theorem one_add (a b : Int) : Om 11 [kS [97, 100, 100], kSl 6 true [vrow a, vrow b]] [] = some (evV (vrow (reckonM nAdd a b)), []) := one2 nAdd a b (by decide)
theorem keepO (d : Nat) (hd : d + 1 < 1048576) (n : Int) (h : Heap) : ∃ g h', h'.get (.own d g) = some (.cells (pcells (vrow n)) 0) ∧ (∀ e g' o, e ≠ d → h.get (.own e g') = some o → h'.get (.own e g') = some o) ∧
  ∀ (O : Oracle) (k : TVal → TVal → Heap → Res1), (vext (evV (vrow n)) 0 h fun x h => vext (evV (vrow n)) 1 h fun y h => vop O (.alloc z6 false) h d fun p h => vstore 6 p x h fun _ h => k p y h) = k (.v (.c (.ptr (.own d g) 0))) (kI 0) h' := by
 refine ⟨h.gen d + 1, (h.own d (h.gen d + 1) (.cells z6 0)).own d (h.gen d + 1) (.cells (pcells (vrow n)) 0), Heap.own_get _ _ _ _ hd (fun e => by cases e), fun e g' o he ho => ?_, fun O k => ?_⟩
 ·exact (Heap.own_get_ne _ d _ _ e g' (Ne.symm he)).trans ((Heap.own_get_ne _ d _ _ e g' (Ne.symm he)).trans ho)
 ·rw [vext_tup _ 0 _ rfl, vext_tup _ 1 _ rfl, valloc, vstore_ptr 6 (.own d (h.gen d + 1)) 0 0 _ (.agg (pcells (vrow n))) (Heap.own_get _ _ _ _ hd (fun e => by cases e)) (by decide) rfl (by decide), Heap.put_own]; rfl
theorem bsl2 (a b : Int) : plan .nil (.bslice 6 2 z6 [(0, .k (.v (.agg (pcells (vrow a))))), (1, .k (.v (.agg (pcells (vrow b)))))] false) = some (.pure (kSl 6 true [vrow a, vrow b])) := rfl
theorem bsl1 (a : Int) : plan .nil (.bslice 6 1 z6 [(0, .k (.v (.agg (pcells (vrow a)))))] false) = some (.pure (kSl 6 true [vrow a])) := rfl
theorem shift_up (a : Int) : reckonM nShl a 1 = reckonM nAdd a a := by
 have e1 : reckonM nShl a 1 = IntKind.i64.wrap (a * 2 ^ (sh 1)) := by simp [reckonM, nAdd, nSub, nMul, nShl]
 have e2 : reckonM nAdd a a = IntKind.i64.wrap (a + a) := by simp [reckonM]
 rw [e1, e2, show sh 1 = 1 by decide]; congr 1; omega
theorem and63 (n : Int) : IntKind.i64.wrap (BitVec.ofInt 64 n &&& BitVec.ofInt 64 63).toNat = (sh n : Int) := by
 have e1 : (BitVec.ofInt 64 n &&& BitVec.ofInt 64 63).toNat = sh n := by
  rw [BitVec.toNat_and]
  have e2 : (BitVec.ofInt 64 63).toNat = 2 ^ 6 - 1 := by decide
  rw [e2, Nat.and_two_pow_sub_one_eq_mod, BitVec.toNat_ofInt]
  unfold sh
  omega
 have := sh_lt n
 rw [e1, wrap_i64 _ (by omega) (by omega)]
theorem shift_far (a n : Int) : reckonM nShl a n = reckonM nShl a (sh n : Int) := by
 have e : ∀ m : Int, reckonM nShl a m = IntKind.i64.wrap (a * 2 ^ (sh m)) := fun m => by simp [reckonM, nAdd, nSub, nMul, nShl]
 have := sh_lt n
 rw [e, e, show sh (sh n : Int) = sh n by unfold sh; omega]
theorem shr_eq (a m : Int) : reckonM nShr a m = a.fdiv (2 ^ (sh m)) := by simp [reckonM, nAdd, nSub, nMul, nShl, nShr]
theorem shift_sign (a : Int) (h1 : -9223372036854775808 ≤ a) (h2 : a ≤ 9223372036854775807) : reckonM nShr a 63 = if a < 0 then -1 else 0 := by
 rw [shr_eq, show sh 63 = 63 by decide, Int.fdiv_eq_ediv_of_nonneg _ (by decide)]
 have : (2 : Int) ^ 63 = 9223372036854775808 := by decide
 rw [this]
 split <;> omega
theorem shift_low (a : Int) : reckonM nShr (reckonM nShl a 56) 56 = conv6 [105, 56] a := by
 have e1 : reckonM nShl a 56 = IntKind.i64.wrap (a * 72057594037927936) := by simp [reckonM, nAdd, nSub, nMul, nShl]; rfl
 have e2 : conv6 [105, 56] a = IntKind.i8.wrap a := (wrap_narrow .i8 (by simp) a).1
 have e8 : ∀ z : Int, IntKind.i8.wrap z = if 128 ≤ z % 256 then z % 256 - 256 else z % 256 := fun z => by
  show (if (true && decide (z % (2 ^ 8 : Int) ≥ (2 ^ 7 : Int))) = true then z % (2 ^ 8 : Int) - (2 ^ 8 : Int) else z % (2 ^ 8 : Int)) = _
  simp only [Bool.true_and, decide_eq_true_eq]; rfl
 have e64 : ∀ z : Int, IntKind.i64.wrap z = if 9223372036854775808 ≤ z % 18446744073709551616 then z % 18446744073709551616 - 18446744073709551616 else z % 18446744073709551616 := fun z => by
  show (if (true && decide (z % (2 ^ 64 : Int) ≥ (2 ^ 63 : Int))) = true then z % (2 ^ 64 : Int) - (2 ^ 64 : Int) else z % (2 ^ 64 : Int)) = _
  simp only [Bool.true_and, decide_eq_true_eq]; rfl
 rw [shr_eq, show sh 56 = 56 by decide, Int.fdiv_eq_ediv_of_nonneg _ (by decide), e1, e2, e8, e64, show (2 : Int) ^ 56 = 72057594037927936 by decide]
 have hm : a * 72057594037927936 % 18446744073709551616 = (a % 256) * 72057594037927936 := by omega
 rw [hm]
 split <;> split <;> omega
/-- THE LAW. -/
theorem shifts_law (a n : Int) (h1 : -9223372036854775808 ≤ a) (h2 : a ≤ 9223372036854775807) : Om 4 [kI a, kI n] [] = some (kB true, []) := by
 refine (orc_none rfl).trans ?_
 show lim tab.get S 4 0 0 [kI a, kI n] h0 = _
 rw [w4_0, b4_0, vcall_pure 9 _ _ rfl known_ok rfl, vnot, vif_kB, if_neg (by decide),
  vcall_pure 12 _ _ rfl (num_ok a) rfl, vcall_pure 12 _ _ rfl (num_ok 1) rfl, vplan _ _ (bsl2 a 1), vcall_pure 11 _ _ rfl (one_shl a 1) rfl]
 obtain ⟨g5, H1, f5, K1, c1⟩ := keepO 5 (by decide) (reckonM nShl a 1) h0
 refine (c1 _ _).trans ?_
 rw [vcall_pure 12 _ _ rfl (num_ok a) rfl, vcall_pure 12 _ _ rfl (num_ok a) rfl, vplan _ _ (bsl2 a a), vcall_pure 11 _ _ rfl (one_add a a) rfl]
 obtain ⟨g7, H2, f7, K2, c2⟩ := keepO 7 (by decide) (reckonM nAdd a a) H1
 refine (c2 _ _).trans ?_
 have f5 := K2 _ _ _ (by decide) f5
 rw [vcall_pure 12 _ _ rfl (num_ok a) rfl, vcall_pure 12 _ _ rfl (num_ok n) rfl, vplan _ _ (bsl2 a n), vcall_pure 11 _ _ rfl (one_shl a n) rfl]
 obtain ⟨g9, H3, f9, K3, c3⟩ := keepO 9 (by decide) (reckonM nShl a n) H2
 refine (c3 _ _).trans ?_
 have f5 := K3 _ _ _ (by decide) f5
 have f7 := K3 _ _ _ (by decide) f7
 rw [vcall_pure 12 _ _ rfl (num_ok a) rfl, vbin_and, and63, vcall_pure 12 _ _ rfl (num_ok (sh n : Int)) rfl, vplan _ _ (bsl2 a (sh n : Int)), vcall_pure 11 _ _ rfl (one_shl a (sh n : Int)) rfl]
 obtain ⟨g11, H4, f11, K4, c4⟩ := keepO 11 (by decide) (reckonM nShl a (sh n : Int)) H3
 refine (c4 _ _).trans ?_
 have f5 := K4 _ _ _ (by decide) f5
 have f7 := K4 _ _ _ (by decide) f7
 have f9 := K4 _ _ _ (by decide) f9
 rw [vcall_pure 12 _ _ rfl (num_ok a) rfl, vcall_pure 12 _ _ rfl (num_ok 63) rfl, vplan _ _ (bsl2 a 63), vcall_pure 11 _ _ rfl (one_shr a 63) rfl]
 obtain ⟨g13, H5', f13, K5, c5⟩ := keepO 13 (by decide) (reckonM nShr a 63) H4
 refine (c5 _ _).trans ?_
 have f5 := K5 _ _ _ (by decide) f5
 have f7 := K5 _ _ _ (by decide) f7
 have f9 := K5 _ _ _ (by decide) f9
 have f11 := K5 _ _ _ (by decide) f11
 have rest : ∀ sg : Int, reckonM nShr a 63 = sg → lim tab.get S 4 0 1 [kI a, .v (.c (.ptr (.own 5 g5) 0)), kI 0, .v (.c (.ptr (.own 7 g7) 0)), kI 0, .v (.c (.ptr (.own 9 g9) 0)), kI 0, .v (.c (.ptr (.own 11 g11) 0)), kI 0, .v (.c (.ptr (.own 13 g13) 0)), kI 0, kI sg] H5' = some (kB true, []) := by
  intro sg hsg
  rw [w4_1, b4_1, vcall_pure 12 _ _ rfl (num_ok a) rfl, vcall_pure 12 _ _ rfl (num_ok 56) rfl, vplan _ _ (bsl2 a 56), vcall_pure 11 _ _ rfl (one_shl a 56) rfl]
  obtain ⟨g16, H6, f16, K6, c6⟩ := keepO 16 (by decide) (reckonM nShl a 56) H5'
  refine (c6 _ _).trans ?_
  have f5 := K6 _ _ _ (by decide) f5
  have f7 := K6 _ _ _ (by decide) f7
  have f9 := K6 _ _ _ (by decide) f9
  have f11 := K6 _ _ _ (by decide) f11
  have f13 := K6 _ _ _ (by decide) f13
  have c12 := fun (k : TVal → Heap → Go.AI.Touch → Res1) => vtouch_call (O := Om) (h := H6) (d := 80) (k := k) 12 [kI 56] (.v (.agg (pcells (vrow 56)))) rfl (num_ok 56) rfl
  have c11 := fun (k : TVal → Heap → Go.AI.Touch → Res1) => vtouch_call (O := Om) (h := H6) (d := 82) (k := k) 11 [kS nShr, kSl 6 true [vrow (reckonM nShl a 56), vrow 56]] (evV (vrow (reckonM nShr (reckonM nShl a 56) 56))) rfl (one_shr _ 56) rfl
  rw [vtouch_load_agg 6 (.own 16 g16) 0 0 _ f16 rfl, show ((pcells (vrow (reckonM nShl a 56))).drop 0).take 6 = pcells (vrow (reckonM nShl a 56)) from rfl]
  refine (c12 _).trans ?_
  rw [vtouch_plan _ _ (bsl2 (reckonM nShl a 56) 56)]
  refine (c11 _).trans ?_
  have ex : ∀ v : Int, plan .nil (.extract (.k (evV (vrow v))) 0) = some (.pure (.v (.agg (pcells (vrow v))))) ∧ plan .nil (.extract (.k (evV (vrow v))) 1) = some (.pure (kI 0)) := fun v => ⟨rfl, rfl⟩
  rw [shift_low]
  rw [vtouch_plan (.mv (.k (evV (vrow (conv6 [105, 56] a))))) _ rfl, vtouch_plan _ _ (ex _).1, vtouch_plan _ _ (ex _).2, vtouch_alloc,
   vtouch_store 6 (.own 18 (H6.gen 18 + 1)) 0 0 _ (.agg (pcells (vrow (conv6 [105, 56] a)))) (Heap.own_get _ _ _ _ (by decide) (fun e => by cases e)) (by decide) rfl (by decide), Heap.put_own, show splice z6 0 (Comp.agg (pcells (vrow (conv6 [105, 56] a)))).cells = pcells (vrow (conv6 [105, 56] a)) from rfl, vtouch_plan (.mv (.k (kI 0))) _ rfl]
  have keep18 : ∀ e g' o, e ≠ 18 → H6.get (.own e g') = some o → ((H6.own 18 (H6.gen 18 + 1) (.cells z6 0)).own 18 (H6.gen 18 + 1) (.cells (pcells (vrow (conv6 [105, 56] a))) 0)).get (.own e g') = some o := fun e g' o he ho => (Heap.own_get_ne _ 18 _ _ e g' (Ne.symm he)).trans ((Heap.own_get_ne _ 18 _ _ e g' (Ne.symm he)).trans ho)
  have f18 : ((H6.own 18 (H6.gen 18 + 1) (.cells z6 0)).own 18 (H6.gen 18 + 1) (.cells (pcells (vrow (conv6 [105, 56] a))) 0)).get (.own 18 (H6.gen 18 + 1)) = some (.cells (pcells (vrow (conv6 [105, 56] a))) 0) := Heap.own_get _ _ _ _ (by decide) (fun e => by cases e)
  have f5 := keep18 _ _ _ (by decide) f5
  have f7 := keep18 _ _ _ (by decide) f7
  have f9 := keep18 _ _ _ (by decide) f9
  have f11 := keep18 _ _ _ (by decide) f11
  have f13 := keep18 _ _ _ (by decide) f13
  have bif1 : ∀ (A B : Res1), (bif apartAll [⟨[Ref.site (.own 16 g16)], [], false⟩, noTouch, noTouch, noTouch, noTouch, noTouch, noTouch, ⟨[], [.own 18], false⟩, ⟨[Ref.site (.own 18 (H6.gen 18 + 1))], [Ref.site (.own 18 (H6.gen 18 + 1))], false⟩, noTouch] [(0, 1), (0, 7), (1, 7), (2, 7), (3, 7)] then A else B) = A := fun A B => rfl
  refine (bif1 _ _).trans ?_
  generalize H6.gen 18 + 1 = g18 at f5 f7 f9 f11 f13 f18
  generalize (H6.own 18 g18 (.cells z6 0)).own 18 g18 (.cells (pcells (vrow (conv6 [105, 56] a))) 0) = H7 at f5 f7 f9 f11 f13 f18
  rw [vcall_pure 12 _ _ rfl (num_ok a) rfl, vplan _ _ (bsl1 a), vcall_pure 11 _ _ rfl (one1 [105, 56] a (by decide)) rfl]
  obtain ⟨g20, H8, f20, K8, c8⟩ := keepO 20 (by decide) (conv6 [105, 56] a) H7
  refine (c8 _ _).trans ?_
  have f5 := K8 _ _ _ (by decide) f5
  have f7 := K8 _ _ _ (by decide) f7
  have f9 := K8 _ _ _ (by decide) f9
  have f11 := K8 _ _ _ (by decide) f11
  have f13 := K8 _ _ _ (by decide) f13
  have f18 := K8 _ _ _ (by decide) f18
  have z : decide ((0 : Int) = 0) = true := rfl
  rw [vbin_eql, z]
  simp only [vguard_tt]
  rw [vbin_eql, z, vpick_t]
  simp only [vguard_tt, vfaddr_ptr]
  rw [vload_one 1 _ _ 0 _ (.p (.int .i64 (reckonM nShl a 1))) f5 rfl, vload_one 1 _ _ 0 _ (.p (.int .i64 (reckonM nAdd a a))) f7 rfl, vbin_eql, decide_eq_true (shift_up a), vpick_t]
  simp only [vguard_tt]
  rw [vbin_eql, z, vpick_t]
  simp only [vguard_tt]
  rw [vbin_eql, z, vpick_t]
  simp only [vguard_tt, vfaddr_ptr]
  rw [vload_one 1 _ _ 0 _ (.p (.int .i64 (reckonM nShl a n))) f9 rfl, vload_one 1 _ _ 0 _ (.p (.int .i64 (reckonM nShl a (sh n : Int)))) f11 rfl, vbin_eql, decide_eq_true (shift_far a n), vpick_t]
  simp only [vguard_tt]
  rw [vbin_eql, z, vpick_t]
  simp only [vguard_tt, vfaddr_ptr]
  rw [vload_one 1 _ _ 0 _ (.p (.int .i64 (reckonM nShr a 63))) f13 rfl, vbin_eql, decide_eq_true hsg, vpick_t]
  simp only [vguard_tt]
  rw [vbin_eql, z, vpick_t]
  simp only [vguard_tt, vfaddr_ptr]
  rw [vload_one 1 _ _ 0 _ (.p (.int .i64 (conv6 [105, 56] a))) f18 rfl, vload_one 1 _ _ 0 _ (.p (.int .i64 (conv6 [105, 56] a))) f20 rfl, vbin_eql, decide_eq_true rfl, vpick_t, tcomp_c, vfin_pure _ _ rfl]
  rfl
 have hs := shift_sign a h1 h2
 rw [vbin_lss]
 by_cases hneg : a < 0
 ·rw [decide_eq_true hneg, vif_t]
  exact rest (-1) (by rw [hs, if_pos hneg])
 ·rw [decide_eq_false hneg, vif_f]
  exact rest 0 (by rw [hs, if_neg hneg])
end Go.Proofs.YtpfbbgjefdbbmaaDoor.Ab
