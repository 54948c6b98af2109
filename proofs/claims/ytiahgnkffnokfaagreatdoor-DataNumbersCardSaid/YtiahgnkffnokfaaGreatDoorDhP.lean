/- strconv.FormatInt of base ten. -/
import Derived.Test.YtiahgnkffnokfaaGreatDoorDhO
set_option linter.all false
set_option linter.unusedVariables false
set_option linter.unusedSimpArgs false
set_option maxRecDepth 100000
namespace Go.Proofs.YtiahgnkffnokfaaGreatDoor.Ab
open Go Go.AI
def isStrR (r : Res1) (x : List UInt8) : Bool := match r with
 | some (.v (.c (.p (.str y))), []) => y == x
 | _ => false
theorem isStrR_inv {r : Res1} {x : List UInt8} (h : isStrR r x = true) : r = some (kS x, []) := by
 unfold isStrR at h
 split at h
 ·simp only [beq_iff_eq] at h; subst h; rfl
 ·cases h
def smallL (n : Nat) : List UInt8 := bif Nat.blt n 10 then [UInt8.ofNat (48 + n)] else [UInt8.ofNat (48 + n / 10), UInt8.ofNat (48 + n % 10)]
theorem smallL_eq (n : Nat) (hn : n < 100) : smallL n = Lib.decDigits n := by
 unfold smallL
 by_cases h : n < 10
 ·rw [Lib.decDigits, dif_pos h, show Nat.blt n 10 = true from Nat.ble_eq_true_of_le h]; rfl
 ·have : Nat.blt n 10 = false := Bool.eq_false_iff.2 fun e => h (Nat.le_of_ble_eq_true e)
  rw [Lib.decDigits, dif_neg h, Lib.decDigits, dif_pos (by omega), this]
  rfl
theorem small_all : ((List.range 100).all fun n => isStrR (machU blks.get S 500 88 0 0 [kN .i64 (.ofNat n)] h0) (smallL n)) = true := by kernel_rfl
theorem small184 (n : Nat) (hn : n < 100) : Om 88 [kI (n : Int)] [] = some (kS (Lib.decDigits n), []) := by
 refine (orc_none rfl).trans ?_
 rw [← smallL_eq n hn]
 exact machU_le blks_ok 500 88 0 0 _ _ _ (isStrR_inv (List.all_eq_true.1 small_all n (List.mem_range.2 hn)))
theorem f178_1 (n : Int) (u g : Nat) (h : Heap) (cs : List Cell) (hp : plainC cs) (hl : cs.length = 24) (hg : h.get (.own 5 g) = some (.cells cs 0)) (hu : 1 ≤ u) (hu2 : u < 18446744073709551616) :
  lim tab.get S 56 0 1 [kI n, .v (.c (.ptr (.own 5 g) 0)), kN .u64 (u : Int)] h = some (kS (if n < 0 then 45 :: Lib.decDigits u else Lib.decDigits u), []) := by
 obtain ⟨N, hN, l1, l2, e185⟩ := digits185 (u : Int) (by omega) (by omega)
 have l2 : 1 ≤ N ∧ (10 : Int) ^ (N - 1) ≤ u := by rcases l2 with l2 | l2; exact absurd l2 (by omega); exact l2
 obtain ⟨m, rfl⟩ : ∃ m, N = m + 1 := ⟨N - 1, by omega⟩
 have l1' : u < 10 ^ (m + 1) := by
  have : ((u : Nat) : Int) < ((10 ^ (m + 1) : Nat) : Int) := by rw [Int.natCast_pow]; exact l1
  omega
 have l2' : 10 ^ m ≤ u := by
  have : ((10 ^ m : Nat) : Int) ≤ ((u : Nat) : Int) := by rw [Int.natCast_pow]; exact l2.2
  omega
 have hw := wr_row m u cs hl (by omega) l1' (.inl l2')
 have hwl : (wr cs (m + 1) (u : Int) (m + 1)).length = 24 := by rw [wr_len, hl]
 have c1 : ∀ {β : Type} {k : TVal → Heap → Option β} {h : Heap} {d : Nat}, vcall Om (.v (.c (.func 89 []))) [kN .u64 (u : Int)] h d k = k (kI ((m + 1 : Nat) : Int)) h := vcall_pure 89 _ _ rfl e185 rfl
 have w1 : IntKind.i64.wrap (1 + ((m + 1 : Nat) : Int)) = ((m + 2 : Nat) : Int) := by rw [wrap_i64 _ (by omega) (by omega)]; omega
 have s1 : ∀ {β : Type} {k : TVal → Heap → Option β} {d : Nat}, vop Om (.sliceA 24 1 (.k (.v (.c (.ptr (.own 5 g) 0)))) (some (.k (kI 1))) (some (.k (kI ((m + 2 : Nat) : Int))))) h d k = k (.v (.c (.sref (.own 5 g) 1 (m + 1) (some 23) 1))) h :=
  fun {β k d} => (x_sliceA 24 1 (.own 5 g) 0 1 (m + 2) cs 0 (by omega) (by omega) (by omega) hg (by omega)).trans (by rw [show m + 2 - 1 = m + 1 by omega])
 have e186 := fb186 (m + 1) (u : Int) cs hp hl (by omega) (by omega) (by omega) l1
 obtain ⟨xs, hxs⟩ := hp
 obtain ⟨ys, hys⟩ := plain_wr (m + 1) cs (m + 1) (u : Int) ⟨xs, hxs⟩
 have hin : (TVal.v (.c (.sref (.own 5 g) 1 (m + 1) (some 23) 1))).ren (inn [.own 5 g]) = bufP (m + 1) := by
  show TVal.v (.c (match inn [Ref.own 5 g] (.own 5 g) with | some s => Cell.sref s 1 (m + 1) (some 23) 1 | none => .junk)) = _
  have : inn [Ref.own 5 g] (.own 5 g) = some (.im 0) := by simp [inn, idx]
  rw [this]
 have c2 : ∀ {β : Type} {k : TVal → Heap → Option β} {d : Nat}, vcall Om (.v (.c (.func 90 []))) [.v (.c (.sref (.own 5 g) 1 (m + 1) (some 23) 1)), kN .u64 (u : Int)] h d k = k (.tup []) (h.own 5 g (.cells (wr cs (m + 1) (u : Int) (m + 1)) 0)) :=
  fun {β k d} => vcall_p' 90 (.own 5 g) (.v (.c (.sref (.own 5 g) 1 (m + 1) (some 23) 1))) (bufP (m + 1)) [] [kN .u64 (u : Int)] _ (.cells (wr cs (m + 1) (u : Int) (m + 1)) 0) (.tup []) rfl rfl
   hin rfl rfl hg (by rw [hxs]; exact plainO_cells xs 0) (by rw [hys]; exact plainO_cells ys 0) rfl e186
 have hg2 : (h.own 5 g (.cells (wr cs (m + 1) (u : Int) (m + 1)) 0)).get (.own 5 g) = some (.cells (wr cs (m + 1) (u : Int) (m + 1)) 0) := own_getE _ _ _ _ _ (by omega)
 rw [w56_1, b56_1]
 by_cases hn : n < 0
 ·have i1 : ∀ {β : Type} {k : TVal → Heap → Option β} {h : Heap} {d : Nat}, vop Om (.iaddrA 24 1 (.k (.v (.c (.ptr (.own 5 g) 0)))) (.k (kI 0))) h d k = k (.v (.c (.ptr (.own 5 g) 0))) h := fun {β k h d} => x_iaddrA_ptr 24 1 _ 0 0 (by omega)
  have hp2 : put1 (wr cs (m + 1) (u : Int) (m + 1)) 0 [.p (.int .u8 45)] = .p (.int .u8 45) :: (wr cs (m + 1) (u : Int) (m + 1)).drop 1 := by
   unfold put1 splice; simp
  have hg3 : ((h.own 5 g (.cells (wr cs (m + 1) (u : Int) (m + 1)) 0)).own 5 g (.cells (.p (.int .u8 45) :: (wr cs (m + 1) (u : Int) (m + 1)).drop 1) 0)).get (.own 5 g) = some (.cells (.p (.int .u8 45) :: (wr cs (m + 1) (u : Int) (m + 1)).drop 1) 0) := own_getE _ _ _ _ _ (by omega)
  have s2 : ∀ {β : Type} {k : TVal → Heap → Option β} {d : Nat}, vop Om (.sliceA 24 1 (.k (.v (.c (.ptr (.own 5 g) 0)))) none (some (.k (kI ((m + 2 : Nat) : Int))))) ((h.own 5 g (.cells (wr cs (m + 1) (u : Int) (m + 1)) 0)).own 5 g (.cells (.p (.int .u8 45) :: (wr cs (m + 1) (u : Int) (m + 1)).drop 1) 0)) d k = k (.v (.c (.sref (.own 5 g) 0 (m + 2) (some 24) 1))) ((h.own 5 g (.cells (wr cs (m + 1) (u : Int) (m + 1)) 0)).own 5 g (.cells (.p (.int .u8 45) :: (wr cs (m + 1) (u : Int) (m + 1)).drop 1) 0)) := fun {β k d} => by
   refine vop_read _ (.own 5 g) (fun
    | .cells cs _ => if 0 + 24 * 1 ≤ cs.length then some (.v (.c (.sref (.own 5 g) (0 + 0 * 1) (m + 2 - 0) (some (24 - 0)) 1))) else none
    | _ => none) _ _ ?_ hg3 ?_
   ·show (if 0 ≤ m + 2 ∧ m + 2 ≤ 24 ∧ 0 < 24 then some (Plan.read _ _) else none) = _
    rw [if_pos ⟨by omega, by omega, by omega⟩]
    rfl
   ·show (if _ then _ else _) = _
    rw [if_pos (by simp; omega)]
    rfl
  have t2 : ∀ {β : Type} {k : TVal → Heap → Option β} {d : Nat}, vop Om (.toStr (.k (.v (.c (.sref (.own 5 g) 0 (m + 2) (some 24) 1))))) ((h.own 5 g (.cells (wr cs (m + 1) (u : Int) (m + 1)) 0)).own 5 g (.cells (.p (.int .u8 45) :: (wr cs (m + 1) (u : Int) (m + 1)).drop 1) 0)) d k = k (kS (45 :: Lib.decDigits u)) ((h.own 5 g (.cells (wr cs (m + 1) (u : Int) (m + 1)) 0)).own 5 g (.cells (.p (.int .u8 45) :: (wr cs (m + 1) (u : Int) (m + 1)).drop 1) 0)) :=
   fun {β k d} => x_toStr_ref (.own 5 g) 0 (m + 2) (some 24) _ 0 _ hg3 (by simp; omega) (by
    rw [List.drop_zero, List.take_succ_cons, hw]
    exact bytesOf_map (45 :: Lib.decDigits u))
  have q1 : 0 + 1 ≤ (wr cs (m + 1) (u : Int) (m + 1)).length := by omega
  simp (config := { maxSteps := 10000000 }) +contextual only [exa, ne_eq, not_false_eq_true, Nat.reduceAdd, Nat.reduceMul, Nat.reduceLT, Nat.reduceLeDiff, Nat.reduceEqDiff, Int.reduceLT, Int.reduceLE, Int.reduceEq, Int.reduceToNat, c1, w1, s1, c2, hn, i1, hg2, q1, hp2, s2, t2, oneOf, if_true]
 ·have s2 : ∀ {β : Type} {k : TVal → Heap → Option β} {d : Nat}, vop Om (.sliceA 24 1 (.k (.v (.c (.ptr (.own 5 g) 0)))) (some (.k (kI 1))) (some (.k (kI ((m + 2 : Nat) : Int))))) (h.own 5 g (.cells (wr cs (m + 1) (u : Int) (m + 1)) 0)) d k = k (.v (.c (.sref (.own 5 g) 1 (m + 1) (some 23) 1))) (h.own 5 g (.cells (wr cs (m + 1) (u : Int) (m + 1)) 0)) :=
   fun {β k d} => (x_sliceA 24 1 (.own 5 g) 0 1 (m + 2) _ 0 (by omega) (by omega) (by omega) hg2 (by omega)).trans (by rw [show m + 2 - 1 = m + 1 by omega])
  have t2 : ∀ {β : Type} {k : TVal → Heap → Option β} {d : Nat}, vop Om (.toStr (.k (.v (.c (.sref (.own 5 g) 1 (m + 1) (some 23) 1))))) (h.own 5 g (.cells (wr cs (m + 1) (u : Int) (m + 1)) 0)) d k = k (kS (Lib.decDigits u)) (h.own 5 g (.cells (wr cs (m + 1) (u : Int) (m + 1)) 0)) :=
   fun {β k d} => x_toStr_ref (.own 5 g) 1 (m + 1) (some 23) _ 0 _ hg2 (by omega) (by rw [hw]; exact bytesOf_map _)
  simp (config := { maxSteps := 10000000 }) +contextual only [exa, ne_eq, not_false_eq_true, Nat.reduceAdd, Nat.reduceMul, Nat.reduceLT, Nat.reduceLeDiff, Nat.reduceEqDiff, Int.reduceLT, Int.reduceLE, Int.reduceEq, Int.reduceToNat, c1, w1, s1, c2, hn, s2, t2, oneOf, if_false]
theorem plain24 : plainC (List.replicate 24 (.p (.int .u8 0))) := ⟨List.replicate 24 (.int .u8 0), by unfold pcells; rw [List.map_replicate]⟩
theorem fmt178 (n : Int) (h1 : -9223372036854775808 ≤ n) (h2 : n ≤ 9223372036854775807) : Om 56 [kI n, kI 10] [] = some (kS (Lib.itoa n), []) := by
 refine (orc_none rfl).trans ?_
 show lim tab.get S 56 0 0 [kI n, kI 10] h0 = _
 rw [w56_0, b56_0]
 by_cases hn : n < 0
 ·have e1 : IntKind.u64.wrap (0 - IntKind.u64.wrap n) = ((n.natAbs : Nat) : Int) := by
   have w : ∀ z : Int, IntKind.u64.wrap z = z % 18446744073709551616 := fun z => rfl
   rw [w, w]
   omega
  have hx : ¬ (0 : Int) ≤ n := by omega
  simp (config := { maxSteps := 10000000 }) +contextual only [exa, ne_eq, not_false_eq_true, Nat.reduceAdd, Nat.reduceMul, Nat.reduceLT, Nat.reduceLeDiff, Nat.reduceEqDiff, Int.reduceLT, Int.reduceLE, Int.reduceEq, Int.reduceToNat, hn, hx, e1]
  refine (f178_1 n n.natAbs 1 _ (List.replicate 24 (.p (.int .u8 0))) plain24 rfl (own_getE h0 5 1 _ 0 (by decide)) (by omega) (by omega)).trans ?_
  rw [if_pos hn]
  unfold Lib.itoa
  rw [if_pos hn]
 ·by_cases hs : n < 100
  ·obtain ⟨m, rfl⟩ : ∃ m : Nat, n = m := ⟨n.toNat, by omega⟩
   have c1 : ∀ {β : Type} {k : TVal → Heap → Option β} {h : Heap} {d : Nat}, vcall Om (.v (.c (.func 88 []))) [kI (m : Int)] h d k = k (kS (Lib.decDigits m)) h := vcall_pure 88 _ _ rfl (small184 m (by omega)) rfl
   simp (config := { maxSteps := 10000000 }) +contextual only [exa, ne_eq, not_false_eq_true, Nat.reduceAdd, Nat.reduceMul, Nat.reduceLT, Nat.reduceLeDiff, Nat.reduceEqDiff, Int.reduceLT, Int.reduceLE, Int.reduceEq, Int.reduceToNat, hn, hs, c1, oneOf]
   unfold Lib.itoa
   rw [if_neg hn, Int.toNat_natCast]
  ·obtain ⟨m, rfl⟩ : ∃ m : Nat, n = m := ⟨n.toNat, by omega⟩
   have e1 : IntKind.u64.wrap (m : Int) = (m : Int) := wrap_u64 _ (by omega) (by omega)
   simp (config := { maxSteps := 10000000 }) +contextual only [exa, ne_eq, not_false_eq_true, Nat.reduceAdd, Nat.reduceMul, Nat.reduceLT, Nat.reduceLeDiff, Nat.reduceEqDiff, Int.reduceLT, Int.reduceLE, Int.reduceEq, Int.reduceToNat, hn, hs, e1]
   refine (f178_1 (m : Int) m 1 _ (List.replicate 24 (.p (.int .u8 0))) plain24 rfl (own_getE h0 5 1 _ 0 (by decide)) (by omega) (by omega)).trans ?_
   rw [if_neg hn]
   unfold Lib.itoa
   rw [if_neg hn, Int.toNat_natCast]
theorem fmt154 (n : Int) (h1 : -9223372036854775808 ≤ n) (h2 : n ≤ 9223372036854775807) : Om 30 [kI n, kI 10] [] = some (kS (Lib.itoa n), []) := by
 have c1 : ∀ {β : Type} {k : TVal → Heap → Option β} {h : Heap} {d : Nat}, vcall Om (.v (.c (.func 56 []))) [kI n, kI 10] h d k = k (kS (Lib.itoa n)) h := vcall_pure 56 _ _ rfl (fmt178 n h1 h2) rfl
 refine (orc_none rfl).trans ?_
 show lim tab.get S 30 0 0 [kI n, kI 10] h0 = _
 rw [w30_0, b30_0]
 simp (config := { maxSteps := 10000000 }) +contextual only [exa, ne_eq, not_false_eq_true, Nat.reduceAdd, Nat.reduceMul, Nat.reduceLT, Nat.reduceLeDiff, Nat.reduceEqDiff, Int.reduceLT, Int.reduceLE, Int.reduceEq, Int.reduceToNat, c1, oneOf]
end Go.Proofs.YtiahgnkffnokfaaGreatDoor.Ab
