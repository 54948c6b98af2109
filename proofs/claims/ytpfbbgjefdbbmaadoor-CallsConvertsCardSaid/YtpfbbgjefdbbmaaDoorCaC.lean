/- CallsNumbers, whatever the numbers: conversions, the law. -/
import Derived.Test.YtpfbbgjefdbbmaaDoorCaB
set_option linter.all false
set_option linter.unusedVariables false
set_option linter.unusedSimpArgs false
set_option maxRecDepth 100000
namespace Go.Proofs.YtpfbbgjefdbbmaaDoor.Ab
open Go Go.AI
def names6 : List (List UInt8) := [[105, 56], [105, 49, 54], [105, 51, 50], [117, 56], [117, 49, 54], [117, 51, 50]]
def kindOf6 (nm : List UInt8) : IntKind := if nm = [105, 56] then .i8 else if nm = [105, 49, 54] then .i16 else if nm = [105, 51, 50] then .i32 else if nm = [117, 56] then .u8 else if nm = [117, 49, 54] then .u16 else .u32
def conv6 (nm : List UInt8) (a : Int) : Int := IntKind.i64.wrap ((kindOf6 nm).wrap a)
theorem ev6 (a : Int) (nm : List UInt8) (h : nm ∈ names6) : Om 10 [kS nm, kSl 6 true [vrow a]] [] = some (evV (vrow (conv6 nm a)), []) := by
 simp only [names6, List.mem_cons, List.not_mem_nil, or_false] at h
 unfold conv6
 rw [← wrapF_eq, ← wrapF_eq]
 rcases h with h | h | h | h | h | h <;> subst h
 ·exact ev_i8 a
 ·exact ev_i16 a
 ·exact ev_i32 a
 ·exact ev_u8 a
 ·exact ev_u16 a
 ·exact ev_u32 a
theorem wrap_narrow (K : IntKind) (hK : K ∈ [IntKind.i8, .i16, .i32, .u8, .u16, .u32]) (a : Int) : IntKind.i64.wrap (K.wrap a) = K.wrap a ∧ K.wrap (K.wrap a) = K.wrap a := by
 have su : ∀ (bits : Nat) (z : Int), z % (2 ^ bits : Int) % (2 ^ bits : Int) = z % (2 ^ bits : Int) := fun bits z => Int.emod_emod_of_dvd z (Int.dvd_refl _)
 simp only [List.mem_cons, List.not_mem_nil, or_false] at hK
 rcases hK with h | h | h | h | h | h <;> subst h
 ·have e : ∀ z : Int, IntKind.i8.wrap z = if 128 ≤ z % 256 then z % 256 - 256 else z % 256 := fun z => by
   show (if (true && decide (z % (2 ^ 8 : Int) ≥ (2 ^ 7 : Int))) = true then z % (2 ^ 8 : Int) - (2 ^ 8 : Int) else z % (2 ^ 8 : Int)) = _
   simp only [Bool.true_and, decide_eq_true_eq]; rfl
  have hb : -128 ≤ IntKind.i8.wrap a ∧ IntKind.i8.wrap a ≤ 127 := by rw [e]; split <;> omega
  exact ⟨wrap_i64 _ (by omega) (by omega), by rw [e (IntKind.i8.wrap a)]; split <;> omega⟩
 ·have e : ∀ z : Int, IntKind.i16.wrap z = if 32768 ≤ z % 65536 then z % 65536 - 65536 else z % 65536 := fun z => by
   show (if (true && decide (z % (2 ^ 16 : Int) ≥ (2 ^ 15 : Int))) = true then z % (2 ^ 16 : Int) - (2 ^ 16 : Int) else z % (2 ^ 16 : Int)) = _
   simp only [Bool.true_and, decide_eq_true_eq]; rfl
  have hb : -32768 ≤ IntKind.i16.wrap a ∧ IntKind.i16.wrap a ≤ 32767 := by rw [e]; split <;> omega
  exact ⟨wrap_i64 _ (by omega) (by omega), by rw [e (IntKind.i16.wrap a)]; split <;> omega⟩
 ·have e : ∀ z : Int, IntKind.i32.wrap z = if 2147483648 ≤ z % 4294967296 then z % 4294967296 - 4294967296 else z % 4294967296 := fun z => by
   show (if (true && decide (z % (2 ^ 32 : Int) ≥ (2 ^ 31 : Int))) = true then z % (2 ^ 32 : Int) - (2 ^ 32 : Int) else z % (2 ^ 32 : Int)) = _
   simp only [Bool.true_and, decide_eq_true_eq]; rfl
  have hb : -2147483648 ≤ IntKind.i32.wrap a ∧ IntKind.i32.wrap a ≤ 2147483647 := by rw [e]; split <;> omega
  exact ⟨wrap_i64 _ (by omega) (by omega), by rw [e (IntKind.i32.wrap a)]; split <;> omega⟩
 ·have e : ∀ z : Int, IntKind.u8.wrap z = z % 256 := fun z => rfl
  exact ⟨wrap_i64 _ (by rw [e]; omega) (by rw [e]; omega), by rw [e, e]; omega⟩
 ·have e : ∀ z : Int, IntKind.u16.wrap z = z % 65536 := fun z => rfl
  exact ⟨wrap_i64 _ (by rw [e]; omega) (by rw [e]; omega), by rw [e, e]; omega⟩
 ·have e : ∀ z : Int, IntKind.u32.wrap z = z % 4294967296 := fun z => rfl
  exact ⟨wrap_i64 _ (by rw [e]; omega) (by rw [e]; omega), by rw [e, e]; omega⟩
theorem kind6_mem (nm : List UInt8) : kindOf6 nm ∈ [IntKind.i8, .i16, .i32, .u8, .u16, .u32] := by
 unfold kindOf6
 (repeat' split) <;> simp
theorem conv6_idem (nm : List UInt8) (a : Int) : conv6 nm (conv6 nm a) = conv6 nm a := by
 obtain ⟨h1, h2⟩ := wrap_narrow _ (kind6_mem nm) a
 unfold conv6
 rw [h1, h2, h1]
def wants6 (a : Int) : List Int := names6.map fun nm => conv6 nm a
theorem num_loop2 (a : Int) (x0 x1 x7 : TVal) (g : Nat) (Y : Res1) (hX : ∀ h, lim tab.get S 3 0 4 [x0, x1, x7] h = Y) : ∀ (m i : Nat) (h : Heap), 6 - i ≤ m → i ≤ 6 → H5 (.own 5 g) a h →
  lim tab.get S 3 0 3 [x0, x1, .v (.c (.ptr (.own 5 g) 0)), x7, kSl 1 true ((wants6 a).map fun n => [.int .i64 n]), kSl 1 true (names6.map fun s => [.str s]), kI (i : Int)] h = Y := by
 intro m
 have done : ∀ (i : Nat) (h : Heap), i = 6 → lim tab.get S 3 0 3 [x0, x1, .v (.c (.ptr (.own 5 g) 0)), x7, kSl 1 true ((wants6 a).map fun n => [.int .i64 n]), kSl 1 true (names6.map fun s => [.str s]), kI (i : Int)] h = Y := by
  intro i h hi
  subst hi
  rw [w3_3, b3_3, vbin_lss, decide_eq_false (by decide), vif_f]
  exact hX h
 induction m with
 | zero => intro i h h1 h2 H; exact done i h (by omega)
 | succ m ih =>
  intro i h h1 h2 H
  by_cases hi : i < 6
  ·obtain ⟨nm, hn⟩ : ∃ nm, names6[i]? = some nm := ⟨names6[i]'(by simpa [names6] using hi), by simp⟩
   have hnm := List.mem_of_getElem? hn
   have rn : (names6.map fun s => [PVal.str s])[i]? = some [.str nm] := by rw [List.getElem?_map, hn]; rfl
   have rw' : ((wants6 a).map fun n => [PVal.int .i64 n])[i]? = some [.int .i64 (conv6 nm a)] := by unfold wants6; rw [List.getElem?_map, List.getElem?_map, hn]; rfl
   have iad : plan .nil (.iaddr 1 (.k (kSl 1 true (names6.map fun s => [.str s]))) (.k (kI (i : Int)))) = some (.pure (.v (.c (.p (.pptr [.str nm] 0))))) := by
    simp [plan, X.ev, asN, rn]
   have ld : plan .nil (.load false 1 (.k (.v (.c (.p (.pptr [.str nm] 0)))))) = some (.pure (kS nm)) := rfl
   have bs : ∀ v : Int, plan .nil (.bslice 6 1 z6 [(0, .k (.v (.agg (pcells (vrow v)))))] false) = some (.pure (kSl 6 true [vrow v])) := fun v => rfl
   have ex : ∀ v : Int, plan .nil (.extract (.k (evV (vrow v))) 0) = some (.pure (.v (.agg (pcells (vrow v))))) ∧ plan .nil (.extract (.k (evV (vrow v))) 1) = some (.pure (kI 0)) := fun v => ⟨rfl, rfl⟩
   have c10 := fun (v : Int) (h : Heap) (d : Nat) (k : TVal → Heap → Go.AI.Touch → Res1) => vtouch_call (O := Om) (h := h) (d := d) (k := k) 10 [kS nm, kSl 6 true [vrow v]] (evV (vrow (conv6 nm v))) rfl (ev6 v nm hnm) rfl
   have spl : ∀ v : Int, splice z6 0 (Comp.agg (pcells (vrow v))).cells = pcells (vrow v) := fun v => rfl
   rw [w3_3, b3_3, vbin_lss, decide_eq_true (show (i : Int) < 6 by omega), vif_t,
    vtouch_plan (.mv (.k (kSl 1 true (names6.map fun s => [.str s])))) _ rfl, vtouch_plan (.mv (.k (kI (i : Int)))) _ rfl, vtouch_plan _ _ iad, vtouch_plan _ _ ld,
    vtouch_load_agg 6 (.own 5 g) 0 0 _ H rfl, show ((pcells (vrow a)).drop 0).take 6 = pcells (vrow a) from rfl, vtouch_plan _ _ (bs a)]
   refine (c10 a _ _ _).trans ?_
   rw [vtouch_plan (.mv (.k (evV (vrow (conv6 nm a))))) _ rfl, vtouch_plan _ _ (ex (conv6 nm a)).1, vtouch_plan _ _ (ex (conv6 nm a)).2, vtouch_alloc,
    vtouch_store 6 (.own 16 (h.gen 16 + 1)) 0 0 _ (.agg (pcells (vrow (conv6 nm a)))) (Heap.own_get _ _ _ _ (by decide) (fun e => by cases e)) (by decide) rfl (by decide), Heap.put_own, spl, vtouch_plan (.mv (.k (kI 0))) _ rfl]
   have hg16 : (((h.own 16 (h.gen 16 + 1) (.cells z6 0)).own 16 (h.gen 16 + 1) (.cells (pcells (vrow (conv6 nm a))) 0)).get (.own 16 (h.gen 16 + 1))) = some (.cells (pcells (vrow (conv6 nm a))) 0) := Heap.own_get _ _ _ _ (by decide) (fun e => by cases e)
   have H' : H5 (.own 5 g) a ((h.own 16 (h.gen 16 + 1) (.cells z6 0)).own 16 (h.gen 16 + 1) (.cells (pcells (vrow (conv6 nm a))) 0)) := (H.own 16 _ _ (by decide)).own 16 _ _ (by decide)
   generalize ((h.own 16 (h.gen 16 + 1) (.cells z6 0)).own 16 (h.gen 16 + 1) (.cells (pcells (vrow (conv6 nm a))) 0)) = h1 at hg16 H'
   have bif1 : ∀ (A B : Res1), (bif apartAll [noTouch, noTouch, noTouch, noTouch, ⟨[Ref.site (.own 5 g)], [], false⟩, noTouch, noTouch, noTouch, noTouch, noTouch, ⟨[], [.own 16], false⟩, ⟨[Ref.site (.own 16 (h.gen 16 + 1))], [Ref.site (.own 16 (h.gen 16 + 1))], false⟩, noTouch] [(3, 5), (3, 10), (4, 10), (5, 10), (6, 10)] then A else B) = A := fun A B => rfl
   refine (bif1 _ _).trans ?_
   rw [vtouch_plan (.mv (.k (kSl 1 true (names6.map fun s => [.str s])))) _ rfl, vtouch_plan (.mv (.k (kI (i : Int)))) _ rfl, vtouch_plan _ _ iad, vtouch_plan _ _ ld,
    vtouch_load_agg 6 (.own 16 (h.gen 16 + 1)) 0 0 _ hg16 rfl, show ((pcells (vrow (conv6 nm a))).drop 0).take 6 = pcells (vrow (conv6 nm a)) from rfl, vtouch_plan _ _ (bs (conv6 nm a))]
   refine (c10 (conv6 nm a) _ _ _).trans ?_
   rw [conv6_idem, vtouch_plan (.mv (.k (evV (vrow (conv6 nm a))))) _ rfl, vtouch_plan _ _ (ex (conv6 nm a)).1, vtouch_plan _ _ (ex (conv6 nm a)).2, vtouch_alloc,
    vtouch_store 6 (.own 18 (h1.gen 18 + 1)) 0 0 _ (.agg (pcells (vrow (conv6 nm a)))) (Heap.own_get _ _ _ _ (by decide) (fun e => by cases e)) (by decide) rfl (by decide), Heap.put_own, spl, vtouch_plan (.mv (.k (kI 0))) _ rfl]
   have hg18 : (((h1.own 18 (h1.gen 18 + 1) (.cells z6 0)).own 18 (h1.gen 18 + 1) (.cells (pcells (vrow (conv6 nm a))) 0)).get (.own 18 (h1.gen 18 + 1))) = some (.cells (pcells (vrow (conv6 nm a))) 0) := Heap.own_get _ _ _ _ (by decide) (fun e => by cases e)
   have hg16' : (((h1.own 18 (h1.gen 18 + 1) (.cells z6 0)).own 18 (h1.gen 18 + 1) (.cells (pcells (vrow (conv6 nm a))) 0)).get (.own 16 (h.gen 16 + 1))) = some (.cells (pcells (vrow (conv6 nm a))) 0) := (Heap.own_get_ne _ 18 _ _ 16 _ (by decide)).trans ((Heap.own_get_ne _ 18 _ _ 16 _ (by decide)).trans hg16)
   have H'' := (H'.own 18 (h1.gen 18 + 1) (.cells z6 0) (by decide)).own 18 (h1.gen 18 + 1) (.cells (pcells (vrow (conv6 nm a))) 0) (by decide)
   have bif2 : ∀ (A B : Res1), (bif apartAll [noTouch, noTouch, noTouch, noTouch, ⟨[Ref.site (.own 16 (h.gen 16 + 1))], [], false⟩, noTouch, noTouch, noTouch, noTouch, noTouch, ⟨[], [.own 18], false⟩, ⟨[Ref.site (.own 18 (h1.gen 18 + 1))], [Ref.site (.own 18 (h1.gen 18 + 1))], false⟩, noTouch] [(3, 5), (3, 10), (4, 10), (5, 10), (6, 10)] then A else B) = A := fun A B => rfl
   refine (bif2 _ _).trans ?_
   generalize ((h1.own 18 (h1.gen 18 + 1) (.cells z6 0)).own 18 (h1.gen 18 + 1) (.cells (pcells (vrow (conv6 nm a))) 0)) = h2' at hg18 hg16' H''
   rw [vbin_neq, decide_eq_true rfl]
   simp only [Bool.not_true, vguard_ff, vfaddr_ptr]
   rw [vload_one 1 _ _ 0 _ (.p (.int .i64 (conv6 nm a))) hg16' rfl, viaddr_sl 1 true _ i _ rw', vload_pptr _ _ _ (.int .i64 (conv6 nm a)) rfl, vbin_neq, decide_eq_true rfl, vpick_f]
   simp only [Bool.not_true, vguard_ff]
   rw [vbin_neq, decide_eq_true rfl, vpick_f]
   simp only [Bool.not_true, vguard_ff, vfaddr_ptr]
   rw [vload_one 1 _ _ 0 _ (.p (.int .i64 (conv6 nm a))) hg18 rfl, vload_one 1 _ _ 0 _ (.p (.int .i64 (conv6 nm a))) hg16' rfl, vbin_neq, decide_eq_true rfl, vpick_f]
   simp only [Bool.not_true, vif_f]
   rw [vbin_add, wrap_i64 _ (by omega) (by omega), show ((i : Int) + 1) = ((i + 1 : Nat) : Int) by omega]
   exact ih (i + 1) _ (by omega) (by omega) H''
  ·exact done i h (by omega)
theorem bs5 (a b c d e : Int) : plan .nil (.bslice 1 5 [(.p (.int .i64 0))] [(0, .k (kI a)), (1, .k (kI b)), (2, .k (kI c)), (3, .k (kI d)), (4, .k (kI e))] false) = some (.pure (kSl 1 true ([a, b, c, d, e].map fun n => [.int .i64 n]))) := by kernel_rfl
theorem bs6 (a b c d e f : Int) : plan .nil (.bslice 1 6 [(.p (.int .i64 0))] [(0, .k (kI a)), (1, .k (kI b)), (2, .k (kI c)), (3, .k (kI d)), (4, .k (kI e)), (5, .k (kI f))] false) = some (.pure (kSl 1 true ([a, b, c, d, e, f].map fun n => [.int .i64 n]))) := by kernel_rfl
/-- THE LAW. -/
theorem numbers_law (a b : Int) : Om 3 [kI a, kI b] [] = some (kB true, []) := by
 refine (orc_none rfl).trans ?_
 show lim tab.get S 3 0 0 [kI a, kI b] h0 = _
 have h64 : min (sh b) 64 = sh b := by have := sh_lt b; omega
 have hb : ∀ v : Int, plan .nil (.build z6 [(0, 1, .k (kI 2)), (2, 1, .k (kI v))]) = some (.pure (.v (.agg (pcells (vrow v))))) := fun v => rfl
 have spl : ∀ v : Int, splice z6 0 (Comp.agg (pcells (vrow v))).cells = pcells (vrow v) := fun v => rfl
 rw [w3_0, b3_0, vcall_pure 9 _ _ rfl known_ok rfl, vnot, vif_kB, if_neg (by decide), vplan _ _ (hb a), vplan _ _ (hb b), valloc, valloc, h0_gen]
 have e5 : ((h0.own 5 (0 + 1) (.cells z6 0)).own 6 ((h0.own 5 (0 + 1) (.cells z6 0)).gen 6 + 1) (.cells z6 0)).get (.own 5 (0 + 1)) = some (.cells z6 0) := (Heap.own_get_ne _ 6 _ _ 5 _ (by decide)).trans (Heap.own_get _ _ _ _ (by decide) (fun e => by cases e))
 have e6 : ((h0.own 5 (0 + 1) (.cells z6 0)).own 6 ((h0.own 5 (0 + 1) (.cells z6 0)).gen 6 + 1) (.cells z6 0)).get (.own 6 ((h0.own 5 (0 + 1) (.cells z6 0)).gen 6 + 1)) = some (.cells z6 0) := Heap.own_get _ _ _ _ (by decide) (fun e => by cases e)
 generalize (h0.own 5 (0 + 1) (.cells z6 0)).gen 6 + 1 = g6 at e5 e6
 generalize (h0.own 5 (0 + 1) (.cells z6 0)).own 6 g6 (.cells z6 0) = h at e5 e6
 rw [vstore_ptr 6 (.own 5 (0 + 1)) 0 0 _ (.agg (pcells (vrow a))) e5 (by decide) rfl (by decide), Heap.put_own, spl]
 have f6 : (h.own 5 (0 + 1) (.cells (pcells (vrow a)) 0)).get (.own 6 g6) = some (.cells z6 0) := (Heap.own_get_ne _ 5 _ _ 6 _ (by decide)).trans e6
 rw [vstore_ptr 6 (.own 6 g6) 0 0 _ (.agg (pcells (vrow b))) f6 (by decide) rfl (by decide), Heap.put_own, spl]
 have H : H5 (.own 5 (0 + 1)) a ((h.own 5 (0 + 1) (.cells (pcells (vrow a)) 0)).own 6 g6 (.cells (pcells (vrow b)) 0)) := (Heap.own_get_ne _ 6 _ _ 5 _ (by decide)).trans (Heap.own_get _ _ _ _ (by decide) (fun e => by cases e))
 have H6 : ((h.own 5 (0 + 1) (.cells (pcells (vrow a)) 0)).own 6 g6 (.cells (pcells (vrow b)) 0)).get (.own 6 g6) = some (.cells (pcells (vrow b)) 0) := Heap.own_get _ _ _ _ (by decide) (fun e => by cases e)
 generalize ((h.own 5 (0 + 1) (.cells (pcells (vrow a)) 0)).own 6 g6 (.cells (pcells (vrow b)) 0)) = h1 at H H6
 rw [vload_agg 6 _ 0 0 _ H rfl, vload_agg 6 _ 0 0 _ H6 rfl, show ((pcells (vrow a)).drop 0).take 6 = pcells (vrow a) from rfl, show ((pcells (vrow b)).drop 0).take 6 = pcells (vrow b) from rfl]
 refine (vplan _ (kSl 6 true [vrow a, vrow b]) ?_).trans ?_
 ·rfl
 refine (vplan _ (kSl 1 true (names5.map fun s => [.str s])) ?_).trans ?_
 ·rfl
 rw [vbin_and, vtoInt_n, and_sh, vbin_add, vbin_sub, vbin_mul, vbin_shl, vbin_shr, h64]
 have hw5 : wants5 a b = [IntKind.i64.wrap (a + b), IntKind.i64.wrap (a - b), IntKind.i64.wrap (a * b), IntKind.i64.wrap (a * 2 ^ sh b), a.fdiv (2 ^ sh b)] := by simp [wants5, names5, reckonM, nAdd, nSub, nMul, nShl, nShr]
 refine (vplan _ (kSl 1 true ((wants5 a b).map fun n => [.int .i64 n])) ?_).trans ?_
 ·rw [hw5]; exact bs5 _ _ _ _ _
 refine num_loop1 a b _ 5 (0 + 1) (by decide) (some (kB true, [])) (fun h H => ?_) 5 0 h1 (by decide) (by decide) H
 rw [w3_2, b3_2]
 refine (vplan _ (kSl 1 true (names6.map fun s => [.str s])) ?_).trans ?_
 ·rfl
 rw [vtoInt_n, vtoInt_n, vtoInt_n, vtoInt_n, vtoInt_n, vtoInt_n, vtoInt_n, vtoInt_n, vtoInt_n, vtoInt_n, vtoInt_n, vtoInt_n]
 have hw6 : wants6 a = [IntKind.i64.wrap (IntKind.i8.wrap a), IntKind.i64.wrap (IntKind.i16.wrap a), IntKind.i64.wrap (IntKind.i32.wrap a), IntKind.i64.wrap (IntKind.u8.wrap a), IntKind.i64.wrap (IntKind.u16.wrap a), IntKind.i64.wrap (IntKind.u32.wrap a)] := by simp [wants6, names6, conv6, kindOf6]
 refine (vplan _ (kSl 1 true ((wants6 a).map fun n => [.int .i64 n])) ?_).trans ?_
 ·rw [hw6]; exact bs6 _ _ _ _ _ _
 exact num_loop2 a (kI a) (kI b) (kSl 6 true [vrow a, vrow b]) (0 + 1) (some (kB true, [])) (fun h => num_end a b h) 6 0 h (by decide) (by decide) H
end Go.Proofs.YtpfbbgjefdbbmaaDoor.Ab
