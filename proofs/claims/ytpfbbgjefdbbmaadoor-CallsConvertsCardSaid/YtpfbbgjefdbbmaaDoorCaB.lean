/- CallsNumbers, whatever the numbers. -/
import Derived.Test.YtpfbbgjefdbbmaaDoorCaA
set_option linter.all false
set_option linter.unusedVariables false
set_option linter.unusedSimpArgs false
set_option maxRecDepth 100000
namespace Go.Proofs.YtpfbbgjefdbbmaaDoor.Ab
open Go Go.AI
abbrev z6 : List Cell := [.p (.int .i64 0), .p (.bool false), .p (.int .i64 0), .p (.str []), .p .nilslice, .p .nilslice]
def H5 (r : Ref) (a : Int) (h : Heap) : Prop := h.get r = some (.cells (pcells (vrow a)) 0)
theorem H5.own {e g : Nat} {a : Int} {h : Heap} (H : H5 (.own e g) a h) (d g' : Nat) (o : AObj) (hd : d ≠ e) : H5 (.own e g) a (h.own d g' o) := (Heap.own_get_ne h d g' o e g hd).trans H
def names5 : List (List UInt8) := [nAdd, nSub, nMul, nShl, nShr]
def wants5 (a b : Int) : List Int := names5.map fun nm => reckonM nm a b
theorem ev5 (a b : Int) (nm : List UInt8) (h : nm ∈ names5) : Om 10 [kS nm, kSl 6 true [vrow a, vrow b]] [] = some (evV (vrow (reckonM nm a b)), []) := by
 simp only [names5, List.mem_cons, List.not_mem_nil, or_false] at h
 rcases h with h | h | h | h | h <;> subst h
 ·exact ev_add a b
 ·exact ev_sub a b
 ·exact ev_mul a b
 ·exact ev_shl a b
 ·exact ev_shr a b
theorem num_loop1 (a b : Int) (x5 : TVal) (r : Nat) (g : Nat) (hr : r ≠ 12) (X : Res1) (hX : ∀ h, H5 (.own r g) a h → lim tab.get S 3 0 2 [kI a, kI b, x5, kSl 6 true [vrow a, vrow b]] h = X) : ∀ (m i : Nat) (h : Heap), 5 - i ≤ m → i ≤ 5 → H5 (.own r g) a h →
  lim tab.get S 3 0 1 [kI a, kI b, x5, kSl 6 true [vrow a, vrow b], kSl 1 true (names5.map fun s => [.str s]), kSl 1 true ((wants5 a b).map fun n => [.int .i64 n]), kI (i : Int)] h = X := by
 intro m
 have done : ∀ (i : Nat) (h : Heap), i = 5 → H5 (.own r g) a h → lim tab.get S 3 0 1 [kI a, kI b, x5, kSl 6 true [vrow a, vrow b], kSl 1 true (names5.map fun s => [.str s]), kSl 1 true ((wants5 a b).map fun n => [.int .i64 n]), kI (i : Int)] h = X := by
  intro i h hi H
  subst hi
  rw [w3_1, b3_1, vbin_lss, decide_eq_false (by decide), vif_f]
  exact hX h H
 induction m with
 | zero => intro i h h1 h2 H; exact done i h (by omega) H
 | succ m ih =>
  intro i h h1 h2 H
  by_cases hi : i < 5
  ·obtain ⟨nm, hn⟩ : ∃ nm, names5[i]? = some nm := ⟨names5[i]'(by simpa [names5] using hi), by simp⟩
   have hnm := List.mem_of_getElem? hn
   have rn : (names5.map fun s => [PVal.str s])[i]? = some [.str nm] := by rw [List.getElem?_map, hn]; rfl
   have rw' : ((wants5 a b).map fun n => [PVal.int .i64 n])[i]? = some [.int .i64 (reckonM nm a b)] := by unfold wants5; rw [List.getElem?_map, List.getElem?_map, hn]; rfl
   have hg : (((h.own 12 (h.gen 12 + 1) (.cells z6 0)).own 12 (h.gen 12 + 1) (.cells (pcells (vrow (reckonM nm a b))) 0)).get (.own 12 (h.gen 12 + 1))) = some (.cells (pcells (vrow (reckonM nm a b))) 0) := Heap.own_get _ _ _ _ (by decide) (fun e => by cases e)
   rw [w3_1, b3_1, vbin_lss, decide_eq_true (show (i : Int) < 5 by omega), vif_t, viaddr_sl 1 true _ i _ rn, vload_pptr _ _ _ (.str nm) rfl, vcall_pure 10 _ _ rfl (ev5 a b nm hnm) rfl, vext_tup _ 0 _ rfl, vext_tup _ 1 _ rfl, valloc,
    vstore_ptr 6 (.own 12 (h.gen 12 + 1)) 0 0 _ (.agg (pcells (vrow (reckonM nm a b)))) (Heap.own_get _ _ _ _ (by decide) (fun e => by cases e)) (by decide) rfl (by decide), Heap.put_own, vbin_neq, decide_eq_true rfl]
   rw [show splice z6 0 (Comp.agg (pcells (vrow (reckonM nm a b)))).cells = pcells (vrow (reckonM nm a b)) from rfl]
   simp only [Bool.not_true, vguard_ff, vfaddr_ptr]
   rw [vload_one 1 _ _ 0 _ (.p (.int .i64 2)) hg rfl, vbin_neq, decide_eq_true rfl, vpick_f]
   simp only [Bool.not_true, vguard_ff, vfaddr_ptr]
   rw [vload_one 1 _ _ 0 _ (.p (.int .i64 (reckonM nm a b))) hg rfl, viaddr_sl 1 true _ i _ rw', vload_pptr _ _ _ (.int .i64 (reckonM nm a b)) rfl, vbin_neq, decide_eq_true rfl, vpick_f]
   simp only [Bool.not_true, vif_f]
   rw [vbin_add, wrap_i64 _ (by omega) (by omega), show ((i : Int) + 1) = ((i + 1 : Nat) : Int) by omega]
   refine ih (i + 1) _ (by omega) (by omega) ?_
   exact ((Heap.own_get_ne _ 12 _ _ r g (Ne.symm hr)).trans ((Heap.own_get_ne _ 12 _ _ r g (Ne.symm hr)).trans H))
  ·exact done i h (by omega) H
theorem num_end (a b : Int) (h : Heap) : lim tab.get S 3 0 4 [kI a, kI b, kSl 6 true [vrow a, vrow b]] h = some (kB true, []) := by
 have e1 : bltI a b = decide (a < b) := bltI_eq a b
 have g20 : ∀ (h : Heap) (x : Bool), ((h.own 20 (h.gen 20 + 1) (.cells z6 0)).own 20 (h.gen 20 + 1) (.cells (pcells (trow x)) 0)).get (.own 20 (h.gen 20 + 1)) = some (.cells (pcells (trow x)) 0) := fun h x => Heap.own_get _ _ _ _ (by decide) (fun e => by cases e)
 rw [w3_4, b3_4, vcall_pure 10 _ _ rfl (ev_lt a b) rfl, vext_tup _ 0 _ rfl, vext_tup _ 1 _ rfl, valloc,
  vstore_ptr 6 (.own 20 (h.gen 20 + 1)) 0 0 _ (.agg (pcells (trow (bltI a b)))) (Heap.own_get _ _ _ _ (by decide) (fun e => by cases e)) (by decide) rfl (by decide), Heap.put_own,
  show splice z6 0 (Comp.agg (pcells (trow (bltI a b)))).cells = pcells (trow (bltI a b)) from rfl, e1]
 have hg1 := g20 h (decide (a < b))
 generalize ((h.own 20 (h.gen 20 + 1) (.cells z6 0)).own 20 (h.gen 20 + 1) (.cells (pcells (trow (decide (a < b)))) 0)) = h1 at hg1
 rw [vcall_pure 10 _ _ rfl (ev_eq a b) rfl, vext_tup _ 0 _ rfl, vext_tup _ 1 _ rfl, valloc,
  vstore_ptr 6 (.own 22 (h1.gen 22 + 1)) 0 0 _ (.agg (pcells (trow (decide (a = b))))) (Heap.own_get _ _ _ _ (by decide) (fun e => by cases e)) (by decide) rfl (by decide), Heap.put_own,
  show splice z6 0 (Comp.agg (pcells (trow (decide (a = b))))).cells = pcells (trow (decide (a = b))) from rfl]
 have hg2 : ((h1.own 22 (h1.gen 22 + 1) (.cells z6 0)).own 22 (h1.gen 22 + 1) (.cells (pcells (trow (decide (a = b)))) 0)).get (.own 22 (h1.gen 22 + 1)) = some (.cells (pcells (trow (decide (a = b)))) 0) := Heap.own_get _ _ _ _ (by decide) (fun e => by cases e)
 have hg1' : ((h1.own 22 (h1.gen 22 + 1) (.cells z6 0)).own 22 (h1.gen 22 + 1) (.cells (pcells (trow (decide (a = b)))) 0)).get (.own 20 (h.gen 20 + 1)) = some (.cells (pcells (trow (decide (a < b)))) 0) := (Heap.own_get_ne _ 22 _ _ 20 _ (by decide)).trans ((Heap.own_get_ne _ 22 _ _ 20 _ (by decide)).trans hg1)
 rw [vbin_eql, decide_eq_true rfl]
 simp only [vguard_tt, vfaddr_ptr]
 rw [vload_one 1 _ _ 0 _ (.p (.bool (decide (a < b)))) hg1' rfl, vbin_lss, vbin_beql, beq_self_eq_true, vpick_t]
 simp only [vguard_tt]
 rw [vbin_eql, decide_eq_true rfl, vpick_t]
 simp only [vguard_tt, vfaddr_ptr]
 rw [vload_one 1 _ _ 0 _ (.p (.bool (decide (a = b)))) hg2 rfl, vbin_eql, vbin_beql, beq_self_eq_true, vpick_t, tcomp_c, vfin_pure _ _ rfl]
 rfl
end Go.Proofs.YtpfbbgjefdbbmaaDoor.Ab
