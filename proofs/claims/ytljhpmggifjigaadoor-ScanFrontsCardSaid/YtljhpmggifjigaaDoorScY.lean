/- ScanFirst, whatever the input: of several words that are none the first is told. -/
import Derived.Test.YtljhpmggifjigaaDoorScX
import Derived.Test.YtljhpmggifjigaaDoorScN
import Derived.Test.YtljhpmggifjigaaDoorScP
set_option linter.all false
set_option linter.unusedVariables false
set_option linter.unusedSimpArgs false
set_option maxRecDepth 100000
namespace Go.Proofs.YtljhpmggifjigaaDoor.Ab
open Go Go.AI
section
variable {β : Type} {O : Oracle} {h : Heap} {d : Nat} {k : TVal → Heap → Option β}
theorem vlen_ints (K : IntKind) (o : Option (List Int)) : vlen O 2 (.v (.c (.p (intsP K o)))) h d k = k (kI ((intsL o).length : Int)) h := by
 cases o with
 | none => rfl
 | some l => show vlen O 2 (.v (.c (.p (.slice 1 false (l.map fun n => [.int K n]))))) h d k = _; rw [vlen_sl]; simp [intsL]
theorem viaddr_ints (K : IntKind) (o : Option (List Int)) (n : Nat) (x : Int) (hx : (intsL o)[n]? = some x) : viaddr 1 (.v (.c (.p (intsP K o)))) (kI (n : Int)) h k = k (.v (.c (.p (.pptr [.int K x] 0)))) h := by
 cases o with
 | none => simp [intsL] at hx
 | some l => exact viaddr_sl 1 false _ n _ (by simp only [intsL, Option.getD_some] at hx; rw [List.getElem?_map, hx]; rfl)
theorem viaddr_sl0 (sz : Nat) (t : Bool) (row : List PVal) (rows : List (List PVal)) : viaddr sz (.v (.c (.p (.slice sz t (row :: rows))))) (kI 0) h k = k (.v (.c (.p (.pptr row 0)))) h := viaddr_sl sz t (row :: rows) 0 row rfl
end
theorem wi_nat (a : Int) (n : Nat) (hn : 0 < n) : ∃ k : Nat, wi a n = k ∧ k < n := by
 have := wi_bounds a (n : Int) (by omega)
 exact ⟨(wi a n).toNat, by omega, by omega⟩
theorem within5 (z : Int) : ∃ k : Nat, Om 15 [kI z, kI 5] [] = some (kI (k : Int), []) ∧ k < 5 ∧ wi z 5 = k := by
 obtain ⟨k, h1, h2⟩ := wi_nat z 5 (by decide)
 exact ⟨k, by rw [← h1]; exact within_ok z 5 (by decide) (by decide), h2, h1⟩
theorem ahead_list : plan .nil (.bslice 1 5 [(.p (.str []))] [(0, (.k (kS [97, 32]))), (1, (.k (kS [49, 32]))), (2, (.k (kS [34, 113, 34, 32]))), (3, (.k (kS [46, 32]))), (4, (.k (kS [45, 62, 32])))] false) = some (.pure (kSl 1 true (aheadM.map fun s => [.str s]))) := rfl
theorem bad_list : plan .nil (.bslice 1 5 [(.p (.str []))] [(0, (.k (kS [35]))), (1, (.k (kS [97, 98, 99, 100, 101, 102, 103, 104, 105, 106, 107, 108, 109, 110, 111, 112, 113, 114]))), (2, (.k (kS [34, 92, 113, 34]))), (3, (.k (kS [57, 57, 57, 57, 57, 57, 57, 57, 57, 57, 57, 57, 57, 57, 57, 57, 57, 57, 57, 57]))), (4, (.k (kS [57, 50, 50, 51, 51, 55, 50, 48, 51, 54, 56, 53, 52, 55, 55, 53, 56, 48, 56])))] false) = some (.pure (kSl 1 true (badM.map fun s => [.str s]))) := rfl
theorem err_list : plan .nil (.bslice 1 5 [(.p (.int .i64 0))] [(0, (.k (kI 11))), (1, (.k (kI 4))), (2, (.k (kI 11))), (3, (.k (kI 4))), (4, (.k (kI 11)))] false) = some (.pure (kSl 1 true (errM.map fun s => [.int .i64 s]))) := rfl
theorem first_loop (o : Option (List Int)) (a b x7 x8 : TVal) : ∀ (m i : Nat) (s : List UInt8) (h : Heap), 20 - i ≤ m → i ≤ (intsL o).length → s.length ≤ 4 * i → i ≤ 20 →
  ∃ l : List (List UInt8), (∀ x ∈ l, x ∈ aheadM) ∧ l.length + i ≤ 20 ∧ lim tab.get S 8 0 1 [.v (.c (.p (intsP .i64 o))), a, b, x7, x8, kS s, kI (i : Int)] h = lim tab.get S 8 0 2 [a, b, x7, x8, kS (s ++ l.flatten)] h := by
 intro m
 induction m with
 | zero =>
  intro i s h hm hi hs h20
  refine ⟨[], by simp, by simpa using h20, ?_⟩
  have e1 : decide ((i : Int) < 20) = false := decide_eq_false (by omega)
  rw [w8_1, b8_1, vlen_ints, vbin_lss]
  by_cases hl : (i : Int) < ((intsL o).length : Int)
  ·rw [decide_eq_true hl]
   simp only [vguard_tt, vbin_lss, e1, vpick_t, vif_f]; simp
  ·rw [decide_eq_false hl]
   simp only [vguard_ft, vpick_f, vif_f]; simp
 | succ m ih =>
  intro i s h hm hi hs h20
  rw [w8_1, b8_1, vlen_ints, vbin_lss]
  by_cases hl : (i : Int) < ((intsL o).length : Int)
  ·rw [decide_eq_true hl]
   simp only [vguard_tt, vbin_lss, vpick_t]
   by_cases hl2 : i < 20
   ·have e1 : decide ((i : Int) < 20) = true := decide_eq_true (by omega)
    have hlt : i < (intsL o).length := by omega
    obtain ⟨z, hz⟩ : ∃ z, (intsL o)[i]? = some z := ⟨(intsL o)[i], by simp [hlt]⟩
    obtain ⟨n, hn1, hn2, _⟩ := within5 z
    obtain ⟨x, hx⟩ : ∃ x, aheadM[n]? = some x := ⟨aheadM[n]'(by simpa [aheadM] using hn2), by simp⟩
    have hxm : x ∈ aheadM := List.mem_of_getElem? hx
    have hxl : x.length ≤ 4 := by
     simp only [aheadM, List.mem_cons, List.not_mem_nil, or_false] at hxm
     rcases hxm with h | h | h | h | h <;> (subst h; decide)
    rw [e1, vif_t, vplan _ _ ahead_list, viaddr_ints _ _ _ _ hz, vload_pptr _ _ _ (.int .i64 z) rfl, vcall_pure 15 _ _ rfl hn1 rfl,
     viaddr_sl 1 true _ n [.str x] (by rw [List.getElem?_map, hx]; rfl), vload_pptr _ _ _ (.str x) rfl, vbin_sadd _ _ _ (by omega), vbin_add, wrap_i64 _ (by omega) (by omega)]
    obtain ⟨l, h1, h2, h3⟩ := ih (i + 1) (s ++ x) h (by omega) (by omega) (by simp; omega) (by omega)
    refine ⟨x :: l, ?_, by simp; omega, ?_⟩
    ·intro y hy
     rcases List.mem_cons.1 hy with rfl | hy
     ·exact hxm
     ·exact h1 y hy
    ·rw [show ((i : Int) + 1) = ((i + 1 : Nat) : Int) by omega]
     refine h3.trans ?_
     simp
   ·refine ⟨[], by simp, by simpa using h20, ?_⟩
    have e1 : decide ((i : Int) < 20) = false := decide_eq_false (by omega)
    rw [e1, vif_f]; simp
  ·refine ⟨[], by simp, by simpa using h20, ?_⟩
   rw [decide_eq_false hl]
   simp only [vguard_ft, vpick_f, vif_f]; simp
/-- THE LAW. -/
theorem first_law (o : Option (List Int)) (a b : Int) : Om 8 [.v (.c (.p (intsP .i64 o))), kI a, kI b] [] = some (kB true, []) := by
 refine (orc_none rfl).trans ?_
 show lim tab.get S 8 0 0 [.v (.c (.p (intsP .i64 o))), kI a, kI b] h0 = _
 rw [w8_0, b8_0, vcall_pure 12 _ _ rfl known_ok rfl, vnot, vif_kB, if_neg (by decide), vplan _ _ bad_list, vplan _ _ err_list]
 obtain ⟨l, h1, h2, h3⟩ := first_loop o (kI a) (kI b) (kSl 1 true (badM.map fun s => [.str s])) (kSl 1 true (errM.map fun s => [.int .i64 s])) 20 0 [] h0 (by decide) (by omega) (by simp) (by decide)
 refine h3.trans ?_
 rw [List.nil_append]
 obtain ⟨n, hn1, hn2, _⟩ := within5 a
 obtain ⟨m, hm1, hm2, _⟩ := within5 b
 obtain ⟨x, hx⟩ : ∃ x, badM[n]? = some x := ⟨badM[n]'(by simpa [badM] using hn2), by simp⟩
 obtain ⟨y, hy⟩ : ∃ x, badM[m]? = some x := ⟨badM[m]'(by simpa [badM] using hm2), by simp⟩
 obtain ⟨e, he⟩ : ∃ x, errM[n]? = some x := ⟨errM[n]'(by simpa [errM] using hn2), by simp⟩
 have hx20 : ∀ z ∈ badM, z.length ≤ 20 := by
  intro z hz
  simp only [badM, List.mem_cons, List.not_mem_nil, or_false] at hz
  rcases hz with h | h | h | h | h <;> (subst h; decide)
 have hxl := hx20 x (List.mem_of_getElem? hx)
 have hyl := hx20 y (List.mem_of_getElem? hy)
 have hll : ∀ (l : List (List UInt8)), (∀ x ∈ l, x ∈ aheadM) → l.flatten.length ≤ 4 * l.length := by
  intro l
  induction l with
  | nil => intro _; exact Nat.le_refl _
  | cons x l ih =>
   intro h
   have h2 := ih (fun y hy => h y (by simp [hy]))
   have : x.length ≤ 4 := by
    have := h x (by simp)
    simp only [aheadM, List.mem_cons, List.not_mem_nil, or_false] at this
    rcases this with h | h | h | h | h <;> (subst h; decide)
   rw [List.flatten_cons, List.length_append, List.length_cons]
   omega
 have hfl := hll l h1
 have ht := first_toks l h1 (by omega) n m x y e hx he hy
 rw [w8_2, b8_2, vcall_pure 15 _ _ rfl hn1 rfl, vcall_pure 15 _ _ rfl hm1 rfl,
  viaddr_sl 1 true _ n [.str x] (by rw [List.getElem?_map, hx]; rfl), vload_pptr _ _ _ (.str x) rfl, vbin_sadd _ _ _ (by omega), vbin_sadd _ _ _ (by simp only [List.length_append, List.length_cons, List.length_nil]; omega),
  viaddr_sl 1 true _ m [.str y] (by rw [List.getElem?_map, hy]; rfl), vload_pptr _ _ _ (.str y) rfl, vbin_sadd _ _ _ (by simp only [List.length_append, List.length_cons, List.length_nil]; omega)]
 have ht' : tokensM (l.flatten ++ x ++ [32] ++ y) = .error e := by
  rw [← ht]; simp
 rw [vcall_pure 16 _ _ rfl (tokens_ok _) (toksVal_p _), ht', show toksVal (.error e) = .tup [.c (.p .nilslice), .c (.p (.int .i64 e))] from rfl, vext_tup _ 0 _ rfl, vext_tup _ 1 _ rfl,
  viaddr_sl 1 true _ n [.int .i64 e] (by rw [List.getElem?_map, he]; rfl), vload_pptr _ _ _ (.int .i64 e) rfl, vbin_eql, decide_eq_true rfl]
 simp only [vguard_tt, vlen_nil, vbin_eql, vpick_t, tcomp_c]
 rw [vfin_pure _ _ rfl]
 rfl
end Go.Proofs.YtljhpmggifjigaaDoor.Ab
