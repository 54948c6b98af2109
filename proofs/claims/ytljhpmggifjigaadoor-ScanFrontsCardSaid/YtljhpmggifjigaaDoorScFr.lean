/- ScanFronts, whatever the input: the words of a front are a front of the words. -/
import Derived.Test.YtljhpmggifjigaaDoorScBl
set_option linter.all false
set_option linter.unusedVariables false
set_option linter.unusedSimpArgs false
set_option maxRecDepth 100000
namespace Go.Proofs.YtljhpmggifjigaaDoor.Ab
open Go Go.AI
section
variable {β : Type} {O : Oracle} {h : Heap} {d : Nat} {k : TVal → Heap → Option β}
theorem vload_tok (x : Tok) : vload true 4 (.v (.c (.p (.pptr x.row 0)))) h k = k (.v (.agg (pcells x.row))) h := id rfl
theorem eqCells_tok (x : Tok) : eqCells 89 (pcells x.row) (pcells x.row) = some true := by
 simp [pcells, Tok.row, eqCells]
theorem vbin_tok (x : Tok) : vbin .neq 97 (.v (.agg (pcells x.row))) (.v (.agg (pcells x.row))) h k = k (kB false) h := by
 show bnd (binAgg .neq 97 (pcells x.row) (pcells x.row)) (fun c => k (.v (.c c)) h) = _
 have e : binAgg .neq 97 (pcells x.row) (pcells x.row) = some (.p (.bool false)) := by
  unfold binAgg
  rw [if_pos (by decide), show 97 - 8 = 89 from rfl, eqCells_tok]
  rfl
 rw [e, bnd_some]
end
theorem within9 (z : Int) : ∃ k : Nat, Om 15 [kI z, kI 9] [] = some (kI (k : Int), []) ∧ k < 9 := by
 obtain ⟨k, h1, h2⟩ := wi_nat z 9 (by decide)
 exact ⟨k, by rw [← h1]; exact within_ok z 9 (by decide) (by decide), h2⟩
theorem front_list : plan .nil (.bslice 1 9 [(.p (.str []))] [(0, (.k (kS [97]))), (1, (.k (kS [98, 57]))), (2, (.k (kS [55]))), (3, (.k (kS [45, 55]))), (4, (.k (kS [34, 120, 32, 121, 34]))), (5, (.k (kS [45, 62]))), (6, (.k (kS [46]))), (7, (.k (kS [36]))), (8, (.k (kS [123])))] false) = some (.pure (kSl 1 true (frontM.map fun s => [.str s.p]))) := rfl
theorem min_plan (a : Int) : plan .nil (.minmax false [(.k (kI a)), (.k (kI 30))]) = some (.pure (kI (if 30 < a then 30 else a))) := by
 simp only [plan, minmaxV, tInt, foldMM, List.map, X.ev]
 by_cases h : 30 < a <;> simp [h] <;> (try split) <;> (try omega) <;> rfl
theorem front_cmp (X Y : List Tok) (hX : X.length ≤ 60) (hXY : ∀ (i : Nat), i < Y.length → X[i]? = Y[i]?) : ∀ (m i : Nat) (h : Heap), Y.length - i ≤ m → i ≤ Y.length → Y.length ≤ 60 →
  lim tab.get S 9 0 4 [kI (Y.length : Int), .v (.c (.p (growP 4 (X.map Tok.row)))), .v (.c (.p (growP 4 (Y.map Tok.row)))), kI (i : Int)] h = some (kB true, []) := by
 intro m
 have done : ∀ (i : Nat) (h : Heap), i = Y.length → lim tab.get S 9 0 4 [kI (Y.length : Int), .v (.c (.p (growP 4 (X.map Tok.row)))), .v (.c (.p (growP 4 (Y.map Tok.row)))), kI (i : Int)] h = some (kB true, []) := by
  intro i h hi
  subst hi
  rw [w9_4, b9_4, vbin_lss, decide_eq_false (by omega), vif_f, tcomp_c, vfin_pure _ _ rfl]; rfl
 induction m with
 | zero => intro i h h1 h2 h3; exact done i h (by omega)
 | succ m ih =>
  intro i h h1 h2 h3
  by_cases hi : i < Y.length
  ·have hy : Y[i]? = some Y[i] := by simp [hi]
   have hx := (hXY i hi).trans hy
   generalize Y[i] = y at hy hx
   have rx : (X.map Tok.row)[i]? = some y.row := by rw [List.getElem?_map, hx]; rfl
   have ry : (Y.map Tok.row)[i]? = some y.row := by rw [List.getElem?_map, hy]; rfl
   rw [w9_4, b9_4, vbin_lss, decide_eq_true (by omega), vif_t, viaddr_growP 4 _ i _ rx, vload_tok, viaddr_growP 4 _ i _ ry, vload_tok, vbin_tok, vif_f,
    vbin_add, wrap_i64 _ (by omega) (by omega), show ((i : Int) + 1) = ((i + 1 : Nat) : Int) by omega]
   exact ih (i + 1) h (by omega) (by omega) h3
  ·exact done i h (by omega)
theorem front_end (l : List Seg) (hl : ∀ x ∈ l, x ∈ frontM) (h30 : l.length ≤ 30) (c : Nat) (hc : c ≤ l.length) (h : Heap) :
  lim tab.get S 9 0 3 [kS (rowS l), kS (rowS (l.take c)), kI (l.length : Int), kI (c : Int)] h = some (kB true, []) := by
 have ht : ∀ x ∈ l.take c, x ∈ frontM := fun x hx => hl x (List.mem_of_mem_take hx)
 have tl : (l.take c).length = c := by simp; omega
 obtain ⟨e1, e2⟩ := front_toks l hl h30
 obtain ⟨e3, e4⟩ := front_toks (l.take c) ht (by omega)
 rw [tl] at e4
 have pre : ∀ (i : Nat), i < (rowT (l.take c) 0).length → (rowT l 0)[i]? = (rowT (l.take c) 0)[i]? := by
  intro i hi
  have e := rowT_append (l.take c) (l.drop c) 0
  rw [List.take_append_drop] at e
  rw [e, List.getElem?_append_left hi]
 rw [w9_3, b9_3, vcall_pure 16 _ _ rfl (tokens_ok _) (toksVal_p _), e1, show toksVal (.ok (rowT l 0)) = .tup [.c (.p (growP 4 ((rowT l 0).map Tok.row))), .c (.p (.int .i64 0))] from rfl, vext_tup _ 0 _ rfl, vext_tup _ 1 _ rfl,
  vcall_pure 16 _ _ rfl (tokens_ok _) (toksVal_p _), e3, show toksVal (.ok (rowT (l.take c) 0)) = .tup [.c (.p (growP 4 ((rowT (l.take c) 0).map Tok.row))), .c (.p (.int .i64 0))] from rfl, vext_tup _ 0 _ rfl, vext_tup _ 1 _ rfl, vbin_neq, decide_eq_true rfl]
 simp only [Bool.not_true, vguard_ff]
 rw [vbin_neq, decide_eq_true rfl, vpick_f]
 simp only [Bool.not_true, vguard_ff]
 rw [vlen_growP, vbin_neq, decide_eq_true (by simp only [List.length_map]; omega), vpick_f]
 simp only [Bool.not_true, vguard_ff]
 rw [vlen_growP, vbin_neq, decide_eq_true (by simp only [List.length_map]; omega), vpick_f]
 simp only [Bool.not_true, vif_f]
 have := front_cmp (rowT l 0) (rowT (l.take c) 0) (by omega) pre _ 0 h (Nat.le_refl _) (by omega) (by omega)
 rw [e4] at this
 exact this
theorem front_loop (o : Option (List Int)) (n c : Nat) (hn : n ≤ 30) (hno : n ≤ (intsL o).length) (hc : c ≤ n) : ∀ (m i : Nat) (l : List Seg) (h : Heap), n - i ≤ m → i ≤ n → l.length = i → (∀ x ∈ l, x ∈ frontM) →
  lim tab.get S 9 0 1 [.v (.c (.p (intsP .i64 o))), kS (rowS l), kS (rowS (l.take c)), kI (n : Int), kI (c : Int), kI (i : Int)] h = some (kB true, []) := by
 intro m
 have done : ∀ (i : Nat) (l : List Seg) (h : Heap), i = n → l.length = i → (∀ x ∈ l, x ∈ frontM) →
  lim tab.get S 9 0 1 [.v (.c (.p (intsP .i64 o))), kS (rowS l), kS (rowS (l.take c)), kI (n : Int), kI (c : Int), kI (i : Int)] h = some (kB true, []) := by
  intro i l h hi hl hf
  subst hi
  rw [w9_1, b9_1, vbin_lss, decide_eq_false (by omega), vif_f, ← hl]
  exact front_end l hf (by omega) c (by omega) h
 induction m with
 | zero => intro i l h h1 h2 h3 h4; exact done i l h (by omega) h3 h4
 | succ m ih =>
  intro i l h h1 h2 h3 h4
  by_cases hi : i < n
  ·obtain ⟨z, hz⟩ : ∃ z, (intsL o)[i]? = some z := ⟨(intsL o)[i], by simp [show i < (intsL o).length by omega]⟩
   obtain ⟨k, k1, k2⟩ := within9 z
   obtain ⟨x, hx⟩ : ∃ x, frontM[k]? = some x := ⟨frontM[k]'(by simpa [frontM] using k2), by simp⟩
   have hxm := List.mem_of_getElem? hx
   obtain ⟨q1, q2, q3, q4⟩ := frontM_whole x hxm
   have hl6 := (front_row l h4).2.2
   have hs : rowS (l ++ [x]) = rowS l ++ x.p ++ [32] := by rw [rowS_append]; simp [rowS, q2]
   have mem' : ∀ y ∈ l ++ [x], y ∈ frontM := by
    intro y hy
    rcases List.mem_append.1 hy with hy | hy
    ·exact h4 y hy
    ·simp at hy; subst hy; exact hxm
   have next := ih (i + 1) (l ++ [x]) h (by omega) (by omega) (by simp; omega) mem'
   rw [hs] at next
   rw [w9_1, b9_1, vbin_lss, decide_eq_true (show (i : Int) < (n : Int) by omega), vif_t, vplan _ _ front_list, viaddr_ints _ _ _ _ hz, vload_pptr _ _ _ (.int .i64 z) rfl, vcall_pure 15 _ _ rfl k1 rfl,
    viaddr_sl 1 true _ k [.str x.p] (by rw [List.getElem?_map, hx]; rfl), vload_pptr _ _ _ (.str x.p) rfl, vbin_sadd _ _ _ (by omega), vbin_sadd _ _ _ (by simp only [List.length_append, List.length_cons, List.length_nil]; omega), vbin_lss]
   by_cases hk : i < c
   ·rw [decide_eq_true (show (i : Int) < (c : Int) by omega), vif_t, w9_2, b9_2, vbin_add, wrap_i64 _ (by omega) (by omega), show ((i : Int) + 1) = ((i + 1 : Nat) : Int) by omega]
    rw [List.take_of_length_le (by simp; omega), hs] at next
    exact next
   ·rw [decide_eq_false (show ¬ (i : Int) < (c : Int) by omega), vif_f, w9_2, b9_2, vbin_add, wrap_i64 _ (by omega) (by omega), show ((i : Int) + 1) = ((i + 1 : Nat) : Int) by omega]
    rw [List.take_append_of_le_length (by omega)] at next
    exact next
  ·exact done i l h (by omega) h3 h4
/-- THE LAW. -/
theorem fronts_law (o : Option (List Int)) (a : Int) : Om 9 [.v (.c (.p (intsP .i64 o))), kI a] [] = some (kB true, []) := by
 refine (orc_none rfl).trans ?_
 show lim tab.get S 9 0 0 [.v (.c (.p (intsP .i64 o))), kI a] h0 = _
 obtain ⟨n, hn, hn30, hno⟩ : ∃ n : Nat, (if (30 : Int) < ((intsL o).length : Int) then (30 : Int) else ((intsL o).length : Int)) = (n : Int) ∧ n ≤ 30 ∧ n ≤ (intsL o).length := by
  by_cases hq : (30 : Int) < ((intsL o).length : Int)
  ·exact ⟨30, by rw [if_pos hq]; rfl, by omega, by omega⟩
  ·exact ⟨(intsL o).length, by rw [if_neg hq], by omega, by omega⟩
 obtain ⟨c, hc1, hc2⟩ := wi_nat a (n + 1) (by omega)
 have hw := within_ok a (n + 1) (by omega) (by omega)
 rw [hc1] at hw
 rw [w9_0, b9_0, vcall_pure 12 _ _ rfl known_ok rfl, vnot, vif_kB, if_neg (by decide), vlen_ints, vplan _ _ (min_plan _), hn, vbin_add, wrap_i64 _ (by omega) (by omega), show ((n : Int) + 1) = ((n + 1 : Nat) : Int) by omega, vcall_pure 15 _ _ rfl hw rfl]
 have := front_loop o n c hn30 hno (by omega) n 0 [] h0 (by omega) (by omega) rfl (by intro x hx; cases hx)
 simpa [rowS] using this
end Go.Proofs.YtljhpmggifjigaaDoor.Ab
