/- ScanBounds, whatever the input: sources, names, words, texts at their bounds. -/
import Derived.Test.YtljhpmggifjigaaDoorScNm
set_option linter.all false
set_option linter.unusedVariables false
set_option linter.unusedSimpArgs false
set_option maxRecDepth 100000
namespace Go.Proofs.YtljhpmggifjigaaDoor.Ab
open Go Go.AI
theorem within4 (z : Int) : ∃ k : Nat, Om 15 [kI z, kI 4] [] = some (kI (k : Int), []) ∧ k < 4 := by
 obtain ⟨k, h1, h2⟩ := wi_nat z 4 (by decide)
 exact ⟨k, by rw [← h1]; exact within_ok z 4 (by decide) (by decide), h2⟩
theorem bound_loop (n most : Nat) (hm : 1 ≤ most) (hm2 : most ≤ 1500) (hn : n < 4) (p : List UInt8) (hp : p.length ≤ 1) (c : UInt8) (want : TVal) : ∀ (m i : Nat) (h : Heap), most - 1 + n - i ≤ m → i ≤ most - 1 + n →
  lim tab.get S 4 0 2 [kI (n : Int), kS (p ++ List.replicate i c), kI (most : Int), want, kS [c], kI (i : Int)] h = lim tab.get S 4 0 3 [kI (n : Int), kS (p ++ List.replicate (most - 1 + n) c), want] h := by
 intro m
 have e1 : IntKind.i64.wrap ((most : Int) - 1) = ((most - 1 : Nat) : Int) := by rw [wrap_i64 _ (by omega) (by omega)]; omega
 have e2 : IntKind.i64.wrap (((most - 1 : Nat) : Int) + (n : Int)) = ((most - 1 + n : Nat) : Int) := by rw [wrap_i64 _ (by omega) (by omega)]; omega
 induction m with
 | zero =>
  intro i h hi hi2
  obtain rfl : i = most - 1 + n := by omega
  rw [w4_2, b4_2, vbin_sub, e1, vbin_add, e2, vbin_lss, decide_eq_false (by omega), vif_f]
 | succ m ih =>
  intro i h hi hi2
  by_cases hl : i < most - 1 + n
  ·rw [w4_2, b4_2, vbin_sub, e1, vbin_add, e2, vbin_lss, decide_eq_true (by omega), vif_t, vbin_sadd _ _ _ (by simp; omega), vbin_add, wrap_i64 _ (by omega) (by omega), show ((i : Int) + 1) = ((i + 1 : Nat) : Int) by omega, List.append_assoc, ← List.replicate_succ']
   exact ih (i + 1) h (by omega) (by omega)
  ·obtain rfl : i = most - 1 + n := by omega
   rw [w4_2, b4_2, vbin_sub, e1, vbin_add, e2, vbin_lss, decide_eq_false (by omega), vif_f]
theorem bound_end (n : Nat) (s : List UInt8) (want : Int) (h : Heap) (hs : (n ≤ 1 ∧ ∃ l, tokensM s = .ok l) ∨ (1 < n ∧ tokensM s = .error want)) : lim tab.get S 4 0 4 [kI (n : Int), kS s, kI want] h = some (kB true, []) := by
 rw [w4_4, b4_4, vcall_pure 16 _ _ rfl (tokens_ok s) (toksVal_p _)]
 rcases hs with ⟨hn, l, hl⟩ | ⟨hn, he⟩
 ·rw [hl, show toksVal (.ok l) = .tup [.c (.p (growP 4 (l.map Tok.row))), .c (.p (.int .i64 0))] from rfl, vext_tup _ 0 _ rfl, vext_tup _ 1 _ rfl, vbin_leq, show (!decide ((1 : Int) < (n : Int))) = true by simp; omega]
  simp only [vguard_tt]
  rw [vbin_eql, decide_eq_true rfl, vpick_t]
  simp only [vguard_tf, vguard_undef, vpick_t, tcomp_c]
  rw [vfin_pure _ _ rfl]; rfl
 ·rw [he, show toksVal (.error want) = .tup [.c (.p .nilslice), .c (.p (.int .i64 want))] from rfl, vext_tup _ 0 _ rfl, vext_tup _ 1 _ rfl, vbin_leq, show (!decide ((1 : Int) < (n : Int))) = false by simp; omega]
  simp only [vguard_ft, vpick_f, vguard_ff]
  rw [vbin_gtr, decide_eq_true (show (1 : Int) < (n : Int) by omega)]
  simp only [vguard_tt]
  rw [vbin_eql, decide_eq_true rfl, vpick_t, tcomp_c, vfin_pure _ _ rfl]; rfl
theorem bound_mid (n : Nat) (c : UInt8) (k : Nat) (want : TVal) (h : Heap) (hk : 0 < k) (h34 : c ≠ 34) : lim tab.get S 4 0 3 [kI (n : Int), kS (List.replicate k c), want] h = lim tab.get S 4 0 4 [kI (n : Int), kS (List.replicate k c), want] h := by
 obtain ⟨j, rfl⟩ : ∃ j, k = j + 1 := ⟨k - 1, by omega⟩
 have : ¬ (c.toNat : Int) = 34 := by
  intro e
  exact h34 (UInt8.toNat_inj.1 (show c.toNat = (34 : UInt8).toNat by show c.toNat = 34; omega))
 rw [w4_3, b4_3, show (kI 0 : TVal) = kI ((0 : Nat) : Int) from rfl, vindex_s _ 0 c (by simp [List.replicate_succ]), vbin_eql, decide_eq_false this, vif_f]
theorem bound_plain (n most : Nat) (hm : 2 ≤ most) (hm2 : most ≤ 1500) (hn : n < 4) (c : UInt8) (h34 : c ≠ 34) (want : Int) (h : Heap) (hs : (n ≤ 1 ∧ ∃ l, tokensM (List.replicate (most - 1 + n) c) = .ok l) ∨ (1 < n ∧ tokensM (List.replicate (most - 1 + n) c) = .error want)) :
  lim tab.get S 4 0 1 [kI (n : Int), kS [], kI (most : Int), kI want, kS [c]] h = some (kB true, []) := by
 rw [w4_1, b4_1]
 have := bound_loop n most (by omega) hm2 hn [] (by simp) c (kI want) _ 0 h (Nat.le_refl _) (by omega)
 refine this.trans ?_
 rw [List.nil_append]
 exact (bound_mid n c _ _ h (by omega) h34).trans (bound_end n _ want h hs)
/-- THE LAW. -/
theorem bounds_law (a b : Int) : Om 4 [kI a, kI b] [] = some (kB true, []) := by
 refine (orc_none rfl).trans ?_
 show lim tab.get S 4 0 0 [kI a, kI b] h0 = _
 obtain ⟨n, n1, n2⟩ := within4 b
 obtain ⟨k, k1, k2⟩ := within4 a
 rw [w4_0, b4_0, vcall_pure 12 _ _ rfl known_ok rfl, vnot, vif_kB, if_neg (by decide), vcall_pure 15 _ _ rfl n1 rfl, vcall_pure 15 _ _ rfl k1 rfl, vbin_eql]
 by_cases h1 : k = 1
 ·rw [decide_eq_true (show (k : Int) = 1 by omega), vif_t]
  refine bound_plain n 16 (by decide) (by decide) n2 113 (by decide) 4 h0 ?_
  rw [bounds_name _ (by omega) (by omega)]
  by_cases hn : n ≤ 1
  ·exact .inl ⟨hn, _, by rw [if_neg (by omega)]⟩
  ·exact .inr ⟨by omega, by rw [if_pos (by omega)]⟩
 rw [decide_eq_false (show ¬ (k : Int) = 1 by omega), vif_f, vbin_eql]
 by_cases h2 : k = 2
 ·rw [decide_eq_true (show (k : Int) = 2 by omega), vif_t]
  refine bound_plain n 400 (by decide) (by decide) n2 44 (by decide) 3 h0 ?_
  have hb := bounds_comma (400 - 1 + n) (by omega)
  by_cases hn : n ≤ 1
  ·exact .inl ⟨hn, hb.2 (by omega)⟩
  ·exact .inr ⟨by omega, hb.1 (by omega)⟩
 rw [decide_eq_false (show ¬ (k : Int) = 2 by omega), vif_f, vbin_eql]
 by_cases h3 : k = 3
 ·rw [decide_eq_true (show (k : Int) = 3 by omega), vif_t, w4_1, b4_1]
  have := bound_loop n 200 (by decide) (by decide) n2 [34] (by simp) 122 (kI 4) _ 0 h0 (Nat.le_refl _) (by omega)
  refine this.trans ?_
  have hb := bounds_text (200 - 1 + n) (by omega)
  rw [w4_3, b4_3, show (kI 0 : TVal) = kI ((0 : Nat) : Int) from rfl, vindex_s _ 0 34 rfl, vbin_eql, decide_eq_true (by rfl), vif_t, vbin_sadd _ _ _ (by simp; omega)]
  refine bound_end n _ 4 h0 ?_
  rw [show ([34] ++ List.replicate (200 - 1 + n) (122 : UInt8) ++ [34]) = 34 :: (List.replicate (200 - 1 + n) 122 ++ [34]) by simp]
  by_cases hn : n ≤ 1
  ·exact .inl ⟨hn, hb.2 (by omega)⟩
  ·exact .inr ⟨by omega, hb.1 (by omega)⟩
 rw [decide_eq_false (show ¬ (k : Int) = 3 by omega), vif_f]
 refine bound_plain n 1500 (by decide) (by decide) n2 32 (by decide) 4 h0 ?_
 by_cases hn : n ≤ 1
 ·exact .inl ⟨hn, _, bounds_blank _ (by omega)⟩
 ·exact .inr ⟨by omega, bounds_long _ (by simp; omega)⟩
end Go.Proofs.YtljhpmggifjigaaDoor.Ab
