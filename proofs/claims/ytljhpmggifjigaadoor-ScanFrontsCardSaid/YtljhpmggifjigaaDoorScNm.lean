/- ScanNames, whatever the input: letters, digits, strokes that begin with no digit are one name. -/
import Derived.Test.YtljhpmggifjigaaDoorScZ
set_option linter.all false
set_option linter.unusedVariables false
set_option linter.unusedSimpArgs false
set_option maxRecDepth 100000
namespace Go.Proofs.YtljhpmggifjigaaDoor.Ab
open Go Go.AI
theorem ident_ok (s : List UInt8) : Om 18 [kS s] [] = some (kB (identM s), []) := by
 refine (orc_none rfl).trans ?_
 show lim tab.get S 18 0 0 [kS s] h0 = _
 rw [w18_0, b18_0, vbin_sneq]
 cases s with
 | nil =>
  rw [show (!decide (([] : List UInt8) = [])) = false by rfl]
  simp only [vguard_ft, vpick_f, vguard_undef, tcomp_c]
  rw [vfin_pure _ _ rfl]; rfl
 | cons c t =>
  rw [show (!decide ((c :: t) = ([] : List UInt8))) = true by simp]
  simp only [vguard_tt, vlen_s, vbin_leq, vpick_t]
  by_cases h1 : (c :: t).length ≤ 16
  ·rw [show (!decide ((16 : Int) < ((c :: t).length : Int))) = true by simp; simp at h1; omega]
   simp only [vguard_tt]
   rw [show (kI 0 : TVal) = kI ((0 : Nat) : Int) from rfl, vindex_s (c :: t) 0 c rfl, vcall_pure 24 _ _ rfl (digit_ok c) rfl, vnot, vpick_t]
   cases hd : isDigit c.toNat with
   | true =>
    simp only [Bool.not_true, vguard_ft, vpick_f, tcomp_c]
    rw [vfin_pure _ _ rfl]
    simp only [identM, hd, Bool.not_true, Bool.and_false, Bool.false_and]; rfl
   | false =>
    simp only [Bool.not_false, vguard_tt, vlen_s]
    rw [vcall_pure 25 _ _ rfl (row_ok (c :: t)) rfl]
    simp only [vlen_s, vbin_eql, vpick_t, tcomp_c]
    rw [vfin_pure _ _ rfl]
    simp only [identM, hd, Bool.not_false, Bool.and_true, decide_eq_true h1, Bool.true_and, oneOf]
    congr 6
    apply decide_eq_decide.2
    omega
  ·rw [show (!decide ((16 : Int) < ((c :: t).length : Int))) = false by simp; simp at h1; omega]
   simp only [vguard_ft, vpick_f, tcomp_c]
   rw [vfin_pure _ _ rfl]
   simp only [identM, decide_eq_false h1, Bool.false_and]; rfl
def nameM : List UInt8 := [97, 90, 95, 48, 57, 120, 66]
def NameOk (s : List UInt8) : Prop := ∀ c t, s = c :: t → isLetter c.toNat = true ∧ ∀ b ∈ t, isWord b.toNat = true
theorem nameOk_snoc (s : List UInt8) (x : UInt8) (h : NameOk s) (hw : isWord x.toNat = true) (hl : s = [] → isLetter x.toNat = true) : NameOk (s ++ [x]) := by
 intro c t e
 cases s with
 | nil => simp at e; obtain ⟨rfl, rfl⟩ := e; exact ⟨hl rfl, by simp⟩
 | cons d s =>
  simp at e
  obtain ⟨rfl, rfl⟩ := e
  obtain ⟨h1, h2⟩ := h d s rfl
  exact ⟨h1, by intro b hb; rcases List.mem_append.1 hb with hb | hb; exact h2 b hb; simp at hb; subst hb; exact hw⟩
theorem within7 (z : Int) : ∃ k : Nat, Om 15 [kI z, kI 7] [] = some (kI (k : Int), []) ∧ k < 7 := by
 obtain ⟨k, h1, h2⟩ := wi_nat z 7 (by decide)
 exact ⟨k, by rw [← h1]; exact within_ok z 7 (by decide) (by decide), h2⟩
theorem name_step (x0 : TVal) (s : List UInt8) (i k : Nat) (hk : k < 7) (hs : s.length ≤ 100) (hi : i ≤ 16) (hz : i = 0 → k ≠ 3 ∧ k ≠ 4) (h : Heap) : ∃ x : UInt8, isWord x.toNat = true ∧ (i = 0 → isLetter x.toNat = true) ∧
  lim tab.get S 11 0 2 [x0, kS nameM, kS s, kI (i : Int), kI (k : Int)] h = lim tab.get S 11 0 1 [x0, kS nameM, kS (s ++ [x]), kI ((i + 1 : Nat) : Int)] h := by
 obtain ⟨x, hx⟩ : ∃ x, nameM[k]? = some x := ⟨nameM[k]'(by simpa [nameM] using hk), by simp⟩
 refine ⟨x, ?_, ?_, ?_⟩
 ·have : x ∈ nameM := List.mem_of_getElem? hx
  simp only [nameM, List.mem_cons, List.not_mem_nil, or_false] at this
  rcases this with h | h | h | h | h | h | h <;> (subst h; rfl)
 ·intro h0
  obtain ⟨h3, h4⟩ := hz h0
  match k, hk, h3, h4, hx with
  | 0, _, _, _, hx | 1, _, _, _, hx | 2, _, _, _, hx | 5, _, _, _, hx | 6, _, _, _, hx =>
   simp only [nameM, List.getElem?_cons_zero, List.getElem?_cons_succ, Option.some.injEq] at hx
   subst hx; rfl
 ·have hsl : (nameM.take (k + 1)).drop k = [x] := by
   obtain ⟨q1, q2⟩ := List.getElem?_eq_some_iff.1 hx
   rw [List.take_succ_eq_append_getElem q1, q2, List.drop_left' (by simp; omega)]
  rw [w11_2, b11_2, vbin_add, wrap_i64 _ (by omega) (by omega), show ((k : Int) + 1) = ((k + 1 : Nat) : Int) by omega, vslice_lh nameM k (k + 1) (by omega) (by simp [nameM]; omega), hsl, vbin_sadd _ _ _ (by simp; omega), vbin_add, wrap_i64 _ (by omega) (by omega), show ((i : Int) + 1) = ((i + 1 : Nat) : Int) by omega]
theorem name_loop (o : Option (List Int)) : ∀ (m i : Nat) (s : List UInt8) (h : Heap), 16 - i ≤ m → i ≤ 16 → s.length = i → NameOk s →
  ∃ s' : List UInt8, NameOk s' ∧ s'.length ≤ 16 ∧ lim tab.get S 11 0 1 [.v (.c (.p (intsP .i64 o))), kS nameM, kS s, kI (i : Int)] h = lim tab.get S 11 0 3 [kS s'] h := by
 intro m
 induction m with
 | zero =>
  intro i s h hm hi hs hn
  refine ⟨s, hn, by omega, ?_⟩
  have e1 : decide ((i : Int) < 16) = false := decide_eq_false (by omega)
  rw [w11_1, b11_1, vlen_ints, vbin_lss]
  by_cases hl : (i : Int) < ((intsL o).length : Int)
  ·rw [decide_eq_true hl]
   simp only [vguard_tt, vbin_lss, e1, vpick_t, vif_f]
  ·rw [decide_eq_false hl]
   simp only [vguard_ft, vpick_f, vif_f]
 | succ m ih =>
  intro i s h hm hi hs hn
  rw [w11_1, b11_1, vlen_ints, vbin_lss]
  by_cases hl : (i : Int) < ((intsL o).length : Int)
  ·rw [decide_eq_true hl]
   simp only [vguard_tt, vbin_lss, vpick_t]
   by_cases hl2 : i < 16
   ·have e1 : decide ((i : Int) < 16) = true := decide_eq_true (by omega)
    obtain ⟨z, hz⟩ : ∃ z, (intsL o)[i]? = some z := ⟨(intsL o)[i], by simp [show i < (intsL o).length by omega]⟩
    obtain ⟨k, hk1, hk2⟩ := within7 z
    have fin : ∀ k' : Nat, k' < 7 → (i = 0 → k' ≠ 3 ∧ k' ≠ 4) → ∃ s' : List UInt8, NameOk s' ∧ s'.length ≤ 16 ∧ lim tab.get S 11 0 2 [.v (.c (.p (intsP .i64 o))), kS nameM, kS s, kI (i : Int), kI (k' : Int)] h = lim tab.get S 11 0 3 [kS s'] h := by
     intro k' q1 q2
     obtain ⟨x, x1, x2, x3⟩ := name_step (.v (.c (.p (intsP .i64 o)))) s i k' q1 (by omega) hi q2 h
     obtain ⟨s', y1, y2, y3⟩ := ih (i + 1) (s ++ [x]) h (by omega) (by omega) (by simp; omega) (nameOk_snoc s x hn x1 (fun e => x2 (by subst e; simp at hs; omega)))
     exact ⟨s', y1, y2, x3.trans y3⟩
    rw [e1, vif_t, viaddr_ints _ _ _ _ hz, vload_pptr _ _ _ (.int .i64 z) rfl, vcall_pure 15 _ _ rfl hk1 rfl, vbin_eql]
    by_cases hi0 : i = 0
    ·rw [decide_eq_true (show (i : Int) = 0 by omega)]
     simp only [vguard_tt, vbin_eql]
     by_cases h3 : k = 3
     ·rw [decide_eq_true (show (k : Int) = 3 by omega)]
      simp only [vguard_tf, vpick_t, vif_t]
      exact fin 0 (by decide) (fun _ => by decide)
     ·rw [decide_eq_false (show ¬ (k : Int) = 3 by omega)]
      simp only [vguard_ff, vbin_eql, vpick_f, vpick_t]
      by_cases h4 : k = 4
      ·rw [decide_eq_true (show (k : Int) = 4 by omega), vif_t]
       exact fin 0 (by decide) (fun _ => by decide)
      ·rw [decide_eq_false (show ¬ (k : Int) = 4 by omega), vif_f]
       exact fin k hk2 (fun _ => ⟨h3, h4⟩)
    ·rw [decide_eq_false (show ¬ (i : Int) = 0 by omega)]
     simp only [vguard_ft, vguard_undef, vpick_f, vif_f]
     exact fin k hk2 (fun e => absurd e hi0)
   ·refine ⟨s, hn, by omega, ?_⟩
    have e1 : decide ((i : Int) < 16) = false := decide_eq_false (by omega)
    rw [e1, vif_f]
  ·refine ⟨s, hn, by omega, ?_⟩
   rw [decide_eq_false hl]
   simp only [vguard_ft, vpick_f, vif_f]
theorem name_end (s : List UInt8) (hs : NameOk s) (hl : s.length ≤ 16) (h : Heap) : lim tab.get S 11 0 3 [kS s] h = some (kB true, []) := by
 rw [w11_3, b11_3, vbin_seql]
 cases s with
 | nil =>
  rw [decide_eq_true rfl, vif_t, vcall_pure 18 _ _ rfl (ident_ok []) rfl, vnot, tcomp_c, vfin_pure _ _ rfl]; rfl
 | cons c t =>
  obtain ⟨h1, h2⟩ := hs c t rfl
  obtain ⟨e1, e2⟩ := names_toks c t h1 h2 (by simp at hl; omega)
  have hd : isDigit c.toNat = false := by
   cases hq : isDigit c.toNat with
   | false => rfl
   | true => have := (digit_not _ hq).1; rw [h1] at this; cases this
  have hi : identM (c :: t) = true := by
   have hr : runLen isWord (c :: t) = (c :: t).length := by
    have := runLen_all isWord (c :: t) [] (by intro b hb; rcases List.mem_cons.1 hb with rfl | hb; simp [isWord, h1]; exact h2 b hb) (by intro b t e; cases e)
    simpa using this
   simp only [identM, hd, hr, decide_eq_true hl, Bool.not_false, Bool.and_true, decide_eq_true]
  have hi4 : identM ([52] ++ c :: t) = false := by
   show (decide _ && !isDigit (52 : UInt8).toNat && decide _) = false
   rw [show isDigit (52 : UInt8).toNat = true from rfl]; simp
  rw [decide_eq_false (by simp), vif_f, vcall_pure 16 _ _ rfl (tokens_ok _) (toksVal_p _), e1, show toksVal (.ok [⟨1, c :: t, 0, 0⟩]) = .tup [.c (.p (.slice 4 false [[.int .i64 1, .str (c :: t), .int .i64 0, .int .i64 0]])), .c (.p (.int .i64 0))] from rfl, vext_tup _ 0 _ rfl, vext_tup _ 1 _ rfl,
   vbin_sadd _ _ _ (by simp at hl ⊢; omega), vcall_pure 16 _ _ rfl (tokens_ok _) (toksVal_p _), show ([52, 32] ++ c :: t) = 52 :: 32 :: c :: t from rfl, e2, show toksVal (.ok [⟨3, [], 4, 0⟩, ⟨1, c :: t, 0, 2⟩]) = .tup [.c (.p (.slice 4 false [[.int .i64 3, .str [], .int .i64 4, .int .i64 0], [.int .i64 1, .str (c :: t), .int .i64 0, .int .i64 2]])), .c (.p (.int .i64 0))] from rfl, vext_tup _ 0 _ rfl, vext_tup _ 1 _ rfl, vbin_eql, decide_eq_true rfl]
  simp only [vguard_tt, vlen_sl]
  rw [vbin_eql, decide_eq_true (by rfl), vpick_t]
  simp only [vguard_tt]
  rw [viaddr_sl0, vfaddr_pptr, vload_pptr _ _ _ (.int .i64 1) rfl, vbin_eql, decide_eq_true rfl, vpick_t]
  simp only [vguard_tt]
  rw [viaddr_sl0, vfaddr_pptr, vload_pptr _ _ _ (.str (c :: t)) rfl, vbin_seql, decide_eq_true rfl, vpick_t]
  simp only [vguard_tt]
  rw [vcall_pure 18 _ _ rfl (ident_ok _) rfl, hi, vpick_t]
  simp only [vguard_tt]
  rw [vbin_eql, decide_eq_true rfl, vpick_t]
  simp only [vguard_tt, vlen_sl]
  rw [vbin_eql, decide_eq_true (by rfl), vpick_t]
  simp only [vguard_tt]
  rw [viaddr_sl0, vfaddr_pptr, vload_pptr _ _ _ (.int .i64 4) rfl, vbin_eql, decide_eq_true rfl, vpick_t]
  simp only [vguard_tt]
  rw [vbin_sadd _ _ _ (by simp at hl ⊢; omega), vcall_pure 18 _ _ rfl (ident_ok _) rfl, hi4, vnot, vpick_t, tcomp_c, vfin_pure _ _ rfl]
  rfl
/-- THE LAW. -/
theorem names_law (o : Option (List Int)) : Om 11 [.v (.c (.p (intsP .i64 o)))] [] = some (kB true, []) := by
 refine (orc_none rfl).trans ?_
 show lim tab.get S 11 0 0 [.v (.c (.p (intsP .i64 o)))] h0 = _
 rw [w11_0, b11_0, vcall_pure 12 _ _ rfl known_ok rfl, vnot, vif_kB, if_neg (by decide)]
 obtain ⟨s, h1, h2, h3⟩ := name_loop o 16 0 [] h0 (by decide) (by decide) rfl (by intro c t e; cases e)
 exact h3.trans (name_end s h1 h2 h0)
end Go.Proofs.YtljhpmggifjigaaDoor.Ab
