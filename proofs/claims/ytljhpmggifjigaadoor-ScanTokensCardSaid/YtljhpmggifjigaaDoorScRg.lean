/- The document's words of sources: next, Tokens, Ident: what scan's answer. -/
import Derived.Test.YtljhpmggifjigaaDoorScRf
set_option linter.all false
set_option linter.unusedVariables false
set_option linter.unusedSimpArgs false
set_option maxRecDepth 100000
namespace Go.Proofs.YtljhpmggifjigaaDoor.Ab
open Go Go.AI
def nextV (t : Tok) (k e : Int) : TVal := .tup [.agg t.cells, .c (.p (.int .i64 k)), .c (.p (.int .i64 e))]
/-- next's answer fits a word. -/
def NextOk (r : Res1) (i : Nat) (o : One) : Prop := ∃ t k, r = some (nextV t k o.e, []) ∧ (o.e = 0 → t = { o.t with pos := (i : Int) } ∧ k = (i : Int) + o.n)
theorem drop_cons (s : List UInt8) (i : Nat) (c : UInt8) (h : s[i]? = some c) : s.drop i = c :: s.drop (i + 1) := by
 obtain ⟨q1, q2⟩ := List.getElem?_eq_some_iff.1 h
 rw [List.drop_eq_getElem_cons q1, q2]
theorem rword_loop (s : List UInt8) (hs : s.length ≤ 1500) (x1 x4 : TVal) : ∀ (m k : Nat) (h : Heap), s.length - k ≤ m → k ≤ s.length →
  lim tab.get S 21 0 1 [kS s, x1, x4, kI (k : Int)] h = lim tab.get S 21 0 2 [kS s, x1, x4, kI ((k + runLen isWord (s.drop k) : Nat) : Int)] h := by
 intro m
 have done : ∀ (k : Nat) (h : Heap), k = s.length → lim tab.get S 21 0 1 [kS s, x1, x4, kI (k : Int)] h = lim tab.get S 21 0 2 [kS s, x1, x4, kI ((k + runLen isWord (s.drop k) : Nat) : Int)] h := by
  intro k h hk
  subst hk
  rw [List.drop_length, w21_1, b21_1, vlen_s, vbin_lss, decide_eq_false (by omega)]
  simp only [vguard_ft, vguard_undef, vpick_f, vif_f]; rfl
 induction m with
 | zero => intro k h h1 h2; exact done k h (by omega)
 | succ m ih =>
  intro k h h1 h2
  by_cases hk : k < s.length
  ·obtain ⟨c, hc⟩ : ∃ c, s[k]? = some c := ⟨s[k], by simp [hk]⟩
   have hd := drop_cons s k c hc
   have next := ih (k + 1) h (by omega) (by omega)
   rw [w21_1, b21_1, vlen_s, vbin_lss, decide_eq_true (by omega)]
   simp only [vguard_tt]
   rw [vindex_s s k c hc, vcall_pure 26 _ _ rfl (rletter_ok c) rfl]
   cases h3 : isLetter c.toNat with
   | true =>
    simp only [vguard_tf, vguard_undef, vpick_t, vif_t]
    rw [vbin_add, wrap_i64 _ (by omega) (by omega), show ((k : Int) + 1) = ((k + 1 : Nat) : Int) by omega, next, hd]
    simp only [runLen, isWord, h3, Bool.true_or, if_true]
    rw [show k + 1 + runLen isWord (s.drop (k + 1)) = k + (runLen isWord (s.drop (k + 1)) + 1) by omega]
   | false =>
    simp only [vguard_ff]
    rw [vindex_s s k c hc, vcall_pure 27 _ _ rfl (rdigit_ok c) rfl, vpick_f, vpick_t]
    cases h4 : isDigit c.toNat with
    | true =>
     rw [vif_t, vbin_add, wrap_i64 _ (by omega) (by omega), show ((k : Int) + 1) = ((k + 1 : Nat) : Int) by omega, next, hd]
     simp only [runLen, isWord, h3, h4, Bool.or_true, if_true]
     rw [show k + 1 + runLen isWord (s.drop (k + 1)) = k + (runLen isWord (s.drop (k + 1)) + 1) by omega]
    | false =>
     rw [vif_f, hd]
     simp only [runLen, isWord, h3, h4, Bool.or_false, Bool.false_eq_true, if_false]; rfl
  ·exact done k h (by omega)
theorem rdig_loop (s : List UInt8) (hs : s.length ≤ 1500) (x1 x4 : TVal) : ∀ (m k : Nat) (h : Heap), s.length - k ≤ m → k ≤ s.length →
  lim tab.get S 21 0 3 [kS s, x1, x4, kI (k : Int)] h = lim tab.get S 21 0 4 [kS s, x1, x4, kI ((k + runLen isDigit (s.drop k) : Nat) : Int)] h := by
 intro m
 have done : ∀ (k : Nat) (h : Heap), k = s.length → lim tab.get S 21 0 3 [kS s, x1, x4, kI (k : Int)] h = lim tab.get S 21 0 4 [kS s, x1, x4, kI ((k + runLen isDigit (s.drop k) : Nat) : Int)] h := by
  intro k h hk
  subst hk
  rw [List.drop_length, w21_3, b21_3, vlen_s, vbin_lss, decide_eq_false (by omega)]
  simp only [vguard_ft, vguard_undef, vpick_f, vif_f]; rfl
 induction m with
 | zero => intro k h h1 h2; exact done k h (by omega)
 | succ m ih =>
  intro k h h1 h2
  by_cases hk : k < s.length
  ·obtain ⟨c, hc⟩ : ∃ c, s[k]? = some c := ⟨s[k], by simp [hk]⟩
   have hd := drop_cons s k c hc
   have next := ih (k + 1) h (by omega) (by omega)
   rw [w21_3, b21_3, vlen_s, vbin_lss, decide_eq_true (by omega)]
   simp only [vguard_tt]
   rw [vindex_s s k c hc, vcall_pure 27 _ _ rfl (rdigit_ok c) rfl, vpick_t]
   cases h3 : isDigit c.toNat with
   | true =>
    rw [vif_t, vbin_add, wrap_i64 _ (by omega) (by omega), show ((k : Int) + 1) = ((k + 1 : Nat) : Int) by omega, next, hd]
    simp only [runLen, h3, if_true]
    rw [show k + 1 + runLen isDigit (s.drop (k + 1)) = k + (runLen isDigit (s.drop (k + 1)) + 1) by omega]
   | false =>
    rw [vif_f, hd]
    simp only [runLen, h3, Bool.false_eq_true, if_false]; rfl
  ·exact done k h (by omega)
theorem rsign_loop (s : List UInt8) (hs : s.length ≤ 1500) (i : Nat) (c : UInt8) (hc : s[i]? = some c) (x4 : TVal) : ∀ (m j : Nat) (h : Heap), 13 - j ≤ m → j ≤ 13 →
  lim tab.get S 21 0 6 [kS s, kI (i : Int), x4, kS singles, kI (j : Int)] h = if (singles.drop j).contains c then
   (vop Om (.build [(.p (.int .i64 0)), (.p (.str [])), (.p (.int .i64 0)), (.p (.int .i64 0))] [(0, 1, (.k (kI 4))), (1, 1, (.k (kS [c]))), (3, 1, (.k (kI (i : Int))))]) h 173 fun x173 h =>
   vstore 4 x4 x173 h fun _ h => vcell true 4 x4 h fun c0 => tcomp (kI ((i + 1 : Nat) : Int)) fun c1 => tcomp (kI 0) fun c2 => vfin true 0 [c0, c1, c2] h) else lim tab.get S 21 0 7 [x4] h := by
 intro m
 have hil := (List.getElem?_eq_some_iff.1 hc).1
 have done : ∀ (j : Nat) (h : Heap), j = 13 → lim tab.get S 21 0 6 [kS s, kI (i : Int), x4, kS singles, kI (j : Int)] h = if (singles.drop j).contains c then
   (vop Om (.build [(.p (.int .i64 0)), (.p (.str [])), (.p (.int .i64 0)), (.p (.int .i64 0))] [(0, 1, (.k (kI 4))), (1, 1, (.k (kS [c]))), (3, 1, (.k (kI (i : Int))))]) h 173 fun x173 h =>
   vstore 4 x4 x173 h fun _ h => vcell true 4 x4 h fun c0 => tcomp (kI ((i + 1 : Nat) : Int)) fun c1 => tcomp (kI 0) fun c2 => vfin true 0 [c0, c1, c2] h) else lim tab.get S 21 0 7 [x4] h := by
  intro j h hj
  subst hj
  rw [w21_6, b21_6, vlen_s, vbin_lss, decide_eq_false (by decide), vif_f]; rfl
 induction m with
 | zero => intro j h h1 h2; exact done j h (by omega)
 | succ m ih =>
  intro j h h1 h2
  by_cases hj : j < 13
  ·obtain ⟨d, hd⟩ : ∃ d, singles[j]? = some d := ⟨singles[j]'(by simpa [singles] using hj), by simp⟩
   have hdd := drop_cons singles j d hd
   rw [w21_6, b21_6, vlen_s, vbin_lss, decide_eq_true (show (j : Int) < (singles.length : Int) by show (j : Int) < 13; omega), vif_t, vindex_s singles j d hd, vindex_s s i c hc, vbin_eql, hdd]
   by_cases hdc : d = c
   ·subst hdc
    have e1 : IntKind.i64.wrap ((i : Int) + 1) = ((i + 1 : Nat) : Int) := by rw [wrap_i64 _ (by omega) (by omega)]; omega
    rw [decide_eq_true rfl, vif_t, if_pos (by simp)]
    simp only [vbin_add, e1]
    rw [vslice_lh s i (i + 1) (by omega) (by omega), show (s.take (i + 1)).drop i = [d] by rw [List.drop_take, drop_cons s i d hc]; simp]
   ·have : ¬ (d.toNat : Int) = (c.toNat : Int) := fun e => hdc (UInt8.toNat_inj.1 (by omega))
    rw [decide_eq_false this, vif_f, vbin_add, wrap_i64 _ (by omega) (by omega), show ((j : Int) + 1) = ((j + 1 : Nat) : Int) by omega, ih (j + 1) h (by omega) (by omega)]
    have e : ((d :: singles.drop (j + 1)).contains c) = (singles.drop (j + 1)).contains c := by
     rw [List.contains_cons]; simp [Ne.symm hdc]
    rw [e]
  ·exact done j h (by omega)
theorem single_contains (c : UInt8) : singles.contains c = isSingle c.toNat := by
 have h : ∀ n : Nat, n < 256 → singles.contains (UInt8.ofNat n) = isSingle n := by decide
 have := h c.toNat (UInt8.toNat_lt c)
 rwa [UInt8.ofNat_toNat] at this
/-- A word built, handed back. -/
theorem next_ret (t : Tok) (k e : Int) (op : AOp) (d : Nat) (h : Heap) (cs : List Cell) (hh : h.get (.own 4 1) = some (.cells cs 0)) (hc : cs.length = 4) (hb : plan .nil op = some (.pure (.v (.agg t.cells)))) (O : Oracle) :
  (vop O op h d fun x h => vstore 4 (.v (.c (.ptr (.own 4 1) 0))) x h fun _ h => vcell true 4 (.v (.c (.ptr (.own 4 1) 0))) h fun c0 => tcomp (kI k) fun c1 => tcomp (kI e) fun c2 => vfin true 0 [c0, c1, c2] h) = some (nextV t k e, []) := by
 rw [vplan _ _ hb, store_cell 4 4 1 h cs t.cells _ hh (by decide) hc rfl, tcomp_c, tcomp_c, vfin_pure _ _ rfl]; rfl
theorem rsigns_end (s : List UInt8) (hs : s.length ≤ 1500) (i : Nat) (c : UInt8) (hc : s[i]? = some c) (h : Heap) (cs : List Cell) (hh : h.get (.own 4 1) = some (.cells cs 0)) (hcs : cs.length = 4) :
  NextOk (lim tab.get S 21 0 5 [kS s, kI (i : Int), .v (.c (.ptr (.own 4 1) 0))] h) i (signM (s.drop i)) := by
 have hil := (List.getElem?_eq_some_iff.1 hc).1
 have hd := drop_cons s i c hc
 have e2 : IntKind.i64.wrap ((i : Int) + 2) = ((i + 2 : Nat) : Int) := by rw [wrap_i64 _ (by omega) (by omega)]; omega
 have fin6 : ¬ (s.drop i).take 2 = two1 → ¬ (s.drop i).take 2 = two2 → NextOk (lim tab.get S 21 0 6 [kS s, kI (i : Int), .v (.c (.ptr (.own 4 1) 0)), kS singles, kI 0] h) i (signM (s.drop i)) := by
  intro n1 n2
  have hm : signM (s.drop i) = if isSingle c.toNat then ⟨⟨4, [c], 0, 0⟩, 1, 0⟩ else bad 11 := by
   unfold signM
   rw [if_neg n1, if_neg n2, hd]
  have := rsign_loop s hs i c hc (.v (.c (.ptr (.own 4 1) 0))) 13 0 h (by decide) (by decide)
  rw [show (kI 0 : TVal) = kI ((0 : Nat) : Int) from rfl, this, List.drop_zero, single_contains, hm]
  cases hq : isSingle c.toNat with
  | true =>
   rw [if_pos rfl, if_pos rfl]
   exact ⟨⟨4, [c], 0, (i : Int)⟩, ((i + 1 : Nat) : Int), next_ret ⟨4, [c], 0, (i : Int)⟩ _ 0 _ _ h cs hh hcs rfl _, fun _ => ⟨rfl, by show ((i + 1 : Nat) : Int) = (i : Int) + 1; omega⟩⟩
  | false =>
   rw [if_neg (by decide), if_neg (by decide), w21_7, b21_7]
   exact ⟨Tok.zero, 0, next_ret Tok.zero 0 11 _ _ h cs hh hcs rfl _, fun e => by cases e⟩
 have two : ∀ w : List UInt8, (s.drop i).take 2 = w → (w = two1 ∨ w = two2) → i + 2 ≤ s.length → signM (s.drop i) = ⟨⟨4, w, 0, 0⟩, 2, 0⟩ := by
  intro w hw ho hl
  unfold signM
  rcases ho with rfl | rfl
  ·rw [if_pos hw]
  ·rw [if_neg (by rw [hw]; decide), if_pos hw]
 rw [w21_5, b21_5, vbin_add, e2, vlen_s, vbin_leq]
 by_cases hl : i + 2 ≤ s.length
 ·rw [show (!decide ((s.length : Int) < ((i + 2 : Nat) : Int))) = true by simp; omega]
  simp only [vguard_tt]
  have hsl : (s.take (i + 2)).drop i = (s.drop i).take 2 := by rw [List.drop_take, show i + 2 - i = 2 by omega]
  have ok : ∀ w : List UInt8, (s.drop i).take 2 = w → (w = two1 ∨ w = two2) → NextOk (vbin .add 0 (kI (i : Int)) (kI 2) h fun x148 h =>
    vop Om (.slice 0 true (.k (kS s)) (some (.k (kI (i : Int)))) (some (.k x148)) none) h 149 fun x149 h =>
    vop Om (.build [(.p (.int .i64 0)), (.p (.str [])), (.p (.int .i64 0)), (.p (.int .i64 0))] [(0, 1, (.k (kI 4))), (1, 1, (.k x149)), (3, 1, (.k (kI (i : Int))))]) h 151 fun x151 h =>
    vbin .add 0 (kI (i : Int)) (kI 2) h fun x153 h =>
    vstore 4 (.v (.c (.ptr (.own 4 1) 0))) x151 h fun _ h =>
    vcell true 4 (.v (.c (.ptr (.own 4 1) 0))) h fun c0 => tcomp x153 fun c1 => tcomp (kI 0) fun c2 => vfin true 0 [c0, c1, c2] h) i (signM (s.drop i)) := by
   intro w hw ho
   rw [vbin_add, e2, vslice_lh s i (i + 2) (by omega) (by omega), hsl, hw, vplan _ (.v (.agg (Tok.cells ⟨4, w, 0, (i : Int)⟩))) rfl, vbin_add, e2, store_cell 4 4 1 h cs _ _ hh (by decide) hcs rfl, tcomp_c, tcomp_c, vfin_pure _ _ rfl, two w hw ho hl]
   exact ⟨⟨4, w, 0, (i : Int)⟩, ((i + 2 : Nat) : Int), rfl, fun _ => ⟨rfl, by show ((i + 2 : Nat) : Int) = (i : Int) + 2; omega⟩⟩
  rw [vbin_add, e2, vslice_lh s i (i + 2) (by omega) (by omega), hsl, vbin_seql]
  by_cases h1 : (s.drop i).take 2 = two1
  ·rw [show decide ((s.drop i).take 2 = [45, 62]) = true from decide_eq_true h1]
   simp only [vguard_tf, vguard_undef, vpick_t, vif_t]
   exact ok _ h1 (.inl rfl)
  ·rw [show decide ((s.drop i).take 2 = [45, 62]) = false from decide_eq_false h1]
   simp only [vguard_ff]
   rw [vbin_add, e2, vslice_lh s i (i + 2) (by omega) (by omega), hsl, vbin_seql, vpick_f, vpick_t]
   by_cases h2 : (s.drop i).take 2 = two2
   ·rw [show decide ((s.drop i).take 2 = [58, 61]) = true from decide_eq_true h2, vif_t]
    exact ok _ h2 (.inr rfl)
   ·rw [show decide ((s.drop i).take 2 = [58, 61]) = false from decide_eq_false h2, vif_f]
    exact fin6 h1 h2
 ·rw [show (!decide ((s.length : Int) < ((i + 2 : Nat) : Int))) = false by simp; omega]
  simp only [vguard_ft, vguard_undef, vpick_f, vif_f]
  have hn : ∀ w : List UInt8, w.length = 2 → ¬ (s.drop i).take 2 = w := by
   intro w hw e
   have := congrArg List.length e
   simp at this
   omega
  exact fin6 (hn two1 rfl) (hn two2 rfl)
theorem rword_end (s : List UInt8) (hs : s.length ≤ 1500) (i : Nat) (c : UInt8) (hc : s[i]? = some c) (hl : isLetter c.toNat = true) (h : Heap) (cs : List Cell) (hh : h.get (.own 4 1) = some (.cells cs 0)) (hcs : cs.length = 4) :
  NextOk (lim tab.get S 21 0 1 [kS s, kI (i : Int), .v (.c (.ptr (.own 4 1) 0)), kI (i : Int)] h) i (wordM (s.drop i)) := by
 have hil := (List.getElem?_eq_some_iff.1 hc).1
 have hr := runLen_le isWord (s.drop i)
 rw [List.length_drop] at hr
 rw [rword_loop s hs _ _ _ i h (Nat.le_refl _) (by omega)]
 generalize hk : runLen isWord (s.drop i) = n at hr
 unfold wordM
 rw [hk, w21_2, b21_2, vbin_sub, wrap_i64 _ (by omega) (by omega), show (((i + n : Nat) : Int) - (i : Int)) = (n : Int) by omega, vbin_gtr]
 by_cases h1 : 16 < n
 ·rw [decide_eq_true (by omega), vif_t, if_pos h1]
  exact ⟨Tok.zero, 0, next_ret Tok.zero 0 4 _ _ h cs hh hcs rfl _, fun e => by cases e⟩
 ·rw [decide_eq_false (by omega), vif_f, vslice_lh s i (i + n) (by omega) (by omega), if_neg h1, show (s.take (i + n)).drop i = (s.drop i).take n by rw [List.drop_take, show i + n - i = n by omega]]
  exact ⟨⟨1, (s.drop i).take n, 0, (i : Int)⟩, ((i + n : Nat) : Int), next_ret ⟨1, (s.drop i).take n, 0, (i : Int)⟩ _ 0 _ _ h cs hh hcs rfl _, fun _ => ⟨rfl, by show ((i + n : Nat) : Int) = (i : Int) + (n : Int); omega⟩⟩
theorem rnum_end2 (s : List UInt8) (hs : s.length ≤ 1500) (i : Nat) (c : UInt8) (hc : s[i]? = some c) (hn : c.toNat = 45 ∨ isDigit c.toNat = true) (h : Heap) (cs : List Cell) (hh : h.get (.own 4 1) = some (.cells cs 0)) (hcs : cs.length = 4) :
  NextOk (lim tab.get S 21 0 3 [kS s, kI (i : Int), .v (.c (.ptr (.own 4 1) 0)), kI ((i + 1 : Nat) : Int)] h) i (numberM (s.drop i)) := by
 have hil := (List.getElem?_eq_some_iff.1 hc).1
 have hd := drop_cons s i c hc
 have hr := runLen_le isDigit (s.drop (i + 1))
 rw [List.length_drop] at hr
 have hall := run_all isDigit (s.drop (i + 1))
 rw [rdig_loop s hs _ _ _ (i + 1) h (Nat.le_refl _) (by omega)]
 generalize hk : runLen isDigit (s.drop (i + 1)) = n at hr hall
 have hsl : (s.take (i + 1 + n)).drop i = c :: (s.drop (i + 1)).take n := by
  rw [List.drop_take, hd, show i + 1 + n - i = n + 1 by omega, List.take_succ_cons]
 have hlen : ((s.drop (i + 1)).take n).length = n := by simp; omega
 rw [w21_4, b21_4, vslice_lh s i (i + 1 + n) (by omega) (by omega), hsl, vcall_pure 28 _ _ rfl (rnumber_ok c _ hall hn) rfl, vext_tup _ 0 _ rfl, vext_tup _ 1 _ rfl]
 generalize hv : numR (decide (c.toNat = 45)) (if c.toNat = 45 then (s.drop (i + 1)).take n else c :: (s.drop (i + 1)).take n) = v
 have key : (numberM (s.drop i)).e = v.2 ∧ (v.2 = 0 → (numberM (s.drop i)).t = ⟨3, [], v.1, 0⟩ ∧ (numberM (s.drop i)).n = ((1 + n : Nat) : Int)) := by
  unfold numberM
  unfold numR at hv
  by_cases h45 : c.toNat = 45
  ·have hc45 : c = 45 := UInt8.toNat_inj.1 h45
   have hneg : neg (s.drop i) = 1 := by unfold neg; rw [hd, hc45]; rfl
   rw [hneg, show (s.drop i).drop 1 = s.drop (i + 1) by rw [List.drop_drop], hk]
   simp only [h45, decide_true, if_true] at hv
   rw [hlen] at hv
   by_cases q1 : 19 < n
   ·rw [if_pos q1] at hv ⊢; subst hv; exact ⟨rfl, fun e => by cases e⟩
   ·rw [if_neg q1] at hv ⊢
    by_cases q2 : 9223372036854775807 + 1 < numVal ((s.drop (i + 1)).take n)
    ·rw [if_pos q2] at hv ⊢; subst hv; exact ⟨rfl, fun e => by cases e⟩
    ·rw [if_neg q2] at hv ⊢; subst hv; exact ⟨rfl, fun _ => ⟨rfl, rfl⟩⟩
  ·have hdig : isDigit c.toNat = true := by rcases hn with q | q; exact absurd q h45; exact q
   have hneg : neg (s.drop i) = 0 := by
    unfold neg; rw [hd]
    rw [if_neg (by intro e; simp at e; exact h45 (by rw [e]; rfl))]
   have hrun : runLen isDigit (s.drop i) = n + 1 := by rw [hd]; simp only [runLen, hdig, if_true, hk]
   have htk : (s.drop i).take (n + 1) = c :: (s.drop (i + 1)).take n := by rw [hd, List.take_succ_cons]
   rw [hneg, List.drop_zero, hrun, htk]
   simp only [h45, decide_false, Bool.false_eq_true, if_false, Nat.add_zero] at hv
   rw [List.length_cons, hlen] at hv
   by_cases q1 : 19 < n + 1
   ·rw [if_pos q1] at hv ⊢; subst hv; exact ⟨rfl, fun e => by cases e⟩
   ·rw [if_neg q1] at hv ⊢
    by_cases q2 : 9223372036854775807 < numVal (c :: (s.drop (i + 1)).take n)
    ·rw [if_pos q2] at hv; rw [if_pos (by omega)]; subst hv; exact ⟨rfl, fun e => by cases e⟩
    ·rw [if_neg q2] at hv; rw [if_neg (by omega)]; subst hv
     exact ⟨rfl, fun _ => ⟨rfl, by show ((0 + (n + 1) : Nat) : Int) = _; omega⟩⟩
 unfold NextOk
 rw [key.1]
 refine ⟨⟨3, [], v.1, (i : Int)⟩, ((i + 1 + n : Nat) : Int), next_ret ⟨3, [], v.1, (i : Int)⟩ _ v.2 _ _ h cs hh hcs rfl _, fun e => ?_⟩
 obtain ⟨k1, k2⟩ := key.2 e
 rw [k1, k2]
 exact ⟨rfl, by omega⟩
theorem rtext_end (s : List UInt8) (hs : s.length ≤ 1500) (i : Nat) (hil : i < s.length) (h : Heap) (cs : List Cell) (hh : h.get (.own 4 1) = some (.cells cs 0)) (hcs : cs.length = 4) :
  NextOk (vcall Om (.v (.c (.func 29 []))) [kS s, kI (i : Int)] h 110 fun x110 h =>
   vext x110 0 h fun x111 h =>
   vext x110 1 h fun x112 h =>
   vbin .lss 0 x112 (kI 0) h fun x114 h =>
   vif x114 (
   vop Om (.build [(.p (.int .i64 0)), (.p (.str [])), (.p (.int .i64 0)), (.p (.int .i64 0))] []) h 115 fun x115 h =>
   vstore 4 (.v (.c (.ptr (.own 4 1) 0))) x115 h fun _ h =>
   vcell true 4 (.v (.c (.ptr (.own 4 1) 0))) h fun c0 => tcomp (kI 0) fun c1 => tcomp (kI 11) fun c2 => vfin true 0 [c0, c1, c2] h)
   (vlen Om 0 x111 h 117 fun x117 h =>
   vbin .gtr 0 x117 (kI 200) h fun x118 h =>
   vif x118 (
   vop Om (.build [(.p (.int .i64 0)), (.p (.str [])), (.p (.int .i64 0)), (.p (.int .i64 0))] []) h 119 fun x119 h =>
   vstore 4 (.v (.c (.ptr (.own 4 1) 0))) x119 h fun _ h =>
   vcell true 4 (.v (.c (.ptr (.own 4 1) 0))) h fun c0 => tcomp (kI 0) fun c1 => tcomp (kI 4) fun c2 => vfin true 0 [c0, c1, c2] h)
   (vop Om (.build [(.p (.int .i64 0)), (.p (.str [])), (.p (.int .i64 0)), (.p (.int .i64 0))] [(0, 1, (.k (kI 2))), (1, 1, (.k x111)), (3, 1, (.k (kI (i : Int))))]) h 122 fun x122 h =>
   vstore 4 (.v (.c (.ptr (.own 4 1) 0))) x122 h fun _ h =>
   vcell true 4 (.v (.c (.ptr (.own 4 1) 0))) h fun c0 => tcomp x112 fun c1 => tcomp (kI 0) fun c2 => vfin true 0 [c0, c1, c2] h))) i (textM (s.drop i)) := by
 have ht : textM (s.drop i) = quoOne (quoM (s.drop (i + 1)) [] 1) := by
  unfold textM
  rw [List.drop_drop, text_quo _ _ _ _ (Nat.le_refl _)]
 have hsh := quo_shift i _ (s.drop (i + 1)) [] 1 (Nat.le_refl _)
 rw [show 1 + i = i + 1 by omega] at hsh
 have hp : pT (quoV (quoM (s.drop (i + 1)) [] (i + 1))) = true := by cases quoM (s.drop (i + 1)) [] (i + 1) <;> rfl
 rw [vcall_pure 29 _ _ rfl (quoted_ok s hs i hil) hp, hsh, ht]
 cases hq : quoM (s.drop (i + 1)) [] 1 with
 | none =>
  rw [show quoV (Option.map (fun p : List UInt8 × Nat => (p.1, p.2 + i)) none) = .tup [.c (.p (.str [])), .c (.p (.int .i64 (-1)))] from rfl, vext_tup _ 0 _ rfl, vext_tup _ 1 _ rfl, vbin_lss, decide_eq_true (by decide), vif_t]
  exact ⟨Tok.zero, 0, next_ret Tok.zero 0 11 _ _ h cs hh hcs rfl _, fun e => by cases e⟩
 | some p =>
  obtain ⟨t, k⟩ := p
  rw [show quoV (Option.map (fun p : List UInt8 × Nat => (p.1, p.2 + i)) (some (t, k))) = .tup [.c (.p (.str t)), .c (.p (.int .i64 ((k + i : Nat) : Int)))] from rfl, vext_tup _ 0 _ rfl, vext_tup _ 1 _ rfl, vbin_lss, decide_eq_false (by omega), vif_f, vlen_s, vbin_gtr]
  unfold quoOne
  dsimp only
  by_cases h1 : 200 < t.length
  ·rw [decide_eq_true (by omega), vif_t, if_pos h1]
   exact ⟨Tok.zero, 0, next_ret Tok.zero 0 4 _ _ h cs hh hcs rfl _, fun e => by cases e⟩
  ·rw [decide_eq_false (by omega), vif_f, if_neg h1]
   exact ⟨⟨2, t, 0, (i : Int)⟩, ((k + i : Nat) : Int), next_ret ⟨2, t, 0, (i : Int)⟩ _ 0 _ _ h cs hh hcs rfl _, fun _ => ⟨rfl, by show ((k + i : Nat) : Int) = (i : Int) + (k : Int); omega⟩⟩
/-- next. -/
theorem next_ok (s : List UInt8) (hs : s.length ≤ 1500) (i : Nat) (c : UInt8) (hc : s[i]? = some c) : NextOk (Om 21 [kS s, kI (i : Int)] []) i (oneM (s.drop i)) := by
 have hil := (List.getElem?_eq_some_iff.1 hc).1
 have hd := drop_cons s i c hc
 have hO : oneM (s.drop i) = if isLetter c.toNat then wordM (s.drop i) else if numHead (s.drop i) then numberM (s.drop i) else if c.toNat = 34 then textM (s.drop i) else signM (s.drop i) := by rw [hd]; rfl
 unfold NextOk
 rw [show Om 21 [kS s, kI (i : Int)] [] = lim tab.get S 21 0 0 [kS s, kI (i : Int)] h0 from orc_none rfl, w21_0, b21_0, valloc, h0_gen]
 have hh := Heap.own_get h0 4 (0 + 1) (.cells [.p (.int .i64 0), .p (.str []), .p (.int .i64 0), .p (.int .i64 0)] 0) (by decide) (fun e => by cases e)
 generalize (h0.own 4 (0 + 1) (.cells [.p (.int .i64 0), .p (.str []), .p (.int .i64 0), .p (.int .i64 0)] 0)) = h at hh
 rw [vindex_s s i c hc, vcall_pure 26 _ _ rfl (rletter_ok c) rfl, hO]
 cases h1 : isLetter c.toNat with
 | true =>
  rw [vif_t, if_pos rfl]
  exact rword_end s hs i c hc h1 h _ hh rfl
 | false =>
  rw [vif_f, if_neg (by decide), vindex_s s i c hc, vcall_pure 27 _ _ rfl (rdigit_ok c) rfl]
  have e1 : IntKind.i64.wrap ((i : Int) + 1) = ((i + 1 : Nat) : Int) := by rw [wrap_i64 _ (by omega) (by omega)]; omega
  have num : numHead (s.drop i) = true → (c.toNat = 45 ∨ isDigit c.toNat = true) → NextOk (vbin .add 0 (kI (i : Int)) (kI 1) h fun x76 h => lim tab.get S 21 0 3 [kS s, kI (i : Int), .v (.c (.ptr (.own 4 1) 0)), x76] h) i (if numHead (s.drop i) then numberM (s.drop i) else if c.toNat = 34 then textM (s.drop i) else signM (s.drop i)) := by
   intro q1 q2
   rw [if_pos q1, vbin_add, e1]
   exact rnum_end2 s hs i c hc q2 h _ hh rfl
  have rest : numHead (s.drop i) = false → NextOk (vindex (kS s) (kI (i : Int)) h fun x105 h => vbin .eql 0 x105 (.v (.c (.p (.int .u8 34)))) h fun x106 h => vif x106 (vcall Om (.v (.c (.func 29 []))) [kS s, kI (i : Int)] h 110 fun x110 h =>
   vext x110 0 h fun x111 h =>
   vext x110 1 h fun x112 h =>
   vbin .lss 0 x112 (kI 0) h fun x114 h =>
   vif x114 (
   vop Om (.build [(.p (.int .i64 0)), (.p (.str [])), (.p (.int .i64 0)), (.p (.int .i64 0))] []) h 115 fun x115 h =>
   vstore 4 (.v (.c (.ptr (.own 4 1) 0))) x115 h fun _ h =>
   vcell true 4 (.v (.c (.ptr (.own 4 1) 0))) h fun c0 => tcomp (kI 0) fun c1 => tcomp (kI 11) fun c2 => vfin true 0 [c0, c1, c2] h)
   (vlen Om 0 x111 h 117 fun x117 h =>
   vbin .gtr 0 x117 (kI 200) h fun x118 h =>
   vif x118 (
   vop Om (.build [(.p (.int .i64 0)), (.p (.str [])), (.p (.int .i64 0)), (.p (.int .i64 0))] []) h 119 fun x119 h =>
   vstore 4 (.v (.c (.ptr (.own 4 1) 0))) x119 h fun _ h =>
   vcell true 4 (.v (.c (.ptr (.own 4 1) 0))) h fun c0 => tcomp (kI 0) fun c1 => tcomp (kI 4) fun c2 => vfin true 0 [c0, c1, c2] h)
   (vop Om (.build [(.p (.int .i64 0)), (.p (.str [])), (.p (.int .i64 0)), (.p (.int .i64 0))] [(0, 1, (.k (kI 2))), (1, 1, (.k x111)), (3, 1, (.k (kI (i : Int))))]) h 122 fun x122 h =>
   vstore 4 (.v (.c (.ptr (.own 4 1) 0))) x122 h fun _ h =>
   vcell true 4 (.v (.c (.ptr (.own 4 1) 0))) h fun c0 => tcomp x112 fun c1 => tcomp (kI 0) fun c2 => vfin true 0 [c0, c1, c2] h)))
   (lim tab.get S 21 0 5 [kS s, kI (i : Int), .v (.c (.ptr (.own 4 1) 0))] h)) i (if numHead (s.drop i) then numberM (s.drop i) else if c.toNat = 34 then textM (s.drop i) else signM (s.drop i)) := by
   intro q1
   rw [if_neg (by rw [q1]; decide), vindex_s s i c hc, vbin_eql]
   by_cases h34 : c.toNat = 34
   ·rw [decide_eq_true (show (c.toNat : Int) = 34 by omega), vif_t, if_pos h34]
    exact rtext_end s hs i hil h _ hh rfl
   ·rw [decide_eq_false (show ¬ (c.toNat : Int) = 34 by omega), vif_f, if_neg h34]
    exact rsigns_end s hs i c hc h _ hh rfl
  cases h2 : isDigit c.toNat with
  | true =>
   have hn : numHead (s.drop i) = true := by rw [hd]; simp [numHead, h2]
   simp only [vguard_tf, vguard_undef, vpick_t, vif_t]
   exact num hn (.inr h2)
  | false =>
   simp only [vguard_ff]
   rw [vindex_s s i c hc, vbin_eql]
   by_cases h45 : c.toNat = 45
   ·rw [decide_eq_true (show (c.toNat : Int) = 45 by omega)]
    simp only [vguard_tt]
    rw [vbin_add, e1, vlen_s, vbin_lss, vpick_t]
    by_cases hl : i + 1 < s.length
    ·obtain ⟨d, hdd⟩ : ∃ d, s[i + 1]? = some d := ⟨s[i + 1], by simp [hl]⟩
     have hd2 := drop_cons s (i + 1) d hdd
     rw [decide_eq_true (by omega)]
     simp only [vguard_tt]
     rw [vbin_add, e1, vindex_s s (i + 1) d hdd, vcall_pure 27 _ _ rfl (rdigit_ok d) rfl, vpick_t, vpick_f]
     cases h3 : isDigit d.toNat with
     | true =>
      rw [vif_t]
      exact num (by rw [hd, hd2]; simp [numHead, h45, h3]) (.inl h45)
     | false =>
      rw [vif_f]
      exact rest (by rw [hd, hd2]; simp [numHead, h2, h3])
    ·rw [decide_eq_false (by omega)]
     simp only [vguard_ft, vguard_undef, vpick_f, vif_f]
     have hn : s.drop (i + 1) = [] := List.drop_eq_nil_of_le (by omega)
     exact rest (by rw [hd, hn]; simp [numHead, h2])
   ·rw [decide_eq_false (show ¬ (c.toNat : Int) = 45 by omega)]
    simp only [vguard_ft, vguard_undef, vpick_f, vif_f]
    exact rest (by rw [hd]; simp [numHead, h2, h45])
end Go.Proofs.YtljhpmggifjigaaDoor.Ab
