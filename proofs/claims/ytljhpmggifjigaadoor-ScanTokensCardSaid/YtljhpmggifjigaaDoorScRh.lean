/- ScanTokens, whatever the input: any text is taken to words, or refused, as the document says. -/
import Derived.Test.YtljhpmggifjigaaDoorScRg
set_option linter.all false
set_option linter.unusedVariables false
set_option linter.unusedSimpArgs false
set_option maxRecDepth 100000
namespace Go.Proofs.YtljhpmggifjigaaDoor.Ab
open Go Go.AI
theorem rtokens_end (acc : List Tok) (v : Cell) (h : Heap) (G : Grow [35] 4 v (acc.map Tok.row) h) : lim tab.get S 14 0 2 [.v (.c v)] h = some (toksVal (toksFin (.ok acc)), []) := by
 rw [w14_2, b14_2, vlen_grow G, vbin_gtr, vif_kB]
 show _ = some (toksVal (if 400 < acc.length then .error 3 else .ok acc), [])
 by_cases h1 : 400 < acc.length
 ·rw [if_pos (decide_eq_true (by simp; omega)), if_pos h1, tcomp_c, tcomp_c, vfin_pure _ _ rfl]; rfl
 ·rw [if_neg (by rw [decide_eq_true_eq]; simp; omega), if_neg h1, tcomp_c, tcomp_c, vfin_grow _ G]; rfl
theorem rtokens_loop (s : List UInt8) (hs : s.length ≤ 1500) : ∀ (m i f : Nat) (acc : List Tok) (v : Cell) (h : Heap), s.length - i ≤ m → s.length - i < f → i ≤ s.length → acc.length ≤ i → Grow [35] 4 v (acc.map Tok.row) h →
  lim tab.get S 14 0 1 [kS s, .v (.c v), kI (i : Int)] h = some (toksVal (toksFin (toksGo f (s.drop i) i acc)), []) := by
 intro m
 have done : ∀ (i f : Nat) (acc : List Tok) (v : Cell) (h : Heap), i = s.length → Grow [35] 4 v (acc.map Tok.row) h → lim tab.get S 14 0 1 [kS s, .v (.c v), kI (i : Int)] h = some (toksVal (toksFin (toksGo f (s.drop i) i acc)), []) := by
  intro i f acc v h hi G
  subst hi
  rw [List.drop_length, toks_nil, w14_1, b14_1, vlen_s, vbin_lss, decide_eq_false (by omega), vif_f]
  exact rtokens_end acc v h G
 induction m using Nat.strongRecOn with
 | ind m ih =>
  intro i f acc v h hm hf hl ha G
  by_cases hi : i < s.length
  ·obtain ⟨c, hc⟩ : ∃ c, s[i]? = some c := ⟨s[i], by simp [hi]⟩
   have hd := drop_cons s i c hc
   obtain ⟨g, rfl⟩ : ∃ g, f = g + 1 := ⟨f - 1, by omega⟩
   rw [w14_1, b14_1, vlen_s, vbin_lss, decide_eq_true (by omega), vif_t, vindex_s s i c hc, vcall_pure 20 _ _ rfl (rblank_ok c) rfl]
   cases hb : isBlank c.toNat with
   | true =>
    rw [vif_t, vbin_add, wrap_i64 _ (by omega) (by omega), show ((i : Int) + 1) = ((i + 1 : Nat) : Int) by omega, hd, toks_blank g c hb]
    exact ih (s.length - (i + 1)) (by omega) (i + 1) (g + 1) acc v h (Nat.le_refl _) (by omega) (by omega) (by omega) G
   | false =>
    rw [vif_f]
    obtain ⟨t, k, n1, n2⟩ := next_ok s hs i c hc
    rw [vcall_pure 21 _ _ rfl n1 rfl, show nextV t k (oneM (s.drop i)).e = .tup [.agg t.cells, .c (.p (.int .i64 k)), .c (.p (.int .i64 (oneM (s.drop i)).e))] from rfl, vext_tup _ 0 _ rfl, vext_tup _ 1 _ rfl, vext_tup _ 2 _ rfl, valloc]
    rw [vstore_ptr 4 (.own 6 (h.gen 6 + 1)) 0 0 _ (.agg t.cells) (Heap.own_get _ _ _ _ (by decide) (fun e => by cases e)) (by decide) rfl (by decide), Heap.put_own, vbin_neq]
    have hk : runLen isBlank (s.drop i) = 0 := by rw [hd]; simp [runLen, hb]
    have hgo : toksGo (g + 1) (s.drop i) i acc = if (oneM (s.drop i)).e = 0 then toksGo g ((s.drop i).drop (oneM (s.drop i)).n.toNat) (i + (oneM (s.drop i)).n.toNat) (acc ++ [{ (oneM (s.drop i)).t with pos := (i : Int) }]) else .error (oneM (s.drop i)).e := by
     rw [toksGo]
     simp only [hk, List.drop_zero, Nat.add_zero]
     rw [hd]
    have hbd := one_bounds (s.drop i) (by rw [hd]; simp)
    rw [hgo]
    generalize oneM (s.drop i) = o at n1 n2 hbd
    by_cases hoe : o.e = 0
    ·obtain ⟨rfl, rfl⟩ := n2 hoe
     obtain ⟨n, e1, e2, e3⟩ := hbd hoe
     rw [List.length_drop] at e3
     rw [decide_eq_true hoe, if_pos hoe, show (!true) = false from rfl, vif_f]
     have G1 := ((G.own (d := 6) (h.gen 6 + 1) (.cells [.p (.int .i64 0), .p (.str []), .p (.int .i64 0), .p (.int .i64 0)] 0) (by decide)).own (d := 6) (h.gen 6 + 1) (.cells (splice [.p (.int .i64 0), .p (.str []), .p (.int .i64 0), .p (.int .i64 0)] 0 (Comp.agg (Tok.cells { o.t with pos := (i : Int) })).cells) 0) (by decide))
     rw [vload_agg 4 (.own 6 (h.gen 6 + 1)) 0 0 _ (Heap.own_get _ _ _ _ (by decide) (fun e => by cases e)) rfl]
     rw [vplan (.bslice 4 1 _ _ false) (kSl 4 true [Tok.row { o.t with pos := (i : Int) }]) rfl]
     have q4 : ((acc.map Tok.row).length + 1) * 40 ≤ 1099511627776 := by rw [List.length_map]; omega
     obtain ⟨v', h', G', e', _⟩ := vappend_grow (d := 35) (by' := 40) (new := [Tok.row { o.t with pos := (i : Int) }]) true G1 (by decide) (by simp) (by simp [Tok.row]) (by simpa using q4) (by decide)
     refine (e' _ _ _).trans ?_
     have en : (i : Int) + o.n = ((i + n : Nat) : Int) := by rw [e1]; omega
     rw [en, e1, Int.toNat_natCast, List.drop_drop]
     exact ih (s.length - (i + n)) (by omega) (i + n) g (acc ++ [{ o.t with pos := (i : Int) }]) v' h' (Nat.le_refl _) (by omega) (by omega) (by simp; omega) (by simpa using G')
    ·rw [decide_eq_false hoe, if_neg hoe, show (!false) = true from rfl, vif_t, tcomp_c, tcomp_c, vfin_pure _ _ rfl]
     rfl
  ·exact done i f acc v h (by omega) G
/-- THE DOCUMENT'S Tokens. -/
theorem rtokens_ok (s : List UInt8) : Om 14 [kS s] [] = some (toksVal (tokensM s), []) := by
 refine (orc_none rfl).trans ?_
 show lim tab.get S 14 0 0 [kS s] h0 = _
 rw [w14_0, b14_0, vlen_s, vbin_gtr, vif_kB]
 unfold tokensM
 by_cases h1 : 1500 < s.length
 ·rw [if_pos (decide_eq_true (by omega)), if_pos h1, tcomp_c, tcomp_c, vfin_pure _ _ rfl]; rfl
 ·rw [if_neg (by rw [decide_eq_true_eq]; omega), if_neg h1]
  exact rtokens_loop s (by omega) s.length 0 (s.length + 1) [] (.p .nilslice) h0 (by omega) (by omega) (by omega) (by simp) (Grow.nil _ 4 _)
/-! ### Ident -/
theorem rident_loop (s : List UInt8) (hs : s.length ≤ 16) : ∀ (m i : Nat) (h : Heap), s.length - i ≤ m → i ≤ s.length → lim tab.get S 19 0 1 [kS s, kI (i : Int)] h = some (kB (decide (runLen isWord (s.drop i) = s.length - i)), []) := by
 intro m
 have done : ∀ (i : Nat) (h : Heap), i = s.length → lim tab.get S 19 0 1 [kS s, kI (i : Int)] h = some (kB (decide (runLen isWord (s.drop i) = s.length - i)), []) := by
  intro i h hi
  subst hi
  rw [w19_1, b19_1, vlen_s, vbin_lss, decide_eq_false (by omega), vif_f, tcomp_c, vfin_pure _ _ rfl, List.drop_length]
  simp [runLen, oneOf]
 induction m with
 | zero => intro i h h1 h2; exact done i h (by omega)
 | succ m ih =>
  intro i h h1 h2
  by_cases hi : i < s.length
  ·obtain ⟨c, hc⟩ : ∃ c, s[i]? = some c := ⟨s[i], by simp [hi]⟩
   have hd := drop_cons s i c hc
   have hl := runLen_le isWord (s.drop (i + 1))
   rw [List.length_drop] at hl
   have next := ih (i + 1) h (by omega) (by omega)
   have e1 : IntKind.i64.wrap ((i : Int) + 1) = ((i + 1 : Nat) : Int) := by rw [wrap_i64 _ (by omega) (by omega)]; omega
   have good : isWord c.toNat = true → decide (runLen isWord (s.drop (i + 1)) = s.length - (i + 1)) = decide (runLen isWord (s.drop i) = s.length - i) := by
    intro hw
    rw [hd]
    simp only [runLen, hw, if_true]
    apply decide_eq_decide.2
    omega
   rw [w19_1, b19_1, vlen_s, vbin_lss, decide_eq_true (by omega), vif_t, vindex_s s i c hc, vcall_pure 26 _ _ rfl (rletter_ok c) rfl, vnot]
   cases h3 : isLetter c.toNat with
   | true =>
    simp only [Bool.not_true, vguard_ft, vguard_undef, vpick_f, vif_f]
    rw [vbin_add, e1, next, good (by simp [isWord, h3])]
   | false =>
    simp only [Bool.not_false, vguard_tt]
    rw [vindex_s s i c hc, vcall_pure 27 _ _ rfl (rdigit_ok c) rfl, vnot, vpick_t]
    cases h4 : isDigit c.toNat with
    | true =>
     simp only [Bool.not_true, vif_f]
     rw [vbin_add, e1, next, good (by simp [isWord, h4])]
    | false =>
     simp only [Bool.not_false, vif_t, tcomp_c]
     rw [vfin_pure _ _ rfl, hd]
     have : ¬ (0 = s.length - i) := by omega
     simp [runLen, isWord, h3, h4, oneOf, this]
  ·exact done i h (by omega)
theorem rident_ok (s : List UInt8) : Om 19 [kS s] [] = some (kB (identM s), []) := by
 refine (orc_none rfl).trans ?_
 show lim tab.get S 19 0 0 [kS s] h0 = _
 rw [w19_0, b19_0, vlen_s, vbin_eql]
 cases s with
 | nil =>
  rw [decide_eq_true (by rfl)]
  simp only [vguard_tf, vguard_undef, vpick_t, vif_t, tcomp_c]
  rw [vfin_pure _ _ rfl]; rfl
 | cons c t =>
  rw [decide_eq_false (by simp; omega)]
  simp only [vguard_ff]
  rw [vlen_s, vbin_gtr, vpick_f]
  by_cases h1 : 16 < (c :: t).length
  ·rw [decide_eq_true (by omega)]
   simp only [vguard_tf, vguard_undef, vpick_t, vif_t, tcomp_c]
   rw [vfin_pure _ _ rfl]
   have : decide ((c :: t).length ≤ 16) = false := decide_eq_false (by omega)
   simp only [identM, this, Bool.false_and]; rfl
  ·rw [decide_eq_false (by omega)]
   simp only [vguard_ff]
   rw [show (kI 0 : TVal) = kI ((0 : Nat) : Int) from rfl, vindex_s (c :: t) 0 c rfl, vcall_pure 26 _ _ rfl (rletter_ok c) rfl, vnot, vpick_f]
   have hle : decide ((c :: t).length ≤ 16) = true := decide_eq_true (by omega)
   have hrun := rident_loop (c :: t) (by omega) _ 0 h0 (Nat.le_refl _) (by omega)
   rw [List.drop_zero, Nat.sub_zero] at hrun
   cases h2 : isLetter c.toNat with
   | true =>
    simp only [Bool.not_true, vif_f]
    have hd : isDigit c.toNat = false := by
     cases hq : isDigit c.toNat with
     | false => rfl
     | true => have := (digit_not _ hq).1; rw [h2] at this; cases this
    refine hrun.trans ?_
    simp only [identM, hle, hd, Bool.not_false, Bool.true_and]
   | false =>
    simp only [Bool.not_false, vif_t, tcomp_c]
    rw [vfin_pure _ _ rfl]
    cases hd : isDigit c.toNat with
    | true => simp only [identM, hd, Bool.not_true, Bool.and_false, Bool.false_and]; rfl
    | false =>
     have : decide (runLen isWord (c :: t) = (c :: t).length) = false := decide_eq_false (by simp [runLen, isWord, h2, hd])
     simp only [identM, this, Bool.and_false]; rfl
/-! ### same -/
theorem same_loop (X : List Tok) (hX : X.length ≤ 1000) : ∀ (m i : Nat) (h : Heap), X.length - i ≤ m → i ≤ X.length →
  lim tab.get S 17 0 1 [.v (.c (.p (growP 4 (X.map Tok.row)))), .v (.c (.p (growP 4 (X.map Tok.row)))), kI (i : Int)] h = some (kB true, []) := by
 intro m
 have hl : (X.map Tok.row).length = X.length := by simp
 have done : ∀ (i : Nat) (h : Heap), i = X.length → lim tab.get S 17 0 1 [.v (.c (.p (growP 4 (X.map Tok.row)))), .v (.c (.p (growP 4 (X.map Tok.row)))), kI (i : Int)] h = some (kB true, []) := by
  intro i h hi
  subst hi
  rw [w17_1, b17_1, vlen_growP, hl, vbin_lss, decide_eq_false (by omega), vif_f, tcomp_c, vfin_pure _ _ rfl]; rfl
 induction m with
 | zero => intro i h h1 h2; exact done i h (by omega)
 | succ m ih =>
  intro i h h1 h2
  by_cases hi : i < X.length
  ·obtain ⟨x, hx⟩ : ∃ x, X[i]? = some x := ⟨X[i], by simp [hi]⟩
   have rx : (X.map Tok.row)[i]? = some x.row := by rw [List.getElem?_map, hx]; rfl
   have next := ih (i + 1) h (by omega) (by omega)
   rw [w17_1, b17_1, vlen_growP, hl, vbin_lss, decide_eq_true (by omega), vif_t,
    viaddr_growP 4 _ i _ rx, vfaddr_pptr, vload_pptr _ _ _ (.int .i64 x.kind) rfl, viaddr_growP 4 _ i _ rx, vfaddr_pptr, vload_pptr _ _ _ (.int .i64 x.kind) rfl, vbin_neq, decide_eq_true rfl]
   simp only [Bool.not_true, vguard_ff]
   rw [viaddr_growP 4 _ i _ rx, vfaddr_pptr, vload_pptr _ _ _ (.str x.text) rfl, viaddr_growP 4 _ i _ rx, vfaddr_pptr, vload_pptr _ _ _ (.str x.text) rfl, vbin_sneq, decide_eq_true rfl, vpick_f]
   simp only [Bool.not_true, vguard_ff]
   rw [viaddr_growP 4 _ i _ rx, vfaddr_pptr, vload_pptr _ _ _ (.int .i64 x.n) rfl, viaddr_growP 4 _ i _ rx, vfaddr_pptr, vload_pptr _ _ _ (.int .i64 x.n) rfl, vbin_neq, decide_eq_true rfl, vpick_f]
   simp only [Bool.not_true, vguard_ff]
   rw [viaddr_growP 4 _ i _ rx, vfaddr_pptr, vload_pptr _ _ _ (.int .i64 x.pos) rfl, viaddr_growP 4 _ i _ rx, vfaddr_pptr, vload_pptr _ _ _ (.int .i64 x.pos) rfl, vbin_neq, decide_eq_true rfl, vpick_f]
   simp only [Bool.not_true, vif_f]
   rw [vbin_add, wrap_i64 _ (by omega) (by omega), show ((i : Int) + 1) = ((i + 1 : Nat) : Int) by omega]
   exact next
  ·exact done i h (by omega)
theorem same_ok (X : List Tok) (hX : X.length ≤ 1000) : Om 17 [.v (.c (.p (growP 4 (X.map Tok.row)))), .v (.c (.p (growP 4 (X.map Tok.row))))] [] = some (kB true, []) := by
 refine (orc_none rfl).trans ?_
 show lim tab.get S 17 0 0 [.v (.c (.p (growP 4 (X.map Tok.row)))), .v (.c (.p (growP 4 (X.map Tok.row))))] h0 = _
 rw [w17_0, b17_0, vlen_growP, vlen_growP, vbin_neq, decide_eq_true rfl]
 simp only [Bool.not_true, vif_f]
 exact same_loop X hX _ 0 h0 (Nat.le_refl _) (by omega)
end Go.Proofs.YtljhpmggifjigaaDoor.Ab
