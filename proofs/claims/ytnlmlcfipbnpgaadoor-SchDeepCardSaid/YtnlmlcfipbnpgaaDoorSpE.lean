/- Words of sources: the contract of scan.Tokens. -/
import Derived.Test.YtnlmlcfipbnpgaaDoorSpD
set_option linter.all false
set_option linter.unusedVariables false
set_option linter.unusedSimpArgs false
set_option maxRecDepth 100000
namespace Go.Proofs.YtnlmlcfipbnpgaaDoor.Ab
open Go Go.AI
theorem textGo_bounds : ∀ (k : Nat) (s acc : List UInt8) (i : Nat), s.length ≤ k → (textGo s acc i).e = 0 → ∃ n : Nat, (textGo s acc i).n = n ∧ i + 1 ≤ n ∧ n ≤ i + s.length := by
 intro k
 induction k with
 | zero =>
  intro s acc i hk he
  cases s with
  | nil => simp [textGo, bad] at he
  | cons _ _ => simp at hk
 | succ k ih =>
  intro s acc i hk he
  match s, hk, he with
  | [], _, he => simp [textGo, bad] at he
  | [c], _, he =>
   unfold textGo at he ⊢
   by_cases h1 : c.toNat < 32
   ·rw [if_pos h1] at he; simp [bad] at he
   rw [if_neg h1] at he ⊢
   by_cases h2 : c.toNat = 34
   ·rw [if_pos h2] at he ⊢
    by_cases h3 : 200 < acc.length
    ·rw [if_pos h3] at he; simp [bad] at he
    ·rw [if_neg h3]; exact ⟨i + 1, rfl, by omega, by simp⟩
   ·rw [if_neg h2] at he; simp [bad] at he
  | c :: d :: s, hk, he =>
   unfold textGo at he ⊢
   by_cases h1 : c.toNat < 32
   ·rw [if_pos h1] at he; simp [bad] at he
   rw [if_neg h1] at he ⊢
   by_cases h2 : c.toNat = 34
   ·rw [if_pos h2] at he ⊢
    by_cases h3 : 200 < acc.length
    ·rw [if_pos h3] at he; simp [bad] at he
    ·rw [if_neg h3]; exact ⟨i + 1, rfl, by omega, by simp⟩
   rw [if_neg h2] at he ⊢
   by_cases h4 : c.toNat = 92
   ·rw [if_pos h4] at he ⊢
    cases hm : meantM d with
    | none => rw [hm] at he; simp [bad] at he
    | some x =>
     rw [hm] at he
     obtain ⟨n, e1, e2, e3⟩ := ih s (acc ++ [x]) (i + 2) (by simp at hk; omega) he
     exact ⟨n, e1, by omega, by simp; omega⟩
   ·rw [if_neg h4] at he ⊢
    obtain ⟨n, e1, e2, e3⟩ := ih (d :: s) (acc ++ [c]) (i + 1) (by simp at hk ⊢; omega) he
    exact ⟨n, e1, by omega, by simp at e3 ⊢; omega⟩
theorem one_bounds (s : List UInt8) (hl : 1 ≤ s.length) (he : (oneM s).e = 0) : ∃ n : Nat, (oneM s).n = n ∧ 1 ≤ n ∧ n ≤ s.length := by
 obtain ⟨c, t, hct⟩ : ∃ c t, s = c :: t := by cases s with
  | nil => simp at hl
  | cons c t => exact ⟨c, t, rfl⟩
 have hO : oneM s = if isLetter c.toNat then wordM s else if numHead s then numberM s else if c.toNat = 34 then textM s else signM s := by rw [hct]; rfl
 rw [hO] at he ⊢
 by_cases h1 : isLetter c.toNat = true
 ·rw [if_pos h1] at he ⊢
  unfold wordM at he ⊢
  by_cases h2 : 16 < runLen isWord s
  ·rw [if_pos h2] at he; simp [bad] at he
  ·rw [if_neg h2]
   refine ⟨runLen isWord s, rfl, ?_, runLen_le _ _⟩
   rw [hct]; simp [runLen, isWord, h1]
 rw [if_neg h1] at he ⊢
 by_cases h2 : numHead s = true
 ·rw [if_pos h2] at he ⊢
  unfold numberM at he ⊢
  by_cases h3 : 19 < runLen isDigit (s.drop (neg s))
  ·rw [if_pos h3] at he; simp [bad] at he
  rw [if_neg h3] at he ⊢
  by_cases h4 : 9223372036854775807 + neg s < numVal ((s.drop (neg s)).take (runLen isDigit (s.drop (neg s))))
  ·rw [if_pos h4] at he; simp [bad] at he
  rw [if_neg h4]
  refine ⟨neg s + runLen isDigit (s.drop (neg s)), rfl, ?_, ?_⟩
  ·by_cases h45 : c = 45
   ·have : neg s = 1 := by unfold neg; rw [hct, h45]; rfl
    omega
   ·have hn : neg s = 0 := by unfold neg; rw [hct]; rw [if_neg (by simp [h45])]
    have hc45 : ¬ c.toNat = 45 := fun e => h45 (UInt8.toNat_inj.1 e)
    have hd : isDigit c.toNat = true := by
     rw [hct] at h2
     have h2' : (isDigit c.toNat || (decide (c.toNat = 45) && _)) = true := h2
     rw [decide_eq_false hc45] at h2'
     simpa using h2'
    rw [hn, hct]
    simp [runLen, hd]
  ·have := runLen_le isDigit (s.drop (neg s))
   simp at this
   unfold neg at this ⊢
   split
   ·rename_i h; rw [if_pos h] at this; have := congrArg List.length h; simp at this; omega
   ·rename_i h; rw [if_neg h] at this; omega
 rw [if_neg h2] at he ⊢
 by_cases h3 : c.toNat = 34
 ·rw [if_pos h3] at he ⊢
  obtain ⟨n, e1, e2, e3⟩ := textGo_bounds _ (s.drop 1) [] 1 (Nat.le_refl _) he
  exact ⟨n, e1, by omega, by simp at e3; omega⟩
 rw [if_neg h3] at he ⊢
 unfold signM at he ⊢
 by_cases h4 : s.take 2 = two1
 ·rw [if_pos h4]
  have := congrArg List.length h4
  simp [two1] at this
  exact ⟨2, rfl, by omega, by omega⟩
 rw [if_neg h4] at he ⊢
 by_cases h5 : s.take 2 = two2
 ·rw [if_pos h5]
  have := congrArg List.length h5
  simp [two2] at this
  exact ⟨2, rfl, by omega, by omega⟩
 rw [if_neg h5] at he ⊢
 rw [hct] at he ⊢
 dsimp only at he ⊢
 by_cases h6 : isSingle c.toNat = true
 ·rw [if_pos h6]; exact ⟨1, rfl, by omega, by simp⟩
 ·rw [if_neg h6] at he; simp [bad] at he
/-- All words: what is read so far, where one is. -/
def toksGo : Nat → List UInt8 → Nat → List Tok → Except Int (List Tok)
 | 0, _, _, acc => .ok acc
 | f + 1, s, i, acc =>
  let k := runLen isBlank s
  match s.drop k with
  | [] => .ok acc
  | c :: r =>
   let o := oneM (c :: r)
   if o.e = 0 then toksGo f ((c :: r).drop o.n.toNat) (i + k + o.n.toNat) (acc ++ [{ o.t with pos := ((i + k : Nat) : Int) }]) else .error o.e
def toksFin : Except Int (List Tok) → Except Int (List Tok)
 | .error e => .error e
 | .ok l => if 400 < l.length then .error 3 else .ok l
def tokensM (s : List UInt8) : Except Int (List Tok) := if 1500 < s.length then .error 4 else toksFin (toksGo (s.length + 1) s 0 [])
def toksVal : Except Int (List Tok) → TVal
 | .error e => .tup [.c (.p .nilslice), .c (.p (.int .i64 e))]
 | .ok l => .tup [.c (.p (growP 4 (l.map Tok.row))), .c (.p (.int .i64 0))]
theorem blank_loop (s : List UInt8) (hs : s.length ≤ 1500) (v : Cell) (h : Heap) : ∀ (m i : Nat), s.length - i ≤ m → i ≤ s.length →
  lim tab.get S 54 0 2 [kS s, .v (.c v), kI (i : Int)] h = lim tab.get S 54 0 3 [kS s, .v (.c v), kI ((i + runLen isBlank (s.drop i) : Nat) : Int)] h := by
 intro m
 induction m with
 | zero =>
  intro i hm hl
  have e : decide ((i : Int) < (s.length : Int)) = false := decide_eq_false (by omega)
  rw [w54_2, b54_2, vlen_s, vbin_lss, e]
  simp only [vguard_ft, vpick_f, vif_f]
  rw [List.drop_eq_nil_of_le (by omega)]; rfl
 | succ m ih =>
  intro i hm hl
  by_cases hi : i < s.length
  ·obtain ⟨b, hb⟩ : ∃ b, s[i]? = some b := ⟨s[i]'hi, by simp⟩
   have hd : s.drop i = b :: s.drop (i + 1) := by
    obtain ⟨h1, h2⟩ := List.getElem?_eq_some_iff.1 hb
    rw [List.drop_eq_getElem_cons h1, h2]
   have e : decide ((i : Int) < (s.length : Int)) = true := decide_eq_true (by omega)
   have ew : IntKind.i64.wrap ((i : Int) + 1) = ((i + 1 : Nat) : Int) := by rw [wrap_i64 _ (by omega) (by omega)]; omega
   have e1 : (s.take (i + 1)).drop i = [b] := by rw [List.drop_take, hd]; simp
   rw [w54_2, b54_2, vlen_s, vbin_lss, e]
   simp only [vguard_tt, vbin_add, ew, vslice_lh s i (i + 1) (by omega) (by omega), e1, vpick_t]
   rw [vcall_pure 84 _ _ rfl (blank_ok b) rfl, vif_kB, hd]
   cases hp : isBlank b.toNat with
   | true =>
    rw [if_pos rfl, ih (i + 1) (by omega) (by omega)]
    simp only [runLen, hp, if_true]
    rw [show i + 1 + runLen isBlank (s.drop (i + 1)) = i + (runLen isBlank (s.drop (i + 1)) + 1) by omega]
   | false =>
    rw [if_neg (by decide)]
    simp only [runLen, hp, Bool.false_eq_true, if_false]
    rfl
  ·have e : decide ((i : Int) < (s.length : Int)) = false := decide_eq_false (by omega)
   rw [w54_2, b54_2, vlen_s, vbin_lss, e]
   simp only [vguard_ft, vpick_f, vif_f]
   rw [List.drop_eq_nil_of_le (by omega)]; rfl
theorem tokens_end (acc : List Tok) (v : Cell) (h : Heap) (G : Grow [46] 4 v (acc.map Tok.row) h) : lim tab.get S 54 0 4 [.v (.c v)] h = some (toksVal (toksFin (.ok acc)), []) := by
 rw [w54_4, b54_4, vlen_grow G, vbin_gtr, vif_kB]
 show _ = some (toksVal (if 400 < acc.length then .error 3 else .ok acc), [])
 by_cases h1 : 400 < acc.length
 ·rw [if_pos (decide_eq_true (by simp; omega)), if_pos h1, tcomp_c, tcomp_c, vfin_pure _ _ rfl]; rfl
 ·rw [if_neg (by rw [decide_eq_true_eq]; simp; omega), if_neg h1, tcomp_c, tcomp_c, vfin_grow _ G]; rfl
theorem tokens_loop (s : List UInt8) (hs : s.length ≤ 1500) : ∀ (f i : Nat) (acc : List Tok) (v : Cell) (h : Heap), s.length - i < f → i ≤ s.length → acc.length ≤ i → Grow [46] 4 v (acc.map Tok.row) h →
  lim tab.get S 54 0 1 [kS s, .v (.c v), kI (i : Int)] h = some (toksVal (toksFin (toksGo f (s.drop i) i acc)), []) := by
 intro f
 induction f with
 | zero => intro i acc v h hm; omega
 | succ f ih =>
  intro i acc v h hm hl ha G
  rw [w54_1, b54_1, blank_loop s hs v h _ i (Nat.le_refl _) hl]
  unfold toksGo
  dsimp only
  have hk := runLen_le isBlank (s.drop i)
  simp only [List.length_drop] at hk
  generalize hkk : runLen isBlank (s.drop i) = k at hk
  rw [w54_3, b54_3, vlen_s, vbin_eql, vif_kB, List.drop_drop]
  by_cases he : i + k = s.length
  ·rw [if_pos (decide_eq_true (by omega)), List.drop_eq_nil_of_le (by omega)]
   exact tokens_end acc v h G
  ·rw [if_neg (by rw [decide_eq_true_eq]; omega), vslice_l s (i + k) (by omega)]
   generalize hr : s.drop (i + k) = r
   have hrl : r.length = s.length - (i + k) := by rw [← hr]; simp
   obtain ⟨c, t, hct⟩ : ∃ c t, r = c :: t := by cases r with
    | nil => simp at hrl; omega
    | cons c t => exact ⟨c, t, rfl⟩
   rw [vcall_pure 85 _ _ rfl (one_ok r (by omega) (by omega)) rfl]
   have hb := one_bounds r (by omega)
   rw [hct]
   dsimp only
   rw [← hct]
   generalize hom : oneM r = o at hb
   rw [show o.val = .tup [.agg o.t.cells, .c (.p (.int .i64 o.n)), .c (.p (.int .i64 o.e))] from rfl, vext_tup _ 0 _ rfl, vext_tup _ 1 _ rfl, vext_tup _ 2 _ rfl, valloc]
   rw [vstore_ptr 4 (.own 6 (h.gen 6 + 1)) 0 0 _ (.agg o.t.cells) (Heap.own_get _ _ _ _ (by decide) (fun e => by cases e)) (by decide) rfl (by decide), Heap.put_own, vbin_neq, vif_kB]
   by_cases hoe : o.e = 0
   ·obtain ⟨n, e1, e2, e3⟩ := hb hoe
    clear hb
    have q1 : s.length - (i + k + n) < f := by omega
    have q2 : i + k + n ≤ s.length := by omega
    have q3 : acc.length + 1 ≤ i + k + n := by omega
    have q4 : (acc.length + 1) * 40 ≤ 1099511627776 := by omega
    have q5 : (-9223372036854775808 : Int) ≤ ((i + k : Nat) : Int) + (n : Int) := by omega
    have q6 : ((i + k : Nat) : Int) + (n : Int) ≤ 9223372036854775807 := by omega
    have q7 : (((i + k : Nat) : Int) + (n : Int)) = ((i + k + n : Nat) : Int) := by omega
    rw [if_neg (by simp [hoe]), if_pos hoe, vfaddr_ptr]
    rw [vstore_ptr 1 (.own 6 (h.gen 6 + 1)) (0 + 3) 0 _ (.c (.p (.int .i64 ((i + k : Nat) : Int)))) (Heap.own_get _ _ _ _ (by decide) (fun e => by cases e)) (by decide) rfl (by exact Nat.le_refl 4), Heap.put_own]
    rw [vload_agg 4 (.own 6 (h.gen 6 + 1)) 0 0 _ (Heap.own_get _ _ _ _ (by decide) (fun e => by cases e)) rfl]
    rw [vplan (.bslice 4 1 _ _ false) (kSl 4 true [Tok.row { o.t with pos := ((i + k : Nat) : Int) }]) rfl]
    have G1 := ((G.own (d := 6) (h.gen 6 + 1) (.cells [.p (.int .i64 0), .p (.str []), .p (.int .i64 0), .p (.int .i64 0)] 0) (by decide)).own (d := 6) (h.gen 6 + 1) (.cells (splice [.p (.int .i64 0), .p (.str []), .p (.int .i64 0), .p (.int .i64 0)] 0 (Comp.agg o.t.cells).cells) 0) (by decide)).own (d := 6) (h.gen 6 + 1) (.cells (splice (splice [.p (.int .i64 0), .p (.str []), .p (.int .i64 0), .p (.int .i64 0)] 0 (Comp.agg o.t.cells).cells) (0 + 3) (Comp.c (.p (.int .i64 ((i + k : Nat) : Int)))).cells) 0) (by decide)
    obtain ⟨v', h', G', e', _⟩ := vappend_grow (d := 46) (by' := 40) (new := [Tok.row { o.t with pos := ((i + k : Nat) : Int) }]) true G1 (by decide) (by simp) (by simp [Tok.row]) (by simpa using q4) (by decide)
    refine (e' _ _ _).trans ?_
    rw [e1, vbin_add, wrap_i64 _ q5 q6, q7, Int.toNat_natCast]
    have := ih (i + k + n) (acc ++ [{ o.t with pos := ((i + k : Nat) : Int) }]) v' h' q1 q2 (by simpa using q3) (by simpa using G')
    rw [this, ← hr, List.drop_drop]
   ·rw [if_pos (by simp [hoe]), if_neg hoe, tcomp_c, tcomp_c, vfin_pure _ _ rfl]
    rfl
/-- TOKENS. -/
theorem tokens_ok (s : List UInt8) : Om 54 [kS s] [] = some (toksVal (tokensM s), []) := by
 refine (orc_none rfl).trans ?_
 show lim tab.get S 54 0 0 [kS s] h0 = _
 rw [w54_0, b54_0, vlen_s, vbin_gtr, vif_kB]
 unfold tokensM
 by_cases h1 : 1500 < s.length
 ·rw [if_pos (decide_eq_true (by omega)), if_pos h1, tcomp_c, tcomp_c, vfin_pure _ _ rfl]; rfl
 ·rw [if_neg (by rw [decide_eq_true_eq]; omega), if_neg h1]
  exact tokens_loop s (by omega) (s.length + 1) 0 [] (.p .nilslice) h0 (by omega) (by omega) (by simp) (Grow.nil _ 4 _)
end Go.Proofs.YtnlmlcfipbnpgaaDoor.Ab
