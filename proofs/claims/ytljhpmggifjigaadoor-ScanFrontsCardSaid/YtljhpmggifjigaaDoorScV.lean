/- Words of sources: texts in quotes, names, bounds. Plain laws; no program in sight. -/
import Derived.Test.YtljhpmggifjigaaDoorScU
set_option linter.all false
set_option linter.unusedVariables false
set_option linter.unusedSimpArgs false
set_option maxRecDepth 100000
namespace Go.Proofs.YtljhpmggifjigaaDoor.Ab
open Go Go.AI
/-! ### ScanStrings -/
def escC (c : UInt8) : List UInt8 := if c.toNat = 34 ∨ c.toNat = 92 then [92, c] else if c.toNat = 10 then [92, 110] else if c.toNat = 9 then [92, 116] else if c.toNat < 32 then [] else [c]
def wantC (c : UInt8) : List UInt8 := if c.toNat = 34 ∨ c.toNat = 92 then [c] else if c.toNat = 10 then [c] else if c.toNat = 9 then [c] else if c.toNat < 32 then [] else [c]
def escM (b : List UInt8) : List UInt8 := b.flatMap escC
def wantM (b : List UInt8) : List UInt8 := b.flatMap wantC
theorem escC_len (c : UInt8) : (escC c).length ≤ 2 ∧ (wantC c).length ≤ 1 := by
 unfold escC wantC
 (repeat' split) <;> exact ⟨by simp, by simp⟩
theorem escM_len : ∀ b : List UInt8, (escM b).length ≤ 2 * b.length ∧ (wantM b).length ≤ b.length := by
 intro b
 induction b with
 | nil => exact ⟨Nat.le_refl _, Nat.le_refl _⟩
 | cons c b ih =>
  have h := escC_len c
  simp only [escM, wantM, List.flatMap_cons, List.length_append, List.length_cons] at ih ⊢
  omega
theorem text_two (c d : UInt8) (x : UInt8) (s acc : List UInt8) (i : Nat) (h1 : ¬ c.toNat < 32) (h2 : c.toNat ≠ 34) (h3 : c.toNat = 92) (h : meantM d = some x) : textGo (c :: d :: s) acc i = textGo s (acc ++ [x]) (i + 2) := by
 rw [textGo, if_neg h1, if_neg h2, if_pos h3, h]
theorem text_plain (c d : UInt8) (s acc : List UInt8) (i : Nat) (h1 : ¬ c.toNat < 32) (h2 : c.toNat ≠ 34) (h3 : c.toNat ≠ 92) : textGo (c :: d :: s) acc i = textGo (d :: s) (acc ++ [c]) (i + 1) := by
 rw [textGo, if_neg h1, if_neg h2, if_neg h3]
theorem text_esc (r : List UInt8) : ∀ (b acc : List UInt8) (i : Nat), acc.length + (wantM b).length ≤ 200 → textGo (escM b ++ 34 :: r) acc i = ⟨⟨2, acc ++ wantM b, 0, 0⟩, ((i + (escM b).length + 1 : Nat) : Int), 0⟩ := by
 intro b
 induction b with
 | nil =>
  intro acc i h
  have hl : ¬ 200 < acc.length := by simp [wantM] at h; omega
  show textGo (34 :: r) acc i = _
  cases r with
  | nil => rw [textGo, if_neg (by decide), if_pos (by decide), if_neg hl]; simp [wantM, escM]
  | cons d r => rw [textGo, if_neg (by decide), if_pos (by decide), if_neg hl]; simp [wantM, escM]
 | cons c b ih =>
  intro acc i h
  have hw : wantM (c :: b) = wantC c ++ wantM b := rfl
  have he : escM (c :: b) = escC c ++ escM b := rfl
  rw [hw, List.length_append] at h
  rw [hw, he]
  obtain ⟨e, t, het⟩ : ∃ e t, escM b ++ 34 :: r = e :: t := by
   cases hq : escM b ++ 34 :: r with
   | nil => simp at hq
   | cons e t => exact ⟨e, t, rfl⟩
  unfold escC wantC at *
  by_cases h1 : c.toNat = 34 ∨ c.toNat = 92
  ·rw [if_pos h1] at h
   rw [if_pos h1, if_pos h1]
   have hm : meantM c = some c := by
    unfold meantM
    rw [if_neg (by omega), if_neg (by omega)]
    rcases h1 with h1 | h1
    ·rw [if_pos h1]
    ·rw [if_neg (by omega), if_pos h1]
   show textGo (92 :: c :: (escM b ++ 34 :: r)) acc i = _
   rw [text_two 92 c c _ _ _ (by decide) (by decide) (by decide) hm, ih _ _ (by simp at h ⊢; omega)]
   simp only [List.append_assoc, List.length_append, List.length_cons, List.length_nil, List.cons_append, List.nil_append]
   congr 2; omega
  rw [if_neg h1] at h
  rw [if_neg h1, if_neg h1]
  by_cases h2 : c.toNat = 10
  ·rw [if_pos h2] at h
   rw [if_pos h2, if_pos h2]
   have hc : c = 10 := UInt8.toNat_inj.1 h2
   show textGo (92 :: 110 :: (escM b ++ 34 :: r)) acc i = _
   rw [text_two 92 110 10 _ _ _ (by decide) (by decide) (by decide) (by decide), ih _ _ (by simp at h ⊢; omega), hc]
   simp only [List.append_assoc, List.length_append, List.length_cons, List.length_nil, List.cons_append, List.nil_append]
   congr 2; omega
  rw [if_neg h2] at h
  rw [if_neg h2, if_neg h2]
  by_cases h3 : c.toNat = 9
  ·rw [if_pos h3] at h
   rw [if_pos h3, if_pos h3]
   have hc : c = 9 := UInt8.toNat_inj.1 h3
   show textGo (92 :: 116 :: (escM b ++ 34 :: r)) acc i = _
   rw [text_two 92 116 9 _ _ _ (by decide) (by decide) (by decide) (by decide), ih _ _ (by simp at h ⊢; omega), hc]
   simp only [List.append_assoc, List.length_append, List.length_cons, List.length_nil, List.cons_append, List.nil_append]
   congr 2; omega
  rw [if_neg h3] at h
  rw [if_neg h3, if_neg h3]
  by_cases h4 : c.toNat < 32
  ·rw [if_pos h4] at h
   rw [if_pos h4]
   exact ih acc i (by simpa using h)
  rw [if_neg h4] at h
  rw [if_neg h4]
  show textGo (c :: (escM b ++ 34 :: r)) acc i = _
  have h5 : c.toNat ≠ 34 := fun q => h1 (.inl q)
  have h6 : c.toNat ≠ 92 := fun q => h1 (.inr q)
  rw [het, text_plain c e t acc i h4 h5 h6, ← het, ih _ _ (by simp at h ⊢; omega)]
  simp only [List.append_assoc, List.length_append, List.length_cons, List.length_nil, List.cons_append, List.nil_append]
  congr 2; omega
theorem one_text (t : List UInt8) : oneM (34 :: t) = textGo t [] 1 := by
 have h1 : isLetter (34 : UInt8).toNat = false := rfl
 have h2 : numHead (34 :: t) = false := rfl
 show (if isLetter (34 : UInt8).toNat then wordM (34 :: t) else if numHead (34 :: t) then numberM (34 :: t) else if (34 : UInt8).toNat = 34 then textM (34 :: t) else signM (34 :: t)) = _
 rw [h1, h2, if_neg (by decide), if_neg (by decide), if_pos (by decide)]
 rfl
/-- A TEXT IN QUOTES IS ONE WORD. -/
theorem text_whole (b : List UInt8) (h : (wantM b).length ≤ 200) : Whole (34 :: (escM b ++ [34])) [⟨2, wantM b, 0, 0⟩] := by
 refine Whole.one 34 (escM b ++ [34]) rfl rfl fun s _ => ?_
 rw [List.cons_append, List.append_assoc, one_text]
 show textGo (escM b ++ 34 :: s) [] 1 = _
 rw [text_esc s b [] 1 (by simpa using h)]
 simp only [List.nil_append, List.length_cons, List.length_append, List.length_nil]
 congr 2; omega
theorem whole_nil : Whole [] [] := by intro s _ f i acc; simp
theorem rowT_two (p q g h : List UInt8) (ts : List Tok) (i : Nat) : rowT [⟨[], g, []⟩, ⟨q, h, ts⟩] i = ts.map (·.at (i + g.length)) := by simp [rowT]
theorem strings_toks (b : List UInt8) (h : b.length ≤ 200) : tokensM (32 :: 34 :: (escM b ++ [34, 32])) = .ok [⟨2, wantM b, 0, 1⟩] := by
 have hl := escM_len b
 have hw := text_whole b (by omega)
 have e : (32 :: 34 :: (escM b ++ [34, 32]) : List UInt8) = rowS [⟨[], [32], []⟩, ⟨34 :: (escM b ++ [34]), [32], [⟨2, wantM b, 0, 0⟩]⟩] := by simp [rowS]
 rw [e, tokensM_row]
 ·rfl
 ·exact ⟨whole_nil, by intro b hb; simp at hb; subst hb; rfl, .inr ⟨32, _, rfl, rfl⟩, hw, by intro b hb; simp at hb; subst hb; rfl, .inr ⟨32, _, rfl, rfl⟩, trivial⟩
 ·rw [← e]; simp; omega
 ·show _ + _ ≤ 400; simp [rowN]
/-! ### ScanNames -/
theorem runLen_all (p : Nat → Bool) : ∀ (s r : List UInt8), (∀ b ∈ s, p b.toNat = true) → (∀ b t, r = b :: t → p b.toNat = false) → runLen p (s ++ r) = s.length := by
 intro s r hs hr
 induction s with
 | nil =>
  cases r with
  | nil => rfl
  | cons b t => simp [runLen, hr b t rfl]
 | cons b s ih => simp [runLen, hs b (by simp), ih (fun x hx => hs x (by simp [hx]))]
theorem name_whole (c : UInt8) (s : List UInt8) (hc : isLetter c.toNat = true) (hs : ∀ b ∈ s, isWord b.toNat = true) (hl : s.length ≤ 15) : Whole (c :: s) [⟨1, c :: s, 0, 0⟩] := by
 have hb : isBlank c.toNat = false := by
  cases h : isBlank c.toNat with
  | false => rfl
  | true => rcases blank_cases h with rfl | rfl | rfl | rfl <;> exact absurd hc (by decide)
 have hw : ∀ b ∈ c :: s, isWord b.toNat = true := by
  intro b hb
  rcases List.mem_cons.1 hb with rfl | hb
  ·simp [isWord, hc]
  ·exact hs b hb
 refine Whole.one c s rfl hb fun r hr => ?_
 have hrl : runLen isWord ((c :: s) ++ r) = (c :: s).length := by
  refine runLen_all isWord (c :: s) r hw fun b t e => ?_
  rcases hr with rfl | ⟨b', t', rfl, hb'⟩
  ·cases e
  ·cases e
   rcases blank_cases hb' with rfl | rfl | rfl | rfl <;> rfl
 show (if isLetter c.toNat then wordM ((c :: s) ++ r) else _) = _
 rw [if_pos hc]
 unfold wordM
 rw [hrl, if_neg (by simp; omega), List.take_left]
theorem names_toks (c : UInt8) (s : List UInt8) (hc : isLetter c.toNat = true) (hs : ∀ b ∈ s, isWord b.toNat = true) (hl : s.length ≤ 15) :
  tokensM (c :: s) = .ok [⟨1, c :: s, 0, 0⟩] ∧ tokensM (52 :: 32 :: c :: s) = .ok [⟨3, [], 4, 0⟩, ⟨1, c :: s, 0, 2⟩] := by
 have hw := name_whole c s hc hs hl
 have h4 : Whole [52] [⟨3, [], 4, 0⟩] := whole_of 52 [] rfl rfl rfl fun r => ⟨rfl, rfl, rfl, rfl⟩
 constructor
 ·have e : (c :: s) = rowS [⟨c :: s, [], [⟨1, c :: s, 0, 0⟩]⟩] := by simp [rowS]
  rw [e, tokensM_row]
  ·simp [rowT, Tok.at, rowS]
  ·exact ⟨hw, by simp, .inl rfl, trivial⟩
  ·rw [← e]; simp; omega
  ·simp [rowN]
 ·have e : (52 :: 32 :: c :: s) = rowS [⟨[52], [32], [⟨3, [], 4, 0⟩]⟩, ⟨c :: s, [], [⟨1, c :: s, 0, 0⟩]⟩] := by simp [rowS]
  rw [e, tokensM_row]
  ·simp [rowT, Tok.at]
  ·exact ⟨h4, by intro b hb; simp at hb; subst hb; rfl, .inr ⟨32, _, rfl, rfl⟩, hw, by simp, .inl rfl, trivial⟩
  ·rw [← e]; simp; omega
  ·simp [rowN]
def identM (s : List UInt8) : Bool := match s with
 | [] => false
 | c :: _ => decide (s.length ≤ 16) && !isDigit c.toNat && decide (runLen isWord s = s.length)
/-! ### ScanBounds -/
theorem bounds_blank (m : Nat) (h : m ≤ 1500) : tokensM (List.replicate m 32) = .ok [] := by
 unfold tokensM
 rw [if_neg (by simp; omega)]
 have e : List.replicate m (32 : UInt8) = List.replicate m 32 ++ [] := by simp
 rw [e, List.length_append, toks_blanks _ _ (by intro b hb; rw [List.mem_replicate] at hb; rw [hb.2]; rfl), toks_nil]
 rfl
theorem bounds_long (s : List UInt8) (h : 1500 < s.length) : tokensM s = .error 4 := by unfold tokensM; rw [if_pos h]
theorem run_rep (m : Nat) : runLen isWord (List.replicate m 113) = m := by
 induction m with
 | zero => rfl
 | succ m ih => rw [List.replicate_succ]; simp only [runLen]; rw [if_pos (by decide), ih]
theorem bounds_name (m : Nat) (h0 : 0 < m) (h : m ≤ 1500) : tokensM (List.replicate m 113) = if 16 < m then .error 4 else .ok [⟨1, List.replicate m 113, 0, 0⟩] := by
 obtain ⟨n, rfl⟩ : ∃ n, m = n + 1 := ⟨m - 1, by omega⟩
 by_cases hm : 16 < n + 1
 ·rw [if_pos hm]
  unfold tokensM
  rw [if_neg (by simp; omega), List.replicate_succ]
  have hk : runLen isBlank (113 :: List.replicate n 113) = 0 := rfl
  rw [toksGo]
  simp only [hk, List.drop_zero]
  have : oneM (113 :: List.replicate n 113) = bad 4 := by
   show (if isLetter (113 : UInt8).toNat then wordM (113 :: List.replicate n 113) else if numHead (113 :: List.replicate n 113) then numberM (113 :: List.replicate n 113) else if (113 : UInt8).toNat = 34 then textM (113 :: List.replicate n 113) else signM (113 :: List.replicate n 113)) = _
   rw [if_pos (by decide)]
   unfold wordM
   rw [show (113 :: List.replicate n 113 : List UInt8) = List.replicate (n + 1) 113 from rfl, run_rep, if_pos hm]
  rw [this, if_neg (by decide)]
  rfl
 ·rw [if_neg hm, List.replicate_succ]
  exact (names_toks 113 (List.replicate n 113) rfl (by intro b hb; rw [List.mem_replicate] at hb; rw [hb.2]; rfl) (by simp; omega)).1
theorem merge_rep (n : Nat) : mergeM (List.replicate n [44]) = List.replicate n [44] := by
 induction n with
 | zero => rfl
 | succ n ih =>
  cases n with
  | zero => rfl
  | succ n =>
   rw [List.replicate_succ, List.replicate_succ]
   show mergeM ([44] :: [44] :: List.replicate n [44]) = _
   rw [mergeM, if_neg (by decide)]
   rw [← List.replicate_succ, ih]
theorem place_len : ∀ (l : List (List UInt8)) (i : Nat), (placeM l i).length = l.length := by
 intro l
 induction l with
 | nil => intro i; rfl
 | cons x l ih => intro i; simp [placeM, ih]
theorem flat_rep (m : Nat) (c : UInt8) : (List.replicate m [c]).flatten = List.replicate m c := by
 induction m with
 | zero => rfl
 | succ m ih => rw [List.replicate_succ, List.flatten_cons, ih]; rfl
theorem bounds_comma (m : Nat) (h : m ≤ 1500) : (400 < m → tokensM (List.replicate m 44) = .error 3) ∧ (m ≤ 400 → ∃ l, tokensM (List.replicate m 44) = .ok l) := by
 have e : toksGo ((List.replicate m (44 : UInt8)).length + 1) (List.replicate m 44) 0 [] = .ok (placeM (List.replicate m [44]) 0) := by
  have := toks_signs m (List.replicate m [44]) (by simp) (by intro x hx; rw [List.mem_replicate] at hx; rw [hx.2]; decide) ((List.replicate m (44 : UInt8)).length + 1) 0 [] (by rw [flat_rep]; omega)
  rw [flat_rep, merge_rep, List.nil_append] at this
  exact this
 unfold tokensM
 rw [if_neg (by simp; omega), e]
 have hl : (placeM (List.replicate m [44]) 0).length = m := by rw [place_len]; simp
 constructor
 ·intro hm
  show toksFin (.ok _) = _
  unfold toksFin
  dsimp only
  rw [if_pos (by omega)]
 ·intro hm
  refine ⟨placeM (List.replicate m [44]) 0, ?_⟩
  ·show toksFin (.ok _) = _
   unfold toksFin
   dsimp only
   rw [if_neg (by omega)]
theorem esc_rep (m : Nat) : escM (List.replicate m 122) = List.replicate m 122 ∧ wantM (List.replicate m 122) = List.replicate m 122 := by
 induction m with
 | zero => exact ⟨rfl, rfl⟩
 | succ m ih =>
  rw [List.replicate_succ]
  show escC 122 ++ escM _ = _ ∧ wantC 122 ++ wantM _ = _
  rw [ih.1, ih.2]
  exact ⟨rfl, rfl⟩
theorem text_long : ∀ (m : Nat) (acc : List UInt8) (i : Nat), 200 < acc.length + m → textGo (List.replicate m 122 ++ [34]) acc i = bad 4 := by
 intro m
 induction m with
 | zero =>
  intro acc i h
  show textGo [34] acc i = _
  rw [textGo, if_neg (by decide), if_pos (by decide), if_pos (by omega)]
 | succ m ih =>
  intro acc i h
  rw [List.replicate_succ]
  obtain ⟨e, t, het⟩ : ∃ e t, List.replicate m (122 : UInt8) ++ [34] = e :: t := by
   cases hq : List.replicate m (122 : UInt8) ++ [34] with
   | nil => simp at hq
   | cons e t => exact ⟨e, t, rfl⟩
  show textGo (122 :: (List.replicate m 122 ++ [34])) acc i = _
  rw [het, text_plain 122 e t acc i (by decide) (by decide) (by decide), ← het]
  exact ih _ _ (by simp; omega)
theorem bounds_text (m : Nat) (h : m ≤ 1000) : (200 < m → tokensM (34 :: (List.replicate m 122 ++ [34])) = .error 4) ∧ (m ≤ 200 → ∃ l, tokensM (34 :: (List.replicate m 122 ++ [34])) = .ok l) := by
 constructor
 ·intro hm
  unfold tokensM
  rw [if_neg (by simp; omega)]
  have hk : runLen isBlank (34 :: (List.replicate m 122 ++ [34])) = 0 := rfl
  rw [toksGo]
  simp only [hk, List.drop_zero]
  rw [one_text, text_long m [] 1 (by simpa using hm), if_neg (by decide)]
  rfl
 ·intro hm
  have hw := text_whole (List.replicate m 122) (by rw [(esc_rep m).2]; simpa using hm)
  rw [(esc_rep m).1] at hw
  have e : (34 :: (List.replicate m 122 ++ [34]) : List UInt8) = rowS [⟨34 :: (List.replicate m 122 ++ [34]), [], [⟨2, wantM (List.replicate m 122), 0, 0⟩]⟩] := by simp [rowS]
  refine ⟨rowT [⟨34 :: (List.replicate m 122 ++ [34]), [], [⟨2, wantM (List.replicate m 122), 0, 0⟩]⟩] 0, ?_⟩
  ·rw [e]
   refine tokensM_row _ ⟨hw, by simp, .inl rfl, trivial⟩ (by rw [← e]; simp; omega) (by simp [rowN])
end Go.Proofs.YtljhpmggifjigaaDoor.Ab
