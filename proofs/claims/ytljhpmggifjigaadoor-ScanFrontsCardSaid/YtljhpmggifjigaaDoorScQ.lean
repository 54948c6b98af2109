/- ScanSigns: the plain law of signs set side by side. -/
import Derived.Test.YtljhpmggifjigaaDoorScE
set_option linter.all false
set_option linter.unusedVariables false
set_option linter.unusedSimpArgs false
set_option maxRecDepth 100000
namespace Go.Proofs.YtljhpmggifjigaaDoor.Ab
open Go Go.AI
def signsM : List (List UInt8) := [[45, 62], [58, 61], [123], [125], [60], [62], [44], [58], [40], [41], [46], [36], [124], [61], [59]]
/-- What can be read as single signs: a colon and an equals sign side by side are one. -/
def mergeM : List (List UInt8) → List (List UInt8)
 | [] => []
 | [a] => [a]
 | a :: b :: r => if a = [58] ∧ b = [61] then [58, 61] :: mergeM r else a :: mergeM (b :: r)
def placeM : List (List UInt8) → Nat → List Tok
 | [], _ => []
 | x :: r, i => ⟨4, x, 0, (i : Nat)⟩ :: placeM r (i + x.length)
theorem one_two (a b : UInt8) (s : List UInt8) (h : [a, b] = two1 ∨ [a, b] = two2) : oneM (a :: b :: s) = ⟨⟨4, [a, b], 0, 0⟩, 2, 0⟩ := by
 rcases h with h | h <;> (simp only [two1, two2, List.cons.injEq, and_true] at h; obtain ⟨rfl, rfl⟩ := h; rfl)
theorem one_single (c : UInt8) (s : List UInt8) (h : [c] ∈ signsM) (h58 : c = 58 → s.head? ≠ some 61) : oneM (c :: s) = ⟨⟨4, [c], 0, 0⟩, 1, 0⟩ := by
 simp only [signsM, List.mem_cons, List.cons.injEq, and_true, List.not_mem_nil, or_false] at h
 have e : ∀ (s : List UInt8), (c ≠ 45) → (c = 58 → s.head? ≠ some 61) → ¬ (c :: s).take 2 = two1 ∧ ¬ (c :: s).take 2 = two2 := by
  intro s h1 h2
  constructor
  ·intro h; cases s with
   | nil => simp [two1] at h
   | cons d s => simp [two1] at h; exact h1 h.1
  ·intro h; cases s with
   | nil => simp [two2] at h
   | cons d s => simp [two2] at h; exact h2 h.1 (by simp [h.2])
 have h45 : c ≠ 45 := by rintro rfl; simp at h
 obtain ⟨e1, e2⟩ := e s h45 h58
 have hs : signM (c :: s) = ⟨⟨4, [c], 0, 0⟩, 1, 0⟩ := by
  unfold signM
  rw [if_neg e1, if_neg e2]
  have : isSingle c.toNat = true := by
   rcases h with h | h | h | h | h | h | h | h | h | h | h | h | h | h | h <;> first | (subst h; rfl) | exact absurd h.2 (by simp)
  simp only [this, if_true]
 have hl : isLetter c.toNat = false ∧ numHead (c :: s) = false ∧ c.toNat ≠ 34 := by
  rcases h with h | h | h | h | h | h | h | h | h | h | h | h | h | h | h <;> first | (subst h; exact ⟨rfl, rfl, by decide⟩) | exact absurd h.2 (by simp)
 show (if isLetter c.toNat then _ else if numHead (c :: s) then _ else if c.toNat = 34 then _ else signM (c :: s)) = _
 rw [hl.1, hl.2.1, if_neg (by decide), if_neg (by decide), if_neg hl.2.2, hs]
theorem head_sign (x : List UInt8) (hx : x ∈ signsM) (s : List UInt8) : ∃ c r, x ++ s = c :: r ∧ isBlank c.toNat = false ∧ (c = 61 → x = [61]) := by
 simp only [signsM, List.mem_cons, List.not_mem_nil, or_false] at hx
 rcases hx with h | h | h | h | h | h | h | h | h | h | h | h | h | h | h <;> (subst h; exact ⟨_, _, rfl, rfl, fun e => by first | rfl | (exact absurd e (by decide))⟩)
theorem toks_step (f : Nat) (c : UInt8) (r : List UInt8) (hb : isBlank c.toNat = false) (x : List UInt8) (n : Nat) (ho : oneM (c :: r) = ⟨⟨4, x, 0, 0⟩, (n : Nat), 0⟩) (i : Nat) (acc : List Tok) :
  toksGo (f + 1) (c :: r) i acc = toksGo f ((c :: r).drop n) (i + n) (acc ++ [⟨4, x, 0, (i : Nat)⟩]) := by
 have hk : runLen isBlank (c :: r) = 0 := by simp [runLen, hb]
 rw [toksGo]
 simp only [hk, List.drop_zero, ho, Nat.add_zero, if_true, Int.toNat_natCast]
theorem toks_signs : ∀ (n : Nat) (l : List (List UInt8)), l.length ≤ n → (∀ x ∈ l, x ∈ signsM) → ∀ (f i : Nat) (acc : List Tok), l.flatten.length < f →
  toksGo f l.flatten i acc = .ok (acc ++ placeM (mergeM l) i) := by
 intro n
 induction n with
 | zero =>
  intro l hn _ f i acc hf
  obtain rfl : l = [] := List.length_eq_zero_iff.1 (by omega)
  cases f with
  | zero => omega
  | succ f => simp [toksGo, mergeM, placeM, runLen]
 | succ n ih =>
  intro l hn hl f i acc hf
  obtain ⟨f, rfl⟩ : ∃ g, f = g + 1 := ⟨f - 1, by omega⟩
  match l, hn, hl, hf with
  | [], _, _, _ => simp [toksGo, mergeM, placeM, runLen]
  | x :: r, hn, hl, hf =>
   have hr : ∀ y ∈ r, y ∈ signsM := fun y hy => hl y (by simp [hy])
   by_cases hm : x = [58] ∧ ∃ r', r = [61] :: r'
   ·obtain ⟨rfl, r', rfl⟩ := hm
    have e := toks_step f 58 (61 :: r'.flatten) rfl [58, 61] 2 (one_two 58 61 r'.flatten (Or.inr rfl)) i acc
    have e2 : ([58] :: [61] :: r').flatten = 58 :: 61 :: r'.flatten := by simp
    rw [e2] at hf ⊢
    rw [e]
    show toksGo f r'.flatten _ _ = _
    rw [ih r' (by simp at hn; omega) (fun y hy => hr y (by simp [hy])) f (i + 2) _ (by simp only [List.length_cons] at hf; omega)]
    rw [show mergeM ([58] :: [61] :: r') = [58, 61] :: mergeM r' by simp [mergeM]]
    simp [placeM]
   ·have hme : mergeM (x :: r) = x :: mergeM r := by
     cases r with
     | nil => simp [mergeM]
     | cons y r' =>
      rw [mergeM, if_neg]
      rintro ⟨h1, h2⟩
      exact hm ⟨h1, r', by rw [h2]⟩
    obtain ⟨c, t, hct, hbl, _⟩ := head_sign x (hl x (by simp)) r.flatten
    have ho : oneM (c :: t) = ⟨⟨4, x, 0, 0⟩, (x.length : Nat), 0⟩ := by
     have hx := hl x (by simp)
     have single : ∀ d : UInt8, x = [d] → oneM (c :: t) = ⟨⟨4, x, 0, 0⟩, (x.length : Nat), 0⟩ := by
      intro d hd
      subst hd
      have hct' : d :: r.flatten = c :: t := hct
      rw [← hct']
      refine one_single d r.flatten hx ?_
      intro h58 h61
      cases r with
      | nil => simp at h61
      | cons y r' =>
       obtain ⟨c', t', hc', _, h3⟩ := head_sign y (hr y (by simp)) r'.flatten
       have : (y :: r').flatten = c' :: t' := by simpa using hc'
       rw [this] at h61
       have h4 : c' = 61 := by simpa using h61
       exact hm ⟨by rw [h58], r', by rw [h3 h4]⟩
     have hx2 := hx
     simp only [signsM, List.mem_cons, List.not_mem_nil, or_false] at hx2
     rcases hx2 with h | h | h | h | h | h | h | h | h | h | h | h | h | h | h
     ·subst h; rw [← hct]; exact one_two 45 62 r.flatten (Or.inl rfl)
     ·subst h; rw [← hct]; exact one_two 58 61 r.flatten (Or.inr rfl)
     all_goals exact single _ h
    have hfl : (x :: r).flatten = c :: t := by simpa using hct
    rw [hfl, toks_step f c t hbl x x.length ho i acc, ← hct, List.drop_left]
    have hx0 : 0 < x.length := by
     have hx := hl x (by simp)
     simp only [signsM, List.mem_cons, List.not_mem_nil, or_false] at hx
     rcases hx with h | h | h | h | h | h | h | h | h | h | h | h | h | h | h <;> (subst h; decide)
    rw [ih r (by simp at hn; omega) hr f (i + x.length) _ (by rw [List.flatten_cons, List.length_append] at hf; omega), hme]
    simp [placeM]
end Go.Proofs.YtljhpmggifjigaaDoor.Ab
