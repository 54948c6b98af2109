/- Words of sources: rows of words with blanks between. Plain laws; no program in sight. -/
import Derived.Test.YtljhpmggifjigaaDoorScT
set_option linter.all false
set_option linter.unusedVariables false
set_option linter.unusedSimpArgs false
set_option maxRecDepth 100000
namespace Go.Proofs.YtljhpmggifjigaaDoor.Ab
open Go Go.AI
/-- A text of words, the blanks behind it, its words. -/
structure Seg where
 p : List UInt8
 g : List UInt8
 ts : List Tok
def rowS : List Seg → List UInt8
 | [] => []
 | x :: r => x.p ++ (x.g ++ rowS r)
def rowT : List Seg → Nat → List Tok
 | [], _ => []
 | x :: r, i => x.ts.map (·.at i) ++ rowT r (i + x.p.length + x.g.length)
def RowOk : List Seg → Prop
 | [] => True
 | x :: r => Whole x.p x.ts ∧ (∀ b ∈ x.g, isBlank b.toNat = true) ∧ Sep (x.g ++ rowS r) ∧ RowOk r
def rowN : List Seg → Nat
 | [] => 0
 | x :: r => x.ts.length + rowN r
theorem rowT_len : ∀ (l : List Seg) (i : Nat), (rowT l i).length = rowN l := by
 intro l
 induction l with
 | nil => intro i; rfl
 | cons x r ih => intro i; simp [rowT, rowN, ih]
theorem toks_row : ∀ (l : List Seg), RowOk l → ∀ (f i : Nat) (acc : List Tok), rowN l < f → toksGo f (rowS l) i acc = .ok (acc ++ rowT l i) := by
 intro l
 induction l with
 | nil => intro _ f i acc _; rw [rowS, toks_nil]; simp [rowT]
 | cons x r ih =>
  intro ⟨h1, h2, h3, h4⟩ f i acc hf
  rw [rowN] at hf
  obtain ⟨g, rfl⟩ : ∃ g, f = g + 1 + x.ts.length := ⟨f - x.ts.length - 1, by omega⟩
  rw [rowS, h1 _ h3, toks_blanks g x.g h2, ih h4 (g + 1) _ _ (by omega), rowT, List.append_assoc]
theorem rowS_append : ∀ (a b : List Seg), rowS (a ++ b) = rowS a ++ rowS b := by
 intro a b
 induction a with
 | nil => rfl
 | cons x r ih => simp [rowS, ih]
theorem rowN_append : ∀ (a b : List Seg), rowN (a ++ b) = rowN a + rowN b := by
 intro a b
 induction a with
 | nil => simp [rowN]
 | cons x r ih => simp only [List.cons_append, rowN, ih]; omega
theorem rowT_append : ∀ (a b : List Seg) (i : Nat), rowT (a ++ b) i = rowT a i ++ rowT b (i + (rowS a).length) := by
 intro a b
 induction a with
 | nil => intro i; simp [rowS, rowT]
 | cons x r ih => intro i; simp only [List.cons_append, rowT, ih, List.append_assoc, rowS, List.length_append]; congr 3; omega
theorem tokensM_row (l : List Seg) (h : RowOk l) (hl : (rowS l).length ≤ 1500) (hn : rowN l ≤ 400) : tokensM (rowS l) = .ok (rowT l 0) := by
 have hk : rowN l ≤ (rowS l).length := by
  have : ∀ (l : List Seg), RowOk l → rowN l ≤ (rowS l).length := by
   intro l
   induction l with
   | nil => intro _; exact Nat.le_refl _
   | cons x r ih =>
    intro ⟨h1, _, h3, h4⟩
    have h5 := ih h4
    have : x.ts.length ≤ x.p.length := by
     rcases Nat.lt_or_ge x.p.length x.ts.length with q | q
     ·exfalso
      have e := h1.len 1 0 []
      have gen : ∀ (f : Nat) (s : List UInt8) (i : Nat) (acc l : List Tok), toksGo f s i acc = .ok l → l.length ≤ acc.length + s.length := by
       intro f
       induction f with
       | zero => intro s i acc l h; simp only [toksGo, Except.ok.injEq] at h; subst h; omega
       | succ f ih2 =>
        intro s i acc l h
        rw [toksGo] at h
        dsimp only at h
        split at h
        ·simp only [Except.ok.injEq] at h; subst h; omega
        ·rename_i c r hd
         split at h
         ·rename_i he
          have hb := one_bounds (c :: r) (by simp) he
          obtain ⟨n, e1, e2, e3⟩ := hb
          have := ih2 _ _ _ _ h
          simp only [e1, Int.toNat_natCast, List.length_append, List.length_drop, List.length_cons, List.length_nil] at this
          have h6 := congrArg List.length hd
          simp only [List.length_drop, List.length_cons] at h6
          simp only [List.length_cons] at e3
          omega
         ·cases h
      have := gen _ _ _ _ _ e
      simp at this
      omega
     ·exact q
    simp only [rowN, rowS, List.length_append]
    omega
  exact this l h
 unfold tokensM
 rw [if_neg (by omega), toks_row l h _ 0 [] (by omega)]
 show toksFin (.ok _) = _
 unfold toksFin
 dsimp only
 rw [List.nil_append, if_neg (by rw [rowT_len]; omega)]
/-- ScanFronts's pieces, a blank behind each. -/
def frontM : List Seg := [⟨[97], [32], [⟨1, [97], 0, 0⟩]⟩, ⟨[98, 57], [32], [⟨1, [98, 57], 0, 0⟩]⟩, ⟨[55], [32], [⟨3, [], 7, 0⟩]⟩, ⟨[45, 55], [32], [⟨3, [], -7, 0⟩]⟩, ⟨[34, 120, 32, 121, 34], [32], [⟨2, [120, 32, 121], 0, 0⟩]⟩, ⟨[45, 62], [32], [⟨4, [45, 62], 0, 0⟩]⟩, ⟨[46], [32], [⟨4, [46], 0, 0⟩]⟩, ⟨[36], [32], [⟨4, [36], 0, 0⟩]⟩, ⟨[123], [32], [⟨4, [123], 0, 0⟩]⟩]
theorem frontM_whole : ∀ x ∈ frontM, Whole x.p x.ts ∧ x.g = [32] ∧ x.ts.length = 1 ∧ x.p.length ≤ 5 := by
 intro x hx
 simp only [frontM, List.mem_cons, List.not_mem_nil, or_false] at hx
 rcases hx with h | h | h | h | h | h | h | h | h <;> subst h
 ·exact ⟨whole_a, rfl, rfl, by decide⟩
 ·exact ⟨whole_b9, rfl, rfl, by decide⟩
 ·exact ⟨whole_7, rfl, rfl, by decide⟩
 ·exact ⟨whole_m7, rfl, rfl, by decide⟩
 ·exact ⟨whole_xy, rfl, rfl, by decide⟩
 ·exact ⟨whole_arrow, rfl, rfl, by decide⟩
 ·exact ⟨whole_dot, rfl, rfl, by decide⟩
 ·exact ⟨whole_dollar, rfl, rfl, by decide⟩
 ·exact ⟨whole_brace, rfl, rfl, by decide⟩
theorem front_row : ∀ (l : List Seg), (∀ x ∈ l, x ∈ frontM) → RowOk l ∧ rowN l = l.length ∧ (rowS l).length ≤ 6 * l.length := by
 intro l
 induction l with
 | nil => intro _; exact ⟨trivial, rfl, Nat.le_refl _⟩
 | cons x r ih =>
  intro h
  obtain ⟨a, b, c⟩ := ih (fun y hy => h y (by simp [hy]))
  obtain ⟨h1, h2, h3, h4⟩ := frontM_whole x (h x (by simp))
  refine ⟨⟨h1, ?_, ?_, a⟩, ?_, ?_⟩
  ·rw [h2]; intro b hb; simp at hb; subst hb; rfl
  ·rw [h2]; exact .inr ⟨32, rowS r, rfl, rfl⟩
  ·simp only [rowN, h3, b, List.length_cons]; omega
  ·simp only [rowS, h2, List.length_append, List.length_cons, List.length_nil]; omega
/-- THE WORDS OF A FRONT. -/
theorem front_toks (l : List Seg) (h : ∀ x ∈ l, x ∈ frontM) (hl : l.length ≤ 30) : tokensM (rowS l) = .ok (rowT l 0) ∧ (rowT l 0).length = l.length := by
 obtain ⟨a, b, c⟩ := front_row l h
 exact ⟨tokensM_row l a (by omega) (by omega), by rw [rowT_len, b]⟩
/-! ### ScanFirst -/
def aheadM : List (List UInt8) := [[97, 32], [49, 32], [34, 113, 34, 32], [46, 32], [45, 62, 32]]
def badM : List (List UInt8) := [[35], [97, 98, 99, 100, 101, 102, 103, 104, 105, 106, 107, 108, 109, 110, 111, 112, 113, 114], [34, 92, 113, 34], [57, 57, 57, 57, 57, 57, 57, 57, 57, 57, 57, 57, 57, 57, 57, 57, 57, 57, 57, 57], [57, 50, 50, 51, 51, 55, 50, 48, 51, 54, 56, 53, 52, 55, 55, 53, 56, 48, 56]]
def errM : List Int := [11, 4, 11, 4, 11]
theorem bad_one (r : List UInt8) (f i : Nat) (acc : List Tok) (a : Nat) (b : List UInt8) (e : Int) (hb : badM[a]? = some b) (he : errM[a]? = some e) : toksGo (f + 1) (b ++ 32 :: r) i acc = .error e := by
 match a, hb, he with
 | 0, hb, he => simp only [badM, errM, List.getElem?_cons_zero, Option.some.injEq] at hb he; subst hb he; rfl
 | 1, hb, he => simp only [badM, errM, List.getElem?_cons_succ, List.getElem?_cons_zero, Option.some.injEq] at hb he; subst hb he; rfl
 | 2, hb, he => simp only [badM, errM, List.getElem?_cons_succ, List.getElem?_cons_zero, Option.some.injEq] at hb he; subst hb he; rfl
 | 3, hb, he => simp only [badM, errM, List.getElem?_cons_succ, List.getElem?_cons_zero, Option.some.injEq] at hb he; subst hb he; rfl
 | 4, hb, he => simp only [badM, errM, List.getElem?_cons_succ, List.getElem?_cons_zero, Option.some.injEq] at hb he; subst hb he; rfl
 | n + 5, hb, he => simp [badM] at hb
theorem ahead_step (x : List UInt8) (hx : x ∈ aheadM) (c : UInt8) (s : List UInt8) (f i : Nat) (acc : List Tok) : ∃ acc', toksGo (f + 2) (x ++ (c :: s)) i acc = toksGo (f + 1) (c :: s) (i + x.length) acc' := by
 simp only [aheadM, List.mem_cons, List.not_mem_nil, or_false] at hx
 have go : ∀ (p : List UInt8) (t : Tok), Whole p [t] → x = p ++ [32] → ∃ acc', toksGo (f + 2) (x ++ (c :: s)) i acc = toksGo (f + 1) (c :: s) (i + x.length) acc' := by
  intro p t hw hp
  refine ⟨acc ++ [t].map (·.at i), ?_⟩
  rw [hp, List.append_assoc]
  have := hw ([32] ++ c :: s) (.inr ⟨32, c :: s, rfl, rfl⟩) (f + 1) i acc
  refine this.trans ?_
  rw [show ([32] ++ c :: s : List UInt8) = 32 :: (c :: s) from rfl, toks_blank f 32 rfl, List.length_append]
  rfl
 rcases hx with h | h | h | h | h
 ·exact go [97] _ whole_a h
 ·exact go [49] _ whole_1 h
 ·exact go [34, 113, 34] _ whole_q h
 ·exact go [46] _ whole_dot h
 ·exact go [45, 62] _ whole_arrow h
theorem first_go (b r : List UInt8) (e : Int) (a : Nat) (hb : badM[a]? = some b) (he : errM[a]? = some e) : ∀ (l : List (List UInt8)), (∀ x ∈ l, x ∈ aheadM) → ∀ (f i : Nat) (acc : List Tok), l.length < f → toksGo f (l.flatten ++ (b ++ 32 :: r)) i acc = .error e := by
 intro l
 induction l with
 | nil =>
  intro _ f i acc hf
  obtain ⟨g, rfl⟩ : ∃ g, f = g + 1 := ⟨f - 1, by simp at hf; omega⟩
  exact bad_one r g i acc a b e hb he
 | cons x l ih =>
  intro h f i acc hf
  obtain ⟨g, rfl⟩ : ∃ g, f = g + 2 := ⟨f - 2, by simp at hf; omega⟩
  rw [List.flatten_cons, List.append_assoc]
  obtain ⟨c, s, hcs⟩ : ∃ c s, l.flatten ++ (b ++ 32 :: r) = c :: s := by
   cases hq : l.flatten ++ (b ++ 32 :: r) with
   | nil => simp at hq
   | cons c s => exact ⟨c, s, rfl⟩
  rw [hcs]
  obtain ⟨acc', e1⟩ := ahead_step x (h x (by simp)) c s g i acc
  rw [e1, ← hcs]
  exact ih (fun y hy => h y (by simp [hy])) (g + 1) _ _ (by simp at hf; omega)
/-- THE FIRST WORD THAT IS NONE IS TOLD. -/
theorem first_toks (l : List (List UInt8)) (h : ∀ x ∈ l, x ∈ aheadM) (hl : l.length ≤ 20) (a b : Nat) (x y : List UInt8) (e : Int) (hx : badM[a]? = some x) (he : errM[a]? = some e) (hy : badM[b]? = some y) : tokensM (l.flatten ++ (x ++ 32 :: y)) = .error e := by
 have h1 : ∀ (l : List (List UInt8)), (∀ x ∈ l, x ∈ aheadM) → l.flatten.length ≤ 4 * l.length := by
  intro l
  induction l with
  | nil => intro _; exact Nat.le_refl _
  | cons x l ih =>
   intro h
   have h2 := ih (fun y hy => h y (by simp [hy]))
   have : x.length ≤ 4 := by
    have := h x (by simp)
    simp only [aheadM, List.mem_cons, List.not_mem_nil, or_false] at this
    rcases this with h | h | h | h | h <;> (subst h; decide)
   rw [List.flatten_cons, List.length_append, List.length_cons]
   omega
 have h2 : ∀ (a : Nat) (x : List UInt8), badM[a]? = some x → x.length ≤ 20 := by
  intro a x hx
  have : x ∈ badM := List.mem_of_getElem? hx
  simp only [badM, List.mem_cons, List.not_mem_nil, or_false] at this
  rcases this with h | h | h | h | h <;> (subst h; decide)
 have h3 := h1 l h
 have h4 := h2 a x hx
 have h5 := h2 b y hy
 unfold tokensM
 have hlen : (l.flatten ++ (x ++ 32 :: y)).length ≤ 130 := by simp only [List.length_append, List.length_cons]; omega
 have hlen2 : l.length ≤ (l.flatten ++ (x ++ 32 :: y)).length := by
  have : ∀ (l : List (List UInt8)), (∀ x ∈ l, x ∈ aheadM) → l.length ≤ l.flatten.length := by
   intro l
   induction l with
   | nil => intro _; exact Nat.le_refl _
   | cons x l ih =>
    intro h
    have h2 := ih (fun y hy => h y (by simp [hy]))
    have : 1 ≤ x.length := by
     have := h x (by simp)
     simp only [aheadM, List.mem_cons, List.not_mem_nil, or_false] at this
     rcases this with h | h | h | h | h <;> (subst h; decide)
    rw [List.flatten_cons, List.length_append, List.length_cons]
    omega
  have := this l h
  simp only [List.length_append, List.length_cons]; omega
 rw [if_neg (by omega), first_go x y e a hx he l h _ 0 [] (by omega)]
 rfl
end Go.Proofs.YtljhpmggifjigaaDoor.Ab
