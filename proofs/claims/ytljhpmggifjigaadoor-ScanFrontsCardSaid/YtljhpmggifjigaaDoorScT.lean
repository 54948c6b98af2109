/- Words of sources: what rows of words, one behind the other, come to. Plain laws; no program in sight. -/
import Derived.Test.YtljhpmggifjigaaDoorScR
set_option linter.all false
set_option linter.unusedVariables false
set_option linter.unusedSimpArgs false
set_option maxRecDepth 100000
namespace Go.Proofs.YtljhpmggifjigaaDoor.Ab
open Go Go.AI
theorem toks_blank (f : Nat) (b : UInt8) (hb : isBlank b.toNat = true) (s : List UInt8) (i : Nat) (acc : List Tok) : toksGo (f + 1) (b :: s) i acc = toksGo (f + 1) s (i + 1) acc := by
 have e : runLen isBlank (b :: s) = runLen isBlank s + 1 := by simp [runLen, hb]
 unfold toksGo
 simp only [e, List.drop_succ_cons, show i + (runLen isBlank s + 1) = i + 1 + runLen isBlank s by omega]
theorem toks_nil (f i : Nat) (acc : List Tok) : toksGo f [] i acc = .ok acc := by cases f <;> rfl
theorem toks_blanks (f : Nat) : ∀ (bl : List UInt8), (∀ b ∈ bl, isBlank b.toNat = true) → ∀ (s : List UInt8) (i : Nat) (acc : List Tok), toksGo (f + 1) (bl ++ s) i acc = toksGo (f + 1) s (i + bl.length) acc := by
 intro bl
 induction bl with
 | nil => intro _ s i acc; rfl
 | cons b bl ih =>
  intro h s i acc
  rw [List.cons_append, toks_blank f b (h b (by simp)), ih (fun x hx => h x (by simp [hx]))]
  rw [List.length_cons, show i + 1 + bl.length = i + (bl.length + 1) by omega]
/-- A word, set where it stands. -/
def Tok.at (t : Tok) (i : Nat) : Tok := { t with pos := t.pos + (i : Int) }
/-- What is blank, or nothing, ahead. -/
def Sep (s : List UInt8) : Prop := s = [] ∨ ∃ b r, s = b :: r ∧ isBlank b.toNat = true
/-- A text that is these words, whatever stands behind a blank. -/
def Whole (p : List UInt8) (ts : List Tok) : Prop := ∀ s, Sep s → ∀ f i acc, toksGo (f + ts.length) (p ++ s) i acc = toksGo f s (i + p.length) (acc ++ ts.map (·.at i))
theorem isBlank_cases {n : Nat} (h : isBlank n = true) : n = 32 ∨ n = 9 ∨ n = 10 ∨ n = 13 := by
 simp only [isBlank, Bool.or_eq_true, Nat.beq_eq] at h; omega
theorem blank_cases {b : UInt8} (h : isBlank b.toNat = true) : b = 32 ∨ b = 9 ∨ b = 10 ∨ b = 13 := by
 rcases isBlank_cases h with h | h | h | h
 ·exact .inl (UInt8.toNat_inj.1 h)
 ·exact .inr (.inl (UInt8.toNat_inj.1 h))
 ·exact .inr (.inr (.inl (UInt8.toNat_inj.1 h)))
 ·exact .inr (.inr (.inr (UInt8.toNat_inj.1 h)))
theorem tok_at0 (k : Int) (x : List UInt8) (n : Int) (i : Nat) : Tok.at ⟨k, x, n, 0⟩ i = ⟨k, x, n, (i : Nat)⟩ := by simp [Tok.at]
theorem sep_elim {P : List UInt8 → Prop} (h0 : P []) (h : ∀ r, P (32 :: r) ∧ P (9 :: r) ∧ P (10 :: r) ∧ P (13 :: r)) : ∀ s, Sep s → P s := by
 intro s hs
 rcases hs with rfl | ⟨b, r, rfl, hb⟩
 ·exact h0
 ·obtain ⟨h1, h2, h3, h4⟩ := h r
  rcases blank_cases hb with rfl | rfl | rfl | rfl
  ·exact h1
  ·exact h2
  ·exact h3
  ·exact h4
/-- One word. -/
theorem Whole.one {p : List UInt8} {k : Int} {x : List UInt8} {n : Int} (c : UInt8) (q : List UInt8) (hp : p = c :: q) (hc : isBlank c.toNat = false) (h : ∀ s, Sep s → oneM (p ++ s) = ⟨⟨k, x, n, 0⟩, (p.length : Nat), 0⟩) : Whole p [⟨k, x, n, 0⟩] := by
 intro s hs f i acc
 have ho := h s hs
 subst hp
 rw [List.cons_append] at ho ⊢
 have hk : runLen isBlank (c :: (q ++ s)) = 0 := by simp [runLen, hc]
 show toksGo (f + 1) _ _ _ = _
 rw [toksGo]
 simp only [hk, List.drop_zero]
 simp only [ho, Nat.add_zero, if_true, Int.toNat_natCast]
 rw [show (c :: (q ++ s)) = (c :: q) ++ s from rfl, List.drop_left]
 simp [Tok.at]
theorem Whole.two {p q : List UInt8} {t : Tok} {ts : List Tok} (c : UInt8) (r : List UInt8) (hp : p = c :: r) (hc : isBlank c.toNat = false) (ht : t.pos = 0) (h : ∀ s, Sep s → oneM (p ++ (q ++ s)) = ⟨t, (p.length : Nat), 0⟩) (hq : Whole q ts) : Whole (p ++ q) (t :: ts.map (·.at p.length)) := by
 intro s hs f i acc
 have ho := h s hs
 subst hp
 have hk : runLen isBlank (c :: (r ++ (q ++ s))) = 0 := by simp [runLen, hc]
 rw [List.append_assoc, List.length_cons, List.length_map]
 rw [List.cons_append] at ho ⊢
 show toksGo (f + ts.length + 1) _ _ _ = _
 rw [toksGo]
 simp only [hk, List.drop_zero]
 simp only [ho, Nat.add_zero, if_true, Int.toNat_natCast]
 rw [show (c :: (r ++ (q ++ s))) = (c :: r) ++ (q ++ s) from rfl, List.drop_left, hq s hs]
 have e1 : i + (c :: r).length + q.length = i + (c :: (r ++ q)).length := by simp; omega
 have e2 : acc ++ [{ t with pos := (i : Int) }] ++ List.map (fun x => x.at (i + (c :: r).length)) ts = acc ++ List.map (fun x => x.at i) (t :: List.map (fun x => x.at (c :: r).length) ts) := by
  rw [List.append_assoc, List.map_cons, List.map_map]
  have : Tok.at t i = { t with pos := (i : Int) } := by unfold Tok.at; rw [ht]; simp
  rw [this]
  congr 2
  simp only [List.cons_append, List.nil_append, List.cons.injEq, true_and]
  apply List.map_congr_left
  intro x _
  simp [Tok.at, Function.comp]
  omega
 rw [e1, e2]; rfl
theorem Whole.len {p : List UInt8} {ts : List Tok} : Whole p ts → ∀ (f i : Nat) acc, toksGo (f + ts.length) p i acc = .ok (acc ++ ts.map (·.at i)) := by
 intro h f i acc
 have := h [] (.inl rfl) f i acc
 rw [List.append_nil] at this
 rw [this, toks_nil]
/-! ### the pieces of ScanFronts, ScanFirst, ScanBlanks -/
theorem whole_of {p : List UInt8} {k : Int} {x : List UInt8} {n : Int} (c : UInt8) (q : List UInt8) (hp : p = c :: q) (hc : isBlank c.toNat = false)
  (h0 : oneM p = ⟨⟨k, x, n, 0⟩, (p.length : Nat), 0⟩) (h1 : ∀ r, oneM (p ++ 32 :: r) = ⟨⟨k, x, n, 0⟩, (p.length : Nat), 0⟩ ∧ oneM (p ++ 9 :: r) = ⟨⟨k, x, n, 0⟩, (p.length : Nat), 0⟩ ∧ oneM (p ++ 10 :: r) = ⟨⟨k, x, n, 0⟩, (p.length : Nat), 0⟩ ∧ oneM (p ++ 13 :: r) = ⟨⟨k, x, n, 0⟩, (p.length : Nat), 0⟩) :
  Whole p [⟨k, x, n, 0⟩] :=
 Whole.one c q hp hc (sep_elim (by rw [List.append_nil]; exact h0) h1)
theorem whole_a : Whole [97] [⟨1, [97], 0, 0⟩] := whole_of 97 [] rfl rfl rfl fun r => ⟨rfl, rfl, rfl, rfl⟩
theorem whole_b9 : Whole [98, 57] [⟨1, [98, 57], 0, 0⟩] := whole_of 98 [57] rfl rfl rfl fun r => ⟨rfl, rfl, rfl, rfl⟩
theorem whole_1 : Whole [49] [⟨3, [], 1, 0⟩] := whole_of 49 [] rfl rfl rfl fun r => ⟨rfl, rfl, rfl, rfl⟩
theorem whole_7 : Whole [55] [⟨3, [], 7, 0⟩] := whole_of 55 [] rfl rfl rfl fun r => ⟨rfl, rfl, rfl, rfl⟩
theorem whole_m7 : Whole [45, 55] [⟨3, [], -7, 0⟩] := whole_of 45 [55] rfl rfl rfl fun r => ⟨rfl, rfl, rfl, rfl⟩
theorem whole_q : Whole [34, 113, 34] [⟨2, [113], 0, 0⟩] := whole_of 34 [113, 34] rfl rfl rfl fun r => ⟨rfl, rfl, rfl, rfl⟩
theorem whole_xy : Whole [34, 120, 32, 121, 34] [⟨2, [120, 32, 121], 0, 0⟩] := whole_of 34 [120, 32, 121, 34] rfl rfl rfl fun r => ⟨rfl, rfl, rfl, rfl⟩
theorem whole_arrow : Whole [45, 62] [⟨4, [45, 62], 0, 0⟩] := whole_of 45 [62] rfl rfl rfl fun r => ⟨rfl, rfl, rfl, rfl⟩
theorem whole_dot : Whole [46] [⟨4, [46], 0, 0⟩] := whole_of 46 [] rfl rfl rfl fun r => ⟨rfl, rfl, rfl, rfl⟩
theorem whole_dollar : Whole [36] [⟨4, [36], 0, 0⟩] := whole_of 36 [] rfl rfl rfl fun r => ⟨rfl, rfl, rfl, rfl⟩
theorem whole_brace : Whole [123] [⟨4, [123], 0, 0⟩] := whole_of 123 [] rfl rfl rfl fun r => ⟨rfl, rfl, rfl, rfl⟩
end Go.Proofs.YtljhpmggifjigaaDoor.Ab
