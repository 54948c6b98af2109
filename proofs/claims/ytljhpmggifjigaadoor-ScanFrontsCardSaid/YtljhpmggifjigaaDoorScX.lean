/- ScanBlanks: the pieces, and rows of them with blanks. Plain laws; printed by genblank.py in part. -/
import Derived.Test.YtljhpmggifjigaaDoorScV
set_option linter.all false
set_option linter.unusedVariables false
set_option linter.unusedSimpArgs false
set_option maxRecDepth 100000
namespace Go.Proofs.YtljhpmggifjigaaDoor.Ab
open Go Go.AI
def pieceM : List (List UInt8 × Option (List Tok)) := [([97], some [⟨1, [97], 0, 0⟩]),
 ([105, 102], some [⟨1, [105, 102], 0, 0⟩]),
 ([95, 120, 57], some [⟨1, [95, 120, 57], 0, 0⟩]),
 ([97, 98, 99, 100, 101, 102, 103, 104, 105, 106, 107, 108, 109, 110, 111, 112], some [⟨1, [97, 98, 99, 100, 101, 102, 103, 104, 105, 106, 107, 108, 109, 110, 111, 112], 0, 0⟩]),
 ([97, 98, 99, 100, 101, 102, 103, 104, 105, 106, 107, 108, 109, 110, 111, 112, 113], none),
 ([48], some [⟨3, [], 0, 0⟩]),
 ([55], some [⟨3, [], 7, 0⟩]),
 ([45, 55], some [⟨3, [], -7, 0⟩]),
 ([57, 50, 50, 51, 51, 55, 50, 48, 51, 54, 56, 53, 52, 55, 55, 53, 56, 48, 55], some [⟨3, [], 9223372036854775807, 0⟩]),
 ([57, 50, 50, 51, 51, 55, 50, 48, 51, 54, 56, 53, 52, 55, 55, 53, 56, 48, 56], none),
 ([45, 57, 50, 50, 51, 51, 55, 50, 48, 51, 54, 56, 53, 52, 55, 55, 53, 56, 48, 56], some [⟨3, [], -9223372036854775808, 0⟩]),
 ([45, 57, 50, 50, 51, 51, 55, 50, 48, 51, 54, 56, 53, 52, 55, 55, 53, 56, 48, 57], none),
 ([48, 48, 48, 48, 48, 48, 48, 48, 48, 48, 48, 48, 48, 48, 48, 48, 48, 48, 48, 49], none),
 ([48, 49], some [⟨3, [], 1, 0⟩]),
 ([45, 62], some [⟨4, [45, 62], 0, 0⟩]),
 ([58, 61], some [⟨4, [58, 61], 0, 0⟩]),
 ([123], some [⟨4, [123], 0, 0⟩]),
 ([125], some [⟨4, [125], 0, 0⟩]),
 ([60], some [⟨4, [60], 0, 0⟩]),
 ([62], some [⟨4, [62], 0, 0⟩]),
 ([44], some [⟨4, [44], 0, 0⟩]),
 ([58], some [⟨4, [58], 0, 0⟩]),
 ([40], some [⟨4, [40], 0, 0⟩]),
 ([41], some [⟨4, [41], 0, 0⟩]),
 ([46], some [⟨4, [46], 0, 0⟩]),
 ([36], some [⟨4, [36], 0, 0⟩]),
 ([124], some [⟨4, [124], 0, 0⟩]),
 ([61], some [⟨4, [61], 0, 0⟩]),
 ([59], some [⟨4, [59], 0, 0⟩]),
 ([34, 34], some [⟨2, [], 0, 0⟩]),
 ([34, 97, 32, 98, 34], some [⟨2, [97, 32, 98], 0, 0⟩]),
 ([34, 92, 92, 92, 34, 92, 110, 92, 116, 34], some [⟨2, [92, 34, 10, 9], 0, 0⟩]),
 ([34, 255, 34], some [⟨2, [255], 0, 0⟩]),
 ([34], none),
 ([34, 92, 120, 34], none),
 ([34, 10, 34], none),
 ([45], none),
 ([43], none),
 ([35], none),
 ([57, 97], some [⟨3, [], 9, 0⟩, ⟨1, [97], 0, 1⟩])]
theorem whole_p0 : Whole [97] [⟨1, [97], 0, 0⟩] := whole_of 97 [] rfl rfl rfl fun r => ⟨rfl, rfl, rfl, rfl⟩
theorem whole_p1 : Whole [105, 102] [⟨1, [105, 102], 0, 0⟩] := whole_of 105 [102] rfl rfl rfl fun r => ⟨rfl, rfl, rfl, rfl⟩
theorem whole_p2 : Whole [95, 120, 57] [⟨1, [95, 120, 57], 0, 0⟩] := whole_of 95 [120, 57] rfl rfl rfl fun r => ⟨rfl, rfl, rfl, rfl⟩
theorem whole_p3 : Whole [97, 98, 99, 100, 101, 102, 103, 104, 105, 106, 107, 108, 109, 110, 111, 112] [⟨1, [97, 98, 99, 100, 101, 102, 103, 104, 105, 106, 107, 108, 109, 110, 111, 112], 0, 0⟩] := whole_of 97 [98, 99, 100, 101, 102, 103, 104, 105, 106, 107, 108, 109, 110, 111, 112] rfl rfl rfl fun r => ⟨rfl, rfl, rfl, rfl⟩
theorem whole_p5 : Whole [48] [⟨3, [], 0, 0⟩] := whole_of 48 [] rfl rfl rfl fun r => ⟨rfl, rfl, rfl, rfl⟩
theorem whole_p6 : Whole [55] [⟨3, [], 7, 0⟩] := whole_of 55 [] rfl rfl rfl fun r => ⟨rfl, rfl, rfl, rfl⟩
theorem whole_p7 : Whole [45, 55] [⟨3, [], -7, 0⟩] := whole_of 45 [55] rfl rfl rfl fun r => ⟨rfl, rfl, rfl, rfl⟩
theorem whole_p8 : Whole [57, 50, 50, 51, 51, 55, 50, 48, 51, 54, 56, 53, 52, 55, 55, 53, 56, 48, 55] [⟨3, [], 9223372036854775807, 0⟩] := whole_of 57 [50, 50, 51, 51, 55, 50, 48, 51, 54, 56, 53, 52, 55, 55, 53, 56, 48, 55] rfl rfl rfl fun r => ⟨rfl, rfl, rfl, rfl⟩
theorem whole_p10 : Whole [45, 57, 50, 50, 51, 51, 55, 50, 48, 51, 54, 56, 53, 52, 55, 55, 53, 56, 48, 56] [⟨3, [], -9223372036854775808, 0⟩] := whole_of 45 [57, 50, 50, 51, 51, 55, 50, 48, 51, 54, 56, 53, 52, 55, 55, 53, 56, 48, 56] rfl rfl rfl fun r => ⟨rfl, rfl, rfl, rfl⟩
theorem whole_p13 : Whole [48, 49] [⟨3, [], 1, 0⟩] := whole_of 48 [49] rfl rfl rfl fun r => ⟨rfl, rfl, rfl, rfl⟩
theorem whole_p14 : Whole [45, 62] [⟨4, [45, 62], 0, 0⟩] := whole_of 45 [62] rfl rfl rfl fun r => ⟨rfl, rfl, rfl, rfl⟩
theorem whole_p15 : Whole [58, 61] [⟨4, [58, 61], 0, 0⟩] := whole_of 58 [61] rfl rfl rfl fun r => ⟨rfl, rfl, rfl, rfl⟩
theorem whole_p16 : Whole [123] [⟨4, [123], 0, 0⟩] := whole_of 123 [] rfl rfl rfl fun r => ⟨rfl, rfl, rfl, rfl⟩
theorem whole_p17 : Whole [125] [⟨4, [125], 0, 0⟩] := whole_of 125 [] rfl rfl rfl fun r => ⟨rfl, rfl, rfl, rfl⟩
theorem whole_p18 : Whole [60] [⟨4, [60], 0, 0⟩] := whole_of 60 [] rfl rfl rfl fun r => ⟨rfl, rfl, rfl, rfl⟩
theorem whole_p19 : Whole [62] [⟨4, [62], 0, 0⟩] := whole_of 62 [] rfl rfl rfl fun r => ⟨rfl, rfl, rfl, rfl⟩
theorem whole_p20 : Whole [44] [⟨4, [44], 0, 0⟩] := whole_of 44 [] rfl rfl rfl fun r => ⟨rfl, rfl, rfl, rfl⟩
theorem whole_p21 : Whole [58] [⟨4, [58], 0, 0⟩] := whole_of 58 [] rfl rfl rfl fun r => ⟨rfl, rfl, rfl, rfl⟩
theorem whole_p22 : Whole [40] [⟨4, [40], 0, 0⟩] := whole_of 40 [] rfl rfl rfl fun r => ⟨rfl, rfl, rfl, rfl⟩
theorem whole_p23 : Whole [41] [⟨4, [41], 0, 0⟩] := whole_of 41 [] rfl rfl rfl fun r => ⟨rfl, rfl, rfl, rfl⟩
theorem whole_p24 : Whole [46] [⟨4, [46], 0, 0⟩] := whole_of 46 [] rfl rfl rfl fun r => ⟨rfl, rfl, rfl, rfl⟩
theorem whole_p25 : Whole [36] [⟨4, [36], 0, 0⟩] := whole_of 36 [] rfl rfl rfl fun r => ⟨rfl, rfl, rfl, rfl⟩
theorem whole_p26 : Whole [124] [⟨4, [124], 0, 0⟩] := whole_of 124 [] rfl rfl rfl fun r => ⟨rfl, rfl, rfl, rfl⟩
theorem whole_p27 : Whole [61] [⟨4, [61], 0, 0⟩] := whole_of 61 [] rfl rfl rfl fun r => ⟨rfl, rfl, rfl, rfl⟩
theorem whole_p28 : Whole [59] [⟨4, [59], 0, 0⟩] := whole_of 59 [] rfl rfl rfl fun r => ⟨rfl, rfl, rfl, rfl⟩
theorem whole_p29 : Whole [34, 34] [⟨2, [], 0, 0⟩] := whole_of 34 [34] rfl rfl rfl fun r => ⟨rfl, rfl, rfl, rfl⟩
theorem whole_p30 : Whole [34, 97, 32, 98, 34] [⟨2, [97, 32, 98], 0, 0⟩] := whole_of 34 [97, 32, 98, 34] rfl rfl rfl fun r => ⟨rfl, rfl, rfl, rfl⟩
theorem whole_p31 : Whole [34, 92, 92, 92, 34, 92, 110, 92, 116, 34] [⟨2, [92, 34, 10, 9], 0, 0⟩] := whole_of 34 [92, 92, 92, 34, 92, 110, 92, 116, 34] rfl rfl rfl fun r => ⟨rfl, rfl, rfl, rfl⟩
theorem whole_p32 : Whole [34, 255, 34] [⟨2, [255], 0, 0⟩] := whole_of 34 [255, 34] rfl rfl rfl fun r => ⟨rfl, rfl, rfl, rfl⟩
theorem whole_p39 : Whole [57, 97] [⟨3, [], 9, 0⟩, ⟨1, [97], 0, 1⟩] := Whole.two (p := [57]) (q := [97]) 57 [] rfl rfl rfl (sep_elim rfl fun r => ⟨rfl, rfl, rfl, rfl⟩) whole_a
def segOk (p : List UInt8) (ts : List Tok) : Bool := decide (p.length ≤ 22) && decide (ts.length ≤ 2) && (match ts with
 | [] => false
 | [a] => decide (a.pos = 0) && decide (1 ≤ p.length)
 | [a, b] => decide (a.pos = 0) && decide (b.pos = 1) && decide (2 ≤ p.length)
 | _ => false)
theorem piece_whole : ∀ x ∈ pieceM, ∀ ts, x.2 = some ts → Whole x.1 ts ∧ segOk x.1 ts = true := by
 intro x hx ts h
 simp only [pieceM, List.mem_cons, List.not_mem_nil, or_false] at hx
 rcases hx with e | e | e | e | e | e | e | e | e | e | e | e | e | e | e | e | e | e | e | e | e | e | e | e | e | e | e | e | e | e | e | e | e | e | e | e | e | e | e | e <;> subst e
 ·cases h; exact ⟨whole_p0, by decide⟩
 ·cases h; exact ⟨whole_p1, by decide⟩
 ·cases h; exact ⟨whole_p2, by decide⟩
 ·cases h; exact ⟨whole_p3, by decide⟩
 ·cases h
 ·cases h; exact ⟨whole_p5, by decide⟩
 ·cases h; exact ⟨whole_p6, by decide⟩
 ·cases h; exact ⟨whole_p7, by decide⟩
 ·cases h; exact ⟨whole_p8, by decide⟩
 ·cases h
 ·cases h; exact ⟨whole_p10, by decide⟩
 ·cases h
 ·cases h
 ·cases h; exact ⟨whole_p13, by decide⟩
 ·cases h; exact ⟨whole_p14, by decide⟩
 ·cases h; exact ⟨whole_p15, by decide⟩
 ·cases h; exact ⟨whole_p16, by decide⟩
 ·cases h; exact ⟨whole_p17, by decide⟩
 ·cases h; exact ⟨whole_p18, by decide⟩
 ·cases h; exact ⟨whole_p19, by decide⟩
 ·cases h; exact ⟨whole_p20, by decide⟩
 ·cases h; exact ⟨whole_p21, by decide⟩
 ·cases h; exact ⟨whole_p22, by decide⟩
 ·cases h; exact ⟨whole_p23, by decide⟩
 ·cases h; exact ⟨whole_p24, by decide⟩
 ·cases h; exact ⟨whole_p25, by decide⟩
 ·cases h; exact ⟨whole_p26, by decide⟩
 ·cases h; exact ⟨whole_p27, by decide⟩
 ·cases h; exact ⟨whole_p28, by decide⟩
 ·cases h; exact ⟨whole_p29, by decide⟩
 ·cases h; exact ⟨whole_p30, by decide⟩
 ·cases h; exact ⟨whole_p31, by decide⟩
 ·cases h; exact ⟨whole_p32, by decide⟩
 ·cases h
 ·cases h
 ·cases h
 ·cases h
 ·cases h
 ·cases h
 ·cases h; exact ⟨whole_p39, by decide⟩
/-- One piece with what is blank behind it. -/
structure Pc where
 p : List UInt8
 ts : List Tok
 g : List UInt8
def Pc.Ok (x : Pc) : Prop := Whole x.p x.ts ∧ segOk x.p x.ts = true ∧ (∀ b ∈ x.g, isBlank b.toNat = true) ∧ x.g.length ≤ 3
def segA (l : List Pc) : List Seg := l.map fun x => ⟨x.p, [32], x.ts⟩
def segB (l : List Pc) : List Seg := l.flatMap fun x => [⟨[], [10], []⟩, ⟨x.p, x.g, x.ts⟩]
theorem segB_sep : ∀ l : List Pc, Sep (rowS (segB l)) := by
 intro l
 cases l with
 | nil => exact .inl rfl
 | cons x l => exact .inr ⟨10, _, rfl, rfl⟩
theorem sep_blank {g s : List UInt8} (hg : ∀ b ∈ g, isBlank b.toNat = true) (hs : Sep s) : Sep (g ++ s) := by
 cases g with
 | nil => exact hs
 | cons b g => exact .inr ⟨b, g ++ s, rfl, hg b (by simp)⟩
theorem segOk_len {p : List UInt8} {ts : List Tok} (h : segOk p ts = true) : p.length ≤ 22 ∧ ts.length ≤ 2 := by
 unfold segOk at h
 simp only [Bool.and_eq_true, decide_eq_true_eq] at h
 exact h.1
theorem rowA_ok : ∀ (l : List Pc), (∀ x ∈ l, x.Ok) → RowOk (segA l) ∧ rowN (segA l) ≤ 2 * l.length ∧ (rowS (segA l)).length ≤ 23 * l.length := by
 intro l
 induction l with
 | nil => intro _; exact ⟨trivial, Nat.le_refl _, Nat.le_refl _⟩
 | cons x l ih =>
  intro h
  obtain ⟨a, b, c⟩ := ih fun y hy => h y (by simp [hy])
  obtain ⟨h1, h2, h3, h4⟩ := h x (by simp)
  have h5 := segOk_len h2
  refine ⟨⟨h1, by intro b hb; simp at hb; subst hb; rfl, .inr ⟨32, _, rfl, rfl⟩, a⟩, ?_, ?_⟩
  ·show x.ts.length + rowN (segA l) ≤ _
   rw [List.length_cons]; omega
  ·show (x.p ++ ([32] ++ rowS (segA l))).length ≤ _
   simp only [List.length_append, List.length_cons, List.length_nil]; omega
theorem rowB_ok : ∀ (l : List Pc), (∀ x ∈ l, x.Ok) → RowOk (segB l) ∧ rowN (segB l) ≤ 2 * l.length ∧ (rowS (segB l)).length ≤ 26 * l.length := by
 intro l
 induction l with
 | nil => intro _; exact ⟨trivial, Nat.le_refl _, Nat.le_refl _⟩
 | cons x l ih =>
  intro h
  obtain ⟨a, b, c⟩ := ih fun y hy => h y (by simp [hy])
  obtain ⟨h1, h2, h3, h4⟩ := h x (by simp)
  have h5 := segOk_len h2
  refine ⟨⟨whole_nil, by intro b hb; simp at hb; subst hb; rfl, .inr ⟨10, _, rfl, rfl⟩, h1, h3, sep_blank h3 (segB_sep l), a⟩, ?_, ?_⟩
  ·show 0 + (x.ts.length + rowN (segB l)) ≤ _
   rw [List.length_cons]; omega
  ·show ([] ++ ([10] ++ (x.p ++ (x.g ++ rowS (segB l))))).length ≤ _
   simp only [List.length_append, List.length_cons, List.length_nil]; omega
def bare (t : Tok) : Int × List UInt8 × Int := (t.kind, t.text, t.n)
theorem bare_at (ts : List Tok) (i : Nat) : (ts.map (·.at i)).map bare = ts.map bare := by
 rw [List.map_map]; rfl
theorem bareA : ∀ (l : List Pc) (i : Nat), (rowT (segA l) i).map bare = (l.flatMap (·.ts)).map bare := by
 intro l
 induction l with
 | nil => intro i; rfl
 | cons x l ih =>
  intro i
  show (x.ts.map (·.at i) ++ rowT (segA l) _).map bare = _
  rw [List.map_append, bare_at, ih, List.flatMap_cons, List.map_append]
theorem bareB : ∀ (l : List Pc) (i : Nat), (rowT (segB l) i).map bare = (l.flatMap (·.ts)).map bare := by
 intro l
 induction l with
 | nil => intro i; rfl
 | cons x l ih =>
  intro i
  show ([] ++ (x.ts.map (fun t : Tok => t.at (i + 0 + 1)) ++ rowT (segB l) (i + 0 + 1 + x.p.length + x.g.length))).map bare = _
  rw [List.nil_append, List.map_append, bare_at, ih, List.flatMap_cons, List.map_append]
theorem incrB : ∀ (l : List Pc), (∀ x ∈ l, x.Ok) → ∀ (i : Nat), (rowT (segB l) i).Pairwise (fun a b => a.pos < b.pos) ∧ ∀ t ∈ rowT (segB l) i, (i : Int) ≤ t.pos := by
 intro l
 induction l with
 | nil => intro _ i; exact ⟨List.Pairwise.nil, by intro t ht; cases ht⟩
 | cons x l ih =>
  intro h i
  obtain ⟨h1, h2, h3, h4⟩ := h x (by simp)
  obtain ⟨a, b⟩ := ih (fun y hy => h y (by simp [hy])) (i + 0 + 1 + x.p.length + x.g.length)
  have e : rowT (segB (x :: l)) i = x.ts.map (·.at (i + 0 + 1)) ++ rowT (segB l) (i + 0 + 1 + x.p.length + x.g.length) := rfl
  rw [e]
  have key : (x.ts.map (·.at (i + 0 + 1))).Pairwise (fun a b => a.pos < b.pos) ∧ ∀ t ∈ x.ts.map (·.at (i + 0 + 1)), (i : Int) ≤ t.pos ∧ t.pos < ((i + 0 + 1 + x.p.length : Nat) : Int) := by
   unfold segOk at h2
   simp only [Bool.and_eq_true, decide_eq_true_eq] at h2
   obtain ⟨_, h2⟩ := h2
   split at h2
   ·cases h2
   ·rename_i t e
    simp only [Bool.and_eq_true, decide_eq_true_eq] at h2
    rw [e]
    refine ⟨by simp, ?_⟩
    intro t ht
    simp only [List.map_cons, List.map_nil, List.mem_singleton] at ht
    subst ht
    simp only [Tok.at]; omega
   ·rename_i t u e
    simp only [Bool.and_eq_true, decide_eq_true_eq] at h2
    rw [e]
    refine ⟨by simp [Tok.at]; omega, ?_⟩
    intro t ht
    simp only [List.map_cons, List.map_nil, List.mem_cons, List.not_mem_nil, or_false] at ht
    rcases ht with rfl | rfl <;> simp only [Tok.at] <;> omega
   ·cases h2
  refine ⟨List.pairwise_append.2 ⟨key.1, a, fun s hs t ht => ?_⟩, fun t ht => ?_⟩
  ·have h5 := (key.2 s hs).2
   have h6 := b t ht
   omega
  ·rcases List.mem_append.1 ht with h5 | h5
   ·exact (key.2 t h5).1
   ·have h6 := b t h5
    omega
/-- BLANKS CHANGE NOTHING BUT PLACES. -/
theorem blanks_toks (l : List Pc) (h : ∀ x ∈ l, x.Ok) (hl : l.length ≤ 30) : tokensM (rowS (segA l)) = .ok (rowT (segA l) 0) ∧ tokensM (rowS (segB l)) = .ok (rowT (segB l) 0) ∧
  (rowT (segA l) 0).map bare = (rowT (segB l) 0).map bare ∧ (rowT (segB l) 0).Pairwise (fun a b => a.pos < b.pos) := by
 obtain ⟨a, b, c⟩ := rowA_ok l h
 obtain ⟨a', b', c'⟩ := rowB_ok l h
 exact ⟨tokensM_row _ a (by omega) (by omega), tokensM_row _ a' (by omega) (by omega), by rw [bareA, bareB], (incrB l h 0).1⟩
end Go.Proofs.YtljhpmggifjigaaDoor.Ab
