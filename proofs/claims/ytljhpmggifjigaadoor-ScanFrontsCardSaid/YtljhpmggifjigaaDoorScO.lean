/- ScanNumbers: whatever the number, the law returns true (2). -/
import Derived.Test.YtljhpmggifjigaaDoorScN
set_option linter.all false
set_option linter.unusedVariables false
set_option linter.unusedSimpArgs false
set_option maxRecDepth 100000
namespace Go.Proofs.YtljhpmggifjigaaDoor.Ab
open Go Go.AI
def behinds : List (List UInt8) := [[], [32], [46], [41], [97]]
theorem runLen_append (p : Nat → Bool) : ∀ (ds r : List UInt8), (∀ b ∈ ds, p b.toNat = true) → runLen p r = 0 → runLen p (ds ++ r) = ds.length := by
 intro ds
 induction ds with
 | nil => intro r _ h; exact h
 | cons b ds ih =>
  intro r h1 h2
  show (if p b.toNat then runLen p (ds ++ r) + 1 else 0) = _
  rw [h1 b (by simp), if_pos rfl, ih r (fun c hc => h1 c (by simp [hc])) h2]; rfl
theorem rest_ok (bh : List UInt8) (hb : bh ∈ behinds) (f i : Nat) (acc : List Tok) : ∃ rest, toksGo (f + 2) bh i acc = .ok (acc ++ rest) ∧ rest.length ≤ 1 := by
 simp only [behinds, List.mem_cons, List.not_mem_nil, or_false] at hb
 rcases hb with rfl | rfl | rfl | rfl | rfl
 ·exact ⟨[], by rw [List.append_nil]; rfl, by simp⟩
 ·exact ⟨[], by rw [List.append_nil]; rfl, by simp⟩
 ·exact ⟨[{ (⟨4, [46], 0, 0⟩ : Tok) with pos := ((i + 0 : Nat) : Int) }], rfl, by simp⟩
 ·exact ⟨[{ (⟨4, [41], 0, 0⟩ : Tok) with pos := ((i + 0 : Nat) : Int) }], rfl, by simp⟩
 ·exact ⟨[{ (⟨1, [97], 0, 0⟩ : Tok) with pos := ((i + 0 : Nat) : Int) }], rfl, by simp⟩
theorem behind_nodigit (bh : List UInt8) (hb : bh ∈ behinds) : runLen isDigit bh = 0 := by
 simp only [behinds, List.mem_cons, List.not_mem_nil, or_false] at hb
 rcases hb with rfl | rfl | rfl | rfl | rfl <;> rfl
theorem digit_not (n : Nat) (h : isDigit n = true) : isLetter n = false ∧ isBlank n = false ∧ n ≠ 45 := by
 simp only [isDigit, Bool.and_eq_true, Nat.ble_eq] at h
 refine ⟨?_, ?_, by omega⟩
 ·cases hl : isLetter n with
  | false => rfl
  | true => simp only [isLetter, Bool.or_eq_true, Bool.and_eq_true, Nat.ble_eq, Nat.beq_eq] at hl; omega
 ·cases hl : isBlank n with
  | false => rfl
  | true => simp only [isBlank, Bool.or_eq_true, Nat.beq_eq] at hl; omega
/-- The number's word. -/
theorem num_one (sg : Bool) (ds bh : List UInt8) (u : Nat) (hd : ∀ b ∈ ds, isDigit b.toNat = true) (hv : numVal ds = u) (hl : ds.length ≤ 19) (hl0 : 0 < ds.length) (hb : bh ∈ behinds) (hu : u ≤ 9223372036854775807 + (if sg then 1 else 0)) :
  oneM ((if sg then [45] else []) ++ (ds ++ bh)) = ⟨⟨3, [], if sg then -(u : Int) else u, 0⟩, (((if sg then 1 else 0) + ds.length : Nat) : Int), 0⟩ ∧ runLen isBlank ((if sg then [45] else []) ++ (ds ++ bh)) = 0 := by
 have hrun := runLen_append isDigit ds bh hd (behind_nodigit bh hb)
 obtain ⟨c, t, hct⟩ : ∃ c t, ds = c :: t := by cases ds with
  | nil => simp at hl0
  | cons c t => exact ⟨c, t, rfl⟩
 have hc := hd c (by rw [hct]; simp)
 obtain ⟨hc1, hc2, hc3⟩ := digit_not _ hc
 cases sg with
 | true =>
  simp only [if_true] at hu ⊢
  have hneg : neg (45 :: (ds ++ bh)) = 1 := rfl
  have hnh : numHead (45 :: (ds ++ bh)) = true := by rw [hct]; show (isDigit (45 : UInt8).toNat || (decide ((45 : UInt8).toNat = 45) && isDigit c.toNat)) = true; rw [hc]; rfl
  refine ⟨?_, rfl⟩
  have hO : oneM (45 :: (ds ++ bh)) = if isLetter (45 : UInt8).toNat then wordM (45 :: (ds ++ bh)) else if numHead (45 :: (ds ++ bh)) then numberM (45 :: (ds ++ bh)) else if (45 : UInt8).toNat = 34 then textM (45 :: (ds ++ bh)) else signM (45 :: (ds ++ bh)) := rfl
  refine hO.trans ?_
  rw [if_neg (by decide), hnh, if_pos rfl]
  unfold numberM
  rw [hneg, List.drop_one, List.tail_cons, hrun, if_neg (by omega)]
  rw [show (ds ++ bh).take ds.length = ds by simp, hv, if_neg (by omega), if_pos (by decide)]
 | false =>
  simp only [Bool.false_eq_true, if_false, List.nil_append] at hu ⊢
  have hneg : neg (ds ++ bh) = 0 := by
   unfold neg; rw [hct, if_neg]
   intro e; simp at e; exact hc3 (by rw [e]; rfl)
  have hnh : numHead (ds ++ bh) = true := by rw [hct]; show (isDigit c.toNat || _) = true; rw [hc]; rfl
  refine ⟨?_, by rw [hct]; show (if isBlank c.toNat then _ else 0) = 0; rw [hc2]; rfl⟩
  have hO : oneM (ds ++ bh) = if isLetter c.toNat then wordM (ds ++ bh) else if numHead (ds ++ bh) then numberM (ds ++ bh) else if c.toNat = 34 then textM (ds ++ bh) else signM (ds ++ bh) := by rw [hct]; rfl
  rw [hO, hc1, if_neg (by decide), hnh, if_pos rfl]
  unfold numberM
  rw [hneg, List.drop_zero, hrun, if_neg (by omega)]
  rw [show (ds ++ bh).take ds.length = ds by simp, hv, if_neg (by omega), if_neg (by decide)]
/-- All words of it. -/
theorem num_toks (cm sg : Bool) (ds bh : List UInt8) (u : Nat) (hd : ∀ b ∈ ds, isDigit b.toNat = true) (hv : numVal ds = u) (hl : ds.length ≤ 19) (hl0 : 0 < ds.length) (hb : bh ∈ behinds) (hu : u ≤ 9223372036854775807 + (if sg then 1 else 0)) :
  ∃ l t, tokensM ((if cm then [44] else []) ++ ((if sg then [45] else []) ++ (ds ++ bh))) = .ok l ∧ l[(if cm then 1 else 0 : Nat)]? = some t ∧ t.kind = 3 ∧ t.n = (if sg then -(u : Int) else u) := by
 obtain ⟨h1, h2⟩ := num_one sg ds bh u hd hv hl hl0 hb hu
 have hbl : bh.length ≤ 1 := by
  simp only [behinds, List.mem_cons, List.not_mem_nil, or_false] at hb
  rcases hb with rfl | rfl | rfl | rfl | rfl <;> simp
 have hsl : (if sg then [(45 : UInt8)] else []).length = (if sg then 1 else 0) := by cases sg <;> rfl
 generalize hcore : ((if sg then [(45 : UInt8)] else []) ++ (ds ++ bh)) = core at h1 h2
 have hcl : core.length = (if sg then 1 else 0) + ds.length + bh.length := by rw [← hcore]; simp only [List.length_append, hsl]; omega
 have hdrop : core.drop ((if sg then 1 else 0) + ds.length) = bh := by
  rw [← hcore, ← hsl, ← List.append_assoc]
  rw [show (if sg then [(45 : UInt8)] else []).length + ds.length = ((if sg then [(45 : UInt8)] else []) ++ ds).length by simp]
  simp
 have key : ∀ (f i : Nat) (acc : List Tok), ∃ rest, toksGo (f + 3) core i acc = .ok (acc ++ ⟨3, [], if sg then -(u : Int) else u, ((i + 0 : Nat) : Int)⟩ :: rest) ∧ rest.length ≤ 1 := by
  intro f i acc
  obtain ⟨rest, r1, r2⟩ := rest_ok bh hb f (i + 0 + ((if sg then 1 else 0) + ds.length)) (acc ++ [⟨3, [], if sg then -(u : Int) else u, ((i + 0 : Nat) : Int)⟩])
  refine ⟨rest, ?_, r2⟩
  obtain ⟨c, t, hct⟩ : ∃ c t, core = c :: t := by cases hc : core with
   | nil => rw [hc] at hcl; simp at hcl; omega
   | cons c t => exact ⟨c, t, rfl⟩
  unfold toksGo
  dsimp only
  rw [h2, List.drop_zero, hct]
  dsimp only
  rw [← hct, h1]
  dsimp only
  rw [if_pos rfl, Int.toNat_natCast, hdrop, r1, List.append_assoc]
  rfl
 cases cm with
 | false =>
  simp only [Bool.false_eq_true, if_false, List.nil_append]
  obtain ⟨rest, r1, r2⟩ := key (core.length - 2) 0 []
  have hf : core.length + 1 = core.length - 2 + 3 ∨ core.length < 2 := by omega
  rcases hf with hf | hf
  ·refine ⟨[] ++ ⟨3, [], if sg then -(u : Int) else u, ((0 + 0 : Nat) : Int)⟩ :: rest, ⟨3, [], if sg then -(u : Int) else u, ((0 + 0 : Nat) : Int)⟩, ?_, rfl, rfl, rfl⟩
   unfold tokensM
   rw [if_neg (by rw [hcl]; split <;> omega), hf, r1]
   show (if 400 < _ then _ else _) = _
   rw [if_neg (by simp; omega)]
  ·have h1l : core.length = 1 := by omega
   have hsg : sg = false := by cases sg with
    | false => rfl
    | true => simp at hcl; omega
   have hbn : bh = [] := by
    have : bh.length = 0 := by omega
    simpa using this
   subst hsg
   obtain ⟨c, t, hct⟩ : ∃ c t, core = c :: t := by cases hc : core with
    | nil => rw [hc] at h1l; simp at h1l
    | cons c t => exact ⟨c, t, rfl⟩
   refine ⟨[⟨3, [], (u : Int), ((0 + 0 : Nat) : Int)⟩], _, ?_, rfl, rfl, rfl⟩
   unfold tokensM
   rw [if_neg (by omega), h1l]
   unfold toksGo
   dsimp only
   rw [h2, List.drop_zero, hct]
   dsimp only
   rw [← hct, h1]
   dsimp only
   rw [if_pos rfl, Int.toNat_natCast, hdrop, hbn]
   rfl
 | true =>
  simp only [if_true]
  obtain ⟨rest, r1, r2⟩ := key (core.length - 2) 1 [⟨4, [44], 0, 0⟩]
  have hne : ¬ ((44 :: core).take 2 = two1) ∧ ¬ ((44 :: core).take 2 = two2) := by
   constructor <;> (intro e; cases hc : core <;> rw [hc] at e <;> simp [two1, two2] at e)
  have hone : oneM ([44] ++ core) = ⟨⟨4, [44], 0, 0⟩, 1, 0⟩ := by
   have hO : oneM ([44] ++ core) = if isLetter (44 : UInt8).toNat then wordM (44 :: core) else if numHead (44 :: core) then numberM (44 :: core) else if (44 : UInt8).toNat = 34 then textM (44 :: core) else signM (44 :: core) := rfl
   refine hO.trans ?_
   have hn : numHead (44 :: core) = false := rfl
   rw [if_neg (by decide), hn, if_neg (by decide), if_neg (by decide)]
   unfold signM
   rw [if_neg hne.1, if_neg hne.2]
   rfl
  have hstep : ∀ f, toksGo (f + 1) ([44] ++ core) 0 [] = toksGo f core 1 [⟨4, [44], 0, 0⟩] := by
   intro f
   conv => lhs; unfold toksGo
   show (if (oneM ([44] ++ core)).e = 0 then toksGo f (([44] ++ core).drop (oneM ([44] ++ core)).n.toNat) (0 + 0 + (oneM ([44] ++ core)).n.toNat) ([] ++ [{ (oneM ([44] ++ core)).t with pos := ((0 + 0 : Nat) : Int) }]) else .error (oneM ([44] ++ core)).e) = _
   rw [hone, if_pos rfl]
   rfl
  by_cases hf : core.length < 2
  ·have h1l : core.length = 1 := by omega
   have hsg : sg = false := by cases sg with
    | false => rfl
    | true => simp at hcl; omega
   have hbn : bh = [] := by
    have : bh.length = 0 := by omega
    simpa using this
   subst hsg
   obtain ⟨c, t, hct⟩ : ∃ c t, core = c :: t := by cases hc : core with
    | nil => rw [hc] at h1l; simp at h1l
    | cons c t => exact ⟨c, t, rfl⟩
   refine ⟨[⟨4, [44], 0, 0⟩, ⟨3, [], (u : Int), ((1 + 0 : Nat) : Int)⟩], _, ?_, rfl, rfl, rfl⟩
   unfold tokensM
   rw [if_neg (by simp; omega), hstep]
   rw [show (([44] : List UInt8) ++ core).length = 2 by simp [h1l]]
   unfold toksGo
   dsimp only
   rw [h2, List.drop_zero, hct]
   dsimp only
   rw [← hct, h1]
   dsimp only
   rw [if_pos rfl, Int.toNat_natCast, hdrop, hbn]
   rfl
  ·refine ⟨[⟨4, [44], 0, 0⟩] ++ ⟨3, [], if sg then -(u : Int) else u, ((1 + 0 : Nat) : Int)⟩ :: rest, ⟨3, [], if sg then -(u : Int) else u, ((1 + 0 : Nat) : Int)⟩, ?_, rfl, rfl, rfl⟩
   unfold tokensM
   rw [if_neg (by simp only [List.length_append, List.length_singleton, hcl]; split <;> omega), hstep, show (([44] : List UInt8) ++ core).length = core.length - 2 + 3 by simp; omega, r1]
   show (if 400 < _ then _ else _) = _
   rw [if_neg (by simp; omega)]
end Go.Proofs.YtljhpmggifjigaaDoor.Ab
