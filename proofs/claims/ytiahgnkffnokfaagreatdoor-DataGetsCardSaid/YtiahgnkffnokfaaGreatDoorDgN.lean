/- Values made of raw ones. -/
import Derived.Test.YtiahgnkffnokfaaGreatDoorDgM
set_option linter.all false
set_option linter.unusedVariables false
set_option linter.unusedSimpArgs false
set_option maxRecDepth 100000
namespace Go.Proofs.YtiahgnkffnokfaaGreatDoor.Ab
open Go Go.AI
def kindM (k deep : Int) : Int := if deep ≤ 1 ∧ 4 ≤ withinM k 6 then 2 else withinM k 6
def keyL : List (List UInt8) := [[97], [98], [99], [110, 97, 109, 101], [110], [], [120, 34, 121], [10]]
def keyM (n : Int) : List UInt8 := keyL.getD (withinM n 8).toNat []
def tabM : VT → List Int → List VT → VT
 | v, _, [] => v
 | v, ks, g :: gs => tabM (putM v (keyM (ks.headD 0)) g) ks.tail gs
def v0 (k : Int) : VT := .mk k false 0 [] .nil .nil
def goodK (k n : Int) (s : Sl UInt8) (ks : List Int) (g : List VT) : VT :=
 if k = 1 then .mk 1 (decide (n.tmod 2 = 0)) 0 [] .nil .nil else if k = 2 then .mk 2 false n [] .nil .nil else if k = 3 then .mk 3 false 0 (textM s.list) .nil .nil else
 if k = 4 then .mk 4 false 0 [] .nil (grown g) else if k = 5 then tabM (v0 5) ks g else v0 k
mutual
def goodR : RT → Int → VT
 | .mk k n s ks l, deep => goodK (kindM k deep) n s ks.list (goodS l (IntKind.i64.wrap (deep - 1)))
def goodS : Sl RT → Int → List VT
 | .nil, _ => []
 | .mk _ l, d => goodL l d
def goodL : List RT → Int → List VT
 | [], _ => []
 | r :: rs, d => goodR r d :: goodL rs d
end
theorem goodS_eq (l : Sl RT) (d : Int) : goodS l d = goodL l.list d := by cases l <;> simp [goodS, goodL, Sl.list]
theorem goodR_eq (r : RT) (d : Int) : goodR r d = goodK (kindM r.kind d) r.n r.s r.keys.list (goodL r.kids.list (IntKind.i64.wrap (d - 1))) := by
 cases r with
 | mk k n s ks l => rw [goodR, goodS_eq]; rfl
theorem goodL_len (d : Int) : ∀ l : List RT, (goodL l d).length = l.length
 | [] => rfl
 | r :: l => by rw [goodL, List.length_cons, goodL_len d l, List.length_cons]
mutual
def smR : RT → Prop
 | .mk k n s ks l => l.len ≤ 12 ∧ s.len ≤ 50 ∧ ks.len ≤ 12 ∧ smS l
def smS : Sl RT → Prop
 | .nil => True
 | .mk _ l => smL l
def smL : List RT → Prop
 | [] => True
 | r :: rs => smR r ∧ smL rs
end
theorem smL_eq : ∀ l : List RT, smL l ↔ ∀ x ∈ l, smR x
 | [] => by simp [smL]
 | r :: l => by simp [smL, smL_eq l]
theorem smR_eq (r : RT) : smR r ↔ r.kids.len ≤ 12 ∧ r.s.len ≤ 50 ∧ r.keys.len ≤ 12 ∧ ∀ x ∈ r.kids.list, smR x := by
 cases r with
 | mk k n s ks l =>
  rw [smR, ← smL_eq]
  cases l <;> simp [smS, smL, Sl.list, RT.kids, RT.s, RT.keys]
theorem few_sm : ∀ (n : Nat) (r : RT), SizeOf.sizeOf r < n → ∀ m : Int, m ≤ 1000 → 0 ≤ fewR r m ∧ (fewR r m ≤ m ∨ m < 0) ∧ (fewR r m ≠ 0 → smR r) := by
 intro n
 induction n with
 | zero => intro r h; omega
 | succ n ih =>
  intro r hs m hm
  have hl : ∀ l : List RT, (∀ x ∈ l, SizeOf.sizeOf x < n) → ∀ m : Int, 0 ≤ m → m ≤ 1000 → 0 ≤ fewL l m ∧ fewL l m ≤ m ∧ (fewL l m ≠ 0 → ∀ x ∈ l, smR x) := by
   intro l
   induction l with
   | nil => intro _ m h0 _; exact ⟨h0, Int.le_refl _, fun _ x hx => by cases hx⟩
   | cons x l ihl =>
    intro hx m h0 h1
    unfold fewL
    by_cases hp : 0 < m
    ·rw [if_pos hp]
     obtain ⟨a1, a2, a3⟩ := ih x (hx x (by simp)) m h1
     have a2' : fewR x m ≤ m := by rcases a2 with a | a <;> omega
     obtain ⟨b1, b2, b3⟩ := ihl (fun y hy => hx y (by simp [hy])) (fewR x m) a1 (by omega)
     refine ⟨b1, by omega, fun hz y hy => ?_⟩
     rcases List.mem_cons.1 hy with rfl | hy
     ·exact a3 (by omega)
     ·exact b3 hz y hy
    ·rw [if_neg hp]
     exact ⟨h0, Int.le_refl _, fun hz => by omega⟩
  rw [fewR_eq]
  cases hb : bigR r m
  ·simp only [Bool.false_eq_true, if_false]
   have hb' := hb
   simp only [bigR, Bool.or_eq_false_iff, decide_eq_false_iff_not, Bool.not_eq_false', decide_eq_true_eq] at hb'
   obtain ⟨⟨⟨h1, h2⟩, h3⟩, h4⟩ := hb'
   rw [wrap_i64 (m - 1) (by omega) (by omega)]
   obtain ⟨c1, c2, c3⟩ := hl r.kids.list (fun x hx => by have := RT.mem_size hx; omega) (m - 1) (by omega) (by omega)
   exact ⟨c1, by omega, fun hz => (smR_eq r).2 ⟨by omega, by omega, by omega, c3 hz⟩⟩
  ·simp only [if_true]
   exact ⟨Int.le_refl _, by omega, fun hz => absurd rfl hz⟩
theorem few_small {r : RT} {m : Int} (hm : m ≤ 1000) (h : fewR r m ≠ 0) : smR r := (few_sm _ r (Nat.lt_succ_self _) m hm).2.2 h
end Go.Proofs.YtiahgnkffnokfaaGreatDoor.Ab
