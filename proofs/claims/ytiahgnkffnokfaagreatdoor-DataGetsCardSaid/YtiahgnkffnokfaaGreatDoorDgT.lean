/- A table's keys stand in order, each once: plain. -/
import Derived.Test.YtiahgnkffnokfaaGreatDoorDgS
set_option linter.all false
set_option linter.unusedVariables false
set_option linter.unusedSimpArgs false
set_option maxRecDepth 100000
namespace Go.Proofs.YtiahgnkffnokfaaGreatDoor.Ab
open Go Go.AI
theorem kl_irr : ∀ a ∈ keyL, bless a a = false := by decide +kernel
theorem kl_tot : ∀ a ∈ keyL, ∀ b ∈ keyL, a = b ∨ bless a b = true ∨ bless b a = true := by decide +kernel
theorem kl_tra : ∀ a ∈ keyL, ∀ b ∈ keyL, ∀ c ∈ keyL, bless a b = true → bless b c = true → bless a c = true := by decide +kernel
theorem keyM_in (n : Int) : keyM n ∈ keyL := by
 have h := withinM_lt n 8 (by decide)
 have h1 : (withinM n 8).toNat < keyL.length := by show _ < 8; omega
 unfold keyM
 rw [List.getD_eq_getElem?_getD, List.getElem?_eq_getElem h1]
 exact List.getElem_mem h1
def Srt : List (List UInt8) → Prop
 | [] => True
 | a :: l => a ∈ keyL ∧ (∀ b ∈ l, bless a b = true) ∧ Srt l
theorem Srt.mem : ∀ {l : List (List UInt8)}, Srt l → ∀ a ∈ l, a ∈ keyL
 | a :: l, h, b, hb => by
  rcases List.mem_cons.1 hb with rfl | hb
  ·exact h.1
  ·exact h.2.2.mem b hb
theorem Srt.ins {key : List UInt8} (hk : key ∈ keyL) : ∀ {l : List (List UInt8)}, Srt l → l[leadM key l]? ≠ some key → Srt (l.take (leadM key l) ++ [key] ++ l.drop (leadM key l))
 | [], _, _ => by
  show Srt [key]
  exact ⟨hk, (fun b hb => by cases hb), trivial⟩
 | a :: l, h, hn => by
  cases hb : bless a key with
  | true =>
   have e : leadM key (a :: l) = leadM key l + 1 := by rw [leadM, if_pos hb]
   rw [e] at hn ⊢
   rw [List.getElem?_cons_succ] at hn
   have ih := h.2.2.ins hk hn
   rw [List.take_succ_cons, List.drop_succ_cons, List.cons_append, List.cons_append]
   refine ⟨h.1, fun b hb2 => ?_, ih⟩
   simp only [List.mem_append, List.mem_singleton] at hb2
   rcases hb2 with (hb2 | rfl) | hb2
   ·exact h.2.1 b (List.mem_of_mem_take hb2)
   ·exact hb
   ·exact h.2.1 b (List.mem_of_mem_drop hb2)
  | false =>
   have e : leadM key (a :: l) = 0 := by rw [leadM, if_neg (by rw [hb]; decide)]
   rw [e] at hn ⊢
   have hne : a ≠ key := fun e => hn (by simp [e])
   have hka : bless key a = true := by
    rcases kl_tot a h.1 key hk with e | e | e
    ·exact absurd e hne
    ·rw [hb] at e; cases e
    ·exact e
   refine ⟨hk, fun b hb2 => ?_, h⟩
   rcases List.mem_cons.1 hb2 with rfl | hb2
   ·exact hka
   ·exact kl_tra key hk a h.1 b (h.mem b (by simp [hb2])) hka (h.2.1 b hb2)
theorem Srt.idx : ∀ {l : List (List UInt8)}, Srt l → ∀ (k : Nat) (x : List UInt8), l[k]? = some x → idxM x l = some k
 | a :: l, h, 0, x, e => by
  simp only [List.getElem?_cons_zero, Option.some.injEq] at e
  rw [idxM, if_pos e.symm]
 | a :: l, h, k + 1, x, e => by
  rw [List.getElem?_cons_succ] at e
  have hx := List.mem_of_getElem? e
  have hne : ¬ x = a := fun e2 => by
   have := h.2.1 x hx
   rw [e2, kl_irr a h.1] at this
   cases this
  rw [idxM, if_neg hne, h.2.2.idx k x e]
  rfl
structure TabI (n : Nat) (v : VT) : Prop where
 kd : v.kind = 5
 so : Srt v.keys.list
 ev : evenT n v
theorem TabI.put {n : Nat} {v x : VT} {key : List UInt8} (H : TabI n v) (hk : key ∈ keyL) : TabI (n + 1) (putM v key x) := by
 refine ⟨?_, ?_, put_even n v x key H.ev⟩
 ·unfold putM
  split
  ·exact H.kd
  ·exact H.kd
 ·unfold putM
  split
  ·exact H.so
  ·rename_i hn
   exact H.so.ins hk hn
theorem TabI.all : ∀ (g : List VT) (n : Nat) (v : VT) (ks : List Int), TabI n v → TabI (n + g.length) (tabM v ks g)
 | [], _, _, _, H => H
 | x :: g, n, v, ks, H => by
  rw [tabM, List.length_cons, show n + (g.length + 1) = n + 1 + g.length by omega]
  exact TabI.all g (n + 1) _ _ (H.put (keyM_in _))
theorem good_inv (r : RT) (d : Int) : (goodR r d).keys.list = [] ∨ ∃ n, TabI n (goodR r d) := by
 rw [goodR_eq]
 unfold goodK
 split
 ·exact .inl rfl
 split
 ·exact .inl rfl
 split
 ·exact .inl rfl
 split
 ·exact .inl rfl
 split
 ·exact .inr ⟨_, TabI.all _ 0 _ _ ⟨rfl, trivial, ⟨rfl, Nat.le_refl _⟩⟩⟩
 ·exact .inl rfl
theorem get_none {v : VT} (h : v.keys.list = []) (key : List UInt8) : getM v key = none := by
 unfold getM
 rw [h]
 split <;> rfl
theorem get_at {n : Nat} {v : VT} (H : TabI n v) {k : Nat} {x : List UInt8} (hx : v.keys.list[k]? = some x) : ∃ y, v.l.list[k]? = some y ∧ getM v x = some y := by
 have hk : k < v.keys.list.length := (List.getElem?_eq_some_iff.1 hx).1
 have he : v.keys.list.length = v.l.list.length := H.ev.1
 obtain ⟨y, hy⟩ : ∃ y, v.l.list[k]? = some y := ⟨v.l.list[k]'(by omega), by simp⟩
 refine ⟨y, hy, ?_⟩
 unfold getM
 rw [if_pos H.kd, H.so.idx k x hx]
 exact hy
end Go.Proofs.YtiahgnkffnokfaaGreatDoor.Ab
