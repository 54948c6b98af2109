/- CallsPlaces, whatever the value, the place, the key. -/
import Derived.Test.YtiahgnkffnokfaaGreatDoorDgO
import Derived.Test.YtiahgnkffnokfaaGreatDoorDgR
set_option linter.all false
set_option linter.unusedVariables false
set_option linter.unusedSimpArgs false
set_option maxRecDepth 100000
namespace Go.Proofs.YtiahgnkffnokfaaGreatDoor.Ab
open Go Go.AI
theorem nul_sm : smV VT.nul := (smV_eq _).2 ⟨by show 0 ≤ 100000; decide, by show 0 ≤ 1000; decide, by show 0 ≤ 1000; decide, fun x hx => by cases hx⟩
theorem flat_sm (k : Int) (b : Bool) (n : Int) (s : List UInt8) (hs : s.length ≤ 100000) : smV (.mk k b n s .nil .nil) := (smV_eq _).2 ⟨hs, by show 0 ≤ 1000; decide, by show 0 ≤ 1000; decide, fun x hx => by cases hx⟩
theorem cloneS_len {α : Type} (s : Sl α) : (cloneS s).len = s.len := by unfold Sl.len; rw [cloneS_list]
theorem ownS_list (s : Sl VT) : (ownS s).list = s.list.map ownV := by
 cases s with
 | nil => rfl
 | mk t l => rw [ownS_mk]; rfl
theorem own_sm : ∀ (m : Nat) (v : VT), SizeOf.sizeOf v < m → smV v → smV (ownV v) := by
 intro m
 induction m with
 | zero => intro v h; omega
 | succ m ih =>
  intro v hs sm
  obtain ⟨t1, t2, t3, t4⟩ := (smV_eq v).1 sm
  rw [ownV_eq]
  refine (smV_eq _).2 ⟨t1, by show (cloneS v.keys).len ≤ 1000; rw [cloneS_len]; exact t2, by show (ownS v.l).len ≤ 1000; unfold Sl.len; rw [ownS_list, List.length_map]; exact t3, fun x hx => ?_⟩
  have hx' : x ∈ (ownS v.l).list := hx
  rw [ownS_list] at hx'
  obtain ⟨y, hy, rfl⟩ := List.mem_map.1 hx'
  exact ih y (by have := VT.mem_size hy; omega) (t4 y hy)
theorem same_own : ∀ (m : Nat) (v : VT), SizeOf.sizeOf v < m → sameV (ownV v) v = true ∧ sameV v v = true := by
 intro m
 induction m with
 | zero => intro v h; omega
 | succ m ih =>
  intro v hs
  have hl : ∀ l : List VT, (∀ x ∈ l, SizeOf.sizeOf x < m) → sameL (l.map ownV) l = true ∧ sameL l l = true := by
   intro l
   induction l with
   | nil => intro _; simp [sameL]
   | cons x l ihl =>
    intro hx
    obtain ⟨a, b⟩ := ih x (hx x (by simp))
    obtain ⟨c, d⟩ := ihl (fun y hy => hx y (by simp [hy]))
    rw [List.map_cons, sameL, sameL, a, b, c, d]; simp
  obtain ⟨p, q⟩ := hl v.l.list (fun x hx => by have := VT.mem_size hx; omega)
  rw [sameV_eq, sameV_eq v v, q]
  have e1 : (ownV v).kind = v.kind := by rw [ownV_eq]; rfl
  have e2 : (ownV v).b = v.b := by rw [ownV_eq]; rfl
  have e3 : (ownV v).n = v.n := by rw [ownV_eq]; rfl
  have e4 : (ownV v).s = v.s := by rw [ownV_eq]; rfl
  have e5 : (ownV v).keys.list = v.keys.list := by rw [ownV_eq]; exact cloneS_list _
  have e6 : (ownV v).l.list = v.l.list.map ownV := by rw [ownV_eq]; exact ownS_list _
  rw [e1, e2, e3, e4, e5, e6, p]
  simp
theorem sm_own {v : VT} (sm : smV v) : smV (ownV v) := own_sm _ v (Nat.lt_succ_self _) sm
theorem sameO (v : VT) : sameV (ownV v) v = true := (same_own _ v (Nat.lt_succ_self _)).1
theorem sameR (v : VT) : sameV v v = true := (same_own _ v (Nat.lt_succ_self _)).2
theorem put_sm (n : Nat) (v x : VT) (key : List UInt8) (hn : n < 1000) (ev : evenT n v) (sm : smV v) (sx : smV x) : smV (putM v key x) := by
 have e2 := put_even n v x key ev
 unfold putM at e2 ⊢
 split
 ·exact sm
 ·rename_i hne
  rw [if_neg hne] at e2
  obtain ⟨t1, t2, t3, t4⟩ := (smV_eq v).1 sm
  obtain ⟨f1, f2⟩ := e2
  refine (smV_eq _).2 ⟨t1, by omega, by omega, fun y hy => ?_⟩
  have hy' : y ∈ v.l.list.take (leadM key v.keys.list) ++ [x] ++ v.l.list.drop (leadM key v.keys.list) := hy
  simp only [List.mem_append, List.mem_singleton] at hy'
  rcases hy' with (h | h) | h
  ·exact t4 y (List.mem_of_mem_take h)
  ·rw [h]; exact sx
  ·exact t4 y (List.mem_of_mem_drop h)
theorem tab_sm : ∀ (g : List VT) (n : Nat) (v : VT) (ks : List Int), n + g.length < 1000 → evenT n v → smV v → (∀ x ∈ g, smV x) → smV (tabM v ks g)
 | [], _, _, _, _, _, sm, _ => sm
 | x :: g, n, v, ks, hn, ev, sm, hx => by
  rw [tabM]
  rw [List.length_cons] at hn
  exact tab_sm g (n + 1) _ _ (by omega) (put_even n v x _ ev) (put_sm n v x _ (by omega) ev sm (hx x (by simp))) (fun y hy => hx y (by simp [hy]))
theorem good_sm : ∀ (m : Nat) (r : RT), SizeOf.sizeOf r < m → smR r → ∀ d, smV (goodR r d) := by
 intro m
 induction m with
 | zero => intro r h; omega
 | succ m ih =>
  intro r hs sm d
  obtain ⟨t1, t2, t3, t4⟩ := (smR_eq r).1 sm
  rw [goodR_eq]
  have hg : ∀ x ∈ goodL r.kids.list (IntKind.i64.wrap (d - 1)), smV x := by
   have : ∀ (l : List RT), (∀ x ∈ l, x ∈ r.kids.list) → ∀ x ∈ goodL l (IntKind.i64.wrap (d - 1)), smV x := by
    intro l
    induction l with
    | nil => intro _ x hx; cases hx
    | cons y l ihl =>
     intro hl x hx
     rw [goodL] at hx
     rcases List.mem_cons.1 hx with rfl | hx
     ·have hy := hl y (by simp)
      exact ih y (by have := RT.mem_size hy; omega) (t4 y hy) _
     ·exact ihl (fun z hz => hl z (by simp [hz])) x hx
   exact this _ (fun x hx => hx)
  have hlen := goodL_len (IntKind.i64.wrap (d - 1)) r.kids.list
  have hkl : r.kids.list.length ≤ 12 := t1
  have hsl : r.s.list.length ≤ 50 := t2
  unfold goodK
  split
  ·exact flat_sm _ _ _ _ (by simp)
  split
  ·exact flat_sm _ _ _ _ (by simp)
  split
  ·exact flat_sm _ _ _ _ (by have := textM_len r.s.list; omega)
  split
  ·refine (smV_eq _).2 ⟨by show 0 ≤ 100000; decide, by show 0 ≤ 1000; decide, ?_, fun x hx => ?_⟩
   ·show (grown _).len ≤ 1000
    rw [grown_len]; omega
   ·have hx' : x ∈ (grown (goodL r.kids.list (IntKind.i64.wrap (d - 1)))).list := hx
    rw [grown_list] at hx'
    exact hg x hx'
  split
  ·exact tab_sm _ 0 _ _ (by omega) ⟨rfl, Nat.le_refl _⟩ (flat_sm _ _ _ _ (by simp)) hg
  ·exact flat_sm _ _ _ _ (by simp)
theorem sm_good {r : RT} (sm : smR r) (d : Int) : smV (goodR r d) := good_sm _ r (Nat.lt_succ_self _) sm d
end Go.Proofs.YtiahgnkffnokfaaGreatDoor.Ab
