/- The program's reader of values: a number's text. -/
import Derived.Test.YtiahgnkffnokfaaGreatDoorDiC
set_option linter.all false
set_option linter.unusedVariables false
set_option linter.unusedSimpArgs false
set_option maxRecDepth 100000
set_option maxHeartbeats 4000000
namespace Go.Proofs.YtiahgnkffnokfaaGreatDoor.Ab
open Go Go.AI
def numT (b : Bool) (ds : List UInt8) : List UInt8 := if b then 45 :: ds else ds
structure NumOk (b : Bool) (ds : List UInt8) : Prop where
 hd : ∀ c ∈ ds, isD c = true
 hn : ds ≠ []
 hl : ds.length ≤ 19
 hz : ds[0]? = some 48 → ds.length = 1
 hx : valD ds 0 ≤ lim53 b
theorem itoa_num (n : Int) (h1 : -9223372036854775808 ≤ n) (h2 : n ≤ 9223372036854775807) : ∃ b ds, Lib.itoa n = numT b ds ∧ NumOk b ds ∧ sgn b (valD ds 0) = n := by
 have pw : (10 : Nat) ^ 19 = 10000000000000000000 := by decide
 have z : Lib.decDigits 0 = [48] := by rw [Lib.decDigits, dif_pos (by decide)]; rfl
 have hd : ∀ l : List UInt8, l[0]? = some 48 → l.head? = some 48 := fun l h => by cases l with | nil => cases h | cons a l => exact h
 unfold Lib.itoa
 by_cases h0 : n < 0
 ·obtain ⟨v1, v2, v3⟩ := dec_val (n.natAbs + 1) n.natAbs (by omega)
  refine ⟨true, Lib.decDigits n.natAbs, by rw [if_pos h0]; rfl, ⟨v2, v3, dec_len 18 _ (by omega), fun e => ?_, ?_⟩, ?_⟩
  ·have := dec_head (n.natAbs + 1) n.natAbs (by omega) (hd _ e)
   rw [this, z]; rfl
  ·rw [v1]; show n.natAbs ≤ 9223372036854775808; omega
  ·rw [v1]; show -((n.natAbs : Nat) : Int) = n; omega
 ·obtain ⟨v1, v2, v3⟩ := dec_val (n.toNat + 1) n.toNat (by omega)
  refine ⟨false, Lib.decDigits n.toNat, by rw [if_neg h0]; rfl, ⟨v2, v3, dec_len 18 _ (by omega), fun e => ?_, ?_⟩, ?_⟩
  ·have := dec_head (n.toNat + 1) n.toNat (by omega) (hd _ e)
   rw [this, z]; rfl
  ·rw [v1]; show n.toNat ≤ 9223372036854775807; omega
  ·rw [v1]; show ((n.toNat : Nat) : Int) = n; omega
theorem numT_first {b : Bool} {ds : List UInt8} (h : NumOk b ds) : ∃ c l, numT b ds = c :: l ∧ (c = 45 ∧ b = true ∧ l = ds ∨ b = false ∧ isD c = true ∧ c :: l = ds) := by
 cases b
 ·cases hds : ds with
  | nil => exact absurd hds h.hn
  | cons c l => exact ⟨c, l, rfl, .inr ⟨rfl, h.hd c (by rw [hds]; simp), rfl⟩⟩
 ·exact ⟨45, ds, rfl, .inl ⟨rfl, rfl, rfl⟩⟩
theorem num53 (b : Bool) (ds : List UInt8) (H : NumOk b ds) : Om 53 [P0] [rO (numT b ds) 0] = some (kA (numV (sgn b (valD ds 0))).row, [rO [] 0]) := by
 refine (orc_none rfl).trans ?_
 show lim tab.get S 53 1 0 [P0] { ims := [rO (numT b ds) 0], owns := .nil } = _
 have c := fun {β : Type} {k : TVal → Heap → Option β} {h : Heap} {d : Nat} => u76 (β := β) (k := k) (h := h) (d := d) ds H.hd H.hz H.hn
 have n0 : ¬ ((ds.length : Nat) : Int) = 0 := by have := List.length_pos_iff.2 H.hn; omega
 have n1 : ¬ (19 : Int) < ((ds.length : Nat) : Int) := by have := H.hl; omega
 have t1 : (if (numT b ds).take ([45] : List UInt8).length = [45] then (numT b ds).drop ([45] : List UInt8).length else numT b ds) = ds ∧ decide ((numT b ds).take ([45] : List UInt8).length = [45]) = b := by
  obtain ⟨x, l, e, h | h⟩ := numT_first H
  ·obtain ⟨rfl, rfl, rfl⟩ := h
   exact ⟨rfl, rfl⟩
  ·obtain ⟨rfl, h1, h2⟩ := h
   have : ¬ ([x] : List UInt8) = [45] := fun e => by
    have e2 : x = 45 := by simpa using e
    rw [e2] at h1; exact absurd h1 (by decide)
   rw [e]
   show (if [x] = [45] then _ else _) = _ ∧ decide ([x] = [45]) = false
   rw [if_neg this]
   exact ⟨h2, decide_eq_false this⟩
 have u := fun (k : TVal → Heap → Option (TVal × List AObj)) => u48 (k := k) (d := 10) (h := (Heap.mk [rO (numT b ds) 0] .nil).own 2 1 (.cells Z6 0)) (.im 0) (numT b ds) [45] rfl
 simp only [t1.1, t1.2] at u
 have hput : ((Heap.mk [rO (numT b ds) 0] .nil).own 2 1 (.cells Z6 0)).put (.im 0) (rO ds 0) = (Heap.mk [rO ds 0] .nil).own 2 1 (.cells Z6 0) := rfl
 simp only [hput] at u
 have hg : ((Heap.mk [rO ds 0] .nil).own 2 1 (.cells Z6 0)).get (.im 0) = some (rO ds 0) := rfl
 rw [w53_0, b53_0, valloc]
 show vcall Om (.v (.c (.func 48 []))) [P0, kS [45]] ((Heap.mk [rO (numT b ds) 0] .nil).own 2 1 (.cells Z6 0)) 10 _ = _
 rw [u]
 simp (config := { maxSteps := 10000000 }) +contextual only [exa, ne_eq, not_false_eq_true, Nat.reduceAdd, Nat.reduceMul, Nat.reduceLT, Nat.reduceLeDiff, Nat.reduceEqDiff, Int.reduceLT, Int.reduceLE, Int.reduceEq, Int.reduceToNat, exY, hg, rO_g0, rO_g1, rO_len, c, n0, n1, if_false, oneOf]
 exact num1 b ds H.hd H.hx H.hl _ rfl hg rfl
theorem put_same (h : Heap) (i : Nat) (o : AObj) (hg : h.get (.im i) = some o) : h.put (.im i) o = h := by
 obtain ⟨ims, owns⟩ := h
 have hg2 : ims[i]? = some o := by
  unfold Heap.get at hg
  cases hi : ims[i]? with
  | none => simp only [hi] at hg; cases hg
  | some a => simp only [hi] at hg; cases a <;> first | exact hg | cases hg
 show Heap.mk (ims.set i o) owns = Heap.mk ims owns
 have : ims.set i o = ims := by
  apply List.ext_getElem?
  intro j
  rw [List.getElem?_set]
  by_cases hj : i = j
  ·subst hj
   have := (List.getElem?_eq_some_iff.1 hg2).1
   rw [if_pos rfl, if_pos this, hg2]
  ·rw [if_neg hj]
 rw [this]
theorem u27 {β : Type} {k : TVal → Heap → Option β} {h : Heap} {d : Nat} (r : Ref) (s : List UInt8) (e : Int) (hb : noB s) (hg : h.get r = some (rO s e)) : vcall Om (.v (.c (.func 27 []))) [.v (.c (.ptr r 0))] h d k = k (.tup []) (h.put r (rO s e)) :=
 vcall_p 27 r 0 [] [] _ _ _ rfl rfl hg (plain_rO _ _) (plain_rO _ _) rfl (blanks27 s e hb)
theorem u27i {β : Type} {k : TVal → Heap → Option β} {h : Heap} {d : Nat} (s : List UInt8) (e : Int) (hb : noB s) (hg : h.get (.im 0) = some (rO s e)) : vcall Om (.v (.c (.func 27 []))) [P0] h d k = k (.tup []) h := by
 rw [u27 (.im 0) s e hb hg, put_same h 0 _ hg]
theorem u46s {β : Type} {k : TVal → Heap → Option β} {h : Heap} {d : Nat} (b : UInt8) : vcall Om (.v (.c (.func 46 []))) [kS [110, 116, 102, 45, 48, 49, 50, 51, 52, 53, 54, 55, 56, 57, 34, 91, 123], kS [b]] h d k = k (kB (isStart b.toNat)) h := vcall_pure 46 _ _ rfl (start46 b) rfl
theorem u46n {β : Type} {k : TVal → Heap → Option β} {h : Heap} {d : Nat} (b : UInt8) : vcall Om (.v (.c (.func 46 []))) [kS [110, 116, 102], kS [b]] h d k = k (kB (isNtf b.toNat)) h := vcall_pure 46 _ _ rfl (ntf46 b) rfl
theorem u53 {β : Type} {k : TVal → Heap → Option β} {h : Heap} {d : Nat} (r : Ref) (b : Bool) (ds : List UInt8) (H : NumOk b ds) (hg : h.get r = some (rO (numT b ds) 0)) : vcall Om (.v (.c (.func 53 []))) [.v (.c (.ptr r 0))] h d k = k (kA (numV (sgn b (valD ds 0))).row) (h.put r (rO [] 0)) :=
 vcall_p 53 r 0 [] [] _ _ _ rfl rfl hg (plain_rO _ _) (plain_rO _ _) (by simp only [exP]) (num53 b ds H)
/-- A sign that does not stand ahead is not taken. -/
theorem u48n {β : Type} {k : TVal → Heap → Option β} {h : Heap} {d : Nat} (s w : List UInt8) (hg : h.get (.im 0) = some (rO s 0)) (hw : ¬ s.take w.length = w) : vcall Om (.v (.c (.func 48 []))) [P0, kS w] h d k = k (kB false) h := by
 rw [u48 (.im 0) s w hg, if_neg hw, decide_eq_false hw, put_same h 0 _ hg]
theorem numT_ne {b : Bool} {ds : List UInt8} (H : NumOk b ds) (w : List UInt8) (hw : ∀ c l, w = c :: l → c ≠ 45 ∧ isD c = false) (hn : w ≠ []) : ¬ (numT b ds).take w.length = w := by
 intro e
 obtain ⟨x, l, e1, h⟩ := numT_first H
 cases w with
 | nil => exact hn rfl
 | cons c w =>
  rw [e1] at e
  have : x = c := by simpa using congrArg List.head? e
  subst this
  obtain ⟨g1, g2⟩ := hw x w rfl
  rcases h with ⟨h, _, _⟩ | ⟨_, h, _⟩
  ·exact g1 h
  ·rw [g2] at h; cases h
theorem num26 (b : Bool) (ds : List UInt8) (H : NumOk b ds) : Om 26 [P0, kI 1] [rO (numT b ds) 0] = some (kA (numV (sgn b (valD ds 0))).row, [rO [] 0]) := by
 refine (orc_none rfl).trans ?_
 show lim tab.get S 26 1 0 [P0, kI 1] { ims := [rO (numT b ds) 0], owns := .nil } = _
 obtain ⟨x, l, e, hx⟩ := numT_first H
 have hxs : isStart x.toNat = true ∧ isNtf x.toNat = false ∧ isBl x.toNat = false := by
  rcases hx with ⟨rfl, _, _⟩ | ⟨_, h, _⟩
  ·exact ⟨by decide, by decide, by decide⟩
  ·obtain ⟨h1, h2⟩ := isD_n h
   unfold isStart isNtf isBl
   have e1 : ∀ y, y < 48 → Nat.beq x.toNat y = false := fun y hy => by apply Bool.eq_false_iff.2; intro hh; have := Nat.eq_of_beq_eq_true hh; omega
   have e2 : ∀ y, 57 < y → Nat.beq x.toNat y = false := fun y hy => by apply Bool.eq_false_iff.2; intro hh; have := Nat.eq_of_beq_eq_true hh; omega
   have e3 : Nat.ble 48 x.toNat = true := Nat.ble_eq_true_of_le h1
   have e4 : Nat.ble x.toNat 57 = true := Nat.ble_eq_true_of_le h2
   simp [e1, e2, e3, e4]
 have nb : noB (numT b ds) := by
  intro c hc
  rw [e] at hc
  obtain rfl : x = c := by simpa using hc
  exact hxs.2.2
 have c27 := fun {β : Type} {k : TVal → Heap → Option β} {h : Heap} {d : Nat} (hg : h.get (.im 0) = some (rO (numT b ds) 0)) => u27i (β := β) (k := k) (h := h) (d := d) (numT b ds) 0 nb hg
 have n1 := fun {β : Type} {k : TVal → Heap → Option β} {h : Heap} {d : Nat} (hg : h.get (.im 0) = some (rO (numT b ds) 0)) => u48n (β := β) (k := k) (h := h) (d := d) (numT b ds) [110, 117, 108, 108] hg (numT_ne H [110, 117, 108, 108] (fun c l h => by cases h; decide) (by simp))
 have n2 := fun {β : Type} {k : TVal → Heap → Option β} {h : Heap} {d : Nat} (hg : h.get (.im 0) = some (rO (numT b ds) 0)) => u48n (β := β) (k := k) (h := h) (d := d) (numT b ds) [116, 114, 117, 101] hg (numT_ne H [116, 114, 117, 101] (fun c l h => by cases h; decide) (by simp))
 have n3 := fun {β : Type} {k : TVal → Heap → Option β} {h : Heap} {d : Nat} (hg : h.get (.im 0) = some (rO (numT b ds) 0)) => u48n (β := β) (k := k) (h := h) (d := d) (numT b ds) [102, 97, 108, 115, 101] hg (numT_ne H [102, 97, 108, 115, 101] (fun c l h => by cases h; decide) (by simp))
 have n4 := fun {β : Type} {k : TVal → Heap → Option β} {h : Heap} {d : Nat} (hg : h.get (.im 0) = some (rO (numT b ds) 0)) => u48n (β := β) (k := k) (h := h) (d := d) (numT b ds) [34] hg (numT_ne H [34] (fun c l h => by cases h; decide) (by simp))
 have n5 := fun {β : Type} {k : TVal → Heap → Option β} {h : Heap} {d : Nat} (hg : h.get (.im 0) = some (rO (numT b ds) 0)) => u48n (β := β) (k := k) (h := h) (d := d) (numT b ds) [91] hg (numT_ne H [91] (fun c l h => by cases h; decide) (by simp))
 have n6 := fun {β : Type} {k : TVal → Heap → Option β} {h : Heap} {d : Nat} (hg : h.get (.im 0) = some (rO (numT b ds) 0)) => u48n (β := β) (k := k) (h := h) (d := d) (numT b ds) [123] hg (numT_ne H [123] (fun c l h => by cases h; decide) (by simp))
 have hs : ¬ numT b ds = [] := by rw [e]; simp
 have s1 : ∀ {β : Type} {k : TVal → Heap → Option β} {hh : Heap} {d : Nat}, vop Om (.slice 0 true (.k (kS (numT b ds))) none (some (.k (kI 1))) none) hh d k = k (kS [x]) hh := fun {β k hh d} => (vslice_h (numT b ds) 1 (by rw [e]; simp)).trans (by rw [e]; rfl)
 rw [w26_0, b26_0]
 simp (config := { maxSteps := 10000000 }) +contextual only [exa, ne_eq, not_false_eq_true, Nat.reduceAdd, Nat.reduceMul, Nat.reduceLT, Nat.reduceLeDiff, Nat.reduceEqDiff, Int.reduceLT, Int.reduceLE, Int.reduceEq, Int.reduceToNat, exY, rO_h, rO_g0, rO_g1, rO_len, c27, n1, n2, n3, n4, n5, n6, hs, s1, u46s, u46n, hxs.1, hxs.2.1, u53 _ b ds H, if_false, oneOf]
end Go.Proofs.YtiahgnkffnokfaaGreatDoor.Ab
