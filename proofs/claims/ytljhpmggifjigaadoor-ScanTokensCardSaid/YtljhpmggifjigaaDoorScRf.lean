/- The document's words of sources: contracts of its functions; it answers what scan does. -/
import Derived.Test.YtljhpmggifjigaaDoorScS
set_option linter.all false
set_option linter.unusedVariables false
set_option linter.unusedSimpArgs false
set_option maxRecDepth 100000
namespace Go.Proofs.YtljhpmggifjigaaDoor.Ab
open Go Go.AI
theorem rblank_ok (b : UInt8) : Om 20 [kU b] [] = some (kB (isBlank b.toNat), []) := (orc_none rfl).trans (byte_bool blks_ok (p := isBlank) (N := 20) (by kernel_rfl) b)
/-! ### Number -/
theorem rnum_loop (w d : List UInt8) (hd : ∀ b ∈ d, isDigit b.toNat = true) (hl : d.length ≤ 19) : ∀ (m i : Nat) (h : Heap), d.length - i ≤ m → i ≤ d.length →
  lim tab.get S 28 0 2 [kS w, kS d, kN .u64 (numVal (d.take i) : Nat), kI (i : Int)] h = lim tab.get S 28 0 3 [kS w, kN .u64 (numVal d : Nat)] h := by
 intro m
 have done : ∀ (i : Nat) (h : Heap), i = d.length → lim tab.get S 28 0 2 [kS w, kS d, kN .u64 (numVal (d.take i) : Nat), kI (i : Int)] h = lim tab.get S 28 0 3 [kS w, kN .u64 (numVal d : Nat)] h := by
  intro i h hi
  subst hi
  rw [List.take_length, w28_2, b28_2, vlen_s, vbin_lss, decide_eq_false (by omega), vif_f]
 induction m with
 | zero => intro i h h1 h2; exact done i h (by omega)
 | succ m ih =>
  intro i h h1 h2
  by_cases hi : i < d.length
  ·obtain ⟨c, hc⟩ : ∃ c, d[i]? = some c := ⟨d[i], by simp [hi]⟩
   have ht : d.take (i + 1) = d.take i ++ [c] := by
    obtain ⟨q1, q2⟩ := List.getElem?_eq_some_iff.1 hc
    rw [List.take_succ_eq_append_getElem q1, q2]
   have hcd := hd c (List.mem_of_getElem? hc)
   have hcr : 48 ≤ c.toNat ∧ c.toNat ≤ 57 := by simpa [isDigit, Nat.ble_eq] using hcd
   have hb := numVal_lt (d.take i) (fun b hb => hd b (List.mem_of_mem_take hb))
   have hp : (10 : Nat) ^ (d.take i).length ≤ 10 ^ 18 := Nat.pow_le_pow_right (by decide) (by simp; omega)
   have hn : numVal (d.take i) < 1000000000000000000 := by omega
   have hv : numVal (d.take (i + 1)) = 10 * numVal (d.take i) + (c.toNat - 48) := by rw [ht, numVal_snoc]
   rw [w28_2, b28_2, vlen_s, vbin_lss, decide_eq_true (by omega), vif_t, vbin_mul, wrap_u64 _ (by omega) (by omega), vindex_s d i c hc, vbin_sub]
   have e8 : IntKind.u8.wrap ((c.toNat : Int) - 48) = ((c.toNat - 48 : Nat) : Int) := by
    have : IntKind.u8.wrap ((c.toNat : Int) - 48) = (c.toNat : Int) - 48 := wrap_in .u8 _ (by show (0 : Int) ≤ _; omega) (by show _ ≤ (255 : Int); omega)
    rw [this]; omega
   rw [e8, vtoInt_n, wrap_u64 _ (by omega) (by omega), vbin_add, wrap_u64 _ (by omega) (by omega), vbin_add, wrap_i64 _ (by omega) (by omega), show ((i : Int) + 1) = ((i + 1 : Nat) : Int) by omega, show ((numVal (d.take i) : Nat) : Int) * 10 + ((c.toNat - 48 : Nat) : Int) = ((numVal (d.take (i + 1)) : Nat) : Int) by omega]
   exact ih (i + 1) h (by omega) (by omega)
  ·exact done i h (by omega)
def numR (ng : Bool) (d : List UInt8) : Int × Int := if 19 < d.length then (0, 4) else if 9223372036854775807 + (if ng then 1 else 0) < numVal d then (0, 11) else (if ng then -(numVal d : Int) else numVal d, 0)
theorem rnum_end (w : List UInt8) (c : UInt8) (t : List UInt8) (hw : w = c :: t) (d : List UInt8) (hd : ∀ b ∈ d, isDigit b.toNat = true) (h : Heap) :
  lim tab.get S 28 0 1 [kS w, kS d] h = some (.tup [.c (.p (.int .i64 (numR (decide (c.toNat = 45)) d).1)), .c (.p (.int .i64 (numR (decide (c.toNat = 45)) d).2))], []) := by
 rw [w28_1, b28_1, vlen_s, vbin_gtr]
 unfold numR
 by_cases h1 : 19 < d.length
 ·rw [decide_eq_true (by omega), vif_t, tcomp_c, tcomp_c, vfin_pure _ _ rfl, if_pos h1]; rfl
 ·rw [decide_eq_false (by omega), vif_f, if_neg h1]
  have := rnum_loop w d hd (by omega) d.length 0 h (by omega) (by omega)
  refine this.trans ?_
  have hb := numVal_lt d hd
  have hp : (10 : Nat) ^ d.length ≤ 10 ^ 19 := Nat.pow_le_pow_right (by decide) (by omega)
  have hn : numVal d < 10000000000000000000 := by omega
  rw [w28_3, b28_3, show (kI 0 : TVal) = kI ((0 : Nat) : Int) from rfl, vindex_s w 0 c (by rw [hw]; rfl), vbin_eql]
  by_cases hc : c.toNat = 45
  ·rw [decide_eq_true (show (c.toNat : Int) = 45 by omega), vif_t, vbin_gtr, decide_eq_true hc]
   simp only [if_true]
   by_cases h2 : 9223372036854775807 + 1 < numVal d
   ·rw [decide_eq_true (by omega), vif_t, tcomp_c, tcomp_c, vfin_pure _ _ rfl, if_pos h2]; rfl
   ·rw [decide_eq_false (by omega), vif_f, vneg, vtoInt_n, if_neg h2]
    have e : IntKind.i64.wrap (IntKind.u64.wrap (0 - (numVal d : Int))) = -(numVal d : Int) := by
     by_cases h0 : numVal d = 0
     ·rw [h0]; decide
     ·have e1 : IntKind.u64.wrap (0 - (numVal d : Int)) = 18446744073709551616 - (numVal d : Int) := by
       show (0 - (numVal d : Int)) % 18446744073709551616 = _
       omega
      rw [e1]
      have hw : ∀ z : Int, IntKind.i64.wrap z = if 9223372036854775808 ≤ z % 18446744073709551616 then z % 18446744073709551616 - 18446744073709551616 else z % 18446744073709551616 := by
       intro z
       show (if (true && decide (z % (2 ^ 64 : Int) ≥ (2 ^ 63 : Int))) = true then z % (2 ^ 64 : Int) - (2 ^ 64 : Int) else z % (2 ^ 64 : Int)) = _
       simp only [Bool.true_and, decide_eq_true_eq]
       rfl
      rw [hw]
      split <;> omega
    rw [e, tcomp_c, tcomp_c, vfin_pure _ _ rfl]; rfl
  ·rw [decide_eq_false (show ¬ (c.toNat : Int) = 45 by omega), vif_f, vbin_gtr, decide_eq_false hc]
   simp only [Bool.false_eq_true, if_false, Nat.add_zero]
   by_cases h2 : 9223372036854775807 < numVal d
   ·rw [decide_eq_true (by omega), vif_t, tcomp_c, tcomp_c, vfin_pure _ _ rfl, if_pos h2]; rfl
   ·rw [decide_eq_false (by omega), vif_f, vtoInt_n, wrap_i64 _ (by omega) (by omega), tcomp_c, tcomp_c, vfin_pure _ _ rfl, if_neg h2]; rfl
theorem rnumber_ok (c : UInt8) (t : List UInt8) (ht : ∀ b ∈ t, isDigit b.toNat = true) (hc : c.toNat = 45 ∨ isDigit c.toNat = true) :
  Om 28 [kS (c :: t)] [] = some (.tup [.c (.p (.int .i64 (numR (decide (c.toNat = 45)) (if c.toNat = 45 then t else c :: t)).1)), .c (.p (.int .i64 (numR (decide (c.toNat = 45)) (if c.toNat = 45 then t else c :: t)).2))], []) := by
 refine (orc_none rfl).trans ?_
 show lim tab.get S 28 0 0 [kS (c :: t)] h0 = _
 rw [w28_0, b28_0, show (kI 0 : TVal) = kI ((0 : Nat) : Int) from rfl, vindex_s (c :: t) 0 c rfl, vbin_eql]
 by_cases h1 : c.toNat = 45
 ·rw [decide_eq_true (show (c.toNat : Int) = 45 by omega), vif_t, show (kI 1 : TVal) = kI ((1 : Nat) : Int) from rfl, vslice_l (c :: t) 1 (by simp), if_pos h1]
  exact rnum_end (c :: t) c t rfl t ht h0
 ·rw [decide_eq_false (show ¬ (c.toNat : Int) = 45 by omega), vif_f, if_neg h1]
  refine rnum_end (c :: t) c t rfl (c :: t) (fun b hb => ?_) h0
  rcases List.mem_cons.1 hb with rfl | hb
  ·rcases hc with hc | hc
   ·exact absurd hc h1
   ·exact hc
  ·exact ht b hb
/-! ### Quoted -/
def quoM : List UInt8 → List UInt8 → Nat → Option (List UInt8 × Nat)
 | [], _, _ => none
 | [c], acc, i => if c.toNat < 32 then none else if c.toNat = 34 then some (acc, i + 1) else none
 | c :: d :: s, acc, i =>
  if c.toNat < 32 then none
  else if c.toNat = 34 then some (acc, i + 1)
  else if c.toNat = 92 then (match meantM d with
   | none => none
   | some x => quoM s (acc ++ [x]) (i + 2))
  else quoM (d :: s) (acc ++ [c]) (i + 1)
def quoOne : Option (List UInt8 × Nat) → One
 | none => bad 11
 | some (t, k) => if 200 < t.length then bad 4 else ⟨⟨2, t, 0, 0⟩, (k : Int), 0⟩
theorem text_quo : ∀ (n : Nat) (s acc : List UInt8) (i : Nat), s.length ≤ n → textGo s acc i = quoOne (quoM s acc i) := by
 intro n
 induction n with
 | zero => intro s acc i hs; obtain rfl : s = [] := List.length_eq_zero_iff.1 (by omega); rfl
 | succ n ih =>
  intro s acc i hs
  match s, hs with
  | [], _ => rfl
  | [c], _ =>
   rw [textGo, quoM]
   split
   ·rfl
   ·split
    ·rfl
    ·rfl
  | c :: d :: s, hs =>
   rw [textGo, quoM]
   split
   ·rfl
   ·split
    ·rfl
    ·split
     ·cases meantM d with
      | none => rfl
      | some x => exact ih s _ _ (by simp at hs; omega)
     ·exact ih (d :: s) _ _ (by simp at hs ⊢; omega)
theorem quo_shift (j : Nat) : ∀ (n : Nat) (s acc : List UInt8) (i : Nat), s.length ≤ n → quoM s acc (i + j) = (quoM s acc i).map fun p => (p.1, p.2 + j) := by
 intro n
 induction n with
 | zero => intro s acc i hs; obtain rfl : s = [] := List.length_eq_zero_iff.1 (by omega); rfl
 | succ n ih =>
  intro s acc i hs
  match s, hs with
  | [], _ => rfl
  | [c], _ =>
   rw [quoM, quoM]
   split
   ·rfl
   ·split
    ·simp; omega
    ·rfl
  | c :: d :: s, hs =>
   rw [quoM, quoM]
   split
   ·rfl
   ·split
    ·simp; omega
    ·split
     ·cases meantM d with
      | none => rfl
      | some x =>
       show quoM s (acc ++ [x]) (i + j + 2) = Option.map _ (quoM s (acc ++ [x]) (i + 2))
       rw [← ih s _ (i + 2) (by simp at hs; omega), show i + j + 2 = i + 2 + j by omega]
     ·rw [← ih (d :: s) _ (i + 1) (by simp at hs ⊢; omega), show i + j + 1 = i + 1 + j by omega]
def quoV : Option (List UInt8 × Nat) → TVal
 | none => .tup [.c (.p (.str [])), .c (.p (.int .i64 (-1)))]
 | some (t, k) => .tup [.c (.p (.str t)), .c (.p (.int .i64 (k : Int)))]
theorem quoted_loop (s : List UInt8) (hs : s.length ≤ 1500) : ∀ (m i : Nat) (acc : List UInt8) (h : Heap), s.length - i ≤ m → i ≤ s.length → acc.length ≤ i →
  lim tab.get S 29 0 1 [kS s, kI (i : Int), kS acc] h = some (quoV (quoM (s.drop i) acc i), []) := by
 intro m
 have done : ∀ (i : Nat) (acc : List UInt8) (h : Heap), i = s.length → lim tab.get S 29 0 1 [kS s, kI (i : Int), kS acc] h = some (quoV (quoM (s.drop i) acc i), []) := by
  intro i acc h hi
  subst hi
  rw [List.drop_length, w29_1, b29_1, vlen_s, vbin_lss, decide_eq_false (by omega), vif_f, tcomp_c, tcomp_c, vfin_pure _ _ rfl]; rfl
 induction m using Nat.strongRecOn with
 | ind m ih =>
  intro i acc h h1 h2 h3
  by_cases hi : i < s.length
  ·obtain ⟨c, hc⟩ : ∃ c, s[i]? = some c := ⟨s[i], by simp [hi]⟩
   have hd : s.drop i = c :: s.drop (i + 1) := by
    obtain ⟨q1, q2⟩ := List.getElem?_eq_some_iff.1 hc
    rw [List.drop_eq_getElem_cons q1, q2]
   have e1 : IntKind.i64.wrap ((i : Int) + 1) = ((i + 1 : Nat) : Int) := by rw [wrap_i64 _ (by omega) (by omega)]; omega
   rw [w29_1, b29_1, vlen_s, vbin_lss, decide_eq_true (by omega), vif_t, vindex_s s i c hc, vbin_eql]
   by_cases c34 : c.toNat = 34
   ·have : quoM (s.drop i) acc i = some (acc, i + 1) := by
     rw [hd]
     cases hq : s.drop (i + 1) with
     | nil => rw [quoM, if_neg (by omega), if_pos c34]
     | cons d r => rw [quoM, if_neg (by omega), if_pos c34]
    rw [decide_eq_true (show (c.toNat : Int) = 34 by omega), vif_t, vbin_add, e1, tcomp_c, tcomp_c, vfin_pure _ _ rfl, this]; rfl
   rw [decide_eq_false (show ¬ (c.toNat : Int) = 34 by omega), vif_f, vbin_lss]
   by_cases c32 : c.toNat < 32
   ·have : quoM (s.drop i) acc i = none := by
     rw [hd]
     cases hq : s.drop (i + 1) with
     | nil => rw [quoM, if_pos c32]
     | cons d r => rw [quoM, if_pos c32]
    rw [decide_eq_true (show (c.toNat : Int) < 32 by omega), vif_t, tcomp_c, tcomp_c, vfin_pure _ _ rfl, this]; rfl
   rw [decide_eq_false (show ¬ (c.toNat : Int) < 32 by omega), vif_f, vbin_neq]
   by_cases c92 : c.toNat = 92
   ·rw [decide_eq_true (show (c.toNat : Int) = 92 by omega), show (!true) = false from rfl, vif_f, vbin_add, e1, vlen_s, vbin_geq]
    by_cases hl : i + 1 < s.length
    ·obtain ⟨d, hdd⟩ : ∃ d, s[i + 1]? = some d := ⟨s[i + 1], by simp [hl]⟩
     have hd2 : s.drop (i + 1) = d :: s.drop (i + 2) := by
      obtain ⟨q1, q2⟩ := List.getElem?_eq_some_iff.1 hdd
      rw [List.drop_eq_getElem_cons q1, q2]
     have hq : quoM (s.drop i) acc i = match meantM d with | none => none | some x => quoM (s.drop (i + 2)) (acc ++ [x]) (i + 2) := by
      rw [hd, hd2, quoM, if_neg c32, if_neg c34, if_pos c92]
     have e2 : IntKind.i64.wrap ((i : Int) + 2) = ((i + 2 : Nat) : Int) := by rw [wrap_i64 _ (by omega) (by omega)]; omega
     have step3 : ∀ x : UInt8, meantM d = some x → lim tab.get S 29 0 3 [kS s, kI (i : Int), kS (acc ++ [x])] h = some (quoV (quoM (s.drop i) acc i), []) := by
      intro x hx
      rw [hq, hx, w29_3, b29_3, vbin_add, e2]
      exact ih (s.length - (i + 2)) (by omega) (i + 2) (acc ++ [x]) h (Nat.le_refl _) (by omega) (by simp; omega)
     have hsl : (s.take (i + 2)).drop (i + 1) = [d] := by
      rw [List.drop_take, hd2]; simp
     rw [show (!decide (((i + 1 : Nat) : Int) < (s.length : Int))) = false by simp; omega, vif_f, vbin_add, e1, vindex_s s (i + 1) d hdd, vbin_eql]
     by_cases d92 : d.toNat = 92
     ·rw [decide_eq_true (show (d.toNat : Int) = 92 by omega), vif_t, w29_2, b29_2, vif_t, vbin_add, e1, vbin_add, e2, vslice_lh s (i + 1) (i + 2) (by omega) (by omega), hsl, vbin_sadd _ _ _ (by simp; omega)]
      exact step3 d (by unfold meantM; rw [if_neg (by omega), if_neg (by omega), if_neg (by omega), if_pos d92])
     rw [decide_eq_false (show ¬ (d.toNat : Int) = 92 by omega), vif_f, vbin_eql, w29_2, b29_2]
     by_cases d34 : d.toNat = 34
     ·rw [decide_eq_true (show (d.toNat : Int) = 34 by omega), vif_t, vbin_add, e1, vbin_add, e2, vslice_lh s (i + 1) (i + 2) (by omega) (by omega), hsl, vbin_sadd _ _ _ (by simp; omega)]
      exact step3 d (by unfold meantM; rw [if_neg (by omega), if_neg (by omega), if_pos d34])
     rw [decide_eq_false (show ¬ (d.toNat : Int) = 34 by omega), vif_f, vbin_eql]
     by_cases d110 : d.toNat = 110
     ·rw [decide_eq_true (show (d.toNat : Int) = 110 by omega), vif_t, vbin_sadd _ _ _ (by simp; omega)]
      exact step3 10 (by unfold meantM; rw [if_pos d110])
     rw [decide_eq_false (show ¬ (d.toNat : Int) = 110 by omega), vif_f, vbin_eql]
     by_cases d116 : d.toNat = 116
     ·rw [decide_eq_true (show (d.toNat : Int) = 116 by omega), vif_t, vbin_sadd _ _ _ (by simp; omega)]
      exact step3 9 (by unfold meantM; rw [if_neg d110, if_pos d116])
     rw [decide_eq_false (show ¬ (d.toNat : Int) = 116 by omega), vif_f, tcomp_c, tcomp_c, vfin_pure _ _ rfl, hq]
     have : meantM d = none := by unfold meantM; rw [if_neg d110, if_neg d116, if_neg d34, if_neg d92]
     rw [this]; rfl
    ·have hn : s.drop (i + 1) = [] := List.drop_eq_nil_of_le (by omega)
     rw [show (!decide (((i + 1 : Nat) : Int) < (s.length : Int))) = true by simp; omega, vif_t, tcomp_c, tcomp_c, vfin_pure _ _ rfl, hd, hn, quoM, if_neg c32, if_neg c34]; rfl
   ·rw [decide_eq_false (show ¬ (c.toNat : Int) = 92 by omega), show (!false) = true from rfl, vif_t, vbin_add, e1]
    have hsl : (s.take (i + 1)).drop i = [c] := by rw [List.drop_take, hd]; simp
    rw [vslice_lh s i (i + 1) (by omega) (by omega), hsl, vbin_sadd _ _ _ (by simp; omega), vbin_add, e1]
    have := ih (s.length - (i + 1)) (by omega) (i + 1) (acc ++ [c]) h (Nat.le_refl _) (by omega) (by simp; omega)
    rw [this, hd]
    cases hq : s.drop (i + 1) with
    | nil =>
     have e : quoM [c] acc i = none := by rw [quoM, if_neg c32, if_neg c34]
     rw [e]; rfl
    | cons d r =>
     have e : quoM (c :: d :: r) acc i = quoM (d :: r) (acc ++ [c]) (i + 1) := by rw [quoM, if_neg c32, if_neg c34, if_neg c92]
     rw [e]
  ·exact done i acc h (by omega)
theorem quoted_ok (s : List UInt8) (hs : s.length ≤ 1500) (i : Nat) (hi : i < s.length) : Om 29 [kS s, kI (i : Int)] [] = some (quoV (quoM (s.drop (i + 1)) [] (i + 1)), []) := by
 refine (orc_none rfl).trans ?_
 show lim tab.get S 29 0 0 [kS s, kI (i : Int)] h0 = _
 rw [w29_0, b29_0, vbin_add, wrap_i64 _ (by omega) (by omega), show ((i : Int) + 1) = ((i + 1 : Nat) : Int) by omega]
 exact quoted_loop s hs _ (i + 1) [] h0 (Nat.le_refl _) (by omega) (by simp)
end Go.Proofs.YtljhpmggifjigaaDoor.Ab
