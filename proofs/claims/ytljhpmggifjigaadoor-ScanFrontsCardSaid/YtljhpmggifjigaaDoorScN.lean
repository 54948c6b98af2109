/- ScanNumbers: whatever the number, the law returns true. -/
import Derived.Test.YtljhpmggifjigaaDoorScE
set_option linter.all false
set_option linter.unusedVariables false
set_option linter.unusedSimpArgs false
set_option maxRecDepth 100000
namespace Go.Proofs.YtljhpmggifjigaaDoor.Ab
open Go Go.AI
theorem within_ok (a : Int) (n : Nat) (hn : 0 < n) (hn2 : n < 1099511627776) : Om 15 [kI a, kI (n : Int)] [] = some (kI (wi a n), []) := by
 refine (orc_none rfl).trans ?_
 show lim tab.get S 15 0 0 [kI a, kI (n : Int)] h0 = _
 have hb := wi_bounds a (n : Int) (by omega)
 rw [w15_0, b15_0, vbin_rem _ _ _ _ (by omega), vbin_lss, vif_kB]
 unfold wi at hb ⊢
 by_cases h : a.tmod (n : Int) < 0
 ·rw [if_pos (decide_eq_true h)]
  rw [if_pos h] at hb ⊢
  rw [vbin_add, wrap_i64 _ (by omega) (by omega), tcomp_c, vfin_pure _ _ rfl]; rfl
 ·rw [if_neg (by rw [decide_eq_true_eq]; exact h), if_neg h, tcomp_c, vfin_pure _ _ rfl]; rfl
theorem known_ok : Om 12 [] [] = some (kB true, []) := (orc_none rfl).trans (machU_le blks_ok 300 12 0 0 _ _ _ (by kernel_rfl))
/-- A number's digits, ahead of others. -/
def digs : Nat → Nat → List UInt8 → List UInt8
 | 0, _, d => d
 | f + 1, u, d => if u < 10 then UInt8.ofNat (48 + u % 10) :: d else digs f (u / 10) (UInt8.ofNat (48 + u % 10) :: d)
theorem digit_byte (u : Nat) : (UInt8.ofNat (48 + u % 10)).toNat = 48 + u % 10 := by
 have : u % 10 < 10 := Nat.mod_lt _ (by decide)
 rw [UInt8.toNat_ofNat']; omega
theorem numVal_cons (b : UInt8) (d : List UInt8) : numVal (b :: d) = (b.toNat - 48) * 10 ^ d.length + numVal d := by
 have key : ∀ (d : List UInt8) (x : Nat), d.foldl (fun x b => 10 * x + (b.toNat - 48)) x = x * 10 ^ d.length + d.foldl (fun x b => 10 * x + (b.toNat - 48)) 0 := by
  intro d
  induction d with
  | nil => intro x; simp
  | cons c d ih =>
   intro x
   simp only [List.foldl_cons, List.length_cons]
   rw [ih (10 * x + (c.toNat - 48)), ih (10 * 0 + (c.toNat - 48)), Nat.pow_succ]
   generalize 10 ^ d.length = y
   generalize c.toNat - 48 = z
   rw [Nat.add_mul, Nat.add_mul, Nat.mul_comm 10 x, Nat.mul_assoc x 10 y, Nat.mul_comm 10 y]
   omega
 show (List.foldl _ _ _) = _
 rw [List.foldl_cons, key]
 simp [numVal]
theorem digs_spec : ∀ (f u : Nat) (d : List UInt8), u < 10 ^ f → 0 < f → (∀ b ∈ d, isDigit b.toNat = true) →
  (∀ b ∈ digs f u d, isDigit b.toNat = true) ∧ numVal (digs f u d) = u * 10 ^ d.length + numVal d ∧ (digs f u d).length ≤ f + d.length ∧ d.length < (digs f u d).length := by
 intro f
 induction f with
 | zero => intro u d h1 h2; omega
 | succ f ih =>
  intro u d h1 _ hd
  have hb : isDigit (UInt8.ofNat (48 + u % 10)).toNat = true := by
   have : u % 10 < 10 := Nat.mod_lt _ (by decide)
   rw [digit_byte]; simp only [isDigit, Bool.and_eq_true, Nat.ble_eq]; omega
  have hd' : ∀ b ∈ UInt8.ofNat (48 + u % 10) :: d, isDigit b.toNat = true := by
   intro b hbm
   rcases List.mem_cons.1 hbm with rfl | h
   ·exact hb
   ·exact hd b h
  unfold digs
  split
  ·rename_i hu
   refine ⟨hd', ?_, by simp; omega, by simp⟩
   rw [numVal_cons, digit_byte, Nat.mod_eq_of_lt hu]; simp
  ·rename_i hu
   have hf : 0 < f := by
    cases f with
    | zero => simp at h1; omega
    | succ _ => omega
   rw [Nat.pow_succ] at h1
   obtain ⟨a1, a2, a3, a4⟩ := ih (u / 10) (UInt8.ofNat (48 + u % 10) :: d) (by omega) hf hd'
   refine ⟨a1, ?_, by simp only [List.length_cons] at a3 ⊢; omega, by simp only [List.length_cons] at a4; omega⟩
   rw [a2, numVal_cons, digit_byte]
   simp only [List.length_cons, Nat.pow_succ]
   have := Nat.div_add_mod u 10
   generalize 10 ^ d.length = y
   have e : 48 + u % 10 - 48 = u % 10 := by omega
   rw [e]
   have e2 : u / 10 * (y * 10) + (u % 10) * y = u * y := by
    conv => rhs; rw [← this]
    rw [Nat.add_mul, Nat.mul_comm 10 (u / 10), Nat.mul_assoc, Nat.mul_comm 10 y]
   omega
theorem num_loop (n more : Int) (sg : Bool) : ∀ (f u : Nat) (d : List UInt8) (k : Nat) (h : Heap), u < 10 ^ f → 0 < f → u < 18446744073709551616 → (k = 0 ∨ 0 < u) → k ≤ 100 → d.length ≤ 100 → f + k ≤ 30 → f + d.length ≤ 60 →
  ∃ h', lim tab.get S 5 0 2 [kI n, kI more, kB sg, kS d, kN .u64 (u : Int), kI (k : Int)] h = lim tab.get S 5 0 3 [kI n, kI more, kB sg, kS (digs f u d)] h' := by
 intro f
 induction f with
 | zero => intro u d k h h1 h2; omega
 | succ f ih =>
  intro u d k h h1 _ hu hk hk2 hd hfk hfd
  have hm : u % 10 < 10 := Nat.mod_lt _ (by decide)
  have cond : ∃ h1', lim tab.get S 5 0 2 [kI n, kI more, kB sg, kS d, kN .u64 (u : Int), kI (k : Int)] h = lim tab.get S 5 0 2 [kI n, kI more, kB sg, kS (UInt8.ofNat (48 + u % 10) :: d), kN .u64 ((u / 10 : Nat) : Int), kI ((k + 1 : Nat) : Int)] h1' := by
   rw [w5_2, b5_2, vbin_eql]
   have body : ∀ (b : Bool), b = true → ∃ h1', (vif (kB b) (vbin .rem 0 (kN .u64 (u : Int)) (.v (.c (.p (.int .u64 10)))) h fun x31 h =>
     vbin .add 0 (.v (.c (.p (.int .u64 48)))) x31 h fun x32 h =>
     vtoInt .u8 x32 h fun x33 h =>
     vop (orc S (lim tab.get S)) (.bslice 1 1 [(.p (.int .u8 0))] [(0, (.k x33))] false) h 34 fun x34 h =>
     vop (orc S (lim tab.get S)) (.toStr (.k x34)) h 35 fun x35 h =>
     vbin .add 0 x35 (kS d) h fun x37 h =>
     vbin .quo 0 (kN .u64 (u : Int)) (.v (.c (.p (.int .u64 10)))) h fun x39 h =>
     vbin .add 0 (kI (k : Int)) (kI 1) h fun x29 h =>
     lim tab.get S 5 0 2 [kI n, kI more, kB sg, x37, x39, x29] h) (lim tab.get S 5 0 3 [kI n, kI more, kB sg, kS d] h)) = lim tab.get S 5 0 2 [kI n, kI more, kB sg, kS (UInt8.ofNat (48 + u % 10) :: d), kN .u64 ((u / 10 : Nat) : Int), kI ((k + 1 : Nat) : Int)] h1' := by
    intro b hb
    subst hb
    refine ⟨h, ?_⟩
    have e1 : (u : Int).tmod 10 = ((u % 10 : Nat) : Int) := by rw [Int.tmod_eq_emod_of_nonneg (by omega)]; omega
    have e2 : (u : Int).tdiv 10 = ((u / 10 : Nat) : Int) := by rw [Int.tdiv_eq_ediv_of_nonneg (by omega)]; omega
    rw [vif_t, vbin_rem _ _ _ _ (by decide), e1, vbin_add, wrap_u64 _ (by omega) (by omega), vtoInt_n]
    have e3 : IntKind.u8.wrap (48 + ((u % 10 : Nat) : Int)) = ((UInt8.ofNat (48 + u % 10)).toNat : Int) := by
     rw [digit_byte]
     exact (wrap_in .u8 _ (by show (0 : Int) ≤ _; omega) (by show _ ≤ (255 : Int); omega)).trans (by omega)
    rw [e3, vplan (.bslice 1 1 [(.p (.int .u8 0))] [(0, (.k (kU (UInt8.ofNat (48 + u % 10)))))] false) (kSl 1 true (byteRows [UInt8.ofNat (48 + u % 10)])) rfl]
    rw [vtoStr_sl]
    rw [vbin_sadd _ _ _ (by simp; omega), vbin_quo _ _ _ _ (by decide), e2, wrap_u64 _ (by omega) (by omega), vbin_add, wrap_i64 _ (by omega) (by omega)]
    rfl
   by_cases hk0 : k = 0
   ·have e : decide ((k : Int) = 0) = true := decide_eq_true (by omega)
    simp only [e, vguard_tf, vpick_t]
    exact body true rfl
   ·have e : decide ((k : Int) = 0) = false := decide_eq_false (by omega)
    simp only [e, vguard_ff, vbin_gtr, vpick_f]
    exact body _ (decide_eq_true (by omega))
  obtain ⟨h1', e1⟩ := cond
  rw [e1]
  unfold digs
  by_cases hu10 : u < 10
  ·rw [if_pos hu10]
   refine ⟨h1', ?_⟩
   have hz : u / 10 = 0 := by omega
   rw [hz, w5_2, b5_2, vbin_eql]
   have e : decide (((k + 1 : Nat) : Int) = 0) = false := decide_eq_false (by omega)
   simp only [e, vguard_ff, vbin_gtr, vpick_f]
   rfl
  ·rw [if_neg hu10]
   rw [Nat.pow_succ] at h1
   exact ih (u / 10) _ (k + 1) h1' (by omega) (by cases f with | zero => simp at h1; omega | succ _ => omega) (by omega) (.inr (by omega)) (by omega) (by simp; omega) (by omega) (by simp; omega)
end Go.Proofs.YtljhpmggifjigaaDoor.Ab
