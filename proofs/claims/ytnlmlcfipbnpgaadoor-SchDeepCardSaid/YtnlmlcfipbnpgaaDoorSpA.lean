/- Contracts of scan. -/
import Derived.Test.YtnlmlcfipbnpgaaDoorSsA
set_option linter.all false
set_option linter.unusedVariables false
set_option linter.unusedSimpArgs false
set_option maxRecDepth 100000
namespace Go.Proofs.YtnlmlcfipbnpgaaDoor.Ab
open Go Go.AI
def isDigit (n : Nat) : Bool := Nat.ble 48 n && Nat.ble n 57
def isLetter (n : Nat) : Bool := Nat.ble 97 n && Nat.ble n 122 || Nat.ble 65 n && Nat.ble n 90 || Nat.beq n 95
def isWord (n : Nat) : Bool := isLetter n || isDigit n
theorem digit_ok (b : UInt8) : Om 107 [kU b] [] = some (kB (isDigit b.toNat), []) := (orc_none rfl).trans (byte_bool blks_ok (p := isDigit) (N := 20) (by kernel_rfl) b)
theorem letter_ok (b : UInt8) : Om 118 [kU b] [] = some (kB (isLetter b.toNat), []) := (orc_none rfl).trans (byte_bool blks_ok (p := isLetter) (N := 20) (by kernel_rfl) b)
theorem row1_ok (b : UInt8) : Om 138 [kU b] [] = some (kB (isWord b.toNat), []) := (orc_none rfl).trans (byte_bool blks_ok (p := isWord) (N := 20) (by kernel_rfl) b)
/-- How many bytes ahead are such. -/
def runLen (p : Nat → Bool) : List UInt8 → Nat
 | [] => 0
 | b :: s => if p b.toNat then runLen p s + 1 else 0
theorem runLen_le (p : Nat → Bool) : ∀ s, runLen p s ≤ s.length := by
 intro s
 induction s with
 | nil => exact Nat.le_refl _
 | cons b s ih => unfold runLen; split <;> simp <;> omega
theorem front_ok (p : Nat → Bool) (g : FuncId) (hg : ∀ b, Om g [kU b] [] = some (kB (p b.toNat), [])) (hp : ∀ n, p n = true → n < 128) (s : List UInt8) :
  Om 137 [kS s, .v (.c (.func g []))] [] = some (kI (runLen p s : Nat), []) := by
 refine (orc_none rfl).trans ?_
 show lim tab.get S 137 0 0 [kS s, .v (.c (.func g []))] h0 = _
 rw [w137_0, b137_0, vrangeS]
 have loop : ∀ (m pos : Nat) (h : Heap), s.length - pos = m → pos ≤ s.length → h.get (.own 7 1) = some (.siter s pos) →
   lim tab.get S 137 0 1 [kS s, .v (.c (.func g [])), .v (.c (.ptr (.own 7 1) 0))] h = some (kI ((pos + runLen p (s.drop pos) : Nat) : Int), []) := by
  intro m
  induction m with
  | zero =>
   intro pos h hm hl hh
   rw [w137_1, b137_1, vnextS_end s pos _ hh (by omega)]
   rw [vext_tup _ 0 (.c (.p (.bool false))) rfl, vif_kB, if_neg (by decide), w137_2, b137_2, vlen_s, tcomp_c, vfin_pure _ _ rfl]
   have : pos = s.length := by omega
   subst this
   simp [runLen, oneOf]
  | succ m ih =>
   intro pos h hm hl hh
   obtain ⟨b, hb⟩ : ∃ b, s[pos]? = some b := ⟨s[pos]'(by omega), by simp⟩
   have hd : s.drop pos = b :: s.drop (pos + 1) := by
    obtain ⟨h1, h2⟩ := List.getElem?_eq_some_iff.1 hb
    rw [List.drop_eq_getElem_cons h1, h2]
   rw [w137_1, b137_1, vnextS_more s pos _ hh (by omega), vext_tup _ 0 (.c (.p (.bool true))) rfl, vif_kB, if_pos rfl, vext_tup _ 1 (.c (.p (.int .i64 (pos : Int)))) rfl,
    vindex_s s pos b hb, vcall_pure g _ _ rfl (hg b) rfl, vnot, vif_kB]
   cases hpb : p b.toNat with
   | false =>
    rw [if_pos (show (!false) = true from rfl), tcomp_c, vfin_pure _ _ rfl, hd]
    simp [runLen, hpb, oneOf]
   | true =>
    rw [if_neg (show ¬ (!true) = true by decide), utf8_ascii s pos b hb (hp _ hpb)]
    refine (ih (pos + 1) _ (by omega) (by omega) (Heap.own_get h 7 1 _ (by decide) (fun e => by cases e))).trans ?_
    rw [hd]
    simp [runLen, hpb]
    omega
 have := loop s.length 0 (h0.own 7 1 (.siter s 0)) (by omega) (by omega) (Heap.own_get _ _ _ _ (by decide) (fun e => by cases e))
 rw [h0_gen]
 refine this.trans ?_
 simp
end Go.Proofs.YtnlmlcfipbnpgaaDoor.Ab
