/- sch.Type run on given texts, the scanner by its contract. -/
import Derived.Test.YtnlmlcfipbnpgaaDoorSsK
import Derived.Test.YtnlmlcfipbnpgaaDoorMaM
set_option linter.all false
set_option linter.unusedVariables false
set_option linter.unusedSimpArgs false
set_option maxRecDepth 100000
namespace Go.Proofs.YtnlmlcfipbnpgaaDoor.Ab
open Go Go.AI
def TkF (a : List TVal) : Option TVal := match a with
 | [.v (.c (.p (.str s)))] => some (toksVal (tokensM s))
 | _ => none
noncomputable def S2 : Oracle := addF 54 TkF S
theorem K2 : Known tab.get S S2 := (Known.refl _ _).add 54 TkF fun args v h => by
 unfold TkF at h
 split at h
 ·cases h; exact tokens_ok _
 ·cases h
/-- A type and what was wrong. -/
noncomputable def okT (e : Int) (r : Option (TVal × List AObj)) : Bool := match r with
 | some (.tup [.agg cs, .c (.p (.int .i64 n))], []) => Nat.beq cs.length 4 && (pT (.tup [.agg cs, .c (.p (.int .i64 n))]) && beqI n e)
 | _ => false
theorem okT_iff {e : Int} {r : Option (TVal × List AObj)} (h : okT e r = true) : ∃ cs : List Cell, cs.length = 4 ∧ pT (.tup [.agg cs, .c (.p (.int .i64 e))]) = true ∧ r = some (.tup [.agg cs, .c (.p (.int .i64 e))], []) := by
 unfold okT at h
 split at h
 ·rename_i cs n
  rw [Bool.and_eq_true, Bool.and_eq_true, beqI_eq, decide_eq_true_eq] at h
  obtain ⟨h1, h2, rfl⟩ := h
  exact ⟨cs, Nat.eq_of_beq_eq_true h1, h2, rfl⟩
 ·cases h
theorem type_of {s : List UInt8} {e : Int} (h : okT e (machU blks.get S2 3000 16 0 0 [kS s] h0) = true) : ∃ cs : List Cell, cs.length = 4 ∧ pT (.tup [.agg cs, .c (.p (.int .i64 e))]) = true ∧ Om 16 [kS s] [] = some (.tup [.agg cs, .c (.p (.int .i64 e))], []) := by
 obtain ⟨cs, h1, hp, h2⟩ := okT_iff h
 exact ⟨cs, h1, hp, K2.run blks_ok rfl h2⟩
end Go.Proofs.YtnlmlcfipbnpgaaDoor.Ab
