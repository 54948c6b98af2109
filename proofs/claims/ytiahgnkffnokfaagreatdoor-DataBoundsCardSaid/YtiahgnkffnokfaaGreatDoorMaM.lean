/- Contracts as an oracle: what is known of calls may be used while the rest is run. Own work. Condition: what each theorem names. -/
import Derived.Test.YtiahgnkffnokfaaGreatDoorMaL
set_option linter.all false
set_option linter.unusedVariables false
set_option linter.unusedSimpArgs false
namespace Go.AI
theorem lim_ext {T : FuncId → Option MFunc} {S S2 : Oracle} (h1 : ∀ f a o r, S2 f a o = some r → orc S (lim T S) f a o = some r) (h2 : ∀ f a o, S2 f a o = none → S f a o = none) : WLe (lim T S2) (lim T S) := by
 have key : ∀ n, WLe (mach T S2 n) (lim T S) := by
  intro n
  induction n with
  | zero => intro f q l vs h r e; cases e
  | succ n ih =>
   intro f q l vs h r e
   have e' : bnd (T f) (fun F => stepF F (orc S2 (mach T S2 n)) (mach T S2 n f q) q l vs h) = some r := e
   cases hT : T f with
   | none => rw [hT] at e'; cases e'
   | some F =>
    rw [hT] at e'
    have hO : OSup (fun _ => orc S (lim T S)) (orc S2 (mach T S2 n)) := by
     intro g a o r' hr
     refine Ev.all fun _ => ?_
     cases hs : S2 g a o with
     | some x =>
      have : orc S2 (mach T S2 n) g a o = some x := by show Option.rec (motive := fun _ => Res1) _ some (S2 g a o) = _; rw [hs]
      rw [this] at hr
      cases hr
      exact h1 g a o _ hs
     | none =>
      have ha : orc S2 (mach T S2 n) g a o = mach T S2 n g (lenF o) 0 a { ims := o, owns := .nil } := by show Option.rec (motive := fun _ => Res1) _ some (S2 g a o) = _; rw [hs]
      have hb : orc S (lim T S) g a o = lim T S g (lenF o) 0 a { ims := o, owns := .nil } := by show Option.rec (motive := fun _ => Res1) _ some (S g a o) = _; rw [h2 g a o hs]
      rw [ha] at hr
      show orc S (lim T S) g a o = some r'
      rw [hb]
      exact ih _ _ _ _ _ _ hr
    have hR : RSup (fun _ => lim T S f q) (mach T S2 n f q) := fun l vs h r hr => Ev.all fun _ => ih _ _ _ _ _ _ hr
    obtain ⟨N, hN⟩ := stepF_sup hO hR e'
    rw [lim_eqF hT]
    exact hN N (Nat.le_refl _)
 intro f q l vs h r e
 obtain ⟨n, hn⟩ := of_lim e
 exact key n f q l vs h r hn
theorem orc_ext {T : FuncId → Option MFunc} {S S2 : Oracle} (h1 : ∀ f a o r, S2 f a o = some r → orc S (lim T S) f a o = some r) (h2 : ∀ f a o, S2 f a o = none → S f a o = none) {f : FuncId} {a : List TVal} {o : List AObj} {r : TVal × List AObj} (e : orc S2 (lim T S2) f a o = some r) : orc S (lim T S) f a o = some r := by
 cases hs : S2 f a o with
 | some x =>
  have : orc S2 (lim T S2) f a o = some x := by show Option.rec (motive := fun _ => Res1) _ some (S2 f a o) = _; rw [hs]
  rw [this] at e
  cases e
  exact h1 f a o _ hs
 | none =>
  have ha : orc S2 (lim T S2) f a o = lim T S2 f (lenF o) 0 a { ims := o, owns := .nil } := by show Option.rec (motive := fun _ => Res1) _ some (S2 f a o) = _; rw [hs]
  have hb : orc S (lim T S) f a o = lim T S f (lenF o) 0 a { ims := o, owns := .nil } := by show Option.rec (motive := fun _ => Res1) _ some (S f a o) = _; rw [h2 f a o hs]
  rw [ha] at e
  rw [hb]
  exact lim_ext h1 h2 f _ _ _ _ _ e
/-- One contract more: of a function that is handed no block. -/
noncomputable def addF (g : FuncId) (F : List TVal → Option TVal) (S : Oracle) : Oracle := fun f args objs => bif Nat.beq f g then (match objs with
 | [] => match F args with
  | some v => some (v, [])
  | none => S f args []
 | _ => S f args objs) else S f args objs
/-- What contracts have been proved may stand in the oracle. -/
def Known (T : FuncId → Option MFunc) (S S2 : Oracle) : Prop := (∀ f a o r, S2 f a o = some r → orc S (lim T S) f a o = some r) ∧ ∀ f a o, S2 f a o = none → S f a o = none
theorem Known.refl (T : FuncId → Option MFunc) (S : Oracle) : Known T S S := ⟨fun f a o r e => by show Option.rec (motive := fun _ => Res1) _ some (S f a o) = _; rw [e], fun _ _ _ e => e⟩
theorem Known.add {T : FuncId → Option MFunc} {S S2 : Oracle} (K : Known T S S2) (g : FuncId) (F : List TVal → Option TVal) (hF : ∀ args v, F args = some v → orc S (lim T S) g args [] = some (v, [])) : Known T S (addF g F S2) := by
 constructor
 ·intro f a o r e
  unfold addF at e
  rw [beq_dec] at e
  by_cases hf : f = g
  ·subst hf
   rw [decide_eq_true rfl, cond_true] at e
   split at e
   ·split at e
    ·rename_i v hv
     cases e
     exact hF a v hv
    ·exact K.1 _ _ _ _ e
   ·exact K.1 _ _ _ _ e
  ·rw [decide_eq_false hf, cond_false] at e
   exact K.1 _ _ _ _ e
 ·intro f a o e
  unfold addF at e
  rw [beq_dec] at e
  by_cases hf : f = g
  ·subst hf
   rw [decide_eq_true rfl, cond_true] at e
   split at e
   ·split at e
    ·cases e
    ·exact K.2 _ _ _ e
   ·exact K.2 _ _ _ e
  ·rw [decide_eq_false hf, cond_false] at e
   exact K.2 _ _ _ e
/-- A call run with what is known. -/
theorem Known.run {T : FuncId → Option MFunc} {D : FuncId → Option BlkF} {S S2 : Oracle} (K : Known T S S2) (hD : BOK T D) {N : Nat} {f : FuncId} {args : List TVal} {r : TVal × List AObj} (hs : S2 f args [] = none) (e : machU D S2 N f 0 0 args h0 = some r) : orc S (lim T S) f args [] = some r := by
 refine orc_ext K.1 K.2 ?_
 have ha : orc S2 (lim T S2) f args [] = lim T S2 f 0 0 args h0 := by show Option.rec (motive := fun _ => Res1) _ some (S2 f args []) = _; rw [hs]; rfl
 rw [ha]
 exact machU_le hD N f 0 0 _ _ _ e
end Go.AI
