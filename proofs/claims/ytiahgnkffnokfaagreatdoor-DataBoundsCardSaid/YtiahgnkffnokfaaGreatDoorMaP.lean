/- Rules, continued: truths put together, blocks handed in, a function's end behind them. Own work; no condition but what each names. -/
import Derived.Test.YtiahgnkffnokfaaGreatDoorMaO
set_option linter.all false
set_option linter.unusedVariables false
set_option linter.unusedSimpArgs false
namespace Go.AI
/-- A value that is there just if a truth is. -/
noncomputable def gv (p : Bool) (v : TVal) : TVal := bif p then v else .undef
theorem gv_t (v : TVal) : gv true v = v := rfl
theorem gv_f (v : TVal) : gv false v = .undef := rfl
theorem gv_gv (p q : Bool) (v : TVal) : gv p (gv q v) = gv (p && q) v := by cases p <;> rfl
section
variable {β : Type} {O : Oracle} {h : Heap} {d : Nat} {k : TVal → Heap → Option β}
theorem g_t (c : Bool) (v : TVal) : vguard (kB c) true (fun kk => kk v h) h k = k (gv c v) h := by cases c <;> rfl
theorem g_f (c : Bool) (v : TVal) : vguard (kB c) false (fun kk => kk v h) h k = k (gv (!c) v) h := by cases c <;> rfl
theorem g_gt (p c : Bool) (v : TVal) : vguard (gv p (kB c)) true (fun kk => kk v h) h k = k (gv (p && c) v) h := by cases p <;> cases c <;> rfl
theorem g_gf (p c : Bool) (v : TVal) : vguard (gv p (kB c)) false (fun kk => kk v h) h k = k (gv (p && !c) v) h := by cases p <;> cases c <;> rfl
@[congr] theorem g_congT {c c' : Bool} {doit doit' : (TVal → Heap → Option β) → Option β} (e : c = c') (f : c' = true → ∀ kk, doit kk = doit' kk) : vguard (kB c) true doit h k = vguard (kB c') true doit' h k := by
 subst e; cases c
 ·rfl
 ·rw [show doit = doit' from funext (f rfl)]
@[congr] theorem g_congF {c c' : Bool} {doit doit' : (TVal → Heap → Option β) → Option β} (e : c = c') (f : c' = false → ∀ kk, doit kk = doit' kk) : vguard (kB c) false doit h k = vguard (kB c') false doit' h k := by
 subst e; cases c
 ·rw [show doit = doit' from funext (f rfl)]
 ·rfl
@[congr] theorem g_congGT {p p' c c' : Bool} {doit doit' : (TVal → Heap → Option β) → Option β} (e0 : p = p') (e : c = c') (f : p' = true → c' = true → ∀ kk, doit kk = doit' kk) : vguard (gv p (kB c)) true doit h k = vguard (gv p' (kB c')) true doit' h k := by
 subst e0; subst e; cases p <;> cases c
 ·rfl
 ·rfl
 ·rfl
 ·rw [show doit = doit' from funext (f rfl rfl)]
@[congr] theorem g_congGF {p p' c c' : Bool} {doit doit' : (TVal → Heap → Option β) → Option β} (e0 : p = p') (e : c = c') (f : p' = true → c' = false → ∀ kk, doit kk = doit' kk) : vguard (gv p (kB c)) false doit h k = vguard (gv p' (kB c')) false doit' h k := by
 subst e0; subst e; cases p <;> cases c
 ·rfl
 ·rfl
 ·rw [show doit = doit' from funext (f rfl rfl)]
 ·rfl
@[congr 2000] theorem g_congTn {c c' : Bool} {doit doit' : (TVal → Heap → Option β) → Option β} (e : c = c') (f : c' = false → ∀ kk, doit kk = doit' kk) : vguard (kB (!c)) true doit h k = vguard (kB (!c')) true doit' h k := by
 subst e; cases c
 all_goals first | rfl | rw [show doit = doit' from funext (f rfl)]
@[congr 2000] theorem g_congFn {c c' : Bool} {doit doit' : (TVal → Heap → Option β) → Option β} (e : c = c') (f : c' = true → ∀ kk, doit kk = doit' kk) : vguard (kB (!c)) false doit h k = vguard (kB (!c')) false doit' h k := by
 subst e; cases c
 all_goals first | rfl | rw [show doit = doit' from funext (f rfl)]
@[congr 2000] theorem g_congGTn {p p' c c' : Bool} {doit doit' : (TVal → Heap → Option β) → Option β} (e0 : p = p') (e : c = c') (f : p' = true → c' = false → ∀ kk, doit kk = doit' kk) : vguard (gv p (kB (!c))) true doit h k = vguard (gv p' (kB (!c'))) true doit' h k := by
 subst e0; subst e; cases p <;> cases c
 all_goals first | rfl | rw [show doit = doit' from funext (f rfl rfl)]
@[congr 2000] theorem g_congGFn {p p' c c' : Bool} {doit doit' : (TVal → Heap → Option β) → Option β} (e0 : p = p') (e : c = c') (f : p' = true → c' = true → ∀ kk, doit kk = doit' kk) : vguard (gv p (kB (!c))) false doit h k = vguard (gv p' (kB (!c'))) false doit' h k := by
 subst e0; subst e; cases p <;> cases c
 all_goals first | rfl | rw [show doit = doit' from funext (f rfl rfl)]
@[congr 1500] theorem g_congAT {a a' b b' c c' : Bool} {doit doit' : (TVal → Heap → Option β) → Option β} (e0 : a = a') (e1 : b = b') (e : c = c') (f : a' = true → b' = true → c' = true → ∀ kk, doit kk = doit' kk) : vguard (gv (a && b) (kB c)) true doit h k = vguard (gv (a' && b') (kB c')) true doit' h k := by
 subst e0; subst e1; subst e; cases a <;> cases b <;> cases c
 all_goals first | rfl | rw [show doit = doit' from funext (f rfl rfl rfl)]
@[congr 1500] theorem g_congAF {a a' b b' c c' : Bool} {doit doit' : (TVal → Heap → Option β) → Option β} (e0 : a = a') (e1 : b = b') (e : c = c') (f : a' = true → b' = true → c' = false → ∀ kk, doit kk = doit' kk) : vguard (gv (a && b) (kB c)) false doit h k = vguard (gv (a' && b') (kB c')) false doit' h k := by
 subst e0; subst e1; subst e; cases a <;> cases b <;> cases c
 all_goals first | rfl | rw [show doit = doit' from funext (f rfl rfl rfl)]
@[congr 3000] theorem g_congATn {a a' b b' c c' : Bool} {doit doit' : (TVal → Heap → Option β) → Option β} (e0 : a = a') (e1 : b = b') (e : c = c') (f : a' = true → b' = true → c' = false → ∀ kk, doit kk = doit' kk) : vguard (gv (a && b) (kB (!c))) true doit h k = vguard (gv (a' && b') (kB (!c'))) true doit' h k := by
 subst e0; subst e1; subst e; cases a <;> cases b <;> cases c
 all_goals first | rfl | rw [show doit = doit' from funext (f rfl rfl rfl)]
@[congr 3000] theorem g_congAFn {a a' b b' c c' : Bool} {doit doit' : (TVal → Heap → Option β) → Option β} (e0 : a = a') (e1 : b = b') (e : c = c') (f : a' = true → b' = true → c' = true → ∀ kk, doit kk = doit' kk) : vguard (gv (a && b) (kB (!c))) false doit h k = vguard (gv (a' && b') (kB (!c'))) false doit' h k := by
 subst e0; subst e1; subst e; cases a <;> cases b <;> cases c
 all_goals first | rfl | rw [show doit = doit' from funext (f rfl rfl rfl)]
theorem pk_and (b c : Bool) : vop O (.pick (.k (kB b)) (.k (gv b (kB c))) (.k (kB false))) h d k = k (kB (b && c)) h := by cases b <;> rfl
theorem pk_or (b c : Bool) : vop O (.pick (.k (kB b)) (.k (kB true)) (.k (gv (!b) (kB c)))) h d k = k (kB (b || c)) h := by cases b <;> rfl
theorem pk_or' (b c : Bool) : vop O (.pick (.k (kB (!b))) (.k (kB true)) (.k (gv b (kB c)))) h d k = k (kB (!b || c)) h := by cases b <;> rfl
theorem x_box (v : Comp) : vop O (.box (.k (.v v)) false) h d k = k (.v (.c (.ptr (.own d (h.gen d + 1)) 0))) (h.own d (h.gen d + 1) (.cells v.cells 0)) := rfl
theorem x_nilck_ptr (r : Ref) (o : Nat) : vop O (.nilck (.k (.v (.c (.ptr r o))))) h d k = k (.v (.c (.ptr r o))) h := vplan _ _ rfl
theorem x_nilck_pptr (r : List PVal) (o : Nat) : vop O (.nilck (.k (.v (.c (.p (.pptr r o)))))) h d k = k (.v (.c (.p (.pptr r o)))) h := vplan _ _ rfl
/-! ### blocks handed in -/
def plainO (o : AObj) : Prop := o.refs = [] ∧ ∀ σ, o.ren σ = o
theorem plainO_cells (r : List PVal) (imm : Nat) : plainO (.cells (pcells r) imm) := by
 constructor
 ·show (pcells r).flatMap Cell.refs = []
  induction r with
  | nil => rfl
  | cons a r ih => exact ih
 ·intro σ
  show AObj.cells ((pcells r).map (Cell.ren σ)) imm = _
  congr 1
  induction r with
  | nil => rfl
  | cons a r ih => show Cell.p a :: (pcells r).map (Cell.ren σ) = _; rw [ih]; rfl
theorem pT_all {ps : List TVal} (hp : allB pT ps = true) : ps.map TVal.strip = ps ∧ ps.flatMap TVal.refs = [] ∧ ∀ σ, ps.map (TVal.ren σ) = ps := by
 letI : Sym := ⟨fun _ => 0⟩
 induction ps with
 | nil => exact ⟨rfl, rfl, fun _ => rfl⟩
 | cons a ps ih =>
  have e : (bif pT a then allB pT ps else false) = true := hp
  cases ha : pT a with
  | false => rw [ha] at e; cases e
  | true =>
   rw [ha] at e
   obtain ⟨i1, i2, i3⟩ := ih e
   obtain ⟨q1, q2, q3, _⟩ := pT_props ha
   refine ⟨?_, ?_, fun σ => ?_⟩
   ·rw [List.map_cons, i1, q2]
   ·rw [List.flatMap_cons, i2, q1]; rfl
   ·rw [List.map_cons, i3, q3]
/-- A call that is handed one block. -/
theorem vcall_p (g : FuncId) (r : Ref) (off : Nat) (p1 p2 : List TVal) (o o' : AObj) (v : TVal) (h1 : allB pT p1 = true) (h2 : allB pT p2 = true) (hg : h.get r = some o) (ho : plainO o) (ho' : plainO o') (hv : pT v = true)
  (hc : O g (p1 ++ .v (.c (.ptr (.im 0) off)) :: p2) [o] = some (v, [o'])) : vcall O (.v (.c (.func g []))) (p1 ++ .v (.c (.ptr r off)) :: p2) h d k = k v (h.put r o') := by
 letI : Sym := ⟨fun _ => 0⟩
 show callF O g (p1 ++ .v (.c (.ptr r off)) :: p2) d h k = _
 rw [callF_eq]
 obtain ⟨a1, a2, a3⟩ := pT_all h1
 obtain ⟨b1, b2, b3⟩ := pT_all h2
 obtain ⟨_, _, q3, _⟩ := pT_props hv
 have e1 : (p1 ++ .v (.c (.ptr r off)) :: p2).map TVal.strip = p1 ++ .v (.c (.ptr r off)) :: p2 := by
  rw [List.map_append, List.map_cons, a1, b1]; rfl
 have e2 : (p1 ++ .v (.c (.ptr r off)) :: p2).flatMap TVal.refs = [r] := by
  rw [List.flatMap_append, List.flatMap_cons, a2, b2]; rfl
 have e3 : reach h fuelReach [r] [] = [r] := by
  show reach h 400 [r] [] = [r]
  unfold reach
  rw [show ([] : List Ref).contains r = false from rfl, cond_false, hg]
  dsimp only
  rw [ho.1]
  simp [reach]
 have e4 : (p1 ++ .v (.c (.ptr r off)) :: p2).map (TVal.ren (inn [r])) = p1 ++ .v (.c (.ptr (.im 0) off)) :: p2 := by
  rw [List.map_append, List.map_cons, a3, b3]
  have : inn [r] r = some (.im 0) := by simp [inn, idx]
  show p1 ++ TVal.v (.c (match inn [r] r with | some s => .ptr s off | none => .junk)) :: p2 = _
  rw [this]
 have : callOp O g (p1 ++ .v (.c (.ptr r off)) :: p2) d h = some (v, h.put r o', { rd := (([r] : List Ref) ++ ([o] : List AObj).flatMap AObj.refs ++ [r]).map Ref.site, wr := ([r] : List Ref).map Ref.site ++ (List.range ([] : List AObj).length).map (fun j => Site.im (h.ims.length + j)), wild := Nat.blt 0 ([] : List AObj).length }) := by
  unfold callOp
  simp only [e1, e2, e3, mapM1, hg, Option.map_some, e4, List.map_cons, List.map_nil, ho.2, hc, ho'.2, q3, List.length_cons, List.length_nil, Nat.lt_irrefl, if_false, List.take, List.drop, putAll]
 rw [this]; rfl
/-- A function's end, one block handed in. -/
theorem vfin_1 (frz : Bool) (vs : List Comp) (o : AObj) (hv : allB pComp vs = true) (hg : h.get (.im 0) = some o) (ho : plainO o) : vfin frz 1 vs h = some (oneOf vs, [o]) := by
 letI : Sym := ⟨fun _ => 0⟩
 show finV frz vs h 1 = _
 obtain ⟨q1, q2, q3, q4⟩ := pT_props (oneOf_p hv)
 unfold finV
 have e1 : (if frz then freezeT h (oneOf vs) else some (oneOf vs, [])) = some (oneOf vs, []) := by cases frz <;> simp [q4]
 rw [show ims 1 = [Ref.im 0] from rfl]
 simp [e1, settle, hg, ho.1, q1, q3, reach, fuelReach, ho.2]
end
theorem get_put_im (h : Heap) (i : Nat) (cs : List Cell) (imm : Nat) (hs : (h.get (.im i)).isSome = true) : (h.put (.im i) (.cells cs imm)).get (.im i) = some (.cells cs imm) := by
 obtain ⟨o, ho⟩ := Option.isSome_iff_exists.1 hs
 exact Heap.get_put_eq h (Heap.get_lt ho) (fun e => by cases e)
theorem get_put_im_own (h : Heap) (i : Nat) (o : AObj) (d g : Nat) : (h.put (.im i) o).get (.own d g) = h.get (.own d g) := rfl
theorem gen_put_im (h : Heap) (i : Nat) (o : AObj) (d : Nat) : (h.put (.im i) o).gen d = h.gen d := rfl
theorem put_own_get_im (h : Heap) (d g : Nat) (o : AObj) (i : Nat) : (h.put (.own d g) o).get (.im i) = h.get (.im i) := rfl
theorem im0_get (o : AObj) (l : List AObj) (cs : List Cell) (imm : Nat) : (Heap.mk (.cells cs imm :: l) .nil).get (.im 0) = some (.cells cs imm) := rfl
theorem im0_gen (l : List AObj) (d : Nat) : (Heap.mk l .nil).gen d = 0 := rfl
/-- Is a block of plain cells alone? -/
noncomputable def plainG (o : Option AObj) : Bool := match o with
 | some (.cells cs _) => allB isP cs
 | _ => false
theorem plainG_p (r : List PVal) (imm : Nat) : plainG (some (.cells (pcells r) imm)) = true := allB_p r
theorem plainG_nil (imm : Nat) : plainG (some (.cells [] imm)) = true := rfl
theorem plainG_cons (x : PVal) (l : List Cell) (imm : Nat) : plainG (some (.cells (.p x :: l) imm)) = plainG (some (.cells l imm)) := rfl
theorem allB_row : ∀ {cs : List Cell}, allB isP cs = true → ∃ r, cs = pcells r
 | [], _ => ⟨[], rfl⟩
 | .p x :: cs, h => by
  obtain ⟨r, e⟩ := allB_row (cs := cs) h
  exact ⟨x :: r, by rw [e]; rfl⟩
 | .ptr .. :: _, h => by cases h
 | .sref .. :: _, h => by cases h
 | .mref .. :: _, h => by cases h
 | .func .. :: _, h => by cases h
 | .tsl .. :: _, h => by cases h
 | .junk :: _, h => by cases h
theorem x_fin1q {h : Heap} (frz : Bool) (vs : List Comp) (hv : allB pComp vs = true) (hp : plainG (h.get (.im 0)) = true) : vfin frz 1 vs h = some (oneOf vs, [(h.get (.im 0)).getD .dead]) := by
 cases ho : h.get (.im 0) with
 | none => rw [ho] at hp; cases hp
 | some o => cases o with
  | cells cs imm =>
   rw [ho] at hp
   obtain ⟨r, rfl⟩ := allB_row (show allB isP cs = true from hp)
   exact vfin_1 frz vs _ hv ho (plainO_cells r imm)
  | _ => rw [ho] at hp; cases hp
theorem exQ :
  (∀ {h : Heap} (frz : Bool) (x : PVal), plainG (h.get (.im 0)) = true → vfin frz 1 [.c (.p x)] h = some (.v (.c (.p x)), [(h.get (.im 0)).getD .dead])) ∧
  (∀ {h : Heap} (frz : Bool) (x y : PVal), plainG (h.get (.im 0)) = true → vfin frz 1 [.c (.p x), .c (.p y)] h = some (.tup [.c (.p x), .c (.p y)], [(h.get (.im 0)).getD .dead])) ∧
  (∀ {h : Heap} (frz : Bool) (r : List PVal), plainG (h.get (.im 0)) = true → vfin frz 1 [.agg (pcells r)] h = some (.v (.agg (pcells r)), [(h.get (.im 0)).getD .dead])) ∧
  (∀ {h : Heap} (frz : Bool) (r : List PVal) (y : PVal), plainG (h.get (.im 0)) = true → vfin frz 1 [.agg (pcells r), .c (.p y)] h = some (.tup [.agg (pcells r), .c (.p y)], [(h.get (.im 0)).getD .dead])) ∧
  (∀ {h : Heap} (frz : Bool), plainG (h.get (.im 0)) = true → vfin frz 1 [] h = some (.tup [], [(h.get (.im 0)).getD .dead])) ∧
  (∀ (r : List PVal) (imm : Nat), plainG (some (.cells (pcells r) imm)) = true) ∧ (∀ imm : Nat, plainG (some (.cells [] imm)) = true) ∧ (∀ (x : PVal) (l : List Cell) (imm : Nat), plainG (some (.cells (.p x :: l) imm)) = plainG (some (.cells l imm))) ∧
  (∀ o d : AObj, (some o).getD d = o) :=
 ⟨fun frz x hp => x_fin1q frz _ rfl hp, fun frz x y hp => x_fin1q frz _ rfl hp, fun frz r hp => x_fin1q frz _ (by show (bif allB isP (pcells r) then true else false) = true; rw [allB_p]; rfl) hp,
 fun frz r y hp => x_fin1q frz _ (by show (bif allB isP (pcells r) then true else false) = true; rw [allB_p]; rfl) hp, fun frz hp => x_fin1q frz _ rfl hp, plainG_p, plainG_nil, plainG_cons, fun _ _ => rfl⟩
theorem allB_nil0 {α : Type} (p : α → Bool) : allB p [] = true := rfl
theorem allB_cons0 {α : Type} (p : α → Bool) (a : α) (l : List α) : allB p (a :: l) = (p a && allB p l) := by show (bif p a then allB p l else false) = _; cases p a <;> rfl
theorem pT_agg (r : List PVal) : pT (.v (.agg (pcells r))) = true := allB_p r
theorem pT_pv (x : PVal) : pT (.v (.c (.p x))) = true := rfl
theorem pT_tup (l : List Comp) : pT (.tup l) = allB pComp l := rfl
theorem pComp_p (x : PVal) : pComp (.c (.p x)) = true := rfl
theorem pComp_agg (r : List PVal) : pComp (.agg (pcells r)) = true := allB_p r
theorem pT_func (f : FuncId) : pT (.v (.c (.func f []))) = false := rfl
theorem exP : (∀ {α : Type} (p : α → Bool), allB p [] = true) ∧ (∀ {α : Type} (p : α → Bool) (a : α) (l : List α), allB p (a :: l) = (p a && allB p l)) ∧ (∀ r : List PVal, pT (.v (.agg (pcells r))) = true) ∧ (∀ x : PVal, pT (.v (.c (.p x))) = true) ∧
  (∀ l : List Comp, pT (.tup l) = allB pComp l) ∧ (∀ x : PVal, pComp (.c (.p x)) = true) ∧ (∀ r : List PVal, pComp (.agg (pcells r)) = true) ∧ (true && true) = true :=
 ⟨allB_nil0, allB_cons0, pT_agg, pT_pv, pT_tup, pComp_p, pComp_agg, rfl⟩
theorem plainO_1 (x : PVal) : plainO (.cells [.p x] 0) := plainO_cells [x] 0
theorem take_all (n : Nat) (r : List PVal) (e : r.length = n) : (pcells r).take n = pcells r := List.take_of_length_le (by simp [pcells, e])
theorem take_allP (n : Nat) (r : List PVal) (e : r.length = n) : r.take n = r := List.take_of_length_le (by omega)
theorem fillA_nil (cs : List Cell) : fillA cs [] = some cs := rfl
theorem fillA_cons (cs : List Cell) (o n : Nat) (v : Comp) (r : List (Nat × Nat × Comp)) : fillA cs ((o, n, v) :: r) = chk (decide (v.cells.length = n) && decide (o + n ≤ cs.length)) (fillA (put1 cs o v.cells) r) := by
 show (if v.cells.length = n ∧ o + n ≤ cs.length then _ else _) = _
 by_cases h : v.cells.length = n ∧ o + n ≤ cs.length
 ·rw [if_pos h, decide_eq_true h.1, decide_eq_true h.2]; rfl
 ·rw [if_neg h]
  have : (decide (v.cells.length = n) && decide (o + n ≤ cs.length)) = false := by
   cases h1 : decide (v.cells.length = n) with
   | false => rfl
   | true => cases h2 : decide (o + n ≤ cs.length) with
    | false => rfl
    | true => exact absurd ⟨of_decide_eq_true h1, of_decide_eq_true h2⟩ h
  rw [this]; rfl
theorem put1_succ (c : Cell) (cs x : List Cell) (n : Nat) : put1 (c :: cs) (n + 1) x = c :: put1 cs n x := by
 unfold put1 splice
 rw [show n + 1 + x.length = (n + x.length) + 1 by omega]; rfl
theorem put1_one (c x : Cell) (cs : List Cell) : put1 (c :: cs) 0 [x] = x :: cs := rfl
theorem put1_row (cs : List Cell) (r : List PVal) : put1 cs 0 (pcells r) = pcells r ++ cs.drop r.length := by
 unfold put1 splice
 rw [List.take_zero, List.nil_append, Nat.zero_add, pcells_len]
theorem x_bslice2 {β : Type} {O : Oracle} {h : Heap} {d : Nat} {k : TVal → Heap → Option β} (z : List Cell) (x y : PVal) (hz : z.length = 1) : vop O (.bslice 1 2 z [(0, .k (.v (.c (.p x)))), (1, .k (.v (.c (.p y))))] false) h d k = k (kSl 1 true [[x], [y]]) h := by
 match z, hz with
 | [z0], _ => exact vplan _ _ rfl
theorem x_bslice3 {β : Type} {O : Oracle} {h : Heap} {d : Nat} {k : TVal → Heap → Option β} (z : List Cell) (x y w : PVal) (hz : z.length = 1) : vop O (.bslice 1 3 z [(0, .k (.v (.c (.p x)))), (1, .k (.v (.c (.p y)))), (2, .k (.v (.c (.p w))))] false) h d k = k (kSl 1 true [[x], [y], [w]]) h := by
 match z, hz with
 | [z0], _ => exact vplan _ _ rfl
theorem exB :
  (∀ {β : Type} {O : Oracle} {h : Heap} {d : Nat} {k : TVal → Heap → Option β} (z : List Cell) (x y : PVal), z.length = 1 → vop O (.bslice 1 2 z [(0, .k (.v (.c (.p x)))), (1, .k (.v (.c (.p y))))] false) h d k = k (kSl 1 true [[x], [y]]) h) ∧
  (∀ {β : Type} {O : Oracle} {h : Heap} {d : Nat} {k : TVal → Heap → Option β} (z : List Cell) (x y w : PVal), z.length = 1 → vop O (.bslice 1 3 z [(0, .k (.v (.c (.p x)))), (1, .k (.v (.c (.p y)))), (2, .k (.v (.c (.p w))))] false) h d k = k (kSl 1 true [[x], [y], [w]]) h) ∧
  (∀ {β : Type} {O : Oracle} {h : Heap} {d : Nat} {k : TVal → Heap → Option β} (z : List Cell), vop O (.build z []) h d k = k (.v (.agg z)) h) ∧
  (∀ {β : Type} {O : Oracle} {h : Heap} {d : Nat} {k : TVal → Heap → Option β} (z : List Cell) (o n : Nat) (v : Comp), vop O (.build z [(o, n, .k (.v v))]) h d k = obnd (fillA z [(o, n, v)]) fun cs => k (.v (.agg cs)) h) ∧
  (∀ {β : Type} {O : Oracle} {h : Heap} {d : Nat} {k : TVal → Heap → Option β} (z : List Cell) (o n o2 n2 : Nat) (v v2 : Comp), vop O (.build z [(o, n, .k (.v v)), (o2, n2, .k (.v v2))]) h d k = obnd (fillA z [(o, n, v), (o2, n2, v2)]) fun cs => k (.v (.agg cs)) h) ∧
  (∀ {β : Type} {O : Oracle} {h : Heap} {d : Nat} {k : TVal → Heap → Option β} (z : List Cell) (o n o2 n2 o3 n3 : Nat) (v v2 v3 : Comp), vop O (.build z [(o, n, .k (.v v)), (o2, n2, .k (.v v2)), (o3, n3, .k (.v v3))]) h d k = obnd (fillA z [(o, n, v), (o2, n2, v2), (o3, n3, v3)]) fun cs => k (.v (.agg cs)) h) ∧
  (∀ {β : Type} {O : Oracle} {h : Heap} {d : Nat} {k : TVal → Heap → Option β} (z : List Cell) (o n o2 n2 o3 n3 o4 n4 : Nat) (v v2 v3 v4 : Comp), vop O (.build z [(o, n, .k (.v v)), (o2, n2, .k (.v v2)), (o3, n3, .k (.v v3)), (o4, n4, .k (.v v4))]) h d k = obnd (fillA z [(o, n, v), (o2, n2, v2), (o3, n3, v3), (o4, n4, v4)]) fun cs => k (.v (.agg cs)) h) ∧
  (∀ {β : Type} {O : Oracle} {h : Heap} {d : Nat} {k : TVal → Heap → Option β} (sz : Nat) (z : List Cell), vop O (.bslice sz 0 z [] false) h d k = k (kSl sz true []) h) ∧
  (∀ {β : Type} {O : Oracle} {h : Heap} {d : Nat} {k : TVal → Heap → Option β} (z : List Cell) (x : PVal), z.length = 1 → vop O (.bslice 1 1 z [(0, .k (.v (.c (.p x))))] false) h d k = k (kSl 1 true [[x]]) h) ∧
  (∀ {β : Type} {O : Oracle} {h : Heap} {d : Nat} {k : TVal → Heap → Option β} (sz : Nat) (z : List Cell) (r : List PVal), z.length = sz → r.length = sz → vop O (.bslice sz 1 z [(0, .k (.v (.agg (pcells r))))] false) h d k = k (kSl sz true [r]) h) ∧
  (∀ {β : Type} {O : Oracle} {h : Heap} {d : Nat} {k : TVal → Heap → Option β} (sz : Nat) (z : List Cell) (r s : List PVal), z.length = sz → r.length = sz → s.length = sz → vop O (.bslice sz 2 z [(0, .k (.v (.agg (pcells r)))), (1, .k (.v (.agg (pcells s))))] false) h d k = k (kSl sz true [r, s]) h) ∧
  (∀ cs : List Cell, fillA cs [] = some cs) ∧ (∀ (cs : List Cell) (o n : Nat) (v : Comp) (r : List (Nat × Nat × Comp)), fillA cs ((o, n, v) :: r) = chk (decide (v.cells.length = n) && decide (o + n ≤ cs.length)) (fillA (put1 cs o v.cells) r)) ∧
  (∀ (c : Cell) (cs x : List Cell) (n : Nat), put1 (c :: cs) (n + 1) x = c :: put1 cs n x) ∧ (∀ (c x : Cell) (cs : List Cell), put1 (c :: cs) 0 [x] = x :: cs) :=
 ⟨x_bslice2, x_bslice3, x_build0, x_build1, x_build2, x_build3, x_build4, x_bslice0, x_bslice1, x_bslice1A, x_bslice2A, fillA_nil, fillA_cons, put1_succ, put1_one⟩
theorem exG :
  (∀ d : Nat, h0.gen d = 0) ∧ (∀ (l : List AObj) (d : Nat), (Heap.mk l .nil).gen d = 0) ∧ (∀ (h : Heap) (d g : Nat) (o : AObj), d + 1 < 1048576 → (h.own d g o).gen d = g) ∧ (∀ (h : Heap) (d g : Nat) (o : AObj) (e : Nat), d ≠ e → (h.own d g o).gen e = h.gen e) ∧ (∀ (h : Heap) (i : Nat) (o : AObj) (d : Nat), (h.put (.im i) o).gen d = h.gen d) ∧
  (∀ (n : Nat) (r : List PVal), r.length = n → (pcells r).take n = pcells r) ∧ (∀ (n : Nat) (r : List PVal), r.length = n → r.take n = r) ∧
  (∀ {β : Type} {h : Heap} {k : TVal → Heap → Option β} (c : Bool) (v : TVal), vguard (kB c) true (fun kk => kk v h) h k = k (gv c v) h) ∧
  (∀ {β : Type} {h : Heap} {k : TVal → Heap → Option β} (c : Bool) (v : TVal), vguard (kB c) false (fun kk => kk v h) h k = k (gv (!c) v) h) ∧
  (∀ {β : Type} {h : Heap} {k : TVal → Heap → Option β} (p c : Bool) (v : TVal), vguard (gv p (kB c)) true (fun kk => kk v h) h k = k (gv (p && c) v) h) ∧
  (∀ {β : Type} {h : Heap} {k : TVal → Heap → Option β} (p c : Bool) (v : TVal), vguard (gv p (kB c)) false (fun kk => kk v h) h k = k (gv (p && !c) v) h) ∧
  (∀ {β : Type} {O : Oracle} {h : Heap} {d : Nat} {k : TVal → Heap → Option β} (b c : Bool), vop O (.pick (.k (kB b)) (.k (gv b (kB c))) (.k (kB false))) h d k = k (kB (b && c)) h) ∧
  (∀ {β : Type} {O : Oracle} {h : Heap} {d : Nat} {k : TVal → Heap → Option β} (b c : Bool), vop O (.pick (.k (kB b)) (.k (kB true)) (.k (gv (!b) (kB c)))) h d k = k (kB (b || c)) h) ∧
  (∀ {β : Type} {O : Oracle} {h : Heap} {d : Nat} {k : TVal → Heap → Option β} (b c : Bool), vop O (.pick (.k (kB (!b))) (.k (kB true)) (.k (gv b (kB c)))) h d k = k (kB (!b || c)) h) ∧
  (∀ v : TVal, gv true v = v) ∧ (∀ v : TVal, gv false v = .undef) ∧ (∀ (p q : Bool) (v : TVal), gv p (gv q v) = gv (p && q) v) ∧
  (∀ {β : Type} {O : Oracle} {h : Heap} {d : Nat} {k : TVal → Heap → Option β} (v : Comp), vop O (.box (.k (.v v)) false) h d k = k (.v (.c (.ptr (.own d (h.gen d + 1)) 0))) (h.own d (h.gen d + 1) (.cells v.cells 0))) ∧
  (∀ {β : Type} {O : Oracle} {h : Heap} {d : Nat} {k : TVal → Heap → Option β} (r : Ref) (o : Nat), vop O (.nilck (.k (.v (.c (.ptr r o))))) h d k = k (.v (.c (.ptr r o))) h) ∧
  (∀ {β : Type} {O : Oracle} {h : Heap} {d : Nat} {k : TVal → Heap → Option β} (r : List PVal) (o : Nat), vop O (.nilck (.k (.v (.c (.p (.pptr r o)))))) h d k = k (.v (.c (.p (.pptr r o)))) h) ∧
  (∀ (h : Heap) (i : Nat) (cs : List Cell) (imm : Nat), (h.get (.im i)).isSome = true → (h.put (.im i) (.cells cs imm)).get (.im i) = some (.cells cs imm)) ∧
  (∀ (h : Heap) (i : Nat) (o : AObj) (d g : Nat), (h.put (.im i) o).get (.own d g) = h.get (.own d g)) ∧
  (∀ (l : List AObj) (cs : List Cell) (imm : Nat), (Heap.mk (.cells cs imm :: l) .nil).get (.im 0) = some (.cells cs imm)) ∧
  (∀ {α : Type} (a : α), (some a).isSome = true) ∧ (∀ x : Cell, (Comp.c x).cells = [x]) ∧ (∀ l : List Cell, (Comp.agg l).cells = l) :=
 ⟨h0_gen, im0_gen, Heap.own_gen, Heap.own_gen_ne, gen_put_im, take_all, take_allP, g_t, g_f, g_gt, g_gf, pk_and, pk_or, pk_or', gv_t, gv_f, gv_gv, x_box, x_nilck_ptr, x_nilck_pptr, get_put_im, get_put_im_own, fun l cs imm => rfl, fun _ => rfl, fun _ => rfl, fun _ => rfl⟩
end Go.AI
