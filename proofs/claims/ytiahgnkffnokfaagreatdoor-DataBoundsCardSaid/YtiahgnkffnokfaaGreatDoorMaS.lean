/- Rules, continued: closures handed in, maps. Own work; no condition but what each names. -/
import Derived.Test.YtiahgnkffnokfaaGreatDoorMaR
set_option linter.all false
set_option linter.unusedVariables false
set_option linter.unusedSimpArgs false
namespace Go.AI
section
variable {β : Type} {O : Oracle} {h : Heap} {d : Nat} {k : TVal → Heap → Option β}
theorem x_mkfn (f : FuncId) (r : Ref) : vop O (.mkfn f [.k (.v (.c (.ptr r 0)))]) h d k = k (.v (.c (.func f [r]))) h := vplan _ _ rfl
theorem x_mkfn0 (f : FuncId) : vop O (.mkfn f []) h d k = k (.v (.c (.func f []))) h := vplan _ _ rfl
theorem x_clo (g : FuncId) (c : Ref) (as : List TVal) : vcall O (.v (.c (.func g [c]))) as h d k = vcall O (.v (.c (.func g []))) (as ++ [.v (.c (.ptr c 0))]) h d k := rfl
/-- A call that is handed one block, through whatever value. -/
theorem vcall_p' (g : FuncId) (r : Ref) (a a' : TVal) (p1 p2 : List TVal) (o o' : AObj) (v : TVal) (ha : a.strip = a) (ha2 : a.refs = [r]) (ha3 : a.ren (inn [r]) = a') (h1 : allB pT p1 = true) (h2 : allB pT p2 = true) (hg : h.get r = some o) (ho : plainO o) (ho' : plainO o') (hv : pT v = true)
  (hc : O g (p1 ++ a' :: p2) [o] = some (v, [o'])) : vcall O (.v (.c (.func g []))) (p1 ++ a :: p2) h d k = k v (h.put r o') := by
 letI : Sym := ⟨fun _ => 0⟩
 show callF O g (p1 ++ a :: p2) d h k = _
 rw [callF_eq]
 obtain ⟨a1, a2, a3⟩ := pT_all h1
 obtain ⟨b1, b2, b3⟩ := pT_all h2
 obtain ⟨_, _, q3, _⟩ := pT_props hv
 have e1 : (p1 ++ a :: p2).map TVal.strip = p1 ++ a :: p2 := by
  rw [List.map_append, List.map_cons, a1, b1, ha]
 have e2 : (p1 ++ a :: p2).flatMap TVal.refs = [r] := by
  rw [List.flatMap_append, List.flatMap_cons, a2, b2, ha2]; rfl
 have e3 : reach h fuelReach [r] [] = [r] := by
  show reach h 400 [r] [] = [r]
  unfold reach
  rw [show ([] : List Ref).contains r = false from rfl, cond_false, hg]
  dsimp only
  rw [ho.1]
  simp [reach]
 have e4 : (p1 ++ a :: p2).map (TVal.ren (inn [r])) = p1 ++ a' :: p2 := by
  rw [List.map_append, List.map_cons, a3, b3, ha3]
 have : callOp O g (p1 ++ a :: p2) d h = some (v, h.put r o', { rd := (([r] : List Ref) ++ ([o] : List AObj).flatMap AObj.refs ++ [r]).map Ref.site, wr := ([r] : List Ref).map Ref.site ++ (List.range ([] : List AObj).length).map (fun j => Site.im (h.ims.length + j)), wild := Nat.blt 0 ([] : List AObj).length }) := by
  unfold callOp
  simp only [e1, e2, e3, mapM1, hg, Option.map_some, e4, List.map_cons, List.map_nil, ho.2, hc, ho'.2, q3, List.length_cons, List.length_nil, Nat.lt_irrefl, if_false, List.take, List.drop, putAll]
 rw [this]; rfl
/-- A call that is handed functions, no block. -/
theorem vcall_f (g : FuncId) (p1 p2 : List TVal) (f : FuncId) (v : TVal) (h1 : allB pT p1 = true) (h2 : allB pT p2 = true) (hv : pT v = true) (hc : O g (p1 ++ .v (.c (.func f [])) :: p2) [] = some (v, [])) : vcall O (.v (.c (.func g []))) (p1 ++ .v (.c (.func f [])) :: p2) h d k = k v h := by
 obtain ⟨a1, a2, a3⟩ := pT_all h1
 obtain ⟨b1, b2, b3⟩ := pT_all h2
 refine vcall_plain g _ v ?_ ?_ (fun σ => ?_) hc hv
 ·rw [List.map_append, List.map_cons, a1, b1]; rfl
 ·rw [List.flatMap_append, List.flatMap_cons, a2, b2]; rfl
 ·rw [List.map_append, List.map_cons, a3, b3]; rfl
theorem put_same0 (i : Nat) (o : AObj) (hg : h.get (.im i) = some o) : h.put (.im i) o = h := by
 have : h.ims[i]? = some o := by
  unfold Heap.get at hg
  dsimp only at hg
  split at hg
  ·cases hg
  ·exact hg
 show ({ h with ims := h.ims.set i o } : Heap) = h
 have e : h.ims.set i o = h.ims := by
  obtain ⟨hi, he⟩ := List.getElem?_eq_some_iff.1 this
  rw [← he]; exact List.set_getElem_self hi
 rw [e]
theorem clo_ren (f : FuncId) (r : Ref) : (TVal.v (.c (.func f [r]))).ren (inn [r]) = .v (.c (.func f [.im 0])) := by
 show TVal.v (.c (match [r].mapM (inn [r]) with | some rs => .func f rs | none => .junk)) = _
 have : inn [r] r = some (.im 0) := by simp [inn, idx]
 rw [List.mapM_cons, List.mapM_nil, this]; rfl
/-! ### maps -/
theorem x_mkmap : vop O .mkmap h d k = k (.v (.c (.mref (.own d (h.gen d + 1))))) (h.own d (h.gen d + 1) (.map [] 0)) := rfl
theorem x_maplen (es : List (PVal × Bool × List PVal)) : vlen O 3 (.v (.c (.p (.pmap es)))) h d k = k (kI (es.length : Int)) h := by
 show opK O (.len 3 (.k _)) .nil h d k = _
 rw [opK_eq]; rfl
/-- A map from texts to structs. -/
def smP (m : List (List UInt8 × List PVal)) : PVal := .pmap (m.map fun e => (.str e.1, true, e.2))
def lookR {α : Type} (s : List UInt8) : List (List UInt8 × α) → Option α
 | [] => none
 | e :: m => if s = e.1 then some e.2 else lookR s m
theorem findE_str {α : Type} (s : List UInt8) (f : List UInt8 × α → PVal × Comp) (hf : ∀ e, (f e).1 = .str e.1) : ∀ (m : List (List UInt8 × α)) (i : Nat), ∃ o : Option (Nat × Comp), findE 2 (.str s) (m.map f) i = some o ∧ (o.map (·.2)) = (m.find? fun e => decide (s = e.1)).map fun e => (f e).2
 | [], i => ⟨none, rfl, rfl⟩
 | e :: m, i => by
  have hk : keyEq 2 (.str s) (f e).1 = some (s == e.1) := by rw [hf]; rfl
  obtain ⟨o, h1, h2⟩ := findE_str s f hf m (i + 1)
  rw [List.map_cons]
  unfold findE
  rw [hk]
  by_cases hs : s = e.1
  ·rw [show (s == e.1) = true by simp [hs]]
   exact ⟨some (i, (f e).2), rfl, by simp [hs]⟩
  ·rw [show (s == e.1) = false by simp [hs]]
   exact ⟨o, h1, by rw [h2]; simp [hs]⟩
theorem lookR_find {α : Type} (s : List UInt8) : ∀ m : List (List UInt8 × α), lookR s m = (m.find? fun e => decide (s = e.1)).map (·.2)
 | [] => rfl
 | e :: m => by
  unfold lookR
  by_cases hs : s = e.1
  ·simp [hs]
  ·simp [hs, lookR_find s m]
theorem x_lookup (zs : List Cell) (m : List (List UInt8 × List PVal)) (s : List UInt8) : vop O (.lookup 2 (.agg zs) (.k (.v (.c (.p (smP m))))) (.k (kS s)) false) h d k = k (match lookR s m with | some r => .v (.agg (pcells r)) | none => .v (.agg zs)) h := by
 refine vplan _ _ ?_
 obtain ⟨o, h1, h2⟩ := findE_str s (fun e : List UInt8 × List PVal => ((.str e.1, .agg (pcells e.2)) : PVal × Comp)) (fun _ => rfl) m 0
 show Option.map (fun e => Plan.pure (found (.agg zs) false e)) (findE 2 (.str s) ((m.map fun e => ((.str e.1, true, e.2) : PVal × Bool × List PVal)).map pmComp) 0) = _
 have e1 : (m.map fun e => ((.str e.1, true, e.2) : PVal × Bool × List PVal)).map pmComp = m.map fun e : List UInt8 × List PVal => ((.str e.1, .agg (pcells e.2)) : PVal × Comp) := by
  rw [List.map_map]; rfl
 rw [e1, h1, lookR_find]
 cases hf : m.find? (fun e => decide (s = e.1)) with
 | none =>
  rw [hf] at h2
  have : o = none := by cases o with | none => rfl | some _ => cases h2
  subst this; rfl
 | some e =>
  rw [hf] at h2
  cases o with
  | none => cases h2
  | some x =>
   obtain ⟨i, c⟩ := x
   have : c = .agg (pcells e.2) := Option.some.inj h2
   subst this; rfl
theorem x_smlen (m : List (List UInt8 × List PVal)) : vlen O 3 (.v (.c (.p (smP m)))) h d k = k (kI (m.length : Int)) h := by
 unfold smP; rw [x_maplen, List.length_map]
def smE : List (List UInt8 × List PVal) → Nat → List (PVal × Comp × Nat)
 | [], _ => []
 | e :: m, i => (.str e.1, .agg (pcells e.2), i) :: smE m (i + 1)
theorem smE_snoc : ∀ (m : List (List UInt8 × List PVal)) (e : List UInt8 × List PVal) (i : Nat), smE (m ++ [e]) i = smE m i ++ [(.str e.1, .agg (pcells e.2), i + m.length)]
 | [], e, i => rfl
 | a :: m, e, i => by
  show (_, _, i) :: smE (m ++ [e]) (i + 1) = _
  rw [smE_snoc m e (i + 1)]
  show _ = (_, _, i) :: (smE m (i + 1) ++ [(.str e.1, .agg (pcells e.2), i + (m.length + 1))])
  rw [show i + 1 + m.length = i + (m.length + 1) by omega]
theorem findE_smE (s : List UInt8) : ∀ (m : List (List UInt8 × List PVal)) (i j : Nat), lookR s m = none → findE 2 (.str s) ((smE m i).map fun e => (e.1, e.2.1)) j = some none
 | [], _, _, _ => rfl
 | e :: m, i, j, hn => by
  unfold lookR at hn
  by_cases hs : s = e.1
  ·rw [if_pos hs] at hn; cases hn
  ·rw [if_neg hs] at hn
   show findE 2 (.str s) ((.str e.1, .agg (pcells e.2)) :: (smE m (i + 1)).map fun e => (e.1, e.2.1)) j = _
   unfold findE
   rw [show keyEq 2 (.str s) (.str e.1) = some false by show some (s == e.1) = _; simp [hs]]
   exact findE_smE s m (i + 1) (j + 1) hn
theorem x_mapup (r : Ref) (m : List (List UInt8 × List PVal)) (n : Nat) (s : List UInt8) (row : List PVal) (hg : h.get r = some (.map (smE m 0) m.length)) (hn : lookR s m = none) :
  vop O (.mapup 2 (.k (.v (.c (.mref r)))) (.k (kS s)) (.k (.v (.agg (pcells row))))) h d k = k .undef (h.put r (.map (smE (m ++ [(s, row)]) 0) (m ++ [(s, row)]).length)) := by
 show opK O _ .nil h d k = _
 rw [opK_eq]
 have : slow O (.mapup 2 (.k (.v (.c (.mref r)))) (.k (kS s)) (.k (.v (.agg (pcells row))))) .nil h d = some (.undef, h.put r (.map (smE (m ++ [(s, row)]) 0) (m ++ [(s, row)]).length)) := by
  unfold slow
  show ((Plan.write r _).exec O d h).map _ = _
  rw [exec_write, hg]
  show Option.map _ (match findE 2 (.str s) ((smE m 0).map fun e => (e.1, e.2.1)) 0 with | some (some (i, _)) => _ | some none => some (TVal.undef, AObj.map (smE m 0 ++ [(.str s, .agg (pcells row), m.length)]) (m.length + 1)) | none => none) = _
  rw [findE_smE s m 0 0 hn, smE_snoc]
  simp
 rw [this]; rfl
theorem freeze_smE (hp : Heap) (n : Nat) : ∀ (m : List (List UInt8 × List PVal)) (i : Nat), (smE m i).mapM (fun e => match e.2.1 with
     | .c x => (freeze hp (n + 1) x).map fun y => ((e.1, false, [y.1]), y.2)
     | .agg cs => (cs.mapM (freeze hp (n + 1))).map fun ys => ((e.1, true, ys.map (·.1)), ys.flatMap (·.2))) = some (m.map fun e => ((.str e.1, true, e.2), []))
 | [], i => rfl
 | e :: m, i => by
  have hc : (pcells e.2).mapM (freeze hp (n + 1)) = some (e.2.map fun x => (x, [])) := by
   generalize e.2 = l
   induction l with
   | nil => rfl
   | cons a l ih =>
    show ((Cell.p a :: pcells l).mapM (freeze hp (n + 1))) = _
    rw [List.mapM_cons, ih]; rfl
  have hm := freeze_smE hp n m (i + 1)
  have e1 : (e.2.map fun x => (x, ([] : List Ref))).map (·.1) = e.2 := by rw [List.map_map]; exact List.map_id' e.2
  have e2 : (e.2.map fun x => (x, ([] : List Ref))).flatMap (·.2) = [] := by
   generalize e.2 = l
   induction l with
   | nil => rfl
   | cons a l ih => rw [List.map_cons, List.flatMap_cons, ih]; rfl
  unfold smE
  rw [List.mapM_cons, hm]
  simp only [hc, Option.map_some, Option.bind_eq_bind, Option.bind_some, Option.pure_def, e1, e2, List.map_cons]
theorem x_finmap (r : Ref) (m : List (List UInt8 × List PVal)) (n : Nat) (hg : h.get r = some (.map (smE m 0) n)) : vfin true 0 [.c (.mref r)] h = some (.v (.c (.p (smP m))), []) := by
 letI : Sym := ⟨fun _ => 0⟩
 rw [vfin_eq]
 have ef : freezeT h (oneOf [.c (.mref r)]) = some (.v (.c (.p (smP m))), [r]) := by
  show (freezeC h (.c (.mref r))).map (fun y => (TVal.v y.1, y.2)) = _
  show ((freeze h 30 (.mref r)).map fun y => (Comp.c (.p y.1), y.2)).map (fun y => (TVal.v y.1, y.2)) = _
  have : freeze h 30 (.mref r) = some (smP m, [r]) := by
   unfold freeze
   simp only [hg]
   have := freeze_smE h 28 m 0
   refine (congrArg (fun (o : Option (List ((PVal × Bool × List PVal) × List Ref))) => o.bind fun vs => some (PVal.pmap (vs.map (·.1)), r :: vs.flatMap (·.2))) this).trans ?_
   show some (PVal.pmap ((m.map fun e => ((PVal.str e.1, true, e.2), ([] : List Ref))).map (·.1)), r :: (m.map fun e => ((PVal.str e.1, true, e.2), ([] : List Ref))).flatMap (·.2)) = _
   have e2 : (m.map fun e => ((PVal.str e.1, true, e.2), ([] : List Ref))).flatMap (·.2) = [] := by
    clear hg this
    induction m with
    | nil => rfl
    | cons a l ih => rw [List.map_cons, List.flatMap_cons, ih]; rfl
   rw [e2, List.map_map]; rfl
  rw [this]; rfl
 unfold finV
 rw [show ims 0 = ([] : List Ref) from rfl]
 simp [ef, TVal.refs, Comp.refs, Cell.refs, TVal.ren, Comp.ren, Cell.ren, reach, fuelReach]
end
theorem exC :
  (∀ {β : Type} {O : Oracle} {h : Heap} {d : Nat} {k : TVal → Heap → Option β} (f : FuncId) (r : Ref), vop O (.mkfn f [.k (.v (.c (.ptr r 0)))]) h d k = k (.v (.c (.func f [r]))) h) ∧
  (∀ {β : Type} {O : Oracle} {h : Heap} {d : Nat} {k : TVal → Heap → Option β} (f : FuncId), vop O (.mkfn f []) h d k = k (.v (.c (.func f []))) h) ∧
  (∀ {β : Type} {O : Oracle} {h : Heap} {d : Nat} {k : TVal → Heap → Option β} (g : FuncId) (c : Ref) (as : List TVal), vcall O (.v (.c (.func g [c]))) as h d k = vcall O (.v (.c (.func g []))) (as ++ [.v (.c (.ptr c 0))]) h d k) ∧
  (∀ {β : Type} {O : Oracle} {h : Heap} {d : Nat} {k : TVal → Heap → Option β}, vop O .mkmap h d k = k (.v (.c (.mref (.own d (h.gen d + 1))))) (h.own d (h.gen d + 1) (.map [] 0))) ∧
  (∀ {β : Type} {O : Oracle} {h : Heap} {d : Nat} {k : TVal → Heap → Option β} (m : List (List UInt8 × List PVal)), vlen O 3 (.v (.c (.p (smP m)))) h d k = k (kI (m.length : Int)) h) ∧
  (∀ {β : Type} {O : Oracle} {h : Heap} {d : Nat} {k : TVal → Heap → Option β} (zs : List Cell) (m : List (List UInt8 × List PVal)) (s : List UInt8), vop O (.lookup 2 (.agg zs) (.k (.v (.c (.p (smP m))))) (.k (kS s)) false) h d k = k (match lookR s m with | some r => .v (.agg (pcells r)) | none => .v (.agg zs)) h) :=
 ⟨x_mkfn, x_mkfn0, x_clo, x_mkmap, x_smlen, x_lookup⟩
end Go.AI
