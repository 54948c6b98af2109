/- Rules, continued: closures handed in, maps. Own work; no condition but what each names. -/
import Derived.Test.YtiahgnkffnokfaaGreatDoorMaR
set_option linter.all false
set_option linter.unusedVariables false
set_option linter.unusedSimpArgs false
namespace Go.AI
section
variable {β : Type} {O : Oracle} {h : Heap} {d : Nat} {k : TVal → Heap → Option β}
theorem x_mkfn (f : FuncId) (r : Ref) : vop O (.mkfn f [.k (.v (.c (.ptr r 0)))]) h d k = k (.v (.c (.func f [r]))) h := vplan _ _ rfl
theorem x_mkfn0 (f : FuncId) : vop O (.mkfn f []) h d k = k (.v (.c (.func f []))) h := vplan _ _ rfl
theorem x_clo (g : FuncId) (c : Ref) (as : List TVal) : vcall O (.v (.c (.func g [c]))) as h d k = vcall O (.v (.c (.func g []))) (as ++ [.v (.c (.ptr c 0))]) h d k := rfl
theorem x_mkmap : vop O .mkmap h d k = k (.v (.c (.mref (.own d (h.gen d + 1))))) (h.own d (h.gen d + 1) (.map [] 0)) := rfl
theorem x_maplen (es : List (PVal × Bool × List PVal)) : vlen O 3 (.v (.c (.p (.pmap es)))) h d k = k (kI (es.length : Int)) h := by
 show opK O (.len 3 (.k _)) .nil h d k = _
 rw [opK_eq]; rfl
/-- A map from texts to structs. -/
def smP (m : List (List UInt8 × List PVal)) : PVal := .pmap (m.map fun e => (.str e.1, true, e.2))
def lookR {α : Type} (s : List UInt8) : List (List UInt8 × α) → Option α
 | [] => none
 | e :: m => if s = e.1 then some e.2 else lookR s m
theorem findE_str {α : Type} (s : List UInt8) (f : List UInt8 × α → PVal × Comp) (hf : ∀ e, (f e).1 = .str e.1) : ∀ (m : List (List UInt8 × α)) (i : Nat), ∃ o : Option (Nat × Comp), findE 2 (.str s) (m.map f) i = some o ∧ (o.map (·.2)) = (m.find? fun e => decide (s = e.1)).map fun e => (f e).2
 | [], i => ⟨none, rfl, rfl⟩
 | e :: m, i => by
  have hk : keyEq 2 (.str s) (f e).1 = some (s == e.1) := by rw [hf]; rfl
  obtain ⟨o, h1, h2⟩ := findE_str s f hf m (i + 1)
  rw [List.map_cons]
  unfold findE
  rw [hk]
  by_cases hs : s = e.1
  ·rw [show (s == e.1) = true by simp [hs]]
   exact ⟨some (i, (f e).2), rfl, by simp [hs]⟩
  ·rw [show (s == e.1) = false by simp [hs]]
   exact ⟨o, h1, by rw [h2]; simp [hs]⟩
theorem lookR_find {α : Type} (s : List UInt8) : ∀ m : List (List UInt8 × α), lookR s m = (m.find? fun e => decide (s = e.1)).map (·.2)
 | [] => rfl
 | e :: m => by
  unfold lookR
  by_cases hs : s = e.1
  ·simp [hs]
  ·simp [hs, lookR_find s m]
theorem x_lookup (zs : List Cell) (m : List (List UInt8 × List PVal)) (s : List UInt8) : vop O (.lookup 2 (.agg zs) (.k (.v (.c (.p (smP m))))) (.k (kS s)) false) h d k = k (match lookR s m with | some r => .v (.agg (pcells r)) | none => .v (.agg zs)) h := by
 refine vplan _ _ ?_
 obtain ⟨o, h1, h2⟩ := findE_str s (fun e : List UInt8 × List PVal => ((.str e.1, .agg (pcells e.2)) : PVal × Comp)) (fun _ => rfl) m 0
 show Option.map (fun e => Plan.pure (found (.agg zs) false e)) (findE 2 (.str s) ((m.map fun e => ((.str e.1, true, e.2) : PVal × Bool × List PVal)).map pmComp) 0) = _
 have e1 : (m.map fun e => ((.str e.1, true, e.2) : PVal × Bool × List PVal)).map pmComp = m.map fun e : List UInt8 × List PVal => ((.str e.1, .agg (pcells e.2)) : PVal × Comp) := by
  rw [List.map_map]; rfl
 rw [e1, h1, lookR_find]
 cases hf : m.find? (fun e => decide (s = e.1)) with
 | none =>
  rw [hf] at h2
  have : o = none := by cases o with | none => rfl | some _ => cases h2
  subst this; rfl
 | some e =>
  rw [hf] at h2
  cases o with
  | none => cases h2
  | some x =>
   obtain ⟨i, c⟩ := x
   have : c = .agg (pcells e.2) := Option.some.inj h2
   subst this; rfl
theorem x_smlen (m : List (List UInt8 × List PVal)) : vlen O 3 (.v (.c (.p (smP m)))) h d k = k (kI (m.length : Int)) h := by
 unfold smP; rw [x_maplen, List.length_map]
end
theorem exC :
  (∀ {β : Type} {O : Oracle} {h : Heap} {d : Nat} {k : TVal → Heap → Option β} (f : FuncId) (r : Ref), vop O (.mkfn f [.k (.v (.c (.ptr r 0)))]) h d k = k (.v (.c (.func f [r]))) h) ∧
  (∀ {β : Type} {O : Oracle} {h : Heap} {d : Nat} {k : TVal → Heap → Option β} (f : FuncId), vop O (.mkfn f []) h d k = k (.v (.c (.func f []))) h) ∧
  (∀ {β : Type} {O : Oracle} {h : Heap} {d : Nat} {k : TVal → Heap → Option β} (g : FuncId) (c : Ref) (as : List TVal), vcall O (.v (.c (.func g [c]))) as h d k = vcall O (.v (.c (.func g []))) (as ++ [.v (.c (.ptr c 0))]) h d k) ∧
  (∀ {β : Type} {O : Oracle} {h : Heap} {d : Nat} {k : TVal → Heap → Option β}, vop O .mkmap h d k = k (.v (.c (.mref (.own d (h.gen d + 1))))) (h.own d (h.gen d + 1) (.map [] 0))) ∧
  (∀ {β : Type} {O : Oracle} {h : Heap} {d : Nat} {k : TVal → Heap → Option β} (m : List (List UInt8 × List PVal)), vlen O 3 (.v (.c (.p (smP m)))) h d k = k (kI (m.length : Int)) h) ∧
  (∀ {β : Type} {O : Oracle} {h : Heap} {d : Nat} {k : TVal → Heap → Option β} (zs : List Cell) (m : List (List UInt8 × List PVal)) (s : List UInt8), vop O (.lookup 2 (.agg zs) (.k (.v (.c (.p (smP m))))) (.k (kS s)) false) h d k = k (match lookR s m with | some r => .v (.agg (pcells r)) | none => .v (.agg zs)) h) :=
 ⟨x_mkfn, x_mkfn0, x_clo, x_mkmap, x_smlen, x_lookup⟩
end Go.AI
