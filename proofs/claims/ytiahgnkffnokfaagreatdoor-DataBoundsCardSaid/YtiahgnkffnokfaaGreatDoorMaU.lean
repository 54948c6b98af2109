/- Rules, continued: rows that may be written, made anew, handed back. Own work; no condition but what each names. -/
import Derived.Test.YtiahgnkffnokfaaGreatDoorVtC
set_option linter.all false
set_option linter.unusedVariables false
set_option linter.unusedSimpArgs false
namespace Go.AI
section
variable {β : Type} {O : Oracle} {h : Heap} {d : Nat} {k : TVal → Heap → Option β} {kt : TVal → Heap → Touch → Option β}
theorem push_get_new (h : Heap) (o : AObj) (ho : o ≠ .dead) : (h.push o).get (.im h.ims.length) = some o := by
 unfold Heap.push Heap.get
 simp
 cases o <;> first | rfl | exact absurd rfl ho
theorem push_get_own (h : Heap) (o : AObj) (d g : Nat) : (h.push o).get (.own d g) = h.get (.own d g) := rfl
theorem push_gen (h : Heap) (o : AObj) (d : Nat) : (h.push o).gen d = h.gen d := rfl
/-- A call that answers with a new row. -/
theorem t_callNew (g : FuncId) (as : List TVal) (len : Nat) (cap : Option Nat) (sz : Nat) (xs : List PVal) (ha : allB pT as = true) (ho : O g as [] = some (.v (.c (.sref (.im 0) 0 len cap sz)), [.cells (pcells xs) 0])) :
  vtouch O (.call (.k (.v (.c (.func g [])))) (as.map .k)) h d kt = kt (.v (.c (.sref (.im h.ims.length) 0 len cap sz))) (h.push (.cells (pcells xs) 0)) ⟨[], [.im h.ims.length], true⟩ := by
 obtain ⟨a1, a2, a3⟩ := pT_args ha
 have hb : plan .nil (.call (.k (.v (.c (.func g [])))) (as.map .k)) = some (.call g as) := by
  have hm : (as.map X.k).mapM (fun x => X.ev .nil x) = some as := by
   clear ha ho a1 a2 a3
   induction as with
   | nil => rfl
   | cons a as ih => rw [List.map_cons, List.mapM_cons, ih]; rfl
  show ((as.map X.k).mapM (fun x => X.ev .nil x)).bind (fun vs => some (Plan.call g (vs ++ []))) = _
  rw [hm]; simp
 have hr : ∀ σ, (AObj.cells (pcells xs) 0).ren σ = .cells (pcells xs) 0 := fun σ => by
  show AObj.cells ((pcells xs).map (Cell.ren σ)) 0 = _
  unfold pcells; rw [List.map_map]; rfl
 have hc : callOp O g as d h = some (.v (.c (.sref (.im h.ims.length) 0 len cap sz)), h.push (.cells (pcells xs) 0), ⟨[], [.im h.ims.length], true⟩) := by
  unfold callOp
  simp [a1, a2, reach, fuelReach, a3, ho, putAll, hr, Heap.push]
  rfl
 show bnd (plan2 (.call (.k (.v (.c (.func g [])))) (as.map .k)) .nil) (fun p => bnd (p.exec O d h) fun x => kt x.1 x.2.1 x.2.2) = _
 rw [plan2_eq, hb]
 show bnd (callOp O g as d h) _ = _
 rw [hc]
theorem x_callNew (g : FuncId) (as : List TVal) (len : Nat) (cap : Option Nat) (sz : Nat) (xs : List PVal) (ha : allB pT as = true) (ho : O g as [] = some (.v (.c (.sref (.im 0) 0 len cap sz)), [.cells (pcells xs) 0])) :
  vop O (.call (.k (.v (.c (.func g [])))) (as.map .k)) h d k = k (.v (.c (.sref (.im h.ims.length) 0 len cap sz))) (h.push (.cells (pcells xs) 0)) := by
 rw [vop_touch, t_callNew g as len cap sz xs ha ho]
theorem reach_one (i : Nat) (cs : List Cell) (imm : Nat) (hg : h.get (.im i) = some (.cells cs imm)) (hr : (AObj.cells cs imm).refs = []) : reach h fuelReach [.im i] [] = [.im i] := by
 show reach h 400 [.im i] [] = _
 unfold reach
 rw [show ([] : List Ref).contains (.im i) = false from rfl, cond_false, hg]
 dsimp only
 rw [hr]
 simp [reach]
theorem pc_refs (xs : List PVal) (imm : Nat) : (AObj.cells (pcells xs) imm).refs = [] := by
 show (pcells xs).flatMap Cell.refs = []
 unfold pcells
 induction xs with
 | nil => rfl
 | cons x xs ih => rw [List.map_cons, List.flatMap_cons, ih]; rfl
theorem pc_ren (xs : List PVal) (imm : Nat) (σ : Ref → Option Ref) : (AObj.cells (pcells xs) imm).ren σ = .cells (pcells xs) imm := by
 show AObj.cells ((pcells xs).map (Cell.ren σ)) imm = _
 unfold pcells; rw [List.map_map]; rfl
/-- A new row is handed back. -/
theorem fin_row (i len sz : Nat) (cap : Option Nat) (xs : List PVal) (hg : h.get (.im i) = some (.cells (pcells xs) 0)) :
  vfin false 0 [.c (.sref (.im i) 0 len cap sz)] h = some (.v (.c (.sref (.im 0) 0 len cap sz)), [.cells (pcells xs) 0]) := by
 letI : Sym := ⟨fun _ => 0⟩
 rw [vfin_eq]
 have hr := reach_one i _ _ hg (pc_refs xs 0)
 unfold finV
 simp only [Bool.false_eq_true, if_false, settle, oneOf]
 rw [show ims 0 = ([] : List Ref) from rfl]
 rw [List.flatMap_nil, List.nil_append, show (TVal.v (Comp.c (Cell.sref (.im i) 0 len cap sz))).refs = [Ref.im i] from rfl, hr]
 simp only [List.map_cons, List.map_nil, hg, pc_ren]
 show some (TVal.v (Comp.c ((Cell.sref (.im i) 0 len cap sz).ren (inn [.im i]))), _) = _
 have : inn [Ref.im i] (.im i) = some (.im 0) := by simp [inn, idx]
 show some (TVal.v (Comp.c (match inn [Ref.im i] (.im i) with | some s => Cell.sref s 0 len cap sz | none => .junk)), _) = _
 rw [this]
theorem freeze_p (n : Nat) (xs : List PVal) : (pcells xs).mapM (freeze h (n + 1)) = some (xs.map fun x => (x, [])) := by
 unfold pcells
 induction xs with
 | nil => rfl
 | cons x xs ih => rw [List.map_cons, List.mapM_cons, ih]; rfl
theorem freeze_row (n : Nat) (i : Nat) (sz : Nat) (cap : Option Nat) (rows : List (List PVal)) (hz : ∀ r ∈ rows, r.length = sz) (hg : h.get (.im i) = some (.cells (pcells rows.flatten) 0)) :
  freeze h (n + 2) (.sref (.im i) 0 rows.length cap sz) = some (.slice sz (cap == some rows.length) rows, [.im i]) := by
 have hl : (pcells rows.flatten).length = rows.length * sz := flat_len hz
 have ht : ((pcells rows.flatten).drop 0).take (rows.length * sz) = pcells rows.flatten := by rw [List.drop_zero]; exact List.take_of_length_le (by omega)
 have h2 : ∀ xs : List PVal, (xs.map fun x => (x, ([] : List Ref))).map (fun x => Cell.p x.1) = pcells xs := fun xs => by rw [List.map_map]; rfl
 have h3 : ∀ xs : List PVal, (xs.map fun x => (x, ([] : List Ref))).flatMap (·.2) = [] := fun xs => by induction xs with | nil => rfl | cons x xs ih => rw [List.map_cons, List.flatMap_cons, ih]; rfl
 unfold freeze
 simp only [hg, ht, freeze_p, Option.bind_eq_bind, Option.bind_some, h2, h3, chunk_rows sz rows hz]
 rfl
/-- A struct whose last field is such a row. -/
theorem fin_last (i sz : Nat) (cap : Option Nat) (a : List PVal) (rows : List (List PVal)) (hz : ∀ r ∈ rows, r.length = sz) (hg : h.get (.im i) = some (.cells (pcells rows.flatten) 0)) :
  vfin true 0 [.agg (pcells a ++ [Cell.sref (.im i) 0 rows.length cap sz])] h = some (.v (.agg (pcells (a ++ [.slice sz (cap == some rows.length) rows]))), []) := by
 letI : Sym := ⟨fun _ => 0⟩
 rw [vfin_eq]
 have e1 : (pcells a ++ [Cell.sref (.im i) 0 rows.length cap sz]).mapM (freeze h fuelFreeze) = some ((a.map fun x => (x, [])) ++ [(.slice sz (cap == some rows.length) rows, [.im i])]) := by
  rw [List.mapM_append, show fuelFreeze = 29 + 1 from rfl, freeze_p, List.mapM_cons, show (29 + 1 : Nat) = 28 + 2 from rfl, freeze_row 28 i sz cap rows hz hg]
  rfl
 have e2 : ((a.map fun x => (x, ([] : List Ref))) ++ [(PVal.slice sz (cap == some rows.length) rows, [Ref.im i])]).map (fun y => Cell.p y.1) = pcells (a ++ [.slice sz (cap == some rows.length) rows]) := by
  unfold pcells; rw [List.map_append, List.map_append, List.map_map]; rfl
 have ef : freezeT h (oneOf [.agg (pcells a ++ [Cell.sref (.im i) 0 rows.length cap sz])]) = some (.v (.agg (pcells (a ++ [.slice sz (cap == some rows.length) rows]))), ((a.map fun x => (x, ([] : List Ref))) ++ [(PVal.slice sz (cap == some rows.length) rows, [Ref.im i])]).flatMap (·.2)) := by
  show ((freezeC h _).map _) = _
  show ((((pcells a ++ [Cell.sref (.im i) 0 rows.length cap sz]).mapM (freeze h fuelFreeze)).map _).map _) = _
  rw [e1]
  show some (TVal.v (.agg _), _) = _
  rw [e2]
 unfold finV
 obtain ⟨q1, q2, q3, q4⟩ := pT_props (show pT (.v (.agg (pcells (a ++ [.slice sz (cap == some rows.length) rows])))) = true from pT_agg _)
 rw [show ims 0 = ([] : List Ref) from rfl]
 simp [ef, q1, q2, q3, reach, fuelReach]
theorem x_len_sref (r : Ref) (off len sz : Nat) (cap : Option Nat) : vlen O 2 (.v (.c (.sref r off len cap sz))) h d k = k (kI (len : Int)) h := by
 show opK O (.len 2 (.k _)) .nil h d k = _
 rw [opK_eq]; rfl
theorem x_bsliceH (sz : Nat) (z : List Cell) : vop O (.bslice sz 0 z [] true) h d k = k (.v (.c (.sref (.im h.ims.length) 0 0 (some 0) sz))) (h.push (.cells [] 0)) := by
 show opK O _ .nil h d k = _
 rw [opK_eq]; rfl
theorem x_appendH {sz by' : Nat} {i : Nat} {b : PVal} {new : List (List PVal)} (H : SrcR sz b new) (hn : new ≠ []) (hb : new.length * by' ≤ 1099511627776) (hg : h.get (.im i) = some (.cells [] 0)) :
  vop O (.append sz by' true (.k (.v (.c (.sref (.im i) 0 0 (some 0) sz)))) (.k (.v (.c (.p b))))) h d k = k (.v (.c (.sref (.im h.ims.length) 0 new.length none sz))) (h.push (.cells (pcells new.flatten) 0)) := by
 have hc := H.cells
 have hs : srcRef (.v (.c (.p b))) = none := by rcases H with ⟨rfl, _⟩ | ⟨t, rfl⟩ <;> rfl
 have hnl : new.length ≠ 0 := by simpa using hn
 have ea : appendTo sz by' true (.v (.c (.sref (.im i) 0 0 (some 0) sz))) (some (.cells [] 0)) (pcells new.flatten) new.length = some ⟨fun r => .v (.c (.sref r 0 new.length none sz)), [], some (.cells (pcells new.flatten) 0), true⟩ := by
  unfold appendTo
  rw [if_neg hnl]
  dsimp only
  rw [if_pos ⟨rfl, by simp⟩, if_neg (by omega)]
  unfold freshRow
  rw [Nat.zero_add, if_pos (by omega)]
  simp
 show opK O _ .nil h d k = _
 rw [opK_eq]
 have : slow O (.append sz by' true (.k (.v (.c (.sref (.im i) 0 0 (some 0) sz)))) (.k (.v (.c (.p b))))) .nil h d = some (.v (.c (.sref (.im h.ims.length) 0 new.length none sz)), h.push (.cells (pcells new.flatten) 0)) := by
  show ((some (Plan.go (zipNeeds (dstRef _) (srcRef (.v (.c (.p b))))) _)).bind _) = _
  rw [hs]
  show ((Plan.go [.im i] _).exec O d h).map _ = _
  simp only [Plan.exec, goOp, mapM1, hg, Option.map_some, hs, dstRef, splitNeeds, Option.bind_eq_bind, Option.bind_some, hc, ea]
  rfl
 rw [this]; rfl
theorem x_appendH0 {sz by' : Nat} {i : Nat} {b : PVal} (H : SrcR sz b []) (hg : h.get (.im i) = some (.cells [] 0)) :
  vop O (.append sz by' true (.k (.v (.c (.sref (.im i) 0 0 (some 0) sz)))) (.k (.v (.c (.p b))))) h d k = k (.v (.c (.sref (.im i) 0 0 (some 0) sz))) h := by
 have hc := H.cells
 have hs : srcRef (.v (.c (.p b))) = none := by rcases H with ⟨rfl, _⟩ | ⟨t, rfl⟩ <;> rfl
 have ea : appendTo sz by' true (.v (.c (.sref (.im i) 0 0 (some 0) sz))) (some (.cells [] 0)) (pcells ([] : List (List PVal)).flatten) 0 = some ⟨fun _ => .v (.c (.sref (.im i) 0 0 (some 0) sz)), [], none, false⟩ := by
  unfold appendTo; rw [if_pos rfl]; rfl
 show opK O _ .nil h d k = _
 rw [opK_eq]
 have : slow O (.append sz by' true (.k (.v (.c (.sref (.im i) 0 0 (some 0) sz)))) (.k (.v (.c (.p b))))) .nil h d = some (.v (.c (.sref (.im i) 0 0 (some 0) sz)), h) := by
  show ((some (Plan.go (zipNeeds (dstRef _) (srcRef (.v (.c (.p b))))) _)).bind _) = _
  rw [hs]
  show ((Plan.go [.im i] _).exec O d h).map _ = _
  simp only [Plan.exec, goOp, mapM1, hg, Option.map_some, hs, dstRef, splitNeeds, Option.bind_eq_bind, Option.bind_some, hc, List.length_nil, ea]
  rfl
 rw [this]; rfl
/-! ### rows laid end to end -/
theorem flat_len0 {sz : Nat} {rows : List (List PVal)} (hz : ∀ r ∈ rows, r.length = sz) : rows.flatten.length = rows.length * sz := by
 have := flat_len hz
 unfold pcells at this; rwa [List.length_map] at this
theorem flat_at {sz : Nat} {rows : List (List PVal)} (hz : ∀ r ∈ rows, r.length = sz) (i : Nat) (r : List PVal) (hr : rows[i]? = some r) : ((pcells rows.flatten).drop (i * sz)).take sz = pcells r := by
 obtain ⟨hi, e⟩ := List.getElem?_eq_some_iff.1 hr
 have e1 : rows = rows.take i ++ r :: rows.drop (i + 1) := by
  rw [← e, ← List.drop_eq_getElem_cons hi, List.take_append_drop]
 have h1 : (rows.take i).flatten.length = i * sz := by
  rw [flat_len0 (fun x hx => hz x (List.mem_of_mem_take hx)), List.length_take, Nat.min_eq_left (by omega)]
 have h2 : r.length = sz := hz r (by rw [← e]; exact List.getElem_mem hi)
 rw [e1, List.flatten_append, List.flatten_cons]
 unfold pcells
 rw [← List.map_drop, ← List.map_take]
 congr 1
 rw [List.drop_append_of_le_length (by omega), List.drop_of_length_le (by omega), List.nil_append, List.take_append_of_le_length (by omega), List.take_of_length_le (by omega)]
theorem flat_put {sz : Nat} {rows : List (List PVal)} (hz : ∀ r ∈ rows, r.length = sz) (i : Nat) (hi : i < rows.length) (r' : List PVal) (hr' : r'.length = sz) : put1 (pcells rows.flatten) (i * sz) (pcells r') = pcells (rows.set i r').flatten := by
 have e1 : rows = rows.take i ++ rows[i] :: rows.drop (i + 1) := by
  rw [← List.drop_eq_getElem_cons hi, List.take_append_drop]
 have h1 : (rows.take i).flatten.length = i * sz := by
  rw [flat_len0 (fun x hx => hz x (List.mem_of_mem_take hx)), List.length_take, Nat.min_eq_left (by omega)]
 have h2 : rows[i].length = sz := hz _ (List.getElem_mem hi)
 have e2 : rows.set i r' = rows.take i ++ r' :: rows.drop (i + 1) := by
  rw [List.set_eq_take_append_cons_drop, if_pos hi]
 have e3 : rows.flatten = (rows.take i).flatten ++ (rows[i] ++ (rows.drop (i + 1)).flatten) := by
  conv => lhs; rw [e1]
  rw [List.flatten_append, List.flatten_cons]
 rw [e2, List.flatten_append, List.flatten_cons, e3]
 unfold put1 splice pcells
 rw [← List.map_take, ← List.map_drop, List.length_map, hr', ← List.map_append, ← List.map_append]
 congr 1
 rw [List.take_append_of_le_length (by omega), List.take_of_length_le (by omega), List.append_assoc]
 congr 2
 rw [List.drop_append, List.drop_of_length_le (by omega), List.nil_append, h1, show i * sz + sz - i * sz = sz by omega, List.drop_append, List.drop_of_length_le (by omega), List.nil_append, h2, Nat.sub_self, List.drop_zero]
theorem exU :
  (∀ (h : Heap) (o : AObj) (d g : Nat), (h.push o).get (.own d g) = h.get (.own d g)) ∧ (∀ (h : Heap) (o : AObj) (d : Nat), (h.push o).gen d = h.gen d) ∧ (∀ (h : Heap) (d g : Nat) (o : AObj), (h.own d g o).ims.length = h.ims.length) ∧ (h0.ims.length = 0) ∧
  (∀ {β : Type} {O : Oracle} {h : Heap} {d : Nat} {k : TVal → Heap → Option β} (r : Ref) (off len sz : Nat) (cap : Option Nat), vlen O 2 (.v (.c (.sref r off len cap sz))) h d k = k (kI (len : Int)) h) :=
 ⟨push_get_own, push_gen, fun _ _ _ _ => rfl, rfl, x_len_sref⟩
end
end Go.AI
