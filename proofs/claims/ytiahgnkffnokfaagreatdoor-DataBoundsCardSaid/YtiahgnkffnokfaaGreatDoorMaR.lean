/- Rules, continued: regions whose order is open. Own work; no condition but what each names. -/
import Derived.Test.YtiahgnkffnokfaaGreatDoorMaQ
set_option linter.all false
set_option linter.unusedVariables false
set_option linter.unusedSimpArgs false
namespace Go.AI
section
variable {β : Type} {O : Oracle} {h : Heap} {d : Nat} {kt : TVal → Heap → Touch → Option β}
@[congr] theorem vtouch_congr {op op' : AOp} (e : op = op') : vtouch O op h d kt = vtouch O op' h d kt := by rw [e]
theorem vt_pure (op : AOp) (hp : ∀ p, plan .nil op = some p → ∃ v, p = .pure v) : vtouch O op h d kt = (slow O op .nil h d).bind fun x => kt x.1 x.2 noTouch := by
 show bnd (plan2 op .nil) (fun p => bnd (p.exec O d h) fun x => kt x.1 x.2.1 x.2.2) = _
 rw [plan2_eq]
 unfold slow
 cases hq : plan .nil op with
 | none => rfl
 | some p =>
  obtain ⟨v, rfl⟩ := hp p hq
  rfl
theorem map_pure {α : Type} {o : Option α} {f : α → TVal} {p : Plan} (e : (o.map fun c => Plan.pure (f c)) = some p) : ∃ v, p = .pure v := by
 cases o with
 | none => cases e
 | some c => exact ⟨f c, (Option.some.inj e).symm⟩
theorem t_bin (op : BinOp) (kd : Nat) (a b : Cell) : vtouch O (.bin op kd (.k (.v (.c a))) (.k (.v (.c b)))) h d kt = vbin op kd (.v (.c a)) (.v (.c b)) h fun v h => kt v h noTouch := by
 rw [vt_pure (.bin op kd (.k (.v (.c a))) (.k (.v (.c b)))) (fun p e => map_pure (o := binV op kd a b) (f := fun c => .v (.c c)) e)]
 exact (fits_bin O op kd (.k (.v (.c a))) (.k (.v (.c b))) .nil h d (fun v h => kt v h noTouch)).symm
theorem t_mv (v : TVal) : vtouch O (.mv (.k v)) h d kt = kt v h noTouch := by
 exact vtouch_plan _ _ rfl
theorem t_ext (vs : List Comp) (i : Nat) : vtouch O (.extract (.k (.tup vs)) i) h d kt = obnd vs[i]? fun v => kt (.v v) h noTouch := by
 cases hv : vs[i]? with
 | none =>
  have : plan .nil (.extract (.k (.tup vs)) i) = none := by
   show (match vs[i]? with | some v => some (Plan.pure (.v v)) | none => none) = none
   rw [hv]
  show bnd (plan2 _ .nil) _ = _
  rw [plan2_eq, this]; rfl
 | some v =>
  have : plan .nil (.extract (.k (.tup vs)) i) = some (.pure (.v v)) := by
   show (match vs[i]? with | some v => some (Plan.pure (.v v)) | none => none) = _
   rw [hv]
  show bnd (plan2 _ .nil) _ = _
  rw [plan2_eq, this]; rfl
theorem t_plan (op : AOp) (v : TVal) (hb : plan .nil op = some (.pure v)) : vtouch O op h d kt = kt v h noTouch := vtouch_plan op v hb
theorem t_faddr (o off : Nat) (r : Ref) : vtouch O (.faddr off (.k (.v (.c (.ptr r o))))) h d kt = kt (.v (.c (.ptr r (o + off)))) h noTouch := t_plan _ _ rfl
theorem t_faddrP (o off : Nat) (r : List PVal) : vtouch O (.faddr off (.k (.v (.c (.p (.pptr r o)))))) h d kt = kt (.v (.c (.p (.pptr r (o + off))))) h noTouch := t_plan _ _ rfl
theorem t_len_s (s : List UInt8) : vtouch O (.len 0 (.k (kS s))) h d kt = kt (kI (s.length : Int)) h noTouch := t_plan _ _ rfl
theorem t_len_nil : vtouch O (.len 2 (.k kNil)) h d kt = kt (kI 0) h noTouch := t_plan _ _ rfl
theorem t_len_sl (sz : Nat) (t : Bool) (rows : List (List PVal)) : vtouch O (.len 2 (.k (kSl sz t rows))) h d kt = kt (kI (rows.length : Int)) h noTouch := t_plan _ _ rfl
theorem t_len_tsl (sz : Nat) (rows : List (List PVal)) (r : Ref) : vtouch O (.len 2 (.k (.v (.c (.tsl sz rows r))))) h d kt = kt (kI (rows.length : Int)) h noTouch := t_plan _ _ rfl
theorem t_not (b : Bool) : vtouch O (.un .not (.k (kB b))) h d kt = kt (kB (!b)) h noTouch := t_plan _ _ rfl
theorem vt_go1 (op : AOp) (r : Ref) (pk : List AObj → Option Res) (hb : plan .nil op = some (.go [r] pk)) : vtouch O op h d kt = ((h.get r).bind fun o => goOp [r] pk d h).bind fun x => kt x.1 x.2.1 x.2.2 := by
 show bnd (plan2 op .nil) (fun p => bnd (p.exec O d h) fun x => kt x.1 x.2.1 x.2.2) = _
 rw [plan2_eq, hb]
 show bnd (goOp [r] pk d h) _ = _
 cases hg : h.get r with
 | none =>
  have : goOp [r] pk d h = none := by unfold goOp; rw [mapM1, hg]; rfl
  rw [this]; rfl
 | some o =>
  show bnd (goOp [r] pk d h) _ = (goOp [r] pk d h).bind _
  cases goOp [r] pk d h <;> rfl
theorem t_load (n off : Nat) (r : Ref) : vtouch O (.load false n (.k (.v (.c (.ptr r off))))) h d kt = objK (h.get r) fun cs _ => obnd cs[off]? fun c => kt (.v (.c c)) h ⟨[r.site], [], false⟩ := by
 rw [vt_go1 _ r _ rfl]
 cases hg : h.get r with
 | none => rfl
 | some o =>
  show (goOp [r] _ d h).bind _ = _
  unfold goOp
  rw [mapM1, hg]
  cases o with
  | cells cs imm =>
   cases hc : cs[off]? with
   | none =>
    have h1 : partOf false n cs off = none := by simp [partOf, hc]
    simp only [Option.map_some, h1, objK, Option.map_none, hc]; rfl
   | some c =>
    have h1 : partOf false n cs off = some (.v (.c c)) := by simp [partOf, hc]
    simp only [Option.map_some, h1, objK, hc]; rfl
  | _ => rfl
theorem t_loadA (n off : Nat) (r : Ref) : vtouch O (.load true n (.k (.v (.c (.ptr r off))))) h d kt = objK (h.get r) fun cs _ => chk (decide (((cs.drop off).take n).length = n)) (kt (.v (.agg ((cs.drop off).take n))) h ⟨[r.site], [], false⟩) := by
 rw [vt_go1 _ r _ rfl]
 cases hg : h.get r with
 | none => rfl
 | some o =>
  show (goOp [r] _ d h).bind _ = _
  unfold goOp
  rw [mapM1, hg]
  cases o with
  | cells cs imm =>
   by_cases hc : ((cs.drop off).take n).length = n
   ·have h1 : partOf true n cs off = some (.v (.agg ((cs.drop off).take n))) := by unfold partOf; rw [if_pos rfl]; dsimp only; rw [if_pos hc]
    simp only [Option.map_some, h1, objK, chk]
    rw [decide_eq_true hc]; rfl
   ·have h1 : partOf true n cs off = none := by unfold partOf; rw [if_pos rfl]; dsimp only; rw [if_neg hc]
    simp only [Option.map_some, h1, objK, chk, Option.map_none]
    rw [decide_eq_false hc]; rfl
  | _ => rfl
theorem t_call0 (g : FuncId) (as : List TVal) (v : TVal) (ha : allB pT as = true) (ho : O g as [] = some (v, [])) (hv : pT v = true) : vtouch O (.call (.k (.v (.c (.func g [])))) (as.map .k)) h d kt = kt v h noTouch := vtouch_call g as v ha ho hv
theorem apart_none_l (t : Touch) : Touch.apart noTouch t = true := by unfold Touch.apart noTouch disj; simp
theorem apart_none_r (t : Touch) : Touch.apart t noTouch = true := by unfold Touch.apart noTouch disj; simp
/-- Those that only look are apart. -/
theorem apart_look (a b : List Site) : Touch.apart ⟨a, [], false⟩ ⟨b, [], false⟩ = true := by unfold Touch.apart disj; simp
theorem apartAll_nil (ts : List Touch) : apartAll ts [] = true := rfl
theorem apartAll_cons (ts : List Touch) (i j : Nat) (ps : List (Nat × Nat)) : apartAll ts ((i, j) :: ps) = ((match ts[i]?, ts[j]? with | some a, some b => a.apart b | _, _ => false) && apartAll ts ps) := rfl
theorem bif_t (x y : Option β) : (bif true then x else y) = x := rfl
theorem exT :
  (∀ {β : Type} {O : Oracle} {h : Heap} {d : Nat} {kt : TVal → Heap → Touch → Option β} (op : BinOp) (kd : Nat) (a b : Cell), vtouch O (.bin op kd (.k (.v (.c a))) (.k (.v (.c b)))) h d kt = vbin op kd (.v (.c a)) (.v (.c b)) h fun v h => kt v h noTouch) ∧
  (∀ {β : Type} {O : Oracle} {h : Heap} {d : Nat} {kt : TVal → Heap → Touch → Option β} (v : TVal), vtouch O (.mv (.k v)) h d kt = kt v h noTouch) ∧
  (∀ {β : Type} {O : Oracle} {h : Heap} {d : Nat} {kt : TVal → Heap → Touch → Option β} (vs : List Comp) (i : Nat), vtouch O (.extract (.k (.tup vs)) i) h d kt = obnd vs[i]? fun v => kt (.v v) h noTouch) ∧
  (∀ {β : Type} {O : Oracle} {h : Heap} {d : Nat} {kt : TVal → Heap → Touch → Option β} (o off : Nat) (r : Ref), vtouch O (.faddr off (.k (.v (.c (.ptr r o))))) h d kt = kt (.v (.c (.ptr r (o + off)))) h noTouch) ∧
  (∀ {β : Type} {O : Oracle} {h : Heap} {d : Nat} {kt : TVal → Heap → Touch → Option β} (o off : Nat) (r : List PVal), vtouch O (.faddr off (.k (.v (.c (.p (.pptr r o)))))) h d kt = kt (.v (.c (.p (.pptr r (o + off))))) h noTouch) ∧
  (∀ {β : Type} {O : Oracle} {h : Heap} {d : Nat} {kt : TVal → Heap → Touch → Option β} (s : List UInt8), vtouch O (.len 0 (.k (kS s))) h d kt = kt (kI (s.length : Int)) h noTouch) ∧
  (∀ {β : Type} {O : Oracle} {h : Heap} {d : Nat} {kt : TVal → Heap → Touch → Option β}, vtouch O (.len 2 (.k kNil)) h d kt = kt (kI 0) h noTouch) ∧
  (∀ {β : Type} {O : Oracle} {h : Heap} {d : Nat} {kt : TVal → Heap → Touch → Option β} (sz : Nat) (t : Bool) (rows : List (List PVal)), vtouch O (.len 2 (.k (kSl sz t rows))) h d kt = kt (kI (rows.length : Int)) h noTouch) ∧
  (∀ {β : Type} {O : Oracle} {h : Heap} {d : Nat} {kt : TVal → Heap → Touch → Option β} (sz : Nat) (rows : List (List PVal)) (r : Ref), vtouch O (.len 2 (.k (.v (.c (.tsl sz rows r))))) h d kt = kt (kI (rows.length : Int)) h noTouch) ∧
  (∀ {β : Type} {O : Oracle} {h : Heap} {d : Nat} {kt : TVal → Heap → Touch → Option β} (b : Bool), vtouch O (.un .not (.k (kB b))) h d kt = kt (kB (!b)) h noTouch) ∧
  (∀ {β : Type} {O : Oracle} {h : Heap} {d : Nat} {kt : TVal → Heap → Touch → Option β} (n off : Nat) (r : Ref), vtouch O (.load false n (.k (.v (.c (.ptr r off))))) h d kt = objK (h.get r) fun cs _ => obnd cs[off]? fun c => kt (.v (.c c)) h ⟨[r.site], [], false⟩) ∧
  (∀ {β : Type} {O : Oracle} {h : Heap} {d : Nat} {kt : TVal → Heap → Touch → Option β} (n off : Nat) (r : Ref), vtouch O (.load true n (.k (.v (.c (.ptr r off))))) h d kt = objK (h.get r) fun cs _ => chk (decide (((cs.drop off).take n).length = n)) (kt (.v (.agg ((cs.drop off).take n))) h ⟨[r.site], [], false⟩)) ∧
  (∀ t : Touch, Touch.apart noTouch t = true) ∧ (∀ t : Touch, Touch.apart t noTouch = true) ∧ (∀ a b : List Site, Touch.apart ⟨a, [], false⟩ ⟨b, [], false⟩ = true) ∧ (∀ ts : List Touch, apartAll ts [] = true) ∧
  (∀ (ts : List Touch) (i j : Nat) (ps : List (Nat × Nat)), apartAll ts ((i, j) :: ps) = ((match ts[i]?, ts[j]? with | some a, some b => a.apart b | _, _ => false) && apartAll ts ps)) ∧ (∀ {β : Type} (x y : Option β), (bif true then x else y) = x) :=
 ⟨t_bin, t_mv, t_ext, t_faddr, t_faddrP, t_len_s, t_len_nil, t_len_sl, t_len_tsl, t_not, t_load, t_loadA, apart_none_l, apart_none_r, apart_look, apartAll_nil, apartAll_cons, bif_t⟩
end
end Go.AI
