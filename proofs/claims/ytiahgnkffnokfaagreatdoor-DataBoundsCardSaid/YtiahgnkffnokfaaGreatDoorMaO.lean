/- The machine's operations as rules for 'simp only': a walk is a row of rewritings. Own work; no condition but what each names. -/
import Derived.Test.YtiahgnkffnokfaaGreatDoorMaN
import Derived.Test.YtiahgnkffnokfaaGreatDoorMaM
set_option linter.all false
set_option linter.unusedVariables false
set_option linter.unusedSimpArgs false
namespace Go.AI
def obnd {α β : Type} (o : Option α) (k : α → Option β) : Option β := o.bind k
def objK {β : Type} (o : Option AObj) (k : List Cell → Nat → Option β) : Option β := match o with
 | some (.cells cs imm) => k cs imm
 | _ => none
def chk {β : Type} (c : Bool) (x : Option β) : Option β := bif c then x else none
@[congr] theorem obnd_congr {α β : Type} {o o' : Option α} {k : α → Option β} (e : o = o') : obnd o k = obnd o' k := by rw [e]
@[congr] theorem objK_congr {β : Type} {o o' : Option AObj} {k : List Cell → Nat → Option β} (e : o = o') : objK o k = objK o' k := by rw [e]
@[congr] theorem chk_congr {β : Type} {c c' : Bool} {x : Option β} (e : c = c') : chk c x = chk c' x := by rw [e]
section
variable {β : Type} {O : Oracle} {h : Heap} {d : Nat} {k : TVal → Heap → Option β}
@[congr] theorem vop_congr {op op' : AOp} (e : op = op') : vop O op h d k = vop O op' h d k := by rw [e]
@[congr] theorem vbin_congr {op : BinOp} {kd : Nat} {a a' b b' : TVal} (e : a = a') (f : b = b') : vbin op kd a b h k = vbin op kd a' b' h k := by rw [e, f]
@[congr] theorem vtoInt_congr {K : IntKind} {a a' : TVal} (e : a = a') : vtoInt K a h k = vtoInt K a' h k := by rw [e]
@[congr] theorem vload_congr {g : Bool} {n : Nat} {a a' : TVal} (e : a = a') : vload g n a h k = vload g n a' h k := by rw [e]
@[congr] theorem vstore_congr {n : Nat} {a a' v v' : TVal} (e : a = a') (f : v = v') : vstore n a v h k = vstore n a' v' h k := by rw [e, f]
@[congr] theorem vfield_congr {o n : Nat} {g : Bool} {a a' : TVal} (e : a = a') : vfield o n g a h k = vfield o n g a' h k := by rw [e]
@[congr] theorem vfaddr_congr {o : Nat} {a a' : TVal} (e : a = a') : vfaddr o a h k = vfaddr o a' h k := by rw [e]
@[congr] theorem viaddr_congr {sz : Nat} {a a' i i' : TVal} (e : a = a') (f : i = i') : viaddr sz a i h k = viaddr sz a' i' h k := by rw [e, f]
@[congr] theorem vindex_congr {a a' i i' : TVal} (e : a = a') (f : i = i') : vindex a i h k = vindex a' i' h k := by rw [e, f]
@[congr] theorem vext_congr {a a' : TVal} {i : Nat} (e : a = a') : vext a i h k = vext a' i h k := by rw [e]
@[congr] theorem vcall_congr {g : TVal} {as as' : List TVal} (e : as = as') : vcall O g as h d k = vcall O g as' h d k := by rw [e]
@[congr] theorem vlen_congr {kd : Nat} {a a' : TVal} (e : a = a') : vlen O kd a h d k = vlen O kd a' h d k := by rw [e]
@[congr] theorem vif_congr {c c' : TVal} {x y : Option β} (e : c = c') : vif c x y = vif c' x y := by rw [e]
@[congr 100] theorem vguard_congr {c c' : TVal} {w : Bool} {doit : (TVal → Heap → Option β) → Option β} (e : c = c') : vguard c w doit h k = vguard c' w doit h k := by rw [e]
@[congr] theorem vcell_congr {g : Bool} {n : Nat} {a a' : TVal} {k : Comp → Res1} (e : a = a') : vcell g n a h k = vcell g n a' h k := by rw [e]
@[congr] theorem tcomp_congr {a a' : TVal} {k : Comp → Option β} (e : a = a') : tcomp a k = tcomp a' k := by rw [e]
/-! ### laws -/
theorem x_iaddr (sz : Nat) (t : Bool) (rows : List (List PVal)) (i : Int) : viaddr sz (kSl sz t rows) (kI i) h k = chk (decide (0 ≤ i)) (obnd rows[i.toNat]? fun row => k (.v (.c (.p (.pptr row 0)))) h) := by
 by_cases hi : 0 ≤ i
 ·obtain ⟨n, rfl⟩ : ∃ n : Nat, i = n := ⟨i.toNat, by omega⟩
  rw [decide_eq_true hi]
  show (bif Nat.beq sz sz then bnd (nthF rows n) _ else _) = obnd rows[(n : Int).toNat]? _
  rw [beq_dec, decide_eq_true rfl, nthF_eq, Int.toNat_natCast]
  unfold obnd
  cases rows[n]? <;> rfl
 ·rw [decide_eq_false hi]
  obtain ⟨n, rfl⟩ : ∃ n : Nat, i = Int.negSucc n := ⟨(-i-1).toNat, by omega⟩
  rfl
theorem x_iaddr_tsl (sz : Nat) (r : Ref) (rows : List (List PVal)) (i : Int) : viaddr sz (.v (.c (.tsl sz rows r))) (kI i) h k = chk (decide (0 ≤ i)) (obnd rows[i.toNat]? fun row => k (.v (.c (.p (.pptr row 0)))) h) := by
 by_cases hi : 0 ≤ i
 ·obtain ⟨n, rfl⟩ : ∃ n : Nat, i = n := ⟨i.toNat, by omega⟩
  rw [decide_eq_true hi]
  show (bif Nat.beq sz sz then bnd (nthF rows n) _ else _) = obnd rows[(n : Int).toNat]? _
  rw [beq_dec, decide_eq_true rfl, nthF_eq, Int.toNat_natCast]
  unfold obnd
  cases rows[n]? <;> rfl
 ·rw [decide_eq_false hi]
  obtain ⟨n, rfl⟩ : ∃ n : Nat, i = Int.negSucc n := ⟨(-i-1).toNat, by omega⟩
  rfl
theorem x_iaddr_sref (sz : Nat) (r : Ref) (off len : Nat) (cap : Option Nat) (i : Int) : viaddr sz (.v (.c (.sref r off len cap sz))) (kI i) h k = chk (decide (0 ≤ i) && decide (i.toNat < len)) (k (.v (.c (.ptr r (off + i.toNat * sz)))) h) := by
 by_cases hi : 0 ≤ i
 ·obtain ⟨n, rfl⟩ : ∃ n : Nat, i = n := ⟨i.toNat, by omega⟩
  rw [decide_eq_true hi]
  show (bif Nat.beq sz sz && Nat.blt n len then _ else _) = chk (true && decide ((n : Int).toNat < len)) _
  rw [beq_dec, decide_eq_true rfl, Int.toNat_natCast]
  have : Nat.blt n len = decide (n < len) := by
   by_cases h : n < len
   ·rw [decide_eq_true h]; exact Nat.ble_eq_true_of_le h
   ·rw [decide_eq_false h]; exact Bool.eq_false_iff.2 fun e => h (Nat.le_of_ble_eq_true e)
  rw [this]; rfl
 ·rw [decide_eq_false hi]
  obtain ⟨n, rfl⟩ : ∃ n : Nat, i = Int.negSucc n := ⟨(-i-1).toNat, by omega⟩
  rfl
theorem x_index (s : List UInt8) (i : Int) : vindex (kS s) (kI i) h k = chk (decide (0 ≤ i)) (obnd s[i.toNat]? fun b => k (kU b) h) := by
 by_cases hi : 0 ≤ i
 ·obtain ⟨n, rfl⟩ : ∃ n : Nat, i = n := ⟨i.toNat, by omega⟩
  rw [decide_eq_true hi]
  show bnd (nthF s n) _ = obnd s[(n : Int).toNat]? _
  rw [nthF_eq, Int.toNat_natCast]
  unfold obnd
  cases s[n]? <;> rfl
 ·rw [decide_eq_false hi]
  obtain ⟨n, rfl⟩ : ∃ n : Nat, i = Int.negSucc n := ⟨(-i-1).toNat, by omega⟩
  rfl
theorem x_load_pptr (n off : Nat) (row : List PVal) : vload false n (.v (.c (.p (.pptr row off)))) h k = obnd row[off]? fun v => k (.v (.c (.p v))) h := by
 show bnd (nthF (pcells row) off) _ = _
 rw [nthF_eq]
 show bnd ((row.map Cell.p)[off]?) _ = _
 rw [List.getElem?_map]
 cases row[off]? <;> rfl
theorem x_load_row (n : Nat) (row : List PVal) (hn : row.length = n) : vload true n (.v (.c (.p (.pptr row 0)))) h k = k (.v (.agg (pcells row))) h := by
 show (bif Nat.beq (lenF (takeF (dropF (pcells row) 0) n)) n then _ else _) = _
 rw [lenF_eq, takeF_eq, dropF_eq, List.drop_zero]
 have : (pcells row).take n = pcells row := List.take_of_length_le (by simp [pcells, hn])
 rw [this, show (pcells row).length = n by simp [pcells, hn], beq_dec, decide_eq_true rfl]; rfl
theorem x_load_part (n off : Nat) (row : List PVal) : vload true n (.v (.c (.p (.pptr row off)))) h k = chk (decide (((row.drop off).take n).length = n)) (k (.v (.agg (pcells ((row.drop off).take n)))) h) := by
 show (bif Nat.beq (lenF (takeF (dropF (pcells row) off) n)) n then _ else _) = _
 rw [lenF_eq, takeF_eq, dropF_eq]
 have : ((pcells row).drop off).take n = pcells ((row.drop off).take n) := by simp [pcells]
 rw [this, beq_dec]
 have : (pcells ((row.drop off).take n)).length = ((row.drop off).take n).length := by unfold pcells; rw [List.length_map]
 rw [this]
 rfl
theorem x_load_ptr (n off : Nat) (r : Ref) : vload false n (.v (.c (.ptr r off))) h k = objK (h.get r) fun cs _ => obnd cs[off]? fun c => k (.v (.c c)) h := by
 show bnd (getF h r) (fun o => cellsOf o fun cs _ => partF false n cs off fun v => k v h) = _
 rw [getF_eq]
 cases h.get r with
 | none => rfl
 | some o => cases o with
  | cells cs imm =>
   show bnd (nthF cs off) _ = obnd cs[off]? _
   rw [nthF_eq]
   cases cs[off]? <;> rfl
  | _ => rfl
theorem x_load_ptrA (n off : Nat) (r : Ref) : vload true n (.v (.c (.ptr r off))) h k = objK (h.get r) fun cs _ => chk (decide (((cs.drop off).take n).length = n)) (k (.v (.agg ((cs.drop off).take n))) h) := by
 show bnd (getF h r) (fun o => cellsOf o fun cs _ => partF true n cs off fun v => k v h) = _
 rw [getF_eq]
 cases h.get r with
 | none => rfl
 | some o => cases o with
  | cells cs imm =>
   show (bif Nat.beq (lenF (takeF (dropF cs off) n)) n then _ else _) = _
   rw [lenF_eq, takeF_eq, dropF_eq, beq_dec]; rfl
  | _ => rfl
theorem x_vcell (n off : Nat) (r : Ref) {k : Comp → Res1} : vcell false n (.v (.c (.ptr r off))) h k = objK (h.get r) fun cs _ => obnd cs[off]? fun c => k (.c c) := by
 show bnd (getF h r) (fun o => cellsOf o fun cs _ => partF false n cs off fun v => tcomp v k) = _
 rw [getF_eq]
 cases h.get r with
 | none => rfl
 | some o => cases o with
  | cells cs imm =>
   show bnd (nthF cs off) _ = obnd cs[off]? _
   rw [nthF_eq]
   cases cs[off]? <;> rfl
  | _ => rfl
theorem x_vcellA (n off : Nat) (r : Ref) {k : Comp → Res1} : vcell true n (.v (.c (.ptr r off))) h k = objK (h.get r) fun cs _ => chk (decide (((cs.drop off).take n).length = n)) (k (.agg ((cs.drop off).take n))) := by
 show bnd (getF h r) (fun o => cellsOf o fun cs _ => partF true n cs off fun v => tcomp v k) = _
 rw [getF_eq]
 cases h.get r with
 | none => rfl
 | some o => cases o with
  | cells cs imm =>
   show (bif Nat.beq (lenF (takeF (dropF cs off) n)) n then _ else _) = _
   rw [lenF_eq, takeF_eq, dropF_eq, beq_dec]; rfl
  | _ => rfl
/-- A block's new cells; the whole of it, where all of it is written. -/
def put1 (cs : List Cell) (off : Nat) (x : List Cell) : List Cell := splice cs off x
theorem put1_all (cs x : List Cell) (e : x.length = cs.length) : put1 cs 0 x = x := by
 unfold put1 splice; simp [e]
theorem x_store (n off : Nat) (r : Ref) (x : Comp) : vstore n (.v (.c (.ptr r off))) (.v x) h k = objK (h.get r) fun cs imm => chk (decide (imm ≤ off) && (decide (x.cells.length = n) && decide (off + n ≤ cs.length))) (k .undef (h.put r (.cells (put1 cs off x.cells) imm))) := by
 show bnd (getF h r) (fun o => cellsOf o fun cs imm => bif Nat.ble imm off && (Nat.beq (lenF x.cells) n && Nat.ble (Nat.add off n) (lenF cs)) then _ else _) = _
 rw [getF_eq]
 cases h.get r with
 | none => rfl
 | some o => cases o with
  | cells cs imm =>
   show (bif Nat.ble imm off && (Nat.beq (lenF x.cells) n && Nat.ble (off + n) (lenF cs)) then _ else _) = _
   rw [lenF_eq, lenF_eq, ble_dec, ble_dec, beq_dec]; rfl
  | _ => rfl
theorem x_field (off n : Nat) (cs : List Cell) : vfield off n false (.v (.agg cs)) h k = obnd cs[off]? fun c => k (.v (.c c)) h := by
 show bnd (nthF cs off) _ = _
 rw [nthF_eq]
 cases cs[off]? <;> rfl
theorem x_fieldA (off n : Nat) (cs : List Cell) : vfield off n true (.v (.agg cs)) h k = chk (decide (((cs.drop off).take n).length = n)) (k (.v (.agg ((cs.drop off).take n))) h) := by
 show (bif Nat.beq (lenF (takeF (dropF cs off) n)) n then _ else _) = _
 rw [lenF_eq, takeF_eq, dropF_eq, beq_dec]; rfl
theorem x_ext (vs : List Comp) (i : Nat) : vext (.tup vs) i h k = obnd vs[i]? fun v => k (.v v) h := by
 show bnd (nthF vs i) _ = _
 rw [nthF_eq]
 cases vs[i]? <;> rfl
theorem x_sadd (kd : Nat) (a b : List UInt8) : vbin .add kd (kS a) (kS b) h k = chk (decide (a.length + b.length ≤ 4611686018427387904)) (k (kS (a ++ b)) h) := by
 show bnd (bif Nat.ble (Nat.add (lenF a) (lenF b)) 4611686018427387904 then _ else _) _ = _
 rw [lenF_eq, lenF_eq, ble_dec]
 show bnd (bif decide (a.length + b.length ≤ 4611686018427387904) then _ else _) _ = _
 cases decide (a.length + b.length ≤ 4611686018427387904) <;> rfl
theorem x_slss (kd : Nat) (a b : List UInt8) : vbin .lss kd (kS a) (kS b) h k = k (kB (bless a b)) h := vbin_of _ _ _ _ _ (by rfl)
theorem x_sleq (kd : Nat) (a b : List UInt8) : vbin .leq kd (kS a) (kS b) h k = k (kB (bless a b || a == b)) h := vbin_of _ _ _ _ _ (by rfl)
theorem x_sgtr (kd : Nat) (a b : List UInt8) : vbin .gtr kd (kS a) (kS b) h k = k (kB (!(bless a b || a == b))) h := vbin_of _ _ _ _ _ (by rfl)
theorem x_sgeq (kd : Nat) (a b : List UInt8) : vbin .geq kd (kS a) (kS b) h k = k (kB (!(bless a b))) h := vbin_of _ _ _ _ _ (by rfl)
theorem x_mv (v : TVal) : vop O (.mv (.k v)) h d k = k v h := by
 show opK O (.mv (.k v)) .nil h d k = _
 rw [opK_eq]; rfl
theorem x_min (a b : Int) : vop O (.minmax false [.k (kI a), .k (kI b)]) h d k = k (kI (if b < a then b else a)) h := by
 refine (vplan _ _ ?_)
 have e : minmaxV false [some (kI a), some (kI b)] = some (.int .i64 (if b < a then b else a)) := by simp [minmaxV, tInt, foldMM]
 show Option.map (fun v => Plan.pure (.pv v)) (minmaxV false [some (kI a), some (kI b)]) = _
 rw [e]; rfl
theorem x_max (a b : Int) : vop O (.minmax true [.k (kI a), .k (kI b)]) h d k = k (kI (if a < b then b else a)) h := by
 refine (vplan _ _ ?_)
 have e : minmaxV true [some (kI a), some (kI b)] = some (.int .i64 (if a < b then b else a)) := by simp [minmaxV, tInt, foldMM]
 show Option.map (fun v => Plan.pure (.pv v)) (minmaxV true [some (kI a), some (kI b)]) = _
 rw [e]; rfl
/-! ### literals -/
theorem x_build (z : List Cell) (ps : List (Nat × Nat × X)) (qs : List (Nat × Nat × Comp)) (hq : (ps.mapM fun (p : Nat × Nat × X) => match p.2.2.ev .nil with | some (.v v) => some (p.1, p.2.1, v) | _ => none) = some qs) : vop O (.build z ps) h d k = obnd (fillA z qs) fun cs => k (.v (.agg cs)) h := by
 cases hf : fillA z qs with
 | none =>
  show opK O _ .nil h d k = _
  rw [opK_eq]
  have : plan .nil (.build z ps) = none := by
   show (do let ps' ← ps.mapM (fun (p : Nat × Nat × X) => match p.2.2.ev .nil with | some (.v v) => some (p.1, p.2.1, v) | _ => none); let cs ← fillA z ps'; pure (Plan.pure (.v (.agg cs)))) = none
   rw [hq]; simp [hf]
  unfold slow; rw [this]; rfl
 | some cs =>
  refine vbuild z ps cs ?_
  show (do let ps' ← ps.mapM (fun (p : Nat × Nat × X) => match p.2.2.ev .nil with | some (.v v) => some (p.1, p.2.1, v) | _ => none); let cs ← fillA z ps'; pure (Plan.pure (.v (.agg cs)))) = _
  rw [hq]; simp [hf]
theorem x_build0 (z : List Cell) : vop O (.build z []) h d k = k (.v (.agg z)) h := x_build z [] [] rfl
theorem x_build1 (z : List Cell) (o n : Nat) (v : Comp) : vop O (.build z [(o, n, .k (.v v))]) h d k = obnd (fillA z [(o, n, v)]) fun cs => k (.v (.agg cs)) h := x_build _ _ _ rfl
theorem x_build2 (z : List Cell) (o n o2 n2 : Nat) (v v2 : Comp) : vop O (.build z [(o, n, .k (.v v)), (o2, n2, .k (.v v2))]) h d k = obnd (fillA z [(o, n, v), (o2, n2, v2)]) fun cs => k (.v (.agg cs)) h := x_build _ _ _ rfl
theorem x_build3 (z : List Cell) (o n o2 n2 o3 n3 : Nat) (v v2 v3 : Comp) : vop O (.build z [(o, n, .k (.v v)), (o2, n2, .k (.v v2)), (o3, n3, .k (.v v3))]) h d k = obnd (fillA z [(o, n, v), (o2, n2, v2), (o3, n3, v3)]) fun cs => k (.v (.agg cs)) h := x_build _ _ _ rfl
theorem x_build4 (z : List Cell) (o n o2 n2 o3 n3 o4 n4 : Nat) (v v2 v3 v4 : Comp) : vop O (.build z [(o, n, .k (.v v)), (o2, n2, .k (.v v2)), (o3, n3, .k (.v v3)), (o4, n4, .k (.v v4))]) h d k = obnd (fillA z [(o, n, v), (o2, n2, v2), (o3, n3, v3), (o4, n4, v4)]) fun cs => k (.v (.agg cs)) h := x_build _ _ _ rfl
/-- Texts of one kind, laid side by side. -/
theorem unps_p (l : List PVal) : unps (pcells l) = some l := by
 unfold unps pcells
 induction l with
 | nil => rfl
 | cons a r ih => rw [List.map_cons, List.mapM_cons, ih]; rfl
theorem x_bslice0 (sz : Nat) (z : List Cell) : vop O (.bslice sz 0 z [] false) h d k = k (kSl sz true []) h := vplan _ _ rfl
theorem x_bslice1 (z : List Cell) (x : PVal) (hz : z.length = 1) : vop O (.bslice 1 1 z [(0, .k (.v (.c (.p x))))] false) h d k = k (kSl 1 true [[x]]) h := by
 match z, hz with
 | [z0], _ => exact vplan _ _ rfl
theorem x_bslice1A (sz : Nat) (z : List Cell) (r : List PVal) (hz : z.length = sz) (hr : r.length = sz) : vop O (.bslice sz 1 z [(0, .k (.v (.agg (pcells r))))] false) h d k = k (kSl sz true [r]) h := by
 refine vplan _ _ ?_
 subst hz
 have e1 : fillA (rep 1 z) [(0 * z.length, z.length, Comp.agg (pcells r))] = some (pcells r) := by
  have l1 : (Comp.agg (pcells r)).cells.length = z.length := by show (pcells r).length = _; unfold pcells; rw [List.length_map, hr]
  have l2 : (rep 1 z).length = z.length := by simp [rep]
  simp only [fillA, l1, l2, Nat.zero_mul, Nat.zero_add, Nat.le_refl, and_self, if_true]
  show some (splice (rep 1 z) 0 (pcells r)) = _
  have l3 : (pcells r).length = z.length := l1
  simp [splice, l2, l3, rep]
 have e2 : chunk z.length 1 (pcells r) = some [r] := by
  show (do let row ← unps ((pcells r).take z.length); if row.length = z.length then pure (row :: (← chunk z.length 0 ((pcells r).drop z.length))) else none) = _
  have : (pcells r).take z.length = pcells r := List.take_of_length_le (by simp [pcells, hr])
  rw [this, unps_p]
  simp [hr, chunk]
 simp only [plan, List.mapM_cons, List.mapM_nil, X.ev, Option.pure_def, Option.bind_eq_bind, Option.bind_some, e1, e2, Bool.false_eq_true, if_false]
theorem x_bslice2A (sz : Nat) (z : List Cell) (r s : List PVal) (hz : z.length = sz) (hr : r.length = sz) (hs : s.length = sz) : vop O (.bslice sz 2 z [(0, .k (.v (.agg (pcells r)))), (1, .k (.v (.agg (pcells s))))] false) h d k = k (kSl sz true [r, s]) h := by
 refine vplan _ _ ?_
 subst hz
 have l1 : (Comp.agg (pcells r)).cells.length = z.length := by show (pcells r).length = _; unfold pcells; rw [List.length_map, hr]
 have l1' : (Comp.agg (pcells s)).cells.length = z.length := by show (pcells s).length = _; unfold pcells; rw [List.length_map, hs]
 have l3 : (pcells r).length = z.length := l1
 have l3' : (pcells s).length = z.length := l1'
 have e1 : fillA (rep 2 z) [(0 * z.length, z.length, Comp.agg (pcells r)), (1 * z.length, z.length, Comp.agg (pcells s))] = some (pcells r ++ pcells s) := by
  have l2 : (rep 2 z).length = z.length + z.length := by simp [rep]
  have q1 : splice (rep 2 z) 0 (pcells r) = pcells r ++ z := by simp [splice, l3, rep]
  simp only [fillA, l1, l1', l2, Nat.zero_mul, Nat.zero_add, Nat.le_refl, true_and, if_true]
  rw [if_pos (by omega)]
  show (if 1 * z.length + z.length ≤ (splice (rep 2 z) 0 (pcells r)).length then some (splice (splice (rep 2 z) 0 (pcells r)) (1 * z.length) (pcells s)) else none) = _
  rw [q1, if_pos (by simp [l3])]
  rw [Nat.one_mul]
  unfold splice
  rw [l3']
  have u1 : (pcells r ++ z).take z.length = pcells r := by rw [← l3]; simp
  have u2 : (pcells r ++ z).drop (z.length + z.length) = [] := List.drop_eq_nil_of_le (by simp [l3])
  rw [u1, u2, List.append_nil]
 have e2 : chunk z.length 2 (pcells r ++ pcells s) = some [r, s] := by
  have t1 : (pcells r ++ pcells s).take z.length = pcells r := by rw [← l3]; simp
  have t2 : (pcells r ++ pcells s).drop z.length = pcells s := by rw [← l3]; simp
  have t3 : (pcells s).take z.length = pcells s := List.take_of_length_le (by omega)
  show (do let row ← unps ((pcells r ++ pcells s).take z.length); if row.length = z.length then pure (row :: (← chunk z.length 1 ((pcells r ++ pcells s).drop z.length))) else none) = _
  rw [t1, t2, unps_p]
  have : chunk z.length 1 (pcells s) = some [s] := by
   show (do let row ← unps ((pcells s).take z.length); if row.length = z.length then pure (row :: (← chunk z.length 0 ((pcells s).drop z.length))) else none) = _
   rw [t3, unps_p]
   simp [hs, chunk]
  rw [this]
  simp [hr]
 simp only [plan, List.mapM_cons, List.mapM_nil, X.ev, Option.pure_def, Option.bind_eq_bind, Option.bind_some, e1, e2, Bool.false_eq_true, if_false]
theorem allB_p (l : List PVal) : allB isP (pcells l) = true := by
 unfold pcells
 induction l with
 | nil => rfl
 | cons a r ih => exact ih
theorem x_fin1 (frz : Bool) (x : PVal) : vfin frz 0 [.c (.p x)] h = some (.v (.c (.p x)), []) := vfin_pure _ _ rfl
theorem x_finA (frz : Bool) (r : List PVal) : vfin frz 0 [.agg (pcells r)] h = some (.v (.agg (pcells r)), []) := vfin_pure _ _ (by show (bif allB isP (pcells r) then true else false) = true; rw [allB_p]; rfl)
theorem x_fin2 (frz : Bool) (x y : PVal) : vfin frz 0 [.c (.p x), .c (.p y)] h = some (.tup [.c (.p x), .c (.p y)], []) := vfin_pure _ _ rfl
theorem x_finA1 (frz : Bool) (r : List PVal) (y : PVal) : vfin frz 0 [.agg (pcells r), .c (.p y)] h = some (.tup [.agg (pcells r), .c (.p y)], []) := vfin_pure _ _ (by show (bif allB isP (pcells r) then true else false) = true; rw [allB_p]; rfl)
theorem x_fin1A (frz : Bool) (r : List PVal) (y : PVal) : vfin frz 0 [.c (.p y), .agg (pcells r)] h = some (.tup [.c (.p y), .agg (pcells r)], []) := vfin_pure _ _ (by show (bif allB isP (pcells r) then true else false) = true; rw [allB_p]; rfl)
theorem x_fin3 (frz : Bool) (x y z : PVal) : vfin frz 0 [.c (.p x), .c (.p y), .c (.p z)] h = some (.tup [.c (.p x), .c (.p y), .c (.p z)], []) := vfin_pure _ _ rfl
theorem x_finA2 (frz : Bool) (r : List PVal) (y z : PVal) : vfin frz 0 [.agg (pcells r), .c (.p y), .c (.p z)] h = some (.tup [.agg (pcells r), .c (.p y), .c (.p z)], []) := vfin_pure _ _ (by show (bif allB isP (pcells r) then true else false) = true; rw [allB_p]; rfl)
theorem x_finnil (frz : Bool) : vfin frz 0 [] h = some (.tup [], []) := vfin_pure _ _ rfl
end
theorem obnd_some {α β : Type} (a : α) (k : α → Option β) : obnd (some a) k = k a := rfl
theorem obnd_map {α γ β : Type} (f : α → γ) (o : Option α) (k : γ → Option β) : obnd (o.map f) k = obnd o fun a => k (f a) := by cases o <;> rfl
theorem objK_cells {β : Type} (cs : List Cell) (imm : Nat) (k : List Cell → Nat → Option β) : objK (some (.cells cs imm)) k = k cs imm := rfl
theorem chk_true {β : Type} (x : Option β) : chk true x = x := rfl
theorem pcells_get (row : List PVal) (i : Nat) : (pcells row)[i]? = (row[i]?).map .p := by unfold pcells; rw [List.getElem?_map]
theorem pcells_len (row : List PVal) : (pcells row).length = row.length := by unfold pcells; rw [List.length_map]
theorem dec0 (n : Nat) : decide ((0 : Int) ≤ (n : Int)) = true := decide_eq_true (by omega)
theorem own_getE (h : Heap) (d g : Nat) (cs : List Cell) (imm : Nat) (hd : d + 1 < 1048576) : (h.own d g (.cells cs imm)).get (.own d g) = some (.cells cs imm) := Heap.own_get h d g _ hd (fun e => by cases e)
/-- THE RULES. -/
theorem ex :
  (∀ {β : Type} {h : Heap} {k : TVal → Heap → Option β} (kd : Nat) (K : IntKind) (a b : Int), vbin .add kd (kN K a) (kN K b) h k = k (kN K (K.wrap (a + b))) h) ∧
  (∀ {β : Type} {h : Heap} {k : TVal → Heap → Option β} (kd : Nat) (K : IntKind) (a b : Int), vbin .sub kd (kN K a) (kN K b) h k = k (kN K (K.wrap (a - b))) h) ∧
  (∀ {β : Type} {h : Heap} {k : TVal → Heap → Option β} (kd : Nat) (K : IntKind) (a b : Int), vbin .mul kd (kN K a) (kN K b) h k = k (kN K (K.wrap (a * b))) h) ∧
  (∀ {β : Type} {h : Heap} {k : TVal → Heap → Option β} (kd : Nat) (K : IntKind) (a b : Int), vbin .eql kd (kN K a) (kN K b) h k = k (kB (decide (a = b))) h) ∧
  (∀ {β : Type} {h : Heap} {k : TVal → Heap → Option β} (kd : Nat) (K : IntKind) (a b : Int), vbin .neq kd (kN K a) (kN K b) h k = k (kB (!decide (a = b))) h) ∧
  (∀ {β : Type} {h : Heap} {k : TVal → Heap → Option β} (kd : Nat) (K : IntKind) (a b : Int), vbin .lss kd (kN K a) (kN K b) h k = k (kB (decide (a < b))) h) ∧
  (∀ {β : Type} {h : Heap} {k : TVal → Heap → Option β} (kd : Nat) (K : IntKind) (a b : Int), vbin .gtr kd (kN K a) (kN K b) h k = k (kB (decide (b < a))) h) ∧
  (∀ {β : Type} {h : Heap} {k : TVal → Heap → Option β} (kd : Nat) (K : IntKind) (a b : Int), vbin .leq kd (kN K a) (kN K b) h k = k (kB (!decide (b < a))) h) ∧
  (∀ {β : Type} {h : Heap} {k : TVal → Heap → Option β} (kd : Nat) (K : IntKind) (a b : Int), vbin .geq kd (kN K a) (kN K b) h k = k (kB (!decide (a < b))) h) ∧
  (∀ {β : Type} {h : Heap} {k : TVal → Heap → Option β} (kd : Nat) (a b : List UInt8), vbin .eql kd (kS a) (kS b) h k = k (kB (decide (a = b))) h) ∧
  (∀ {β : Type} {h : Heap} {k : TVal → Heap → Option β} (kd : Nat) (a b : List UInt8), vbin .neq kd (kS a) (kS b) h k = k (kB (!decide (a = b))) h) ∧
  (∀ {β : Type} {h : Heap} {k : TVal → Heap → Option β} (a b : Bool), vbin .eql 5 (kB a) (kB b) h k = k (kB (a == b)) h) ∧
  (∀ {β : Type} {h : Heap} {k : TVal → Heap → Option β} (a b : Bool), vbin .neq 5 (kB a) (kB b) h k = k (kB (!(a == b))) h) ∧
  (∀ {β : Type} {h : Heap} {k : TVal → Heap → Option β} (kd : Nat) (a b : List UInt8), vbin .add kd (kS a) (kS b) h k = chk (decide (a.length + b.length ≤ 4611686018427387904)) (k (kS (a ++ b)) h)) ∧
  (∀ {β : Type} {h : Heap} {k : TVal → Heap → Option β} (kd : Nat) (a b : List UInt8), vbin .lss kd (kS a) (kS b) h k = k (kB (bless a b)) h) ∧
  (∀ {β : Type} {h : Heap} {k : TVal → Heap → Option β} (kd : Nat) (a b : List UInt8), vbin .leq kd (kS a) (kS b) h k = k (kB (bless a b || a == b)) h) ∧
  (∀ {β : Type} {h : Heap} {k : TVal → Heap → Option β} (kd : Nat) (a b : List UInt8), vbin .gtr kd (kS a) (kS b) h k = k (kB (!(bless a b || a == b))) h) ∧
  (∀ {β : Type} {h : Heap} {k : TVal → Heap → Option β} (kd : Nat) (a b : List UInt8), vbin .geq kd (kS a) (kS b) h k = k (kB (!(bless a b))) h) ∧
  (∀ {β : Type} (x y : Option β), vif (kB true) x y = x) ∧ (∀ {β : Type} (x y : Option β), vif (kB false) x y = y) ∧
  (∀ {β : Type} {h : Heap} {k : TVal → Heap → Option β} (doit : (TVal → Heap → Option β) → Option β), vguard (kB true) true doit h k = doit k) ∧
  (∀ {β : Type} {h : Heap} {k : TVal → Heap → Option β} (doit : (TVal → Heap → Option β) → Option β), vguard (kB false) false doit h k = doit k) ∧
  (∀ {β : Type} {h : Heap} {k : TVal → Heap → Option β} (doit : (TVal → Heap → Option β) → Option β), vguard (kB true) false doit h k = k .undef h) ∧
  (∀ {β : Type} {h : Heap} {k : TVal → Heap → Option β} (doit : (TVal → Heap → Option β) → Option β), vguard (kB false) true doit h k = k .undef h) ∧
  (∀ {β : Type} {h : Heap} {k : TVal → Heap → Option β} (w : Bool) (doit : (TVal → Heap → Option β) → Option β), vguard .undef w doit h k = k .undef h) ∧
  (∀ {β : Type} {O : Oracle} {h : Heap} {d : Nat} {k : TVal → Heap → Option β} (b : Bool), vop O (.un .not (.k (kB b))) h d k = k (kB (!b)) h) ∧
  (∀ {β : Type} {O : Oracle} {h : Heap} {d : Nat} {k : TVal → Heap → Option β} (K : IntKind) (a : Int), vop O (.un .neg (.k (kN K a))) h d k = k (kN K (K.wrap (0 - a))) h) ∧
  (∀ {β : Type} {O : Oracle} {h : Heap} {d : Nat} {k : TVal → Heap → Option β} (a b : TVal), vop O (.pick (.k (kB true)) (.k a) (.k b)) h d k = k a h) ∧
  (∀ {β : Type} {O : Oracle} {h : Heap} {d : Nat} {k : TVal → Heap → Option β} (a b : TVal), vop O (.pick (.k (kB false)) (.k a) (.k b)) h d k = k b h) ∧
  (∀ {β : Type} {O : Oracle} {h : Heap} {d : Nat} {k : TVal → Heap → Option β} (v : TVal), vop O (.mv (.k v)) h d k = k v h) ∧
  (∀ {β : Type} {O : Oracle} {h : Heap} {d : Nat} {k : TVal → Heap → Option β} (a b : Int), vop O (.minmax false [.k (kI a), .k (kI b)]) h d k = k (kI (if b < a then b else a)) h) ∧
  (∀ {β : Type} {O : Oracle} {h : Heap} {d : Nat} {k : TVal → Heap → Option β} (a b : Int), vop O (.minmax true [.k (kI a), .k (kI b)]) h d k = k (kI (if a < b then b else a)) h) ∧
  (∀ {β : Type} {O : Oracle} {h : Heap} {d : Nat} {k : TVal → Heap → Option β} (s : List UInt8), vlen O 0 (kS s) h d k = k (kI (s.length : Int)) h) ∧
  (∀ {β : Type} {O : Oracle} {h : Heap} {d : Nat} {k : TVal → Heap → Option β}, vlen O 2 kNil h d k = k (kI 0) h) ∧
  (∀ {β : Type} {O : Oracle} {h : Heap} {d : Nat} {k : TVal → Heap → Option β} (sz : Nat) (t : Bool) (rows : List (List PVal)), vlen O 2 (kSl sz t rows) h d k = k (kI (rows.length : Int)) h) ∧
  (∀ {β : Type} {O : Oracle} {h : Heap} {d : Nat} {k : TVal → Heap → Option β} (sz : Nat) (rows : List (List PVal)) (r : Ref), vlen O 2 (.v (.c (.tsl sz rows r))) h d k = k (kI (rows.length : Int)) h) ∧
  (∀ {β : Type} {h : Heap} {k : TVal → Heap → Option β} (K K' : IntKind) (a : Int), vtoInt K (kN K' a) h k = k (kN K (K.wrap a)) h) ∧
  (∀ {β : Type} (c : Comp) (k : Comp → Option β), tcomp (.v c) k = k c) :=
 ⟨vbin_add, vbin_sub, vbin_mul, vbin_eql, vbin_neq, vbin_lss, vbin_gtr, vbin_leq, vbin_geq, vbin_seql, vbin_sneq, vbin_beql, vbin_bneq, x_sadd, x_slss, x_sleq, x_sgtr, x_sgeq, vif_t, vif_f, vguard_tt, vguard_ff, vguard_tf, vguard_ft, vguard_undef, vnot, vneg, vpick_t, vpick_f, x_mv, x_min, x_max,
 vlen_s, vlen_nil, vlen_sl, vlen_tsl, vtoInt_n, tcomp_c⟩
theorem exM :
  (∀ {β : Type} {h : Heap} {k : TVal → Heap → Option β} (sz : Nat) (t : Bool) (rows : List (List PVal)) (i : Int), viaddr sz (kSl sz t rows) (kI i) h k = chk (decide (0 ≤ i)) (obnd rows[i.toNat]? fun row => k (.v (.c (.p (.pptr row 0)))) h)) ∧
  (∀ {β : Type} {h : Heap} {k : TVal → Heap → Option β} (sz : Nat) (r : Ref) (rows : List (List PVal)) (i : Int), viaddr sz (.v (.c (.tsl sz rows r))) (kI i) h k = chk (decide (0 ≤ i)) (obnd rows[i.toNat]? fun row => k (.v (.c (.p (.pptr row 0)))) h)) ∧
  (∀ {β : Type} {h : Heap} {k : TVal → Heap → Option β} (sz : Nat) (r : Ref) (off len : Nat) (cap : Option Nat) (i : Int), viaddr sz (.v (.c (.sref r off len cap sz))) (kI i) h k = chk (decide (0 ≤ i) && decide (i.toNat < len)) (k (.v (.c (.ptr r (off + i.toNat * sz)))) h)) ∧
  (∀ {β : Type} {h : Heap} {k : TVal → Heap → Option β} (s : List UInt8) (i : Int), vindex (kS s) (kI i) h k = chk (decide (0 ≤ i)) (obnd s[i.toNat]? fun b => k (kU b) h)) ∧
  (∀ {β : Type} {h : Heap} {k : TVal → Heap → Option β} (n off : Nat) (row : List PVal), vload false n (.v (.c (.p (.pptr row off)))) h k = obnd row[off]? fun v => k (.v (.c (.p v))) h) ∧
  (∀ {β : Type} {h : Heap} {k : TVal → Heap → Option β} (n off : Nat) (r : Ref), vload false n (.v (.c (.ptr r off))) h k = objK (h.get r) fun cs _ => obnd cs[off]? fun c => k (.v (.c c)) h) ∧
  (∀ {β : Type} {h : Heap} {k : TVal → Heap → Option β} (n off : Nat) (r : Ref), vload true n (.v (.c (.ptr r off))) h k = objK (h.get r) fun cs _ => chk (decide (((cs.drop off).take n).length = n)) (k (.v (.agg ((cs.drop off).take n))) h)) ∧
  (∀ {h : Heap} (n off : Nat) (r : Ref) {k : Comp → Res1}, vcell false n (.v (.c (.ptr r off))) h k = objK (h.get r) fun cs _ => obnd cs[off]? fun c => k (.c c)) ∧
  (∀ {h : Heap} (n off : Nat) (r : Ref) {k : Comp → Res1}, vcell true n (.v (.c (.ptr r off))) h k = objK (h.get r) fun cs _ => chk (decide (((cs.drop off).take n).length = n)) (k (.agg ((cs.drop off).take n)))) ∧
  (∀ {β : Type} {h : Heap} {k : TVal → Heap → Option β} (n off : Nat) (r : Ref) (x : Comp), vstore n (.v (.c (.ptr r off))) (.v x) h k = objK (h.get r) fun cs imm => chk (decide (imm ≤ off) && (decide (x.cells.length = n) && decide (off + n ≤ cs.length))) (k .undef (h.put r (.cells (put1 cs off x.cells) imm)))) ∧
  (∀ {β : Type} {h : Heap} {k : TVal → Heap → Option β} (off n : Nat) (cs : List Cell), vfield off n false (.v (.agg cs)) h k = obnd cs[off]? fun c => k (.v (.c c)) h) ∧
  (∀ {β : Type} {h : Heap} {k : TVal → Heap → Option β} (off n : Nat) (cs : List Cell), vfield off n true (.v (.agg cs)) h k = chk (decide (((cs.drop off).take n).length = n)) (k (.v (.agg ((cs.drop off).take n))) h)) ∧
  (∀ {β : Type} {h : Heap} {k : TVal → Heap → Option β} (off o : Nat) (r : Ref), vfaddr off (.v (.c (.ptr r o))) h k = k (.v (.c (.ptr r (o + off)))) h) ∧
  (∀ {β : Type} {h : Heap} {k : TVal → Heap → Option β} (off o : Nat) (row : List PVal), vfaddr off (.v (.c (.p (.pptr row o)))) h k = k (.v (.c (.p (.pptr row (o + off))))) h) ∧
  (∀ {β : Type} {h : Heap} {k : TVal → Heap → Option β} (vs : List Comp) (i : Nat), vext (.tup vs) i h k = obnd vs[i]? fun v => k (.v v) h) ∧
  (∀ {β : Type} {O : Oracle} {h : Heap} {d : Nat} {k : TVal → Heap → Option β} (z : List Cell), vop O (.alloc z false) h d k = k (.v (.c (.ptr (.own d (h.gen d + 1)) 0))) (h.own d (h.gen d + 1) (.cells z 0))) ∧
  (∀ {α β : Type} (a : α) (k : α → Option β), obnd (some a) k = k a) ∧
  (∀ {β : Type} (cs : List Cell) (imm : Nat) (k : List Cell → Nat → Option β), objK (some (.cells cs imm)) k = k cs imm) ∧
  (∀ {β : Type} (x : Option β), chk true x = x) ∧
  (∀ (row : List PVal) (i : Nat), (pcells row)[i]? = (row[i]?).map .p) ∧ (∀ (row : List PVal), (pcells row).length = row.length) ∧
  (∀ n : Nat, decide ((0 : Int) ≤ (n : Int)) = true) ∧
  (∀ (h : Heap) (d g : Nat) (o : AObj), h.put (.own d g) o = h.own d g o) ∧
  (∀ (h : Heap) (d g : Nat) (cs : List Cell) (imm : Nat), d + 1 < 1048576 → (h.own d g (.cells cs imm)).get (.own d g) = some (.cells cs imm)) ∧
  (∀ (h : Heap) (d g : Nat) (o : AObj) (e g' : Nat), d ≠ e → (h.own d g o).get (.own e g') = h.get (.own e g')) ∧
  (∀ (h : Heap) (d g : Nat) (o : AObj) (i : Nat), (h.own d g o).get (.im i) = h.get (.im i)) :=
 ⟨x_iaddr, x_iaddr_tsl, x_iaddr_sref, x_index, x_load_pptr, x_load_ptr, x_load_ptrA, x_vcell, x_vcellA, x_store, x_field, x_fieldA, vfaddr_ptr, vfaddr_pptr, x_ext, valloc, obnd_some, objK_cells, chk_true, pcells_get, pcells_len, dec0, Heap.put_own, own_getE, Heap.own_get_ne, Heap.own_get_im⟩
theorem exF :
  (∀ {h : Heap} (frz : Bool) (x : PVal), vfin frz 0 [.c (.p x)] h = some (.v (.c (.p x)), [])) ∧
  (∀ {h : Heap} (frz : Bool) (r : List PVal), vfin frz 0 [.agg (pcells r)] h = some (.v (.agg (pcells r)), [])) ∧
  (∀ {h : Heap} (frz : Bool) (x y : PVal), vfin frz 0 [.c (.p x), .c (.p y)] h = some (.tup [.c (.p x), .c (.p y)], [])) ∧
  (∀ {h : Heap} (frz : Bool) (r : List PVal) (y : PVal), vfin frz 0 [.agg (pcells r), .c (.p y)] h = some (.tup [.agg (pcells r), .c (.p y)], [])) ∧
  (∀ {h : Heap} (frz : Bool) (r : List PVal) (y : PVal), vfin frz 0 [.c (.p y), .agg (pcells r)] h = some (.tup [.c (.p y), .agg (pcells r)], [])) ∧
  (∀ {h : Heap} (frz : Bool) (x y z : PVal), vfin frz 0 [.c (.p x), .c (.p y), .c (.p z)] h = some (.tup [.c (.p x), .c (.p y), .c (.p z)], [])) ∧
  (∀ {h : Heap} (frz : Bool) (r : List PVal) (y z : PVal), vfin frz 0 [.agg (pcells r), .c (.p y), .c (.p z)] h = some (.tup [.agg (pcells r), .c (.p y), .c (.p z)], [])) ∧
  (∀ {h : Heap} (frz : Bool), vfin frz 0 [] h = some (.tup [], [])) ∧
  (∀ (cs x : List Cell), x.length = cs.length → put1 cs 0 x = x) :=
 ⟨x_fin1, x_finA, x_fin2, x_finA1, x_fin1A, x_fin3, x_finA2, x_finnil, put1_all⟩
end Go.AI
