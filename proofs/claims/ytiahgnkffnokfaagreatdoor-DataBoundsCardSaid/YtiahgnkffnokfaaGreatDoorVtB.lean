/- Raw values; pieces of slices. Own work; no condition but what each names. -/
import Derived.Test.YtiahgnkffnokfaaGreatDoorVtA
import Derived.Test.YtiahgnkffnokfaaGreatDoorMaT
set_option linter.all false
set_option linter.unusedVariables false
set_option linter.unusedSimpArgs false
namespace Go.AI
def bRow (b : UInt8) : List PVal := [.int .u8 (b.toNat : Int)]
/-- spruelaw13.Raw. -/
inductive RT where
 | mk (kind n : Int) (s : Sl UInt8) (keys : Sl Int) (kids : Sl RT)
namespace RT
def kind : RT → Int | .mk k _ _ _ _ => k
def n : RT → Int | .mk _ n _ _ _ => n
def s : RT → Sl UInt8 | .mk _ _ s _ _ => s
def keys : RT → Sl Int | .mk _ _ _ k _ => k
def kids : RT → Sl RT | .mk _ _ _ _ l => l
mutual
def row : RT → List PVal
 | .mk k n s ks l => [.int .i64 k, .int .i64 n, slP 1 bRow s, slP 1 iRow ks, slRow l]
def slRow : Sl RT → PVal
 | .nil => .nilslice
 | .mk t l => .slice 5 t (rows l)
def rows : List RT → List (List PVal)
 | [] => []
 | v :: vs => row v :: rows vs
end
theorem rows_eq : ∀ l : List RT, rows l = l.map row
 | [] => by simp [rows]
 | v :: vs => by simp [rows, rows_eq vs]
theorem slRow_eq (l : Sl RT) : slRow l = slP 5 row l := by cases l <;> simp [slRow, slP, rows_eq]
theorem row_eq (v : RT) : row v = [.int .i64 v.kind, .int .i64 v.n, slP 1 bRow v.s, slP 1 iRow v.keys, slP 5 row v.kids] := by
 cases v; simp [row, slRow_eq, kind, n, s, keys, kids]
theorem row_len (v : RT) : (row v).length = 5 := by rw [row_eq]; rfl
theorem mem_size {v x : RT} (h : x ∈ v.kids.list) : SizeOf.sizeOf x < SizeOf.sizeOf v := by
 cases v with
 | mk k n s ks l =>
  cases l with
  | nil => simp [RT.kids, Sl.list] at h
  | mk t l =>
   have := List.sizeOf_lt_of_mem (show x ∈ l from h)
   simp; omega
end RT
section
variable {β : Type} {O : Oracle} {h : Heap} {d : Nat} {k : TVal → Heap → Option β} {kt : TVal → Heap → Touch → Option β}
theorem exW :
  (∀ v : RT, v.row.length = 5) ∧ (∀ v : RT, v.row[0]? = some (.int .i64 v.kind)) ∧ (∀ v : RT, v.row[1]? = some (.int .i64 v.n)) ∧ (∀ v : RT, v.row[2]? = some (slP 1 bRow v.s)) ∧ (∀ v : RT, v.row[3]? = some (slP 1 iRow v.keys)) ∧ (∀ v : RT, v.row[4]? = some (slP 5 RT.row v.kids)) ∧
  (∀ {β : Type} {h : Heap} {k : TVal → Heap → Option β} (v : RT), vload true 5 (.v (.c (.p (.pptr v.row 0)))) h k = k (.v (.agg (pcells v.row))) h) ∧ (∀ b : UInt8, (bRow b)[0]? = some (.int .u8 (b.toNat : Int))) :=
 ⟨RT.row_len, fun v => by rw [RT.row_eq]; rfl, fun v => by rw [RT.row_eq]; rfl, fun v => by rw [RT.row_eq]; rfl, fun v => by rw [RT.row_eq]; rfl, fun v => by rw [RT.row_eq]; rfl, fun v => x_load_row 5 v.row v.row_len, fun _ => rfl⟩
/-- The first so many, the rest, of a slice. -/
theorem sl_take {α : Type} (sz : Nat) (f : α → List PVal) (s : Sl α) (k : Nat) (hk : k ≤ s.len) : ∃ b, SrcR sz b ((s.list.take k).map f) ∧ plan .nil (.slice sz false (.k (.v (.c (.p (slP sz f s))))) none (some (.k (kI (k : Int)))) none) = some (.pure (.v (.c (.p b)))) := by
 cases s with
 | nil =>
  have : k = 0 := Nat.le_zero.1 hk
  subst this
  exact ⟨.nilslice, .inl ⟨rfl, by simp [Sl.list]⟩, rfl⟩
 | mk t l =>
  have hk' : k ≤ l.length := hk
  refine ⟨.slice sz (tightOf (t && k == (l.map f).length) k none) (((l.map f).take k).drop 0), .inr ⟨_, by rw [List.drop_zero, ← List.map_take]; rfl⟩, ?_⟩
  show Option.map (fun c => Plan.pure (.v (.c c))) (sliceV sz false (.p (.slice sz t (l.map f))) none (some k) none) = _
  have : sliceV sz false (.p (.slice sz t (l.map f))) none (some k) none = some (.p (.slice sz (tightOf (t && k == (l.map f).length) k none) (((l.map f).take k).drop 0))) := by
   simp only [sliceV]
   simp [hk']
  rw [this]; rfl
theorem sl_drop {α : Type} (sz : Nat) (f : α → List PVal) (s : Sl α) (k : Nat) (hk : k ≤ s.len) : ∃ b, SrcR sz b ((s.list.drop k).map f) ∧ plan .nil (.slice sz false (.k (.v (.c (.p (slP sz f s))))) (some (.k (kI (k : Int)))) none none) = some (.pure (.v (.c (.p b)))) := by
 cases s with
 | nil =>
  have : k = 0 := Nat.le_zero.1 hk
  subst this
  exact ⟨.nilslice, .inl ⟨rfl, by simp [Sl.list]⟩, rfl⟩
 | mk t l =>
  have hk' : k ≤ l.length := hk
  refine ⟨.slice sz (tightOf (t && (l.map f).length == (l.map f).length) (l.map f).length none) (((l.map f).take (l.map f).length).drop k), .inr ⟨_, by rw [List.take_length, ← List.map_drop]; rfl⟩, ?_⟩
  show Option.map (fun c => Plan.pure (.v (.c c))) (sliceV sz false (.p (.slice sz t (l.map f))) (some k) none none) = _
  have : sliceV sz false (.p (.slice sz t (l.map f))) (some k) none none = some (.p (.slice sz (tightOf (t && (l.map f).length == (l.map f).length) (l.map f).length none) (((l.map f).take (l.map f).length).drop k))) := by
   simp only [sliceV]
   simp [hk']
  rw [this]; rfl
/-- One of a slice, as a text of one byte. -/
theorem byte_text (s : Sl UInt8) (i : Nat) (b : UInt8) (hb : s.list[i]? = some b) : ∃ x : PVal, plan .nil (.slice 1 false (.k (.v (.c (.p (slP 1 bRow s))))) (some (.k (kI (i : Int)))) (some (.k (kI ((i + 1 : Nat) : Int)))) none) = some (.pure (.v (.c (.p x)))) ∧ plan .nil (.toStr (.k (.v (.c (.p x))))) = some (.pure (.pv (.str [b]))) := by
 cases s with
 | nil => cases hb
 | mk t l =>
  have hb' : l[i]? = some b := hb
  obtain ⟨hi, e⟩ := List.getElem?_eq_some_iff.1 hb'
  have hr : ((l.map bRow).take (i + 1)).drop i = [bRow b] := by
   rw [← List.map_take, ← List.map_drop]
   have : (l.take (i + 1)).drop i = [b] := by
    rw [List.take_succ_eq_append_getElem hi, e, List.drop_append_of_le_length (by simp; omega)]
    simp
   rw [this]; rfl
  refine ⟨.slice 1 (tightOf (t && (i + 1) == (l.map bRow).length) (i + 1) none) [bRow b], ?_, ?_⟩
  ·show Option.map (fun c => Plan.pure (.v (.c c))) (sliceV 1 false (.p (.slice 1 t (l.map bRow))) (some i) (some (i + 1)) none) = _
   have : sliceV 1 false (.p (.slice 1 t (l.map bRow))) (some i) (some (i + 1)) none = some (.p (.slice 1 (tightOf (t && (i + 1) == (l.map bRow).length) (i + 1) none) [bRow b])) := by
    simp only [sliceV]
    rw [← hr]
    simp
    omega
   rw [this]; rfl
  ·show (bytesOfRows [bRow b]).map (fun s => Plan.pure (.pv (.str s))) = _
   simp [bytesOfRows, bRow]
end
end Go.AI
