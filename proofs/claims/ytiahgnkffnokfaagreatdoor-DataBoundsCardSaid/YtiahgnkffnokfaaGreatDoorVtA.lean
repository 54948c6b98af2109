/- Values, types of values, raw trees: what they are to the machine. Own work; no condition. -/
import Derived.Test.YtiahgnkffnokfaaGreatDoorMaS
set_option linter.all false
set_option linter.unusedVariables false
set_option linter.unusedSimpArgs false
namespace Go.AI
/-- A slice: nothing, or rows, of which it is known or not whether there is room behind. -/
inductive Sl (α : Type) where
 | nil
 | mk (t : Bool) (l : List α)
def Sl.list {α : Type} : Sl α → List α
 | .nil => []
 | .mk _ l => l
def Sl.len {α : Type} (s : Sl α) : Nat := s.list.length
def slP {α : Type} (sz : Nat) (f : α → List PVal) : Sl α → PVal
 | .nil => .nilslice
 | .mk t l => .slice sz t (l.map f)
/-- What is handed back of a row that was appended to. -/
def grown {α : Type} (l : List α) : Sl α := match l with
 | [] => .nil
 | l => .mk false l
theorem grown_row {α : Type} (sz : Nat) (f : α → List PVal) (l : List α) : growP sz (l.map f) = slP sz f (grown l) := by cases l <;> rfl
theorem grown_list {α : Type} (l : List α) : (grown l).list = l := by cases l <;> rfl
theorem grown_len {α : Type} (l : List α) : (grown l).len = l.length := by cases l <;> rfl
def sRow (s : List UInt8) : List PVal := [.str s]
def iRow (n : Int) : List PVal := [.int .i64 n]
/-- api.Value. -/
inductive VT where
 | mk (kind : Int) (b : Bool) (n : Int) (s : List UInt8) (keys : Sl (List UInt8)) (l : Sl VT)
namespace VT
def kind : VT → Int | .mk k _ _ _ _ _ => k
def b : VT → Bool | .mk _ b _ _ _ _ => b
def n : VT → Int | .mk _ _ n _ _ _ => n
def s : VT → List UInt8 | .mk _ _ _ s _ _ => s
def keys : VT → Sl (List UInt8) | .mk _ _ _ _ k _ => k
def l : VT → Sl VT | .mk _ _ _ _ _ l => l
mutual
def row : VT → List PVal
 | .mk k b n s ks l => [.int .i64 k, .bool b, .int .i64 n, .str s, slP 1 sRow ks, slRow l]
def slRow : Sl VT → PVal
 | .nil => .nilslice
 | .mk t l => .slice 6 t (rows l)
def rows : List VT → List (List PVal)
 | [] => []
 | v :: vs => row v :: rows vs
end
theorem rows_eq : ∀ l : List VT, rows l = l.map row
 | [] => by simp [rows]
 | v :: vs => by simp [rows, rows_eq vs]
theorem slRow_eq (l : Sl VT) : slRow l = slP 6 row l := by cases l <;> simp [slRow, slP, rows_eq]
theorem row_eq (v : VT) : row v = [.int .i64 v.kind, .bool v.b, .int .i64 v.n, .str v.s, slP 1 sRow v.keys, slP 6 row v.l] := by
 cases v; simp [row, slRow_eq, kind, b, n, s, keys, l]
theorem row_len (v : VT) : (row v).length = 6 := by rw [row_eq]; rfl
theorem row0 (v : VT) : (row v)[0]? = some (.int .i64 v.kind) := by rw [row_eq]; rfl
theorem row1 (v : VT) : (row v)[1]? = some (.bool v.b) := by rw [row_eq]; rfl
theorem row2 (v : VT) : (row v)[2]? = some (.int .i64 v.n) := by rw [row_eq]; rfl
theorem row3 (v : VT) : (row v)[3]? = some (.str v.s) := by rw [row_eq]; rfl
theorem row4 (v : VT) : (row v)[4]? = some (slP 1 sRow v.keys) := by rw [row_eq]; rfl
theorem row5 (v : VT) : (row v)[5]? = some (slP 6 row v.l) := by rw [row_eq]; rfl
abbrev nul : VT := .mk 0 false 0 [] .nil .nil
/-- How deep a value is: for recursions. -/
theorem mem_size {v x : VT} (h : x ∈ v.l.list) : SizeOf.sizeOf x < SizeOf.sizeOf v := by
 cases v with
 | mk k b n s ks l =>
  cases l with
  | nil => simp [VT.l, Sl.list] at h
  | mk t l =>
   have := List.sizeOf_lt_of_mem (show x ∈ l from h)
   simp; omega
end VT
/-- api.Type. -/
inductive TT where
 | mk (kind : Int) (name : List UInt8) (names : Sl (List UInt8)) (kids : Sl TT)
namespace TT
def kind : TT → Int | .mk k _ _ _ => k
def name : TT → List UInt8 | .mk _ n _ _ => n
def names : TT → Sl (List UInt8) | .mk _ _ n _ => n
def kids : TT → Sl TT | .mk _ _ _ k => k
mutual
def row : TT → List PVal
 | .mk k n ns l => [.int .i64 k, .str n, slP 1 sRow ns, slRow l]
def slRow : Sl TT → PVal
 | .nil => .nilslice
 | .mk t l => .slice 4 t (rows l)
def rows : List TT → List (List PVal)
 | [] => []
 | v :: vs => row v :: rows vs
end
theorem rows_eq : ∀ l : List TT, rows l = l.map row
 | [] => by simp [rows]
 | v :: vs => by simp [rows, rows_eq vs]
theorem slRow_eq (l : Sl TT) : slRow l = slP 4 row l := by cases l <;> simp [slRow, slP, rows_eq]
theorem row_eq (v : TT) : row v = [.int .i64 v.kind, .str v.name, slP 1 sRow v.names, slP 4 row v.kids] := by
 cases v; simp [row, slRow_eq, kind, name, names, kids]
theorem row_len (v : TT) : (row v).length = 4 := by rw [row_eq]; rfl
theorem row0 (v : TT) : (row v)[0]? = some (.int .i64 v.kind) := by rw [row_eq]; rfl
theorem row1 (v : TT) : (row v)[1]? = some (.str v.name) := by rw [row_eq]; rfl
theorem row2 (v : TT) : (row v)[2]? = some (slP 1 sRow v.names) := by rw [row_eq]; rfl
theorem row3 (v : TT) : (row v)[3]? = some (slP 4 row v.kids) := by rw [row_eq]; rfl
theorem mem_size {v x : TT} (h : x ∈ v.kids.list) : SizeOf.sizeOf x < SizeOf.sizeOf v := by
 cases v with
 | mk k n ns l =>
  cases l with
  | nil => simp [TT.kids, Sl.list] at h
  | mk t l =>
   have := List.sizeOf_lt_of_mem (show x ∈ l from h)
   simp; omega
end TT
section
variable {β : Type} {O : Oracle} {h : Heap} {d : Nat} {k : TVal → Heap → Option β}
theorem x_len_sl {α : Type} (sz : Nat) (f : α → List PVal) (s : Sl α) : vlen O 2 (.v (.c (.p (slP sz f s)))) h d k = k (kI (s.len : Int)) h := by
 cases s with
 | nil => rfl
 | mk t l =>
  show vlen O 2 (kSl sz t (l.map f)) h d k = _
  rw [vlen_sl, List.length_map]; rfl
theorem x_iaddr_sl {α : Type} (sz : Nat) (f : α → List PVal) (s : Sl α) (i : Int) : viaddr sz (.v (.c (.p (slP sz f s)))) (kI i) h k = chk (decide (0 ≤ i)) (obnd (s.list[i.toNat]?) fun a => k (.v (.c (.p (.pptr (f a) 0)))) h) := by
 cases s with
 | nil =>
  show viaddr sz (.v (.c (.p .nilslice))) (kI i) h k = _
  have e : viaddr sz (.v (.c (.p .nilslice))) (kI i) h k = none := by
   by_cases hi : 0 ≤ i
   ·obtain ⟨n, rfl⟩ : ∃ n : Nat, i = n := ⟨i.toNat, by omega⟩
    rfl
   ·obtain ⟨n, rfl⟩ : ∃ n : Nat, i = Int.negSucc n := ⟨(-i-1).toNat, by omega⟩
    rfl
  rw [e]
  show none = chk _ (obnd ([][_]?) _)
  cases decide (0 ≤ i) <;> simp [chk, obnd]
 | mk t l =>
  show viaddr sz (kSl sz t (l.map f)) (kI i) h k = _
  rw [x_iaddr, List.getElem?_map]
  congr 1
  show obnd (Option.map f l[i.toNat]?) _ = _
  rw [obnd_map]; rfl
end
theorem exV :
  (∀ s : List UInt8, (sRow s)[0]? = some (.str s)) ∧ (∀ n : Int, (iRow n)[0]? = some (.int .i64 n)) ∧ (∀ s : List UInt8, (sRow s).length = 1) ∧ (∀ n : Int, (iRow n).length = 1) ∧
  (∀ v : VT, v.row.length = 6) ∧ (∀ v : VT, v.row[0]? = some (.int .i64 v.kind)) ∧ (∀ v : VT, v.row[1]? = some (.bool v.b)) ∧ (∀ v : VT, v.row[2]? = some (.int .i64 v.n)) ∧ (∀ v : VT, v.row[3]? = some (.str v.s)) ∧
  (∀ v : VT, v.row[4]? = some (slP 1 sRow v.keys)) ∧ (∀ v : VT, v.row[5]? = some (slP 6 VT.row v.l)) ∧
  (∀ v : TT, v.row.length = 4) ∧ (∀ v : TT, v.row[0]? = some (.int .i64 v.kind)) ∧ (∀ v : TT, v.row[1]? = some (.str v.name)) ∧ (∀ v : TT, v.row[2]? = some (slP 1 sRow v.names)) ∧ (∀ v : TT, v.row[3]? = some (slP 4 TT.row v.kids)) ∧
  (∀ {β α : Type} {O : Oracle} {h : Heap} {d : Nat} {k : TVal → Heap → Option β} (sz : Nat) (f : α → List PVal) (s : Sl α), vlen O 2 (.v (.c (.p (slP sz f s)))) h d k = k (kI (s.len : Int)) h) ∧
  (∀ {β α : Type} {h : Heap} {k : TVal → Heap → Option β} (sz : Nat) (f : α → List PVal) (s : Sl α) (i : Int), viaddr sz (.v (.c (.p (slP sz f s)))) (kI i) h k = chk (decide (0 ≤ i)) (obnd (s.list[i.toNat]?) fun a => k (.v (.c (.p (.pptr (f a) 0)))) h)) ∧
  (∀ {β : Type} {h : Heap} {k : TVal → Heap → Option β} (v : VT), vload true 6 (.v (.c (.p (.pptr v.row 0)))) h k = k (.v (.agg (pcells v.row))) h) ∧
  (∀ {β : Type} {h : Heap} {k : TVal → Heap → Option β} (v : TT), vload true 4 (.v (.c (.p (.pptr v.row 0)))) h k = k (.v (.agg (pcells v.row))) h) ∧
  (∀ {β : Type} {h : Heap} {k : TVal → Heap → Option β} (n : Nat) (x : PVal), vload false n (.v (.c (.p (.pptr [x] 0)))) h k = k (.v (.c (.p x))) h) ∧
  (∀ {β : Type} {h : Heap} {k : TVal → Heap → Option β} (n : Nat) (s : List UInt8), vload false n (.v (.c (.p (.pptr (sRow s) 0)))) h k = k (kS s) h) ∧
  (∀ {β : Type} {h : Heap} {k : TVal → Heap → Option β} (n : Nat) (s : Int), vload false n (.v (.c (.p (.pptr (iRow s) 0)))) h k = k (kI s) h) :=
 ⟨fun _ => rfl, fun _ => rfl, fun _ => rfl, fun _ => rfl, VT.row_len, VT.row0, VT.row1, VT.row2, VT.row3, VT.row4, VT.row5, TT.row_len, TT.row0, TT.row1, TT.row2, TT.row3, x_len_sl, x_iaddr_sl, fun v => x_load_row 6 v.row v.row_len, fun v => x_load_row 4 v.row v.row_len, fun n x => x_load_pptr n 0 [x], fun n s => x_load_pptr n 0 _, fun n s => x_load_pptr n 0 _⟩
/-! ### schemas -/
/-- api.Named, api.Sig, api.Schema. -/
structure NT where
 name : List UInt8
 t : TT
structure GT where
 name : List UInt8
 params : Sl TT
 result : TT
structure ST where
 main : TT
 types : Sl NT
 sigs : Sl GT
def NT.row (e : NT) : List PVal := .str e.name :: e.t.row
def GT.row (e : GT) : List PVal := .str e.name :: slP 4 TT.row e.params :: e.result.row
def ST.row (s : ST) : List PVal := s.main.row ++ [slP 5 NT.row s.types, slP 6 GT.row s.sigs]
/-- A schema and a number. -/
abbrev wkRow (s : ST) (n : Int) : List PVal := s.row ++ [.int .i64 n]
theorem ST.row_lit (s : ST) : s.row = [.int .i64 s.main.kind, .str s.main.name, slP 1 sRow s.main.names, slP 4 TT.row s.main.kids, slP 5 NT.row s.types, slP 6 GT.row s.sigs] := by unfold ST.row; rw [TT.row_eq]; rfl
theorem ST.row_len (s : ST) : s.row.length = 6 := by rw [ST.row_lit]; rfl
theorem NT.row_len (s : NT) : s.row.length = 5 := by unfold NT.row; rw [List.length_cons, TT.row_len]
theorem GT.row_len (s : GT) : s.row.length = 6 := by unfold GT.row; rw [List.length_cons, List.length_cons, TT.row_len]
theorem x_load_nt {β : Type} {h : Heap} {k : TVal → Heap → Option β} (e : NT) : vload true 4 (.v (.c (.p (.pptr e.row 1)))) h k = k (.v (.agg (pcells e.t.row))) h := by
 rw [x_load_part]
 have : (e.row.drop 1).take 4 = e.t.row := take_allP 4 _ (TT.row_len _)
 rw [this, TT.row_len]; rfl
theorem x_load_gt {β : Type} {h : Heap} {k : TVal → Heap → Option β} (e : GT) : vload true 4 (.v (.c (.p (.pptr e.row 2)))) h k = k (.v (.agg (pcells e.result.row))) h := by
 rw [x_load_part]
 have : (e.row.drop 2).take 4 = e.result.row := take_allP 4 _ (TT.row_len _)
 rw [this, TT.row_len]; rfl
theorem pc_app (a : List PVal) (x : PVal) : pcells a ++ [.p x] = pcells (a ++ [x]) := by simp [pcells]
theorem st_take (s : ST) : (pcells s.row).take 4 = pcells s.main.row := by
 unfold ST.row pcells
 rw [List.map_append, List.take_append_of_le_length (by simp [TT.row_len]), List.take_of_length_le (by simp [TT.row_len])]
theorem wk_take (s : ST) (n : Int) : (pcells (wkRow s n)).take 6 = pcells s.row := by
 unfold wkRow pcells
 rw [List.map_append, List.take_append_of_le_length (by simp [ST.row_len]), List.take_of_length_le (by simp [ST.row_len])]
theorem wk_get (s : ST) (n : Int) : (wkRow s n)[6]? = some (.int .i64 n) := by unfold wkRow; rw [ST.row_lit]; rfl
theorem wk_put (s : ST) (n m : Int) : put1 (pcells (wkRow s n)) 6 [.p (.int .i64 m)] = pcells (wkRow s m) := by unfold wkRow; rw [ST.row_lit]; rfl
theorem wk_len (s : ST) (n : Int) : (wkRow s n).length = 7 := by unfold wkRow; rw [ST.row_lit]; rfl
theorem gt_drop (e : GT) : ((pcells e.row).drop 2).take 4 = pcells e.result.row := by
 show (pcells e.result.row).take 4 = _
 exact take_all 4 _ (TT.row_len _)
theorem nt_drop (e : NT) : ((pcells e.row).drop 1).take 4 = pcells e.t.row := by
 show (pcells e.t.row).take 4 = _
 exact take_all 4 _ (TT.row_len _)
theorem exS :
  (∀ e : NT, ((pcells e.row).drop 1).take 4 = pcells e.t.row) ∧
  (∀ s : ST, s.row.length = 6) ∧ (∀ s : NT, s.row.length = 5) ∧ (∀ s : GT, s.row.length = 6) ∧ (∀ s : ST, s.row[4]? = some (slP 5 NT.row s.types)) ∧ (∀ s : ST, s.row[5]? = some (slP 6 GT.row s.sigs)) ∧
  (∀ s : NT, s.row[0]? = some (.str s.name)) ∧ (∀ s : GT, s.row[0]? = some (.str s.name)) ∧ (∀ s : GT, s.row[1]? = some (slP 4 TT.row s.params)) ∧
  (∀ {β : Type} {h : Heap} {k : TVal → Heap → Option β} (e : NT), vload true 4 (.v (.c (.p (.pptr e.row 1)))) h k = k (.v (.agg (pcells e.t.row))) h) ∧
  (∀ {β : Type} {h : Heap} {k : TVal → Heap → Option β} (e : GT), vload true 4 (.v (.c (.p (.pptr e.row 2)))) h k = k (.v (.agg (pcells e.result.row))) h) ∧
  (∀ {β : Type} {h : Heap} {k : TVal → Heap → Option β} (e : GT), vload true 6 (.v (.c (.p (.pptr e.row 0)))) h k = k (.v (.agg (pcells e.row))) h) ∧
  (∀ {β : Type} {h : Heap} {k : TVal → Heap → Option β} (e : NT), vload true 5 (.v (.c (.p (.pptr e.row 0)))) h k = k (.v (.agg (pcells e.row))) h) ∧
  (∀ s : ST, (pcells s.row).take 4 = pcells s.main.row) ∧ (∀ (s : ST) (n : Int), (pcells (wkRow s n)).take 6 = pcells s.row) ∧ (∀ (s : ST) (n : Int), (wkRow s n)[6]? = some (.int .i64 n)) ∧
  (∀ (s : ST) (n m : Int), put1 (pcells (wkRow s n)) 6 [.p (.int .i64 m)] = pcells (wkRow s m)) ∧ (∀ (s : ST) (n : Int), (wkRow s n).length = 7) ∧ (∀ e : GT, ((pcells e.row).drop 2).take 4 = pcells e.result.row) ∧
  (∀ (a : List PVal) (x : PVal), pcells a ++ [.p x] = pcells (a ++ [x])) ∧ (∀ (cs : List Cell) (r : List PVal), r.length < cs.length → put1 cs 0 (pcells r) = pcells r ++ cs.drop r.length) :=
 ⟨nt_drop, ST.row_len, NT.row_len, GT.row_len, fun s => by rw [ST.row_lit]; rfl, fun s => by rw [ST.row_lit]; rfl, fun _ => rfl, fun _ => rfl, fun _ => rfl, x_load_nt, x_load_gt, fun e => x_load_row 6 _ (GT.row_len e), fun e => x_load_row 5 _ (NT.row_len e), st_take, wk_take, wk_get, wk_put, wk_len, gt_drop, pc_app, fun cs r _ => put1_row cs r⟩
theorem exL : (∀ {α β : Type} (f : α → β) (a : α), Option.map f (some a) = some (f a)) ∧ ((!false) = true) ∧ ((!true) = false) ∧ (∀ b : Bool, (!!b) = b) ∧ (∀ b : Bool, (b && b) = b) ∧ (∀ b : Bool, (b && true) = b) ∧ (∀ b : Bool, (true && b) = b) ∧ (∀ b : Bool, (b || b) = b) ∧
  (∀ b : Bool, (true || b) = true) ∧ (∀ b : Bool, (b || true) = true) ∧ (∀ b : Bool, (false || b) = b) ∧ (∀ b : Bool, (b || false) = b) ∧ (∀ b : Bool, (false && b) = false) ∧ (∀ b : Bool, (b && false) = false) ∧ (∀ n : Nat, 0 + n = n) ∧ (∀ n : Nat, n + 0 = n) ∧ (decide True = true) ∧ (decide False = false) ∧
  (∀ n : Nat, ((n : Nat) : Int).toNat = n) ∧ (∀ {α : Type} (a : α) (l : List α), (a :: l).length = l.length + 1) ∧ (∀ {α : Type}, ([] : List α).length = 0) ∧ (∀ {α : Type} (a : α) (l : List α), (a :: l)[0]? = some a) ∧ (∀ {α : Type} (a : α) (l : List α) (i : Nat), (a :: l)[i + 1]? = l[i]?) ∧
  (∀ {α : Type} (a : α) (l : List α) (i : Nat), (a :: l).take (i + 1) = a :: l.take i) ∧ (∀ {α : Type} (a : α) (l : List α) (i : Nat), (a :: l).drop (i + 1) = l.drop i) ∧ (∀ {α : Type} (l : List α), l.drop 0 = l) ∧ (∀ {α : Type} (l : List α), l.take 0 = []) :=
 ⟨fun _ _ => rfl, rfl, rfl, Bool.not_not, Bool.and_self, Bool.and_true, Bool.true_and, Bool.or_self, Bool.true_or, Bool.or_true, Bool.false_or, Bool.or_false, Bool.false_and, Bool.and_false, Nat.zero_add, Nat.add_zero, rfl, rfl, Int.toNat_natCast, fun _ _ => rfl, rfl, fun _ _ => rfl, fun _ _ _ => rfl, fun _ _ _ => rfl, fun _ _ _ => rfl, fun _ => rfl, fun _ => rfl⟩
/-- All rules. -/
def exa := And.intro @ex (And.intro @exG (And.intro @exM (And.intro @exV (And.intro @exF (And.intro @exQ (And.intro @exB (And.intro @exS (And.intro @exT (And.intro @exC @exL)))))))))
/-- A loop that counts up. -/
theorem loop_up {p : Nat → Prop} (n : Nat) (hd : ∀ i, n ≤ i → p i) (hs : ∀ i, i < n → p (i + 1) → p i) : ∀ i, p i := by
 have key : ∀ m i, n - i ≤ m → p i := by
  intro m
  induction m with
  | zero => intro i h; exact hd i (by omega)
  | succ m ih =>
   intro i h
   by_cases hi : i < n
   ·exact hs i hi (ih (i + 1) (by omega))
   ·exact hd i (by omega)
 exact fun i => key (n - i) i (Nat.le_refl _)
theorem at_step {α : Type} {l : List α} {i : Nat} (hi : i < l.length) : ∃ a, l[i]? = some a ∧ l.drop i = a :: l.drop (i + 1) ∧ a ∈ l :=
 ⟨l[i], by simp [hi], List.drop_eq_getElem_cons hi, List.getElem_mem hi⟩
theorem at_end {α : Type} {l : List α} {i : Nat} (hi : l.length ≤ i) : l.drop i = [] := List.drop_eq_nil_of_le hi
theorem wrapS (n : Nat) (h : n < 4611686018427387904) : IntKind.i64.wrap ((n : Int) + 1) = ((n + 1 : Nat) : Int) := by rw [wrap_i64 _ (by omega) (by omega)]; omega
theorem wrapP (n : Nat) (h : n < 4611686018427387904) (h1 : 1 ≤ n) : IntKind.i64.wrap ((n : Int) - 1) = ((n - 1 : Nat) : Int) := by rw [wrap_i64 _ (by omega) (by omega)]; omega
end Go.AI
