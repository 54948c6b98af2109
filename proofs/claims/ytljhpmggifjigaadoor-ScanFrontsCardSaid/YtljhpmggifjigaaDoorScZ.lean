/- ScanStrings, whatever the bytes: a text in quotes is one word. -/
import Derived.Test.YtljhpmggifjigaaDoorScY
set_option linter.all false
set_option linter.unusedVariables false
set_option linter.unusedSimpArgs false
set_option maxRecDepth 100000
namespace Go.Proofs.YtljhpmggifjigaaDoor.Ab
open Go Go.AI
def bytesP (o : Option (List UInt8)) : PVal := match o with
 | none => .nilslice
 | some l => .slice 1 false (byteRows l)
def bytesL (o : Option (List UInt8)) : List UInt8 := o.getD []
theorem bytes_of (o : Option (List Int)) (h : ∀ n ∈ intsL o, (Lit.int .u8 n).wf = true) : ∃ b : Option (List UInt8), intsP .u8 o = bytesP b := by
 cases o with
 | none => exact ⟨none, rfl⟩
 | some l =>
  refine ⟨some (l.map fun n => UInt8.ofNat n.toNat), ?_⟩
  show PVal.slice 1 false (l.map fun n => [.int .u8 n]) = .slice 1 false (byteRows (l.map fun n => UInt8.ofNat n.toNat))
  congr 1
  unfold byteRows
  rw [List.map_map]
  apply List.map_congr_left
  intro n hn
  have hw := h n hn
  have hb : 0 ≤ n ∧ n ≤ 255 := by
   have h : (decide (IntKind.min .u8 ≤ n) && decide (n ≤ IntKind.max .u8)) = true := hw
   simp only [Bool.and_eq_true, decide_eq_true_eq] at h
   exact ⟨h.1, h.2⟩
  have : ((UInt8.ofNat n.toNat).toNat : Int) = n := by
   rw [UInt8.toNat_ofNat']
   omega
  simp only [Function.comp, this]
section
variable {β : Type} {O : Oracle} {h : Heap} {d : Nat} {k : TVal → Heap → Option β}
theorem vlen_bytes (o : Option (List UInt8)) : vlen O 2 (.v (.c (.p (bytesP o)))) h d k = k (kI ((bytesL o).length : Int)) h := by
 cases o with
 | none => rfl
 | some l => show vlen O 2 (.v (.c (.p (.slice 1 false (byteRows l))))) h d k = _; rw [vlen_sl]; simp [bytesL, byteRows]
theorem vslice_rows (sz : Nat) (t : Bool) (rows : List (List PVal)) (l u : Nat) (h1 : l ≤ u) (h2 : u ≤ rows.length) : vop O (.slice sz false (.k (kSl sz t rows)) (some (.k (kI (l : Int)))) (some (.k (kI (u : Int)))) none) h d k = k (kSl sz (t && u == rows.length) ((rows.take u).drop l)) h := by
 refine vplan _ _ ?_
 show Option.map (fun c => Plan.pure (.v (.c c))) (sliceV sz false (.p (.slice sz t rows)) (some l) (some u) none) = _
 have : sliceV sz false (.p (.slice sz t rows)) (some l) (some u) none = some (.p (.slice sz (tightOf (t && u == rows.length) u none) ((rows.take u).drop l))) := by
  simp only [sliceV, Option.getD_some, Option.getD_none]
  rw [if_neg (by simp), if_neg (by decide), if_pos ⟨trivial, h1, h2, Nat.le_refl _⟩]
 rw [this]; rfl
theorem vslice_rowsh (sz : Nat) (t : Bool) (rows : List (List PVal)) (u : Nat) (h2 : u ≤ rows.length) : vop O (.slice sz false (.k (kSl sz t rows)) none (some (.k (kI (u : Int)))) none) h d k = k (kSl sz (t && u == rows.length) (rows.take u)) h := by
 refine vplan _ _ ?_
 show Option.map (fun c => Plan.pure (.v (.c c))) (sliceV sz false (.p (.slice sz t rows)) none (some u) none) = _
 have : sliceV sz false (.p (.slice sz t rows)) none (some u) none = some (.p (.slice sz (tightOf (t && u == rows.length) u none) (rows.take u))) := by
  simp only [sliceV, Option.getD_some, Option.getD_none, List.drop_zero]
  rw [if_neg (by simp), if_neg (by decide), if_pos ⟨trivial, Nat.zero_le _, h2, Nat.le_refl _⟩]
 rw [this]; rfl
end
theorem escM_snoc (s : List UInt8) (c : UInt8) : escM (s ++ [c]) = escM s ++ escC c ∧ wantM (s ++ [c]) = wantM s ++ wantC c := by
 constructor
 ·unfold escM; rw [List.flatMap_append]; simp
 ·unfold wantM; rw [List.flatMap_append]; simp
/-- A slice that is not empty, or nothing. -/
theorem str_loop (v : Cell) (t : Bool) (b : List UInt8) (hb : b.length ≤ 200) (hv : v = .p (.slice 1 t (byteRows b)) ∨ (v = .p .nilslice ∧ b = [])) : ∀ (m i : Nat) (h : Heap), b.length - i ≤ m → i ≤ b.length →
  lim tab.get S 6 0 2 [.v (.c v), kS (34 :: escM (b.take i)), kS (wantM (b.take i)), kI (i : Int)] h = lim tab.get S 6 0 5 [kS (34 :: escM b), kS (wantM b)] h := by
 intro m
 have fin : ∀ (i : Nat) (h : Heap), i = b.length → lim tab.get S 6 0 2 [.v (.c v), kS (34 :: escM (b.take i)), kS (wantM (b.take i)), kI (i : Int)] h = lim tab.get S 6 0 5 [kS (34 :: escM b), kS (wantM b)] h := by
  intro i h hi
  subst hi
  have e : decide ((b.length : Int) < (b.length : Int)) = false := decide_eq_false (by omega)
  rw [List.take_length, w6_2, b6_2]
  rcases hv with rfl | ⟨rfl, rfl⟩
  ·rw [vlen_sl, show (byteRows b).length = b.length by simp [byteRows], vbin_lss, e, vif_f]
  ·rw [vlen_nil, vbin_lss, show decide (((([] : List UInt8).length : Nat) : Int) < 0) = false by rfl, vif_f]
 induction m with
 | zero => intro i h hm hi; exact fin i h (by omega)
 | succ m ih =>
  intro i h hm hi
  by_cases hl : i < b.length
  ·obtain ⟨c, hc⟩ : ∃ c, b[i]? = some c := ⟨b[i], by simp [hl]⟩
   have hv' : v = .p (.slice 1 t (byteRows b)) := by
    rcases hv with h | ⟨_, rfl⟩
    ·exact h
    ·simp at hl
   subst hv'
   have ht : b.take (i + 1) = b.take i ++ [c] := by
    obtain ⟨q1, q2⟩ := List.getElem?_eq_some_iff.1 hc
    rw [List.take_succ_eq_append_getElem q1, q2]
   have hesc := escM_snoc (b.take i) c
   rw [← ht] at hesc
   have hlen := escM_len (b.take i)
   simp only [List.length_take] at hlen
   have hmin : min i b.length ≤ 200 := by omega
   have hw1 := (escC_len c)
   have hrow : (byteRows b)[i]? = some [.int .u8 (c.toNat : Int)] := by unfold byteRows; rw [List.getElem?_map, hc]; rfl
   have hrl : (byteRows b).length = b.length := by simp [byteRows]
   have e : decide ((i : Int) < (b.length : Int)) = true := decide_eq_true (by omega)
   have ei : IntKind.i64.wrap ((i : Int) + 1) = ((i + 1 : Nat) : Int) := by rw [wrap_i64 _ (by omega) (by omega)]; omega
   have esl : ((byteRows b).take (i + 1)).drop i = byteRows [c] := by
    unfold byteRows
    rw [← List.map_take, ht, List.map_append, List.drop_left' (by simp; omega)]
   have next := ih (i + 1) h (by omega) (by omega)
   have step4 : ∀ s w : List UInt8, s = 34 :: escM (b.take (i + 1)) → w = wantM (b.take (i + 1)) → lim tab.get S 6 0 4 [.v (.c (.p (.slice 1 t (byteRows b)))), kS s, kS w, kI (i : Int)] h = lim tab.get S 6 0 5 [kS (34 :: escM b), kS (wantM b)] h := by
    intro s w hs hw
    rw [w6_4, b6_4, vbin_add, ei, hs, hw]; exact next
   have step3 : ∀ s : List UInt8, s = 34 :: escM (b.take (i + 1)) → wantC c = [c] → lim tab.get S 6 0 3 [.v (.c (.p (.slice 1 t (byteRows b)))), kS s, kS (wantM (b.take i)), kI (i : Int), kS [c]] h = lim tab.get S 6 0 5 [kS (34 :: escM b), kS (wantM b)] h := by
    intro s hs hw
    rw [w6_3, b6_3, vbin_sadd _ _ _ (by simp; omega)]
    exact step4 _ _ hs (by rw [hesc.2, hw])
   rw [w6_2, b6_2, vlen_sl, hrl, vbin_lss, e, vif_t, vbin_add, ei]
   rw [vslice_rows 1 t (byteRows b) i (i + 1) (by omega) (by omega), esl, vtoStr_sl, viaddr_sl 1 t _ i _ hrow, vload_pptr _ _ _ (.int .u8 (c.toNat : Int)) rfl, vbin_eql]
   by_cases h1 : c.toNat = 34
   ·rw [decide_eq_true (show (c.toNat : Int) = 34 by omega)]
    simp only [vguard_tf, vpick_t, vif_t]
    rw [vbin_sadd _ _ _ (by simp; omega), vbin_sadd _ _ _ (by simp; omega)]
    exact step3 _ (by rw [hesc.1]; simp [escC, h1]) (by simp [wantC, h1])
   rw [decide_eq_false (show ¬ (c.toNat : Int) = 34 by omega)]
   simp only [vguard_ff, vpick_f]
   rw [viaddr_sl 1 t _ i _ hrow, vload_pptr _ _ _ (.int .u8 (c.toNat : Int)) rfl, vbin_eql]
   by_cases h2 : c.toNat = 92
   ·rw [decide_eq_true (show (c.toNat : Int) = 92 by omega), vif_t, vbin_sadd _ _ _ (by simp; omega), vbin_sadd _ _ _ (by simp; omega)]
    exact step3 _ (by rw [hesc.1]; simp [escC, h2]) (by simp [wantC, h2])
   rw [decide_eq_false (show ¬ (c.toNat : Int) = 92 by omega), vif_f, viaddr_sl 1 t _ i _ hrow, vload_pptr _ _ _ (.int .u8 (c.toNat : Int)) rfl, vbin_eql]
   by_cases h3 : c.toNat = 10
   ·rw [decide_eq_true (show (c.toNat : Int) = 10 by omega), vif_t, vbin_sadd _ _ _ (by simp; omega)]
    exact step3 _ (by rw [hesc.1]; simp [escC, h3]) (by simp [wantC, h3])
   rw [decide_eq_false (show ¬ (c.toNat : Int) = 10 by omega), vif_f, viaddr_sl 1 t _ i _ hrow, vload_pptr _ _ _ (.int .u8 (c.toNat : Int)) rfl, vbin_eql]
   by_cases h4 : c.toNat = 9
   ·rw [decide_eq_true (show (c.toNat : Int) = 9 by omega), vif_t, vbin_sadd _ _ _ (by simp; omega)]
    exact step3 _ (by rw [hesc.1]; simp [escC, h4]) (by simp [wantC, h4])
   rw [decide_eq_false (show ¬ (c.toNat : Int) = 9 by omega), vif_f, viaddr_sl 1 t _ i _ hrow, vload_pptr _ _ _ (.int .u8 (c.toNat : Int)) rfl, vbin_lss]
   by_cases h5 : c.toNat < 32
   ·rw [decide_eq_true (show (c.toNat : Int) < 32 by omega), vif_t]
    exact step4 _ _ (by rw [hesc.1]; simp [escC, h1, h2, h3, h4, h5]) (by rw [hesc.2]; simp [wantC, h1, h2, h3, h4, h5])
   rw [decide_eq_false (show ¬ (c.toNat : Int) < 32 by omega), vif_f, vbin_sadd _ _ _ (by simp; omega)]
   exact step3 _ (by rw [hesc.1]; simp [escC, h1, h2, h3, h4, h5]) (by simp [wantC, h1, h2, h3, h4, h5])
  ·exact fin i h (by omega)
theorem str_end (b : List UInt8) (hb : b.length ≤ 200) (h : Heap) : lim tab.get S 6 0 5 [kS (34 :: escM b), kS (wantM b)] h = some (kB true, []) := by
 have hl := escM_len b
 have ht := strings_toks b hb
 rw [w6_5, b6_5, vbin_sadd _ _ _ (by simp; omega), vbin_sadd _ _ _ (by simp; omega)]
 have ht' : tokensM ([32] ++ 34 :: escM b ++ [34, 32]) = .ok [⟨2, wantM b, 0, 1⟩] := by rw [← ht]; simp
 rw [vcall_pure 16 _ _ rfl (tokens_ok _) (toksVal_p _), ht', show toksVal (.ok [⟨2, wantM b, 0, 1⟩]) = .tup [.c (.p (.slice 4 false [[.int .i64 2, .str (wantM b), .int .i64 0, .int .i64 1]])), .c (.p (.int .i64 0))] from rfl, vext_tup _ 0 _ rfl, vext_tup _ 1 _ rfl, vbin_eql, decide_eq_true rfl]
 simp only [vguard_tt, vlen_sl]
 rw [vbin_eql, decide_eq_true (by rfl), vpick_t]
 simp only [vguard_tt]
 rw [viaddr_sl0, vfaddr_pptr, vload_pptr _ _ _ (.int .i64 2) rfl, vbin_eql, decide_eq_true rfl, vpick_t]
 simp only [vguard_tt]
 rw [viaddr_sl0, vfaddr_pptr, vload_pptr _ _ _ (.str (wantM b)) rfl, vbin_seql, decide_eq_true rfl, vpick_t]
 simp only [vguard_tt]
 rw [viaddr_sl0, vfaddr_pptr, vload_pptr _ _ _ (.int .i64 1) rfl, vbin_eql, decide_eq_true rfl, vpick_t, tcomp_c, vfin_pure _ _ rfl]
 rfl
/-- THE LAW. -/
theorem strings_law (o : Option (List Int)) (hw : ∀ n ∈ intsL o, (Lit.int .u8 n).wf = true) : Om 6 [.v (.c (.p (intsP .u8 o)))] [] = some (kB true, []) := by
 obtain ⟨b, hb⟩ := bytes_of o hw
 rw [hb]
 refine (orc_none rfl).trans ?_
 show lim tab.get S 6 0 0 [.v (.c (.p (bytesP b)))] h0 = _
 have go : ∀ (v : Cell) (t : Bool) (b : List UInt8), b.length ≤ 200 → (v = .p (.slice 1 t (byteRows b)) ∨ (v = .p .nilslice ∧ b = [])) → lim tab.get S 6 0 1 [.v (.c v)] h0 = some (kB true, []) := by
  intro v t b hl hv
  rw [w6_1, b6_1]
  exact (str_loop v t b hl hv b.length 0 h0 (by omega) (by omega)).trans (str_end b hl h0)
 rw [w6_0, b6_0, vcall_pure 12 _ _ rfl known_ok rfl, vnot, vif_kB, if_neg (by decide), vlen_bytes, vbin_gtr, vif_kB]
 by_cases h1 : 200 < (bytesL b).length
 ·rw [if_pos (decide_eq_true (by omega))]
  cases b with
  | none => simp [bytesL] at h1
  | some l =>
   have hl : 200 < l.length := h1
   refine (vslice_rowsh (O := orc S (lim tab.get S)) (h := h0) (d := 15) 1 false (byteRows l) 200 (by simp [byteRows]; omega) (k := fun x15 h => lim tab.get S 6 0 1 [x15] h)).trans ?_
   rw [show (byteRows l).take 200 = byteRows (l.take 200) by simp [byteRows, List.map_take]]
   exact go _ _ (l.take 200) (by simp; omega) (.inl rfl)
 ·rw [if_neg (by rw [decide_eq_true_eq]; omega)]
  cases b with
  | none => exact go _ false [] (by simp) (.inr ⟨rfl, rfl⟩)
  | some l => exact go _ false l (by simp only [bytesL, Option.getD_some] at h1; omega) (.inl rfl)
end Go.Proofs.YtljhpmggifjigaaDoor.Ab
