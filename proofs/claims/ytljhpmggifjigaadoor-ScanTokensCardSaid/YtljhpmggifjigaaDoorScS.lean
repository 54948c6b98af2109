/- ScanSigns, whatever the input: signs stand one behind the other without blanks, the longest first. -/
import Derived.Test.YtljhpmggifjigaaDoorScBl
import Derived.Test.YtljhpmggifjigaaDoorMaJ
set_option linter.all false
set_option linter.unusedVariables false
set_option linter.unusedSimpArgs false
set_option maxRecDepth 100000
namespace Go.Proofs.YtljhpmggifjigaaDoor.Ab
open Go Go.AI
def strRows (l : List (List UInt8)) : List (List PVal) := l.map fun s => [.str s]
theorem strRows_flat (l : List (List UInt8)) : pcells (strRows l).flatten = l.map fun s => .p (.str s) := by
 unfold pcells strRows
 induction l with
 | nil => rfl
 | cons a l ih => simp only [List.map_cons, List.flatten_cons, List.map_append, ih]; rfl
theorem strRows_len (l : List (List UInt8)) : (strRows l).length = l.length := by simp [strRows]
section
variable {β : Type} {O : Oracle} {h : Heap} {d : Nat} {k : TVal → Heap → Option β}
theorem vlen_sref (r : Ref) (off len : Nat) (cap : Option Nat) (sz : Nat) : vlen O 2 (.v (.c (.sref r off len cap sz))) h d k = k (kI (len : Int)) h := id rfl
theorem vat_heap {n : Nat} {cap : Option Nat} {l : List (List UInt8)} {i : Nat} {x : List UInt8} (hh : h.get (.im n) = some (.cells (l.map fun s => .p (.str s)) 0)) (hx : l[i]? = some x) {len : Nat} (hl : i < len) :
  (viaddr 1 (.v (.c (.sref (.im n) 0 len cap 1))) (kI (i : Int)) h fun a h => vload false 1 a h k) = k (kS x) h := by
 rw [viaddr_sref (O := fun _ _ _ => none) 1 (.im n) 0 len cap i hl, vload_one 1 (.im n) _ 0 _ (.p (.str x)) hh (by rw [List.getElem?_map]; simp [hx])]
theorem hg_at {b : Nat} {v : Cell} {m : List (List UInt8)} (G : HG b 1 v (strRows m) h) {i : Nat} {x : List UInt8} (hx : m[i]? = some x) :
  (viaddr 1 (.v (.c v)) (kI (i : Int)) h fun a h => vload false 1 a h k) = k (kS x) h := by
 have hi : i < m.length := (List.getElem?_eq_some_iff.1 hx).1
 rcases G with ⟨_, ⟨e, rfl⟩ | ⟨_, n, _, rfl, hh⟩⟩
 ·have := congrArg List.length e; rw [strRows_len, List.length_nil] at this; omega
 ·rw [strRows_flat] at hh
  exact vat_heap hh hx (by rw [strRows_len]; exact hi)
end
def HS (h : Heap) : Prop := h.get (.im 0) = some (.cells (signsM.map fun s => .p (.str s)) 0)
abbrev someV : TVal := .v (.c (.sref (.im 0) 0 15 (some 15) 1))
theorem within15 (z : Int) : ∃ k : Nat, Om 15 [kI z, kI ((15 : Nat) : Int)] [] = some (kI (k : Int), []) ∧ k < 15 := by
 obtain ⟨k, h1, h2⟩ := wi_nat z 15 (by decide)
 exact ⟨k, by rw [← h1]; exact within_ok z 15 (by decide) (by decide), h2⟩
theorem sign_props : ∀ x ∈ signsM, ∃ c t, x = c :: t ∧ x.length ≤ 2 ∧ ((c.toNat : Int) = 61 ↔ x = [61]) := by
 intro x hx
 simp only [signsM, List.mem_cons, List.not_mem_nil, or_false] at hx
 rcases hx with h | h | h | h | h | h | h | h | h | h | h | h | h | h | h <;> (subst h; exact ⟨_, _, rfl, by decide, by decide⟩)
theorem getLast_idx (m : List (List UInt8)) (hm : m ≠ []) : ∃ y, m.getLast? = some y ∧ m[m.length - 1]? = some y := by
 refine ⟨m.getLast hm, by simp [List.getLast?_eq_some_getLast hm], ?_⟩
 rw [List.getLast_eq_getElem]
 have : 0 < m.length := by cases m with | nil => exact absurd rfl hm | cons _ _ => simp
 simp [show m.length - 1 < m.length by omega]
theorem dropLast_splice (m : List (List UInt8)) (hm : m ≠ []) (y : List UInt8) : splice (m.map fun s => Cell.p (.str s)) (m.length - 1) (Comp.c (.p (.str y))).cells = (m.dropLast ++ [y]).map fun s => Cell.p (.str s) := by
 have : 0 < m.length := by cases m with | nil => exact absurd rfl hm | cons _ _ => simp
 unfold splice
 show (List.map _ m).take (m.length - 1) ++ [Cell.p (.str y)] ++ (List.map _ m).drop (m.length - 1 + 1) = _
 rw [List.drop_eq_nil_of_le (by simp; omega), List.append_nil, ← List.map_take, ← List.dropLast_eq_take]
 simp
/-- One round. -/
theorem sign_step (x0 : TVal) (i : Nat) (hi : i < 50) (l : List (List UInt8)) (hl : ∀ x ∈ l, x ∈ signsM) (hll : l.length ≤ 50) (v : Cell) (h : Heap) (G : HG 1 1 v (strRows (mergeM l)) h) (H : HS h) (k : Nat) (hk : k < 15) (hml : (mergeM l).length ≤ 100)
  (X : Res1) (hX : ∀ (x : List UInt8) (v' : Cell) (h' : Heap), x ∈ signsM → HG 1 1 v' (strRows (mergeM (l ++ [x]))) h' → HS h' → lim tab.get S 7 0 2 [x0, someV, kS (l ++ [x]).flatten, .v (.c v'), kI (i : Int)] h' = X) :
  (viaddr 1 someV (kI (k : Int)) h fun x33 h => vload false 1 x33 h fun x34 h =>
   vlen (orc S (lim tab.get S)) 2 (.v (.c v)) h 36 fun x36 h =>
   vbin .gtr 0 x36 (kI 0) h fun x37 h =>
   vguard x37 true (fun kk => kk (.v (.c v)) h) h fun x39 h =>
   vguard x37 true (fun kk => kk (.v (.c v)) h) h fun x40 h =>
   vguard x37 true (fun kk => vlen (orc S (lim tab.get S)) 2 x40 h 41 kk) h fun x41 h =>
   vguard x37 true (fun kk => vbin .sub 0 x41 (kI 1) h kk) h fun x42 h =>
   vguard x37 true (fun kk => viaddr 1 x39 x42 h kk) h fun x43 h =>
   vguard x37 true (fun kk => vload false 1 x43 h kk) h fun x44 h =>
   vguard x37 true (fun kk => vbin .eql 0 x44 (kS [58]) h kk) h fun x45 h =>
   vop (orc S (lim tab.get S)) (.pick (.k x37) (.k x45) (.k (kB false))) h 46 fun x46 h =>
   vguard x46 true (fun kk => kk x34 h) h fun x48 h =>
   vguard x46 true (fun kk => vindex x48 (kI 0) h kk) h fun x49 h =>
   vguard x46 true (fun kk => vbin .eql 0 x49 (.v (.c (.p (.int .u8 61)))) h kk) h fun x50 h =>
   vop (orc S (lim tab.get S)) (.pick (.k x46) (.k x50) (.k (kB false))) h 51 fun x51 h =>
   vif x51 (
   vlen (orc S (lim tab.get S)) 2 (.v (.c v)) h 54 fun x54 h =>
   vbin .sub 0 x54 (kI 1) h fun x55 h =>
   viaddr 1 (.v (.c v)) x55 h fun x56 h =>
   vstore 1 x56 (kS [58, 61]) h fun _ h =>
   vbin .add 0 (kS l.flatten) x34 h fun x59 h =>
   lim tab.get S 7 0 2 [x0, someV, x59, .v (.c v), kI (i : Int)] h)
   (vbin .add 0 (kS l.flatten) x34 h fun x62 h =>
   vop (orc S (lim tab.get S)) (.bslice 1 1 [(.p (.str []))] [(0, (.k x34))] true) h 65 fun x65 h =>
   vop (orc S (lim tab.get S)) (.append 1 16 true (.k (.v (.c v))) (.k x65)) h 66 fun x66 h =>
   lim tab.get S 7 0 2 [x0, someV, x62, x66, kI (i : Int)] h)) = X := by
 obtain ⟨x, hx⟩ : ∃ x, signsM[k]? = some x := ⟨signsM[k]'(by simpa [signsM] using hk), by simp⟩
 have hxm : x ∈ signsM := List.mem_of_getElem? hx
 obtain ⟨c, t, hct, hx2, h61⟩ := sign_props x hxm
 have hfl : l.flatten.length ≤ 100 := by
  have : ∀ (l : List (List UInt8)), (∀ x ∈ l, x ∈ signsM) → l.flatten.length ≤ 2 * l.length := by
   intro l
   induction l with
   | nil => intro _; exact Nat.le_refl _
   | cons y l ih =>
    intro h
    obtain ⟨_, _, _, q, _⟩ := sign_props y (h y (by simp))
    have := ih (fun z hz => h z (by simp [hz]))
    rw [List.flatten_cons, List.length_append, List.length_cons]; omega
  have := this l hl
  omega
 have hsn : (l ++ [x]).flatten = l.flatten ++ x := by simp
 have app : (mergeM (l ++ [x]) = mergeM l ++ [x]) → (vbin .add 0 (kS l.flatten) (kS x) h fun x62 h =>
   vop (orc S (lim tab.get S)) (.bslice 1 1 [(.p (.str []))] [(0, (.k (kS x)))] true) h 65 fun x65 h =>
   vop (orc S (lim tab.get S)) (.append 1 16 true (.k (.v (.c v))) (.k x65)) h 66 fun x66 h =>
   lim tab.get S 7 0 2 [x0, someV, x62, x66, kI (i : Int)] h) = X := by
  intro hm
  rw [vbin_sadd _ _ _ (by omega)]
  obtain ⟨v', h', G', e', K'⟩ := vappend_one (by' := 16) (d1 := 65) (row := [.str x]) (op := .bslice 1 1 [(.p (.str []))] [(0, (.k (kS x)))] true) G (by decide) (by intro r hr; simp [strRows] at hr; obtain ⟨_, _, rfl⟩ := hr; rfl) rfl (by rw [strRows_len]; omega) rfl
  refine (e' _ _ _ _).trans ?_
  rw [← hsn]
  refine hX x v' h' hxm ?_ (K' 0 _ (by decide) H)
  rw [hm]
  have : strRows (mergeM l ++ [x]) = strRows (mergeM l) ++ [[.str x]] := by simp [strRows]
  rw [this]; exact G'
 have hmg := mergeM_snoc x l.length l (Nat.le_refl _)
 rw [vat_heap H hx (by omega), vlen_hg G, strRows_len, vbin_gtr]
 by_cases hm : mergeM l = []
 ·rw [decide_eq_false (by rw [hm]; simp)]
  simp only [vguard_ft, vpick_f, vguard_undef, vif_f]
  refine app ?_
  rw [hmg]; unfold stepM; rw [hm]; simp
 ·have hpos : 0 < (mergeM l).length := by cases hq : mergeM l with | nil => exact absurd hq hm | cons _ _ => simp
  obtain ⟨y, y1, y2⟩ := getLast_idx (mergeM l) hm
  have esub : IntKind.i64.wrap (((mergeM l).length : Int) - 1) = (((mergeM l).length - 1 : Nat) : Int) := by rw [wrap_i64 _ (by omega) (by omega)]; omega
  rw [decide_eq_true (by omega)]
  simp only [vguard_tt]
  rw [vlen_hg G, strRows_len, vbin_sub, esub, hg_at G y2, vbin_seql, vpick_t]
  by_cases hy : y = [58]
  ·rw [decide_eq_true hy]
   simp only [vguard_tt]
   rw [show (kI 0 : TVal) = kI ((0 : Nat) : Int) from rfl, vindex_s x 0 c (by rw [hct]; rfl), vbin_eql, vpick_t]
   by_cases hc : (c.toNat : Int) = 61
   ·have hx61 := h61.1 hc
    rw [decide_eq_true hc, vif_t, vlen_hg G, strRows_len, vbin_sub, esub]
    rcases G with ⟨gb, ⟨ge, rfl⟩ | ⟨ge, n, gn, rfl, gh⟩⟩
    ·have := congrArg List.length ge; rw [strRows_len, List.length_nil] at this; omega
    ·rw [strRows_len, viaddr_sref (O := fun _ _ _ => none) 1 (.im n) 0 _ none _ (by omega)]
     have gh' := gh
     rw [strRows_flat] at gh'
     rw [vstore_ptr 1 (.im n) _ 0 _ (.c (.p (.str [58, 61]))) gh' (Nat.zero_le _) rfl (by simp; omega), vbin_sadd _ _ _ (by omega), ← hsn]
     have hnl := Heap.get_lt gh
     refine hX x _ _ hxm ⟨by rw [Heap.put_len]; exact gb, .inr ⟨?_, n, gn, ?_, ?_⟩⟩ ?_
     ·intro e; have := congrArg List.length e; rw [strRows_len, hmg] at this; unfold stepM at this; rw [if_pos ⟨by rw [y1, hy], hx61⟩] at this; simp at this
     ·rw [strRows_len, hmg]; unfold stepM; rw [if_pos ⟨by rw [y1, hy], hx61⟩]
      congr 1; simp; omega
     ·rw [Heap.get_put_eq _ hnl (fun e => by cases e), hmg]
      unfold stepM; rw [if_pos ⟨by rw [y1, hy], hx61⟩, strRows_flat]
      have := dropLast_splice (mergeM l) hm [58, 61]
      rw [show 0 + ((mergeM l).length - 1) * 1 = (mergeM l).length - 1 by omega, this]
     ·show Heap.get _ _ = _
      rw [Heap.get_put_ne _ _ (show n ≠ 0 by omega)]; exact H
   ·rw [decide_eq_false hc, vif_f]
    refine app ?_
    rw [hmg]; unfold stepM; rw [if_neg (fun q => hc (h61.2 q.2))]
  ·rw [decide_eq_false hy]
   simp only [vguard_ft, vpick_f, vif_f]
   refine app ?_
   rw [hmg]; unfold stepM; rw [if_neg (fun q => hy (by have := q.1; rw [y1] at this; exact Option.some.inj this))]
theorem mergeM_len : ∀ (n : Nat) (l : List (List UInt8)), l.length ≤ n → (mergeM l).length ≤ l.length := by
 intro n
 induction n with
 | zero => intro l hl; obtain rfl : l = [] := List.length_eq_zero_iff.1 (by omega); exact Nat.le_refl _
 | succ n ih =>
  intro l hl
  match l, hl with
  | [], _ => exact Nat.le_refl _
  | [a], _ => exact Nat.le_refl _
  | a :: b :: r, hl =>
   rw [mergeM]
   have h1 := ih r (by simp at hl; omega)
   have h2 := ih (b :: r) (by simp at hl ⊢; omega)
   split
   ·simp only [List.length_cons]; omega
   ·simp only [List.length_cons] at h2 ⊢; omega
theorem placeM_get : ∀ (m : List (List UInt8)) (j i : Nat) (x : List UInt8), m[i]? = some x → (placeM m j)[i]? = some ⟨4, x, 0, ((j + (m.take i).flatten.length : Nat) : Int)⟩ := by
 intro m
 induction m with
 | nil => intro j i x h; simp at h
 | cons a m ih =>
  intro j i x h
  cases i with
  | zero => simp at h; subst h; simp [placeM]
  | succ i =>
   have := ih (j + a.length) i x (by simpa using h)
   show (placeM m (j + a.length))[i]? = _
   rw [this]
   simp only [List.take_succ_cons, List.flatten_cons, List.length_append]
   congr 3; omega
theorem sign_cmp (m : List (List UInt8)) (v : Cell) (h : Heap) (G : HG 1 1 v (strRows m) h) (hm : m.length ≤ 100) (hf : m.flatten.length ≤ 1000) : ∀ (n i : Nat), m.length - i ≤ n → i ≤ m.length →
  lim tab.get S 7 0 4 [.v (.c v), .v (.c (.p (growP 4 ((placeM m 0).map Tok.row)))), kI (((m.take i).flatten.length : Nat) : Int), kI (i : Int)] h = some (kB true, []) := by
 intro n
 have hlen : ((placeM m 0).map Tok.row).length = m.length := by rw [List.length_map, place_len]
 have done : ∀ i, i = m.length → lim tab.get S 7 0 4 [.v (.c v), .v (.c (.p (growP 4 ((placeM m 0).map Tok.row)))), kI (((m.take i).flatten.length : Nat) : Int), kI (i : Int)] h = some (kB true, []) := by
  intro i hi
  subst hi
  rw [w7_4, b7_4, vlen_growP, hlen, vbin_lss, decide_eq_false (by omega), vif_f, tcomp_c, vfin_pure _ _ rfl]; rfl
 induction n with
 | zero => intro i h1 h2; exact done i (by omega)
 | succ n ih =>
  intro i h1 h2
  by_cases hi : i < m.length
  ·obtain ⟨x, hx⟩ : ∃ x, m[i]? = some x := ⟨m[i], by simp [hi]⟩
   have hp := placeM_get m 0 i x hx
   rw [Nat.zero_add] at hp
   have hr : ((placeM m 0).map Tok.row)[i]? = some [.int .i64 4, .str x, .int .i64 0, .int .i64 (((m.take i).flatten.length : Nat) : Int)] := by rw [List.getElem?_map, hp]; rfl
   have htk : (m.take (i + 1)).flatten = (m.take i).flatten ++ x := by
    obtain ⟨q1, q2⟩ := List.getElem?_eq_some_iff.1 hx
    rw [List.take_succ_eq_append_getElem q1, q2]; simp
   have hle : (m.take (i + 1)).flatten.length ≤ 1000 := by
    have : m.flatten = (m.take (i + 1)).flatten ++ (m.drop (i + 1)).flatten := by rw [← List.flatten_append, List.take_append_drop]
    have := congrArg List.length this
    rw [List.length_append] at this
    omega
   have hadd : (m.take (i + 1)).flatten.length = (m.take i).flatten.length + x.length := by rw [htk, List.length_append]
   have next := ih (i + 1) (by omega) (by omega)
   rw [w7_4, b7_4, vlen_growP, hlen, vbin_lss, decide_eq_true (by omega), vif_t, viaddr_growP 4 _ i _ hr, vfaddr_pptr, vload_pptr _ _ _ (.int .i64 4) rfl, vbin_neq, decide_eq_true rfl]
   simp only [Bool.not_true, vguard_ff]
   rw [viaddr_growP 4 _ i _ hr, vfaddr_pptr, vload_pptr _ _ _ (.str x) rfl, hg_at G hx, vbin_sneq, decide_eq_true rfl, vpick_f]
   simp only [Bool.not_true, vguard_ff]
   rw [viaddr_growP 4 _ i _ hr, vfaddr_pptr, vload_pptr _ _ _ (.int .i64 (((m.take i).flatten.length : Nat) : Int)) rfl, vbin_neq, decide_eq_true rfl, vpick_f]
   simp only [Bool.not_true, vif_f]
   rw [hg_at G hx, vlen_s, vbin_add, wrap_i64 _ (by omega) (by omega), vbin_add, wrap_i64 _ (by omega) (by omega), show ((i : Int) + 1) = ((i + 1 : Nat) : Int) by omega, show ((((m.take i).flatten.length : Nat) : Int) + (x.length : Int)) = (((m.take (i + 1)).flatten.length : Nat) : Int) by omega]
   exact next
  ·exact done i (by omega)
theorem flat_bound : ∀ (l : List (List UInt8)), (∀ x ∈ l, x ∈ signsM) → l.flatten.length ≤ 2 * l.length := by
 intro l
 induction l with
 | nil => intro _; exact Nat.le_refl _
 | cons y l ih =>
  intro h
  obtain ⟨_, _, _, q, _⟩ := sign_props y (h y (by simp))
  have := ih (fun z hz => h z (by simp [hz]))
  rw [List.flatten_cons, List.length_append, List.length_cons]; omega
theorem merge_flat : ∀ (n : Nat) (l : List (List UInt8)), l.length ≤ n → (mergeM l).flatten = l.flatten := by
 intro n
 induction n with
 | zero => intro l hl; obtain rfl : l = [] := List.length_eq_zero_iff.1 (by omega); rfl
 | succ n ih =>
  intro l hl
  match l, hl with
  | [], _ => rfl
  | [a], _ => rfl
  | a :: b :: r, hl =>
   rw [mergeM]
   have h1 := ih r (by simp at hl; omega)
   have h2 := ih (b :: r) (by simp at hl ⊢; omega)
   split
   ·rename_i e; rw [e.1, e.2]; simp [h1]
   ·rw [List.flatten_cons, h2]; simp
theorem signs_end (l : List (List UInt8)) (hl : ∀ x ∈ l, x ∈ signsM) (hll : l.length ≤ 50) (v : Cell) (h : Heap) (G : HG 1 1 v (strRows (mergeM l)) h) : lim tab.get S 7 0 3 [kS l.flatten, .v (.c v)] h = some (kB true, []) := by
 have hf := flat_bound l hl
 have hm := mergeM_len _ l (Nat.le_refl _)
 have hmf := merge_flat _ l (Nat.le_refl _)
 have ht : tokensM l.flatten = .ok (placeM (mergeM l) 0) := by
  unfold tokensM
  rw [if_neg (by omega), toks_signs _ l (Nat.le_refl _) hl _ 0 [] (by omega)]
  show toksFin (.ok _) = _
  unfold toksFin
  dsimp only
  rw [List.nil_append, if_neg (by rw [place_len]; omega)]
 rw [w7_3, b7_3, vcall_pure 16 _ _ rfl (tokens_ok _) (toksVal_p _), ht, show toksVal (.ok (placeM (mergeM l) 0)) = .tup [.c (.p (growP 4 ((placeM (mergeM l) 0).map Tok.row))), .c (.p (.int .i64 0))] from rfl, vext_tup _ 0 _ rfl, vext_tup _ 1 _ rfl, vbin_neq, decide_eq_true rfl]
 simp only [Bool.not_true, vguard_ff]
 rw [vlen_growP, vlen_hg G, strRows_len, vbin_neq, decide_eq_true (by rw [List.length_map, place_len]), vpick_f]
 simp only [Bool.not_true, vif_f]
 exact sign_cmp (mergeM l) v h G (by omega) (by rw [hmf]; omega) _ 0 (Nat.le_refl _) (by omega)
theorem sign_loop (o : Option (List Int)) : ∀ (m i : Nat) (l : List (List UInt8)) (v : Cell) (h : Heap), 50 - i ≤ m → i ≤ 50 → l.length = i → (∀ x ∈ l, x ∈ signsM) → HG 1 1 v (strRows (mergeM l)) h → HS h →
  lim tab.get S 7 0 1 [.v (.c (.p (intsP .i64 o))), someV, kS l.flatten, .v (.c v), kI (i : Int)] h = some (kB true, []) := by
 intro m
 induction m with
 | zero =>
  intro i l v h hm hi hl hls G H
  have e1 : decide ((i : Int) < 50) = false := decide_eq_false (by omega)
  rw [w7_1, b7_1, vlen_ints, vbin_lss]
  by_cases hq : (i : Int) < ((intsL o).length : Int)
  ·rw [decide_eq_true hq]
   simp only [vguard_tt, vbin_lss, e1, vpick_t, vif_f]
   exact signs_end l hls (by omega) v h G
  ·rw [decide_eq_false hq]
   simp only [vguard_ft, vpick_f, vif_f]
   exact signs_end l hls (by omega) v h G
 | succ m ih =>
  intro i l v h hm hi hl hls G H
  rw [w7_1, b7_1, vlen_ints, vbin_lss]
  by_cases hq : (i : Int) < ((intsL o).length : Int)
  ·rw [decide_eq_true hq]
   simp only [vguard_tt, vbin_lss, vpick_t]
   by_cases hl2 : i < 50
   ·obtain ⟨z, hz⟩ : ∃ z, (intsL o)[i]? = some z := ⟨(intsL o)[i], by simp [show i < (intsL o).length by omega]⟩
    obtain ⟨k, k1, k2⟩ := within15 z
    have hml := mergeM_len _ l (Nat.le_refl _)
    rw [decide_eq_true (show (i : Int) < 50 by omega), vif_t, viaddr_ints _ _ _ _ hz, vload_pptr _ _ _ (.int .i64 z) rfl, vlen_sref, vcall_pure 15 _ _ rfl k1 rfl]
    refine sign_step (.v (.c (.p (intsP .i64 o)))) i hl2 l hls (by omega) v h G H k k2 (by omega) _ fun x v' h' hx G' H' => ?_
    rw [w7_2, b7_2, vbin_add, wrap_i64 _ (by omega) (by omega), show ((i : Int) + 1) = ((i + 1 : Nat) : Int) by omega]
    exact ih (i + 1) (l ++ [x]) v' h' (by omega) (by omega) (by simp; omega) (by
     intro y hy
     rcases List.mem_append.1 hy with hy | hy
     ·exact hls y hy
     ·simp at hy; subst hy; exact hx) G' H'
   ·rw [decide_eq_false (show ¬ (i : Int) < 50 by omega), vif_f]
    exact signs_end l hls (by omega) v h G
  ·rw [decide_eq_false hq]
   simp only [vguard_ft, vpick_f, vif_f]
   exact signs_end l hls (by omega) v h G
/-- THE LAW. -/
theorem signs_law (o : Option (List Int)) : Om 7 [.v (.c (.p (intsP .i64 o)))] [] = some (kB true, []) := by
 refine (orc_none rfl).trans ?_
 show lim tab.get S 7 0 0 [.v (.c (.p (intsP .i64 o)))] h0 = _
 rw [w7_0, b7_0, vcall_pure 12 _ _ rfl known_ok rfl, vnot, vif_kB, if_neg (by decide)]
 refine (vpush _ (.cells (signsM.map fun s => .p (.str s)) 0) (fun r => .v (.c (.sref r 0 15 (some 15) 1))) ?_).trans ?_
 ·rfl
 refine sign_loop o 50 0 [] (.p .nilslice) _ (by decide) (by decide) rfl (by intro x hx; cases hx) (HG.nil 1 1 _ (by rw [Heap.push_len]; simp)) ?_
 exact Heap.get_push_eq h0 (fun e => by cases e)
end Go.Proofs.YtljhpmggifjigaaDoor.Ab
