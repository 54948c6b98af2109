/- ScanBlanks, whatever the input: blanks between words change nothing but places. -/
import Derived.Test.YtljhpmggifjigaaDoorScBd
set_option linter.all false
set_option linter.unusedVariables false
set_option linter.unusedSimpArgs false
set_option maxRecDepth 100000
namespace Go.Proofs.YtljhpmggifjigaaDoor.Ab
open Go Go.AI
section
variable {β : Type} {O : Oracle} {h : Heap} {d : Nat} {k : TVal → Heap → Option β}
theorem vlen_growP (sz : Nat) (rows : List (List PVal)) : vlen O 2 (.v (.c (.p (growP sz rows)))) h d k = k (kI (rows.length : Int)) h := by
 cases rows with
 | nil => rfl
 | cons r rows => exact vlen_sl _ _ _
theorem viaddr_growP (sz : Nat) (rows : List (List PVal)) (n : Nat) (row : List PVal) (hr : rows[n]? = some row) : viaddr sz (.v (.c (.p (growP sz rows)))) (kI (n : Int)) h k = k (.v (.c (.p (.pptr row 0)))) h := by
 cases rows with
 | nil => simp at hr
 | cons r rows => exact viaddr_sl sz false _ n row hr
end
theorem within40 (z : Int) : ∃ k : Nat, Om 15 [kI z, kI 40] [] = some (kI (k : Int), []) ∧ k < 40 := by
 obtain ⟨k, h1, h2⟩ := wi_nat z 40 (by decide)
 exact ⟨k, by rw [← h1]; exact within_ok z 40 (by decide) (by decide), h2⟩
theorem within3 (z : Int) : ∃ k : Nat, Om 15 [kI z, kI 3] [] = some (kI (k : Int), []) ∧ k < 3 := by
 obtain ⟨k, h1, h2⟩ := wi_nat z 3 (by decide)
 exact ⟨k, by rw [← h1]; exact within_ok z 3 (by decide) (by decide), h2⟩
theorem piece_ok (z : Int) : ∃ x, x ∈ pieceM ∧ Om 13 [kI z] [] = some (kS x.1, []) := by
 obtain ⟨k, h1, h2⟩ := within40 z
 obtain ⟨x, hx⟩ : ∃ x, pieceM[k]? = some x := ⟨pieceM[k]'(by simpa [pieceM] using h2), by simp⟩
 refine ⟨x, List.mem_of_getElem? hx, ?_⟩
 refine (orc_none rfl).trans ?_
 show lim tab.get S 13 0 0 [kI z] h0 = _
 rw [w13_0, b13_0]
 refine (vplan _ (kSl 1 true (pieceM.map fun x => [.str x.1])) ?_).trans ?_
 ·rfl
 rw [vlen_sl, show (((pieceM.map fun x => [PVal.str x.1]).length : Nat) : Int) = 40 from rfl, vcall_pure 15 _ _ rfl h1 rfl, viaddr_sl 1 true _ k [.str x.1] (by rw [List.getElem?_map, hx]; rfl), vload_pptr _ _ _ (.str x.1) rfl, tcomp_c, vfin_pure _ _ rfl]
 rfl
/-- What the document's words say of a piece: is there an error? -/
noncomputable def isErrR (r : Res1) (x : Bool) : Bool := match r with
 | some (.tup [.c (.p _), .c (.p (.int .i64 e))], []) => (beqI e 0) == x
 | _ => false
theorem isErrR_inv {r : Res1} {x : Bool} (h : isErrR r x = true) : ∃ (v : PVal) (e : Int), r = some (.tup [.c (.p v), .c (.p (.int .i64 e))], []) ∧ decide (e = 0) = x := by
 unfold isErrR at h
 split at h
 ·rename_i v e
  rw [beqI_eq] at h
  exact ⟨v, e, rfl, eq_of_beq h⟩
 ·cases h
theorem ref_all : (pieceM.all fun x => isErrR (machU blks.get S 400 14 0 0 [kS x.1] h0) x.2.isSome) = true := by kernel_rfl
theorem ref_piece (x : List UInt8 × Option (List Tok)) (hx : x ∈ pieceM) : ∃ (v : PVal) (e : Int), Om 14 [kS x.1] [] = some (.tup [.c (.p v), .c (.p (.int .i64 e))], []) ∧ decide (e = 0) = x.2.isSome := by
 obtain ⟨v, e, h1, h2⟩ := isErrR_inv (List.all_eq_true.1 ref_all x hx)
 exact ⟨v, e, (orc_none rfl).trans (machU_le blks_ok 400 14 0 0 _ _ _ h1), h2⟩
def gapM : List (List UInt8) := [[], [32, 32], [9, 13, 10]]
theorem gap_list : plan .nil (.bslice 1 3 [(.p (.str []))] [(0, (.k (kS []))), (1, (.k (kS [32, 32]))), (2, (.k (kS [9, 13, 10])))] false) = some (.pure (kSl 1 true (gapM.map fun s => [.str s]))) := rfl
theorem gap_blank : ∀ g ∈ gapM, (∀ b ∈ g, isBlank b.toNat = true) ∧ g.length ≤ 3 := by
 intro g hg
 simp only [gapM, List.mem_cons, List.not_mem_nil, or_false] at hg
 rcases hg with h | h | h <;> subst h
 ·exact ⟨by simp, by decide⟩
 ·exact ⟨by intro b hb; simp at hb; subst hb; rfl, by decide⟩
 ·exact ⟨by intro b hb; simp at hb; rcases hb with rfl | rfl | rfl <;> rfl, by decide⟩
theorem segA_snoc (l : List Pc) (x : Pc) : rowS (segA (l ++ [x])) = rowS (segA l) ++ x.p ++ [32] := by
 unfold segA; rw [List.map_append, rowS_append]; simp [rowS]
theorem segB_snoc (l : List Pc) (x : Pc) : rowS (segB (l ++ [x])) = rowS (segB l) ++ [10] ++ x.p ++ x.g := by
 unfold segB; rw [List.flatMap_append, rowS_append]; simp [rowS]
theorem blank_cmp (X Y : List Tok) (hX : X.length ≤ 1000) (hXY : X.map bare = Y.map bare) (hY : Y.Pairwise fun a b => a.pos < b.pos) : ∀ (m i : Nat) (h : Heap), X.length - i ≤ m → i ≤ X.length →
  lim tab.get S 3 0 4 [.v (.c (.p (growP 4 (X.map Tok.row)))), .v (.c (.p (growP 4 (Y.map Tok.row)))), kI (i : Int)] h = some (kB true, []) := by
 intro m
 have hlen : X.length = Y.length := by have := congrArg List.length hXY; simpa using this
 have hl : (X.map Tok.row).length = X.length := by simp
 have done : ∀ (i : Nat) (h : Heap), i = X.length → lim tab.get S 3 0 4 [.v (.c (.p (growP 4 (X.map Tok.row)))), .v (.c (.p (growP 4 (Y.map Tok.row)))), kI (i : Int)] h = some (kB true, []) := by
  intro i h hi
  subst hi
  rw [w3_4, b3_4, vlen_growP, hl, vbin_lss, decide_eq_false (by omega), vif_f, tcomp_c, vfin_pure _ _ rfl]; rfl
 induction m with
 | zero => intro i h h1 h2; exact done i h (by omega)
 | succ m ih =>
  intro i h h1 h2
  by_cases hi : i < X.length
  ·have hx : X[i]? = some X[i] := by simp [hi]
   have hy : Y[i]? = some (Y[i]'(by omega)) := by simp [show i < Y.length by omega]
   generalize X[i] = x at hx
   generalize Y[i]'(by omega) = y at hy
   have hb : bare x = bare y := by
    have e1 : (X.map bare)[i]? = some (bare x) := by rw [List.getElem?_map, hx]; rfl
    have e2 : (Y.map bare)[i]? = some (bare y) := by rw [List.getElem?_map, hy]; rfl
    rw [hXY, e2] at e1
    exact (Option.some.inj e1).symm
   unfold bare at hb
   simp only [Prod.mk.injEq] at hb
   obtain ⟨b1, b2, b3⟩ := hb
   have rx : (X.map Tok.row)[i]? = some x.row := by rw [List.getElem?_map, hx]; rfl
   have ry : (Y.map Tok.row)[i]? = some y.row := by rw [List.getElem?_map, hy]; rfl
   have next := ih (i + 1) h (by omega) (by omega)
   rw [w3_4, b3_4, vlen_growP, hl, vbin_lss, decide_eq_true (by omega), vif_t,
    viaddr_growP 4 _ i _ rx, vfaddr_pptr, vload_pptr _ _ _ (.int .i64 x.kind) rfl, viaddr_growP 4 _ i _ ry, vfaddr_pptr, vload_pptr _ _ _ (.int .i64 y.kind) rfl, vbin_neq, decide_eq_true b1]
   simp only [Bool.not_true, vguard_ff]
   rw [viaddr_growP 4 _ i _ rx, vfaddr_pptr, vload_pptr _ _ _ (.str x.text) rfl, viaddr_growP 4 _ i _ ry, vfaddr_pptr, vload_pptr _ _ _ (.str y.text) rfl, vbin_sneq, decide_eq_true b2, vpick_f]
   simp only [Bool.not_true, vguard_ff]
   rw [viaddr_growP 4 _ i _ rx, vfaddr_pptr, vload_pptr _ _ _ (.int .i64 x.n) rfl, viaddr_growP 4 _ i _ ry, vfaddr_pptr, vload_pptr _ _ _ (.int .i64 y.n) rfl, vbin_neq, decide_eq_true b3, vpick_f]
   simp only [Bool.not_true, vguard_ff]
   rw [vbin_gtr]
   by_cases h0 : i = 0
   ·rw [decide_eq_false (show ¬ (0 : Int) < (i : Int) by omega)]
    simp only [vguard_ft, vguard_ff, vguard_undef, vpick_f, vif_f]
    rw [vbin_add, wrap_i64 _ (by have := h2; omega) (by omega), show ((i : Int) + 1) = ((i + 1 : Nat) : Int) by omega]
    exact next
   ·rw [decide_eq_true (show (0 : Int) < (i : Int) by omega)]
    simp only [vguard_tt, vguard_ff]
    have hz : Y[i - 1]? = some (Y[i - 1]'(by omega)) := by simp [show i - 1 < Y.length by omega]
    have hlt : (Y[i - 1]'(by omega)).pos < y.pos := by
     have := List.pairwise_iff_getElem.1 hY (i - 1) i (by omega) (by omega) (by omega)
     have e : Y[i]'(by omega) = y := by
      obtain ⟨q1, q2⟩ := List.getElem?_eq_some_iff.1 hy
      exact q2
     rwa [e] at this
    generalize Y[i - 1]'(by omega) = z at hz hlt
    have rz : (Y.map Tok.row)[i - 1]? = some z.row := by rw [List.getElem?_map, hz]; rfl
    rw [viaddr_growP 4 _ i _ ry, vfaddr_pptr, vload_pptr _ _ _ (.int .i64 y.pos) rfl, vbin_sub, wrap_i64 _ (by omega) (by omega), show ((i : Int) - 1) = ((i - 1 : Nat) : Int) by omega, viaddr_growP 4 _ (i - 1) _ rz, vfaddr_pptr, vload_pptr _ _ _ (.int .i64 z.pos) rfl, vbin_leq, decide_eq_true hlt]
    simp only [Bool.not_true, vpick_t, vpick_f, vif_f]
    rw [vbin_add, wrap_i64 _ (by omega) (by omega), show ((i : Int) + 1) = ((i + 1 : Nat) : Int) by omega]
    exact next
  ·exact done i h (by omega)
theorem blank_end (l : List Pc) (hl : ∀ x ∈ l, x.Ok) (h30 : l.length ≤ 30) (h : Heap) : lim tab.get S 3 0 3 [kS (rowS (segA l)), kS (rowS (segB l))] h = some (kB true, []) := by
 obtain ⟨e1, e2, e3, e4⟩ := blanks_toks l hl h30
 have hA := rowA_ok l hl
 have hB := rowB_ok l hl
 have n1 : (rowT (segA l) 0).length ≤ 60 := by rw [rowT_len]; omega
 have n2 : (rowT (segA l) 0).length = (rowT (segB l) 0).length := by have := congrArg List.length e3; simpa using this
 rw [w3_3, b3_3, vcall_pure 16 _ _ rfl (tokens_ok _) (toksVal_p _), e1, show toksVal (.ok (rowT (segA l) 0)) = .tup [.c (.p (growP 4 ((rowT (segA l) 0).map Tok.row))), .c (.p (.int .i64 0))] from rfl, vext_tup _ 0 _ rfl, vext_tup _ 1 _ rfl,
  vcall_pure 16 _ _ rfl (tokens_ok _) (toksVal_p _), e2, show toksVal (.ok (rowT (segB l) 0)) = .tup [.c (.p (growP 4 ((rowT (segB l) 0).map Tok.row))), .c (.p (.int .i64 0))] from rfl, vext_tup _ 0 _ rfl, vext_tup _ 1 _ rfl, vbin_neq, decide_eq_true rfl]
 simp only [Bool.not_true, vguard_ff]
 rw [vlen_growP, vlen_growP, vbin_neq, decide_eq_true (by simp only [List.length_map]; omega), vpick_f]
 simp only [Bool.not_true, vif_f]
 exact blank_cmp _ _ (by omega) e3 e4 _ 0 h (Nat.le_refl _) (by omega)
theorem blank_loop3 (o g : Option (List Int)) : ∀ (m i : Nat) (l : List Pc) (h : Heap), 30 - i ≤ m → i ≤ 30 → l.length = i → (∀ x ∈ l, x.Ok) →
  lim tab.get S 3 0 1 [.v (.c (.p (intsP .i64 o))), .v (.c (.p (intsP .i64 g))), kS (rowS (segA l)), kS (rowS (segB l)), kI (i : Int)] h = some (kB true, []) := by
 intro m
 induction m with
 | zero =>
  intro i l h hm hi hl hok
  have e1 : decide ((i : Int) < 30) = false := decide_eq_false (by omega)
  rw [w3_1, b3_1, vlen_ints, vbin_lss]
  by_cases hq : (i : Int) < ((intsL o).length : Int)
  ·rw [decide_eq_true hq]
   simp only [vguard_tt, vbin_lss, e1, vpick_t, vif_f]
   exact blank_end l hok (by omega) h
  ·rw [decide_eq_false hq]
   simp only [vguard_ft, vpick_f, vif_f]
   exact blank_end l hok (by omega) h
 | succ m ih =>
  intro i l h hm hi hl hok
  rw [w3_1, b3_1, vlen_ints, vbin_lss]
  by_cases hq : (i : Int) < ((intsL o).length : Int)
  ·rw [decide_eq_true hq]
   simp only [vguard_tt, vbin_lss, vpick_t]
   by_cases hl2 : i < 30
   ·obtain ⟨z, hz⟩ : ∃ z, (intsL o)[i]? = some z := ⟨(intsL o)[i], by simp [show i < (intsL o).length by omega]⟩
    obtain ⟨x, x1, x2⟩ := piece_ok z
    obtain ⟨v, e, r1, r2⟩ := ref_piece x x1
    have hA := (rowA_ok l hok).2.2
    have hB := (rowB_ok l hok).2.2
    have hx22 : ∀ y ∈ pieceM, y.1.length ≤ 22 := by
     have h2 : (pieceM.all fun y => decide (y.1.length ≤ 22)) = true := by decide
     intro y hy
     have := List.all_eq_true.1 h2 y hy
     simpa using this
    have hxl := hx22 x x1
    rw [decide_eq_true (show (i : Int) < 30 by omega), vif_t, viaddr_ints _ _ _ _ hz, vload_pptr _ _ _ (.int .i64 z) rfl, vcall_pure 13 _ _ rfl x2 rfl, vcall_pure 14 _ _ rfl r1 rfl, vext_tup _ 0 _ rfl, vext_tup _ 1 _ rfl, vbin_neq, r2]
    cases hts : x.2 with
    | none =>
     rw [show (!(none : Option (List Tok)).isSome) = true from rfl, vif_t, tcomp_c, vfin_pure _ _ rfl]; rfl
    | some ts =>
     obtain ⟨w1, w2⟩ := piece_whole x x1 ts hts
     have fin : ∀ gp ∈ gapM, lim tab.get S 3 0 2 [.v (.c (.p (intsP .i64 o))), .v (.c (.p (intsP .i64 g))), kS (rowS (segA l) ++ x.1 ++ [32]), kS (rowS (segB l) ++ [10] ++ x.1 ++ gp), kI (i : Int)] h = some (kB true, []) := by
      intro gp hg
      obtain ⟨g1, g2⟩ := gap_blank gp hg
      have := ih (i + 1) (l ++ [⟨x.1, ts, gp⟩]) h (by omega) (by omega) (by simp; omega) (by
       intro y hy
       rcases List.mem_append.1 hy with hy | hy
       ·exact hok y hy
       ·simp at hy; subst hy; exact ⟨w1, w2, g1, g2⟩)
      rw [segA_snoc, segB_snoc] at this
      rw [w3_2, b3_2, vbin_add, wrap_i64 _ (by omega) (by omega), show ((i : Int) + 1) = ((i + 1 : Nat) : Int) by omega]
      exact this
     rw [show (!(some ts : Option (List Tok)).isSome) = false from rfl, vif_f, vbin_sadd _ _ _ (by omega), vbin_sadd _ _ _ (by simp only [List.length_append, List.length_cons, List.length_nil]; omega), vbin_sadd _ _ _ (by simp only [List.length_append, List.length_cons, List.length_nil]; omega), vbin_sadd _ _ _ (by simp only [List.length_append, List.length_cons, List.length_nil]; omega), vlen_ints, vbin_lss]
     by_cases hg : (i : Int) < ((intsL g).length : Int)
     ·obtain ⟨y, hy⟩ : ∃ z, (intsL g)[i]? = some z := ⟨(intsL g)[i], by simp [show i < (intsL g).length by omega]⟩
      obtain ⟨k, k1, k2⟩ := within3 y
      obtain ⟨gp, hgp⟩ : ∃ x, gapM[k]? = some x := ⟨gapM[k]'(by simpa [gapM] using k2), by simp⟩
      have hgm := List.mem_of_getElem? hgp
      have hgl := (gap_blank gp hgm).2
      rw [decide_eq_true hg, vif_t, vplan _ _ gap_list, viaddr_ints _ _ _ _ hy, vload_pptr _ _ _ (.int .i64 y) rfl, vcall_pure 15 _ _ rfl k1 rfl, viaddr_sl 1 true _ k [.str gp] (by rw [List.getElem?_map, hgp]; rfl), vload_pptr _ _ _ (.str gp) rfl, vbin_sadd _ _ _ (by simp only [List.length_append, List.length_cons, List.length_nil]; omega)]
      exact fin gp hgm
     ·rw [decide_eq_false hg, vif_f]
      have := fin [] (by decide)
      rw [List.append_nil] at this
      exact this
   ·rw [decide_eq_false (show ¬ (i : Int) < 30 by omega), vif_f]
    exact blank_end l hok (by omega) h
  ·rw [decide_eq_false hq]
   simp only [vguard_ft, vpick_f, vif_f]
   exact blank_end l hok (by omega) h
/-- THE LAW. -/
theorem blanks_law (o g : Option (List Int)) : Om 3 [.v (.c (.p (intsP .i64 o))), .v (.c (.p (intsP .i64 g)))] [] = some (kB true, []) := by
 refine (orc_none rfl).trans ?_
 show lim tab.get S 3 0 0 [.v (.c (.p (intsP .i64 o))), .v (.c (.p (intsP .i64 g)))] h0 = _
 rw [w3_0, b3_0, vcall_pure 12 _ _ rfl known_ok rfl, vnot, vif_kB, if_neg (by decide)]
 exact blank_loop3 o g 30 0 [] h0 (by decide) (by decide) rfl (by intro x hx; cases hx)
end Go.Proofs.YtljhpmggifjigaaDoor.Ab
