/- Words of sources: the contracts of scan's one, Tokens. -/
import Derived.Test.YtnlmlcfipbnpgaaDoorSpC
set_option linter.all false
set_option linter.unusedVariables false
set_option linter.unusedSimpArgs false
set_option maxRecDepth 100000
namespace Go.Proofs.YtnlmlcfipbnpgaaDoor.Ab
open Go Go.AI
/-- Does a number begin here? -/
def numHead : List UInt8 → Bool
 | [] => false
 | c :: t => isDigit c.toNat || (decide (c.toNat = 45) && match t with | [] => false | d :: _ => isDigit d.toNat)
def oneM (s : List UInt8) : One :=
 match s with
 | [] => bad 11
 | c :: _ => if isLetter c.toNat then wordM s else if numHead s then numberM s else if c.toNat = 34 then textM s else signM s
theorem one_ret (r : One) (h : Heap) (cs : List Cell) (hh : h.get (.own 2 1) = some (.cells cs 0)) (hc : cs.length = 4) :
  (vext r.val 0 h fun x13 h => vext r.val 1 h fun x14 h => vext r.val 2 h fun x15 h => vstore 4 (.v (.c (.ptr (.own 2 1) 0))) x13 h fun _ h => vcell true 4 (.v (.c (.ptr (.own 2 1) 0))) h fun c0 => tcomp x14 fun c1 => tcomp x15 fun c2 => vfin true 0 [c0, c1, c2] h) = some (r.val, []) := by
 rw [show r.val = .tup [.agg r.t.cells, .c (.p (.int .i64 r.n)), .c (.p (.int .i64 r.e))] from rfl, vext_tup _ 0 _ rfl, vext_tup _ 1 _ rfl, vext_tup _ 2 _ rfl, store_cell 4 2 1 _ cs _ _ hh (by decide) hc rfl, tcomp_c, tcomp_c, vfin_pure _ _ rfl]
 rfl
theorem one_mid (s : List UInt8) (c : UInt8) (t : List UInt8) (hct : s = c :: t) (hs : s.length ≤ 1073741824) (b : Bool) (h : Heap) (cs : List Cell) (hh : h.get (.own 2 1) = some (.cells cs 0)) (hc : cs.length = 4) :
  lim tab.get S 85 0 1 [kS s, .v (.c (.ptr (.own 2 1) 0)), kU c, kB b] h = some ((if b then numberM s else if c.toNat = 34 then textM s else signM s).val, []) := by
 have hl : 1 ≤ s.length := by rw [hct]; simp
 rw [w85_1, b85_1, vif_kB]
 cases b with
 | true =>
  rw [if_pos rfl, vcall_pure 120 _ _ rfl (number_ok s (by omega)) rfl]
  exact one_ret _ h cs hh hc
 | false =>
  rw [if_neg (by decide), vbin_eql, vif_kB]
  by_cases h1 : c.toNat = 34
  ·rw [if_pos (decide_eq_true (by omega)), vcall_pure 121 _ _ rfl (text_ok s hs hl) rfl]
   simp only [h1, if_true]
   exact one_ret _ h cs hh hc
  ·rw [if_neg (by rw [decide_eq_true_eq]; omega), vcall_pure 122 _ _ rfl (sign_ok s hl) rfl]
   simp only [h1, if_false]
   exact one_ret _ h cs hh hc
theorem one_ok (s : List UInt8) (hs : s.length ≤ 1073741824) (hl : 1 ≤ s.length) : Om 85 [kS s] [] = some ((oneM s).val, []) := by
 obtain ⟨c, t, hct⟩ : ∃ c t, s = c :: t := by cases s with
  | nil => simp at hl
  | cons c t => exact ⟨c, t, rfl⟩
 have hc0 : s[0]? = some c := by rw [hct]; rfl
 refine (orc_none rfl).trans ?_
 show lim tab.get S 85 0 0 [kS s] h0 = _
 rw [w85_0, b85_0, valloc]
 have hh : (h0.own 2 (h0.gen 2 + 1) (.cells [.p (.int .i64 0), .p (.str []), .p (.int .i64 0), .p (.int .i64 0)] 0)).get (.own 2 1) = _ := Heap.own_get h0 2 (h0.gen 2 + 1) (.cells [.p (.int .i64 0), .p (.str []), .p (.int .i64 0), .p (.int .i64 0)] 0) (by decide) (fun e => by cases e)
 generalize (h0.own 2 (h0.gen 2 + 1) (.cells [.p (.int .i64 0), .p (.str []), .p (.int .i64 0), .p (.int .i64 0)] 0)) = h at hh
 rw [show h0.gen 2 + 1 = 1 from rfl]
 have ei : ∀ (k : TVal → Heap → Res1), vindex (kS s) (kI 0) h k = k (kU c) h := fun k => vindex_s s 0 c hc0
 rw [ei, vcall_pure 118 _ _ rfl (letter_ok c) rfl, vif_kB]
 have hO : oneM s = if isLetter c.toNat then wordM s else if numHead s then numberM s else if c.toNat = 34 then textM s else signM s := by rw [hct]; rfl
 rw [hO]
 cases hL : isLetter c.toNat with
 | true =>
  rw [if_pos rfl, vcall_pure 119 _ _ rfl (word_ok s) rfl]
  exact one_ret _ h _ hh rfl
 | false =>
  rw [if_neg (by decide), vcall_pure 107 _ _ rfl (digit_ok c) rfl, vif_kB]
  simp only [Bool.false_eq_true, if_false]
  cases hD : isDigit c.toNat with
  | true =>
   have hN : numHead s = true := by rw [hct]; simp [numHead, hD]
   rw [if_pos rfl, hN]
   exact one_mid s c t hct hs true h _ hh rfl
  | false =>
   rw [if_neg (by decide), vbin_eql]
   by_cases h45 : c.toNat = 45
   ·have e : decide ((c.toNat : Int) = 45) = true := decide_eq_true (by omega)
    simp only [e, vguard_tt, vlen_s, vbin_gtr, vpick_t]
    cases t with
    | nil =>
     have e1 : decide ((1 : Int) < (s.length : Int)) = false := decide_eq_false (by rw [hct]; simp)
     have hN : numHead s = false := by rw [hct]; simp [numHead, hD]
     simp only [e1, vguard_ft, vpick_f]
     rw [hN]
     exact one_mid s c [] hct hs false h _ hh rfl
    | cons d u =>
     have e1 : decide ((1 : Int) < (s.length : Int)) = true := decide_eq_true (by rw [hct]; simp; omega)
     have hN : numHead s = isDigit d.toNat := by rw [hct]; show (isDigit c.toNat || (decide (c.toNat = 45) && isDigit d.toNat)) = _; rw [hD, decide_eq_true h45]; rfl
     have ei1 : ∀ (k : TVal → Heap → Res1), vindex (kS s) (kI 1) h k = k (kU d) h := fun k => vindex_s s 1 d (by rw [hct]; rfl)
     simp only [e1, vguard_tt, ei1, vpick_t]
     rw [vcall_pure 107 _ _ rfl (digit_ok d) rfl, hN]
     exact one_mid s c (d :: u) hct hs _ h _ hh rfl
   ·have e : decide ((c.toNat : Int) = 45) = false := decide_eq_false (by omega)
    have hN : numHead s = false := by rw [hct]; simp [numHead, hD, h45]
    simp only [e, vguard_ft, vpick_f]
    rw [hN]
    exact one_mid s c t hct hs false h _ hh rfl
end Go.Proofs.YtnlmlcfipbnpgaaDoor.Ab
