/- ScanTokens, whatever the input: the law. -/
import Derived.Test.YtljhpmggifjigaaDoorScRh
import Derived.Test.YtljhpmggifjigaaDoorMaK
set_option linter.all false
set_option linter.unusedVariables false
set_option linter.unusedSimpArgs false
set_option maxRecDepth 100000
namespace Go.Proofs.YtljhpmggifjigaaDoor.Ab
open Go Go.AI
theorem tokens_len (s : List UInt8) (l : List Tok) (h : tokensM s = .ok l) : l.length ≤ 400 := by
 unfold tokensM at h
 split at h
 ·cases h
 ·unfold toksFin at h
  split at h
  ·cases h
  ·split at h
   ·cases h
   ·cases h; omega
theorem tok_step (rows : List (List PVal)) (t : Bool) (i : Nat) (s : List UInt8) (hr : rows[i]? = some [.str s]) (hi : i < 3) (h : Heap) : lim tab.get S 10 0 4 [kSl 1 t rows, kI (i : Int)] h = lim tab.get S 10 0 4 [kSl 1 t rows, kI ((i + 1 : Nat) : Int)] h := by
 have hi1 : lim tab.get S 10 0 4 [kSl 1 t rows, kI ((i + 1 : Nat) : Int)] h = (vbin .add 0 (kI (i : Int)) (kI 1) h fun x60 h => lim tab.get S 10 0 4 [kSl 1 t rows, x60] h) := by
  rw [vbin_add, wrap_i64 _ (by omega) (by omega), show ((i : Int) + 1) = ((i + 1 : Nat) : Int) by omega]
 rw [hi1, w10_4, b10_4, vbin_lss, decide_eq_true (show (i : Int) < 3 by omega), vif_t, viaddr_sl 1 t _ i _ hr, vload_pptr _ _ _ (.str s) rfl, vcall_pure 16 _ _ rfl (tokens_ok s) (toksVal_p _)]
 have iad : plan .nil (.iaddr 1 (.k (kSl 1 t rows)) (.k (kI (i : Int)))) = some (.pure (.v (.c (.p (.pptr [.str s] 0))))) := by
  simp [plan, X.ev, asN, hr]
 have ld : plan .nil (.load false 1 (.k (.v (.c (.p (.pptr [.str s] 0)))))) = some (.pure (kS s)) := rfl
 have fin : ∀ (a : Int) (v : PVal) (vv : TVal), toksVal (tokensM s) = .tup [.c (.p v), .c (.p (.int .i64 a))] → ((Om 17 [.v (.c (.p v)), .v (.c (.p v))] [] = some (kB true, [])) ∨ False) →
   (vext (toksVal (tokensM s)) 0 h fun x67 h =>
 vext (toksVal (tokensM s)) 1 h fun x68 h =>
 viaddr 1 (kSl 1 t rows) (kI (i : Int)) h fun x72 h =>
 vload false 1 x72 h fun x73 h =>
 vcall Om (.v (.c (.func 14 []))) [x73] h 74 fun x74 h =>
 vext x74 0 h fun x75 h =>
 vext x74 1 h fun x76 h =>
 vtouch Om (.mv (.k x68)) h 77 fun x77 h t0 =>
 vtouch Om (.mv (.k x76)) h 78 fun x78 h t1 =>
 vtouch Om (.bin .neq 0 (.k x77) (.k x78)) h 79 fun x79 h t2 =>
 vtouch Om (.mv (.k x79)) h 80 fun x80 h t3 =>
 vguardT x80 false (fun kk => vtouch Om (.mv (.k x67)) h 81 kk) h fun x81 h t4 =>
 vguardT x80 false (fun kk => vtouch Om (.mv (.k x75)) h 82 kk) h fun x82 h t5 =>
 vguardT x80 false (fun kk => vtouch Om (.call (.k (.v (.c (.func 17 [])))) [(.k x81), (.k x82)]) h 83 kk) h fun x83 h t6 =>
 vguardT x80 false (fun kk => vtouch Om (.un .not (.k x83)) h 84 kk) h fun x84 h t7 =>
 vtouch Om (.pick (.k x80) (.k (kB true)) (.k x84)) h 85 fun x85 h t8 =>
 vtouch Om (.mv (.k x85)) h 86 fun x86 h t9 =>
 vguardT x86 false (fun kk => vtouch Om (.mv (.k (kSl 1 t rows))) h 87 kk) h fun x87 h t10 =>
 vguardT x86 false (fun kk => vtouch Om (.mv (.k (kI (i : Int)))) h 88 kk) h fun x88 h t11 =>
 vguardT x86 false (fun kk => vtouch Om (.iaddr 1 (.k x87) (.k x88)) h 89 kk) h fun x89 h t12 =>
 vguardT x86 false (fun kk => vtouch Om (.load false 1 (.k x89)) h 90 kk) h fun x90 h t13 =>
 vguardT x86 false (fun kk => vtouch Om (.call (.k (.v (.c (.func 18 [])))) [(.k x90)]) h 91 kk) h fun x91 h t14 =>
 vguardT x86 false (fun kk => vtouch Om (.mv (.k (kSl 1 t rows))) h 92 kk) h fun x92 h t15 =>
 vguardT x86 false (fun kk => vtouch Om (.mv (.k (kI (i : Int)))) h 93 kk) h fun x93 h t16 =>
 vguardT x86 false (fun kk => vtouch Om (.iaddr 1 (.k x92) (.k x93)) h 94 kk) h fun x94 h t17 =>
 vguardT x86 false (fun kk => vtouch Om (.load false 1 (.k x94)) h 95 kk) h fun x95 h t18 =>
 vguardT x86 false (fun kk => vtouch Om (.call (.k (.v (.c (.func 19 [])))) [(.k x95)]) h 96 kk) h fun x96 h t19 =>
 vguardT x86 false (fun kk => vtouch Om (.bin .neq 5 (.k x91) (.k x96)) h 97 kk) h fun x97 h t20 =>
 vtouch Om (.pick (.k x86) (.k (kB true)) (.k x97)) h 98 fun x98 h t21 =>
 bif apartAll [t0, t1, t2, t3, t4, t5, t6, t7, t8, t9, t10, t11, t12, t13, t14, t15, t16, t17, t18, t19, t20, t21] [(14, 18)] then
 vif x98 (
 tcomp (kB false) fun c0 => vfin true 0 [c0] h)
 (vbin .add 0 (kI (i : Int)) (kI 1) h fun x60 h =>
 lim tab.get S 10 0 4 [kSl 1 t rows, x60] h)
 else none) = (vbin .add 0 (kI (i : Int)) (kI 1) h fun x60 h => lim tab.get S 10 0 4 [kSl 1 t rows, x60] h) := by
  intro a v vv hv hsame
  have hsm : Om 17 [.v (.c (.p v)), .v (.c (.p v))] [] = some (kB true, []) := by rcases hsame with q | q; exact q; exact q.elim
  have hr' := rtokens_ok s
  rw [hv] at hr' ⊢
  have c17 := fun (k : TVal → Heap → Go.AI.Touch → Res1) => vtouch_call (O := Om) (h := h) (d := 83) (k := k) 17 [.v (.c (.p v)), .v (.c (.p v))] (kB true) rfl hsm rfl
  have c18 := fun (k : TVal → Heap → Go.AI.Touch → Res1) => vtouch_call (O := Om) (h := h) (d := 91) (k := k) 18 [kS s] (kB (identM s)) rfl (ident_ok s) rfl
  have c19 := fun (k : TVal → Heap → Go.AI.Touch → Res1) => vtouch_call (O := Om) (h := h) (d := 96) (k := k) 19 [kS s] (kB (identM s)) rfl (rident_ok s) rfl
  have bn : plan .nil (.bin .neq 0 (.k (kI a)) (.k (kI a))) = some (.pure (kB false)) := by
   show (binV .neq 0 (.p (.int .i64 a)) (.p (.int .i64 a))).map (fun c => Plan.pure (.v (.c c))) = _
   have : binV .neq 0 (.p (.int .i64 a)) (.p (.int .i64 a)) = some (.p (.bool false)) := by simp [binV, intBin]
   rw [this]; rfl
  have bb : plan .nil (.bin .neq 5 (.k (kB (identM s))) (.k (kB (identM s)))) = some (.pure (kB false)) := by cases identM s <;> rfl
  rw [vext_tup _ 0 _ rfl, vext_tup _ 1 _ rfl, viaddr_sl 1 t _ i _ hr, vload_pptr _ _ _ (.str s) rfl, vcall_pure 14 _ _ rfl hr' rfl, vext_tup _ 0 _ rfl, vext_tup _ 1 _ rfl,
   vtouch_plan (.mv (.k (kI a))) (kI a) rfl, vtouch_plan (.mv (.k (kI a))) (kI a) rfl, vtouch_plan _ _ bn, vtouch_plan (.mv (.k (kB false))) (kB false) rfl]
  simp only [vguardT_ff]
  rw [vtouch_plan (.mv (.k (.v (.c (.p v))))) (.v (.c (.p v))) rfl, vtouch_plan (.mv (.k (.v (.c (.p v))))) (.v (.c (.p v))) rfl]
  refine (c17 _).trans ?_
  rw [vtouch_plan (.un .not (.k (kB true))) (kB false) rfl, vtouch_plan (.pick (.k (kB false)) (.k (kB true)) (.k (kB false))) (kB false) rfl, vtouch_plan (.mv (.k (kB false))) (kB false) rfl]
  simp only [vguardT_ff]
  rw [vtouch_plan (.mv (.k (kSl 1 t rows))) (kSl 1 t rows) rfl, vtouch_plan (.mv (.k (kI (i : Int)))) (kI (i : Int)) rfl, vtouch_plan _ _ iad, vtouch_plan _ _ ld]
  refine (c18 _).trans ?_
  rw [vtouch_plan (.mv (.k (kSl 1 t rows))) (kSl 1 t rows) rfl, vtouch_plan (.mv (.k (kI (i : Int)))) (kI (i : Int)) rfl, vtouch_plan _ _ iad, vtouch_plan _ _ ld]
  refine (c19 _).trans ?_
  rw [vtouch_plan _ _ bb, vtouch_plan (.pick (.k (kB false)) (.k (kB true)) (.k (kB false))) (kB false) rfl]
  rfl
 cases hts : tokensM s with
 | error e =>
  have := fin e .nilslice kNil (by rw [hts]; rfl) (.inl (same_ok [] (by decide)))
  rw [hts] at this
  exact this
 | ok l =>
  have := fin 0 (growP 4 (l.map Tok.row)) kNil (by rw [hts]; rfl) (.inl (same_ok l (by have := tokens_len s l hts; omega)))
  rw [hts] at this
  exact this
def gap5M : List (List UInt8) := [[], [32], [10], [9, 32], [13]]
theorem gap5_list : plan .nil (.bslice 1 5 [(.p (.str []))] [(0, (.k (kS []))), (1, (.k (kS [32]))), (2, (.k (kS [10]))), (3, (.k (kS [9, 32]))), (4, (.k (kS [13])))] false) = some (.pure (kSl 1 true (gap5M.map fun s => [.str s]))) := rfl
theorem tok_all (x0 : TVal) (a b c : List UInt8) (t : Bool) (h : Heap) : lim tab.get S 10 0 4 [kSl 1 t [[.str a], [.str b], [.str c]], kI 0] h = some (kB true, []) := by
 have e0 := tok_step [[.str a], [.str b], [.str c]] t 0 a rfl (by decide) h
 have e1 := tok_step [[.str a], [.str b], [.str c]] t 1 b rfl (by decide) h
 have e2 := tok_step [[.str a], [.str b], [.str c]] t 2 c rfl (by decide) h
 refine (e0.trans (e1.trans e2)).trans ?_
 rw [w10_4, b10_4, vbin_lss, decide_eq_false (by decide), vif_f, tcomp_c, vfin_pure _ _ rfl]; rfl
theorem tok_end (s t : List UInt8) (hs : s.length ≤ 2000) (ht : t.length ≤ 2000) (h : Heap) : lim tab.get S 10 0 3 [kS s, kS t] h = some (kB true, []) := by
 rw [w10_3, b10_3, vbin_sadd _ _ _ (by omega)]
 refine (vplan _ (kSl 1 true [[.str s], [.str t], [.str (t ++ s)]]) ?_).trans ?_
 ·rfl
 exact tok_all (kS s) s t (t ++ s) true h
theorem tok_loop (s : List UInt8) (hs : s.length ≤ 2000) (o g : Option (List Int)) : ∀ (m i : Nat) (t : List UInt8) (h : Heap), 60 - i ≤ m → i ≤ 60 → t.length ≤ 24 * i →
  lim tab.get S 10 0 1 [kS s, .v (.c (.p (intsP .i64 o))), .v (.c (.p (intsP .i64 g))), kS t, kI (i : Int)] h = some (kB true, []) := by
 intro m
 induction m with
 | zero =>
  intro i t h hm hi ht
  have e1 : decide ((i : Int) < 60) = false := decide_eq_false (by omega)
  rw [w10_1, b10_1, vlen_ints, vbin_lss]
  by_cases hq : (i : Int) < ((intsL o).length : Int)
  ·rw [decide_eq_true hq]
   simp only [vguard_tt, vbin_lss, e1, vpick_t, vif_f]
   exact tok_end s t hs (by omega) h
  ·rw [decide_eq_false hq]
   simp only [vguard_ft, vpick_f, vif_f]
   exact tok_end s t hs (by omega) h
 | succ m ih =>
  intro i t h hm hi ht
  rw [w10_1, b10_1, vlen_ints, vbin_lss]
  by_cases hq : (i : Int) < ((intsL o).length : Int)
  ·rw [decide_eq_true hq]
   simp only [vguard_tt, vbin_lss, vpick_t]
   by_cases hl2 : i < 60
   ·obtain ⟨z, hz⟩ : ∃ z, (intsL o)[i]? = some z := ⟨(intsL o)[i], by simp [show i < (intsL o).length by omega]⟩
    obtain ⟨x, x1, x2⟩ := piece_ok z
    have hx22 : ∀ y ∈ pieceM, y.1.length ≤ 22 := by
     have h2 : (pieceM.all fun y => decide (y.1.length ≤ 22)) = true := by decide
     intro y hy
     have := List.all_eq_true.1 h2 y hy
     simpa using this
    have hxl := hx22 x x1
    have fin : ∀ gp : List UInt8, gp.length ≤ 2 → lim tab.get S 10 0 2 [kS s, .v (.c (.p (intsP .i64 o))), .v (.c (.p (intsP .i64 g))), kS (t ++ x.1 ++ gp), kI (i : Int)] h = some (kB true, []) := by
     intro gp hg
     rw [w10_2, b10_2, vbin_add, wrap_i64 _ (by omega) (by omega), show ((i : Int) + 1) = ((i + 1 : Nat) : Int) by omega]
     exact ih (i + 1) _ h (by omega) (by omega) (by simp only [List.length_append]; omega)
    rw [decide_eq_true (show (i : Int) < 60 by omega), vif_t, viaddr_ints _ _ _ _ hz, vload_pptr _ _ _ (.int .i64 z) rfl, vcall_pure 13 _ _ rfl x2 rfl, vbin_sadd _ _ _ (by omega), vlen_ints, vbin_lss]
    by_cases hg : (i : Int) < ((intsL g).length : Int)
    ·obtain ⟨y, hy⟩ : ∃ z, (intsL g)[i]? = some z := ⟨(intsL g)[i], by simp [show i < (intsL g).length by omega]⟩
     obtain ⟨k, k1, k2, _⟩ := within5 y
     obtain ⟨gp, hgp⟩ : ∃ x, gap5M[k]? = some x := ⟨gap5M[k]'(by simpa [gap5M] using k2), by simp⟩
     have hgl : gp.length ≤ 2 := by
      have := List.mem_of_getElem? hgp
      simp only [gap5M, List.mem_cons, List.not_mem_nil, or_false] at this
      rcases this with h | h | h | h | h <;> (subst h; decide)
     rw [decide_eq_true hg, vif_t, vplan _ _ gap5_list, viaddr_ints _ _ _ _ hy, vload_pptr _ _ _ (.int .i64 y) rfl, vcall_pure 15 _ _ rfl k1 rfl, viaddr_sl 1 true _ k [.str gp] (by rw [List.getElem?_map, hgp]; rfl), vload_pptr _ _ _ (.str gp) rfl, vbin_sadd _ _ _ (by simp only [List.length_append]; omega)]
     exact fin gp hgl
    ·rw [decide_eq_false hg, vif_f]
     have := fin [] (by decide)
     rw [List.append_nil] at this
     exact this
   ·rw [decide_eq_false (show ¬ (i : Int) < 60 by omega), vif_f]
    exact tok_end s t hs (by omega) h
  ·rw [decide_eq_false hq]
   simp only [vguard_ft, vpick_f, vif_f]
   exact tok_end s t hs (by omega) h
/-- THE LAW. -/
theorem tokens_law (s : List UInt8) (o g : Option (List Int)) : Om 10 [kS s, .v (.c (.p (intsP .i64 o))), .v (.c (.p (intsP .i64 g)))] [] = some (kB true, []) := by
 refine (orc_none rfl).trans ?_
 show lim tab.get S 10 0 0 [kS s, .v (.c (.p (intsP .i64 o))), .v (.c (.p (intsP .i64 g)))] h0 = _
 rw [w10_0, b10_0, vcall_pure 12 _ _ rfl known_ok rfl, vnot, vif_kB, if_neg (by decide), vlen_s, vbin_gtr]
 by_cases h1 : 2000 < s.length
 ·rw [decide_eq_true (by omega), vif_t, tcomp_c, vfin_pure _ _ rfl]; rfl
 ·rw [decide_eq_false (by omega), vif_f]
  exact tok_loop s (by omega) o g 60 0 [] h0 (by decide) (by decide) (by simp)
end Go.Proofs.YtljhpmggifjigaaDoor.Ab
