/- ScanNumbers: whatever the number, the law returns true (3). -/
import Derived.Test.YtljhpmggifjigaaDoorScO
set_option linter.all false
set_option linter.unusedVariables false
set_option linter.unusedSimpArgs false
set_option maxRecDepth 100000
namespace Go.Proofs.YtljhpmggifjigaaDoor.Ab
open Go Go.AI
theorem growP_ne (sz : Nat) (rows : List (List PVal)) (h : rows ≠ []) : growP sz rows = .slice sz false rows := by
 cases rows with
 | nil => exact absurd rfl h
 | cons _ _ => rfl
theorem toksVal_p (x : Except Int (List Tok)) : pT (toksVal x) = true := by
 cases x with
 | error e => rfl
 | ok l => unfold toksVal; dsimp only; cases l.map Tok.row <;> rfl
theorem u64_neg (n : Int) (h1 : -9223372036854775808 ≤ n) (h2 : n < 0) : IntKind.u64.wrap (0 - IntKind.u64.wrap n) = -n := by
 simp only [IntKind.wrap, IntKind.bits, IntKind.signed, Bool.false_and, Bool.false_eq_true, if_false]
 omega
theorem num_end (n : Int) (l : List Tok) (k : Nat) (t : Tok) (ht : l[k]? = some t) (hk : t.kind = 3) (hn : t.n = n) (h : Heap) :
  lim tab.get S 5 0 6 [kI n, kSl 4 false (l.map Tok.row), kI (k : Int)] h = some (kB true, []) := by
 have hl := (List.getElem?_eq_some_iff.1 ht).1
 have hr : (l.map Tok.row)[k]? = some t.row := by rw [List.getElem?_map, ht]; rfl
 have e1 : decide ((k : Int) < ((l.map Tok.row).length : Int)) = true := decide_eq_true (by simp; omega)
 rw [w5_6, b5_6, vlen_sl, vbin_gtr, e1]
 simp only [vguard_tt, viaddr_sl 4 false _ k _ hr, vfaddr_pptr, vload_pptr 1 (0 + 0) t.row (.int .i64 t.kind) rfl, vbin_eql, hk, vpick_t, decide_true, vload_pptr 1 (0 + 2) t.row (.int .i64 t.n) rfl, hn]
 rw [tcomp_c, vfin_pure _ _ rfl]; rfl
theorem num_five (n : Int) (cm sg : Bool) (ds bh : List UInt8) (u : Nat) (hd : ∀ b ∈ ds, isDigit b.toNat = true) (hv : numVal ds = u) (hl : ds.length ≤ 19) (hl0 : 0 < ds.length) (hb : bh ∈ behinds) (hu : u ≤ 9223372036854775807 + (if sg then 1 else 0)) (hn : n = if sg then -(u : Int) else u) (h : Heap) :
  lim tab.get S 5 0 5 [kI n, kB cm, kS ((if cm then [44] else []) ++ ((if sg then [45] else []) ++ ds)), kS bh] h = some (kB true, []) := by
 obtain ⟨l, t, e1, e2, e3, e4⟩ := num_toks cm sg ds bh u hd hv hl hl0 hb hu
 have hbl : bh.length ≤ 1 := by
  simp only [behinds, List.mem_cons, List.not_mem_nil, or_false] at hb
  rcases hb with rfl | rfl | rfl | rfl | rfl <;> simp
 rw [w5_5, b5_5, vbin_sadd _ _ _ (by cases cm <;> cases sg <;> simp <;> omega)]
 rw [show (if cm then [44] else []) ++ ((if sg then [45] else []) ++ ds) ++ bh = (if cm then [(44 : UInt8)] else []) ++ ((if sg then [45] else []) ++ (ds ++ bh)) by simp]
 have hlt := (List.getElem?_eq_some_iff.1 e2).1
 have hne : l.map Tok.row ≠ [] := by intro e; rw [List.map_eq_nil_iff] at e; subst e; simp at e2
 rw [vcall_pure 16 _ _ rfl (tokens_ok _) (toksVal_p _), e1]
 unfold toksVal
 dsimp only
 rw [growP_ne _ _ hne, vext_tup _ 0 _ rfl, vext_tup _ 1 _ rfl, vbin_neq, show (!decide ((0 : Int) = 0)) = false from rfl]
 have c2 : decide (((l.map Tok.row).length : Int) < 1) = false := decide_eq_false (by simp; omega)
 simp only [vguard_ff, vlen_sl, vbin_lss, c2, vpick_f, vif_f, vif_kB]
 cases cm with
 | true => rw [if_pos rfl]; exact num_end n l 1 t e2 e3 (e4.trans hn.symm) _
 | false => rw [if_neg (by decide)]; exact num_end n l 0 t e2 e3 (e4.trans hn.symm) _
theorem num_four (n more : Int) (cm sg : Bool) (ds : List UInt8) (u : Nat) (hd : ∀ b ∈ ds, isDigit b.toNat = true) (hv : numVal ds = u) (hl : ds.length ≤ 19) (hl0 : 0 < ds.length) (hu : u ≤ 9223372036854775807 + (if sg then 1 else 0)) (hn : n = if sg then -(u : Int) else u) (h : Heap) :
  lim tab.get S 5 0 4 [kI n, kI more, kB cm, kS ((if sg then [45] else []) ++ ds)] h = some (kB true, []) := by
 have hb := wi_bounds more 5 (by decide)
 obtain ⟨j, hj⟩ : ∃ j : Nat, wi more 5 = j := ⟨(wi more 5).toNat, by omega⟩
 have hj5 : j < 5 := by omega
 obtain ⟨bh, hbh⟩ : ∃ bh, behinds[j]? = some bh := ⟨behinds[j]'(by simpa [behinds] using hj5), by simp⟩
 have hrow : ([[.str []], [.str [32]], [.str [46]], [.str [41]], [.str [97]]] : List (List PVal))[j]? = some [.str bh] := by
  have : (behinds.map fun b => [PVal.str b])[j]? = some [.str bh] := by rw [List.getElem?_map, hbh]; rfl
  exact this
 rw [w5_4, b5_4, vplan (.bslice 1 5 _ _ false) (kSl 1 true [[.str []], [.str [32]], [.str [46]], [.str [41]], [.str [97]]]) rfl]
 have hw := within_ok more 5 (by decide) (by decide)
 rw [show ((5 : Nat) : Int) = 5 from rfl, hj] at hw
 rw [vcall_pure 15 _ _ rfl hw rfl, viaddr_sl 1 true _ j _ hrow, vload_pptr 1 0 _ (.str bh) rfl, vif_kB]
 cases cm with
 | true =>
  rw [if_pos rfl, vbin_sadd _ _ _ (by cases sg <;> simp <;> omega)]
  exact num_five n true sg ds bh u hd hv hl hl0 (List.mem_of_getElem? hbh) hu hn _
 | false =>
  rw [if_neg (by decide)]
  exact num_five n false sg ds bh u hd hv hl hl0 (List.mem_of_getElem? hbh) hu hn _
/-- THE LAW. -/
theorem numbers_law (n more : Int) (cm : Bool) (h1 : -9223372036854775808 ≤ n) (h2 : n ≤ 9223372036854775807) : Om 5 [kI n, kI more, kB cm] [] = some (kB true, []) := by
 refine (orc_none rfl).trans ?_
 show lim tab.get S 5 0 0 [kI n, kI more, kB cm] h0 = _
 rw [w5_0, b5_0, vcall_pure 12 _ _ rfl known_ok rfl, vnot, vif_kB, if_neg (by decide), vtoInt_n, vbin_lss, vif_kB]
 have fin : ∀ (u : Nat) (sg : Bool) (h : Heap), u < 10 ^ 19 → u ≤ 9223372036854775807 + (if sg then 1 else 0) → (n = if sg then -(u : Int) else u) → (sg = decide (n < 0)) →
   lim tab.get S 5 0 1 [kI n, kI more, kB cm, kS [], kN .u64 (u : Int)] h = some (kB true, []) := by
  intro u sg h hu1 hu2 hn hsg
  obtain ⟨a1, a2, a3, a4⟩ := digs_spec 19 u [] hu1 (by decide) (by simp)
  obtain ⟨h', e⟩ := num_loop n more cm 19 u [] 0 h hu1 (by decide) (by omega) (.inl rfl) (by decide) (by simp) (by decide) (by simp)
  rw [w5_1, b5_1]
  refine (show lim tab.get S 5 0 2 [kI n, kI more, kB cm, kS [], kN .u64 (u : Int), kI ((0 : Nat) : Int)] h = _ from e).trans ?_
  rw [w5_3, b5_3, vbin_lss, vif_kB, ← hsg]
  cases sg with
  | true =>
   rw [if_pos rfl, vbin_sadd _ _ _ (by simp at a3 ⊢; omega)]
   exact num_four n more cm true (digs 19 u []) u a1 (by simpa [numVal] using a2) (by simpa using a3) (by simpa using a4) hu2 hn _
  | false =>
   rw [if_neg (by decide)]
   exact num_four n more cm false (digs 19 u []) u a1 (by simpa [numVal] using a2) (by simpa using a3) (by simpa using a4) hu2 hn _
 by_cases hn : n < 0
 ·rw [if_pos (decide_eq_true hn), vneg, u64_neg n h1 hn]
  obtain ⟨u, hu⟩ : ∃ u : Nat, -n = u := ⟨(-n).toNat, by omega⟩
  rw [hu]
  exact fin u true _ (by omega) (by simp; omega) (by simp; omega) (decide_eq_true hn).symm
 ·rw [if_neg (by rw [decide_eq_true_eq]; exact hn), wrap_u64 n (by omega) (by omega)]
  obtain ⟨u, hu⟩ : ∃ u : Nat, n = u := ⟨n.toNat, by omega⟩
  have := fin u false h0 (by omega) (by simp; omega) (by simp [hu]) (decide_eq_false hn).symm
  rw [← hu] at this
  exact this
end Go.Proofs.YtljhpmggifjigaaDoor.Ab
