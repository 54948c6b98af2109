/- Words of sources: what scan computes; contracts of its functions. -/
import Derived.Test.YtnlmlcfipbnpgaaDoorSpA
set_option linter.all false
set_option linter.unusedVariables false
set_option linter.unusedSimpArgs false
set_option maxRecDepth 100000
namespace Go.Proofs.YtnlmlcfipbnpgaaDoor.Ab
open Go Go.AI
structure Tok where
 kind : Int
 text : List UInt8
 n : Int
 pos : Int
def Tok.zero : Tok := ⟨0, [], 0, 0⟩
def Tok.row (t : Tok) : List PVal := [.int .i64 t.kind, .str t.text, .int .i64 t.n, .int .i64 t.pos]
def Tok.cells (t : Tok) : List Cell := [.p (.int .i64 t.kind), .p (.str t.text), .p (.int .i64 t.n), .p (.int .i64 t.pos)]
/-- A word, how many bytes it takes, an error. -/
structure One where
 t : Tok
 n : Int
 e : Int
def One.val (r : One) : TVal := .tup [.agg r.t.cells, .c (.p (.int .i64 r.n)), .c (.p (.int .i64 r.e))]
def bad (e : Int) : One := ⟨Tok.zero, 0, e⟩
def wordM (s : List UInt8) : One := if 16 < runLen isWord s then bad 4 else ⟨⟨1, s.take (runLen isWord s), 0, 0⟩, (runLen isWord s : Nat), 0⟩
theorem isWord_lt (n : Nat) (h : isWord n = true) : n < 128 := by
 simp only [isWord, isLetter, isDigit, Bool.or_eq_true, Bool.and_eq_true, Nat.ble_eq, Nat.beq_eq] at h
 omega
theorem isDigit_lt (n : Nat) (h : isDigit n = true) : n < 128 := by
 simp only [isDigit, Bool.and_eq_true, Nat.ble_eq] at h
 omega
theorem row_ok (s : List UInt8) : Om 108 [kS s] [] = some (kI (runLen isWord s : Nat), []) := by
 refine (orc_none rfl).trans ?_
 show lim tab.get S 108 0 0 [kS s] h0 = _
 rw [w108_0, b108_0, vcall_plain 137 _ _ rfl rfl (fun _ => rfl) (front_ok isWord 138 row1_ok isWord_lt s) rfl, tcomp_c, vfin_pure _ _ rfl]
 rfl
theorem word_ok (s : List UInt8) : Om 119 [kS s] [] = some ((wordM s).val, []) := by
 refine (orc_none rfl).trans ?_
 show lim tab.get S 119 0 0 [kS s] h0 = _
 rw [w119_0, b119_0, valloc, vcall_pure 108 _ _ rfl (row_ok s) rfl, vbin_gtr, vif_kB]
 have hl := runLen_le isWord s
 unfold wordM
 by_cases h : 16 < runLen isWord s
 ·rw [if_pos (decide_eq_true (by omega)), vbuild _ _ Tok.zero.cells rfl, store_cell 4 2 _ _ _ _ _ (Heap.own_get _ _ _ _ (by decide) (fun e => by cases e)) (by decide) rfl rfl, tcomp_c, tcomp_c, vfin_pure _ _ rfl, if_pos h]
  rfl
 ·rw [if_neg (by rw [decide_eq_true_eq]; omega), vslice_h _ _ hl, vbuild _ _ (Tok.cells ⟨1, s.take (runLen isWord s), 0, 0⟩) rfl, store_cell 4 2 _ _ _ _ _ (Heap.own_get _ _ _ _ (by decide) (fun e => by cases e)) (by decide) rfl rfl, tcomp_c, tcomp_c, vfin_pure _ _ rfl, if_neg h]
  rfl
theorem hasPrefix_ok (s p : List UInt8) : Om 130 [kS s, kS p] [] = some (kB (decide (s.take p.length = p)), []) := by
 refine (orc_none rfl).trans ?_
 show lim tab.get S 130 0 0 [kS s, kS p] h0 = _
 rw [w130_0, b130_0, vlen_s, vlen_s, vbin_geq]
 by_cases hl : p.length ≤ s.length
 ·have e : (!decide ((s.length : Int) < (p.length : Int))) = true := by simp; omega
  simp only [e, vguard_tt, vlen_s, vslice_h s p.length hl, vbin_seql, vpick_t, tcomp_c]
  rw [vfin_pure _ _ rfl]; rfl
 ·have e : (!decide ((s.length : Int) < (p.length : Int))) = false := by simp; omega
  have e2 : ¬ s.take p.length = p := fun hh => by have := congrArg List.length hh; simp at this; omega
  simp only [e, vguard_ft, vpick_f, tcomp_c]
  rw [vfin_pure _ _ rfl, decide_eq_false e2]; rfl
theorem hasPrefix2_ok (s p : List UInt8) : Om 99 [kS s, kS p] [] = some (kB (decide (s.take p.length = p)), []) := by
 refine (orc_none rfl).trans ?_
 show lim tab.get S 99 0 0 [kS s, kS p] h0 = _
 rw [w99_0, b99_0, vcall_pure 130 _ _ rfl (hasPrefix_ok s p) rfl, tcomp_c, vfin_pure _ _ rfl]; rfl
theorem trim_ok (s p : List UInt8) : Om 161 [kS s, kS p] [] = some (kS (if s.take p.length = p then s.drop p.length else s), []) := by
 refine (orc_none rfl).trans ?_
 show lim tab.get S 161 0 0 [kS s, kS p] h0 = _
 rw [w161_0, b161_0, vcall_pure 130 _ _ rfl (hasPrefix_ok s p) rfl]
 by_cases h : s.take p.length = p
 ·have hl : p.length ≤ s.length := by have := congrArg List.length h; simp at this; omega
  rw [decide_eq_true h, vif_t, vlen_s, vslice_l _ _ hl, tcomp_c, vfin_pure _ _ rfl, if_pos h]; rfl
 ·rw [decide_eq_false h, vif_f, tcomp_c, vfin_pure _ _ rfl, if_neg h]; rfl
theorem trim2_ok (s p : List UInt8) : Om 145 [kS s, kS p] [] = some (kS (if s.take p.length = p then s.drop p.length else s), []) := by
 refine (orc_none rfl).trans ?_
 show lim tab.get S 145 0 0 [kS s, kS p] h0 = _
 rw [w145_0, b145_0, vcall_pure 161 _ _ rfl (trim_ok s p) rfl, tcomp_c, vfin_pure _ _ rfl]; rfl
/-- Is a stroke ahead? -/
def neg (s : List UInt8) : Nat := if s.take 1 = [45] then 1 else 0
def numVal (s : List UInt8) : Nat := s.foldl (fun x b => 10 * x + (b.toNat - 48)) 0
theorem numVal_snoc (s : List UInt8) (b : UInt8) : numVal (s ++ [b]) = 10 * numVal s + (b.toNat - 48) := by simp [numVal]
theorem numVal_lt (s : List UInt8) : (∀ b ∈ s, isDigit b.toNat = true) → numVal s < 10 ^ s.length := by
 have key : ∀ (r : List UInt8), (∀ b ∈ r, isDigit b.toNat = true) → ∀ (x k : Nat), x < 10 ^ k → r.foldl (fun x b => 10 * x + (b.toNat - 48)) x < 10 ^ (k + r.length) := by
  intro r
  induction r with
  | nil => intro _ x k h; exact h
  | cons b r ih =>
   intro hb x k h
   have h1 := hb b (by simp)
   simp only [isDigit, Bool.and_eq_true, Nat.ble_eq] at h1
   have := ih (fun c hc => hb c (by simp [hc])) (10 * x + (b.toNat - 48)) (k + 1) (by rw [Nat.pow_succ]; omega)
   rw [show k + (b :: r).length = k + 1 + r.length by simp; omega]
   exact this
 intro h
 simpa [numVal] using key s h 0 0 (by decide)
theorem run_all (p : Nat → Bool) : ∀ (s : List UInt8), ∀ b ∈ s.take (runLen p s), p b.toNat = true := by
 intro s
 induction s with
 | nil => intro b hb; simp [runLen] at hb
 | cons c s ih =>
  intro b hb
  unfold runLen at hb
  cases hc : p c.toNat with
  | false => rw [hc] at hb; simp at hb
  | true =>
   rw [hc] at hb
   simp only [if_true, List.take_succ_cons, List.mem_cons] at hb
   rcases hb with rfl | hb
   ·exact hc
   ·exact ih b hb
def numberM (s : List UInt8) : One :=
 if 19 < runLen isDigit (s.drop (neg s)) then bad 4
 else if 9223372036854775807 + neg s < numVal ((s.drop (neg s)).take (runLen isDigit (s.drop (neg s)))) then bad 11
 else ⟨⟨3, [], if 0 < neg s then -(numVal ((s.drop (neg s)).take (runLen isDigit (s.drop (neg s)))) : Int) else (numVal ((s.drop (neg s)).take (runLen isDigit (s.drop (neg s)))) : Int), 0⟩, ((neg s + runLen isDigit (s.drop (neg s)) : Nat) : Int), 0⟩
theorem number_end (g n x : Nat) (hg : g ≤ 1) (hn : n ≤ 19) (hx : x < 18446744073709551616) (h : Heap) (cs : List Cell) (hh : h.get (.own 2 1) = some (.cells cs 0)) (hc : cs.length = 4) :
  lim tab.get S 120 0 2 [.v (.c (.ptr (.own 2 1) 0)), kI (g : Int), kI (n : Int), kN .u64 (x : Int)] h = some ((if 9223372036854775807 + g < x then bad 11 else ⟨⟨3, [], if 0 < g then -(x : Int) else x, 0⟩, ((g + n : Nat) : Int), 0⟩ : One).val, []) := by
 rw [w120_2, b120_2, vtoInt_n, wrap_u64 _ (by omega) (by omega), vbin_add, wrap_u64 _ (by omega) (by omega), vbin_gtr, vif_kB]
 by_cases h1 : 9223372036854775807 + g < x
 ·rw [if_pos (decide_eq_true (by omega)), vbuild _ _ Tok.zero.cells rfl, store_cell 4 2 1 _ cs _ _ hh (by decide) hc rfl, tcomp_c, tcomp_c, vfin_pure _ _ rfl, if_pos h1]
  rfl
 ·rw [if_neg (by rw [decide_eq_true_eq]; omega), vbin_gtr, vif_kB, if_neg h1]
  by_cases h2 : 0 < g
  ·have hg1 : g = 1 := by omega
   subst hg1
   rw [if_pos (decide_eq_true (by omega)), vtoInt_n, vneg]
   have e : IntKind.i64.wrap (0 - IntKind.i64.wrap (x : Int)) = -(x : Int) := by
    by_cases h3 : x = 9223372036854775808
    ·subst h3; decide
    ·rw [wrap_i64 (x : Int) (by omega) (by omega), wrap_i64 _ (by omega) (by omega)]; omega
   rw [e, vbuild _ _ (Tok.cells ⟨3, [], -(x : Int), 0⟩) rfl, vbin_add, wrap_i64 _ (by omega) (by omega), store_cell 4 2 1 _ cs _ _ hh (by decide) hc rfl, tcomp_c, tcomp_c, vfin_pure _ _ rfl]
   simp [One.val, oneOf]
  ·have hg0 : g = 0 := by omega
   subst hg0
   rw [if_neg (by rw [decide_eq_true_eq]; omega), vtoInt_n, wrap_i64 (x : Int) (by omega) (by omega), vbuild _ _ (Tok.cells ⟨3, [], (x : Int), 0⟩) rfl, store_cell 4 2 1 _ cs _ _ hh (by decide) hc rfl, tcomp_c, tcomp_c, vfin_pure _ _ rfl]
   simp [One.val, oneOf]
theorem number_ok (s : List UInt8) (hs : s.length ≤ 4611686018427387904) : Om 120 [kS s] [] = some ((numberM s).val, []) := by
 refine (orc_none rfl).trans ?_
 show lim tab.get S 120 0 0 [kS s] h0 = _
 rw [w120_0, b120_0, valloc, vlen_s, vcall_pure 145 _ _ rfl (trim2_ok s [45]) rfl, vlen_s, vbin_sub]
 have hg : neg s ≤ 1 := by unfold neg; split <;> omega
 have hgl : neg s ≤ s.length := by
  unfold neg; split
  ·rename_i h; have := congrArg List.length h; simp at this; omega
  ·omega
 have eg : IntKind.i64.wrap ((s.length : Int) - ((if s.take [(45 : UInt8)].length = [45] then s.drop [(45 : UInt8)].length else s).length : Int)) = (neg s : Int) := by
  have e0 : [(45 : UInt8)].length = 1 := rfl
  rw [e0]
  have e1 : (s.length : Int) - ((if s.take 1 = [45] then s.drop 1 else s).length : Int) = (neg s : Int) := by
   unfold neg
   unfold neg at hgl
   split
   ·rename_i h; rw [if_pos h] at hgl; simp; omega
   ·simp
  rw [e1]; exact wrap_i64 _ (by omega) (by omega)
 rw [eg, vslice_l _ _ hgl]
 generalize hr : s.drop (neg s) = r
 have hn := runLen_le isDigit r
 rw [vcall_plain 137 _ _ rfl rfl (fun _ => rfl) (front_ok isDigit 107 digit_ok isDigit_lt r) rfl, vbin_gtr, vif_kB]
 unfold numberM
 rw [hr]
 by_cases h : 19 < runLen isDigit r
 ·rw [if_pos (decide_eq_true (by omega)), vbuild _ _ Tok.zero.cells rfl, store_cell 4 2 _ _ _ _ _ (Heap.own_get _ _ _ _ (by decide) (fun e => by cases e)) (by decide) rfl rfl, tcomp_c, tcomp_c, vfin_pure _ _ rfl, if_pos h]
  rfl
 ·have hrl : r.length = s.length - neg s := by rw [← hr]; simp
  rw [if_neg (by rw [decide_eq_true_eq]; omega), if_neg h, vbin_add, wrap_i64 _ (by omega) (by omega), ← Int.natCast_add, vslice_lh s (neg s) (neg s + runLen isDigit r) (by omega) (by omega), vrangeS]
  have ed : (s.take (neg s + runLen isDigit r)).drop (neg s) = r.take (runLen isDigit r) := by rw [← hr, List.drop_take]; simp
  rw [ed]
  have hall := run_all isDigit r
  generalize hds : r.take (runLen isDigit r) = ds at hall
  have hdl : ds.length = runLen isDigit r := by rw [← hds]; simp [hn]
  have hv := numVal_lt ds hall
  have hp : (10 : Nat) ^ ds.length ≤ 10 ^ 19 := Nat.pow_le_pow_right (by decide) (by omega)
  have loop : ∀ (m pos : Nat) (h : Heap) (cs : List Cell), ds.length - pos = m → pos ≤ ds.length → h.get (.own 29 1) = some (.siter ds pos) → h.get (.own 2 1) = some (.cells cs 0) → cs.length = 4 →
    lim tab.get S 120 0 1 [.v (.c (.ptr (.own 2 1) 0)), kI (neg s : Int), kI (runLen isDigit r : Nat), kN .u64 (numVal (ds.take pos) : Int), .v (.c (.ptr (.own 29 1) 0))] h =
     some ((if 9223372036854775807 + neg s < numVal ds then bad 11 else ⟨⟨3, [], if 0 < neg s then -(numVal ds : Int) else numVal ds, 0⟩, ((neg s + runLen isDigit r : Nat) : Int), 0⟩ : One).val, []) := by
   intro m
   induction m with
   | zero =>
    intro pos h cs hm hl hh1 hh2 hcl
    rw [w120_1, b120_1, vnextS_end ds pos _ hh1 (by omega), vext_tup _ 0 (.c (.p (.bool false))) rfl, vif_f]
    have : ds.take pos = ds := List.take_of_length_le (by omega)
    rw [this]
    exact number_end (neg s) (runLen isDigit r) (numVal ds) hg (by omega) (by omega) _ cs ((Heap.own_get_ne h 29 1 _ 2 1 (by decide)).trans hh2) hcl
   | succ m ih =>
    intro pos h cs hm hl hh1 hh2 hcl
    obtain ⟨b, hb⟩ : ∃ b, ds[pos]? = some b := ⟨ds[pos]'(by omega), by simp⟩
    have hbd := hall b (List.mem_of_getElem? hb)
    have hb2 := hbd
    simp only [isDigit, Bool.and_eq_true, Nat.ble_eq] at hb2
    have htk : ds.take (pos + 1) = ds.take pos ++ [b] := by rw [List.take_add_one, hb]; rfl
    have hx1 := numVal_lt (ds.take (pos + 1)) (fun c hc => hall c (List.mem_of_mem_take hc))
    have hx2 : (10 : Nat) ^ (ds.take (pos + 1)).length ≤ 10 ^ 19 := Nat.pow_le_pow_right (by decide) (by simp; omega)
    rw [htk, numVal_snoc] at hx1
    rw [htk] at hx2
    rw [w120_1, b120_1, vnextS_more ds pos _ hh1 (by omega), vext_tup _ 0 (.c (.p (.bool true))) rfl, vif_t, utf8_ascii ds pos b hb (isDigit_lt _ hbd), vext_tup _ 2 (.c (.p (.int .i32 (b.toNat : Int)))) rfl,
     vbin_mul, wrap_u64 _ (by omega) (by omega), vbin_sub]
    have e1 : IntKind.i32.wrap ((b.toNat : Int) - 48) = (b.toNat : Int) - 48 := wrap_in .i32 _ (by show (-2147483648 : Int) ≤ _; omega) (by show _ ≤ (2147483647 : Int); omega)
    rw [e1, vtoInt_n, wrap_u64 _ (by omega) (by omega), vbin_add, wrap_u64 _ (by omega) (by omega)]
    have e2 : (10 * (numVal (ds.take pos) : Int) + ((b.toNat : Int) - 48)) = (numVal (ds.take (pos + 1)) : Int) := by rw [htk, numVal_snoc]; omega
    rw [e2]
    exact ih (pos + 1) _ cs (by omega) (by omega) (Heap.own_get h 29 1 _ (by decide) (fun e => by cases e)) ((Heap.own_get_ne h 29 1 _ 2 1 (by decide)).trans hh2) hcl
  refine (loop ds.length 0 _ _ (by omega) (by omega) (Heap.own_get _ 29 1 _ (by decide) (fun e => by cases e)) ((Heap.own_get_ne _ 29 1 _ 2 1 (by decide)).trans (Heap.own_get _ 2 1 _ (by decide) (fun e => by cases e))) rfl).trans ?_
  rfl
def meantM (c : UInt8) : Option UInt8 := if c.toNat = 110 then some 10 else if c.toNat = 116 then some 9 else if c.toNat = 34 then some c else if c.toNat = 92 then some c else none
def meantV (c : UInt8) : TVal := match meantM c with
 | some x => .tup [.c (.p (.int .u8 (x.toNat : Int))), .c (.p (.bool true))]
 | none => .tup [.c (.p (.int .u8 0)), .c (.p (.bool false))]
theorem meant_ok (c : UInt8) : Om 146 [kU c] [] = some (meantV c, []) := by
 refine (orc_none rfl).trans ?_
 show lim tab.get S 146 0 0 [kU c] h0 = _
 rw [w146_0, b146_0, vbin_eql, vif_kB]
 unfold meantV meantM
 by_cases h1 : c.toNat = 110
 ·rw [if_pos (decide_eq_true (by omega)), if_pos h1, tcomp_c, tcomp_c, vfin_pure _ _ rfl]; rfl
 rw [if_neg (by rw [decide_eq_true_eq]; omega), if_neg h1, vbin_eql, vif_kB]
 by_cases h2 : c.toNat = 116
 ·rw [if_pos (decide_eq_true (by omega)), if_pos h2, tcomp_c, tcomp_c, vfin_pure _ _ rfl]; rfl
 rw [if_neg (by rw [decide_eq_true_eq]; omega), if_neg h2, vbin_eql, vif_kB]
 by_cases h3 : c.toNat = 34
 ·rw [if_pos (decide_eq_true (by omega)), if_pos h3, tcomp_c, tcomp_c, vfin_pure _ _ rfl]; rfl
 rw [if_neg (by rw [decide_eq_true_eq]; omega), if_neg h3, vbin_eql, vif_kB]
 by_cases h4 : c.toNat = 92
 ·rw [if_pos (decide_eq_true (by omega)), if_pos h4, tcomp_c, tcomp_c, vfin_pure _ _ rfl]; rfl
 rw [if_neg (by rw [decide_eq_true_eq]; omega), if_neg h4, tcomp_c, tcomp_c, vfin_pure _ _ rfl]; rfl
/-- A text, behind its quote: what is read so far; the place. -/
def textGo : List UInt8 → List UInt8 → Nat → One
 | [], _, _ => bad 11
 | [c], acc, i => if c.toNat < 32 then bad 11 else if c.toNat = 34 then (if 200 < acc.length then bad 4 else ⟨⟨2, acc, 0, 0⟩, ((i + 1 : Nat) : Int), 0⟩) else bad 11
 | c :: d :: s, acc, i =>
  if c.toNat < 32 then bad 11
  else if c.toNat = 34 then (if 200 < acc.length then bad 4 else ⟨⟨2, acc, 0, 0⟩, ((i + 1 : Nat) : Int), 0⟩)
  else if c.toNat = 92 then (match meantM d with
   | none => bad 11
   | some x => textGo s (acc ++ [x]) (i + 2))
  else textGo (d :: s) (acc ++ [c]) (i + 1)
theorem text_bad (h : Heap) (cs : List Cell) (e : Int) (hh : h.get (.own 2 1) = some (.cells cs 0)) (hc : cs.length = 4) (O : Oracle) (n : Nat) :
  (vop O (.build [(.p (.int .i64 0)), (.p (.str [])), (.p (.int .i64 0)), (.p (.int .i64 0))] []) h n fun x h => vstore 4 (.v (.c (.ptr (.own 2 1) 0))) x h fun _ h => vcell true 4 (.v (.c (.ptr (.own 2 1) 0))) h fun c0 => tcomp (kI 0) fun c1 => tcomp (kI e) fun c2 => vfin true 0 [c0, c1, c2] h) = some ((bad e).val, []) := by
 rw [vbuild _ _ Tok.zero.cells rfl, store_cell 4 2 1 _ cs _ _ hh (by decide) hc rfl, tcomp_c, tcomp_c, vfin_pure _ _ rfl]
 rfl
theorem byteRows_snoc (s : List UInt8) (b : UInt8) : byteRows s ++ [[.int .u8 (b.toNat : Int)]] = byteRows (s ++ [b]) := by simp [byteRows]
theorem text_loop (s : List UInt8) (hs : s.length ≤ 1073741824) : ∀ (m i : Nat) (acc : List UInt8) (v : Cell) (h : Heap) (cs : List Cell), s.length - i ≤ m → i ≤ s.length → acc.length ≤ i → Grow [22, 68] 1 v (byteRows acc) h → h.get (.own 2 1) = some (.cells cs 0) → cs.length = 4 →
  lim tab.get S 121 0 1 [kS s, .v (.c (.ptr (.own 2 1) 0)), .v (.c v), kI (i : Int)] h = some ((textGo (s.drop i) acc i).val, []) := by
 intro m
 induction m with
 | zero =>
  intro i acc v h cs hm hl ha G hh hc
  rw [w121_1, b121_1, vlen_s, vbin_lss, vif_kB, if_neg (by rw [decide_eq_true_eq]; omega), w121_3, b121_3, text_bad h cs 11 hh hc]
  rw [List.drop_eq_nil_of_le (by omega)]; rfl
 | succ m ih =>
  intro i acc v h cs hm hl ha G hh hc
  by_cases hi : i < s.length
  ·obtain ⟨c, hcb⟩ : ∃ c, s[i]? = some c := ⟨s[i]'hi, by simp⟩
   have hd : s.drop i = c :: s.drop (i + 1) := by
    obtain ⟨h1, h2⟩ := List.getElem?_eq_some_iff.1 hcb
    rw [List.drop_eq_getElem_cons h1, h2]
   have hcc : cs ≠ [] := fun e => by rw [e] at hc; cases hc
   rw [w121_1, b121_1, vlen_s, vbin_lss, vif_kB, if_pos (decide_eq_true (by omega)), vindex_s s i c hcb, vbin_lss, vif_kB]
   rw [hd]
   by_cases h1 : c.toNat < 32
   ·rw [if_pos (decide_eq_true (by omega)), text_bad h cs 11 hh hc]
    cases s.drop (i + 1) <;> simp [textGo, h1]
   rw [if_neg (by rw [decide_eq_true_eq]; omega), vbin_eql]
   by_cases h2 : c.toNat = 34
   ·have e : decide ((c.toNat : Int) = 34) = true := decide_eq_true (by omega)
    have ea : (byteRows acc).length = acc.length := by simp [byteRows]
    simp only [e, vguard_tt, vlen_grow G, ea, vbin_gtr, vpick_t, vif_kB, vbin_eql]
    by_cases h3 : 200 < acc.length
    ·rw [if_pos (decide_eq_true (by omega)), text_bad h cs 4 hh hc]
     cases s.drop (i + 1) <;> simp [textGo, h1, h2, h3]
    ·rw [if_neg (by rw [decide_eq_true_eq]; omega), if_pos trivial, vtoStr_grow G, vbuild _ _ (Tok.cells ⟨2, acc, 0, 0⟩) rfl, vbin_add, wrap_i64 _ (by omega) (by omega), store_cell 4 2 1 _ cs _ _ hh (by decide) hc rfl, tcomp_c, tcomp_c, vfin_pure _ _ rfl]
     cases s.drop (i + 1) <;> simp [textGo, h1, h2, h3, One.val, oneOf]
   ·have e : decide ((c.toNat : Int) = 34) = false := decide_eq_false (by omega)
    simp only [e, vguard_ft, vpick_f, vif_f, vbin_eql]
    have plain : ∀ (hn : ¬ (c.toNat = 92 ∧ i + 1 < s.length)), textGo (c :: s.drop (i + 1)) acc i = textGo (s.drop (i + 1)) (acc ++ [c]) (i + 1) := by
     intro hn
     cases hr : s.drop (i + 1) with
     | nil => simp [textGo, h1, h2]
     | cons d t =>
      have : i + 1 < s.length := by
       have := congrArg List.length hr; simp at this; omega
      have : ¬ c.toNat = 92 := fun e => hn ⟨e, this⟩
      simp [textGo, h1, h2, this]
    have go : ∀ (x : UInt8) (j : Nat) (hj : i ≤ j) (hjl : j + 1 ≤ s.length) (dd : Nat) (hd0 : dd ∈ [22, 68]) (hd1 : dd ≠ 2) (hd2 : dd + 1 < 1048576) (t' : Nat), 
      (vop (orc S (lim tab.get S)) (.bslice 1 1 [(.p (.int .u8 0))] [(0, (.k (kU x)))] false) h t' fun x67 h => vop (orc S (lim tab.get S)) (.append 1 1 false (.k (.v (.c v))) (.k x67)) h dd fun x68 h => lim tab.get S 121 0 2 [kS s, .v (.c (.ptr (.own 2 1) 0)), x68, kI (j : Int)] h) = some ((textGo (s.drop (j + 1)) (acc ++ [x]) (j + 1)).val, []) := by
     intro x j hj hjl dd hd0 hd1 hd2 t'
     rw [vplan (.bslice 1 1 [(.p (.int .u8 0))] [(0, (.k (kU x)))] false) (kSl 1 true [[.int .u8 (x.toNat : Int)]]) rfl]
     obtain ⟨v', h', G', e', keep⟩ := vappend_grow (by' := 1) (new := [[.int .u8 (x.toNat : Int)]]) true G hd0 (by simp) (by simp) (by simp [byteRows]; omega) hd2
     rw [e', w121_2, b121_2, vbin_add, wrap_i64 _ (by omega) (by omega)]
     rw [byteRows_snoc] at G'
     have := ih (j + 1) (acc ++ [x]) v' h' cs (by omega) hjl (by simp; omega) G' (keep 2 1 _ (Ne.symm hd1) hh (fun e => hcc (by cases e; rfl))) hc
     rw [show ((j : Int) + 1) = ((j + 1 : Nat) : Int) by omega]
     exact this
    by_cases h4 : c.toNat = 92
    ·have e4 : decide ((c.toNat : Int) = 92) = true := decide_eq_true (by omega)
     have ew : IntKind.i64.wrap ((i : Int) + 1) = ((i + 1 : Nat) : Int) := by rw [wrap_i64 _ (by omega) (by omega)]; omega
     simp only [e4, vguard_tt, vbin_add, vlen_s, vbin_lss, vpick_t, vif_kB, ew]
     by_cases h5 : i + 1 < s.length
     ·obtain ⟨d, hdb⟩ : ∃ d, s[i + 1]? = some d := ⟨s[i + 1]'h5, by simp⟩
      have hd' : s.drop (i + 1) = d :: s.drop (i + 1 + 1) := by
       obtain ⟨q1, q2⟩ := List.getElem?_eq_some_iff.1 hdb
       rw [List.drop_eq_getElem_cons q1, q2]
      have key : textGo (c :: s.drop (i + 1)) acc i = match meantM d with | none => bad 11 | some x => textGo (s.drop (i + 1 + 1)) (acc ++ [x]) (i + 2) := by
       rw [hd']; simp [textGo, h1, h2, h4]
      rw [if_pos (decide_eq_true (by omega)), vindex_s s (i + 1) d hdb, vcall_pure 146 _ _ rfl (meant_ok d) (by unfold meantV; split <;> rfl), key]
      unfold meantV
      cases hmd : meantM d with
      | none =>
       dsimp only
       rw [vext_tup _ 0 _ rfl, vext_tup _ 1 _ rfl, vnot]
       exact text_bad h cs 11 hh hc (orc S (lim tab.get S)) 64
      | some x =>
       dsimp only
       rw [vext_tup _ 0 _ rfl, vext_tup _ 1 _ rfl, vnot, vif_kB, if_neg (by decide)]
       exact go x (i + 1) (by omega) (by omega) 68 (by decide) (by decide) (by decide) 67
     ·rw [if_neg (by rw [decide_eq_true_eq]; omega), plain (fun q => h5 q.2)]
      exact go c i (by omega) (by omega) 22 (by decide) (by decide) (by decide) 21
    ·have e4 : decide ((c.toNat : Int) = 92) = false := decide_eq_false (by omega)
     simp only [e4, vguard_ft, vpick_f, vif_f]
     rw [plain (fun q => h4 q.1)]
     exact go c i (by omega) (by omega) 22 (by decide) (by decide) (by decide) 21
  ·rw [w121_1, b121_1, vlen_s, vbin_lss, vif_kB, if_neg (by rw [decide_eq_true_eq]; omega), w121_3, b121_3, text_bad h cs 11 hh hc]
   rw [List.drop_eq_nil_of_le (by omega)]; rfl
def textM (s : List UInt8) : One := textGo (s.drop 1) [] 1
theorem text_ok (s : List UInt8) (hs : s.length ≤ 1073741824) (h1 : 1 ≤ s.length) : Om 121 [kS s] [] = some ((textM s).val, []) := by
 refine (orc_none rfl).trans ?_
 show lim tab.get S 121 0 0 [kS s] h0 = _
 rw [w121_0, b121_0, valloc]
 exact text_loop s hs s.length 1 [] _ _ _ (by omega) h1 (by simp) (Grow.nil _ 1 _) (Heap.own_get _ _ _ _ (by decide) (fun e => by cases e)) rfl
end Go.Proofs.YtnlmlcfipbnpgaaDoor.Ab
