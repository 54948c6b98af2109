/- Words of sources: the contracts of scan's sign, one, Tokens. -/
import Derived.Test.YtnlmlcfipbnpgaaDoorSpB
set_option linter.all false
set_option linter.unusedVariables false
set_option linter.unusedSimpArgs false
set_option maxRecDepth 100000
namespace Go.Proofs.YtnlmlcfipbnpgaaDoor.Ab
open Go Go.AI
def isSingle (n : Nat) : Bool := Nat.beq n 123 || Nat.beq n 125 || Nat.beq n 60 || Nat.beq n 62 || Nat.beq n 44 || Nat.beq n 58 || Nat.beq n 40 || Nat.beq n 41 || Nat.beq n 46 || Nat.beq n 36 || Nat.beq n 124 || Nat.beq n 61 || Nat.beq n 59
def isBlank (n : Nat) : Bool := Nat.beq n 32 || Nat.beq n 9 || Nat.beq n 10 || Nat.beq n 13
theorem single_ok (b : UInt8) : Om 84 [kS [123, 125, 60, 62, 44, 58, 40, 41, 46, 36, 124, 61, 59], kS [b]] [] = some (kB (isSingle b.toNat), []) := by
 refine (orc_none rfl).trans ?_
 have := byte_boolA (T := tab.get) (S := S) blks_ok (f := 84) (p := isSingle) (N := 60) (av := fun n => [kS [123, 125, 60, 62, 44, 58, 40, 41, 46, 36, 124, 61, 59], kS [UInt8.ofNat n]]) (by kernel_rfl) b
 rw [UInt8.ofNat_toNat] at this
 exact this
theorem blank_ok (b : UInt8) : Om 84 [kS [32, 9, 10, 13], kS [b]] [] = some (kB (isBlank b.toNat), []) := by
 refine (orc_none rfl).trans ?_
 have := byte_boolA (T := tab.get) (S := S) blks_ok (f := 84) (p := isBlank) (N := 60) (av := fun n => [kS [32, 9, 10, 13], kS [UInt8.ofNat n]]) (by kernel_rfl) b
 rw [UInt8.ofNat_toNat] at this
 exact this
theorem fields_ok : Om 147 [kS [45, 62, 32, 58, 61]] [] = some (.v (.c (.p (.slice 1 true [[.str [45, 62]], [.str [58, 61]]]))), []) :=
 (orc_none rfl).trans (machU_le blks_ok 200 147 0 0 _ _ _ (by kernel_rfl))
def two1 : List UInt8 := [45, 62]
def two2 : List UInt8 := [58, 61]
def signM (s : List UInt8) : One :=
 if s.take 2 = two1 then ⟨⟨4, two1, 0, 0⟩, 2, 0⟩ else if s.take 2 = two2 then ⟨⟨4, two2, 0, 0⟩, 2, 0⟩
 else match s with
  | [] => bad 11
  | c :: _ => if isSingle c.toNat then ⟨⟨4, [c], 0, 0⟩, 1, 0⟩ else bad 11
theorem sign_end (s : List UInt8) (c : UInt8) (t : List UInt8) (hs : s = c :: t) (h : Heap) (cs : List Cell) (hh : h.get (.own 2 1) = some (.cells cs 0)) (hc : cs.length = 4) :
  lim tab.get S 122 0 2 [kS s, .v (.c (.ptr (.own 2 1) 0))] h = some ((if isSingle c.toNat then ⟨⟨4, [c], 0, 0⟩, 1, 0⟩ else bad 11 : One).val, []) := by
 have hl : 1 ≤ s.length := by rw [hs]; simp
 have e1 : s.take 1 = [c] := by rw [hs]; rfl
 have e2 : kI 1 = kI ((1 : Nat) : Int) := rfl
 have sl := fun (O : Oracle) (h : Heap) (d : Nat) (k : TVal → Heap → Res1) => vslice_h (O := O) (h := h) (d := d) (k := k) s 1 hl
 rw [w122_2, b122_2]
 rw [show (∀ (O : Oracle) (h : Heap) (d : Nat) (k : TVal → Heap → Res1), vop O (.slice 0 true (.k (kS s)) none (some (.k (kI 1))) none) h d k = k (kS (s.take 1)) h) from sl]
 rw [e1, vcall_pure 84 _ _ rfl (single_ok c) rfl, vnot, vif_kB]
 cases hp : isSingle c.toNat with
 | false => rw [if_pos (show (!false) = true from rfl)]; exact text_bad h cs 11 hh hc (orc S (lim tab.get S)) 25
 | true =>
  rw [if_neg (show ¬ (!true) = true by decide)]
  rw [show (∀ (O : Oracle) (h : Heap) (d : Nat) (k : TVal → Heap → Res1), vop O (.slice 0 true (.k (kS s)) none (some (.k (kI 1))) none) h d k = k (kS (s.take 1)) h) from sl]
  rw [e1, vbuild _ _ (Tok.cells ⟨4, [c], 0, 0⟩) rfl, store_cell 4 2 1 _ cs _ _ hh (by decide) hc rfl, tcomp_c, tcomp_c, vfin_pure _ _ rfl]
  rfl
theorem sign_ok (s : List UInt8) (hs : 1 ≤ s.length) : Om 122 [kS s] [] = some ((signM s).val, []) := by
 obtain ⟨c, t, hct⟩ : ∃ c t, s = c :: t := by cases s with
  | nil => simp at hs
  | cons c t => exact ⟨c, t, rfl⟩
 refine (orc_none rfl).trans ?_
 show lim tab.get S 122 0 0 [kS s] h0 = _
 rw [w122_0, b122_0, valloc, vcall_pure 147 _ _ rfl fields_ok rfl, vlen_sl]
 have hh := Heap.own_get h0 2 (h0.gen 2 + 1) (.cells [.p (.int .i64 0), .p (.str []), .p (.int .i64 0), .p (.int .i64 0)] 0) (by decide) (fun e => by cases e)
 generalize (h0.own 2 (h0.gen 2 + 1) (.cells [.p (.int .i64 0), .p (.str []), .p (.int .i64 0), .p (.int .i64 0)] 0)) = h at hh
 have step : ∀ (i : Nat) (two : List UInt8), [[PVal.str [45, 62]], [PVal.str [58, 61]]][i]? = some [.str two] → two.length = 2 → i ≤ 1 →
   lim tab.get S 122 0 1 [kS s, .v (.c (.ptr (.own 2 (h0.gen 2 + 1)) 0)), .v (.c (.p (.slice 1 true [[.str [45, 62]], [.str [58, 61]]]))), kI (2 : Nat), kI (i : Int)] h =
    if s.take 2 = two then some ((⟨⟨4, two, 0, 0⟩, 2, 0⟩ : One).val, []) else lim tab.get S 122 0 1 [kS s, .v (.c (.ptr (.own 2 (h0.gen 2 + 1)) 0)), .v (.c (.p (.slice 1 true [[.str [45, 62]], [.str [58, 61]]]))), kI (2 : Nat), kI ((i + 1 : Nat) : Int)] h := by
  intro i two hi htl hi1
  rw [w122_1, b122_1, vbin_lss, vif_kB, if_pos (decide_eq_true (by omega)), viaddr_sl 1 _ _ i _ hi, vload_pptr 1 0 _ (.str two) rfl, vcall_pure 99 _ _ rfl (hasPrefix2_ok s two) rfl, vif_kB, htl]
  by_cases he : s.take 2 = two
  ·rw [if_pos (decide_eq_true he), if_pos he, vbuild _ _ (Tok.cells ⟨4, two, 0, 0⟩) rfl, vlen_s, htl, store_cell 4 2 _ _ _ _ _ hh (by decide) rfl rfl, tcomp_c, tcomp_c, vfin_pure _ _ rfl]
   rfl
  ·rw [if_neg (by rw [decide_eq_true_eq]; exact he), if_neg he, vbin_add, wrap_i64 _ (by omega) (by omega)]
   rfl
 have s0 := step 0 [45, 62] rfl rfl (by omega)
 have s1 := step 1 [58, 61] rfl rfl (by omega)
 show lim tab.get S 122 0 1 [_, _, _, kI (2 : Nat), kI ((0 : Nat) : Int)] h = _
 rw [s0, s1]
 unfold signM two1 two2
 split
 ·rfl
 split
 ·rfl
 rw [w122_1, b122_1, vbin_lss, vif_kB, if_neg (by rw [decide_eq_true_eq]; omega)]
 refine (sign_end s c t hct h _ hh rfl).trans ?_
 rw [hct]
end Go.Proofs.YtnlmlcfipbnpgaaDoor.Ab
