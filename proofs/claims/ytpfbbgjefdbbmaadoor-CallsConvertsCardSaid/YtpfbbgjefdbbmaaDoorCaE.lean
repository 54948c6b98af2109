/- CallsConverts, whatever the numbers. -/
import Derived.Test.YtpfbbgjefdbbmaaDoorCaD
set_option linter.all false
set_option linter.unusedVariables false
set_option linter.unusedSimpArgs false
set_option maxRecDepth 100000
namespace Go.Proofs.YtpfbbgjefdbbmaaDoor.Ab
open Go Go.AI
def nmsC : List (List UInt8) := [[105, 56], [117, 56], [105, 49, 54], [117, 49, 54], [105, 51, 50], [117, 51, 50]]
def btsC : List Nat := [8, 8, 16, 16, 32, 32]
abbrev nmsV : TVal := kSl 1 true (nmsC.map fun s => [.str s])
abbrev btsV : TVal := kSl 1 true (btsC.map fun n : Nat => [PVal.int .u64 (n : Int)])
/-- What a narrow conversion is: within its bounds, itself within them, and it looks at its low bits alone. -/
structure Narrow (nm : List UInt8) (bt : Nat) (ls ms : Int) : Prop where
 mem : nm ∈ names6
 lo : ∀ a, ls ≤ conv6 nm a
 hi : ∀ a, conv6 nm a ≤ ms
 same : ∀ a, ls ≤ a → a ≤ ms → conv6 nm a = a
 low : ∀ a, conv6 nm a % (2 : Int) ^ bt = a % (2 : Int) ^ bt
 by_low : ∀ a b, a % (2 : Int) ^ bt = b % (2 : Int) ^ bt → conv6 nm a = conv6 nm b
 bits : bt = 8 ∨ bt = 16 ∨ bt = 32
theorem conv6_K (nm : List UInt8) (a : Int) : conv6 nm a = (kindOf6 nm).wrap a := (wrap_narrow _ (kind6_mem nm) a).1
theorem narrow_of (nm : List UInt8) (hm : nm ∈ names6) (bt : Nat) (sg : Bool) (hb : bt = 8 ∨ bt = 16 ∨ bt = 32)
  (hw : ∀ z : Int, (kindOf6 nm).wrap z = if (sg && decide (z % (2 ^ bt : Int) ≥ (2 ^ (bt - 1) : Int))) = true then z % (2 ^ bt : Int) - (2 ^ bt : Int) else z % (2 ^ bt : Int)) :
  Narrow nm bt (if sg then -(2 : Int) ^ (bt - 1) else 0) (if sg then (2 : Int) ^ (bt - 1) - 1 else (2 : Int) ^ bt - 1) := by
 have p8 : (2 : Int) ^ 8 = 256 := by decide
 have p7 : (2 : Int) ^ 7 = 128 := by decide
 have p16 : (2 : Int) ^ 16 = 65536 := by decide
 have p15 : (2 : Int) ^ 15 = 32768 := by decide
 have p32 : (2 : Int) ^ 32 = 4294967296 := by decide
 have p31 : (2 : Int) ^ 31 = 2147483648 := by decide
 refine ⟨hm, fun a => ?_, fun a => ?_, fun a h1 h2 => ?_, fun a => ?_, fun a b h => ?_, hb⟩ <;> rw [conv6_K] <;> (try rw [conv6_K]) <;> rw [hw] <;> (try rw [hw]) <;> rcases hb with rfl | rfl | rfl <;> cases sg <;> simp only [Bool.true_and, Bool.false_and, decide_eq_true_eq, p8, p7, p16, p15, p32, p31, Nat.reduceSub, if_true, if_false, Bool.false_eq_true] at * <;> (try split) <;> (try split) <;> omega
theorem low_add (nm : List UInt8) (bt : Nat) (ls ms : Int) (N : Narrow nm bt ls ms) (a b : Int) : conv6 nm (reckonM nAdd (conv6 nm a) (conv6 nm b)) = conv6 nm (reckonM nAdd a b) := by
 have e : ∀ x y, reckonM nAdd x y = IntKind.i64.wrap (x + y) := fun x y => by simp [reckonM]
 have hw : ∀ z : Int, IntKind.i64.wrap z % (2 : Int) ^ bt = z % (2 : Int) ^ bt := fun z => by
  have e64 : IntKind.i64.wrap z = if 9223372036854775808 ≤ z % 18446744073709551616 then z % 18446744073709551616 - 18446744073709551616 else z % 18446744073709551616 := by
   show (if (true && decide (z % (2 ^ 64 : Int) ≥ (2 ^ 63 : Int))) = true then z % (2 ^ 64 : Int) - (2 ^ 64 : Int) else z % (2 ^ 64 : Int)) = _
   simp only [Bool.true_and, decide_eq_true_eq]; rfl
  have p8 : (2 : Int) ^ 8 = 256 := by decide
  have p16 : (2 : Int) ^ 16 = 65536 := by decide
  have p32 : (2 : Int) ^ 32 = 4294967296 := by decide
  rw [e64]
  rcases N.bits with h | h | h <;> subst h <;> simp only [p8, p16, p32] <;> split <;> omega
 refine N.by_low _ _ ?_
 rw [e, e, hw, hw, Int.add_emod, N.low, N.low, ← Int.add_emod]
theorem low_mul (nm : List UInt8) (bt : Nat) (ls ms : Int) (N : Narrow nm bt ls ms) (a b : Int) : conv6 nm (reckonM nMul (conv6 nm a) (conv6 nm b)) = conv6 nm (reckonM nMul a b) := by
 have e : ∀ x y, reckonM nMul x y = IntKind.i64.wrap (x * y) := fun x y => by simp [reckonM, nAdd, nSub, nMul]
 have hw : ∀ z : Int, IntKind.i64.wrap z % (2 : Int) ^ bt = z % (2 : Int) ^ bt := fun z => by
  have e64 : IntKind.i64.wrap z = if 9223372036854775808 ≤ z % 18446744073709551616 then z % 18446744073709551616 - 18446744073709551616 else z % 18446744073709551616 := by
   show (if (true && decide (z % (2 ^ 64 : Int) ≥ (2 ^ 63 : Int))) = true then z % (2 ^ 64 : Int) - (2 ^ 64 : Int) else z % (2 ^ 64 : Int)) = _
   simp only [Bool.true_and, decide_eq_true_eq]; rfl
  have p8 : (2 : Int) ^ 8 = 256 := by decide
  have p16 : (2 : Int) ^ 16 = 65536 := by decide
  have p32 : (2 : Int) ^ 32 = 4294967296 := by decide
  rw [e64]
  rcases N.bits with h | h | h <;> subst h <;> simp only [p8, p16, p32] <;> split <;> omega
 refine N.by_low _ _ ?_
 rw [e, e, hw, hw, Int.mul_emod, N.low, N.low, ← Int.mul_emod]
theorem low_and (nm : List UInt8) (bt : Nat) (ls ms : Int) (N : Narrow nm bt ls ms) (a : Int) : IntKind.i64.wrap (BitVec.ofInt 64 (IntKind.i64.wrap (conv6 nm a - a)) &&& BitVec.ofInt 64 (IntKind.i64.wrap (IntKind.i64.wrap (1 * 2 ^ (min bt 64)) - 1))).toNat = 0 := by
 have e64 : ∀ z : Int, IntKind.i64.wrap z = if 9223372036854775808 ≤ z % 18446744073709551616 then z % 18446744073709551616 - 18446744073709551616 else z % 18446744073709551616 := fun z => by
  show (if (true && decide (z % (2 ^ 64 : Int) ≥ (2 ^ 63 : Int))) = true then z % (2 ^ 64 : Int) - (2 ^ 64 : Int) else z % (2 ^ 64 : Int)) = _
  simp only [Bool.true_and, decide_eq_true_eq]; rfl
 have hl := N.low a
 have hz : ∀ (z : Int) (n : Nat), z % (2 : Int) ^ bt = 0 → n = 2 ^ bt - 1 → bt ≤ 32 → (BitVec.ofInt 64 z &&& BitVec.ofInt 64 (n : Int)).toNat = 0 := by
  intro z n h1 h2 h3
  rw [BitVec.toNat_and]
  have e2 : (BitVec.ofInt 64 (n : Int)).toNat = 2 ^ bt - 1 := by
   rw [BitVec.toNat_ofInt, h2]
   rcases N.bits with h | h | h <;> subst h <;> rfl
  rw [e2, Nat.and_two_pow_sub_one_eq_mod, BitVec.toNat_ofInt]
  have p8 : (2 : Int) ^ 8 = 256 := by decide
  have p16 : (2 : Int) ^ 16 = 65536 := by decide
  have p32 : (2 : Int) ^ 32 = 4294967296 := by decide
  rcases N.bits with h | h | h <;> subst h <;> simp only [p8, p16, p32] at h1 <;> simp only [Nat.reducePow] <;> omega
 have hk : IntKind.i64.wrap (IntKind.i64.wrap (1 * 2 ^ (min bt 64)) - 1) = ((2 ^ bt - 1 : Nat) : Int) := by
  rcases N.bits with h | h | h <;> subst h <;> rfl
 have hd : IntKind.i64.wrap (conv6 nm a - a) % (2 : Int) ^ bt = 0 := by
  rw [e64]
  have p8 : (2 : Int) ^ 8 = 256 := by decide
  have p16 : (2 : Int) ^ 16 = 65536 := by decide
  have p32 : (2 : Int) ^ 32 = 4294967296 := by decide
  rcases N.bits with h | h | h <;> subst h <;> simp only [p8, p16, p32] at hl ⊢ <;> split <;> omega
 rw [hk, hz _ _ hd rfl (by rcases N.bits with h | h | h <;> omega)]
 rfl
theorem row_narrow (i : Nat) (hi : i < 6) : ∃ nm bt ls ms, nmsC[i]? = some nm ∧ btsC[i]? = some bt ∧ Narrow nm bt ls ms ∧ ∀ (R : Jump) (x8 x9 : TVal) (a b : Int) (h : Heap),
  (viaddr 1 btsV (kI (i : Int)) h fun x51 h =>
   vload false 1 x51 h fun x52 h =>
   vbin .shl 0 (kI 1) x52 h fun x53 h =>
   vbin .sub 0 x53 (kI 1) h fun x54 h =>
   vbin .rem 0 (kI (i : Int)) (kI 2) h fun x56 h =>
   vbin .eql 0 x56 (kI 0) h fun x57 h =>
   vif x57 (
   viaddr 1 btsV (kI (i : Int)) h fun x60 h =>
   vload false 1 x60 h fun x61 h =>
   vbin .sub 0 x61 (.v (.c (.p (.int .u64 1)))) h fun x62 h =>
   vbin .shl 0 (kI 1) x62 h fun x63 h =>
   vbin .sub 0 (kI 0) x63 h fun x64 h =>
   viaddr 1 btsV (kI (i : Int)) h fun x67 h =>
   vload false 1 x67 h fun x68 h =>
   vbin .sub 0 x68 (.v (.c (.p (.int .u64 1)))) h fun x69 h =>
   vbin .shl 0 (kI 1) x69 h fun x70 h =>
   vbin .sub 0 x70 (kI 1) h fun x71 h =>
   R 2 [kI a, kI b, nmsV, btsV, kI (i : Int), x8, x9, x64, x71] h)
   (R 2 [kI a, kI b, nmsV, btsV, kI (i : Int), x8, x9, (kI 0), x54] h)) = R 2 [kI a, kI b, nmsV, btsV, kI (i : Int), x8, x9, kI ls, kI ms] h := by
 have h6 : i = 0 ∨ i = 1 ∨ i = 2 ∨ i = 3 ∨ i = 4 ∨ i = 5 := by omega
 rcases h6 with h | h | h | h | h | h <;> subst h
 ·exact ⟨_, 8, _, _, rfl, rfl, narrow_of [105, 56] (by decide) 8 true (by decide) (fun z => rfl), fun R x8 x9 a b h => by kernel_rfl⟩
 ·exact ⟨_, 8, _, _, rfl, rfl, narrow_of [117, 56] (by decide) 8 false (by decide) (fun z => rfl), fun R x8 x9 a b h => by kernel_rfl⟩
 ·exact ⟨_, 16, _, _, rfl, rfl, narrow_of [105, 49, 54] (by decide) 16 true (by decide) (fun z => rfl), fun R x8 x9 a b h => by kernel_rfl⟩
 ·exact ⟨_, 16, _, _, rfl, rfl, narrow_of [117, 49, 54] (by decide) 16 false (by decide) (fun z => rfl), fun R x8 x9 a b h => by kernel_rfl⟩
 ·exact ⟨_, 32, _, _, rfl, rfl, narrow_of [105, 51, 50] (by decide) 32 true (by decide) (fun z => rfl), fun R x8 x9 a b h => by kernel_rfl⟩
 ·exact ⟨_, 32, _, _, rfl, rfl, narrow_of [117, 51, 50] (by decide) 32 false (by decide) (fun z => rfl), fun R x8 x9 a b h => by kernel_rfl⟩
/-- One conversion's result, kept at a slot, all within a choice of order. -/
theorem keepT (d : Nat) (hd : d + 1 < 1048576) (n : Int) (h : Heap) : ∃ g h', h'.get (.own d g) = some (.cells (pcells (vrow n)) 0) ∧ (∀ e g' o, e ≠ d → h.get (.own e g') = some o → h'.get (.own e g') = some o) ∧
  ∀ (O : Oracle) (d1 d2 d3 d4 d5 : Nat) (k : TVal → TVal → Heap → Go.AI.Touch → Go.AI.Touch → Go.AI.Touch → Go.AI.Touch → Go.AI.Touch → Go.AI.Touch → Res1), (vtouch O (.mv (.k (evV (vrow n)))) h d1 fun x h ta =>
   vtouch O (.extract (.k x) 0) h d2 fun y h tb =>
   vtouch O (.extract (.k x) 1) h d3 fun z h tc =>
   vtouch O (.alloc z6 false) h d fun p h td =>
   vtouch O (.store 6 (.k p) (.k y)) h d4 fun _ h te =>
   vtouch O (.mv (.k z)) h d5 fun w h tf => k p w h ta tb tc td te tf) = k (.v (.c (.ptr (.own d g) 0))) (kI 0) h' noTouch noTouch noTouch ⟨[], [.own d], false⟩ ⟨[Ref.site (.own d g)], [Ref.site (.own d g)], false⟩ noTouch := by
 have ex : ∀ v : Int, plan .nil (.extract (.k (evV (vrow v))) 0) = some (.pure (.v (.agg (pcells (vrow v))))) ∧ plan .nil (.extract (.k (evV (vrow v))) 1) = some (.pure (kI 0)) := fun v => ⟨rfl, rfl⟩
 refine ⟨h.gen d + 1, (h.own d (h.gen d + 1) (.cells z6 0)).own d (h.gen d + 1) (.cells (pcells (vrow n)) 0), Heap.own_get _ _ _ _ hd (fun e => by cases e), fun e g' o he ho => ?_, fun O d1 d2 d3 d4 d5 k => ?_⟩
 ·exact (Heap.own_get_ne _ d _ _ e g' (Ne.symm he)).trans ((Heap.own_get_ne _ d _ _ e g' (Ne.symm he)).trans ho)
 ·rw [vtouch_plan (.mv (.k (evV (vrow n)))) _ rfl, vtouch_plan _ _ (ex n).1, vtouch_plan _ _ (ex n).2, vtouch_alloc,
   vtouch_store 6 (.own d (h.gen d + 1)) 0 0 _ (.agg (pcells (vrow n))) (Heap.own_get _ _ _ _ hd (fun e => by cases e)) (by decide) rfl (by decide), Heap.put_own, show splice z6 0 (Comp.agg (pcells (vrow n))).cells = pcells (vrow n) from rfl, vtouch_plan (.mv (.k (kI 0))) _ rfl]
theorem one_mul (a b : Int) : Om 11 [kS [109, 117, 108], kSl 6 true [vrow a, vrow b]] [] = some (evV (vrow (reckonM nMul a b)), []) := one2 nMul a b (by decide)
theorem cond_tail (a ls ms va : Int) (h : Heap) (r : Ref) (k : TVal → Heap → Res1) (f8 : h.get r = some (.cells (pcells (vrow va)) 0)) (hs : ls ≤ a → a ≤ ms → va = a) :
  (vguard (kB false) false (fun kk => kk (kI a) h) h fun x101 h =>
  vguard (kB false) false (fun kk => kk (kI ls) h) h fun x102 h =>
  vguard (kB false) false (fun kk => vbin .geq 0 x101 x102 h kk) h fun x103 h =>
  vguard (kB false) false (fun kk => kk x103 h) h fun x104 h =>
  vguard x104 true (fun kk => kk (kI a) h) h fun x105 h =>
  vguard x104 true (fun kk => kk (kI ms) h) h fun x106 h =>
  vguard x104 true (fun kk => vbin .leq 0 x105 x106 h kk) h fun x107 h =>
  vguard (kB false) false (fun kk => vop Om (.pick (.k x104) (.k x107) (.k (kB false))) h 108 kk) h fun x108 h =>
  vguard (kB false) false (fun kk => kk x108 h) h fun x109 h =>
  vguard x109 true (fun kk => vfaddr 2 (.v (.c (.ptr r 0))) h kk) h fun x110 h =>
  vguard x109 true (fun kk => vload false 1 x110 h kk) h fun x111 h =>
  vguard x109 true (fun kk => kk (kI a) h) h fun x112 h =>
  vguard x109 true (fun kk => vbin .neq 0 x111 x112 h kk) h fun x113 h =>
  vguard (kB false) false (fun kk => vop Om (.pick (.k x109) (.k x113) (.k (kB false))) h 114 kk) h fun x114 h =>
  vop Om (.pick (.k (kB false)) (.k (kB true)) (.k x114)) h 115 fun x115 h => k x115 h) = k (kB false) h := by
 simp only [vguard_ff]
 rw [vbin_geq]
 by_cases h1 : a < ls
 ·rw [decide_eq_true h1]
  simp only [Bool.not_true, vguard_ft, vguard_ff, vpick_f]
 ·rw [decide_eq_false h1]
  simp only [Bool.not_false, vguard_tt, vguard_ff]
  rw [vbin_leq]
  by_cases h2 : ms < a
  ·rw [decide_eq_true h2]
   simp only [Bool.not_true, vguard_ft, vguard_ff, vpick_f, vpick_t]
  ·rw [decide_eq_false h2]
   simp only [Bool.not_false, vpick_t, vguard_tt, vfaddr_ptr]
   rw [vload_one 1 _ _ 0 _ (.p (.int .i64 va)) f8 rfl, vbin_neq, decide_eq_true (hs (by omega) (by omega))]
   simp only [Bool.not_true, vpick_t, vpick_f]
theorem conv_iter (a b : Int) (i : Nat) (hi : i < 6) (h : Heap) : ∃ h', lim tab.get S 5 0 1 [kI a, kI b, nmsV, btsV, kI (i : Int)] h = lim tab.get S 5 0 1 [kI a, kI b, nmsV, btsV, kI ((i + 1 : Nat) : Int)] h' := by
 obtain ⟨nm, bt, ls, ms, en, eb, N, tl⟩ := row_narrow i hi
 have hnm := N.mem
 have rn : (nmsC.map fun s => [PVal.str s])[i]? = some [.str nm] := by rw [List.getElem?_map, en]; rfl
 have rb : (btsC.map fun n : Nat => [PVal.int .u64 (n : Int)])[i]? = some [.int .u64 (bt : Int)] := by rw [List.getElem?_map, eb]; rfl
 have iad : plan .nil (.iaddr 1 (.k nmsV) (.k (kI (i : Int)))) = some (.pure (.v (.c (.p (.pptr [.str nm] 0))))) := by
  simp [plan, X.ev, asN, rn]
 have ld : plan .nil (.load false 1 (.k (.v (.c (.p (.pptr [.str nm] 0)))))) = some (.pure (kS nm)) := rfl
 have c12 := fun (v : Int) (h : Heap) (d : Nat) (k : TVal → Heap → Go.AI.Touch → Res1) => vtouch_call (O := Om) (h := h) (d := d) (k := k) 12 [kI v] (.v (.agg (pcells (vrow v)))) rfl (num_ok v) rfl
 have c11 := fun (v : Int) (h : Heap) (d : Nat) (k : TVal → Heap → Go.AI.Touch → Res1) => vtouch_call (O := Om) (h := h) (d := d) (k := k) 11 [kS nm, kSl 6 true [vrow v]] (evV (vrow (conv6 nm v))) rfl (one1 nm v hnm) rfl
 have z : decide ((0 : Int) = 0) = true := rfl
 have dr : ∀ v : Int, ((pcells (vrow v)).drop 0).take 6 = pcells (vrow v) := fun v => rfl
 obtain ⟨g8, H1, f8, K1, t1⟩ := keepT 8 (by decide) (conv6 nm a) h
 obtain ⟨g12, H2, f12, K2, t2⟩ := keepT 12 (by decide) (conv6 nm b) H1
 obtain ⟨g14, H3, f14, K3, o3⟩ := keepO 14 (by decide) (reckonM nAdd (conv6 nm a) (conv6 nm b)) H2
 obtain ⟨g16, H4, f16, K4, o4⟩ := keepO 16 (by decide) (reckonM nAdd a b) H3
 obtain ⟨g18, H5', f18, K5, o5'⟩ := keepO 18 (by decide) (reckonM nMul (conv6 nm a) (conv6 nm b)) H4
 obtain ⟨g20, H6, f20, K6, o6⟩ := keepO 20 (by decide) (reckonM nMul a b) H5'
 obtain ⟨g22, H7, f22, K7, t7⟩ := keepT 22 (by decide) (conv6 nm (reckonM nAdd (conv6 nm a) (conv6 nm b))) H6
 obtain ⟨g24, H8, f24, K8, t8⟩ := keepT 24 (by decide) (conv6 nm (reckonM nAdd a b)) H7
 obtain ⟨g26, H9, f26, K9, t9'⟩ := keepT 26 (by decide) (conv6 nm (reckonM nMul (conv6 nm a) (conv6 nm b))) H8
 obtain ⟨g28, H10, f28, K10, t10'⟩ := keepT 28 (by decide) (conv6 nm (reckonM nMul a b)) H9
 refine ⟨H10, ?_⟩
 have f8' := K2 _ _ _ (by decide) f8
 have f8'' := K4 _ _ _ (by decide) (K3 _ _ _ (by decide) f8')
 have f12'' := K4 _ _ _ (by decide) (K3 _ _ _ (by decide) f12)
 have f14' := K6 _ _ _ (by decide) (K5 _ _ _ (by decide) (K4 _ _ _ (by decide) f14))
 have f16' := K7 _ _ _ (by decide) (K6 _ _ _ (by decide) (K5 _ _ _ (by decide) f16))
 have f18' := K8 _ _ _ (by decide) (K7 _ _ _ (by decide) (K6 _ _ _ (by decide) f18))
 have f20' := K9 _ _ _ (by decide) (K8 _ _ _ (by decide) (K7 _ _ _ (by decide) f20))
 have f22' := K10 _ _ _ (by decide) (K9 _ _ _ (by decide) (K8 _ _ _ (by decide) f22))
 have f24' := K10 _ _ _ (by decide) (K9 _ _ _ (by decide) f24)
 have f26' := K10 _ _ _ (by decide) f26
 have bifA : ∀ (d : Nat) (g : Nat) (A B : Res1), (bif apartAll [noTouch, noTouch, noTouch, noTouch, noTouch, noTouch, noTouch, noTouch, noTouch, noTouch, noTouch, ⟨[], [.own d], false⟩, ⟨[Ref.site (.own d g)], [Ref.site (.own d g)], false⟩, noTouch] [(3, 5), (3, 6), (3, 11), (5, 11), (6, 11), (7, 11)] then A else B) = A := fun d g A B => rfl
 have bif1 : ∀ (A B : Res1), (bif apartAll [noTouch, noTouch, noTouch, noTouch, ⟨[Ref.site (.own 14 g14)], [], false⟩, noTouch, noTouch, noTouch, noTouch, noTouch, ⟨[], [.own 22], false⟩, ⟨[Ref.site (.own 22 g22)], [Ref.site (.own 22 g22)], false⟩, noTouch] [(3, 5), (3, 10), (4, 10), (5, 10), (6, 10)] then A else B) = A := fun A B => rfl
 have bif2 : ∀ (A B : Res1), (bif apartAll [noTouch, noTouch, noTouch, noTouch, ⟨[Ref.site (.own 16 g16)], [], false⟩, noTouch, noTouch, noTouch, noTouch, noTouch, ⟨[], [.own 24], false⟩, ⟨[Ref.site (.own 24 g24)], [Ref.site (.own 24 g24)], false⟩, noTouch] [(3, 5), (3, 10), (4, 10), (5, 10), (6, 10)] then A else B) = A := fun A B => rfl
 have bif3 : ∀ (A B : Res1), (bif apartAll [noTouch, noTouch, noTouch, noTouch, ⟨[Ref.site (.own 18 g18)], [], false⟩, noTouch, noTouch, noTouch, noTouch, noTouch, ⟨[], [.own 26], false⟩, ⟨[Ref.site (.own 26 g26)], [Ref.site (.own 26 g26)], false⟩, noTouch] [(3, 5), (3, 10), (4, 10), (5, 10), (6, 10)] then A else B) = A := fun A B => rfl
 have bif4 : ∀ (A B : Res1), (bif apartAll [noTouch, noTouch, noTouch, noTouch, ⟨[Ref.site (.own 20 g20)], [], false⟩, noTouch, noTouch, noTouch, noTouch, noTouch, ⟨[], [.own 28], false⟩, ⟨[Ref.site (.own 28 g28)], [Ref.site (.own 28 g28)], false⟩, noTouch] [(3, 5), (3, 10), (4, 10), (5, 10), (6, 10)] then A else B) = A := fun A B => rfl
 rw [w5_1, b5_1, vbin_lss, decide_eq_true (show (i : Int) < 6 by omega), vif_t,
  vtouch_plan (.mv (.k nmsV)) _ rfl, vtouch_plan (.mv (.k (kI (i : Int)))) _ rfl, vtouch_plan _ _ iad, vtouch_plan _ _ ld, vtouch_plan (.mv (.k (kI a))) _ rfl]
 refine (c12 a _ _ _).trans ?_
 rw [vtouch_plan _ _ (bsl1 a)]
 refine (c11 a _ _ _).trans ?_
 refine (t1 _ _ _ _ _ _ _).trans ?_
 refine (bifA 8 g8 _ _).trans ?_
 refine (tl _ _ _ _ _ _).trans ?_
 rw [w5_2, b5_2, vbin_neq, z]
 simp only [Bool.not_true, vguard_ff, vfaddr_ptr]
 rw [vload_one 1 _ _ 0 _ (.p (.int .i64 (conv6 nm a))) f8 rfl, vbin_lss, decide_eq_false (Int.not_lt.mpr (N.lo a)), vpick_f]
 simp only [vguard_ff, vfaddr_ptr]
 rw [vload_one 1 _ _ 0 _ (.p (.int .i64 (conv6 nm a))) f8 rfl, vbin_gtr, decide_eq_false (Int.not_lt.mpr (N.hi a)), vpick_f]
 simp only [vguard_ff, vfaddr_ptr]
 rw [vload_one 1 _ _ 0 _ (.p (.int .i64 (conv6 nm a))) f8 rfl, vbin_sub, viaddr_sl 1 true _ i _ rb, vload_pptr _ _ _ (.int .u64 (bt : Int)) rfl, vbin_shl, vbin_sub, vbin_and, low_and nm bt ls ms N a, vbin_neq, z, Bool.not_true, vpick_f]
 refine (cond_tail a ls ms (conv6 nm a) H1 (.own 8 g8) _ f8 (fun x y => N.same a x y)).trans ?_
 rw [vif_f, vtouch_plan (.mv (.k nmsV)) _ rfl, vtouch_plan (.mv (.k (kI (i : Int)))) _ rfl, vtouch_plan _ _ iad, vtouch_plan _ _ ld, vtouch_plan (.mv (.k (kI b))) _ rfl]
 refine (c12 b _ _ _).trans ?_
 rw [vtouch_plan _ _ (bsl1 b)]
 refine (c11 b _ _ _).trans ?_
 refine (t2 _ _ _ _ _ _ _).trans ?_
 refine (bifA 12 g12 _ _).trans ?_
 rw [vload_agg 6 _ 0 0 _ f8' rfl, vload_agg 6 _ 0 0 _ f12 rfl, dr, dr, vplan _ _ (bsl2 (conv6 nm a) (conv6 nm b)), vcall_pure 11 _ _ rfl (one_add (conv6 nm a) (conv6 nm b)) rfl]
 refine (o3 _ _).trans ?_
 rw [vcall_pure 12 _ _ rfl (num_ok a) rfl, vcall_pure 12 _ _ rfl (num_ok b) rfl, vplan _ _ (bsl2 a b), vcall_pure 11 _ _ rfl (one_add a b) rfl]
 refine (o4 _ _).trans ?_
 rw [vload_agg 6 _ 0 0 _ f8'' rfl, vload_agg 6 _ 0 0 _ f12'' rfl, dr, dr, vplan _ _ (bsl2 (conv6 nm a) (conv6 nm b)), vcall_pure 11 _ _ rfl (one_mul (conv6 nm a) (conv6 nm b)) rfl]
 refine (o5' _ _).trans ?_
 rw [vcall_pure 12 _ _ rfl (num_ok a) rfl, vcall_pure 12 _ _ rfl (num_ok b) rfl, vplan _ _ (bsl2 a b), vcall_pure 11 _ _ rfl (one_mul a b) rfl]
 refine (o6 _ _).trans ?_
 rw [vtouch_plan (.mv (.k nmsV)) _ rfl, vtouch_plan (.mv (.k (kI (i : Int)))) _ rfl, vtouch_plan _ _ iad, vtouch_plan _ _ ld, vtouch_load_agg 6 (.own 14 g14) 0 0 _ f14' rfl, dr, vtouch_plan _ _ (bsl1 _)]
 refine (c11 _ _ _ _).trans ?_
 refine (t7 _ _ _ _ _ _ _).trans ?_
 refine (bif1 _ _).trans ?_
 rw [vtouch_plan (.mv (.k nmsV)) _ rfl, vtouch_plan (.mv (.k (kI (i : Int)))) _ rfl, vtouch_plan _ _ iad, vtouch_plan _ _ ld, vtouch_load_agg 6 (.own 16 g16) 0 0 _ f16' rfl, dr, vtouch_plan _ _ (bsl1 _)]
 refine (c11 _ _ _ _).trans ?_
 refine (t8 _ _ _ _ _ _ _).trans ?_
 refine (bif2 _ _).trans ?_
 rw [vtouch_plan (.mv (.k nmsV)) _ rfl, vtouch_plan (.mv (.k (kI (i : Int)))) _ rfl, vtouch_plan _ _ iad, vtouch_plan _ _ ld, vtouch_load_agg 6 (.own 18 g18) 0 0 _ f18' rfl, dr, vtouch_plan _ _ (bsl1 _)]
 refine (c11 _ _ _ _).trans ?_
 refine (t9' _ _ _ _ _ _ _).trans ?_
 refine (bif3 _ _).trans ?_
 rw [vtouch_plan (.mv (.k nmsV)) _ rfl, vtouch_plan (.mv (.k (kI (i : Int)))) _ rfl, vtouch_plan _ _ iad, vtouch_plan _ _ ld, vtouch_load_agg 6 (.own 20 g20) 0 0 _ f20' rfl, dr, vtouch_plan _ _ (bsl1 _)]
 refine (c11 _ _ _ _).trans ?_
 refine (t10' _ _ _ _ _ _ _).trans ?_
 refine (bif4 _ _).trans ?_
 simp only [vfaddr_ptr]
 rw [vload_one 1 _ _ 0 _ (.p (.int .i64 (conv6 nm (reckonM nAdd (conv6 nm a) (conv6 nm b))))) f22' rfl, vload_one 1 _ _ 0 _ (.p (.int .i64 (conv6 nm (reckonM nAdd a b)))) f24' rfl, vbin_neq, decide_eq_true (low_add nm bt ls ms N a b)]
 simp only [Bool.not_true, vguard_ff, vfaddr_ptr]
 rw [vload_one 1 _ _ 0 _ (.p (.int .i64 (conv6 nm (reckonM nMul (conv6 nm a) (conv6 nm b))))) f26' rfl, vload_one 1 _ _ 0 _ (.p (.int .i64 (conv6 nm (reckonM nMul a b)))) f28 rfl, vbin_neq, decide_eq_true (low_mul nm bt ls ms N a b), Bool.not_true, vpick_f, vif_f,
  vbin_add, wrap_i64 _ (by omega) (by omega), show ((i : Int) + 1) = ((i + 1 : Nat) : Int) by omega]
theorem conv_loop (a b : Int) : ∀ (m i : Nat) (h : Heap), i + m = 6 → lim tab.get S 5 0 1 [kI a, kI b, nmsV, btsV, kI (i : Int)] h = some (kB true, [])
 | 0, i, h, e => by
  have : i = 6 := by omega
  subst this
  rw [w5_1, b5_1, vbin_lss, decide_eq_false (by decide), vif_f, tcomp_c, vfin_pure _ _ rfl]; rfl
 | m + 1, i, h, e => by
  obtain ⟨h', e'⟩ := conv_iter a b i (by omega) h
  rw [e']
  exact conv_loop a b m (i + 1) h' (by omega)
/-- THE LAW. -/
theorem converts_law (a b : Int) : Om 5 [kI a, kI b] [] = some (kB true, []) := by
 refine (orc_none rfl).trans ?_
 show lim tab.get S 5 0 0 [kI a, kI b] h0 = _
 have p1 : plan .nil (.bslice 1 6 [(.p (.str []))] [(0, (.k (kS [105, 56]))), (1, (.k (kS [117, 56]))), (2, (.k (kS [105, 49, 54]))), (3, (.k (kS [117, 49, 54]))), (4, (.k (kS [105, 51, 50]))), (5, (.k (kS [117, 51, 50])))] false) = some (.pure nmsV) := by kernel_rfl
 have p2 : plan .nil (.bslice 1 6 [(.p (.int .u64 0))] [(0, (.k (.v (.c (.p (.int .u64 8)))))), (1, (.k (.v (.c (.p (.int .u64 8)))))), (2, (.k (.v (.c (.p (.int .u64 16)))))), (3, (.k (.v (.c (.p (.int .u64 16)))))), (4, (.k (.v (.c (.p (.int .u64 32)))))), (5, (.k (.v (.c (.p (.int .u64 32))))))] false) = some (.pure btsV) := by kernel_rfl
 rw [w5_0, b5_0, vcall_pure 9 _ _ rfl known_ok rfl, vnot, vif_kB, if_neg (by decide), vplan _ _ p1, vplan _ _ p2]
 exact conv_loop a b 6 0 h0 rfl
end Go.Proofs.YtpfbbgjefdbbmaaDoor.Ab
