/- A short text is put into quotes: data.quote, through strings.Replacer, its walk, and what it answers as an oracle. Own work; no condition. -/
import Derived.ArgAppend
import Derived.Below
import Derived.ChangeAlike
import Derived.Defers
import Derived.Laws.IdiomCopy
import Derived.Laws.IdiomStrings
import Derived.Laws.LoneSync
import Derived.Laws.MakeOwn
import Derived.Laws.NewBlocks
import Derived.Laws.Pointers
import Derived.Lib.LazyBuf
import Derived.Lib.SliceRun
import Derived.LoopN
import Derived.LoopTactic
import Derived.RangeFuncBox
import Derived.RegionCalls
import Derived.RegionTactic
import Derived.Tactics
import Derived.Tactics2
import Derived.WalkKit
import Derived.WalkSpells
import Derived.Test.YtiahgnkffnokfaaGreatDoorProg
import Derived.Test.YtiahgnkffnokfaaGreatDoorAd
set_option linter.all false
set_option linter.unusedVariables false
set_option linter.unusedSimpArgs false
set_option maxRecDepth 100000
namespace Go.Proofs.Quo
open Go Go.RowKit
def bsA (l : List UInt8) : Value := .string ⟨l.toArray⟩
def olds : List (List UInt8) := [[92], [92, 92], [34], [92, 34], [10], [92, 110], [9], [92, 116]]
theorem info_of {e : TypeId} {z : Option Value} {n b : Nat} (h : (Tryz.prog.info? e).map (fun i => (i.zero, i.size, i.bytes)) = some (z, n, b)) : ∃ i, Tryz.prog.info? e = some i ∧ i.zero = z ∧ i.size = n ∧ i.bytes = b := by
  obtain ⟨i, h1, h2⟩ := Option.map_eq_some_iff.1 h
  cases h2
  exact ⟨i, h1, rfl, rfl, rfl⟩
theorem info9 : ∃ i, Tryz.prog.info? 9 = some i ∧ i.zero = some (.string ⟨#[]⟩) ∧ i.size = 1 ∧ i.bytes = 16 := info_of (by kernel_rfl)
theorem cell_lt {w : World} {a : Addr} {v : Value} (h : w.cell? a = some v) : a.block < w.heap.size := World.block_lt_of_cell? _ _ h
structure St (w : World) (C D : Nat) (dn : List Nat) (n : Nat) (W : World) : Prop where
  bel : Below w.heap.size w W
  nl : ∀ j, j < 256 → j ∉ dn → W.cell? ⟨C, j, none⟩ = some (.slice none 0 0)
  an : ∀ j, j < 256 → (W.cell? ⟨C, j, none⟩).isSome = true
  tor : W.cell? ⟨C, 256, none⟩ = some (.slice (some ⟨D, 0, none⟩) n 4)
  fc : ∀ j, W.frozen? ⟨C, j, none⟩ = false
  dc : ∀ j, j < 4 → (W.cell? ⟨D, j, none⟩).isSome = true
  fd : ∀ j, W.frozen? ⟨D, j, none⟩ = false
  lC : w.heap.size ≤ C ∧ C < W.heap.size
  lD : w.heap.size ≤ D ∧ D < W.heap.size
  ne : C ≠ D
theorem St.alloc {w : World} {C D : Nat} {dn : List Nat} {n : Nat} {W : World} (H : St w C D dn n W) (o : Obj) : St w C D dn n (W.alloc o) where
  bel := H.bel.alloc H.bel.size _
  nl := fun j hj h => (World.cell?_alloc_past _ _ _ H.lC.2).trans (H.nl j hj h)
  an := fun j hj => by rw [World.cell?_alloc_past _ _ _ H.lC.2]; exact H.an j hj
  tor := (World.cell?_alloc_past _ _ _ H.lC.2).trans H.tor
  fc := fun j => (World.frozen?_alloc_past _ _ _ H.lC.2).trans (H.fc j)
  dc := fun j hj => by rw [World.cell?_alloc_past _ _ _ H.lD.2]; exact H.dc j hj
  fd := fun j => (World.frozen?_alloc_past _ _ _ H.lD.2).trans (H.fd j)
  lC := ⟨H.lC.1, by have := H.lC.2; simp; omega⟩
  lD := ⟨H.lD.1, by have := H.lD.2; simp; omega⟩
  ne := H.ne
theorem St.drew {w : World} {C D : Nat} {dn : List Nat} {n : Nat} {W : World} (H : St w C D dn n W) : St w C D dn n W.drew := ⟨H.bel.drew, H.nl, H.an, H.tor, H.fc, H.dc, H.fd, H.lC, H.lD, H.ne⟩
theorem St.setD {w : World} {C D : Nat} {dn : List Nat} {n : Nat} {W : World} (H : St w C D dn n W) (k : Nat) (v : Value) (hk : k < 4) : St w C D dn n (W.setCell ⟨D, k, none⟩ v) where
  bel := H.bel.setCell (p := ⟨D, k, none⟩) H.lD.1 _
  nl := fun j hj h => (World.cell?_setCell_other _ _ _ _ (fun e => H.ne (congrArg Addr.block e).symm)).trans (H.nl j hj h)
  an := fun j hj => by rw [World.cell?_setCell_other _ _ _ _ (fun e => H.ne (congrArg Addr.block e).symm)]; exact H.an j hj
  tor := (World.cell?_setCell_other _ _ _ _ (fun e => H.ne (congrArg Addr.block e).symm)).trans H.tor
  fc := fun j => (World.frozen?_setCell _ _ _ _).trans (H.fc j)
  dc := fun j hj => by
    by_cases h : j = k
    · subst h
      obtain ⟨u, hu⟩ := Option.isSome_iff_exists.1 (H.dc j hj)
      rw [World.cell?_setCell_same _ _ _ hu]; rfl
    · rw [World.cell?_setCell_other _ _ _ _ (fun e => h (congrArg Addr.off e).symm)]; exact H.dc j hj
  fd := fun j => (World.frozen?_setCell _ _ _ _).trans (H.fd j)
  lC := ⟨H.lC.1, by have := H.lC.2; simp; omega⟩
  lD := ⟨H.lD.1, by have := H.lD.2; simp; omega⟩
  ne := H.ne
theorem St.setT {w : World} {C D : Nat} {dn : List Nat} {n : Nat} {W : World} (H : St w C D dn n W) (m : Nat) : St w C D dn m (W.setCell ⟨C, 256, none⟩ (.slice (some ⟨D, 0, none⟩) m 4)) where
  bel := H.bel.setCell (p := ⟨C, 256, none⟩) H.lC.1 _
  nl := fun j hj h => (World.cell?_setCell_other _ _ _ _ (fun e => by have := congrArg Addr.off e; simp at this; omega)).trans (H.nl j hj h)
  an := fun j hj => by rw [World.cell?_setCell_other _ _ _ _ (fun e => by have := congrArg Addr.off e; simp at this; omega)]; exact H.an j hj
  tor := World.cell?_setCell_same _ _ _ H.tor
  fc := fun j => (World.frozen?_setCell _ _ _ _).trans (H.fc j)
  dc := fun j hj => by rw [World.cell?_setCell_other _ _ _ _ (fun e => H.ne (congrArg Addr.block e))]; exact H.dc j hj
  fd := fun j => (World.frozen?_setCell _ _ _ _).trans (H.fd j)
  lC := ⟨H.lC.1, by have := H.lC.2; simp; omega⟩
  lD := ⟨H.lD.1, by have := H.lD.2; simp; omega⟩
  ne := H.ne
theorem St.setO {w : World} {C D : Nat} {dn : List Nat} {n : Nat} {W : World} (H : St w C D dn n W) (o : Nat) (v : Value) (ho : o < 256) : St w C D (o :: dn) n (W.setCell ⟨C, o, none⟩ v) where
  bel := H.bel.setCell (p := ⟨C, o, none⟩) H.lC.1 _
  nl := fun j hj h => (World.cell?_setCell_other _ _ _ _ (fun e => by have := congrArg Addr.off e; simp at this h; omega)).trans (H.nl j hj (fun h2 => h (by simp [h2])))
  an := fun j hj => by
    by_cases h : j = o
    · subst h
      obtain ⟨u, hu⟩ := Option.isSome_iff_exists.1 (H.an j hj)
      rw [World.cell?_setCell_same _ _ _ hu]; rfl
    · rw [World.cell?_setCell_other _ _ _ _ (fun e => h (congrArg Addr.off e).symm)]; exact H.an j hj
  tor := (World.cell?_setCell_other _ _ _ _ (fun e => by have := congrArg Addr.off e; simp at this; omega)).trans H.tor
  fc := fun j => (World.frozen?_setCell _ _ _ _).trans (H.fc j)
  dc := fun j hj => by rw [World.cell?_setCell_other _ _ _ _ (fun e => H.ne (congrArg Addr.block e))]; exact H.dc j hj
  fd := fun j => (World.frozen?_setCell _ _ _ _).trans (H.fd j)
  lC := ⟨H.lC.1, by have := H.lC.2; simp; omega⟩
  lD := ⟨H.lD.1, by have := H.lD.2; simp; omega⟩
  ne := H.ne
theorem zeros194 : Tryz.zeroCells194.toList = List.replicate 257 (.slice none 0 0) := by kernel_rfl
theorem zero_at (j : Nat) (h : j < Tryz.zeroCells194.toList.length) : Tryz.zeroCells194.toList[j] = .slice none 0 0 := by
  obtain ⟨x, hx⟩ : ∃ x, x = Tryz.zeroCells194.toList[j] := ⟨_, rfl⟩
  have hm : x ∈ Tryz.zeroCells194.toList := hx ▸ List.getElem_mem h
  rw [← hx]
  rw [zeros194] at hm
  exact List.eq_of_mem_replicate hm
theorem size_setCells (b : Nat) : ∀ (vs : List Value) (o : Nat) (w : World), (w.setCells b o vs).heap.size = w.heap.size
  | [], _, _ => rfl
  | v :: vs, o, w => by rw [World.setCells, size_setCells b vs]; simp
theorem below_setCells {B b : Nat} {a : World} (hb : B ≤ b) : ∀ (vs : List Value) (o : Nat) (w : World), Below B a w → Below B a (w.setCells b o vs)
  | [], _, _, h => h
  | v :: vs, o, w, h => below_setCells hb vs (o + 1) _ (h.setCell (p := ⟨b, o, none⟩) hb v)
theorem start_of (w : World) : ∃ W2, (storeCells ⟨w.heap.size + 1, 0, none⟩ (Tryz.zeroCells194.toList.set 256 (.slice (some ⟨w.heap.size, 0, none⟩) 0 4))).run Tryz.prog ((w.alloc (.cells #[.string ⟨#[]⟩, .string ⟨#[]⟩, .string ⟨#[]⟩, .string ⟨#[]⟩] 9)).alloc (.cells Tryz.zeroCells194 194)) = .ok () W2 ∧ St w (w.heap.size + 1) w.heap.size [] 0 W2 := by
  generalize hWA : (w.alloc (.cells #[.string ⟨#[]⟩, .string ⟨#[]⟩, .string ⟨#[]⟩, .string ⟨#[]⟩] 9)).alloc (.cells Tryz.zeroCells194 194) = WA
  have hsz : WA.heap.size = w.heap.size + 2 := by rw [← hWA]; simp
  have hh1 : WA.heap[w.heap.size + 1]? = some (.cells Tryz.zeroCells194 194 (0, 0)) := by
    rw [← hWA]
    have := World.alloc_heap_new (w.alloc (.cells #[.string ⟨#[]⟩, .string ⟨#[]⟩, .string ⟨#[]⟩, .string ⟨#[]⟩] 9)) (.cells Tryz.zeroCells194 194)
    simpa using this
  have hh0 : WA.heap[w.heap.size]? = some (.cells #[.string ⟨#[]⟩, .string ⟨#[]⟩, .string ⟨#[]⟩, .string ⟨#[]⟩] 9 (0, 0)) := by
    rw [← hWA]
    have h1 := World.alloc_heap_new w (.cells #[.string ⟨#[]⟩, .string ⟨#[]⟩, .string ⟨#[]⟩, .string ⟨#[]⟩] 9)
    exact ((World.grownBy_alloc (w.alloc (.cells #[.string ⟨#[]⟩, .string ⟨#[]⟩, .string ⟨#[]⟩, .string ⟨#[]⟩] 9)) (.cells Tryz.zeroCells194 194) none).block _ (by simp) (by simp)).trans h1
  have hc : ∀ j, j < 257 → WA.cell? ⟨w.heap.size + 1, j, none⟩ = some (.slice none 0 0) := fun j hj => by
    have hv : Tryz.zeroCells194[j]? = some (.slice none 0 0) := by rw [← Array.getElem?_toList, zeros194, List.getElem?_replicate, if_pos hj]
    unfold World.cell?
    simp only [hh1, hv]
    rfl
  have hf1 : ∀ j, WA.frozen? ⟨w.heap.size + 1, j, none⟩ = false := fun j => by simp [World.frozen?, hh1]
  have hf0 : ∀ j, WA.frozen? ⟨w.heap.size, j, none⟩ = false := fun j => by simp [World.frozen?, hh0]
  have hd : ∀ j, j < 4 → (WA.cell? ⟨w.heap.size, j, none⟩).isSome = true := fun j hj => by
    match j, hj with
    | 0, _ | 1, _ | 2, _ | 3, _ => simp [World.cell?, hh0]
  have hB : Below w.heap.size w WA := by rw [← hWA]; exact ((Below.refl _ w).alloc (Nat.le_refl _) _).alloc (by simp) _
  have hlen : (Tryz.zeroCells194.toList.set 256 (.slice (some ⟨w.heap.size, 0, none⟩) 0 4)).length = 257 := by rw [List.length_set, zeros194, List.length_replicate]
  have hst := run_storeCells_cells (P := Tryz.prog) (w.heap.size + 1) 0 (Tryz.zeroCells194.toList.set 256 (.slice (some ⟨w.heap.size, 0, none⟩) 0 4)) 0 WA (fun j hj => by rw [hlen] at hj; simp only [Nat.zero_add]; rw [hc j hj]; rfl) (fun j _ => hf1 _)
    (fun v hv => by
      rcases List.mem_or_eq_of_mem_set hv with h | rfl
      · rw [zeros194] at h
        rw [List.eq_of_mem_replicate h]; rfl
      · rfl)
  refine ⟨_, hst, ?_⟩
  have hin := World.cell?_setCells_in (w.heap.size + 1) (Tryz.zeroCells194.toList.set 256 (.slice (some ⟨w.heap.size, 0, none⟩) 0 4)) 0 WA (fun j hj => by rw [hlen] at hj; simp only [Nat.zero_add]; rw [hc j hj]; rfl)
  have hn : ∀ j, j < 256 → (WA.setCells (w.heap.size + 1) (0 + 0) (Tryz.zeroCells194.toList.set 256 (.slice (some ⟨w.heap.size, 0, none⟩) 0 4))).cell? ⟨w.heap.size + 1, j, none⟩ = some (.slice none 0 0) := fun j hj => by
    have := hin j (by rw [hlen]; omega)
    rw [Nat.zero_add] at this
    refine this.trans ?_
    rw [List.getElem_set_ne (by omega), zero_at]
  have out : ∀ j, (WA.setCells (w.heap.size + 1) (0 + 0) (Tryz.zeroCells194.toList.set 256 (.slice (some ⟨w.heap.size, 0, none⟩) 0 4))).cell? ⟨w.heap.size, j, none⟩ = WA.cell? ⟨w.heap.size, j, none⟩ := fun j => World.cell?_setCells_out _ _ _ _ _ (fun h => by simp at h)
  exact {
    bel := below_setCells (by omega) _ _ _ hB
    nl := fun j hj _ => hn j hj
    an := fun j hj => by rw [hn j hj]; rfl
    tor := by
      have := hin 256 (by rw [hlen]; omega)
      rw [Nat.zero_add] at this
      refine this.trans ?_
      rw [List.getElem_set_self]
    fc := fun j => (World.frozen?_setCells _ _ _ _ _).trans (hf1 j)
    dc := fun j hj => by rw [out]; exact hd j hj
    fd := fun j => (World.frozen?_setCells _ _ _ _ _).trans (hf0 j)
    lC := ⟨by omega, by rw [size_setCells]; omega⟩
    lD := ⟨by omega, by rw [size_setCells]; omega⟩
    ne := by omega }
set_option maxRecDepth 100000 in
set_option maxHeartbeats 1600000 in
theorem build_in (rb B cap : Nat) (w : World) (h4 : w.cell? ⟨rb, 4, none⟩ = some (.slice (some ⟨B, 0, none⟩) 8 cap))
    (c0 : w.cell? ⟨B, 0, none⟩ = some (.string { data := #[92] })) (c1 : w.cell? ⟨B, 1, none⟩ = some (.string { data := #[92, 92] })) (c2 : w.cell? ⟨B, 2, none⟩ = some (.string { data := #[34] })) (c3 : w.cell? ⟨B, 3, none⟩ = some (.string { data := #[92, 34] }))
    (c4 : w.cell? ⟨B, 4, none⟩ = some (.string { data := #[10] })) (c5 : w.cell? ⟨B, 5, none⟩ = some (.string { data := #[92, 110] })) (c6 : w.cell? ⟨B, 6, none⟩ = some (.string { data := #[9] })) (c7 : w.cell? ⟨B, 7, none⟩ = some (.string { data := #[92, 116] })) :
    Calls Tryz.prog 117 #[.pointer (some ⟨rb, 0, none⟩)] w fun e w' => e = .returned (.iface 195 (.pointer (some ⟨w.heap.size + 1, 0, none⟩))) ∧ St w (w.heap.size + 1) w.heap.size [92, 34, 10, 9] 4 w' := by
  obtain ⟨i9, i91, i92, i93, i94⟩ := info9
  have hmk : ∀ w : World, (Instr.makeSlice 27 (.int .i64 0) (.int .i64 4)).run Tryz.prog w = .ok (.slice (some ⟨w.heap.size, 0, none⟩) 0 4) (w.alloc (.cells #[.string ⟨#[]⟩, .string ⟨#[]⟩, .string ⟨#[]⟩, .string ⟨#[]⟩] 9)) := fun w => by
    have h := run_makeSlice (P := Tryz.prog) w 27 9 i9 (.string ⟨#[]⟩) Tryz.underlying27 i91 i92 .i64 .i64 0 4 (by decide) (by decide) (by rw [i93]; decide) (by rw [i94]; decide) (by decide)
    rw [i93, show madeCells (Value.string ⟨#[]⟩).cells (Int.toNat 4 * 1) = #[.string ⟨#[]⟩, .string ⟨#[]⟩, .string ⟨#[]⟩, .string ⟨#[]⟩] by kernel_rfl] at h
    exact h
  obtain ⟨W2, hst, H2⟩ := start_of w
  go_enter Tryz.func117, Tryz.ntmps117
  go_wp2
  refine wp_loop_rounds 5 ?_
  repeat (rw [rounds_succ]; go_wp2)
  go_loopw [12] (fun i wr => ∃ k : Nat, k ≤ 4 ∧ i = .int .i64 (6 - 2 * (k : Int)) ∧ St w (w.heap.size + 1) w.heap.size (([9, 10, 34, 92] : List Nat).take k).reverse k wr) (fun i _ => (intOf i + 2).toNat)
  case atStart => exact ⟨0, by omega, rfl, H2⟩
  case round =>
    obtain ⟨k, hk, rfl, H⟩ := hrel
    have lB : B < w.heap.size := cell_lt c0
    have d0 := (H.bel.cell (p := ⟨B, 0, none⟩) lB).trans c0
    have d1 := (H.bel.cell (p := ⟨B, 1, none⟩) lB).trans c1
    have d2 := (H.bel.cell (p := ⟨B, 2, none⟩) lB).trans c2
    have d3 := (H.bel.cell (p := ⟨B, 3, none⟩) lB).trans c3
    have d4 := (H.bel.cell (p := ⟨B, 4, none⟩) lB).trans c4
    have d5 := (H.bel.cell (p := ⟨B, 5, none⟩) lB).trans c5
    have d6 := (H.bel.cell (p := ⟨B, 6, none⟩) lB).trans c6
    have d7 := (H.bel.cell (p := ⟨B, 7, none⟩) lB).trans c7
    have ht := H.tor
    have hq : ∀ (w : World) (a : Option Addr) (n c n' c' : Nat), (binOp .eql 26 (.slice a n c) (.slice none n' c')).run Tryz.prog w = .ok (.bool a.isNone) w := fun w a n c n' c' => Lib.run_eql_slice_nil w _ _ a n c n' c' Tryz.underlying26
    have e9 : ∀ h, (({ data := #[9] } : ByteArray)[0]'h).toNat = 9 := fun _ => rfl
    have e10 : ∀ h, (({ data := #[10] } : ByteArray)[0]'h).toNat = 10 := fun _ => rfl
    have e34 : ∀ h, (({ data := #[34] } : ByteArray)[0]'h).toNat = 34 := fun _ => rfl
    have e92 : ∀ h, (({ data := #[92] } : ByteArray)[0]'h).toNat = 92 := fun _ => rfl
    have hcv : ∀ (W : World) (b : UInt8), (convert 26 9 (.slice (some ⟨W.heap.size, 0, none⟩) 1 1)).run Tryz.prog (W.alloc (.cells #[.int .u8 (b.toNat : Int)] 5)) = .ok (.string ⟨#[b]⟩) (W.alloc (.cells #[.int .u8 (b.toNat : Int)] 5)) := fun W b => by
      have h := run_convert_bytes_back (P := Tryz.prog) (W.alloc (.cells #[.int .u8 (b.toNat : Int)] 5)) 26 9 5 ⟨W.heap.size, 0, none⟩ 1 [b] Tryz.underlying26 Tryz.underlying5 Tryz.underlying9
      exact h fun j hj => by
        match j, hj with
        | 0, _ => exact (Boxed.new W 5 (.int .u8 (b.toNat : Int))).cell
    have hsb : ∀ (W : World) (s : ByteArray), (convert 9 26 (.string s)).run Tryz.prog W = .ok (.slice (some ⟨W.heap.size, 0, none⟩) s.size (grownCap W s.size 0 5)) (W.drew.alloc (.cells (bytesRow s (grownCap W s.size 0 5)) 5 ((bytesRow s (grownCap W s.size 0 5)).size, (bytesRow s (grownCap W s.size 0 5)).size + 1))) := fun W s => run_bytes_of_string W 9 26 5 s Tryz.underlying9 Tryz.underlying26 Tryz.underlying5
    have hc9 : ∀ W : World, (convert 26 9 (.slice (some ⟨W.heap.size, 0, none⟩) 1 1)).run Tryz.prog (W.alloc (.cells #[.int .u8 9] 5)) = .ok (.string ⟨#[9]⟩) (W.alloc (.cells #[.int .u8 9] 5)) := fun W => hcv W 9
    have hc10 : ∀ W : World, (convert 26 9 (.slice (some ⟨W.heap.size, 0, none⟩) 1 1)).run Tryz.prog (W.alloc (.cells #[.int .u8 10] 5)) = .ok (.string ⟨#[10]⟩) (W.alloc (.cells #[.int .u8 10] 5)) := fun W => hcv W 10
    have hc34 : ∀ W : World, (convert 26 9 (.slice (some ⟨W.heap.size, 0, none⟩) 1 1)).run Tryz.prog (W.alloc (.cells #[.int .u8 34] 5)) = .ok (.string ⟨#[34]⟩) (W.alloc (.cells #[.int .u8 34] 5)) := fun W => hcv W 34
    have hc92 : ∀ W : World, (convert 26 9 (.slice (some ⟨W.heap.size, 0, none⟩) 1 1)).run Tryz.prog (W.alloc (.cells #[.int .u8 92] 5)) = .ok (.string ⟨#[92]⟩) (W.alloc (.cells #[.int .u8 92] 5)) := fun W => hcv W 92
    match k, hk with
    | 0, _ =>
      have hn := H.nl 9 (by decide) (by decide)
      obtain ⟨x, hx⟩ := Option.isSome_iff_exists.1 (H.dc 0 (by decide))
      have hfx := H.fd 0
      have lC := H.lC.2
      have lD := H.lD.2
      have hf1 := H.fc 256
      have hf2 := H.fc 9
      go_wp2
      exact ⟨⟨1, by decide, rfl, ((((((H.setD 0 _ (by decide)).setT 1).setO 9 _ (by decide)).alloc _).alloc _).alloc _).drew⟩, by decide⟩
    | 1, _ =>
      have hn := H.nl 10 (by decide) (by decide)
      obtain ⟨x, hx⟩ := Option.isSome_iff_exists.1 (H.dc 1 (by decide))
      have hfx := H.fd 1
      have lC := H.lC.2
      have lD := H.lD.2
      have hf1 := H.fc 256
      have hf2 := H.fc 10
      go_wp2
      exact ⟨⟨2, by decide, rfl, ((((((H.setD 1 _ (by decide)).setT 2).setO 10 _ (by decide)).alloc _).alloc _).alloc _).drew⟩, by decide⟩
    | 2, _ =>
      have hn := H.nl 34 (by decide) (by decide)
      obtain ⟨x, hx⟩ := Option.isSome_iff_exists.1 (H.dc 2 (by decide))
      have hfx := H.fd 2
      have lC := H.lC.2
      have lD := H.lD.2
      have hf1 := H.fc 256
      have hf2 := H.fc 34
      go_wp2
      exact ⟨⟨3, by decide, rfl, ((((((H.setD 2 _ (by decide)).setT 3).setO 34 _ (by decide)).alloc _).alloc _).alloc _).drew⟩, by decide⟩
    | 3, _ =>
      have hn := H.nl 92 (by decide) (by decide)
      obtain ⟨x, hx⟩ := Option.isSome_iff_exists.1 (H.dc 3 (by decide))
      have hfx := H.fd 3
      have lC := H.lC.2
      have lD := H.lD.2
      have hf1 := H.fc 256
      have hf2 := H.fc 92
      go_wp2
      exact ⟨⟨4, by decide, rfl, ((((((H.setD 3 _ (by decide)).setT 4).setO 92 _ (by decide)).alloc _).alloc _).alloc _).drew⟩, by decide⟩
    | 4, _ =>
      go_wp2
      go_ret
      exact ⟨rfl, H⟩
end Go.Proofs.Quo
namespace Go.Proofs.Quo
open Go Go.RowKit
theorem disable (w : World) : (callFunc 149 #[]).run Tryz.prog w = .ok (.value (.tuple #[])) w := run_call_mark0 Tryz.func149 (by kernel_rfl) (by kernel_rfl) (by kernel_rfl) .disable (by kernel_rfl) w
theorem enable (w : World) : (callFunc 151 #[]).run Tryz.prog w = .ok (.value (.tuple #[])) w := run_call_mark0 Tryz.func151 (by kernel_rfl) (by kernel_rfl) (by kernel_rfl) .enable (by kernel_rfl) w
theorem acquire (a : Addr) (w : World) : (callFunc 152 #[.pointer (some a)]).run Tryz.prog w = .ok (.value (.tuple #[])) w := run_call_marked Tryz.func152 (by kernel_rfl) (by kernel_rfl) (by kernel_rfl) .acquire (by kernel_rfl) a w
theorem releaseMerge (a : Addr) (w : World) : (callFunc 154 #[.pointer (some a)]).run Tryz.prog w = .ok (.value (.tuple #[])) w := run_call_marked Tryz.func154 (by kernel_rfl) (by kernel_rfl) (by kernel_rfl) .releaseMerge (by kernel_rfl) a w
theorem store_deferred (a : Addr) (x : Value) (u : FrameMode) (w : World) (hc : w.cell? a = some x) (hz : w.frozen? a = false) :
    CallsD Tryz.prog 134 #[.pointer (some a), .bool true] u w fun e u' w' => u' = u ∧ (e = .returned (.tuple #[]) ∧ w' = w.drew.setCell a (.int .u32 1)) := by
  have hc' : w.drew.cell? a = some x := by go_simp
  have hz' : w.drew.frozen? a = false := by go_simp
  have hst := run_call_store (P := Tryz.prog) Tryz.func144 (by kernel_rfl) (by kernel_rfl) (by kernel_rfl) (by kernel_rfl) (k := .u32) (y := 1) hc' hz'
  go_enter_d Tryz.func134, Tryz.ntmps134
  go_wp2
  go_region_calls
  all_goals (go_end0; exact ⟨rfl, rfl⟩)
theorem unlock_deferred (a : Addr) (u : FrameMode) (w : World) (hc : w.cell? a = some (.int .i32 1)) (hz : w.frozen? a = false) :
    CallsD Tryz.prog 133 #[.pointer (some a)] u w fun e u' w' => u' = u ∧ (e = .returned (.tuple #[]) ∧ w' = w.setCell a (.int .i32 0)) := by
  have hd := disable
  have he := enable
  have hr := releaseMerge
  have hadd := run_call_add (P := Tryz.prog) Tryz.func155 (by kernel_rfl) (by kernel_rfl) (by kernel_rfl) .i32 (by kernel_rfl) (y := -1) (s := 0) hc hz (by simp [go_sem]; rfl)
  have hcv := run_convert_to_unsafe (P := Tryz.prog) (src := 218) (dst := 172) Tryz.underlying218 Tryz.underlying172 (by kernel_rfl) hc
  go_enter_d Tryz.func133, Tryz.ntmps133
  go_wp2
  go_end0
  go_wp2
  go_end0
  exact ⟨rfl, rfl⟩
theorem lock_free (a : Addr) (w : World) (hc : w.cell? a = some (.int .i32 0)) (hz : w.frozen? a = false) :
    Calls Tryz.prog 132 #[.pointer (some a)] w fun e w' => e = .returned (.tuple #[]) ∧ w' = w.setCell a (.int .i32 1) := by
  have hd := disable
  have he := enable
  have ha := acquire
  have hcas := run_call_cas_hit (P := Tryz.prog) Tryz.func150 (by kernel_rfl) (by kernel_rfl) (by kernel_rfl) .i32 (by kernel_rfl) (y := 1) hc hz
  have hc' : (w.setCell a (.int .i32 1)).cell? a = some (.int .i32 1) := World.cell?_setCell_same w a _ hc
  have hcv := run_convert_to_unsafe (P := Tryz.prog) (src := 218) (dst := 172) Tryz.underlying218 Tryz.underlying172 (by kernel_rfl) hc'
  go_enter Tryz.func132, Tryz.ntmps132
  go_wp2
  first | go_end0 | (simp only [Exit.inBlock, Exit.then]; refine bodyPost_ret (results_none rfl _ _ _) rfl ?_) | refine bodyPost_ret (results_none rfl _ _ _) rfl ?_
  go_wp2
  go_end0
  exact ⟨rfl, rfl⟩
theorem frozen_below {n : Nat} {W W' : World} (h : Below n W W') {a : Addr} (ha : a.block < n) : W'.frozen? a = W.frozen? a := by
  unfold World.frozen?
  rw [h.block a.block ha]
abbrev ifc (C : Nat) : Value := .iface 195 (.pointer (some ⟨C, 0, none⟩))
set_option maxHeartbeats 1600000 in
theorem once_in (rb B cap : Nat) (x3 : Value) (w : World) (hne : rb ≠ B) (h3 : w.cell? ⟨rb, 3, none⟩ = some x3) (h4 : w.cell? ⟨rb, 4, none⟩ = some (.slice (some ⟨B, 0, none⟩) 8 cap)) (fz : ∀ j, w.frozen? ⟨rb, j, none⟩ = false)
    (c0 : w.cell? ⟨B, 0, none⟩ = some (.string { data := #[92] })) (c1 : w.cell? ⟨B, 1, none⟩ = some (.string { data := #[92, 92] })) (c2 : w.cell? ⟨B, 2, none⟩ = some (.string { data := #[34] })) (c3 : w.cell? ⟨B, 3, none⟩ = some (.string { data := #[92, 34] }))
    (c4 : w.cell? ⟨B, 4, none⟩ = some (.string { data := #[10] })) (c5 : w.cell? ⟨B, 5, none⟩ = some (.string { data := #[92, 110] })) (c6 : w.cell? ⟨B, 6, none⟩ = some (.string { data := #[9] })) (c7 : w.cell? ⟨B, 7, none⟩ = some (.string { data := #[92, 116] })) :
    Calls Tryz.prog 93 #[.pointer (some ⟨rb, 0, none⟩)] w fun e w' => e = .returned (.tuple #[]) ∧ ∃ W, St w (w.heap.size + 1) w.heap.size [92, 34, 10, 9] 4 W ∧ w' = (W.setCell ⟨rb, 3, none⟩ (ifc (w.heap.size + 1))).setCell ⟨rb, 4, none⟩ (.slice none 0 0) := by
  have lr : rb < w.heap.size := cell_lt h3
  go_enter Tryz.func93, Tryz.ntmps93
  have key : Calls Tryz.prog 117 #[.pointer (some ⟨rb, 0, none⟩)] w fun e W => e = .returned (ifc (w.heap.size + 1)) ∧ St w (w.heap.size + 1) w.heap.size [92, 34, 10, 9] 4 W ∧ W.cell? ⟨rb, 3, none⟩ = some x3 ∧ W.cell? ⟨rb, 4, none⟩ = some (.slice (some ⟨B, 0, none⟩) 8 cap) ∧ W.frozen? ⟨rb, 3, none⟩ = false ∧ W.frozen? ⟨rb, 4, none⟩ = false :=
    (build_in rb B cap w h4 c0 c1 c2 c3 c4 c5 c6 c7).mono fun e W ⟨he, H⟩ => ⟨he, H, (H.bel.cell (p := ⟨rb, 3, none⟩) lr).trans h3, (H.bel.cell (p := ⟨rb, 4, none⟩) lr).trans h4, (frozen_below H.bel (a := ⟨rb, 3, none⟩) lr).trans (fz 3), (frozen_below H.bel (a := ⟨rb, 4, none⟩) lr).trans (fz 4)⟩
  go_wp2_with (go_at_call 117; refine key.mono ?_; rintro e W ⟨rfl, H, g3, g4, f3, f4⟩)
  go_end0
  exact ⟨rfl, W, H, rfl⟩
theorem other_b {W : World} {b b' j k : Nat} (h : b ≠ b') (v : Value) : (W.setCell ⟨b, j, none⟩ v).cell? ⟨b', k, none⟩ = W.cell? ⟨b', k, none⟩ := World.cell?_setCell_other _ _ _ _ (fun e => h (congrArg Addr.block e))
theorem other_o {W : World} {b j k : Nat} (h : j ≠ k) (v : Value) : (W.setCell ⟨b, j, none⟩ v).cell? ⟨b, k, none⟩ = W.cell? ⟨b, k, none⟩ := World.cell?_setCell_other _ _ _ _ (fun e => h (congrArg Addr.off e))
abbrev fin (W : World) (rb C : Nat) : World := ((((W.setCell ⟨rb, 3, none⟩ (ifc C)).setCell ⟨rb, 4, none⟩ (.slice none 0 0)).drew.setCell ⟨rb, 0, none⟩ (.int .u32 1)).setCell ⟨rb, 1, none⟩ (.int .i32 0))
set_option maxHeartbeats 1600000 in
theorem slow_in (rb B cap : Nat) (x3 : Value) (w : World) (hne : rb ≠ B) (h0 : w.cell? ⟨rb, 0, none⟩ = some (.int .u32 0)) (h1 : w.cell? ⟨rb, 1, none⟩ = some (.int .i32 0)) (h3 : w.cell? ⟨rb, 3, none⟩ = some x3) (h4 : w.cell? ⟨rb, 4, none⟩ = some (.slice (some ⟨B, 0, none⟩) 8 cap)) (fz : ∀ j, w.frozen? ⟨rb, j, none⟩ = false)
    (c0 : w.cell? ⟨B, 0, none⟩ = some (.string { data := #[92] })) (c1 : w.cell? ⟨B, 1, none⟩ = some (.string { data := #[92, 92] })) (c2 : w.cell? ⟨B, 2, none⟩ = some (.string { data := #[34] })) (c3 : w.cell? ⟨B, 3, none⟩ = some (.string { data := #[92, 34] }))
    (c4 : w.cell? ⟨B, 4, none⟩ = some (.string { data := #[10] })) (c5 : w.cell? ⟨B, 5, none⟩ = some (.string { data := #[92, 110] })) (c6 : w.cell? ⟨B, 6, none⟩ = some (.string { data := #[9] })) (c7 : w.cell? ⟨B, 7, none⟩ = some (.string { data := #[92, 116] })) :
    Calls Tryz.prog 116 #[.pointer (some ⟨rb, 0, none⟩), .func (.func 93) #[.pointer (some ⟨rb, 0, none⟩)] #[]] w fun e w' => e = .returned (.tuple #[]) ∧ ∃ W, St (w.setCell ⟨rb, 1, none⟩ (.int .i32 1)) (w.heap.size + 1) w.heap.size [92, 34, 10, 9] 4 W ∧ w' = fin W rb (w.heap.size + 1) := by
  have hl := run_call_load (P := Tryz.prog) Tryz.func131 (by kernel_rfl) (by kernel_rfl) (by kernel_rfl) .u32 (by kernel_rfl) (w := w.setCell ⟨rb, 1, none⟩ (.int .i32 1)) (a := ⟨rb, 0, none⟩) (x := 0) ((other_o (by decide) _).trans h0)
  have lr : rb < w.heap.size := cell_lt h3
  have hs1 : (w.setCell ⟨rb, 1, none⟩ (.int .i32 1)).heap.size = w.heap.size := by simp
  have key := once_in rb B cap x3 (w.setCell ⟨rb, 1, none⟩ (.int .i32 1)) hne ((other_o (by decide) _).trans h3) ((other_o (by decide) _).trans h4) (fun j => (World.frozen?_setCell _ _ _ _).trans (fz j))
    ((other_b hne _).trans c0) ((other_b hne _).trans c1) ((other_b hne _).trans c2) ((other_b hne _).trans c3) ((other_b hne _).trans c4) ((other_b hne _).trans c5) ((other_b hne _).trans c6) ((other_b hne _).trans c7)
  rw [hs1] at key
  have hnot : ∀ (x : Bool) (w : World), (Op.unary .not (.bool x)).run Tryz.prog w = .ok (.bool (!x)) w := fun _ _ => rfl
  go_enter_defers Tryz.func116, Tryz.ntmps116
  go_wp2_with (first | (go_at_call 132; refine (lock_free ⟨rb, 1, none⟩ _ (by go_simp) (by go_simp)).mono ?_; rintro e w' ⟨rfl, rfl⟩) | (go_at_call 115; go_in) | (go_at_call 93; refine key.mono ?_; rintro e w' ⟨rfl, W, H, rfl⟩))
  have lt1 : rb < (w.setCell ⟨rb, 1, none⟩ (.int .i32 1)).heap.size := by rw [hs1]; exact lr
  have k0 : W.cell? ⟨rb, 0, none⟩ = some (.int .u32 0) := (H.bel.cell (p := ⟨rb, 0, none⟩) lt1).trans ((other_o (by decide) _).trans h0)
  have k1 : W.cell? ⟨rb, 1, none⟩ = some (.int .i32 1) := (H.bel.cell (p := ⟨rb, 1, none⟩) lt1).trans (World.cell?_setCell_same _ _ _ h1)
  have kf : ∀ j, W.frozen? ⟨rb, j, none⟩ = false := fun j => (frozen_below H.bel (a := ⟨rb, j, none⟩) lt1).trans ((World.frozen?_setCell _ _ _ _).trans (fz j))
  refine leaves_cons (f := 134) (args := #[.pointer (some ⟨rb, 0, none⟩), .bool true]) (by simp) (by simp [go_sem]) ?_
  refine (store_deferred ⟨rb, 0, none⟩ (.int .u32 0) .returning _ ((other_o (by decide) _).trans ((other_o (by decide) _).trans k0)) (by simp [kf])).mono ?_
  rintro e u' w'' ⟨rfl, rfl, rfl⟩
  refine leaves_cons (f := 133) (args := #[.pointer (some ⟨rb, 1, none⟩)]) (by simp [settle]) (by simp [go_sem]) ?_
  refine (unlock_deferred ⟨rb, 1, none⟩ _ _ ?_ (by simp [kf])).mono ?_
  · refine (other_o (by decide) _).trans ?_
    rw [World.cell?_drew]
    exact (other_o (by decide) _).trans ((other_o (by decide) _).trans k1)
  rintro e u' w'' ⟨rfl, rfl, rfl⟩
  have hfin : ∃ W', St (w.setCell ⟨rb, 1, none⟩ (.int .i32 1)) (w.heap.size + 1) w.heap.size [92, 34, 10, 9] 4 W' ∧ fin W rb (w.heap.size + 1) = fin W' rb (w.heap.size + 1) := ⟨W, H, rfl⟩
  simp [Leaves, settle, results, Tryz.results116]
  exact ⟨W, H, rfl⟩
set_option maxHeartbeats 1600000 in
theorem do_in (rb B cap : Nat) (x3 : Value) (w : World) (hne : rb ≠ B) (h0 : w.cell? ⟨rb, 0, none⟩ = some (.int .u32 0)) (h1 : w.cell? ⟨rb, 1, none⟩ = some (.int .i32 0)) (h3 : w.cell? ⟨rb, 3, none⟩ = some x3) (h4 : w.cell? ⟨rb, 4, none⟩ = some (.slice (some ⟨B, 0, none⟩) 8 cap)) (fz : ∀ j, w.frozen? ⟨rb, j, none⟩ = false)
    (c0 : w.cell? ⟨B, 0, none⟩ = some (.string { data := #[92] })) (c1 : w.cell? ⟨B, 1, none⟩ = some (.string { data := #[92, 92] })) (c2 : w.cell? ⟨B, 2, none⟩ = some (.string { data := #[34] })) (c3 : w.cell? ⟨B, 3, none⟩ = some (.string { data := #[92, 34] }))
    (c4 : w.cell? ⟨B, 4, none⟩ = some (.string { data := #[10] })) (c5 : w.cell? ⟨B, 5, none⟩ = some (.string { data := #[92, 110] })) (c6 : w.cell? ⟨B, 6, none⟩ = some (.string { data := #[9] })) (c7 : w.cell? ⟨B, 7, none⟩ = some (.string { data := #[92, 116] })) :
    Calls Tryz.prog 92 #[.pointer (some ⟨rb, 0, none⟩), .func (.func 93) #[.pointer (some ⟨rb, 0, none⟩)] #[]] w fun e w' => e = .returned (.tuple #[]) ∧ ∃ W, St (w.setCell ⟨rb, 1, none⟩ (.int .i32 1)) (w.heap.size + 1) w.heap.size [92, 34, 10, 9] 4 W ∧ w' = fin W rb (w.heap.size + 1) := by
  have hl := run_call_load (P := Tryz.prog) Tryz.func131 (by kernel_rfl) (by kernel_rfl) (by kernel_rfl) .u32 (by kernel_rfl) h0
  have hnot : ∀ (x : Bool) (w : World), (Op.unary .not (.bool x)).run Tryz.prog w = .ok (.bool (!x)) w := fun _ _ => rfl
  have key := slow_in rb B cap x3 w hne h0 h1 h3 h4 fz c0 c1 c2 c3 c4 c5 c6 c7
  go_enter Tryz.func92, Tryz.ntmps92
  go_wp2_with (first | (go_at_call 116; refine key.mono ?_; rintro e w' ⟨rfl, W, H, rfl⟩) | (go_at_call 115; go_in))
  go_end0
  exact ⟨rfl, W, H, rfl⟩
end Go.Proofs.Quo
namespace Go.Proofs.Quo
open Go Go.RowKit
set_option maxHeartbeats 1600000 in
theorem new_in (A : Nat) (w : World)
    (c0 : w.cell? ⟨A, 0, none⟩ = some (.string { data := #[92] })) (c1 : w.cell? ⟨A, 1, none⟩ = some (.string { data := #[92, 92] })) (c2 : w.cell? ⟨A, 2, none⟩ = some (.string { data := #[34] })) (c3 : w.cell? ⟨A, 3, none⟩ = some (.string { data := #[92, 34] }))
    (c4 : w.cell? ⟨A, 4, none⟩ = some (.string { data := #[10] })) (c5 : w.cell? ⟨A, 5, none⟩ = some (.string { data := #[92, 110] })) (c6 : w.cell? ⟨A, 6, none⟩ = some (.string { data := #[9] })) (c7 : w.cell? ⟨A, 7, none⟩ = some (.string { data := #[92, 116] })) :
    Calls Tryz.prog 57 #[.slice (some ⟨A, 0, none⟩) 8 8] w fun e w' => e = .returned (.pointer (some ⟨w.heap.size + 1, 0, none⟩)) ∧ Below w.heap.size w w' ∧ ∃ (cap : Nat) (rest : Array Value), w'.heap[w.heap.size]? = some (.cells (#[.string { data := #[92] }, .string { data := #[92, 92] }, .string { data := #[34] }, .string { data := #[92, 34] }, .string { data := #[10] }, .string { data := #[92, 110] }, .string { data := #[9] }, .string { data := #[92, 116] }] ++ rest) 9 (0, 0)) ∧
      w'.heap[w.heap.size + 1]? = some (.cells #[.int .u32 0, .int .i32 0, .int .u32 0, .nilIface, .slice (some ⟨w.heap.size, 0, none⟩) 8 cap] 150 (0, 0)) := by
  go_enter Tryz.func57, Tryz.ntmps57
  go_wp2
  go_ret
  generalize (Question.appendCap 8 0 9).cut (w.tape w.drawn (Question.appendCap 8 0 9)) = cap
  refine ⟨rfl, (((Below.refl _ w).alloc (Nat.le_refl _) _).alloc (by simp) _).drew, cap, Builtin.zeroCells #[Value.string { data := #[] }] (cap - 8), ?_, ?_⟩
  · generalize Obj.cells (#[Value.string { data := #[92] }, Value.string { data := #[92, 92] }, Value.string { data := #[34] }, Value.string { data := #[92, 34] }, Value.string { data := #[10] }, Value.string { data := #[92, 110] }, Value.string { data := #[9] }, Value.string { data := #[92, 116] }] ++ Builtin.zeroCells #[Value.string { data := #[] }] (cap - 8)) 9 = o1
    generalize Obj.cells #[Value.int IntKind.u32 0, Value.int IntKind.i32 0, Value.int IntKind.u32 0, Value.nilIface, Value.slice (some ⟨w.heap.size, 0, none⟩) 8 cap] 150 = o2
    have h1 := World.alloc_heap_new w o1
    exact ((World.grownBy_alloc (w.alloc o1) o2 none).block w.heap.size (by simp) (by simp)).trans h1
  · generalize Obj.cells (#[Value.string { data := #[92] }, Value.string { data := #[92, 92] }, Value.string { data := #[34] }, Value.string { data := #[92, 34] }, Value.string { data := #[10] }, Value.string { data := #[92, 110] }, Value.string { data := #[9] }, Value.string { data := #[92, 116] }] ++ Builtin.zeroCells #[Value.string { data := #[] }] (cap - 8)) 9 = o1
    generalize Obj.cells #[Value.int IntKind.u32 0, Value.int IntKind.i32 0, Value.int IntKind.u32 0, Value.nilIface, Value.slice (some ⟨w.heap.size, 0, none⟩) 8 cap] 150 = o2
    have h1 := World.alloc_heap_new (w.alloc o1) o2
    rw [World.size_alloc] at h1
    exact h1
set_option maxHeartbeats 1600000 in
theorem bsr_in (C D : Nat) (s : ByteArray) (hs : s.size < 32) (w : World) (ht : w.cell? ⟨C, 256, none⟩ = some (.slice (some ⟨D, 0, none⟩) 4 4)) (hn : ∀ (j : Nat) (hj : j < s.size), w.cell? ⟨C, s[j].toNat, none⟩ = some (.slice none 0 0)) :
    Calls Tryz.prog 191 #[.pointer (some ⟨C, 0, none⟩), .string s] w fun e w' => e = .returned (.string s) ∧ w' = w := by
  have hq : ∀ (w : World) (a : Option Addr) (n c n' c' : Nat), (binOp .neq 26 (.slice a n c) (.slice none n' c')).run Tryz.prog w = .ok (.bool (!a.isNone)) w := fun w a n c n' c' => run_neq_slice_nil_any w _ _ a n c n' c' Tryz.underlying26
  have hlt : ¬ (32 : Int) ≤ (s.size : Int) := by omega
  go_enter Tryz.func191, Tryz.ntmps191
  go_wp2
  go_loopw [5, 6, 10] (fun n5 c6 i wr => ∃ k : Nat, k ≤ s.size ∧ i = .int .i64 (k : Int) ∧ n5 = .int .i64 (s.size : Int) ∧ c6 = .bool false ∧ wr = w) (fun _ _ i _ => s.size - (intOf i).toNat)
  case atStart => exact ⟨0, Nat.zero_le _, rfl, rfl, rfl, rfl⟩
  case round =>
    obtain ⟨k, hk, rfl, rfl, rfl, rfl⟩ := hrel
    by_cases hlt2 : k < s.size
    · have hc := hn k hlt2
      have hb8 : ((s[k]'hlt2).toNat : Int) < 256 := by have := (s[k]'hlt2).toNat_lt; omega
      go_wp2
      go_roundw
      case rel => exact ⟨k + 1, by omega, by simp, rfl, rfl, trivial⟩
      case measure => simp [intOf]; omega
    · obtain rfl : k = s.size := by omega
      go_wp2
      go_ret
      exact ⟨rfl, rfl⟩
theorem heap_cell {w : World} {b : Nat} {arr : Array Value} {e : TypeId} (h : w.heap[b]? = some (.cells arr e (0, 0))) (o : Nat) : w.cell? ⟨b, o, none⟩ = arr[o]? := by
  unfold World.cell?
  simp only [h]
  cases arr[o]? <;> rfl
theorem heap_fz {w : World} {b : Nat} {arr : Array Value} {e : TypeId} (h : w.heap[b]? = some (.cells arr e (0, 0))) (o : Nat) : w.frozen? ⟨b, o, none⟩ = false := by simp [World.frozen?, h]
theorem heap_lt {w : World} {b : Nat} {o : Obj} (h : w.heap[b]? = some o) : b < w.heap.size := (Array.getElem?_eq_some_iff.1 h).1
def plain (b : UInt8) : Bool := b != 9 && b != 10 && b != 34 && b != 92
theorem plain_not {b : UInt8} (h : plain b = true) : b.toNat ∉ ([92, 34, 10, 9] : List Nat) := by
  simp only [plain, Bool.and_eq_true, bne_iff_ne, ne_eq] at h
  obtain ⟨⟨⟨h1, h2⟩, h3⟩, h4⟩ := h
  intro hm
  simp only [List.mem_cons, List.not_mem_nil, or_false] at hm
  rcases hm with e | e | e | e
  · exact h4 (UInt8.toNat_inj.1 e)
  · exact h3 (UInt8.toNat_inj.1 e)
  · exact h2 (UInt8.toNat_inj.1 e)
  · exact h1 (UInt8.toNat_inj.1 e)
set_option maxHeartbeats 1600000 in
theorem replace_in (rb B cap n₀ : Nat) (rest : Array Value) (s : ByteArray) (hs : s.size < 32) (hp : ∀ (j : Nat) (hj : j < s.size), plain s[j] = true) (w : World) (hne : rb ≠ B) (hn₀ : n₀ ≤ rb)
    (hB : w.heap[B]? = some (.cells (#[.string { data := #[92] }, .string { data := #[92, 92] }, .string { data := #[34] }, .string { data := #[92, 34] }, .string { data := #[10] }, .string { data := #[92, 110] }, .string { data := #[9] }, .string { data := #[92, 116] }] ++ rest) 9 (0, 0)))
    (hR : w.heap[rb]? = some (.cells #[.int .u32 0, .int .i32 0, .int .u32 0, .nilIface, .slice (some ⟨B, 0, none⟩) 8 cap] 150 (0, 0))) :
    Calls Tryz.prog 58 #[.pointer (some ⟨rb, 0, none⟩), .string s] w fun e w' => e = .returned (.string s) ∧ Below n₀ w w' := by
  have lr := heap_lt hR
  have kb : ∀ (o : Nat) (v : Value), (#[.string { data := #[92] }, .string { data := #[92, 92] }, .string { data := #[34] }, .string { data := #[92, 34] }, .string { data := #[10] }, .string { data := #[92, 110] }, .string { data := #[9] }, .string { data := #[92, 116] }] : Array Value)[o]? = some v → w.cell? ⟨B, o, none⟩ = some v := fun o v h => (heap_cell hB o).trans (by rw [Array.getElem?_append_left (Array.getElem?_eq_some_iff.1 h).1]; exact h)
  have kr := heap_cell hR
  have key := do_in rb B cap .nilIface w hne (kr 0) (kr 1) (kr 3) (kr 4) (heap_fz hR) (kb 0 _ rfl) (kb 1 _ rfl) (kb 2 _ rfl) (kb 3 _ rfl) (kb 4 _ rfl) (kb 5 _ rfl) (kb 6 _ rfl) (kb 7 _ rfl)
  have lt1 : rb < (w.setCell ⟨rb, 1, none⟩ (.int .i32 1)).heap.size := by simp; exact lr
  have key2 : Calls Tryz.prog 92 #[.pointer (some ⟨rb, 0, none⟩), .func (.func 93) #[.pointer (some ⟨rb, 0, none⟩)] #[]] w fun e w' => e = .returned (.tuple #[]) ∧ Below n₀ w w' ∧ w'.cell? ⟨rb, 3, none⟩ = some (ifc (w.heap.size + 1)) ∧
      w'.cell? ⟨w.heap.size + 1, 256, none⟩ = some (.slice (some ⟨w.heap.size, 0, none⟩) 4 4) ∧ ∀ (j : Nat) (hj : j < s.size), w'.cell? ⟨w.heap.size + 1, s[j].toNat, none⟩ = some (.slice none 0 0) := by
    refine key.mono fun e w' ⟨he, W, H, hw⟩ => ⟨he, ?_, ?_, ?_, fun j hj => ?_⟩
    · rw [hw]
      have b0 : Below n₀ w (w.setCell ⟨rb, 1, none⟩ (.int .i32 1)) := (Below.refl n₀ w).setCell (p := ⟨rb, 1, none⟩) hn₀ _
      have b1 : Below n₀ (w.setCell ⟨rb, 1, none⟩ (.int .i32 1)) W := H.bel.mono (by simp; omega)
      exact ((((((b0.trans b1).setCell (p := ⟨rb, 3, none⟩) hn₀ _).setCell (p := ⟨rb, 4, none⟩) hn₀ _).drew).setCell (p := ⟨rb, 0, none⟩) hn₀ _).setCell (p := ⟨rb, 1, none⟩) hn₀ _)
    · rw [hw]
      have g3 : W.cell? ⟨rb, 3, none⟩ = some .nilIface := (H.bel.cell (p := ⟨rb, 3, none⟩) lt1).trans ((other_o (by decide) _).trans (kr 3))
      exact (other_o (by decide) _).trans ((other_o (by decide) _).trans ((World.cell?_drew _ _).trans ((other_o (by decide) _).trans (World.cell?_setCell_same _ _ _ g3))))
    · rw [hw]
      have hC : rb ≠ w.heap.size + 1 := by omega
      exact (other_b hC _).trans ((other_b hC _).trans ((World.cell?_drew _ _).trans ((other_b hC _).trans ((other_b hC _).trans H.tor))))
    · rw [hw]
      have hC : rb ≠ w.heap.size + 1 := by omega
      exact (other_b hC _).trans ((other_b hC _).trans ((World.cell?_drew _ _).trans ((other_b hC _).trans ((other_b hC _).trans (H.nl _ (s[j]'hj).toNat_lt (plain_not (hp j hj)))))))
  have hm : ∀ (v : Value) (w : World), (method 356 195 v "Replace").run Tryz.prog w = .ok (191, v) w := fun _ _ => by kernel_rfl
  have hmf : ∀ (fn : Fn) (first cap : Array Value) (w : World), (Instr.makeFunc fn first cap).run Tryz.prog w = .ok (.func fn first cap) w := fun _ _ _ _ => rfl
  go_enter Tryz.func58, Tryz.ntmps58
  go_wp2_with (first | (go_at_call 92; refine key2.mono ?_; rintro e w' ⟨rfl, hb, g3, g256, gn⟩) | (go_at_call 191; refine (bsr_in _ _ s hs _ g256 gn).mono ?_; rintro e w'' ⟨rfl, rfl⟩))
  go_ret
  exact ⟨rfl, hb⟩
set_option maxHeartbeats 1600000 in
theorem quote_in (s : ByteArray) (hs : s.size < 32) (hp : ∀ (j : Nat) (hj : j < s.size), plain s[j] = true) (w : World) :
    Calls Tryz.prog 31 #[.string s] w fun e w' => e = .returned (.string (⟨#[34]⟩ ++ s ++ ⟨#[34]⟩)) ∧ Below w.heap.size w w' := by
  have h0 := World.alloc_heap_new w (.cells #[.string { data := #[92] }, .string { data := #[92, 92] }, .string { data := #[34] }, .string { data := #[92, 34] }, .string { data := #[10] }, .string { data := #[92, 110] }, .string { data := #[9] }, .string { data := #[92, 116] }] 9)
  have hA : Below w.heap.size w (w.alloc (.cells #[.string { data := #[92] }, .string { data := #[92, 92] }, .string { data := #[34] }, .string { data := #[92, 34] }, .string { data := #[10] }, .string { data := #[92, 110] }, .string { data := #[9] }, .string { data := #[92, 116] }] 9)) := (Below.refl _ w).alloc (Nat.le_refl _) _
  have hz : (w.alloc (.cells #[.string { data := #[92] }, .string { data := #[92, 92] }, .string { data := #[34] }, .string { data := #[92, 34] }, .string { data := #[10] }, .string { data := #[92, 110] }, .string { data := #[9] }, .string { data := #[92, 116] }] 9)).heap.size = w.heap.size + 1 := World.size_alloc _ _
  have k0 := heap_cell h0
  have key1 := new_in w.heap.size (w.alloc (.cells #[.string { data := #[92] }, .string { data := #[92, 92] }, .string { data := #[34] }, .string { data := #[92, 34] }, .string { data := #[10] }, .string { data := #[92, 110] }, .string { data := #[9] }, .string { data := #[92, 116] }] 9)) (k0 0) (k0 1) (k0 2) (k0 3) (k0 4) (k0 5) (k0 6) (k0 7)
  rw [hz] at key1
  go_enter Tryz.func31, Tryz.ntmps31
  go_wp2_with (first | (go_at_call 57; refine key1.mono ?_; rintro e w2 ⟨rfl, hb2, cap, rest, g1, g2⟩) | (go_at_call 58; refine (replace_in (w.heap.size + 1 + 1) (w.heap.size + 1) cap w.heap.size rest s hs hp _ (by omega) (by omega) g1 g2).mono ?_; rintro e w3 ⟨rfl, hb3⟩))
  go_ret
  exact ⟨by simp, (hA.trans (hb2.mono (by omega))).trans hb3⟩
end Go.Proofs.Quo
namespace Go.AI
def quB (b : UInt8) : Bool := Bool.not (Nat.beq b.toNat 9) && (Bool.not (Nat.beq b.toNat 10) && (Bool.not (Nat.beq b.toNat 34) && Bool.not (Nat.beq b.toNat 92)))
def quL : List UInt8 → Bool
  | [] => true
  | b :: l => quB b && quL l
noncomputable def SQ (fid : Nat) : Oracle := fun f args objs => bif Nat.beq f fid then (match args, objs with
  | [.v (.c (.p (.str s)))], [] => bif Nat.ble (lenF s) 31 && quL s then some (.v (.c (.p (.str ([34] ++ s ++ [34])))), []) else none
  | _, _ => none) else none
theorem quL_at : ∀ (l : List UInt8), quL l = true → ∀ (j : Nat) (h : j < l.length), quB l[j] = true
  | b :: l, h, 0, _ => by rw [quL, Bool.and_eq_true] at h; exact h.1
  | b :: l, h, j + 1, hj => by rw [quL, Bool.and_eq_true] at h; exact quL_at l h.2 j (by simpa using hj)
end Go.AI
namespace Go.Proofs
open Go Go.RowKit Go.AI
theorem plain_of {b : UInt8} (h : quB b = true) : Quo.plain b = true := by
  simp only [quB, Bool.and_eq_true, Bool.not_eq_true', beq_dec, decide_eq_false_iff_not] at h
  obtain ⟨h1, h2, h3, h4⟩ := h
  simp only [Quo.plain, Bool.and_eq_true, bne_iff_ne, ne_eq]
  exact ⟨⟨⟨fun e => h1 (by rw [e]; rfl), fun e => h2 (by rw [e]; rfl)⟩, fun e => h3 (by rw [e]; rfl)⟩, fun e => h4 (by rw [e]; rfl)⟩
theorem quote_sound [Sym] {G : Nat → Option (List PVal)} : FSound Tryz.prog G (SQ 31) := by
  intro f args objs v objs' e
  unfold SQ at e
  rw [beq_dec, Bool.cond_decide] at e
  split at e
  · rename_i hf
    subst hf
    split at e
    · rename_i s
      rw [lenF_eq] at e
      cases hc : (Nat.ble s.length 31 && quL s) with
      | false => rw [hc] at e; cases e
      | true =>
        rw [hc] at e
        rw [Bool.and_eq_true] at hc
        have hl := Nat.le_of_ble_eq_true hc.1
        cases e
        refine ⟨⟨_, Tryz.func31, by kernel_rfl, of_decide_eq_true (by kernel_rfl)⟩, fun ρ I w avs hG hW ha hown => ?_⟩
        obtain ⟨l⟩ := avs
        match l, ha with
        | [x], ⟨hx1, _⟩ =>
          cases hx1 with | p _ _ hx1 => cases hx1 with | str _ b hb =>
          subst hb
          have hs : b.size < 32 := by
            have : b.size = b.data.toList.length := by rw [Array.length_toList]; rfl
            omega
          refine Calls.mono (Quo.quote_in b hs (fun j hj => ?_) w) fun e w' ⟨e1, e2⟩ => ?_
          · have hj' : j < b.data.toList.length := by rw [Array.length_toList]; exact hj
            have := quL_at _ hc.2 j hj'
            rw [Array.getElem_toList] at this
            exact plain_of this
          · obtain ⟨r1, r2⟩ := below_rel hW e2
            refine ⟨_, ρ, I, e1, ?_, r1, r2, hown⟩
            refine .p _ _ (.str _ _ ?_)
            simp [ByteArray.data_append]
    · cases e
  · cases e
end Go.Proofs
namespace Go.Proofs.YtiahgnkffnokfaaGreatDoor.Ab
open Go Go.AI
noncomputable def SLay : Oracle := SQ 31
theorem SLay_sound [Sym] {G : Nat → Option (List PVal)} (_ : Tryz.prog.follows .mixedOrders = true) : FSound Tryz.prog G SLay := quote_sound
end Go.Proofs.YtiahgnkffnokfaaGreatDoor.Ab
